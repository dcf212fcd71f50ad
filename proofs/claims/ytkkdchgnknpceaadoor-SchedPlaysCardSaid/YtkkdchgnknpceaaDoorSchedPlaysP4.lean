/- SchedPlays: a part of the functions that it reaches, walked one by one. Walks written by a program of mine. -/
import Derived.Test.YtkkdchgnknpceaaDoorSchedPlaysP3
import Derived.KernelRfl
import Derived.Test.YtkkdchgnknpceaaDoorProg
import Derived.Test.YtkkdchgnknpceaaDoorRows
import Derived.Test.YtkkdchgnknpceaaDoorTie
import Derived.Test.YtkkdchgnknpceaaDoorCards
import Derived.SevenTiedAt
import Derived.LaidMore
section
namespace Go.Proofs.YtkkdchgnknpceaaDoor
open Go Go.Sl
set_option linter.unusedVariables false
set_option linter.unusedSimpArgs false
set_option maxRecDepth 4000
variable {B : Nat} {K : Asrt B}
theorem arr_67 : arrOf Tryd.prog 67 = some (16, 6) := by kernel_rfl
theorem en_66 : Go.Proofs.Enters Tryd.prog 66 := Go.Proofs.enters_of Tryd.func66 (by kernel_rfl) rfl
theorem en_87 : Go.Proofs.Enters Tryd.prog 87 := Go.Proofs.enters_of Tryd.func87 (by kernel_rfl) rfl
theorem en_99 : Go.Proofs.Enters Tryd.prog 99 := Go.Proofs.enters_of Tryd.func99 (by kernel_rfl) rfl
theorem fld_66_0 : fldOff Tryd.prog 66 0 = some 0 := by kernel_rfl
theorem fld_66_4 : fldOff Tryd.prog 66 4 = some 4 := by kernel_rfl
theorem fld_66_5 : fldOff Tryd.prog 66 5 = some 5 := by kernel_rfl
theorem fld_69_0 : fldOff Tryd.prog 69 0 = some 0 := by kernel_rfl
theorem fld_69_1 : fldOff Tryd.prog 69 1 = some 96 := by kernel_rfl
theorem tk_69 : tyK Tryd.prog 69 = some (true, 105) := by kernel_rfl
theorem ub_4 : Tryd.prog.underlying 4 = some .bool := by kernel_rfl

/-- The document's jobs. -/
structure Sr where
  jf : Nat → JC
  lv : Nat → Bool
  tab : Nat → Int
  now : Int
abbrev encSj (p : Bool × JC) : List Value := [.bool p.1, .int .i64 p.2.rel, .int .i64 p.2.dl, .int .i64 p.2.cost, .int .i64 p.2.done, .slice p.2.secs.oad p.2.secs.l.length p.2.secs.c]
theorem encSj_len : ∀ p, (encSj p).length = 6 := fun _ => rfl
def pj (s : Sr) (i : Nat) : Bool × JC := (s.lv i, s.jf i)
def sjL (f : Nat → Bool × JC) : List Value := ((List.range 16).map f).flatMap encSj
theorem sjL_len (f : Nat → Bool × JC) : (sjL f).length = 96 := by unfold sjL; rw [flat_len encSj_len]; simp
def srC (s : Sr) : List Value := sjL (pj s) ++ (rowI 8 s.tab ++ [.int .i64 s.now])
theorem sr_len (s : Sr) : (srC s).length = 105 := by unfold srC; rw [len_app, len_app, sjL_len, rowF_len]; rfl
theorem sr_lt (s : Sr) {k : Nat} (h : k < 105) : Nat.blt k (srC s).length = true := by rw [sr_len]; simp; omega
theorem sr_fld (s : Sr) {i k : Nat} {v : Value} (hi : i < 16) (h : (encSj (pj s i))[k]? = some v) : (srC s)[0 + i * 6 + k]? = some v := by
  have hk : k < 6 := by have := (List.getElem?_eq_some_iff.1 h).1; rw [encSj_len] at this; exact this
  rw [Nat.zero_add]
  refine app_get1 ?_
  unfold sjL
  rw [flat_get encSj_len _ i k (pj s i) (mapr_get hi) hk]; exact h
theorem sr_job (s : Sr) {i : Nat} (hi : i < 16) : ((srC s).drop (0 + i * 6)).take 6 = encSj (pj s i) := by
  have hl := sjL_len (pj s)
  unfold srC
  rw [Nat.zero_add, List.drop_append_of_le_length (by omega), List.take_append_of_le_length (by rw [List.length_drop]; omega)]
  unfold sjL
  exact flat_chunk encSj_len _ i _ (mapr_get hi)
theorem sr_now (s : Sr) : (srC s)[104]? = some (.int .i64 s.now) := app_get2 (n := 96) (k := 8) (sjL_len _) (app_get2 (n := 8) (k := 0) (rowF_len _ _ _) rfl)
theorem sr_tab (s : Sr) {r : Nat} (h : r < 8) : (srC s)[96 + r * 1]? = some (.int .i64 (s.tab r)) := by
  rw [Nat.mul_one]
  exact app_get2 (n := 96) (k := r) (sjL_len _) (app_get1 (rowF_get h))
theorem sr_setnow (s : Sr) (v : Int) : (srC s).set 104 (.int .i64 v) = srC { s with now := v } := by
  unfold srC
  rw [show (104 : Nat) = 96 + 8 from rfl, app_set2 (sjL_len _), show (8 : Nat) = 8 + 0 from rfl, app_set2 (rowF_len _ _ _)]; rfl
theorem sr_settab (s : Sr) {r : Nat} (h : r < 8) (v : Int) : (srC s).set (96 + r * 1) (.int .i64 v) = srC { s with tab := upd s.tab r v } := by
  unfold srC
  rw [Nat.mul_one, app_set2 (sjL_len _), app_set1 (by rw [rowF_len]; exact h)]
  show _ ++ ((rowF (fun m => Value.int .i64 m) 8 s.tab).set r (.int .i64 v) ++ _) = _
  rw [rowF_set (c := fun m => Value.int .i64 m) (v := v)]; rfl
theorem pj_upd (s : Sr) (i : Nat) (b : Bool) (j : JC) : pj { s with jf := upd s.jf i j, lv := upd s.lv i b } = upd (pj s) i (b, j) := by
  funext k
  by_cases e : k = i
  · subst e; rw [upd_same]; show (upd s.lv k b k, upd s.jf k j k) = _; rw [upd_same, upd_same]
  · rw [upd_ne _ _ e]; show (upd s.lv i b k, upd s.jf i j k) = _; rw [upd_ne _ _ e, upd_ne _ _ e]; rfl
theorem sr_stsjob (s : Sr) {i : Nat} (hi : i < 16) (b : Bool) (j : JC) : (srC s).take (0 + i * 6) ++ encSj (b, j) ++ (srC s).drop (0 + i * 6 + 6) = srC { s with jf := upd s.jf i j, lv := upd s.lv i b } := by
  have hl := sjL_len (pj s)
  have hle : i * 6 + 6 ≤ 96 := by omega
  unfold srC
  rw [pj_upd, Nat.zero_add, List.take_append_of_le_length (by omega), List.drop_append_of_le_length (by omega)]
  have := flat_setN encSj_len ((List.range 16).map (pj s)) i (pj s i) (b, j) (mapr_get (n := 16) hi)
  rw [mapr_set] at this
  unfold sjL
  rw [← List.append_assoc, this]
/-- What a job holds. -/
abbrev Sr.H (s : Sr) (i : Nat) : Int := hold (s.jf i).secs.l (s.jf i).done
structure SrOk (s : Sr) : Prop where
  own : ∀ i, i < 16 → (s.jf i).secs.Own
  h8 : ∀ i, i < 16 → s.H i < 8
def goesR (s : Sr) (i : Nat) : Int := if 0 ≤ s.H i ∧ s.tab (s.H i).toNat < (i : Int) then s.tab (s.H i).toNat else i
def aheadR (s : Sr) (i k : Nat) : Bool := if goesR s i = goesR s k then (if decide (s.H i ≥ 0) = decide (s.H k ≥ 0) then decide ((i : Int) < k) else decide (s.H i ≥ 0)) else decide (goesR s i < goesR s k)
def bestR (s : Sr) : Nat → Int
  | 0 => -1
  | n + 1 => if s.lv n = true ∧ (bestR s n < 0 ∨ aheadR s n (bestR s n).toNat = true) then (n : Int) else bestR s n
abbrev nextR (s : Sr) : Int := bestR s 16
theorem best_s {s : Sr} {n : Nat} : bestR s (n + 1) = if s.lv n = true ∧ (bestR s n < 0 ∨ aheadR s n (bestR s n).toNat = true) then (n : Int) else bestR s n := rfl
theorem best_in (s : Sr) : ∀ n, -1 ≤ bestR s n ∧ bestR s n < n
  | 0 => by unfold bestR; omega
  | n + 1 => by have := best_in s n; rw [best_s]; split <;> omega
theorem best_live (s : Sr) : ∀ n, 0 ≤ bestR s n → s.lv (bestR s n).toNat = true
  | 0, h => by unfold bestR at h; omega
  | n + 1, h => by
    rw [best_s] at h ⊢
    split
    · rename_i c; rw [Int.toNat_natCast]; exact c.1
    · rename_i c; rw [if_neg c] at h; exact best_live s n h
theorem ahead_g {s : Sr} {i k : Nat} (h : goesR s i ≠ goesR s k) : aheadR s i k = decide (goesR s i < goesR s k) := by unfold aheadR; rw [if_neg h]
theorem ahead_h {s : Sr} {i k : Nat} (h : goesR s i = goesR s k) (g : decide (s.H i ≥ 0) ≠ decide (s.H k ≥ 0)) : aheadR s i k = decide (s.H i ≥ 0) := by unfold aheadR; rw [if_pos h, if_neg g]
theorem ahead_i {s : Sr} {i k : Nat} (h : goesR s i = goesR s k) (g : decide (s.H i ≥ 0) = decide (s.H k ≥ 0)) : aheadR s i k = decide ((i : Int) < k) := by unfold aheadR; rw [if_pos h, if_pos g]

theorem rhold {Kj : Asrt B} (a : Arr Sec) (d : Int) (ha : Rd Kj a.ad (a.l.flatMap encS)) : Ctr Tryd.prog B 66 [.slice a.oad a.l.length a.c, .int .i64 d, .bool false] [Kj] (fun v S => v = .int .i64 (hold a.l d) ∧ S = [Kj]) := rholds a ha d false

theorem rtake {Kj : Asrt B} (a : Arr Sec) (d : Int) (ha : Rd Kj a.ad (a.l.flatMap encS)) : Ctr Tryd.prog B 66 [.slice a.oad a.l.length a.c, .int .i64 d, .bool true] [Kj] (fun v S => v = .int .i64 (takeR a.l d) ∧ S = [Kj]) := rholds a ha d true

theorem rgoes (s : Sr) (ho : SrOk s) (i : Nat) (hi : i < 16) : Ctr Tryd.prog B 99 [.agg (srC s).toArray, .int .i64 (i : Int)] [many 16 (rowS s.jf)] (fun v S => v = .int .i64 (goesR s i) ∧ S = [many 16 (rowS s.jf)]) := by
  refine Ctr_of_X (N := 32) Tryd.func99 rfl (by simp) rfl ?_
  intro w0 D0
  refine X_seq ?_
  refine X_region ?_
  refine XL_box (cs := srC s) .no rfl rfl rfl (fun b1 => ?_)
  refine XL_det .no (D_pure rfl) rfl ?_
  refine XL_then ?_
  refine X_seq ?_
  refine X_draw [blk b1 (srC s) 69] mixed (by repeat first | with_reducible exact .nil _ | with_reducible exact .here _ _ | with_reducible exact Take.self _ | with_reducible apply Take.cons | with_reducible apply Out.there | with_reducible apply Take.skip | with_reducible exact Take.pre _ _ | with_reducible apply Out.app) ?_
  refine XA_detp 0 rfl (by kernel_rfl) (by kernel_rfl) (by kernel_rfl) (fun _ _ _ _ h => h) .no (D_pureP rfl) rfl ?_
  refine XA_detp 1 rfl (by kernel_rfl) (by kernel_rfl) (by kernel_rfl) (fun _ _ _ _ h => h) .no (D_fldP rfl fld_69_0 (o' := 0) rfl) rfl ?_
  refine XA_detp 2 rfl (by kernel_rfl) (by kernel_rfl) (by kernel_rfl) (fun _ _ _ _ h => h) .no (D_idxAP rfl rfl arr_67 rfl (by omega) rfl) rfl ?_
  refine XA_detp 3 rfl (by kernel_rfl) (by kernel_rfl) (by kernel_rfl) (fun _ _ _ _ h => h) .no (D_fldP rfl fld_66_5 (o' := 0 + i * 6 + 5) rfl) rfl ?_
  refine XA_det 4 rfl (by kernel_rfl) (by kernel_rfl) (by kernel_rfl) (by kernel_rfl) (fun _ _ _ _ h => h) .no (D_ldo (v := .slice (s.jf i).secs.oad (s.jf i).secs.l.length (s.jf i).secs.c) rfl (by repeat first | with_reducible exact .here _ _ | with_reducible apply Out.there | with_reducible apply Out.app) tk_39 (sr_fld _ hi rfl)) rfl ?_
  refine XA_detp 5 rfl (by kernel_rfl) (by kernel_rfl) (by kernel_rfl) (fun _ _ _ _ h => h) .no (D_pureP rfl) rfl ?_
  refine XA_detp 6 rfl (by kernel_rfl) (by kernel_rfl) (by kernel_rfl) (fun _ _ _ _ h => h) .no (D_fldP rfl fld_69_0 (o' := 0) rfl) rfl ?_
  refine XA_detp 7 rfl (by kernel_rfl) (by kernel_rfl) (by kernel_rfl) (fun _ _ _ _ h => h) .no (D_idxAP rfl rfl arr_67 rfl (by omega) rfl) rfl ?_
  refine XA_detp 8 rfl (by kernel_rfl) (by kernel_rfl) (by kernel_rfl) (fun _ _ _ _ h => h) .no (D_fldP rfl fld_66_4 (o' := 0 + i * 6 + 4) rfl) rfl ?_
  refine XA_det 9 rfl (by kernel_rfl) (by kernel_rfl) (by kernel_rfl) (by kernel_rfl) (fun _ _ _ _ h => h) .no (D_ldo (v := .int .i64 (s.jf i).done) rfl (by repeat first | with_reducible exact .here _ _ | with_reducible apply Out.there | with_reducible apply Out.app) tk_3 (sr_fld _ hi rfl)) rfl ?_
  refine XA_one 10 (by kernel_rfl) ?_
  refine XO_callk rfl .no en_66 rfl (by repeat first | with_reducible exact .nil _ | with_reducible apply App.cons) (rhold (Kj := many 16 (rowS s.jf)) (s.jf i).secs (s.jf i).done (Rd_many hi (Rd_own (ho.own _ hi) rfl))) (by repeat first | with_reducible exact .nil _ | with_reducible exact .here _ _ | with_reducible exact Take.self _ | with_reducible apply Take.cons | with_reducible apply Out.there | with_reducible apply Take.skip | with_reducible exact Take.pre _ _ | with_reducible apply Out.app) rfl ?_
  refine XA_detp 11 rfl (by kernel_rfl) (by kernel_rfl) (by kernel_rfl) (fun _ _ _ _ h => h) .no (D_pureP rfl) rfl ?_
  refine XA_done (by kernel_rfl) ?_
  try simp only [List.cons_append, List.nil_append, List.append_nil]
  refine thenX_normal ?_
  refine X_seq ?_
  refine X_seq ?_
  refine X_region ?_
  refine XL_det .no (D_pure rfl) rfl ?_
  refine XL_det .no (D_pure rfl) rfl ?_
  refine XL_det .no (D_pure rfl) rfl ?_
  refine XL_split (t := 19) rfl (fun h1 => ?_) (fun h1 => ?_)
  · try simp only [decide_eq_true_eq, decide_eq_false_iff_not, Bool.not_eq_true', Bool.not_eq_false', beq_iff_eq, bne_iff_ne, beq_eq_false_iff_ne, bne_eq_false_iff_eq, Int.not_lt, Int.not_le, gt_iff_lt, ge_iff_le, ne_eq] at h1
    have h1 : 0 ≤ s.H i := h1
    obtain ⟨r, hr⟩ := Int.eq_ofNat_of_zero_le h1
    have hr8 : r < 8 := by have := ho.h8 i hi; omega
    refine XL_det (.yes 19 rfl rfl rfl) (D_pure rfl) rfl ?_
    refine XL_det (.yes 19 rfl rfl rfl) (D_fld rfl fld_69_1 (o' := 96) rfl) rfl ?_
    refine XL_det (.yes 19 rfl rfl rfl) (D_idxA rfl rfl arr_33 hr (by omega) rfl) rfl ?_
    refine XL_det (.yes 19 rfl rfl rfl) (D_ldo rfl (by repeat first | with_reducible exact .here _ _ | with_reducible apply Out.there | with_reducible apply Out.app) tk_3 (sr_tab s hr8)) rfl ?_
    refine XL_det (.yes 19 rfl rfl rfl) (D_pure rfl) rfl ?_
    refine XL_det (.yes 19 rfl rfl rfl) (D_pure rfl) rfl ?_
    refine XL_det .no (D_pure rfl) rfl ?_
    refine XL_then ?_
    refine X_cond rfl (fun h2 => ?_) (fun h2 => ?_)
    · try simp only [decide_eq_true_eq, decide_eq_false_iff_not, Bool.not_eq_true', Bool.not_eq_false', beq_iff_eq, bne_iff_ne, beq_eq_false_iff_ne, bne_eq_false_iff_eq, Int.not_lt, Int.not_le, gt_iff_lt, ge_iff_le, ne_eq] at h2
      refine X_seq ?_
      refine X_region ?_
      refine XL_det .no (D_pure rfl) rfl ?_
      refine XL_det .no (D_fld rfl fld_69_1 (o' := 96) rfl) rfl ?_
      refine XL_det .no (D_idxA rfl rfl arr_33 hr (by omega) rfl) rfl ?_
      refine XL_det .no (D_ldo rfl (by repeat first | with_reducible exact .here _ _ | with_reducible apply Out.there | with_reducible apply Out.app) tk_3 (sr_tab s hr8)) rfl ?_
      refine XL_det .no (D_pure rfl) rfl ?_
      refine XL_then ?_
      refine X_ret ?_
      refine thenX_ret ?_
      refine ret_ok (.nil _) (res_tmp rfl rfl) ?_
      exact ⟨_, ⟨by unfold goesR; rw [if_pos ⟨h1, by rw [hr, Int.toNat_natCast]; exact h2⟩, hr, Int.toNat_natCast], rfl⟩, _, (by repeat first | with_reducible exact .nil _ | with_reducible exact .here _ _ | with_reducible exact Take.self _ | with_reducible apply Take.cons | with_reducible apply Out.there | with_reducible apply Take.skip | with_reducible exact Take.pre _ _ | with_reducible apply Out.app)⟩
    · try simp only [decide_eq_true_eq, decide_eq_false_iff_not, Bool.not_eq_true', Bool.not_eq_false', beq_iff_eq, bne_iff_ne, beq_eq_false_iff_ne, bne_eq_false_iff_eq, Int.not_lt, Int.not_le, gt_iff_lt, ge_iff_le, ne_eq] at h2
      refine X_skip ?_
      refine thenX_normal ?_
      refine X_seq ?_
      refine X_region ?_
      refine XL_det .no (D_pure rfl) rfl ?_
      refine XL_det .no (D_pure rfl) rfl ?_
      refine XL_then ?_
      refine X_ret ?_
      refine ret_ok (.nil _) (res_tmp rfl rfl) ?_
      exact ⟨_, ⟨by unfold goesR; rw [if_neg (fun q => absurd q.2 (by rw [hr, Int.toNat_natCast]; omega))], rfl⟩, _, (by repeat first | with_reducible exact .nil _ | with_reducible exact .here _ _ | with_reducible exact Take.self _ | with_reducible apply Take.cons | with_reducible apply Out.there | with_reducible apply Take.skip | with_reducible exact Take.pre _ _ | with_reducible apply Out.app)⟩
  · try simp only [decide_eq_true_eq, decide_eq_false_iff_not, Bool.not_eq_true', Bool.not_eq_false', beq_iff_eq, bne_iff_ne, beq_eq_false_iff_ne, bne_eq_false_iff_eq, Int.not_lt, Int.not_le, gt_iff_lt, ge_iff_le, ne_eq] at h1
    refine XL_skip 19 rfl rfl rfl rfl rfl ?_
    refine XL_skip 19 rfl rfl rfl rfl rfl ?_
    refine XL_skip 19 rfl rfl rfl rfl rfl ?_
    refine XL_skip 19 rfl rfl rfl rfl rfl ?_
    refine XL_skip 19 rfl rfl rfl rfl rfl ?_
    refine XL_skip 19 rfl rfl rfl rfl rfl ?_
    refine XL_det .no (D_pure rfl) rfl ?_
    refine XL_then ?_
    refine X_cond_f rfl rfl ?_
    refine X_skip ?_
    refine thenX_normal ?_
    refine X_seq ?_
    refine X_region ?_
    refine XL_det .no (D_pure rfl) rfl ?_
    refine XL_det .no (D_pure rfl) rfl ?_
    refine XL_then ?_
    refine X_ret ?_
    refine ret_ok (.nil _) (res_tmp rfl rfl) ?_
    exact ⟨_, ⟨by unfold goesR; rw [if_neg (fun q => absurd q.1 (Int.not_le.2 h1))], rfl⟩, _, (by repeat first | with_reducible exact .nil _ | with_reducible exact .here _ _ | with_reducible exact Take.self _ | with_reducible apply Take.cons | with_reducible apply Out.there | with_reducible apply Take.skip | with_reducible exact Take.pre _ _ | with_reducible apply Out.app)⟩

theorem rahead (s : Sr) (ho : SrOk s) (i k : Nat) (hi : i < 16) (hk : k < 16) : Ctr Tryd.prog B 87 [.agg (srC s).toArray, .int .i64 (i : Int), .int .i64 (k : Int)] [many 16 (rowS s.jf)] (fun v S => v = .bool (aheadR s i k) ∧ S = [many 16 (rowS s.jf)]) := by
  refine Ctr_of_X (N := 54) Tryd.func87 rfl (by simp) rfl ?_
  intro w0 D0
  refine X_seq ?_
  refine X_region ?_
  refine XL_box (cs := srC s) .no rfl rfl rfl (fun b1 => ?_)
  refine XL_det .no (D_pure rfl) rfl ?_
  refine XL_then ?_
  refine X_seq ?_
  refine X_draw [blk b1 (srC s) 69] mixed (by repeat first | with_reducible exact .nil _ | with_reducible exact .here _ _ | with_reducible exact Take.self _ | with_reducible apply Take.cons | with_reducible apply Out.there | with_reducible apply Take.skip | with_reducible exact Take.pre _ _ | with_reducible apply Out.app) ?_
  refine XA_det 0 rfl (by kernel_rfl) (by kernel_rfl) (by kernel_rfl) (by kernel_rfl) (fun _ _ _ _ h => h) .no (D_ldso (vs := srC s) rfl (by repeat first | with_reducible exact .here _ _ | with_reducible apply Out.there | with_reducible apply Out.app) tk_69 rfl (by rw [List.drop_zero, List.take_of_length_le (by rw [sr_len]; exact Nat.le_refl _)])) rfl ?_
  refine XA_detp 1 rfl (by kernel_rfl) (by kernel_rfl) (by kernel_rfl) (fun _ _ _ _ h => h) .no (D_pureP rfl) rfl ?_
  refine XA_det 3 rfl (by kernel_rfl) (by kernel_rfl) (by kernel_rfl) (by kernel_rfl) (fun _ _ _ _ h => h) .no (D_ldso (vs := srC s) rfl (by repeat first | with_reducible exact .here _ _ | with_reducible apply Out.there | with_reducible apply Out.app) tk_69 rfl (by rw [List.drop_zero, List.take_of_length_le (by rw [sr_len]; exact Nat.le_refl _)])) rfl ?_
  refine XA_detp 4 rfl (by kernel_rfl) (by kernel_rfl) (by kernel_rfl) (fun _ _ _ _ h => h) .no (D_pureP rfl) rfl ?_
  refine XA_one 2 (by kernel_rfl) ?_
  refine XO_callk rfl .no en_99 rfl (by repeat first | with_reducible exact .nil _ | with_reducible apply App.cons) (rgoes s ho i hi) (by repeat first | with_reducible exact .nil _ | with_reducible exact .here _ _ | with_reducible exact Take.self _ | with_reducible apply Take.cons | with_reducible apply Out.there | with_reducible apply Take.skip | with_reducible exact Take.pre _ _ | with_reducible apply Out.app) rfl ?_
  refine XA_one 5 (by kernel_rfl) ?_
  refine XO_callk rfl .no en_99 rfl (by repeat first | with_reducible exact .nil _ | with_reducible apply App.cons) (rgoes s ho k hk) (by repeat first | with_reducible exact .nil _ | with_reducible exact .here _ _ | with_reducible exact Take.self _ | with_reducible apply Take.cons | with_reducible apply Out.there | with_reducible apply Take.skip | with_reducible exact Take.pre _ _ | with_reducible apply Out.app) rfl ?_
  refine XA_detp 6 rfl (by kernel_rfl) (by kernel_rfl) (by kernel_rfl) (fun _ _ _ _ h => h) .no (D_pureP rfl) rfl ?_
  refine XA_detp 7 rfl (by kernel_rfl) (by kernel_rfl) (by kernel_rfl) (fun _ _ _ _ h => h) .no (D_pureP rfl) rfl ?_
  refine XA_done (by kernel_rfl) ?_
  try simp only [List.cons_append, List.nil_append, List.append_nil]
  refine thenX_normal ?_
  refine X_seq ?_
  refine X_seq ?_
  refine X_region ?_
  refine XL_det .no (D_pure rfl) rfl ?_
  refine XL_det .no (D_pure rfl) rfl ?_
  refine XL_det .no (D_pure rfl) rfl ?_
  refine XL_then ?_
  refine X_cond rfl (fun h1 => ?_) (fun h1 => ?_)
  · try simp only [decide_eq_true_eq, decide_eq_false_iff_not, Bool.not_eq_true', Bool.not_eq_false', beq_iff_eq, bne_iff_ne, beq_eq_false_iff_ne, bne_eq_false_iff_eq, Int.not_lt, Int.not_le, gt_iff_lt, ge_iff_le, ne_eq] at h1
    refine X_seq ?_
    refine X_region ?_
    refine XL_det .no (D_pure rfl) rfl ?_
    refine XL_det .no (D_pure rfl) rfl ?_
    refine XL_det .no (D_pure rfl) rfl ?_
    refine XL_det .no (D_pure rfl) rfl ?_
    refine XL_then ?_
    refine X_ret ?_
    refine thenX_ret ?_
    refine ret_ok (.nil _) (res_tmp rfl rfl) ?_
    exact ⟨_, ⟨by rw [ahead_g h1], rfl⟩, _, (by repeat first | with_reducible exact .nil _ | with_reducible exact .here _ _ | with_reducible exact Take.self _ | with_reducible apply Take.cons | with_reducible apply Out.there | with_reducible apply Take.skip | with_reducible exact Take.pre _ _ | with_reducible apply Out.app)⟩
  · try simp only [decide_eq_true_eq, decide_eq_false_iff_not, Bool.not_eq_true', Bool.not_eq_false', beq_iff_eq, bne_iff_ne, beq_eq_false_iff_ne, bne_eq_false_iff_eq, Int.not_lt, Int.not_le, gt_iff_lt, ge_iff_le, ne_eq] at h1
    refine X_skip ?_
    refine thenX_normal ?_
    refine X_seq ?_
    refine X_draw [blk b1 (srC s) 69] mixed (by repeat first | with_reducible exact .nil _ | with_reducible exact .here _ _ | with_reducible exact Take.self _ | with_reducible apply Take.cons | with_reducible apply Out.there | with_reducible apply Take.skip | with_reducible exact Take.pre _ _ | with_reducible apply Out.app) ?_
    refine XA_detp 0 rfl (by kernel_rfl) (by kernel_rfl) (by kernel_rfl) (fun _ _ _ _ h => h) .no (D_pureP rfl) rfl ?_
    refine XA_detp 1 rfl (by kernel_rfl) (by kernel_rfl) (by kernel_rfl) (fun _ _ _ _ h => h) .no (D_fldP rfl fld_69_0 (o' := 0) rfl) rfl ?_
    refine XA_detp 2 rfl (by kernel_rfl) (by kernel_rfl) (by kernel_rfl) (fun _ _ _ _ h => h) .no (D_idxAP rfl rfl arr_67 rfl (by omega) rfl) rfl ?_
    refine XA_detp 3 rfl (by kernel_rfl) (by kernel_rfl) (by kernel_rfl) (fun _ _ _ _ h => h) .no (D_fldP rfl fld_66_5 (o' := 0 + i * 6 + 5) rfl) rfl ?_
    refine XA_det 4 rfl (by kernel_rfl) (by kernel_rfl) (by kernel_rfl) (by kernel_rfl) (fun _ _ _ _ h => h) .no (D_ldo (v := .slice (s.jf i).secs.oad (s.jf i).secs.l.length (s.jf i).secs.c) rfl (by repeat first | with_reducible exact .here _ _ | with_reducible apply Out.there | with_reducible apply Out.app) tk_39 (sr_fld _ hi rfl)) rfl ?_
    refine XA_detp 5 rfl (by kernel_rfl) (by kernel_rfl) (by kernel_rfl) (fun _ _ _ _ h => h) .no (D_pureP rfl) rfl ?_
    refine XA_detp 6 rfl (by kernel_rfl) (by kernel_rfl) (by kernel_rfl) (fun _ _ _ _ h => h) .no (D_fldP rfl fld_69_0 (o' := 0) rfl) rfl ?_
    refine XA_detp 7 rfl (by kernel_rfl) (by kernel_rfl) (by kernel_rfl) (fun _ _ _ _ h => h) .no (D_idxAP rfl rfl arr_67 rfl (by omega) rfl) rfl ?_
    refine XA_detp 8 rfl (by kernel_rfl) (by kernel_rfl) (by kernel_rfl) (fun _ _ _ _ h => h) .no (D_fldP rfl fld_66_4 (o' := 0 + i * 6 + 4) rfl) rfl ?_
    refine XA_det 9 rfl (by kernel_rfl) (by kernel_rfl) (by kernel_rfl) (by kernel_rfl) (fun _ _ _ _ h => h) .no (D_ldo (v := .int .i64 (s.jf i).done) rfl (by repeat first | with_reducible exact .here _ _ | with_reducible apply Out.there | with_reducible apply Out.app) tk_3 (sr_fld _ hi rfl)) rfl ?_
    refine XA_one 10 (by kernel_rfl) ?_
    refine XO_callk rfl .no en_66 rfl (by repeat first | with_reducible exact .nil _ | with_reducible apply App.cons) (rhold (Kj := many 16 (rowS s.jf)) (s.jf i).secs (s.jf i).done (Rd_many hi (Rd_own (ho.own _ hi) rfl))) (by repeat first | with_reducible exact .nil _ | with_reducible exact .here _ _ | with_reducible exact Take.self _ | with_reducible apply Take.cons | with_reducible apply Out.there | with_reducible apply Take.skip | with_reducible exact Take.pre _ _ | with_reducible apply Out.app) rfl ?_
    refine XA_detp 11 rfl (by kernel_rfl) (by kernel_rfl) (by kernel_rfl) (fun _ _ _ _ h => h) .no (D_pureP rfl) rfl ?_
    refine XA_detp 12 rfl (by kernel_rfl) (by kernel_rfl) (by kernel_rfl) (fun _ _ _ _ h => h) .no (D_pureP rfl) rfl ?_
    refine XA_done (by kernel_rfl) ?_
    try simp only [List.cons_append, List.nil_append, List.append_nil]
    refine thenX_normal ?_
    refine X_seq ?_
    refine X_draw [blk b1 (srC s) 69] mixed (by repeat first | with_reducible exact .nil _ | with_reducible exact .here _ _ | with_reducible exact Take.self _ | with_reducible apply Take.cons | with_reducible apply Out.there | with_reducible apply Take.skip | with_reducible exact Take.pre _ _ | with_reducible apply Out.app) ?_
    refine XA_detp 0 rfl (by kernel_rfl) (by kernel_rfl) (by kernel_rfl) (fun _ _ _ _ h => h) .no (D_pureP rfl) rfl ?_
    refine XA_detp 1 rfl (by kernel_rfl) (by kernel_rfl) (by kernel_rfl) (fun _ _ _ _ h => h) .no (D_fldP rfl fld_69_0 (o' := 0) rfl) rfl ?_
    refine XA_detp 2 rfl (by kernel_rfl) (by kernel_rfl) (by kernel_rfl) (fun _ _ _ _ h => h) .no (D_idxAP rfl rfl arr_67 rfl (by omega) rfl) rfl ?_
    refine XA_detp 3 rfl (by kernel_rfl) (by kernel_rfl) (by kernel_rfl) (fun _ _ _ _ h => h) .no (D_fldP rfl fld_66_5 (o' := 0 + k * 6 + 5) rfl) rfl ?_
    refine XA_det 4 rfl (by kernel_rfl) (by kernel_rfl) (by kernel_rfl) (by kernel_rfl) (fun _ _ _ _ h => h) .no (D_ldo (v := .slice (s.jf k).secs.oad (s.jf k).secs.l.length (s.jf k).secs.c) rfl (by repeat first | with_reducible exact .here _ _ | with_reducible apply Out.there | with_reducible apply Out.app) tk_39 (sr_fld _ hk rfl)) rfl ?_
    refine XA_detp 5 rfl (by kernel_rfl) (by kernel_rfl) (by kernel_rfl) (fun _ _ _ _ h => h) .no (D_pureP rfl) rfl ?_
    refine XA_detp 6 rfl (by kernel_rfl) (by kernel_rfl) (by kernel_rfl) (fun _ _ _ _ h => h) .no (D_fldP rfl fld_69_0 (o' := 0) rfl) rfl ?_
    refine XA_detp 7 rfl (by kernel_rfl) (by kernel_rfl) (by kernel_rfl) (fun _ _ _ _ h => h) .no (D_idxAP rfl rfl arr_67 rfl (by omega) rfl) rfl ?_
    refine XA_detp 8 rfl (by kernel_rfl) (by kernel_rfl) (by kernel_rfl) (fun _ _ _ _ h => h) .no (D_fldP rfl fld_66_4 (o' := 0 + k * 6 + 4) rfl) rfl ?_
    refine XA_det 9 rfl (by kernel_rfl) (by kernel_rfl) (by kernel_rfl) (by kernel_rfl) (fun _ _ _ _ h => h) .no (D_ldo (v := .int .i64 (s.jf k).done) rfl (by repeat first | with_reducible exact .here _ _ | with_reducible apply Out.there | with_reducible apply Out.app) tk_3 (sr_fld _ hk rfl)) rfl ?_
    refine XA_one 10 (by kernel_rfl) ?_
    refine XO_callk rfl .no en_66 rfl (by repeat first | with_reducible exact .nil _ | with_reducible apply App.cons) (rhold (Kj := many 16 (rowS s.jf)) (s.jf k).secs (s.jf k).done (Rd_many hk (Rd_own (ho.own _ hk) rfl))) (by repeat first | with_reducible exact .nil _ | with_reducible exact .here _ _ | with_reducible exact Take.self _ | with_reducible apply Take.cons | with_reducible apply Out.there | with_reducible apply Take.skip | with_reducible exact Take.pre _ _ | with_reducible apply Out.app) rfl ?_
    refine XA_detp 11 rfl (by kernel_rfl) (by kernel_rfl) (by kernel_rfl) (fun _ _ _ _ h => h) .no (D_pureP rfl) rfl ?_
    refine XA_detp 12 rfl (by kernel_rfl) (by kernel_rfl) (by kernel_rfl) (fun _ _ _ _ h => h) .no (D_pureP rfl) rfl ?_
    refine XA_done (by kernel_rfl) ?_
    try simp only [List.cons_append, List.nil_append, List.append_nil]
    refine thenX_normal ?_
    refine X_seq ?_
    refine X_seq ?_
    refine X_region ?_
    refine XL_det .no (D_pure rfl) rfl ?_
    refine XL_det .no (D_pure rfl) rfl ?_
    refine XL_det .no (D_eqb rfl rfl ub_4 rfl) rfl ?_
    refine XL_then ?_
    refine X_cond rfl (fun h2 => ?_) (fun h2 => ?_)
    · try simp only [decide_eq_true_eq, decide_eq_false_iff_not, Bool.not_eq_true', Bool.not_eq_false', beq_iff_eq, bne_iff_ne, beq_eq_false_iff_ne, bne_eq_false_iff_eq, Int.not_lt, Int.not_le, gt_iff_lt, ge_iff_le, ne_eq] at h2
      refine X_seq ?_
      refine X_region ?_
      refine XL_det .no (D_pure rfl) rfl ?_
      refine XL_det .no (D_pure rfl) rfl ?_
      refine XL_then ?_
      refine X_ret ?_
      refine thenX_ret ?_
      refine ret_ok (.nil _) (res_tmp rfl rfl) ?_
      exact ⟨_, ⟨by rw [ahead_h (by omega) (by simpa using h2)], rfl⟩, _, (by repeat first | with_reducible exact .nil _ | with_reducible exact .here _ _ | with_reducible exact Take.self _ | with_reducible apply Take.cons | with_reducible apply Out.there | with_reducible apply Take.skip | with_reducible exact Take.pre _ _ | with_reducible apply Out.app)⟩
    · try simp only [decide_eq_true_eq, decide_eq_false_iff_not, Bool.not_eq_true', Bool.not_eq_false', beq_iff_eq, bne_iff_ne, beq_eq_false_iff_ne, bne_eq_false_iff_eq, Int.not_lt, Int.not_le, gt_iff_lt, ge_iff_le, ne_eq] at h2
      refine X_skip ?_
      refine thenX_normal ?_
      refine X_seq ?_
      refine X_region ?_
      refine XL_det .no (D_pure rfl) rfl ?_
      refine XL_det .no (D_pure rfl) rfl ?_
      refine XL_det .no (D_pure rfl) rfl ?_
      refine XL_det .no (D_pure rfl) rfl ?_
      refine XL_then ?_
      refine X_ret ?_
      refine ret_ok (.nil _) (res_tmp rfl rfl) ?_
      exact ⟨_, ⟨by rw [ahead_i (by omega) (by simpa using h2)], rfl⟩, _, (by repeat first | with_reducible exact .nil _ | with_reducible exact .here _ _ | with_reducible exact Take.self _ | with_reducible apply Take.cons | with_reducible apply Out.there | with_reducible apply Take.skip | with_reducible exact Take.pre _ _ | with_reducible apply Out.app)⟩

theorem rnext (s : Sr) (ho : SrOk s) : Ctr Tryd.prog B 65 [.agg (srC s).toArray] [many 16 (rowS s.jf)] (fun v S => v = .int .i64 (nextR s) ∧ S = [many 16 (rowS s.jf)]) := by
  refine Ctr_of_X (N := 26) Tryd.func65 rfl (by simp) rfl ?_
  intro w0 D0
  refine X_seq ?_
  refine X_region ?_
  refine XL_box (cs := srC s) .no rfl rfl rfl (fun b1 => ?_)
  refine XL_det .no (D_pure rfl) rfl ?_
  refine XL_then ?_
  refine X_seq ?_
  refine X_region ?_
  refine XL_det .no (D_pure rfl) rfl ?_
  refine XL_then ?_
  refine X_seq ?_
  refine X_seq ?_
  refine X_region ?_
  refine XL_det .no (D_pure rfl) rfl ?_
  refine XL_then ?_
  refine X_block ?_
  refine X_loop (α := Nat) (fun i => i ≤ 16) (fun i => [(4, .int .i64 (i : Int)), (3, .int .i64 (bestR s i)), (1, .pointer (some ⟨b1, 0, none⟩))]) (fun i => [blk b1 (srC s) 69, many 16 (rowS s.jf)]) (fun i => 16 - i) 0 ?_ (by refine ⟨?_, ?_, ?_, trivial⟩ <;> rfl) (by repeat first | with_reducible exact .nil _ | with_reducible exact .here _ _ | with_reducible exact Take.self _ | with_reducible apply Take.cons | with_reducible apply Out.there | with_reducible apply Take.skip | with_reducible exact Take.pre _ _ | with_reducible apply Out.app) ?_
  · omega
  · rintro i hi
    have hb := best_in s i
    refine X_seq ?_
    refine X_seq ?_
    refine X_region ?_
    refine XL_det .no (D_pure rfl) rfl ?_
    refine XL_det .no (D_pure rfl) rfl ?_
    refine XL_then ?_
    refine X_cond rfl (fun h1 => ?_) (fun h1 => ?_)
    · try simp only [decide_eq_true_eq, decide_eq_false_iff_not, Bool.not_eq_true', Bool.not_eq_false', beq_iff_eq, bne_iff_ne, beq_eq_false_iff_ne, bne_eq_false_iff_eq, Int.not_lt, Int.not_le, gt_iff_lt, ge_iff_le, ne_eq] at h1
      refine X_skip ?_
      refine thenX_normal ?_
      refine X_seq ?_
      refine X_block ?_
      refine X_seq ?_
      refine X_region ?_
      refine XL_det .no (D_pure rfl) rfl ?_
      refine XL_det .no (D_fld rfl fld_69_0 (o' := 0) rfl) rfl ?_
      refine XL_det .no (D_idxA rfl rfl arr_67 rfl (by omega) rfl) rfl ?_
      refine XL_det .no (D_fld rfl fld_66_0 (o' := 0 + i * 6 + 0) rfl) rfl ?_
      refine XL_det .no (D_ldo (v := .bool (s.lv i)) rfl (by repeat first | with_reducible exact .here _ _ | with_reducible apply Out.there | with_reducible apply Out.app) tk_4 (sr_fld _ (by omega) rfl)) rfl ?_
      refine XL_det .no (D_pure rfl) rfl ?_
      refine XL_split (t := 14) rfl (fun h2 => ?_) (fun h2 => ?_)
      · try simp only [decide_eq_true_eq, decide_eq_false_iff_not, Bool.not_eq_true', Bool.not_eq_false', beq_iff_eq, bne_iff_ne, beq_eq_false_iff_ne, bne_eq_false_iff_eq, Int.not_lt, Int.not_le, gt_iff_lt, ge_iff_le, ne_eq] at h2
        refine XL_det (.yes 14 rfl rfl rfl) (D_pure rfl) rfl ?_
        refine XL_det (.yes 14 rfl rfl rfl) (D_pure rfl) rfl ?_
        refine XL_det (.yes 14 rfl rfl rfl) (D_pure rfl) rfl ?_
        refine XL_split (t := 17) rfl (fun h3 => ?_) (fun h3 => ?_)
        · try simp only [decide_eq_true_eq, decide_eq_false_iff_not, Bool.not_eq_true', Bool.not_eq_false', beq_iff_eq, bne_iff_ne, beq_eq_false_iff_ne, bne_eq_false_iff_eq, Int.not_lt, Int.not_le, gt_iff_lt, ge_iff_le, ne_eq] at h3
          refine XL_skip 17 rfl rfl rfl rfl rfl ?_
          refine XL_skip 17 rfl rfl rfl rfl rfl ?_
          refine XL_skip 17 rfl rfl rfl rfl rfl ?_
          refine XL_skip 17 rfl rfl rfl rfl rfl ?_
          refine XL_det (.yes 14 rfl rfl rfl) (D_pure rfl) rfl ?_
          refine XL_det .no (D_pure rfl) rfl ?_
          refine XL_then ?_
          refine X_cond_t rfl rfl ?_
          refine X_region ?_
          refine XL_det .no (D_pure rfl) rfl ?_
          refine XL_det .no (D_pure rfl) rfl ?_
          refine XL_nil ?_
          refine inBlk_normal ?_
          refine thenX_normal ?_
          refine X_region ?_
          refine XL_det .no (D_pure rfl) rfl ?_
          refine XL_det .no (D_add rfl rfl (by omega) (by omega)) rfl ?_
          refine XL_det .no (D_pure rfl) rfl ?_
          refine XL_nil ?_
          refine loopQ_next (i + 1) ?_ ?_ ?_ ?_
          · omega
          · omega
          · refine ⟨?_, ?_, ?_, trivial⟩ <;> first | rfl | (refine congrArg (fun z => some (Value.int .i64 z)) ?_; rw [best_s, if_pos ⟨h2, .inl h3⟩])
          · exact ⟨_, (by repeat first | with_reducible exact .nil _ | with_reducible exact .here _ _ | with_reducible exact Take.self _ | with_reducible apply Take.cons | with_reducible apply Out.there | with_reducible apply Take.skip | with_reducible exact Take.pre _ _ | with_reducible apply Out.app)⟩
        · try simp only [decide_eq_true_eq, decide_eq_false_iff_not, Bool.not_eq_true', Bool.not_eq_false', beq_iff_eq, bne_iff_ne, beq_eq_false_iff_ne, bne_eq_false_iff_eq, Int.not_lt, Int.not_le, gt_iff_lt, ge_iff_le, ne_eq] at h3
          obtain ⟨k, hk⟩ := Int.eq_ofNat_of_zero_le (show 0 ≤ bestR s i by omega)
          rw [hk]
          refine XL_det (.yes 17 rfl rfl rfl) (D_ldso (vs := srC s) rfl (by repeat first | with_reducible exact .here _ _ | with_reducible apply Out.there | with_reducible apply Out.app) tk_69 rfl (by rw [List.drop_zero, List.take_of_length_le (by rw [sr_len]; exact Nat.le_refl _)])) rfl ?_
          refine XL_det (.yes 17 rfl rfl rfl) (D_pure rfl) rfl ?_
          refine XL_det (.yes 17 rfl rfl rfl) (D_pure rfl) rfl ?_
          refine XL_callk (.yes 17 rfl rfl rfl) en_87 rfl (rahead s ho i k (by omega) (by omega)) (by repeat first | with_reducible exact .nil _ | with_reducible exact .here _ _ | with_reducible exact Take.self _ | with_reducible apply Take.cons | with_reducible apply Out.there | with_reducible apply Take.skip | with_reducible exact Take.pre _ _ | with_reducible apply Out.app) rfl ?_
          refine XL_det (.yes 14 rfl rfl rfl) (D_pure rfl) rfl ?_
          refine XL_det .no (D_pure rfl) rfl ?_
          refine XL_then ?_
          refine X_cond rfl (fun h4 => ?_) (fun h4 => ?_)
          · try simp only [decide_eq_true_eq, decide_eq_false_iff_not, Bool.not_eq_true', Bool.not_eq_false', beq_iff_eq, bne_iff_ne, beq_eq_false_iff_ne, bne_eq_false_iff_eq, Int.not_lt, Int.not_le, gt_iff_lt, ge_iff_le, ne_eq] at h4
            refine X_region ?_
            refine XL_det .no (D_pure rfl) rfl ?_
            refine XL_det .no (D_pure rfl) rfl ?_
            refine XL_nil ?_
            refine inBlk_normal ?_
            refine thenX_normal ?_
            refine X_region ?_
            refine XL_det .no (D_pure rfl) rfl ?_
            refine XL_det .no (D_add rfl rfl (by omega) (by omega)) rfl ?_
            refine XL_det .no (D_pure rfl) rfl ?_
            refine XL_nil ?_
            refine loopQ_next (i + 1) ?_ ?_ ?_ ?_
            · omega
            · omega
            · refine ⟨?_, ?_, ?_, trivial⟩ <;> first | rfl | (refine congrArg (fun z => some (Value.int .i64 z)) ?_; rw [best_s, if_pos ⟨h2, .inr (by rw [hk, Int.toNat_natCast]; exact h4)⟩])
            · exact ⟨_, (by repeat first | with_reducible exact .nil _ | with_reducible exact .here _ _ | with_reducible exact Take.self _ | with_reducible apply Take.cons | with_reducible apply Out.there | with_reducible apply Take.skip | with_reducible exact Take.pre _ _ | with_reducible apply Out.app)⟩
          · try simp only [decide_eq_true_eq, decide_eq_false_iff_not, Bool.not_eq_true', Bool.not_eq_false', beq_iff_eq, bne_iff_ne, beq_eq_false_iff_ne, bne_eq_false_iff_eq, Int.not_lt, Int.not_le, gt_iff_lt, ge_iff_le, ne_eq] at h4
            refine X_skip ?_
            refine inBlk_normal ?_
            refine thenX_normal ?_
            refine X_region ?_
            refine XL_det .no (D_pure rfl) rfl ?_
            refine XL_det .no (D_add rfl rfl (by omega) (by omega)) rfl ?_
            refine XL_det .no (D_pure rfl) rfl ?_
            refine XL_nil ?_
            refine loopQ_next (i + 1) ?_ ?_ ?_ ?_
            · omega
            · omega
            · refine ⟨?_, ?_, ?_, trivial⟩ <;> first | rfl | (refine congrArg (fun z => some (Value.int .i64 z)) ?_; rw [best_s, if_neg (fun q => q.2.elim (fun z => absurd z (by omega)) (fun z => by rw [hk, Int.toNat_natCast, h4] at z; cases z))]; exact hk.symm)
            · exact ⟨_, (by repeat first | with_reducible exact .nil _ | with_reducible exact .here _ _ | with_reducible exact Take.self _ | with_reducible apply Take.cons | with_reducible apply Out.there | with_reducible apply Take.skip | with_reducible exact Take.pre _ _ | with_reducible apply Out.app)⟩
      · try simp only [decide_eq_true_eq, decide_eq_false_iff_not, Bool.not_eq_true', Bool.not_eq_false', beq_iff_eq, bne_iff_ne, beq_eq_false_iff_ne, bne_eq_false_iff_eq, Int.not_lt, Int.not_le, gt_iff_lt, ge_iff_le, ne_eq] at h2
        refine XL_skip 14 rfl rfl rfl rfl rfl ?_
        refine XL_skip 14 rfl rfl rfl rfl rfl ?_
        refine XL_skip 14 rfl rfl rfl rfl rfl ?_
        refine XL_skipu 17 rfl rfl rfl rfl ?_
        refine XL_skipu 17 rfl rfl rfl rfl ?_
        refine XL_skipu 17 rfl rfl rfl rfl ?_
        refine XL_skipu 17 rfl rfl rfl rfl ?_
        refine XL_skip 14 rfl rfl rfl rfl rfl ?_
        refine XL_det .no (D_pure rfl) rfl ?_
        refine XL_then ?_
        refine X_cond_f rfl rfl ?_
        refine X_skip ?_
        refine inBlk_normal ?_
        refine thenX_normal ?_
        refine X_region ?_
        refine XL_det .no (D_pure rfl) rfl ?_
        refine XL_det .no (D_add rfl rfl (by omega) (by omega)) rfl ?_
        refine XL_det .no (D_pure rfl) rfl ?_
        refine XL_nil ?_
        refine loopQ_next (i + 1) ?_ ?_ ?_ ?_
        · omega
        · omega
        · refine ⟨?_, ?_, ?_, trivial⟩ <;> first | rfl | (refine congrArg (fun z => some (Value.int .i64 z)) ?_; rw [best_s, if_neg (fun q => by rw [h2] at q; cases q.1)])
        · exact ⟨_, (by repeat first | with_reducible exact .nil _ | with_reducible exact .here _ _ | with_reducible exact Take.self _ | with_reducible apply Take.cons | with_reducible apply Out.there | with_reducible apply Take.skip | with_reducible exact Take.pre _ _ | with_reducible apply Out.app)⟩
    · try simp only [decide_eq_true_eq, decide_eq_false_iff_not, Bool.not_eq_true', Bool.not_eq_false', beq_iff_eq, bne_iff_ne, beq_eq_false_iff_ne, bne_eq_false_iff_eq, Int.not_lt, Int.not_le, gt_iff_lt, ge_iff_le, ne_eq] at h1
      refine X_exit ?_
      refine thenX_exit ?_
      refine loopQ_exit ?_
      refine inBlk_here ?_
      refine thenX_normal ?_
      refine X_seq ?_
      refine X_region ?_
      refine XL_det .no (D_pure rfl) rfl ?_
      refine XL_det .no (D_pure rfl) rfl ?_
      refine XL_then ?_
      refine X_ret ?_
      refine ret_ok (.nil _) (res_tmp rfl rfl) ?_
      exact ⟨_, ⟨by rw [show i = 16 by omega], rfl⟩, _, (by repeat first | with_reducible exact .nil _ | with_reducible exact .here _ _ | with_reducible exact Take.self _ | with_reducible apply Take.cons | with_reducible apply Out.there | with_reducible apply Take.skip | with_reducible exact Take.pre _ _ | with_reducible apply Out.app)⟩

end Go.Proofs.YtkkdchgnknpceaaDoor
end

section
namespace Go.Proofs.YtkkdchgnknpceaaDoor
open Go Go.Sl
set_option linter.unusedVariables false
set_option linter.unusedSimpArgs false
set_option maxRecDepth 4000
variable {B : Nat} {K : Asrt B}
theorem zero_69 : zeroOf Tryd.prog 69 = some [.bool false, .int .i64 0, .int .i64 0, .int .i64 0, .int .i64 0, .slice none 0 0, .bool false, .int .i64 0, .int .i64 0, .int .i64 0, .int .i64 0, .slice none 0 0, .bool false, .int .i64 0, .int .i64 0, .int .i64 0, .int .i64 0, .slice none 0 0, .bool false, .int .i64 0, .int .i64 0, .int .i64 0, .int .i64 0, .slice none 0 0, .bool false, .int .i64 0, .int .i64 0, .int .i64 0, .int .i64 0, .slice none 0 0, .bool false, .int .i64 0, .int .i64 0, .int .i64 0, .int .i64 0, .slice none 0 0, .bool false, .int .i64 0, .int .i64 0, .int .i64 0, .int .i64 0, .slice none 0 0, .bool false, .int .i64 0, .int .i64 0, .int .i64 0, .int .i64 0, .slice none 0 0, .bool false, .int .i64 0, .int .i64 0, .int .i64 0, .int .i64 0, .slice none 0 0, .bool false, .int .i64 0, .int .i64 0, .int .i64 0, .int .i64 0, .slice none 0 0, .bool false, .int .i64 0, .int .i64 0, .int .i64 0, .int .i64 0, .slice none 0 0, .bool false, .int .i64 0, .int .i64 0, .int .i64 0, .int .i64 0, .slice none 0 0, .bool false, .int .i64 0, .int .i64 0, .int .i64 0, .int .i64 0, .slice none 0 0, .bool false, .int .i64 0, .int .i64 0, .int .i64 0, .int .i64 0, .slice none 0 0, .bool false, .int .i64 0, .int .i64 0, .int .i64 0, .int .i64 0, .slice none 0 0, .bool false, .int .i64 0, .int .i64 0, .int .i64 0, .int .i64 0, .slice none 0 0, .int .i64 0, .int .i64 0, .int .i64 0, .int .i64 0, .int .i64 0, .int .i64 0, .int .i64 0, .int .i64 0, .int .i64 0] := by kernel_rfl
theorem zk_69 : (match Tryd.prog.underlying 69 with | some (.struct _) => (bldOf Tryd.prog 69).isSome | some (.array _ e) => (Tryd.prog.info? e).isSome | _ => false) = true := by kernel_rfl

theorem res_aa {P : Program} {B : Nat} {A : Amb} {N : Nat} {ds : List Nat} {E : Env} {S : List (Asrt B)} {fn : Func} {p q t t' b b' n n' : Nat} {cs cs' : List Value} {te te' : TypeId} {S1 S2 : List (Asrt B)} (h : fn.results = #[.cell p t, .cell q t']) (hp : E.get p = some (.pointer (some ⟨b, 0, none⟩))) (hq : E.get q = some (.pointer (some ⟨b', 0, none⟩))) (ho : Out (blk b cs te) S S1) (ho' : Out (blk b' cs' te') S S2) (ht : tyK P t = some (true, n)) (ht' : tyK P t' = some (true, n')) (hn : cs.length = n) (hn' : cs'.length = n') :
    ∀ a w, Ok N ds E a → St B A S w → (results fn a.tmps).run P w = .ok (.tuple #[.agg cs.toArray, .agg cs'.toArray]) w := by
  intro a w hok hs
  obtain ⟨D, hK⟩ := hs.mem ho
  obtain ⟨D', hK'⟩ := hs.mem ho'
  have hl := run_loadN (P := P) (w := w) (p := ⟨b, 0, none⟩) (vs := cs) ht hn (fun k hk => Rd_obj D w hK k (by omega))
  have hl' := run_loadN (P := P) (w := w) (p := ⟨b', 0, none⟩) (vs := cs') ht' hn' (fun k hk => Rd_obj D' w hK' k (by omega))
  simp only [Instr.loadAt, Instr.sureAddr, Sem.run_bind, Sem.run_pure, Result.andThen_ok] at hl hl'
  have hp' : a.tmps[p]?.getD undef = .pointer (some ⟨b, 0, none⟩) := by have := hok.get p _ hp; simpa [Array.getD_eq_getD_getElem?] using this
  have hq' : a.tmps[q]?.getD undef = .pointer (some ⟨b', 0, none⟩) := by have := hok.get q _ hq; simpa [Array.getD_eq_getD_getElem?] using this
  simp [results, h, hp', hq', asAddr, hl, hl']
abbrev JZ : JC := ⟨0, 0, 0, 0, 0, Arr.emp⟩
/-- A tick goes by. -/
abbrev doneJ (j : JC) : JC := ⟨j.id, j.rel, j.dl, j.cost, j.done + 1, j.secs⟩
def tookR (j : JC) : Int := if hold j.secs.l j.done < 0 then takeR j.secs.l j.done else -1
def gaveR (j : JC) : Int := if hold j.secs.l (j.done + 1) < 0 then takeR j.secs.l j.done else -1
def tickS (s : Sr) (k : Nat) : Sr := if (s.jf k).done + 1 = (s.jf k).cost then ⟨upd s.jf k JZ, upd s.lv k false, s.tab, s.now + 1⟩ else ⟨upd s.jf k (doneJ (s.jf k)), upd s.lv k (s.lv k), s.tab, s.now + 1⟩
def tickX (s : Sr) (k : Nat) : Ran := if (s.jf k).done + 1 = (s.jf k).cost then ⟨k, tookR (s.jf k), gaveR (s.jf k), true, s.now + 1 - (s.jf k).rel, decide (s.now + 1 > (s.jf k).dl)⟩ else ⟨k, tookR (s.jf k), gaveR (s.jf k), false, 0, false⟩
def tickR (s : Sr) : Sr × Ran := if nextR s < 0 then (⟨s.jf, s.lv, s.tab, s.now + 1⟩, ⟨-1, -1, -1, false, 0, false⟩) else (tickS s (nextR s).toNat, tickX s (nextR s).toNat)
theorem tickR_n {s : Sr} (h : nextR s < 0) : tickR s = (⟨s.jf, s.lv, s.tab, s.now + 1⟩, ⟨-1, -1, -1, false, 0, false⟩) := by unfold tickR; rw [if_pos h]
theorem tickR_k {s : Sr} {k : Nat} (h : nextR s = k) : tickR s = (tickS s k, tickX s k) := by unfold tickR; rw [if_neg (by omega), h, Int.toNat_natCast]
/-- A row of what the document tells. -/
abbrev encRr (x : Ran) : List Value := [.int .i64 x.task, .int .i64 x.took, .int .i64 x.gave, .int .i64 x.within, .bool x.over, .bool x.late]
/-- A job comes. -/
def relRE (s : Sr) (k : Nat) : Int := if s.lv k = true then 242 else 0
abbrev JRn (s : Sr) (e : Nat → Int) (c : Int) (x : Arr Sec) : JC := ⟨0, s.now, s.now + e 1, c, 0, x⟩
def relR (s : Sr) (k : Nat) (e : Nat → Int) (c : Int) (x : Arr Sec) : Sr := if s.lv k = true then s else ⟨upd s.jf k (JRn s e c x), upd s.lv k true, s.tab, s.now⟩
abbrev sr0 : Sr := ⟨fun _ => JZ, fun _ => false, fun _ => 0, 0⟩
abbrev srN (n : Nat) : Sr := ⟨fun _ => JZ, fun _ => false, fun r => if r < n then 16 else 0, 0⟩
theorem srN_s (n : Nat) : upd (fun r => if r < n then 16 else 0) n 16 = (fun r => if r < n + 1 then (16 : Int) else 0) := by
  funext j
  by_cases e : j = n
  · subst e; rw [upd_same, if_pos (by omega)]
  · rw [upd_ne _ _ e]
    by_cases q : j < n
    · rw [if_pos q, if_pos (by omega)]
    · rw [if_neg q, if_neg (by omega)]
theorem rowS_z : rowS (B := B) sr0.jf = fun _ => row (.slice (Arr.emp : Arr Sec).oad (Arr.emp : Arr Sec).l.length (Arr.emp : Arr Sec).c) 123 3 (Arr.emp : Arr Sec).l.length ((Arr.emp : Arr Sec).l.flatMap encS) := rfl

theorem rnew26  : Ctr Tryd.prog B 27 [] [] (fun v S => v = .agg (srC ((srN 8))).toArray ∧ S = [many 16 (rowS (srN 8).jf)]) := by
  refine Ctr_of_X (N := 12) Tryd.func27 rfl (by simp) rfl ?_
  intro w0 D0
  refine X_many_nil (n := 16) (e := 123) (sz := 3) ?_
  refine X_seq ?_
  refine X_region ?_
  refine XL_alloc (cs := srC sr0) .no zero_69 rfl (fun b1 => ?_)
  refine XL_then ?_
  refine X_seq ?_
  refine X_region ?_
  refine XL_det .no (D_zero zero_69 zk_69) rfl ?_
  refine XL_alloc (cs := srC sr0) .no zero_69 rfl (fun b2 => ?_)
  refine XL_efd .no (F_stw rfl rfl rfl (by repeat first | with_reducible exact .here _ _ | with_reducible apply Out.there | with_reducible apply Out.app) tk_69 rfl rfl) ?_
  refine XL_then ?_
  refine X_seq ?_
  refine X_seq ?_
  refine X_region ?_
  refine XL_det .no (D_pure rfl) rfl ?_
  refine XL_then ?_
  refine X_block ?_
  refine X_loop (α := Nat) (fun r => r ≤ 8) (fun r => [(2, .int .i64 (r : Int)), (0, .pointer (some ⟨b1, 0, none⟩)), (1, .pointer (some ⟨b2, 0, none⟩))]) (fun r => [blk b1 (srC sr0) 69, blk b2 (srC (srN r)) 69, many 16 (rowS sr0.jf)]) (fun r => 8 - r) 0 ?_ (by refine ⟨?_, ?_, ?_, trivial⟩ <;> rfl) (by repeat first | with_reducible exact .nil _ | with_reducible exact .here _ _ | exact .here _ _ | with_reducible exact Take.self _ | with_reducible apply Take.cons | with_reducible apply Out.there | with_reducible apply Take.skip | with_reducible exact Take.pre _ _ | with_reducible apply Out.app) ?_
  · omega
  · rintro r hr
    refine X_seq ?_
    refine X_seq ?_
    refine X_region ?_
    refine XL_det .no (D_pure rfl) rfl ?_
    refine XL_det .no (D_pure rfl) rfl ?_
    refine XL_then ?_
    refine X_cond rfl (fun h1 => ?_) (fun h1 => ?_)
    · try simp only [decide_eq_true_eq, decide_eq_false_iff_not, Bool.not_eq_true', Bool.not_eq_false', beq_iff_eq, bne_iff_ne, beq_eq_false_iff_ne, bne_eq_false_iff_eq, Int.not_lt, Int.not_le, gt_iff_lt, ge_iff_le, ne_eq] at h1
      refine X_skip ?_
      refine thenX_normal ?_
      refine X_seq ?_
      refine X_block ?_
      refine X_region ?_
      refine XL_det .no (D_pure rfl) rfl ?_
      refine XL_det .no (D_fld rfl fld_69_1 (o' := 96) rfl) rfl ?_
      refine XL_det .no (D_idxA rfl rfl arr_33 rfl (by omega) rfl) rfl ?_
      refine XL_efd .no (F_st (k := 96 + r * 1) (cs' := srC (srN (r + 1))) rfl rfl rfl (by repeat first | with_reducible exact .here _ _ | with_reducible apply Out.there | with_reducible apply Out.app) tk_3 (sr_lt _ (by omega)) ((sr_settab _ (by omega) _).trans (by show srC ⟨_, _, upd _ r 16, _⟩ = _; rw [srN_s]))) ?_
      refine XL_nil ?_
      refine inBlk_normal ?_
      refine thenX_normal ?_
      refine X_region ?_
      refine XL_det .no (D_pure rfl) rfl ?_
      refine XL_det .no (D_add rfl rfl (by omega) (by omega)) rfl ?_
      refine XL_det .no (D_pure rfl) rfl ?_
      refine XL_nil ?_
      refine loopQ_next (r + 1) ?_ ?_ ?_ ?_
      · omega
      · omega
      · refine ⟨?_, ?_, ?_, trivial⟩ <;> rfl
      · exact ⟨_, (by repeat first | with_reducible exact .nil _ | with_reducible exact .here _ _ | exact .here _ _ | with_reducible exact Take.self _ | with_reducible apply Take.cons | with_reducible apply Out.there | with_reducible apply Take.skip | with_reducible exact Take.pre _ _ | with_reducible apply Out.app)⟩
    · try simp only [decide_eq_true_eq, decide_eq_false_iff_not, Bool.not_eq_true', Bool.not_eq_false', beq_iff_eq, bne_iff_ne, beq_eq_false_iff_ne, bne_eq_false_iff_eq, Int.not_lt, Int.not_le, gt_iff_lt, ge_iff_le, ne_eq] at h1
      obtain rfl : r = 8 := by omega
      refine X_exit ?_
      refine thenX_exit ?_
      refine loopQ_exit ?_
      refine inBlk_here ?_
      refine thenX_normal ?_
      refine X_seq ?_
      refine X_region ?_
      refine XL_det .no (D_ldso (vs := srC (srN 8)) rfl (by repeat first | with_reducible exact .here _ _ | with_reducible apply Out.there | with_reducible apply Out.app) tk_69 rfl (by rw [List.drop_zero, List.take_of_length_le (by rw [sr_len]; exact Nat.le_refl _)])) rfl ?_
      refine XL_efd .no (F_stw rfl rfl rfl (by repeat first | with_reducible exact .here _ _ | with_reducible apply Out.there | with_reducible apply Out.app) tk_69 rfl rfl) ?_
      refine XL_then ?_
      refine X_ret ?_
      refine ret_ok (.nil _) (res_cell rfl rfl (by repeat first | with_reducible exact .here _ _ | with_reducible apply Out.there | with_reducible apply Out.app) tk_69 (by rfl)) ?_
      exact ⟨_, ⟨rfl, rfl⟩, _, (by repeat first | with_reducible exact .nil _ | with_reducible exact .here _ _ | exact .here _ _ | with_reducible exact Take.self _ | with_reducible apply Take.cons | with_reducible apply Out.there | with_reducible apply Take.skip | with_reducible exact Take.pre _ _ | with_reducible apply Out.app)⟩

end Go.Proofs.YtkkdchgnknpceaaDoor
end

section
namespace Go.Proofs.YtkkdchgnknpceaaDoor
open Go Go.Sl
set_option linter.unusedVariables false
set_option linter.unusedSimpArgs false
set_option maxRecDepth 4000
variable {B : Nat} {K : Asrt B}
theorem bld_66 : bldOf Tryd.prog 66 = some ([.bool false, .int .i64 0, .int .i64 0, .int .i64 0, .int .i64 0, .slice none 0 0], [(0, 1), (1, 1), (2, 1), (3, 1), (4, 1), (5, 1)]) := by kernel_rfl
theorem en_64 : Go.Proofs.Enters Tryd.prog 64 := Go.Proofs.enters_of Tryd.func64 (by kernel_rfl) rfl
theorem fld_69_2 : fldOff Tryd.prog 69 2 = some 104 := by kernel_rfl
theorem tk_66 : tyK Tryd.prog 66 = some (true, 6) := by kernel_rfl
theorem rrel26 (s : Sr) (ho : SrOk s) (k : Nat) (hk : k < 16) (e : Nat → Int) (cost : Int) {Ki : Asrt B} (l : Arr Sec) (hl : Rd Ki l.ad (l.l.flatMap encS)) (hT : ∀ j, j < 8 → 0 ≤ e (3 + j)) (hn : 0 ≤ s.now ∧ s.now ≤ 1000000000) (he : 1 ≤ e 1 ∧ e 1 ≤ 4096 ∧ 1 ≤ e 2 ∧ e 2 ≤ 4096) : Ctr Tryd.prog B 28 [.agg (srC s).toArray, .int .i64 (k : Int), tV e, .int .i64 cost, .slice l.oad l.l.length l.c] [many 16 (rowS s.jf), Ki] (fun v S => ∃ x : Arr Sec, (s.lv k = false → x.l = secs e (max (min cost (e 2)) 1) 0 0 l.l ∧ x.Own) ∧ v = .tuple #[.agg (srC ((relR s k e (max (min cost (e 2)) 1) x))).toArray, .int .i64 (relRE s k)] ∧ S = [many 16 (rowS (relR s k e (max (min cost (e 2)) 1) x).jf), Ki]) := by
  refine Ctr_of_X (N := 43) Tryd.func28 rfl (by simp) rfl ?_
  intro w0 D0
  refine X_seq ?_
  refine X_region ?_
  refine XL_box (cs := srC s) .no rfl rfl rfl (fun b1 => ?_)
  refine XL_box (cs := encT e) .no rfl rfl rfl (fun b2 => ?_)
  refine XL_alloc (cs := srC sr0) .no zero_69 rfl (fun b3 => ?_)
  refine XL_det .no (D_pure rfl) rfl ?_
  refine XL_then ?_
  refine X_seq ?_
  refine X_seq ?_
  refine X_region ?_
  refine XL_det .no (D_pure rfl) rfl ?_
  refine XL_det .no (D_fld rfl fld_69_0 (o' := 0) rfl) rfl ?_
  refine XL_det .no (D_idxA rfl rfl arr_67 rfl (by omega) rfl) rfl ?_
  refine XL_det .no (D_fld rfl fld_66_0 (o' := 0 + k * 6 + 0) rfl) rfl ?_
  refine XL_det .no (D_ldo (v := .bool (s.lv k)) rfl (by repeat first | with_reducible exact .here _ _ | with_reducible apply Out.there | with_reducible apply Out.app) tk_4 (sr_fld _ hk rfl)) rfl ?_
  refine XL_then ?_
  refine X_cond rfl (fun h1 => ?_) (fun h1 => ?_)
  · try simp only [decide_eq_true_eq, decide_eq_false_iff_not, Bool.not_eq_true', Bool.not_eq_false', beq_iff_eq, bne_iff_ne, beq_eq_false_iff_ne, bne_eq_false_iff_eq, Int.not_lt, Int.not_le, gt_iff_lt, ge_iff_le, ne_eq] at h1
    refine X_seq ?_
    refine X_region ?_
    refine XL_det .no (D_ldso (vs := srC s) rfl (by repeat first | with_reducible exact .here _ _ | with_reducible apply Out.there | with_reducible apply Out.app) tk_69 rfl (by rw [List.drop_zero, List.take_of_length_le (by rw [sr_len]; exact Nat.le_refl _)])) rfl ?_
    refine XL_efd .no (F_stw rfl rfl rfl (by repeat first | with_reducible exact .here _ _ | with_reducible apply Out.there | with_reducible apply Out.app) tk_69 rfl rfl) ?_
    refine XL_det .no (D_pure rfl) rfl ?_
    refine XL_then ?_
    refine X_ret ?_
    refine thenX_ret ?_
    refine ret_ok (.nil _) (res_celltmp rfl rfl (by repeat first | with_reducible exact .here _ _ | with_reducible apply Out.there | with_reducible apply Out.app) tk_69 (by rfl) rfl) ?_
    exact ⟨_, ⟨Arr.emp, (fun q => by rw [h1] at q; cases q), by unfold relR relRE; rw [if_pos h1, if_pos h1], by unfold relR; rw [if_pos h1]⟩, _, (by repeat first | with_reducible exact .nil _ | with_reducible exact .here _ _ | exact .here _ _ | with_reducible exact Take.self _ | with_reducible apply Take.cons | with_reducible apply Out.there | with_reducible apply Take.skip | with_reducible exact Take.pre _ _ | with_reducible apply Out.app)⟩
  · try simp only [decide_eq_true_eq, decide_eq_false_iff_not, Bool.not_eq_true', Bool.not_eq_false', beq_iff_eq, bne_iff_ne, beq_eq_false_iff_ne, bne_eq_false_iff_eq, Int.not_lt, Int.not_le, gt_iff_lt, ge_iff_le, ne_eq] at h1
    refine X_skip ?_
    refine thenX_normal ?_
    refine X_seqj (α := Unit) (fun _ => True) (fun _ => [(3, .int .i64 (min cost (e 2))), (1, .int .i64 (k : Int)), (4, .slice l.oad l.l.length l.c), (5, .pointer (some ⟨b1, 0, none⟩)), (7, .pointer (some ⟨b2, 0, none⟩)), (10, .pointer (some ⟨b3, 0, none⟩))]) (fun _ => [blk b1 (srC s) 69, blk b2 (encT e) 48, blk b3 (srC sr0) 69, many 16 (rowS s.jf), Ki]) ?_ ?_
    · skip
      refine X_seq ?_
      refine X_region ?_
      refine XL_det .no (D_pure rfl) rfl ?_
      refine XL_det .no (D_fld rfl fld_48_2 (o' := 2) rfl) rfl ?_
      refine XL_det .no (D_ldo rfl (by repeat first | with_reducible exact .here _ _ | with_reducible apply Out.there | with_reducible apply Out.app) tk_3 (by rfl)) rfl ?_
      refine XL_det .no (D_pure rfl) rfl ?_
      refine XL_then ?_
      refine X_cond rfl (fun h2 => ?_) (fun h2 => ?_)
      · try simp only [decide_eq_true_eq, decide_eq_false_iff_not, Bool.not_eq_true', Bool.not_eq_false', beq_iff_eq, bne_iff_ne, beq_eq_false_iff_ne, bne_eq_false_iff_eq, Int.not_lt, Int.not_le, gt_iff_lt, ge_iff_le, ne_eq] at h2
        refine X_region ?_
        refine XL_det .no (D_fld rfl fld_48_2 (o' := 2) rfl) rfl ?_
        refine XL_det .no (D_ldo rfl (by repeat first | with_reducible exact .here _ _ | with_reducible apply Out.there | with_reducible apply Out.app) tk_3 (by rfl)) rfl ?_
        refine XL_det .no (D_pure rfl) rfl ?_
        refine XL_nil ?_
        refine joinQ_normal () ?_ ?_ ?_
        · trivial
        · refine ⟨by rw [show min cost (e 2) = e 2 by omega]; rfl, ?_, ?_, ?_, ?_, ?_, trivial⟩ <;> rfl
        · exact ⟨_, (by repeat first | with_reducible exact .nil _ | with_reducible exact .here _ _ | with_reducible exact Take.self _ | with_reducible apply Take.cons | with_reducible apply Out.there | with_reducible apply Take.skip | with_reducible exact Take.pre _ _ | with_reducible apply Out.app)⟩
      · try simp only [decide_eq_true_eq, decide_eq_false_iff_not, Bool.not_eq_true', Bool.not_eq_false', beq_iff_eq, bne_iff_ne, beq_eq_false_iff_ne, bne_eq_false_iff_eq, Int.not_lt, Int.not_le, gt_iff_lt, ge_iff_le, ne_eq] at h2
        refine X_skip ?_
        refine joinQ_normal () ?_ ?_ ?_
        · trivial
        · refine ⟨by rw [show min cost (e 2) = cost by omega]; rfl, ?_, ?_, ?_, ?_, ?_, trivial⟩ <;> rfl
        · exact ⟨_, (by repeat first | with_reducible exact .nil _ | with_reducible exact .here _ _ | with_reducible exact Take.self _ | with_reducible apply Take.cons | with_reducible apply Out.there | with_reducible apply Take.skip | with_reducible exact Take.pre _ _ | with_reducible apply Out.app)⟩
    · rintro _ _
      refine X_seqj (α := Unit) (fun _ => True) (fun _ => [(3, .int .i64 (max (min cost (e 2)) 1)), (1, .int .i64 (k : Int)), (4, .slice l.oad l.l.length l.c), (5, .pointer (some ⟨b1, 0, none⟩)), (7, .pointer (some ⟨b2, 0, none⟩)), (10, .pointer (some ⟨b3, 0, none⟩))]) (fun _ => [blk b1 (srC s) 69, blk b2 (encT e) 48, blk b3 (srC sr0) 69, many 16 (rowS s.jf), Ki]) ?_ ?_
      · skip
        refine X_seq ?_
        refine X_region ?_
        refine XL_det .no (D_pure rfl) rfl ?_
        refine XL_det .no (D_pure rfl) rfl ?_
        refine XL_then ?_
        refine X_cond rfl (fun h3 => ?_) (fun h3 => ?_)
        · try simp only [decide_eq_true_eq, decide_eq_false_iff_not, Bool.not_eq_true', Bool.not_eq_false', beq_iff_eq, bne_iff_ne, beq_eq_false_iff_ne, bne_eq_false_iff_eq, Int.not_lt, Int.not_le, gt_iff_lt, ge_iff_le, ne_eq] at h3
          refine X_region ?_
          refine XL_det .no (D_pure rfl) rfl ?_
          refine XL_nil ?_
          refine joinQ_normal () ?_ ?_ ?_
          · trivial
          · refine ⟨by rw [show (max (min cost (e 2)) 1) = 1 by omega]; rfl, ?_, ?_, ?_, ?_, ?_, trivial⟩ <;> rfl
          · exact ⟨_, (by repeat first | with_reducible exact .nil _ | with_reducible exact .here _ _ | with_reducible exact Take.self _ | with_reducible apply Take.cons | with_reducible apply Out.there | with_reducible apply Take.skip | with_reducible exact Take.pre _ _ | with_reducible apply Out.app)⟩
        · try simp only [decide_eq_true_eq, decide_eq_false_iff_not, Bool.not_eq_true', Bool.not_eq_false', beq_iff_eq, bne_iff_ne, beq_eq_false_iff_ne, bne_eq_false_iff_eq, Int.not_lt, Int.not_le, gt_iff_lt, ge_iff_le, ne_eq] at h3
          refine X_skip ?_
          refine joinQ_normal () ?_ ?_ ?_
          · trivial
          · refine ⟨by rw [show (max (min cost (e 2)) 1) = min cost (e 2) by omega]; rfl, ?_, ?_, ?_, ?_, ?_, trivial⟩ <;> rfl
          · exact ⟨_, (by repeat first | with_reducible exact .nil _ | with_reducible exact .here _ _ | with_reducible exact Take.self _ | with_reducible apply Take.cons | with_reducible apply Out.there | with_reducible apply Take.skip | with_reducible exact Take.pre _ _ | with_reducible apply Out.app)⟩
      · rintro _ _
        refine X_seq ?_
        refine X_draw [blk b1 (srC s) 69, blk b2 (encT e) 48] mixed (by repeat first | with_reducible exact .nil _ | with_reducible exact .here _ _ | with_reducible exact Take.self _ | with_reducible apply Take.cons | with_reducible apply Out.there | with_reducible apply Take.skip | with_reducible exact Take.pre _ _ | with_reducible apply Out.app) ?_
        refine XA_detp 0 rfl (by kernel_rfl) (by kernel_rfl) (by kernel_rfl) (fun _ _ _ _ h => h) .no (D_pureP rfl) rfl ?_
        refine XA_detp 1 rfl (by kernel_rfl) (by kernel_rfl) (by kernel_rfl) (fun _ _ _ _ h => h) .no (D_fldP rfl fld_69_2 (o' := 104) rfl) rfl ?_
        refine XA_det 2 rfl (by kernel_rfl) (by kernel_rfl) (by kernel_rfl) (by kernel_rfl) (fun _ _ _ _ h => h) .no (D_ldo (v := .int .i64 s.now) rfl (by repeat first | with_reducible exact .here _ _ | with_reducible apply Out.there | with_reducible apply Out.app) tk_3 (sr_now s)) rfl ?_
        refine XA_detp 3 rfl (by kernel_rfl) (by kernel_rfl) (by kernel_rfl) (fun _ _ _ _ h => h) .no (D_fldP rfl fld_69_2 (o' := 104) rfl) rfl ?_
        refine XA_det 4 rfl (by kernel_rfl) (by kernel_rfl) (by kernel_rfl) (by kernel_rfl) (fun _ _ _ _ h => h) .no (D_ldo (v := .int .i64 s.now) rfl (by repeat first | with_reducible exact .here _ _ | with_reducible apply Out.there | with_reducible apply Out.app) tk_3 (sr_now s)) rfl ?_
        refine XA_detp 5 rfl (by kernel_rfl) (by kernel_rfl) (by kernel_rfl) (fun _ _ _ _ h => h) .no (D_fldP rfl fld_48_1 (o' := 1) rfl) rfl ?_
        refine XA_det 6 rfl (by kernel_rfl) (by kernel_rfl) (by kernel_rfl) (by kernel_rfl) (fun _ _ _ _ h => h) .no (D_ldo rfl (by repeat first | with_reducible exact .here _ _ | with_reducible apply Out.there | with_reducible apply Out.app) tk_3 (by rfl)) rfl ?_
        refine XA_det 7 rfl (by kernel_rfl) (by kernel_rfl) (by kernel_rfl) (by kernel_rfl) (fun _ _ _ _ h => h) .no (D_add rfl rfl (by omega) (by omega)) rfl ?_
        refine XA_detp 8 rfl (by kernel_rfl) (by kernel_rfl) (by kernel_rfl) (fun _ _ _ _ h => h) .no (D_pureP rfl) rfl ?_
        refine XA_det 9 rfl (by kernel_rfl) (by kernel_rfl) (by kernel_rfl) (by kernel_rfl) (fun _ _ _ _ h => h) .no (D_ldso (vs := encT e) rfl (by repeat first | with_reducible exact .here _ _ | with_reducible apply Out.there | with_reducible apply Out.app) tk_48 rfl (by rfl)) rfl ?_
        refine XA_detp 10 rfl (by kernel_rfl) (by kernel_rfl) (by kernel_rfl) (fun _ _ _ _ h => h) .no (D_pureP rfl) rfl ?_
        refine XA_detp 11 rfl (by kernel_rfl) (by kernel_rfl) (by kernel_rfl) (fun _ _ _ _ h => h) .no (D_pureP rfl) rfl ?_
        refine XA_detp 14 rfl (by kernel_rfl) (by kernel_rfl) (by kernel_rfl) (fun _ _ _ _ h => h) .no (D_fldP rfl fld_69_0 (o' := 0) rfl) rfl ?_
        refine XA_one 12 (by kernel_rfl) ?_
        refine XO_callc rfl .no en_64 rfl (by repeat first | with_reducible exact .nil _ | with_reducible apply App.cons) (jref e (max (min cost (e 2)) 1) l hl hT (by omega)) (by repeat first | with_reducible exact .nil _ | with_reducible exact .here _ _ | with_reducible exact Take.self _ | with_reducible apply Take.cons | with_reducible apply Out.there | with_reducible apply Take.skip | with_reducible exact Take.pre _ _ | with_reducible apply Out.app) rfl ?_
        rintro _ _ ⟨x, ⟨hx, hxo⟩, rfl, rfl⟩
        simp only [List.cons_append, List.nil_append]
        refine ⟨[row (.slice x.oad x.l.length x.c) 123 3 x.l.length (x.l.flatMap encS), blk b3 (srC sr0) 69, many 16 (rowS s.jf), Ki], _, _, (by repeat first | with_reducible exact .nil _ | with_reducible apply App.cons), (by repeat first | with_reducible exact .nil _ | with_reducible exact .here _ _ | with_reducible exact Take.self _ | with_reducible apply Take.cons | with_reducible apply Out.there | with_reducible apply Take.skip | with_reducible exact Take.pre _ _ | with_reducible apply Out.app), ?_⟩
        refine XA_det 13 rfl (by kernel_rfl) (by kernel_rfl) (by kernel_rfl) (by kernel_rfl) (fun _ _ _ _ h => h) .no (D_build [_, _, _, _, _, _] rfl bld_66 (by rfl)) rfl ?_
        refine XA_detp 15 rfl (by kernel_rfl) (by kernel_rfl) (by kernel_rfl) (fun _ _ _ _ h => h) .no (D_idxAP rfl rfl arr_67 rfl (by omega) rfl) rfl ?_
        refine XA_one 16 (by kernel_rfl) ?_
        refine XO_efd rfl .no (by repeat first | with_reducible exact .nil _ | with_reducible apply App.cons) (F_sts (k := 0 + k * 6) (n := 6) (cs' := srC (⟨upd s.jf k (JRn s e (max (min cost (e 2)) 1) x), upd s.lv k true, s.tab, s.now⟩ : Sr)) rfl rfl (by intro u hu; simp at hu; rcases hu with rfl | rfl | rfl | rfl | rfl | rfl <;> rfl) (by repeat first | with_reducible exact .here _ _ | with_reducible apply Out.there | with_reducible apply Out.app) tk_66 rfl (by rw [sr_len]; exact Nat.ble_eq_true_of_le (by omega)) (sr_stsjob s hk true (JRn s e (max (min cost (e 2)) 1) x))) (by kernel_rfl) ?_
        refine XA_done (by kernel_rfl) ?_
        try simp only [List.cons_append, List.nil_append, List.append_nil]
        refine thenX_normal ?_
        refine X_seq ?_
        refine X_region ?_
        refine XL_many_out (d := k) hk (by repeat first | with_reducible exact .nil _ | with_reducible exact .here _ _ | with_reducible exact Take.self _ | with_reducible apply Take.cons | with_reducible apply Out.there | with_reducible apply Take.skip | with_reducible exact Take.pre _ _ | with_reducible apply Out.app) ?_
        refine XL_many_in (G := rowS1 (JRn s e (max (min cost (e 2)) 1) x)) hk (by repeat first | with_reducible exact .nil _ | with_reducible exact .here _ _ | with_reducible exact Take.self _ | with_reducible apply Take.cons | with_reducible apply Out.there | with_reducible apply Take.skip | with_reducible exact Take.pre _ _ | with_reducible apply Out.app) ?_
        rw [rowS_upd]
        refine XL_det .no (D_ldso (vs := srC (⟨upd s.jf k (JRn s e (max (min cost (e 2)) 1) x), upd s.lv k true, s.tab, s.now⟩ : Sr)) rfl (by repeat first | with_reducible exact .here _ _ | with_reducible apply Out.there | with_reducible apply Out.app) tk_69 rfl (by rw [List.drop_zero, List.take_of_length_le (by rw [sr_len]; exact Nat.le_refl _)])) rfl ?_
        refine XL_efd .no (F_stw rfl rfl rfl (by repeat first | with_reducible exact .here _ _ | with_reducible apply Out.there | with_reducible apply Out.app) tk_69 rfl rfl) ?_
        refine XL_det .no (D_pure rfl) rfl ?_
        refine XL_then ?_
        refine X_ret ?_
        refine ret_ok (.nil _) (res_celltmp rfl rfl (by repeat first | with_reducible exact .here _ _ | with_reducible apply Out.there | with_reducible apply Out.app) tk_69 (by rfl) rfl) ?_
        exact ⟨_, ⟨x, (fun _ => ⟨hx, hxo⟩), by unfold relR relRE; rw [if_neg (by rw [h1]; decide), if_neg (by rw [h1]; decide)], by unfold relR; rw [if_neg (by rw [h1]; decide)]⟩, _, (by repeat first | with_reducible exact .nil _ | with_reducible exact .here _ _ | exact .here _ _ | with_reducible exact Take.self _ | with_reducible apply Take.cons | with_reducible apply Out.there | with_reducible apply Take.skip | with_reducible exact Take.pre _ _ | with_reducible apply Out.app)⟩

end Go.Proofs.YtkkdchgnknpceaaDoor
end

section
namespace Go.Proofs.YtkkdchgnknpceaaDoor
open Go Go.Sl
set_option linter.unusedVariables false
set_option linter.unusedSimpArgs false
set_option maxRecDepth 4000
variable {B : Nat} {K : Asrt B}
theorem bld_76 : bldOf Tryd.prog 76 = some ([.int .i64 0, .int .i64 0, .int .i64 0, .int .i64 0, .bool false, .bool false], [(0, 1), (1, 1), (2, 1), (3, 1), (4, 1), (5, 1)]) := by kernel_rfl
theorem en_65 : Go.Proofs.Enters Tryd.prog 65 := Go.Proofs.enters_of Tryd.func65 (by kernel_rfl) rfl
theorem fld_66_1 : fldOff Tryd.prog 66 1 = some 1 := by kernel_rfl
theorem fld_66_2 : fldOff Tryd.prog 66 2 = some 2 := by kernel_rfl
theorem fld_66_3 : fldOff Tryd.prog 66 3 = some 3 := by kernel_rfl
theorem fld_76_1 : fldOff Tryd.prog 76 1 = some 1 := by kernel_rfl
theorem fld_76_2 : fldOff Tryd.prog 76 2 = some 2 := by kernel_rfl
theorem fld_76_3 : fldOff Tryd.prog 76 3 = some 3 := by kernel_rfl
theorem fld_76_4 : fldOff Tryd.prog 76 4 = some 4 := by kernel_rfl
theorem fld_76_5 : fldOff Tryd.prog 76 5 = some 5 := by kernel_rfl
theorem tk_76 : tyK Tryd.prog 76 = some (true, 6) := by kernel_rfl
theorem zero_66 : zeroOf Tryd.prog 66 = some [.bool false, .int .i64 0, .int .i64 0, .int .i64 0, .int .i64 0, .slice none 0 0] := by kernel_rfl
theorem zero_76 : zeroOf Tryd.prog 76 = some [.int .i64 0, .int .i64 0, .int .i64 0, .int .i64 0, .bool false, .bool false] := by kernel_rfl
theorem zk_66 : (match Tryd.prog.underlying 66 with | some (.struct _) => (bldOf Tryd.prog 66).isSome | some (.array _ e) => (Tryd.prog.info? e).isSome | _ => false) = true := by kernel_rfl
theorem rtick26 (s : Sr) (ho : SrOk s) (hj : ∀ k, k < 16 → s.lv k = true → 0 ≤ (s.jf k).done ∧ (s.jf k).done ≤ 100000000 ∧ -1000000000 ≤ (s.jf k).rel ∧ (s.jf k).rel ≤ 1000000000) (hn : 0 ≤ s.now ∧ s.now ≤ 1000000000) : Ctr Tryd.prog B 31 [.agg (srC s).toArray] [many 16 (rowS s.jf)] (fun v S => v = .tuple #[.agg (srC ((tickR s).1)).toArray, .agg (encRr (tickR s).2).toArray] ∧ S = [many 16 (rowS (tickR s).1.jf)]) := by
  refine Ctr_of_X (N := 74) Tryd.func31 rfl (by simp) rfl ?_
  intro w0 D0
  have hb := best_in s 16
  refine X_seq ?_
  refine X_region ?_
  refine XL_box (cs := srC s) .no rfl rfl rfl (fun b1 => ?_)
  refine XL_alloc (cs := srC sr0) .no zero_69 rfl (fun b2 => ?_)
  refine XL_alloc .no zero_76 rfl (fun b3 => ?_)
  refine XL_then ?_
  refine X_seq ?_
  refine X_region ?_
  refine XL_det .no (D_ldso (vs := srC s) rfl (by repeat first | with_reducible exact .here _ _ | with_reducible apply Out.there | with_reducible apply Out.app) tk_69 rfl (by rw [List.drop_zero, List.take_of_length_le (by rw [sr_len]; exact Nat.le_refl _)])) rfl ?_
  refine XL_callk .no en_65 rfl (rnext s ho) (by repeat first | with_reducible exact .nil _ | with_reducible exact .here _ _ | with_reducible exact Take.self _ | with_reducible apply Take.cons | with_reducible apply Out.there | with_reducible apply Take.skip | with_reducible exact Take.pre _ _ | with_reducible apply Out.app) rfl ?_
  refine XL_det .no (D_pure rfl) rfl ?_
  refine XL_then ?_
  refine X_seq ?_
  refine X_region ?_
  refine XL_det .no (D_fld rfl fld_69_2 (o' := 104) rfl) rfl ?_
  refine XL_det .no (D_ldo (v := .int .i64 s.now) rfl (by repeat first | with_reducible exact .here _ _ | with_reducible apply Out.there | with_reducible apply Out.app) tk_3 (sr_now s)) rfl ?_
  refine XL_det .no (D_add rfl rfl (by omega) (by omega)) rfl ?_
  refine XL_det .no (D_fld rfl fld_69_2 (o' := 104) rfl) rfl ?_
  refine XL_efd .no (F_st (k := 104) (cs' := srC (⟨s.jf, s.lv, s.tab, s.now + 1⟩ : Sr)) rfl rfl rfl (by repeat first | with_reducible exact .here _ _ | with_reducible apply Out.there | with_reducible apply Out.app) tk_3 (sr_lt _ (by omega)) (sr_setnow s _)) ?_
  refine XL_then ?_
  refine X_seq ?_
  refine X_seq ?_
  refine X_region ?_
  refine XL_det .no (D_pure rfl) rfl ?_
  refine XL_det .no (D_pure rfl) rfl ?_
  refine XL_then ?_
  refine X_cond rfl (fun h1 => ?_) (fun h1 => ?_)
  · try simp only [decide_eq_true_eq, decide_eq_false_iff_not, Bool.not_eq_true', Bool.not_eq_false', beq_iff_eq, bne_iff_ne, beq_eq_false_iff_ne, bne_eq_false_iff_eq, Int.not_lt, Int.not_le, gt_iff_lt, ge_iff_le, ne_eq] at h1
    refine X_seq ?_
    refine X_region ?_
    refine XL_det .no (D_ldso (vs := srC (⟨s.jf, s.lv, s.tab, s.now + 1⟩ : Sr)) rfl (by repeat first | with_reducible exact .here _ _ | with_reducible apply Out.there | with_reducible apply Out.app) tk_69 rfl (by rw [List.drop_zero, List.take_of_length_le (by rw [sr_len]; exact Nat.le_refl _)])) rfl ?_
    refine XL_det .no (D_build [_, _, _, _, _, _] rfl bld_76 (by rfl)) rfl ?_
    refine XL_efd .no (F_stw rfl rfl rfl (by repeat first | with_reducible exact .here _ _ | with_reducible apply Out.there | with_reducible apply Out.app) tk_69 rfl rfl) ?_
    refine XL_efd .no (F_stw rfl rfl rfl (by repeat first | with_reducible exact .here _ _ | with_reducible apply Out.there | with_reducible apply Out.app) tk_76 rfl rfl) ?_
    refine XL_then ?_
    refine X_ret ?_
    refine thenX_ret ?_
    refine ret_ok (.nil _) (res_aa rfl rfl rfl (by repeat first | with_reducible exact .here _ _ | with_reducible apply Out.there | with_reducible apply Out.app) (by repeat first | with_reducible exact .here _ _ | with_reducible apply Out.there | with_reducible apply Out.app) tk_69 tk_76 (by rfl) (by rfl)) ?_
    exact ⟨_, ⟨by rw [tickR_n h1], by rw [tickR_n h1]⟩, _, (by repeat first | with_reducible exact .nil _ | with_reducible exact .here _ _ | exact .here _ _ | with_reducible exact Take.self _ | with_reducible apply Take.cons | with_reducible apply Out.there | with_reducible apply Take.skip | with_reducible exact Take.pre _ _ | with_reducible apply Out.app)⟩
  · try simp only [decide_eq_true_eq, decide_eq_false_iff_not, Bool.not_eq_true', Bool.not_eq_false', beq_iff_eq, bne_iff_ne, beq_eq_false_iff_ne, bne_eq_false_iff_eq, Int.not_lt, Int.not_le, gt_iff_lt, ge_iff_le, ne_eq] at h1
    obtain ⟨k, hk⟩ := Int.eq_ofNat_of_zero_le (show 0 ≤ nextR s from h1)
    have hk_ : bestR s 16 = k := hk
    have hk16 : k < 16 := by omega
    have hlv : s.lv k = true := by have q := best_live s 16 (by omega); rwa [hk_, Int.toNat_natCast] at q
    obtain ⟨hj0, hj1, hj2, hj3⟩ := hj k hk16 hlv
    rw [hk]
    refine X_skip ?_
    refine thenX_normal ?_
    refine X_seq ?_
    refine X_region ?_
    refine XL_det .no (D_pure rfl) rfl ?_
    refine XL_det .no (D_fld rfl fld_69_0 (o' := 0) rfl) rfl ?_
    refine XL_det .no (D_idxA rfl rfl arr_67 rfl (by omega) rfl) rfl ?_
    refine XL_det .no (D_ldso (vs := encSj (s.lv k, s.jf k)) rfl (by repeat first | with_reducible exact .here _ _ | with_reducible apply Out.there | with_reducible apply Out.app) tk_66 (by rw [sr_len]; exact Nat.ble_eq_true_of_le (by omega)) (sr_job (⟨s.jf, s.lv, s.tab, s.now + 1⟩ : Sr) hk16)) rfl ?_
    refine XL_alloc .no zero_66 rfl (fun b4 => ?_)
    refine XL_efd .no (F_stw rfl rfl rfl (by repeat first | with_reducible exact .here _ _ | with_reducible apply Out.there | with_reducible apply Out.app) tk_66 rfl rfl) ?_
    refine XL_then ?_
    refine X_seq ?_
    refine X_region ?_
    refine XL_det .no (D_pure rfl) rfl ?_
    refine XL_det .no (D_build [_, _, _, _, _, _] rfl bld_76 (by rfl)) rfl ?_
    refine XL_alloc .no zero_76 rfl (fun b5 => ?_)
    refine XL_efd .no (F_stw rfl rfl rfl (by repeat first | with_reducible exact .here _ _ | with_reducible apply Out.there | with_reducible apply Out.app) tk_76 rfl rfl) ?_
    refine XL_then ?_
    refine X_seq ?_
    refine X_region ?_
    refine XL_det .no (D_fld rfl fld_66_5 (o' := 5) rfl) rfl ?_
    refine XL_det .no (D_ldo rfl (by repeat first | with_reducible exact .here _ _ | with_reducible apply Out.there | with_reducible apply Out.app) tk_39 (by rfl)) rfl ?_
    refine XL_det .no (D_fld rfl fld_66_4 (o' := 4) rfl) rfl ?_
    refine XL_det .no (D_ldo rfl (by repeat first | with_reducible exact .here _ _ | with_reducible apply Out.there | with_reducible apply Out.app) tk_3 (by rfl)) rfl ?_
    refine XL_callk .no en_66 rfl (rtake (Kj := many 16 (rowS s.jf)) (s.jf k).secs (s.jf k).done (Rd_many hk16 (Rd_own (ho.own _ hk16) rfl))) (by repeat first | with_reducible exact .nil _ | with_reducible exact .here _ _ | with_reducible exact Take.self _ | with_reducible apply Take.cons | with_reducible apply Out.there | with_reducible apply Take.skip | with_reducible exact Take.pre _ _ | with_reducible apply Out.app) rfl ?_
    refine XL_det .no (D_pure rfl) rfl ?_
    refine XL_then ?_
    refine X_seqj (α := Unit) (fun _ => True) (fun _ => [(1, .pointer (some ⟨b1, 0, none⟩)), (2, .pointer (some ⟨b2, 0, none⟩)), (3, .pointer (some ⟨b3, 0, none⟩)), (4, .int .i64 (k : Int)), (5, .pointer (some ⟨b4, 0, none⟩)), (6, .pointer (some ⟨b5, 0, none⟩)), (7, .int .i64 (takeR (s.jf k).secs.l (s.jf k).done))]) (fun _ => [blk b1 (srC (⟨s.jf, s.lv, s.tab, s.now + 1⟩ : Sr)) 69, blk b2 (srC sr0) 69, blk b3 [.int .i64 0, .int .i64 0, .int .i64 0, .int .i64 0, .bool false, .bool false] 76, blk b4 [.bool (s.lv k), .int .i64 (s.jf k).rel, .int .i64 (s.jf k).dl, .int .i64 (s.jf k).cost, .int .i64 (s.jf k).done, .slice (s.jf k).secs.oad (s.jf k).secs.l.length (s.jf k).secs.c] 66, blk b5 [.int .i64 (k : Int), .int .i64 (tookR (s.jf k)), .int .i64 (-1), .int .i64 0, .bool false, .bool false] 76, many 16 (rowS s.jf)]) ?_ ?_
    · skip
      refine X_seq ?_
      refine X_region ?_
      refine XL_det .no (D_fld rfl fld_66_5 (o' := 5) rfl) rfl ?_
      refine XL_det .no (D_ldo rfl (by repeat first | with_reducible exact .here _ _ | with_reducible apply Out.there | with_reducible apply Out.app) tk_39 (by rfl)) rfl ?_
      refine XL_det .no (D_fld rfl fld_66_4 (o' := 4) rfl) rfl ?_
      refine XL_det .no (D_ldo rfl (by repeat first | with_reducible exact .here _ _ | with_reducible apply Out.there | with_reducible apply Out.app) tk_3 (by rfl)) rfl ?_
      refine XL_callk .no en_66 rfl (rhold (Kj := many 16 (rowS s.jf)) (s.jf k).secs (s.jf k).done (Rd_many hk16 (Rd_own (ho.own _ hk16) rfl))) (by repeat first | with_reducible exact .nil _ | with_reducible exact .here _ _ | with_reducible exact Take.self _ | with_reducible apply Take.cons | with_reducible apply Out.there | with_reducible apply Take.skip | with_reducible exact Take.pre _ _ | with_reducible apply Out.app) rfl ?_
      refine XL_det .no (D_pure rfl) rfl ?_
      refine XL_then ?_
      refine X_cond rfl (fun h2 => ?_) (fun h2 => ?_)
      · try simp only [decide_eq_true_eq, decide_eq_false_iff_not, Bool.not_eq_true', Bool.not_eq_false', beq_iff_eq, bne_iff_ne, beq_eq_false_iff_ne, bne_eq_false_iff_eq, Int.not_lt, Int.not_le, gt_iff_lt, ge_iff_le, ne_eq] at h2
        refine X_region ?_
        refine XL_det .no (D_pure rfl) rfl ?_
        refine XL_det .no (D_fld rfl fld_76_1 (o' := 1) rfl) rfl ?_
        refine XL_efd .no (F_stl rfl rfl rfl (by repeat first | with_reducible exact .here _ _ | with_reducible apply Out.there | with_reducible apply Out.app) tk_3 (by repeat first | exact .zero _ _ _ | apply SetL.succ)) ?_
        refine XL_nil ?_
        rw [show (takeR (s.jf k).secs.l (s.jf k).done) = tookR (s.jf k) from by unfold tookR; rw [if_pos h2]]
        refine joinQ_normal () ?_ ?_ ?_
        · trivial
        · refine ⟨?_, ?_, ?_, ?_, ?_, ?_, ?_, trivial⟩ <;> rfl
        · exact ⟨_, (by repeat first | with_reducible exact .nil _ | with_reducible exact .here _ _ | with_reducible exact Take.self _ | with_reducible apply Take.cons | with_reducible apply Out.there | with_reducible apply Take.skip | with_reducible exact Take.pre _ _ | with_reducible apply Out.app)⟩
      · try simp only [decide_eq_true_eq, decide_eq_false_iff_not, Bool.not_eq_true', Bool.not_eq_false', beq_iff_eq, bne_iff_ne, beq_eq_false_iff_ne, bne_eq_false_iff_eq, Int.not_lt, Int.not_le, gt_iff_lt, ge_iff_le, ne_eq] at h2
        refine X_skip ?_
        rw [show (blk b5 [.int .i64 (k : Int), .int .i64 (-1), .int .i64 (-1), .int .i64 0, .bool false, .bool false] 76 : Asrt B) = blk b5 [.int .i64 (k : Int), .int .i64 (tookR (s.jf k)), .int .i64 (-1), .int .i64 0, .bool false, .bool false] 76 from by rw [show tookR (s.jf k) = -1 from by unfold tookR; rw [if_neg (show ¬ hold (s.jf k).secs.l (s.jf k).done < 0 from Int.not_lt.2 h2)]]]
        refine joinQ_normal () ?_ ?_ ?_
        · trivial
        · refine ⟨?_, ?_, ?_, ?_, ?_, ?_, ?_, trivial⟩ <;> rfl
        · exact ⟨_, (by repeat first | with_reducible exact .nil _ | with_reducible exact .here _ _ | with_reducible exact Take.self _ | with_reducible apply Take.cons | with_reducible apply Out.there | with_reducible apply Take.skip | with_reducible exact Take.pre _ _ | with_reducible apply Out.app)⟩
    · rintro _ _
      refine X_seq ?_
      refine X_region ?_
      refine XL_det .no (D_fld rfl fld_66_4 (o' := 4) rfl) rfl ?_
      refine XL_det .no (D_ldo rfl (by repeat first | with_reducible exact .here _ _ | with_reducible apply Out.there | with_reducible apply Out.app) tk_3 (by rfl)) rfl ?_
      refine XL_det .no (D_add rfl rfl (by omega) (by omega)) rfl ?_
      refine XL_det .no (D_fld rfl fld_66_4 (o' := 4) rfl) rfl ?_
      refine XL_efd .no (F_stl rfl rfl rfl (by repeat first | with_reducible exact .here _ _ | with_reducible apply Out.there | with_reducible apply Out.app) tk_3 (by repeat first | exact .zero _ _ _ | apply SetL.succ)) ?_
      refine XL_then ?_
      refine X_seqj (α := Unit) (fun _ => True) (fun _ => [(1, .pointer (some ⟨b1, 0, none⟩)), (2, .pointer (some ⟨b2, 0, none⟩)), (3, .pointer (some ⟨b3, 0, none⟩)), (4, .int .i64 (k : Int)), (5, .pointer (some ⟨b4, 0, none⟩)), (6, .pointer (some ⟨b5, 0, none⟩)), (7, .int .i64 (takeR (s.jf k).secs.l (s.jf k).done))]) (fun _ => [blk b1 (srC (⟨s.jf, s.lv, s.tab, s.now + 1⟩ : Sr)) 69, blk b2 (srC sr0) 69, blk b3 [.int .i64 0, .int .i64 0, .int .i64 0, .int .i64 0, .bool false, .bool false] 76, blk b4 [.bool (s.lv k), .int .i64 (s.jf k).rel, .int .i64 (s.jf k).dl, .int .i64 (s.jf k).cost, .int .i64 ((s.jf k).done + 1), .slice (s.jf k).secs.oad (s.jf k).secs.l.length (s.jf k).secs.c] 66, blk b5 [.int .i64 (k : Int), .int .i64 (tookR (s.jf k)), .int .i64 (gaveR (s.jf k)), .int .i64 0, .bool false, .bool false] 76, many 16 (rowS s.jf)]) ?_ ?_
      · skip
        refine X_seq ?_
        refine X_region ?_
        refine XL_det .no (D_fld rfl fld_66_5 (o' := 5) rfl) rfl ?_
        refine XL_det .no (D_ldo rfl (by repeat first | with_reducible exact .here _ _ | with_reducible apply Out.there | with_reducible apply Out.app) tk_39 (by rfl)) rfl ?_
        refine XL_det .no (D_fld rfl fld_66_4 (o' := 4) rfl) rfl ?_
        refine XL_det .no (D_ldo rfl (by repeat first | with_reducible exact .here _ _ | with_reducible apply Out.there | with_reducible apply Out.app) tk_3 (by rfl)) rfl ?_
        refine XL_callk .no en_66 rfl (rhold (Kj := many 16 (rowS s.jf)) (s.jf k).secs ((s.jf k).done + 1) (Rd_many hk16 (Rd_own (ho.own _ hk16) rfl))) (by repeat first | with_reducible exact .nil _ | with_reducible exact .here _ _ | with_reducible exact Take.self _ | with_reducible apply Take.cons | with_reducible apply Out.there | with_reducible apply Take.skip | with_reducible exact Take.pre _ _ | with_reducible apply Out.app) rfl ?_
        refine XL_det .no (D_pure rfl) rfl ?_
        refine XL_then ?_
        refine X_cond rfl (fun h3 => ?_) (fun h3 => ?_)
        · try simp only [decide_eq_true_eq, decide_eq_false_iff_not, Bool.not_eq_true', Bool.not_eq_false', beq_iff_eq, bne_iff_ne, beq_eq_false_iff_ne, bne_eq_false_iff_eq, Int.not_lt, Int.not_le, gt_iff_lt, ge_iff_le, ne_eq] at h3
          refine X_region ?_
          refine XL_det .no (D_pure rfl) rfl ?_
          refine XL_det .no (D_fld rfl fld_76_2 (o' := 2) rfl) rfl ?_
          refine XL_efd .no (F_stl rfl rfl rfl (by repeat first | with_reducible exact .here _ _ | with_reducible apply Out.there | with_reducible apply Out.app) tk_3 (by repeat first | exact .zero _ _ _ | apply SetL.succ)) ?_
          refine XL_nil ?_
          rw [show (takeR (s.jf k).secs.l (s.jf k).done) = gaveR (s.jf k) from by unfold gaveR; rw [if_pos h3]]
          refine joinQ_normal () ?_ ?_ ?_
          · trivial
          · refine ⟨?_, ?_, ?_, ?_, ?_, ?_, ?_, trivial⟩ <;> rfl
          · exact ⟨_, (by repeat first | with_reducible exact .nil _ | with_reducible exact .here _ _ | with_reducible exact Take.self _ | with_reducible apply Take.cons | with_reducible apply Out.there | with_reducible apply Take.skip | with_reducible exact Take.pre _ _ | with_reducible apply Out.app)⟩
        · try simp only [decide_eq_true_eq, decide_eq_false_iff_not, Bool.not_eq_true', Bool.not_eq_false', beq_iff_eq, bne_iff_ne, beq_eq_false_iff_ne, bne_eq_false_iff_eq, Int.not_lt, Int.not_le, gt_iff_lt, ge_iff_le, ne_eq] at h3
          refine X_skip ?_
          rw [show (blk b5 [.int .i64 (k : Int), .int .i64 (tookR (s.jf k)), .int .i64 (-1), .int .i64 0, .bool false, .bool false] 76 : Asrt B) = blk b5 [.int .i64 (k : Int), .int .i64 (tookR (s.jf k)), .int .i64 (gaveR (s.jf k)), .int .i64 0, .bool false, .bool false] 76 from by rw [show gaveR (s.jf k) = -1 from by unfold gaveR; rw [if_neg (show ¬ hold (s.jf k).secs.l ((s.jf k).done + 1) < 0 from Int.not_lt.2 h3)]]]
          refine joinQ_normal () ?_ ?_ ?_
          · trivial
          · refine ⟨?_, ?_, ?_, ?_, ?_, ?_, ?_, trivial⟩ <;> rfl
          · exact ⟨_, (by repeat first | with_reducible exact .nil _ | with_reducible exact .here _ _ | with_reducible exact Take.self _ | with_reducible apply Take.cons | with_reducible apply Out.there | with_reducible apply Take.skip | with_reducible exact Take.pre _ _ | with_reducible apply Out.app)⟩
      · rintro _ _
        refine X_seq ?_
        refine X_seq ?_
        refine X_region ?_
        refine XL_det .no (D_fld rfl fld_66_4 (o' := 4) rfl) rfl ?_
        refine XL_det .no (D_ldo rfl (by repeat first | with_reducible exact .here _ _ | with_reducible apply Out.there | with_reducible apply Out.app) tk_3 (by rfl)) rfl ?_
        refine XL_det .no (D_fld rfl fld_66_3 (o' := 3) rfl) rfl ?_
        refine XL_det .no (D_ldo rfl (by repeat first | with_reducible exact .here _ _ | with_reducible apply Out.there | with_reducible apply Out.app) tk_3 (by rfl)) rfl ?_
        refine XL_det .no (D_pure rfl) rfl ?_
        refine XL_then ?_
        refine X_cond rfl (fun h4 => ?_) (fun h4 => ?_)
        · try simp only [decide_eq_true_eq, decide_eq_false_iff_not, Bool.not_eq_true', Bool.not_eq_false', beq_iff_eq, bne_iff_ne, beq_eq_false_iff_ne, bne_eq_false_iff_eq, Int.not_lt, Int.not_le, gt_iff_lt, ge_iff_le, ne_eq] at h4
          refine X_seq ?_
          refine X_region ?_
          refine XL_det .no (D_fld rfl fld_76_4 (o' := 4) rfl) rfl ?_
          refine XL_efd .no (F_stl rfl rfl rfl (by repeat first | with_reducible exact .here _ _ | with_reducible apply Out.there | with_reducible apply Out.app) tk_4 (by repeat first | exact .zero _ _ _ | apply SetL.succ)) ?_
          refine XL_then ?_
          refine X_seq ?_
          refine X_region ?_
          refine XL_det .no (D_fld rfl fld_69_2 (o' := 104) rfl) rfl ?_
          refine XL_det .no (D_ldo (v := .int .i64 (s.now + 1)) rfl (by repeat first | with_reducible exact .here _ _ | with_reducible apply Out.there | with_reducible apply Out.app) tk_3 (sr_now (⟨s.jf, s.lv, s.tab, s.now + 1⟩ : Sr))) rfl ?_
          refine XL_det .no (D_fld rfl fld_66_1 (o' := 1) rfl) rfl ?_
          refine XL_det .no (D_ldo rfl (by repeat first | with_reducible exact .here _ _ | with_reducible apply Out.there | with_reducible apply Out.app) tk_3 (by rfl)) rfl ?_
          refine XL_det .no (D_sub rfl rfl (by omega) (by omega)) rfl ?_
          refine XL_det .no (D_fld rfl fld_76_3 (o' := 3) rfl) rfl ?_
          refine XL_efd .no (F_stl rfl rfl rfl (by repeat first | with_reducible exact .here _ _ | with_reducible apply Out.there | with_reducible apply Out.app) tk_3 (by repeat first | exact .zero _ _ _ | apply SetL.succ)) ?_
          refine XL_then ?_
          refine X_seq ?_
          refine X_region ?_
          refine XL_det .no (D_fld rfl fld_69_2 (o' := 104) rfl) rfl ?_
          refine XL_det .no (D_ldo (v := .int .i64 (s.now + 1)) rfl (by repeat first | with_reducible exact .here _ _ | with_reducible apply Out.there | with_reducible apply Out.app) tk_3 (sr_now (⟨s.jf, s.lv, s.tab, s.now + 1⟩ : Sr))) rfl ?_
          refine XL_det .no (D_fld rfl fld_66_2 (o' := 2) rfl) rfl ?_
          refine XL_det .no (D_ldo rfl (by repeat first | with_reducible exact .here _ _ | with_reducible apply Out.there | with_reducible apply Out.app) tk_3 (by rfl)) rfl ?_
          refine XL_det .no (D_pure rfl) rfl ?_
          refine XL_det .no (D_fld rfl fld_76_5 (o' := 5) rfl) rfl ?_
          refine XL_efd .no (F_stl rfl rfl rfl (by repeat first | with_reducible exact .here _ _ | with_reducible apply Out.there | with_reducible apply Out.app) tk_4 (by repeat first | exact .zero _ _ _ | apply SetL.succ)) ?_
          refine XL_then ?_
          refine X_region ?_
          refine XL_rowa encS 123 3 ?_
          refine XL_many_out (d := k) hk16 (by repeat first | with_reducible exact .nil _ | with_reducible exact .here _ _ | with_reducible exact Take.self _ | with_reducible apply Take.cons | with_reducible apply Out.there | with_reducible apply Take.skip | with_reducible exact Take.pre _ _ | with_reducible apply Out.app) ?_
          refine XL_many_in (G := rowS1 JZ) hk16 (by repeat first | with_reducible exact .nil _ | with_reducible exact .here _ _ | with_reducible exact Take.self _ | with_reducible apply Take.cons | with_reducible apply Out.there | with_reducible apply Take.skip | with_reducible exact Take.pre _ _ | with_reducible apply Out.app) ?_
          rw [rowS_upd]
          refine XL_det .no (D_zero zero_66 zk_66) rfl ?_
          refine XL_efd .no (F_stw rfl rfl rfl (by repeat first | with_reducible exact .here _ _ | with_reducible apply Out.there | with_reducible apply Out.app) tk_66 rfl rfl) ?_
          refine XL_then ?_
          refine X_seq ?_
          refine X_region ?_
          refine XL_det .no (D_pure rfl) rfl ?_
          refine XL_det .no (D_ldso rfl (by repeat first | with_reducible exact .here _ _ | with_reducible apply Out.there | with_reducible apply Out.app) tk_66 rfl (by rfl)) rfl ?_
          refine XL_det .no (D_fld rfl fld_69_0 (o' := 0) rfl) rfl ?_
          refine XL_det .no (D_idxA rfl rfl arr_67 rfl (by omega) rfl) rfl ?_
          refine XL_efd .no (F_sts (k := 0 + k * 6) (n := 6) (cs' := srC (⟨upd s.jf k JZ, upd s.lv k false, s.tab, s.now + 1⟩ : Sr)) rfl rfl (by intro u hu; simp at hu; rcases hu with rfl | rfl | rfl | rfl | rfl | rfl <;> rfl) (by repeat first | with_reducible exact .here _ _ | with_reducible apply Out.there | with_reducible apply Out.app) tk_66 rfl (by rw [sr_len]; exact Nat.ble_eq_true_of_le (by omega)) (sr_stsjob (⟨s.jf, s.lv, s.tab, s.now + 1⟩ : Sr) hk16 false JZ)) ?_
          refine XL_then ?_
          refine X_seq ?_
          refine X_drawk [blk b1 (srC (⟨upd s.jf k JZ, upd s.lv k false, s.tab, s.now + 1⟩ : Sr)) 69, blk b5 (encRr (⟨k, tookR (s.jf k), gaveR (s.jf k), true, s.now + 1 - (s.jf k).rel, decide (s.now + 1 > (s.jf k).dl)⟩ : Ran)) 76] mixed (by repeat first | with_reducible exact .nil _ | with_reducible exact .here _ _ | with_reducible exact Take.self _ | with_reducible apply Take.cons | with_reducible apply Out.there | with_reducible apply Take.skip | with_reducible exact Take.pre _ _ | with_reducible apply Out.app) ?_
          refine XA_det 0 rfl (by kernel_rfl) (by kernel_rfl) (by kernel_rfl) (by kernel_rfl) (fun _ _ _ _ h => h) .no (D_ldso (vs := srC (⟨upd s.jf k JZ, upd s.lv k false, s.tab, s.now + 1⟩ : Sr)) rfl (by repeat first | with_reducible exact .here _ _ | with_reducible apply Out.there | with_reducible apply Out.app) tk_69 rfl (by rw [List.drop_zero, List.take_of_length_le (by rw [sr_len]; exact Nat.le_refl _)])) rfl ?_
          refine XA_det 1 rfl (by kernel_rfl) (by kernel_rfl) (by kernel_rfl) (by kernel_rfl) (fun _ _ _ _ h => h) .no (D_ldso (vs := encRr (⟨k, tookR (s.jf k), gaveR (s.jf k), true, s.now + 1 - (s.jf k).rel, decide (s.now + 1 > (s.jf k).dl)⟩ : Ran)) rfl (by repeat first | with_reducible exact .here _ _ | with_reducible apply Out.there | with_reducible apply Out.app) tk_76 rfl (by rfl)) rfl ?_
          refine XA_one 2 (by kernel_rfl) ?_
          refine XO_efk rfl .no (by repeat first | with_reducible exact .nil _ | with_reducible apply App.cons) (F_stw rfl rfl rfl (by repeat first | with_reducible exact .here _ _ | with_reducible apply Out.there | with_reducible apply Out.app) tk_69 rfl rfl) (by repeat first | with_reducible exact .nil _ | with_reducible exact .here _ _ | with_reducible exact Take.self _ | with_reducible apply Take.cons | with_reducible apply Out.there | with_reducible apply Take.skip | with_reducible exact Take.pre _ _ | with_reducible apply Out.app) ?_
          refine XA_one 3 (by kernel_rfl) ?_
          refine XO_efk rfl .no (by repeat first | with_reducible exact .nil _ | with_reducible apply App.cons) (F_stw rfl rfl rfl (by repeat first | with_reducible exact .here _ _ | with_reducible apply Out.there | with_reducible apply Out.app) tk_76 rfl rfl) (by repeat first | with_reducible exact .nil _ | with_reducible exact .here _ _ | with_reducible exact Take.self _ | with_reducible apply Take.cons | with_reducible apply Out.there | with_reducible apply Take.skip | with_reducible exact Take.pre _ _ | with_reducible apply Out.app) ?_
          refine XA_done (by kernel_rfl) ?_
          try simp only [List.cons_append, List.nil_append, List.append_nil]
          refine thenX_normal ?_
          refine X_ret ?_
          refine ret_ok (.nil _) (res_aa rfl rfl rfl (by repeat first | with_reducible exact .here _ _ | with_reducible apply Out.there | with_reducible apply Out.app) (by repeat first | with_reducible exact .here _ _ | with_reducible apply Out.there | with_reducible apply Out.app) tk_69 tk_76 (by rfl) (by rfl)) ?_
          have hS : tickS s k = (⟨upd s.jf k JZ, upd s.lv k false, s.tab, s.now + 1⟩ : Sr) := by unfold tickS; rw [if_pos h4]
          have hX : tickX s k = (⟨k, tookR (s.jf k), gaveR (s.jf k), true, s.now + 1 - (s.jf k).rel, decide (s.now + 1 > (s.jf k).dl)⟩ : Ran) := by unfold tickX; rw [if_pos h4]
          have hT : tickR s = ((⟨upd s.jf k JZ, upd s.lv k false, s.tab, s.now + 1⟩ : Sr), (⟨k, tookR (s.jf k), gaveR (s.jf k), true, s.now + 1 - (s.jf k).rel, decide (s.now + 1 > (s.jf k).dl)⟩ : Ran)) := by rw [tickR_k hk, hS, hX]
          exact ⟨_, ⟨by rw [hT], by rw [hT]⟩, _, (by repeat first | with_reducible exact .nil _ | with_reducible exact .here _ _ | exact .here _ _ | with_reducible exact Take.self _ | with_reducible apply Take.cons | with_reducible apply Out.there | with_reducible apply Take.skip | with_reducible exact Take.pre _ _ | with_reducible apply Out.app)⟩
        · try simp only [decide_eq_true_eq, decide_eq_false_iff_not, Bool.not_eq_true', Bool.not_eq_false', beq_iff_eq, bne_iff_ne, beq_eq_false_iff_ne, bne_eq_false_iff_eq, Int.not_lt, Int.not_le, gt_iff_lt, ge_iff_le, ne_eq] at h4
          refine X_skip ?_
          refine thenX_normal ?_
          refine X_seq ?_
          refine X_region ?_
          refine XL_det .no (D_pure rfl) rfl ?_
          refine XL_det .no (D_ldso rfl (by repeat first | with_reducible exact .here _ _ | with_reducible apply Out.there | with_reducible apply Out.app) tk_66 rfl (by rfl)) rfl ?_
          refine XL_det .no (D_fld rfl fld_69_0 (o' := 0) rfl) rfl ?_
          refine XL_det .no (D_idxA rfl rfl arr_67 rfl (by omega) rfl) rfl ?_
          refine XL_efd .no (F_sts (k := 0 + k * 6) (n := 6) (cs' := srC (⟨upd s.jf k (doneJ (s.jf k)), upd s.lv k (s.lv k), s.tab, s.now + 1⟩ : Sr)) rfl rfl (by intro u hu; simp at hu; rcases hu with rfl | rfl | rfl | rfl | rfl | rfl <;> rfl) (by repeat first | with_reducible exact .here _ _ | with_reducible apply Out.there | with_reducible apply Out.app) tk_66 rfl (by rw [sr_len]; exact Nat.ble_eq_true_of_le (by omega)) (sr_stsjob (⟨s.jf, s.lv, s.tab, s.now + 1⟩ : Sr) hk16 (s.lv k) (doneJ (s.jf k)))) ?_
          refine XL_then ?_
          refine X_seq ?_
          refine X_drawk [blk b1 (srC (⟨upd s.jf k (doneJ (s.jf k)), upd s.lv k (s.lv k), s.tab, s.now + 1⟩ : Sr)) 69, blk b5 (encRr (⟨k, tookR (s.jf k), gaveR (s.jf k), false, 0, false⟩ : Ran)) 76] mixed (by repeat first | with_reducible exact .nil _ | with_reducible exact .here _ _ | with_reducible exact Take.self _ | with_reducible apply Take.cons | with_reducible apply Out.there | with_reducible apply Take.skip | with_reducible exact Take.pre _ _ | with_reducible apply Out.app) ?_
          refine XA_det 0 rfl (by kernel_rfl) (by kernel_rfl) (by kernel_rfl) (by kernel_rfl) (fun _ _ _ _ h => h) .no (D_ldso (vs := srC (⟨upd s.jf k (doneJ (s.jf k)), upd s.lv k (s.lv k), s.tab, s.now + 1⟩ : Sr)) rfl (by repeat first | with_reducible exact .here _ _ | with_reducible apply Out.there | with_reducible apply Out.app) tk_69 rfl (by rw [List.drop_zero, List.take_of_length_le (by rw [sr_len]; exact Nat.le_refl _)])) rfl ?_
          refine XA_det 1 rfl (by kernel_rfl) (by kernel_rfl) (by kernel_rfl) (by kernel_rfl) (fun _ _ _ _ h => h) .no (D_ldso (vs := encRr (⟨k, tookR (s.jf k), gaveR (s.jf k), false, 0, false⟩ : Ran)) rfl (by repeat first | with_reducible exact .here _ _ | with_reducible apply Out.there | with_reducible apply Out.app) tk_76 rfl (by rfl)) rfl ?_
          refine XA_one 2 (by kernel_rfl) ?_
          refine XO_efk rfl .no (by repeat first | with_reducible exact .nil _ | with_reducible apply App.cons) (F_stw rfl rfl rfl (by repeat first | with_reducible exact .here _ _ | with_reducible apply Out.there | with_reducible apply Out.app) tk_69 rfl rfl) (by repeat first | with_reducible exact .nil _ | with_reducible exact .here _ _ | with_reducible exact Take.self _ | with_reducible apply Take.cons | with_reducible apply Out.there | with_reducible apply Take.skip | with_reducible exact Take.pre _ _ | with_reducible apply Out.app) ?_
          refine XA_one 3 (by kernel_rfl) ?_
          refine XO_efk rfl .no (by repeat first | with_reducible exact .nil _ | with_reducible apply App.cons) (F_stw rfl rfl rfl (by repeat first | with_reducible exact .here _ _ | with_reducible apply Out.there | with_reducible apply Out.app) tk_76 rfl rfl) (by repeat first | with_reducible exact .nil _ | with_reducible exact .here _ _ | with_reducible exact Take.self _ | with_reducible apply Take.cons | with_reducible apply Out.there | with_reducible apply Take.skip | with_reducible exact Take.pre _ _ | with_reducible apply Out.app) ?_
          refine XA_done (by kernel_rfl) ?_
          try simp only [List.cons_append, List.nil_append, List.append_nil]
          refine thenX_normal ?_
          refine X_ret ?_
          refine ret_ok (.nil _) (res_aa rfl rfl rfl (by repeat first | with_reducible exact .here _ _ | with_reducible apply Out.there | with_reducible apply Out.app) (by repeat first | with_reducible exact .here _ _ | with_reducible apply Out.there | with_reducible apply Out.app) tk_69 tk_76 (by rfl) (by rfl)) ?_
          have hS : tickS s k = (⟨upd s.jf k (doneJ (s.jf k)), upd s.lv k (s.lv k), s.tab, s.now + 1⟩ : Sr) := by unfold tickS; rw [if_neg h4]
          have hX : tickX s k = (⟨k, tookR (s.jf k), gaveR (s.jf k), false, 0, false⟩ : Ran) := by unfold tickX; rw [if_neg h4]
          have hT : tickR s = ((⟨upd s.jf k (doneJ (s.jf k)), upd s.lv k (s.lv k), s.tab, s.now + 1⟩ : Sr), (⟨k, tookR (s.jf k), gaveR (s.jf k), false, 0, false⟩ : Ran)) := by rw [tickR_k hk, hS, hX]
          rw [← rowS_done s.jf k ((s.jf k).done + 1)]
          exact ⟨_, ⟨by rw [hT], by rw [hT]⟩, _, (by repeat first | with_reducible exact .nil _ | with_reducible exact .here _ _ | exact .here _ _ | with_reducible exact Take.self _ | with_reducible apply Take.cons | with_reducible apply Out.there | with_reducible apply Take.skip | with_reducible exact Take.pre _ _ | with_reducible apply Out.app)⟩

end Go.Proofs.YtkkdchgnknpceaaDoor
end

section
/- The document's jobs and the program's are alike. Plain. -/
namespace Go.Proofs.YtkkdchgnknpceaaDoor
open Go Go.Sl
set_option linter.unusedVariables false
set_option linter.unusedSimpArgs false
structure Like (c : Cr) (s : Sr) : Prop where
  ok : COk c
  so : SrOk s
  live : ∀ i, i < 16 → (s.lv i = true ↔ c.L i)
  job : ∀ i, i < 16 → c.L i → (s.jf i).rel = (c.jf i).rel ∧ (s.jf i).dl = (c.jf i).dl ∧ (s.jf i).cost = (c.jf i).cost ∧ (s.jf i).done = (c.jf i).done ∧ (s.jf i).secs.l = (c.jf i).secs.l
  tab : ∀ r, r < 8 → s.tab r = c.tab r
  now : s.now = c.now
  real : ∀ i, c.L i → ∃ T : Nat → Int, okL T (c.jf i).cost 0 (c.jf i).secs.l ∧ (c.jf i).done < (c.jf i).cost
  len : ∀ i, c.L i → (c.jf i).secs.l.length ≤ 8
section
variable {c : Cr} {s : Sr}
theorem hold_lt {T : Nat → Int} {cost lo : Int} {l : List Sec} {d : Int} (h : okL T cost lo l) : hold l d < 8 := by
  by_cases g : 0 ≤ hold l d
  · obtain ⟨j, h8, hj, _⟩ := rem_le h g; omega
  · omega
theorem take_m1 {T : Nat → Int} {cost lo : Int} {l : List Sec} {d : Int} (h : okL T cost lo l) (g : ¬ 0 ≤ takeR l d) : takeR l d = -1 := by
  unfold takeR at g ⊢
  cases hf : l.find? (takesP d) with
  | none => rfl
  | some q =>
    exfalso
    rw [hf] at g
    obtain ⟨_, _, _, j, hj, _⟩ := okL_lo h q (List.mem_of_find?_eq_some hf)
    apply g; show 0 ≤ q.1; omega
theorem Like.h16 (h : Like c s) {i : Nat} (hi : c.L i) : i < 16 := (h.ok.live i hi).1
theorem Like.H (h : Like c s) {i : Nat} (hi : c.L i) : s.H i = c.H i := by
  obtain ⟨_, _, _, h4, h5⟩ := h.job i (h.h16 hi) hi
  show hold _ _ = hold _ _; rw [h4, h5]
theorem Like.goes (h : Like c s) {i : Nat} (hi : c.L i) : goesR s i = c.eff i := by
  have e := h.H hi
  have h8 := h.so.h8 i (h.h16 hi)
  unfold goesR
  show _ = levelV c.tab i (c.H i)
  rw [← e]
  unfold levelV atV
  by_cases g : 0 ≤ s.H i
  · obtain ⟨r, hr⟩ := Int.eq_ofNat_of_zero_le g
    rw [hr, Int.toNat_natCast, h.tab r (by omega), if_neg (show ¬ ((r : Nat) : Int) < 0 by omega), if_pos (show 0 ≤ (r : Int) ∧ (r : Int) < 8 by omega)]
    split <;> omega
  · rw [if_neg (fun q => g q.1), if_pos (by omega)]
theorem Like.ahead (h : Like c s) {i k : Nat} (hi : c.L i) (hk : c.L k) (hn : i ≠ k) : aheadR s i k = true ↔ c.lv i < c.lv k ∨ (c.lv i = c.lv k ∧ i < k) := by
  have ei := h.H hi
  have ek := h.H hk
  unfold aheadR
  rw [h.goes hi, h.goes hk, ei, ek]
  by_cases gi : 0 ≤ c.H i
  · have li := lv_held h.ok hi gi
    by_cases gk : 0 ≤ c.H k
    · have lk := lv_held h.ok hk gk
      rw [li, lk, decide_eq_true (show c.H i ≥ 0 from gi), decide_eq_true (show c.H k ≥ 0 from gk)]
      by_cases e : c.eff i = c.eff k
      · rw [if_pos e, if_pos rfl, decide_eq_true_eq]; omega
      · rw [if_neg e, decide_eq_true_eq]; omega
    · have lk := lv_free h.ok hk (by omega)
      have ee : c.eff k = k := by show levelV _ _ _ = _; unfold levelV; rw [if_pos (by omega)]
      rw [li, lk, ee, decide_eq_true (show c.H i ≥ 0 from gi), decide_eq_false (show ¬ c.H k ≥ 0 from gk)]
      by_cases e : c.eff i = k
      · rw [if_pos e, if_neg (by decide)]; constructor <;> intro _ <;> first | rfl | (left; omega)
      · rw [if_neg e, decide_eq_true_eq]; omega
  · have li := lv_free h.ok hi (by omega)
    have ee : c.eff i = i := by show levelV _ _ _ = _; unfold levelV; rw [if_pos (by omega)]
    by_cases gk : 0 ≤ c.H k
    · have lk := lv_held h.ok hk gk
      rw [li, lk, ee, decide_eq_false (show ¬ c.H i ≥ 0 from gi), decide_eq_true (show c.H k ≥ 0 from gk)]
      by_cases e : (i : Int) = c.eff k
      · rw [if_pos e, if_neg (by decide)]
        constructor
        · intro q; cases q
        · intro q; omega
      · rw [if_neg e, decide_eq_true_eq]; omega
    · have lk := lv_free h.ok hk (by omega)
      have e2 : c.eff k = k := by show levelV _ _ _ = _; unfold levelV; rw [if_pos (by omega)]
      rw [li, lk, ee, e2, if_neg (by omega), decide_eq_true_eq]; omega
theorem Like.best (h : Like c s) : ∀ n, n ≤ 16 → (bestR s n = -1 ∧ ∀ m, m < n → ¬ c.L m) ∨ (∃ k : Nat, bestR s n = k ∧ k < n ∧ c.L k ∧ ∀ m, m < n → c.L m → c.lv k < c.lv m ∨ (c.lv k = c.lv m ∧ k ≤ m))
  | 0, _ => .inl ⟨rfl, fun m hm => by omega⟩
  | n + 1, hn => by
    have ih := h.best n (by omega)
    rw [best_s]
    have hl := h.live n (by omega)
    rcases ih with ⟨h1, h2⟩ | ⟨k, h1, h2, h3, h4⟩
    · by_cases g : c.L n
      · rw [if_pos ⟨hl.2 g, .inl (by omega)⟩]
        right
        refine ⟨n, rfl, by omega, g, fun m hm hm' => ?_⟩
        by_cases e : m = n
        · subst e; exact .inr ⟨rfl, Nat.le_refl _⟩
        · exact absurd hm' (h2 m (by omega))
      · rw [if_neg (fun q => g (hl.1 q.1))]
        left
        refine ⟨h1, fun m hm => ?_⟩
        by_cases e : m = n
        · subst e; exact g
        · exact h2 m (by omega)
    · by_cases g : s.lv n = true ∧ (bestR s n < 0 ∨ aheadR s n (bestR s n).toNat = true)
      · rw [if_pos g]
        right
        have gl := hl.1 g.1
        have ga : aheadR s n k = true := by
          rcases g.2 with q | q
          · omega
          · rwa [h1, Int.toNat_natCast] at q
        have ga := (h.ahead gl h3 (by omega)).1 ga
        refine ⟨n, rfl, by omega, gl, fun m hm hm' => ?_⟩
        by_cases e : m = n
        · subst e; exact .inr ⟨rfl, Nat.le_refl _⟩
        · rcases h4 m (by omega) hm' with q | q <;> rcases ga with z | z <;> omega
      · rw [if_neg g]
        right
        refine ⟨k, h1, by omega, h3, fun m hm hm' => ?_⟩
        by_cases e : m = n
        · subst e
          have na : ¬ aheadR s m k = true := fun q => g ⟨hl.2 hm', .inr (by rw [h1, Int.toNat_natCast]; exact q)⟩
          have := mt (h.ahead hm' h3 (by omega)).2 na
          omega
        · exact h4 m (by omega) hm'
/-- Who is next by the document goes first in the program. -/
theorem Like.next (h : Like c s) : (∃ k, Goes c k ∧ nextR s = k ∧ k < 16 ∧ c.L k) ∨ (nextR s = -1 ∧ firstR c.r = (0, false) ∧ ∀ m, ¬ c.L m) := by
  rcases goes_or h.ok with ⟨k, g⟩ | ⟨g1, g2⟩
  · left
    refine ⟨k, g, ?_, g.lt, g.l⟩
    rcases h.best 16 (Nat.le_refl _) with ⟨_, q⟩ | ⟨m, h1, h2, h3, h4⟩
    · exact absurd g.l (q k g.lt)
    · show bestR s 16 = k
      rw [h1]
      have := h4 k g.lt g.l
      have := g.le m h3
      omega
  · right
    refine ⟨?_, g1, g2⟩
    rcases h.best 16 (Nat.le_refl _) with ⟨q, _⟩ | ⟨m, _, _, h3, _⟩
    · exact q
    · exact absurd h3 (g2 m)
theorem Like.tick (h : Like c s) (hn : c.now < 1000000000) : Like (tickC c).1 (tickR s).1 ∧ (tickR s).2 = (tickC c).2 := by
  have ok := tick_ok h.ok hn
  rcases h.next with ⟨k, g, hk, hk16, hl⟩ | ⟨hk, g1, g2⟩
  · obtain ⟨T, hT, hd⟩ := h.real k hl
    obtain ⟨j1, j2, j3, j4, j5⟩ := h.job k hk16 hl
    obtain ⟨t, o⟩ := tick_goes h.ok hd g
    have e1 : takeR (s.jf k).secs.l (s.jf k).done = takeR (c.jf k).secs.l (c.jf k).done := by rw [j4, j5]
    have e2 : hold (s.jf k).secs.l (s.jf k).done = hold (c.jf k).secs.l (c.jf k).done := by rw [j4, j5]
    have e3 : hold (s.jf k).secs.l ((s.jf k).done + 1) = hold (c.jf k).secs.l (min ((c.jf k).done + 1) (c.jf k).cost) := by rw [j4, j5, show min ((c.jf k).done + 1) (c.jf k).cost = (c.jf k).done + 1 by omega]
    have tk : tookR (s.jf k) = tookC (c.jf k) := by
      unfold tookR tookC
      rw [e1, e2]
      by_cases q : 0 ≤ takeR (c.jf k).secs.l (c.jf k).done
      · by_cases z : hold (c.jf k).secs.l (c.jf k).done < 0
        · rw [if_pos z, if_pos ⟨q, z⟩]
        · rw [if_neg z, if_neg (fun y => z y.2)]
      · rw [take_m1 hT q]; split <;> split <;> rfl
    have gv : gaveR (s.jf k) = gaveC (c.jf k) := by
      unfold gaveR gaveC
      rw [e1, e3]
      by_cases q : 0 ≤ takeR (c.jf k).secs.l (c.jf k).done
      · by_cases z : hold (c.jf k).secs.l (min ((c.jf k).done + 1) (c.jf k).cost) < 0
        · rw [if_pos z, if_pos ⟨q, z⟩]
        · rw [if_neg z, if_neg (fun y => z y.2)]
      · rw [take_m1 hT q]; split <;> split <;> rfl
    have live' : ∀ i, i < 16 → ((tickS s k).lv i = true ↔ (tickC c).1.L i) := fun i hi => by
      rw [t.live i]
      unfold tickS
      by_cases ho : (s.jf k).done + 1 = (s.jf k).cost
      · rw [if_pos ho]
        by_cases e : i = k
        · subst e
          show upd s.lv i false i = true ↔ _
          rw [upd_same]
          exact ⟨fun q => Bool.noConfusion q, fun q => absurd (q.2 rfl) (by omega)⟩
        · show upd s.lv k false i = true ↔ _
          rw [upd_ne _ _ e, h.live i hi]
          exact ⟨fun q => ⟨q, fun z => absurd z e⟩, fun q => q.1⟩
      · rw [if_neg ho]
        by_cases e : i = k
        · subst e
          show upd s.lv i (s.lv i) i = true ↔ _
          rw [upd_same, h.live i hi]
          exact ⟨fun q => ⟨q, fun _ => by omega⟩, fun q => q.1⟩
        · show upd s.lv k (s.lv k) i = true ↔ _
          rw [upd_ne _ _ e, h.live i hi]
          exact ⟨fun q => ⟨q, fun z => absurd z e⟩, fun q => q.1⟩
    have jne : ∀ i, i ≠ k → (tickS s k).jf i = s.jf i := fun i e => by
      unfold tickS; split
      · show upd s.jf k JZ i = _; rw [upd_ne _ _ e]
      · show upd s.jf k _ i = _; rw [upd_ne _ _ e]
    have jk : (s.jf k).done + 1 ≠ (s.jf k).cost → (tickS s k).jf k = doneJ (s.jf k) := fun q => by unfold tickS; rw [if_neg q]; show upd s.jf k _ k = _; rw [upd_same]
    have jz : (s.jf k).done + 1 = (s.jf k).cost → (tickS s k).jf k = JZ := fun q => by unfold tickS; rw [if_pos q]; show upd s.jf k _ k = _; rw [upd_same]
    rw [tickR_k hk]
    refine ⟨⟨ok, ⟨fun i hi => ?_, fun i hi => ?_⟩, live', fun i hi hi' => ?_, fun r hr => ?_, ?_, fun i hi' => ?_, fun i hi' => ?_⟩, ?_⟩
    · show ((tickS s k).jf i).secs.Own
      by_cases e : i = k
      · subst e
        by_cases q : (s.jf i).done + 1 = (s.jf i).cost
        · rw [jz q]; exact Arr.emp_own
        · rw [jk q]; exact h.so.own i hi
      · rw [jne i e]; exact h.so.own i hi
    · show hold ((tickS s k).jf i).secs.l ((tickS s k).jf i).done < 8
      by_cases e : i = k
      · subst e
        by_cases q : (s.jf i).done + 1 = (s.jf i).cost
        · rw [jz q]; exact (by decide : (-1 : Int) < 8)
        · rw [jk q]; show hold (s.jf i).secs.l _ < 8; rw [j5]; exact hold_lt hT
      · rw [jne i e]; exact h.so.h8 i hi
    · show ((tickS s k).jf i).rel = _ ∧ ((tickS s k).jf i).dl = _ ∧ ((tickS s k).jf i).cost = _ ∧ ((tickS s k).jf i).done = _ ∧ ((tickS s k).jf i).secs.l = _
      have hl' := (t.live i).1 hi'
      by_cases e : i = k
      · subst e
        have := hl'.2 rfl
        rw [jk (by omega), t.jk]
        exact ⟨j1, j2, j3, by show (s.jf i).done + 1 = (c.jf i).done + 1; rw [j4], j5⟩
      · rw [jne i e, t.jne e]; exact h.job i hi hl'.1
    · have : (tickS s k).tab = s.tab := by unfold tickS; split <;> rfl
      show (tickS s k).tab r = _
      rw [this, t.tab]; exact h.tab r hr
    · have : (tickS s k).now = s.now + 1 := by unfold tickS; split <;> rfl
      show (tickS s k).now = _
      rw [this, t.now, h.now]
    · have hl' := (t.live i).1 hi'
      obtain ⟨T', g1, g2⟩ := h.real i hl'.1
      by_cases e : i = k
      · subst e; rw [t.jk]; exact ⟨T', g1, hl'.2 rfl⟩
      · rw [t.jne e]; exact ⟨T', g1, g2⟩
    · have hl' := (t.live i).1 hi'
      have gl := h.len i hl'.1
      by_cases e : i = k
      · subst e; rw [t.jk]; exact gl
      · rw [t.jne e]; exact gl
    · show tickX s k = _
      unfold tickX
      by_cases ho : min ((c.jf k).done + 1) (c.jf k).cost ≥ (c.jf k).cost
      · rw [tick_over g.f1 g.f2 ho, if_pos (by omega), tk, gv, h.now, j1, j2]
      · rw [tick_on g.f1 g.f2 ho, if_neg (by omega), tk, gv]
  · rw [tickR_n (by omega), tick_no (by rw [g1])]
    have hnow := h.ok.now
    exact ⟨⟨⟨h.ok.r, h.ok.own, h.ok.tab, h.ok.live, ⟨by show 0 ≤ c.now + 1; omega, by show c.now + 1 ≤ _; omega⟩, h.ok.rl⟩, ⟨h.so.own, h.so.h8⟩, h.live, h.job, h.tab, by show s.now + 1 = c.now + 1; rw [h.now], h.real, h.len⟩, rfl⟩
theorem Like.rel (h : Like c s) {k : Nat} {e : Nat → Int} {cost : Int} {l : List Sec} {x a y : Arr Sec} (hk : k < 16) (he : 1 ≤ e 2 ∧ e 2 ≤ 4096) (hT : ∀ j, j < 8 → 0 ≤ e (3 + j)) (hx : x.l = secs e (min (max cost 1) (e 2)) 0 0 l) (ha : a.l = x.l) (hao : a.Own) (hy : s.lv k = false → y.l = secs e (max (min cost (e 2)) 1) 0 0 l ∧ y.Own) :
    Like (relC c (JN k c e (min (max cost 1) (e 2)) x) a) (relR s k e (max (min cost (e 2)) 1) y) ∧ relErr c (JN k c e (min (max cost 1) (e 2)) x) = relRE s k ∧ (relC c (JN k c e (min (max cost 1) (e 2)) x) a).now = c.now := by
  have hc : max (min cost (e 2)) 1 = min (max cost 1) (e 2) := by omega
  rw [hc] at hy ⊢
  generalize hcc : min (max cost 1) (e 2) = C at *
  have h0 := h.ok.now
  have hid : ¬ ((JN k c e C x).id < 0 ∨ (JN k c e C x).id ≥ 16 ∨ (JN k c e C x).done ≥ (JN k c e C x).cost) := by show ¬ ((k : Int) < 0 ∨ (k : Int) ≥ 16 ∨ (0 : Int) ≥ C); omega
  have ok : COk (relC c (JN k c e C x) a) := rel_ok h.ok hao ha (fun m hm hm16 => ⟨hm16, hm, by show (0 : Int) ≤ 0; omega, by show (0 : Int) ≤ 100000000; omega, by show (0 : Int) ≤ C; omega, by show C ≤ 100000000; omega, by show -1000000000 ≤ c.now; omega, by show c.now ≤ 1000000000; omega⟩)
  cases hl : s.lv k with
  | true =>
    have hL := (h.live k hk).1 hl
    have er : relErr c (JN k c e C x) = 242 := rel_242 hid hL
    rw [relC_e (by omega), er]
    refine ⟨?_, by unfold relRE; rw [if_pos hl], rfl⟩
    unfold relR; rw [if_pos hl]; exact h
  | false =>
    obtain ⟨y1, y2⟩ := hy hl
    have er : relErr c (JN k c e C x) = 0 := rel_0 hid (by
      cases q : hasB c.live (k : Int) with
      | false => rfl
      | true => rw [(h.live k hk).2 q] at hl; cases hl)
    obtain ⟨t, _⟩ := rel_came (a := a) (k := k) (show (JN k c e C x).id = k from rfl) er
    have er2 : relR s k e C y = ⟨upd s.jf k (JRn s e C y), upd s.lv k true, s.tab, s.now⟩ := by unfold relR; rw [if_neg (by rw [hl]; decide)]
    have hok : okL e C 0 a.l := by rw [ha, hx]; exact secs_ok hT _ _ _
    rw [er2]
    refine ⟨⟨ok, ⟨fun i hi => ?_, fun i hi => ?_⟩, fun i hi => ?_, fun i hi hi' => ?_, fun r hr => by rw [t.tab]; exact h.tab r hr, by rw [t.now]; exact h.now, fun i hi' => ?_, fun i hi' => ?_⟩, by rw [er]; unfold relRE; rw [if_neg (by rw [hl]; decide)], t.now⟩
    · show (upd s.jf k (JRn s e C y) i).secs.Own
      by_cases q : i = k
      · subst q; rw [upd_same]; exact y2
      · rw [upd_ne _ _ q]; exact h.so.own i hi
    · show hold (upd s.jf k (JRn s e C y) i).secs.l (upd s.jf k (JRn s e C y) i).done < 8
      by_cases q : i = k
      · subst q; rw [upd_same]; show hold y.l 0 < 8; rw [y1, ← hx, ← ha]; exact hold_lt hok
      · rw [upd_ne _ _ q]; exact h.so.h8 i hi
    · show upd s.lv k true i = true ↔ _
      rw [t.live i]
      by_cases q : i = k
      · subst q; rw [upd_same]; exact ⟨fun _ => .inr rfl, fun _ => rfl⟩
      · rw [upd_ne _ _ q, h.live i hi]; exact ⟨.inl, fun z => z.resolve_right q⟩
    · show (upd s.jf k (JRn s e C y) i).rel = _ ∧ (upd s.jf k (JRn s e C y) i).dl = _ ∧ (upd s.jf k (JRn s e C y) i).cost = _ ∧ (upd s.jf k (JRn s e C y) i).done = _ ∧ (upd s.jf k (JRn s e C y) i).secs.l = _
      by_cases q : i = k
      · subst q
        rw [upd_same, t.jf, upd_same]
        exact ⟨h.now, by show s.now + e 1 = c.now + e 1; rw [h.now], rfl, rfl, by show y.l = a.l; rw [ha, hx, y1]⟩
      · rw [upd_ne _ _ q, t.jne q]; exact h.job i hi (((t.live i).1 hi').resolve_right q)
    · by_cases q : i = k
      · subst q; rw [t.jf, upd_same]; exact ⟨e, hok, by show (0 : Int) < C; omega⟩
      · rw [t.jne q]; exact h.real i (((t.live i).1 hi').resolve_right q)
    · by_cases q : i = k
      · subst q; rw [t.jf, upd_same]; show a.l.length ≤ 8; rw [ha, hx]; exact secs_len (T := e) (cost := C) l 0 0 (by decide)
      · rw [t.jne q]; exact h.len i (((t.live i).1 hi').resolve_right q)
theorem Like.ceil (h : Like c s) {t t' : Nat → Int} (ht : ∀ r : Nat, r < 8 → 0 ≤ t r ∧ t r ≤ 16) (hh : ∀ r, r < 8 → t' r = t r) : Like (ceilC c t) ⟨s.jf, s.lv, t', s.now⟩ :=
  ⟨ceil_ok h.ok ht, ⟨h.so.own, h.so.h8⟩, h.live, h.job, hh, h.now, h.real, h.len⟩
theorem Like.zero : Like cr0 (srN 8) :=
  ⟨cr0_ok, ⟨fun i _ => Arr.emp_own, fun i _ => (by decide : (-1 : Int) < 8)⟩, fun i _ => ⟨fun q => Bool.noConfusion q, fun q => absurd q (cr0_no i)⟩, fun i _ q => absurd q (cr0_no i), fun r hr => by show (if r < 8 then (16 : Int) else 0) = 16; rw [if_pos hr], rfl, fun i q => absurd q (cr0_no i), fun i q => absurd q (cr0_no i)⟩
end
end Go.Proofs.YtkkdchgnknpceaaDoor
end

section
namespace Go.Proofs.YtkkdchgnknpceaaDoor
open Go Go.Sl
set_option linter.unusedVariables false
set_option linter.unusedSimpArgs false
set_option maxRecDepth 4000
variable {B : Nat} {K : Asrt B}
theorem zk_45 : (match Tryd.prog.underlying 45 with | some (.struct _) => (bldOf Tryd.prog 45).isSome | some (.array _ e) => (Tryd.prog.info? e).isSome | _ => false) = true := by kernel_rfl

/-- Those of a set that are tasks. -/
def wN (s : BitVec 32) : Nat → BitVec 32
  | 0 => 0#32
  | n + 1 => if hasB s (n : Int) = true then wN s n ||| bitv (n : Int) else wN s n
theorem wN_has {s : BitVec 32} {m : Nat} (hm : m < 32) : ∀ n : Nat, n ≤ 16 → (hasB (wN s n) (m : Int) = true ↔ m < n ∧ hasB s (m : Int) = true)
  | 0, _ => by
    have : hasB (wN s 0) (m : Int) = false := by show hasB 0#32 _ = false; simp [hasB]
    rw [this]; exact ⟨fun q => Bool.noConfusion q, fun q => absurd q.1 (by omega)⟩
  | n + 1, hn => by
    have ih := wN_has (s := s) hm n (by omega)
    unfold wN
    by_cases g : hasB s (n : Int) = true
    · rw [if_pos g, live_with (by omega) hm, Bool.or_eq_true, ih, decide_eq_true_eq]
      constructor
      · rintro (q | rfl)
        · exact ⟨by omega, q.2⟩
        · exact ⟨by omega, g⟩
      · rintro ⟨q1, q2⟩
        by_cases e : m = n
        · exact .inr e
        · exact .inl ⟨by omega, q2⟩
    · rw [if_neg g, ih]
      constructor
      · rintro ⟨q1, q2⟩; exact ⟨by omega, q2⟩
      · rintro ⟨q1, q2⟩
        refine ⟨?_, q2⟩
        rcases Nat.lt_succ_iff_lt_or_eq.1 q1 with h | rfl
        · exact h
        · exact absurd q2 g
/-- Who holds a resource. -/
abbrev holdF (s : Cr) (r : Int) (i : Int) : Bool := decide (s.H i.toNat = r)
def holderI (s : Cr) (r : Int) : Int := if 0 ≤ r then ((listI s.live).find? (holdF s r)).getD 0 else 0
def holderB (s : Cr) (r : Int) : Bool := decide (0 ≤ r) && ((listI s.live).find? (holdF s r)).isSome
theorem find_tn {l : List Int} {p : Int → Bool} {i : Nat} {m : Int} (h : l[i]? = some m) (ht : (l.take i).find? p = none) (hp : p m = false) : (l.take (i + 1)).find? p = none := by
  rw [List.take_add_one, h, List.find?_append, ht]; simp [hp]
theorem find_ts {l : List Int} {p : Int → Bool} {i : Nat} {m : Int} (h : l[i]? = some m) (ht : (l.take i).find? p = none) (hp : p m = true) : l.find? p = some m := by
  have hi := (List.getElem?_eq_some_iff.1 h).1
  have e : l = l.take (i + 1) ++ l.drop (i + 1) := (List.take_append_drop _ _).symm
  rw [e, List.find?_append, List.take_add_one, h, List.find?_append, ht]; simp [hp]

theorem lwithin (x : Img) (hx : x.In K) (hn : x.tasks.l.length ≤ 16) (s : BitVec 32) : Ctr Tryd.prog B 29 [x.v, .int .u32 s.toNat] [K] (fun v S => v = .int .u32 (wN s x.tasks.l.length).toNat ∧ S = [K]) := by
  refine Ctr_of_X (N := 21) Tryd.func29 rfl (by simp) rfl ?_
  intro w0 D0
  refine X_seq ?_
  refine X_region ?_
  refine XL_box .no rfl rfl rfl (fun b1 => ?_)
  refine XL_det .no (D_pure rfl) rfl ?_
  refine XL_then ?_
  refine X_seq ?_
  refine X_region ?_
  refine XL_det .no (D_pure rfl) rfl ?_
  refine XL_then ?_
  refine X_seq ?_
  refine X_seq ?_
  refine X_region ?_
  refine XL_det .no (D_pure rfl) rfl ?_
  refine XL_then ?_
  refine X_block ?_
  refine X_loop (α := Nat) (fun i => i ≤ x.tasks.l.length) (fun i => [(6, .int .i64 (i : Int)), (5, .int .u32 (wN s i).toNat), (1, .int .u32 s.toNat), (2, .pointer (some ⟨b1, 0, none⟩))]) (fun i => [blk b1 [.int .i64 x.res, .slice x.tasks.oad x.tasks.l.length x.tasks.c, .slice x.modes.oad x.modes.l.length x.modes.c, .slice x.edges.oad x.edges.l.length x.edges.c] 26, K]) (fun i => x.tasks.l.length - i) 0 ?_ (by refine ⟨?_, ?_, ?_, ?_, trivial⟩ <;> rfl) (by repeat first | with_reducible exact .nil _ | with_reducible exact .here _ _ | with_reducible exact Take.self _ | with_reducible apply Take.cons | with_reducible apply Out.there | with_reducible apply Take.skip | with_reducible exact Take.pre _ _ | with_reducible apply Out.app) ?_
  · omega
  · rintro i hi
    refine X_seq ?_
    refine X_seq ?_
    refine X_region ?_
    refine XL_det .no (D_pure rfl) rfl ?_
    refine XL_det .no (D_fld rfl fld_26_1 (o' := 1) rfl) rfl ?_
    refine XL_det .no (D_ldo rfl (by repeat first | with_reducible exact .here _ _ | with_reducible apply Out.there | with_reducible apply Out.app) tk_22 (by rfl)) rfl ?_
    refine XL_det .no (D_len rfl rfl slc_22) rfl ?_
    refine XL_det .no (D_pure rfl) rfl ?_
    refine XL_then ?_
    refine X_cond rfl (fun h1 => ?_) (fun h1 => ?_)
    · try simp only [decide_eq_true_eq, decide_eq_false_iff_not, Bool.not_eq_true', Bool.not_eq_false', beq_iff_eq, bne_iff_ne, beq_eq_false_iff_ne, bne_eq_false_iff_eq, Int.not_lt, Int.not_le, gt_iff_lt, ge_iff_le, ne_eq] at h1
      refine X_skip ?_
      refine thenX_normal ?_
      refine X_seq ?_
      refine X_block ?_
      refine X_seq ?_
      refine X_region ?_
      refine XL_det .no (D_pure rfl) rfl ?_
      refine XL_det .no (D_pure rfl) rfl ?_
      refine XL_callv .no en_37 rfl (has s (i : Int)) rfl ?_
      refine XL_then ?_
      refine X_cond rfl (fun h2 => ?_) (fun h2 => ?_)
      · try simp only [decide_eq_true_eq, decide_eq_false_iff_not, Bool.not_eq_true', Bool.not_eq_false', beq_iff_eq, bne_iff_ne, beq_eq_false_iff_ne, bne_eq_false_iff_eq, Int.not_lt, Int.not_le, gt_iff_lt, ge_iff_le, ne_eq] at h2
        refine X_region ?_
        refine XL_det .no (D_pure rfl) rfl ?_
        refine XL_det .no (D_pure rfl) rfl ?_
        refine XL_callv .no en_51 rfl (mWith (wN s i) (i : Int)) rfl ?_
        refine XL_det .no (D_pure rfl) rfl ?_
        refine XL_nil ?_
        refine inBlk_normal ?_
        refine thenX_normal ?_
        refine X_region ?_
        refine XL_det .no (D_pure rfl) rfl ?_
        refine XL_det .no (D_add rfl rfl (by omega) (by omega)) rfl ?_
        refine XL_det .no (D_pure rfl) rfl ?_
        refine XL_nil ?_
        refine loopQ_next (i + 1) ?_ ?_ ?_ ?_
        · omega
        · omega
        · refine ⟨?_, ?_, ?_, ?_, trivial⟩ <;> first | rfl | (refine congrArg (fun z : BitVec 32 => some (Value.int .u32 z.toNat)) ?_; show _ = wN s (i + 1); rw [wN, if_pos h2])
        · exact ⟨_, (by repeat first | with_reducible exact .nil _ | with_reducible exact .here _ _ | with_reducible exact Take.self _ | with_reducible apply Take.cons | with_reducible apply Out.there | with_reducible apply Take.skip | with_reducible exact Take.pre _ _ | with_reducible apply Out.app)⟩
      · try simp only [decide_eq_true_eq, decide_eq_false_iff_not, Bool.not_eq_true', Bool.not_eq_false', beq_iff_eq, bne_iff_ne, beq_eq_false_iff_ne, bne_eq_false_iff_eq, Int.not_lt, Int.not_le, gt_iff_lt, ge_iff_le, ne_eq] at h2
        refine X_skip ?_
        refine inBlk_normal ?_
        refine thenX_normal ?_
        refine X_region ?_
        refine XL_det .no (D_pure rfl) rfl ?_
        refine XL_det .no (D_add rfl rfl (by omega) (by omega)) rfl ?_
        refine XL_det .no (D_pure rfl) rfl ?_
        refine XL_nil ?_
        refine loopQ_next (i + 1) ?_ ?_ ?_ ?_
        · omega
        · omega
        · refine ⟨?_, ?_, ?_, ?_, trivial⟩ <;> first | rfl | (refine congrArg (fun z : BitVec 32 => some (Value.int .u32 z.toNat)) ?_; show _ = wN s (i + 1); rw [wN, if_neg (by rw [h2]; decide)])
        · exact ⟨_, (by repeat first | with_reducible exact .nil _ | with_reducible exact .here _ _ | with_reducible exact Take.self _ | with_reducible apply Take.cons | with_reducible apply Out.there | with_reducible apply Take.skip | with_reducible exact Take.pre _ _ | with_reducible apply Out.app)⟩
    · try simp only [decide_eq_true_eq, decide_eq_false_iff_not, Bool.not_eq_true', Bool.not_eq_false', beq_iff_eq, bne_iff_ne, beq_eq_false_iff_ne, bne_eq_false_iff_eq, Int.not_lt, Int.not_le, gt_iff_lt, ge_iff_le, ne_eq] at h1
      refine X_exit ?_
      refine thenX_exit ?_
      refine loopQ_exit ?_
      refine inBlk_here ?_
      refine thenX_normal ?_
      refine X_seq ?_
      refine X_region ?_
      refine XL_det .no (D_pure rfl) rfl ?_
      refine XL_det .no (D_pure rfl) rfl ?_
      refine XL_then ?_
      refine X_ret ?_
      refine ret_ok (.nil _) (res_tmp rfl rfl) ?_
      exact ⟨_, ⟨by rw [show i = x.tasks.l.length by omega], rfl⟩, _, (by repeat first | with_reducible exact .nil _ | with_reducible exact .here _ _ | with_reducible exact Take.self _ | with_reducible apply Take.cons | with_reducible apply Out.there | with_reducible apply Take.skip | with_reducible exact Take.pre _ _ | with_reducible apply Out.app)⟩

theorem sjob (c : Nat) (s : Cr) (hc : COk s) (i : Nat) (hi : i < 16) (hsl : hasB s.live (i : Int) = true → (s.jf i).secs.l.length ≤ 8) : Ctr Tryd.prog B 67 [.pointer (some ⟨c, 0, none⟩), .int .i64 (i : Int)] [blk c (crC s) 110, many 16 (rowS s.jf)] (fun v S => ∃ a : Arr Sec, (hasB s.live (i : Int) = true → a.l = (s.jf i).secs.l) ∧ v = .tuple #[.agg (encJ (if hasB s.live (i : Int) = true then (⟨(s.jf i).id, (s.jf i).rel, (s.jf i).dl, (s.jf i).cost, (s.jf i).done, a⟩ : JC) else ⟨0, 0, 0, 0, 0, Arr.emp⟩)).toArray, .bool (hasB s.live (i : Int))] ∧ S = [blk c (crC s) 110, many 16 (rowS s.jf)]) := by
  refine Ctr_of_X (N := 26) Tryd.func67 rfl (by simp) rfl ?_
  intro w0 D0
  refine X_rowa encS 123 3 ?_
  refine X_seq ?_
  refine X_region ?_
  refine XL_alloc .no zero_45 rfl (fun b1 => ?_)
  refine XL_det .no (D_pure rfl) rfl ?_
  refine XL_then ?_
  refine X_seq ?_
  refine X_seq ?_
  refine X_region ?_
  refine XL_det .no (D_pure rfl) rfl ?_
  refine XL_det .no (D_nilck rfl) rfl ?_
  refine XL_det .no (D_fld rfl fld_110_1 (o' := 96) rfl) rfl ?_
  refine XL_det .no (D_ldo rfl (by repeat first | with_reducible exact .here _ _ | with_reducible apply Out.there | with_reducible apply Out.app) tk_37 (cr_live _)) rfl ?_
  refine XL_det .no (D_pure rfl) rfl ?_
  refine XL_callv .no en_21 rfl (mHas s.live i) rfl ?_
  refine XL_det .no (D_pure rfl) rfl ?_
  refine XL_then ?_
  refine X_cond rfl (fun h1 => ?_) (fun h1 => ?_)
  · try simp only [decide_eq_true_eq, decide_eq_false_iff_not, Bool.not_eq_true', Bool.not_eq_false', beq_iff_eq, bne_iff_ne, beq_eq_false_iff_ne, bne_eq_false_iff_eq, Int.not_lt, Int.not_le, gt_iff_lt, ge_iff_le, ne_eq] at h1
    refine X_seq ?_
    refine X_region ?_
    refine XL_det .no (D_zero zero_45 zk_45) rfl ?_
    refine XL_efd .no (F_stw rfl rfl rfl (by repeat first | with_reducible exact .here _ _ | with_reducible apply Out.there | with_reducible apply Out.app) tk_45 rfl rfl) ?_
    refine XL_det .no (D_pure rfl) rfl ?_
    refine XL_then ?_
    refine X_ret ?_
    refine thenX_ret ?_
    refine ret_ok (.nil _) (res_celltmp rfl rfl (by repeat first | with_reducible exact .here _ _ | with_reducible apply Out.there | with_reducible apply Out.app) tk_45 (by rfl) rfl) ?_
    exact ⟨_, ⟨Arr.emp, (fun q => by rw [h1] at q; cases q), by rw [if_neg (by rw [h1]; decide), h1]; rfl, rfl⟩, _, (by repeat first | with_reducible exact .nil _ | with_reducible exact .here _ _ | exact .here _ _ | with_reducible exact Take.self _ | with_reducible apply Take.cons | with_reducible apply Out.there | with_reducible apply Take.skip | with_reducible exact Take.pre _ _ | with_reducible apply Out.app)⟩
  · try simp only [decide_eq_true_eq, decide_eq_false_iff_not, Bool.not_eq_true', Bool.not_eq_false', beq_iff_eq, bne_iff_ne, beq_eq_false_iff_ne, bne_eq_false_iff_eq, Int.not_lt, Int.not_le, gt_iff_lt, ge_iff_le, ne_eq] at h1
    refine X_skip ?_
    refine thenX_normal ?_
    refine X_seq ?_
    refine X_region ?_
    refine XL_det .no (D_pure rfl) rfl ?_
    refine XL_det .no (D_pure rfl) rfl ?_
    refine XL_det .no (D_nilck rfl) rfl ?_
    refine XL_det .no (D_fld rfl fld_110_0 (o' := 0) rfl) rfl ?_
    refine XL_det .no (D_idxA rfl rfl arr_105 rfl (by omega) rfl) rfl ?_
    refine XL_det .no (D_ldso (vs := encJ (s.jf i)) rfl (by repeat first | with_reducible exact .here _ _ | with_reducible apply Out.there | with_reducible apply Out.app) tk_45 (by rw [cr_len]; exact Nat.ble_eq_true_of_le (by omega)) (cr_job _ hi)) rfl ?_
    refine XL_alloc .no zero_45 rfl (fun b2 => ?_)
    refine XL_efd .no (F_stw rfl rfl rfl (by repeat first | with_reducible exact .here _ _ | with_reducible apply Out.there | with_reducible apply Out.app) tk_45 rfl rfl) ?_
    refine XL_then ?_
    refine X_seq ?_
    refine X_region ?_
    refine XL_det .no (D_fld rfl fld_45_5 (o' := 5) rfl) rfl ?_
    refine XL_det .no (D_ldo rfl (by repeat first | with_reducible exact .here _ _ | with_reducible apply Out.there | with_reducible apply Out.app) tk_39 (by rfl)) rfl ?_
    refine XL_appa (enc := encS) (c := (Arr.emp : Arr Sec)) (b := (s.jf i).secs) .no rfl rfl slt_39 (by repeat first | with_reducible exact .here _ _ | with_reducible apply Out.there | with_reducible apply Out.app) (by repeat first | with_reducible exact .here _ _ | with_reducible apply Out.there | with_reducible apply Out.app) ((Rd_many hi (Rd_own (hc.own i hi) rfl))) (fun _ => rfl) (fun _ => rfl) (by have := hsl h1; show 0 + (s.jf i).secs.l.length ≤ _; omega) (by have := hsl h1; show (0 + (s.jf i).secs.l.length) * _ ≤ _; omega) rfl (fun a ha hao => ?_)
    replace ha : a.l = (s.jf i).secs.l := ha
    refine XL_det .no (D_fld rfl fld_45_5 (o' := 5) rfl) rfl ?_
    refine XL_efd .no (F_stl rfl rfl rfl (by repeat first | with_reducible exact .here _ _ | with_reducible apply Out.there | with_reducible apply Out.app) tk_39 (by repeat first | exact .zero _ _ _ | apply SetL.succ)) ?_
    refine XL_then ?_
    refine X_seq ?_
    refine X_region ?_
    refine XL_det .no (D_ldso (vs := encJ (⟨(s.jf i).id, (s.jf i).rel, (s.jf i).dl, (s.jf i).cost, (s.jf i).done, a⟩ : JC)) rfl (by repeat first | with_reducible exact .here _ _ | with_reducible apply Out.there | with_reducible apply Out.app) tk_45 rfl (by rfl)) rfl ?_
    refine XL_efd .no (F_stw rfl rfl rfl (by repeat first | with_reducible exact .here _ _ | with_reducible apply Out.there | with_reducible apply Out.app) tk_45 rfl rfl) ?_
    refine XL_det .no (D_pure rfl) rfl ?_
    refine XL_then ?_
    refine X_ret ?_
    refine ret_ok (.nil _) (res_celltmp rfl rfl (by repeat first | with_reducible exact .here _ _ | with_reducible apply Out.there | with_reducible apply Out.app) tk_45 (by rfl) rfl) ?_
    exact ⟨_, ⟨a, (fun _ => ha), by rw [if_pos h1, h1], rfl⟩, _, (by repeat first | with_reducible exact .nil _ | with_reducible exact .here _ _ | exact .here _ _ | with_reducible exact Take.self _ | with_reducible apply Take.cons | with_reducible apply Out.there | with_reducible apply Take.skip | with_reducible exact Take.pre _ _ | with_reducible apply Out.app)⟩

end Go.Proofs.YtkkdchgnknpceaaDoor
end

section
namespace Go.Proofs.YtkkdchgnknpceaaDoor
open Go Go.Sl
set_option linter.unusedVariables false
set_option linter.unusedSimpArgs false
set_option maxRecDepth 4000
variable {B : Nat} {K : Asrt B}

theorem sholder (cq : Nat) (s : Cr) (hc : COk s) (r : Int) (hK : Rd K ⟨0, 0, none⟩ (tab32.map fun m => .int .u8 m)) (hd : Dup K) : Ctr Tryd.prog B 88 [.pointer (some ⟨cq, 0, none⟩), .int .i64 r] [blk cq (crC s) 110, many 16 (rowS s.jf), K] (fun v S => v = .tuple #[.int .i64 (holderI s r), .bool (holderB s r)] ∧ S = [blk cq (crC s) 110, many 16 (rowS s.jf), K]) := by
  refine Ctr_of_X (N := 27) Tryd.func88 rfl (by simp) rfl ?_
  intro w0 D0
  refine X_seq ?_
  refine X_region ?_
  refine XL_box .no rfl rfl rfl (fun b1 => ?_)
  refine XL_box .no rfl rfl rfl (fun b2 => ?_)
  refine XL_alloc .no zero_3 rfl (fun b3 => ?_)
  refine XL_alloc .no zero_4 rfl (fun b4 => ?_)
  refine XL_then ?_
  refine X_seq ?_
  refine X_seq ?_
  refine X_region ?_
  refine XL_det .no (D_ldo rfl (by repeat first | with_reducible exact .here _ _ | with_reducible apply Out.there | with_reducible apply Out.app) tk_30 (by rfl)) rfl ?_
  refine XL_det .no (D_nilck rfl) rfl ?_
  refine XL_det .no (D_fld rfl fld_110_1 (o' := 96) rfl) rfl ?_
  refine XL_det .no (D_ldo rfl (by repeat first | with_reducible exact .here _ _ | with_reducible apply Out.there | with_reducible apply Out.app) tk_37 (cr_live s)) rfl ?_
  refine XL_call .no en_47 rfl (mAll s.live) (by repeat first | with_reducible exact .nil _ | with_reducible exact .here _ _ | with_reducible exact Take.self _ | with_reducible apply Take.cons | with_reducible apply Out.there | with_reducible apply Take.skip | with_reducible exact Take.pre _ _ | with_reducible apply Out.app) rfl ?_
  rintro _ _ ⟨ba, rfl, rfl⟩
  simp only [List.cons_append, List.nil_append]
  refine XL_then ?_
  refine X_block ?_
  refine X_range (own := [blk ba [.int .u32 s.live.toNat] 37, K]) (S1 := [blk b1 [.pointer (some ⟨cq, 0, none⟩)] 30, blk b2 [.int .i64 r] 3, blk b3 [.int .i64 0] 3, blk b4 [.bool false] 4, blk cq (crC s) 110, many 16 (rowS s.jf)]) rfl en_78 (allItr ba s.live hK) (fun i S => (0 ≤ r → ((listI s.live).take i).find? (holdF s r) = none) ∧ S = [blk b1 [.pointer (some ⟨cq, 0, none⟩)] 30, blk b2 [.int .i64 r] 3, blk b3 [.int .i64 0] 3, blk b4 [.bool false] 4, blk cq (crC s) 110, many 16 (rowS s.jf)]) (fun c i S => c = .ret ∧ ∃ m, (listI s.live).find? (holdF s r) = some m ∧ 0 ≤ r ∧ S = [blk b1 [.pointer (some ⟨cq, 0, none⟩)] 30, blk b2 [.int .i64 r] 3, blk b3 [.int .i64 m] 3, blk b4 [.bool true] 4, blk cq (crC s) 110, many 16 (rowS s.jf)]) (show Take ([blk ba [.int .u32 s.live.toNat] 37, K, blk b1 [.pointer (some ⟨cq, 0, none⟩)] 30, blk b2 [.int .i64 r] 3, blk b3 [.int .i64 0] 3, blk b4 [.bool false] 4, blk cq (crC s) 110, many 16 (rowS s.jf)]) _ _ from (by repeat first | with_reducible exact .nil _ | with_reducible exact .here _ _ | with_reducible exact Take.self _ | with_reducible apply Take.cons | with_reducible apply Out.there | with_reducible apply Take.skip | with_reducible exact Take.pre _ _ | with_reducible apply Out.app)) (⟨fun _ => rfl, rfl⟩) rfl (fun x hx => by obtain ⟨y, _, rfl⟩ := List.mem_map.1 hx; rfl) ?_ ?_ ?_
  · intro ly rec A2 i S2 hi hJ
    obtain ⟨hf, rfl⟩ := hJ
    rw [List.length_map] at hi
    obtain ⟨l, hget⟩ : ∃ l, (listI s.live)[i]? = some l := ⟨_, List.getElem?_eq_getElem hi⟩
    have hm := mem_listN.1 (List.mem_of_getElem? hget)
    obtain ⟨k, hk⟩ := Int.eq_ofNat_of_zero_le hm.1
    have hk16 : k < 16 := (hc.live k (by rw [← hk]; exact hm.2.2)).1
    have hkt : s.H l.toNat = s.H k := by rw [hk, Int.toNat_natCast]
    rw [map_get hget]
    refine X_region ?_
    refine XL_det .no (D_pure rfl) rfl ?_
    refine XL_nil ?_
    refine ⟨rfl, _, _, .cons (by repeat first | with_reducible exact .here _ _ | with_reducible apply Out.there | with_reducible apply Out.app) (Take.self _), fun rec2 => ?_⟩
    refine X_block ?_
    refine X_seq ?_
    refine X_draw [blk b2 [.int .i64 r] 3, blk b1 [.pointer (some ⟨cq, 0, none⟩)] 30, blk cq (crC s) 110] mixed (by repeat first | with_reducible exact .nil _ | with_reducible exact .here _ _ | with_reducible exact Take.self _ | with_reducible apply Take.cons | with_reducible apply Out.there | with_reducible apply Take.skip | with_reducible exact Take.pre _ _ | with_reducible apply Out.app) ?_
    refine XA_det 0 rfl (by kernel_rfl) (by kernel_rfl) (by kernel_rfl) (by kernel_rfl) (fun _ _ _ _ h => h) .no (D_ldo rfl (by repeat first | with_reducible exact .here _ _ | with_reducible apply Out.there | with_reducible apply Out.app) tk_3 (by rfl)) rfl ?_
    refine XA_detp 1 rfl (by kernel_rfl) (by kernel_rfl) (by kernel_rfl) (fun _ _ _ _ h => h) .no (D_pureP rfl) rfl ?_
    refine XA_detp 2 rfl (by kernel_rfl) (by kernel_rfl) (by kernel_rfl) (fun _ _ _ _ h => h) .no (D_pureP rfl) rfl ?_
    refine XA_split (t := 15) rfl (fun h1 => ?_) (fun h1 => ?_)
    · try simp only [decide_eq_true_eq, decide_eq_false_iff_not, Bool.not_eq_true', Bool.not_eq_false', beq_iff_eq, bne_iff_ne, beq_eq_false_iff_ne, bne_eq_false_iff_eq, Int.not_lt, Int.not_le, gt_iff_lt, ge_iff_le, ne_eq] at h1
      refine XA_det 3 rfl (by kernel_rfl) (by kernel_rfl) (by kernel_rfl) (by kernel_rfl) (fun _ _ _ _ h => h) (.yes 15 rfl rfl rfl) (D_ldo rfl (by repeat first | with_reducible exact .here _ _ | with_reducible apply Out.there | with_reducible apply Out.app) tk_30 (by rfl)) rfl ?_
      refine XA_detp 4 rfl (by kernel_rfl) (by kernel_rfl) (by kernel_rfl) (fun _ _ _ _ h => h) (.yes 15 rfl rfl rfl) (D_pureP rfl) rfl ?_
      refine XA_detp 5 rfl (by kernel_rfl) (by kernel_rfl) (by kernel_rfl) (fun _ _ _ _ h => h) (.yes 15 rfl rfl rfl) (D_nilckP rfl) rfl ?_
      refine XA_detp 6 rfl (by kernel_rfl) (by kernel_rfl) (by kernel_rfl) (fun _ _ _ _ h => h) (.yes 15 rfl rfl rfl) (D_fldP rfl fld_110_0 (o' := 0) rfl) rfl ?_
      refine XA_detp 7 rfl (by kernel_rfl) (by kernel_rfl) (by kernel_rfl) (fun _ _ _ _ h => h) (.yes 15 rfl rfl rfl) (D_idxAP rfl rfl arr_105 hk (by omega) rfl) rfl ?_
      refine XA_det 8 rfl (by kernel_rfl) (by kernel_rfl) (by kernel_rfl) (by kernel_rfl) (fun _ _ _ _ h => h) (.yes 15 rfl rfl rfl) (D_ldso (vs := encJ (s.jf k)) rfl (by repeat first | with_reducible exact .here _ _ | with_reducible apply Out.there | with_reducible apply Out.app) tk_45 (by rw [cr_len]; exact Nat.ble_eq_true_of_le (by omega)) (cr_job s hk16)) rfl ?_
      refine XA_det 10 rfl (by kernel_rfl) (by kernel_rfl) (by kernel_rfl) (by kernel_rfl) (fun _ _ _ _ h => h) (.yes 15 rfl rfl rfl) (D_ldo rfl (by repeat first | with_reducible exact .here _ _ | with_reducible apply Out.there | with_reducible apply Out.app) tk_3 (by rfl)) rfl ?_
      refine XA_one 9 (by kernel_rfl) ?_
      refine XO_callk rfl (.yes 15 rfl rfl rfl) en_54 rfl (by repeat first | with_reducible exact .nil _ | with_reducible apply App.cons) (jhold (Kj := many 16 (rowS s.jf)) (s.jf k) (Rd_many hk16 (Rd_own (hc.own k hk16) rfl))) (by repeat first | with_reducible exact .nil _ | with_reducible exact .here _ _ | with_reducible exact Take.self _ | with_reducible apply Take.cons | with_reducible apply Out.there | with_reducible apply Take.skip | with_reducible exact Take.pre _ _ | with_reducible apply Out.app) rfl ?_
      refine XA_detp 11 rfl (by kernel_rfl) (by kernel_rfl) (by kernel_rfl) (fun _ _ _ _ h => h) (.yes 15 rfl rfl rfl) (D_pureP rfl) rfl ?_
      refine XA_detp 12 rfl (by kernel_rfl) (by kernel_rfl) (by kernel_rfl) (fun _ _ _ _ h => h) .no (D_pureP rfl) rfl ?_
      refine XA_done (by kernel_rfl) ?_
      try simp only [List.cons_append, List.nil_append, List.append_nil]
      refine thenX_normal ?_
      refine X_cond rfl (fun h2 => ?_) (fun h2 => ?_)
      · try simp only [decide_eq_true_eq, decide_eq_false_iff_not, Bool.not_eq_true', Bool.not_eq_false', beq_iff_eq, bne_iff_ne, beq_eq_false_iff_ne, bne_eq_false_iff_eq, Int.not_lt, Int.not_le, gt_iff_lt, ge_iff_le, ne_eq] at h2
        refine X_seq ?_
        refine X_region ?_
        refine XL_det .no (D_pure rfl) rfl ?_
        refine XL_efd .no (F_stl rfl rfl rfl (by repeat first | with_reducible exact .here _ _ | with_reducible apply Out.there | with_reducible apply Out.app) tk_3 (by repeat first | exact .zero _ _ _ | apply SetL.succ)) ?_
        refine XL_efd .no (F_stl rfl rfl rfl (by repeat first | with_reducible exact .here _ _ | with_reducible apply Out.there | with_reducible apply Out.app) tk_4 (by repeat first | exact .zero _ _ _ | apply SetL.succ)) ?_
        refine XL_then ?_
        refine X_ret ?_
        refine inBlk_ret ?_
        exact ⟨[blk b1 [.pointer (some ⟨cq, 0, none⟩)] 30, blk b2 [.int .i64 r] 3, blk b3 [.int .i64 l] 3, blk b4 [.bool true] 4, blk cq (crC s) 110, many 16 (rowS s.jf)], _, (by repeat first | with_reducible exact .nil _ | with_reducible exact .here _ _ | with_reducible exact Take.self _ | with_reducible apply Take.cons | with_reducible apply Out.there | with_reducible apply Take.skip | with_reducible exact Take.pre _ _ | with_reducible apply Out.app), ⟨rfl, l, find_ts hget (hf h1) (decide_eq_true (by rw [hkt]; exact h2)), h1, rfl⟩⟩
      · try simp only [decide_eq_true_eq, decide_eq_false_iff_not, Bool.not_eq_true', Bool.not_eq_false', beq_iff_eq, bne_iff_ne, beq_eq_false_iff_ne, bne_eq_false_iff_eq, Int.not_lt, Int.not_le, gt_iff_lt, ge_iff_le, ne_eq] at h2
        refine X_skip ?_
        refine inBlk_normal ?_
        exact ⟨[blk b1 [.pointer (some ⟨cq, 0, none⟩)] 30, blk b2 [.int .i64 r] 3, blk b3 [.int .i64 0] 3, blk b4 [.bool false] 4, blk cq (crC s) 110, many 16 (rowS s.jf)], _, (by repeat first | with_reducible exact .nil _ | with_reducible exact .here _ _ | with_reducible exact Take.self _ | with_reducible apply Take.cons | with_reducible apply Out.there | with_reducible apply Take.skip | with_reducible exact Take.pre _ _ | with_reducible apply Out.app), ⟨fun _ => find_tn hget (hf h1) (decide_eq_false (by rw [hkt]; exact h2)), rfl⟩⟩
    · try simp only [decide_eq_true_eq, decide_eq_false_iff_not, Bool.not_eq_true', Bool.not_eq_false', beq_iff_eq, bne_iff_ne, beq_eq_false_iff_ne, bne_eq_false_iff_eq, Int.not_lt, Int.not_le, gt_iff_lt, ge_iff_le, ne_eq] at h1
      refine XA_skipp 3 15 rfl (by kernel_rfl) (by kernel_rfl) (by kernel_rfl) (fun _ _ _ _ h => h) rfl rfl rfl rfl rfl ?_
      refine XA_skipp 4 15 rfl (by kernel_rfl) (by kernel_rfl) (by kernel_rfl) (fun _ _ _ _ h => h) rfl rfl rfl rfl rfl ?_
      refine XA_skipp 5 15 rfl (by kernel_rfl) (by kernel_rfl) (by kernel_rfl) (fun _ _ _ _ h => h) rfl rfl rfl rfl rfl ?_
      refine XA_skipp 6 15 rfl (by kernel_rfl) (by kernel_rfl) (by kernel_rfl) (fun _ _ _ _ h => h) rfl rfl rfl rfl rfl ?_
      refine XA_skipp 7 15 rfl (by kernel_rfl) (by kernel_rfl) (by kernel_rfl) (fun _ _ _ _ h => h) rfl rfl rfl rfl rfl ?_
      refine XA_skipp 8 15 rfl (by kernel_rfl) (by kernel_rfl) (by kernel_rfl) (fun _ _ _ _ h => h) rfl rfl rfl rfl rfl ?_
      refine XA_skipp 9 15 rfl (by kernel_rfl) (by kernel_rfl) (by kernel_rfl) (fun _ _ _ _ h => h) rfl rfl rfl rfl rfl ?_
      refine XA_skipp 10 15 rfl (by kernel_rfl) (by kernel_rfl) (by kernel_rfl) (fun _ _ _ _ h => h) rfl rfl rfl rfl rfl ?_
      refine XA_skipp 11 15 rfl (by kernel_rfl) (by kernel_rfl) (by kernel_rfl) (fun _ _ _ _ h => h) rfl rfl rfl rfl rfl ?_
      refine XA_detp 12 rfl (by kernel_rfl) (by kernel_rfl) (by kernel_rfl) (fun _ _ _ _ h => h) .no (D_pureP rfl) rfl ?_
      refine XA_done (by kernel_rfl) ?_
      try simp only [List.cons_append, List.nil_append, List.append_nil]
      refine thenX_normal ?_
      refine X_cond_f rfl rfl ?_
      refine X_skip ?_
      refine inBlk_normal ?_
      exact ⟨[blk b1 [.pointer (some ⟨cq, 0, none⟩)] 30, blk b2 [.int .i64 r] 3, blk b3 [.int .i64 0] 3, blk b4 [.bool false] 4, blk cq (crC s) 110, many 16 (rowS s.jf)], _, (by repeat first | with_reducible exact .nil _ | with_reducible exact .here _ _ | with_reducible exact Take.self _ | with_reducible apply Take.cons | with_reducible apply Out.there | with_reducible apply Take.skip | with_reducible exact Take.pre _ _ | with_reducible apply Out.app), ⟨fun q => absurd q (Int.not_le.2 h1), rfl⟩⟩
  · intro dd0 S2 hJ
    obtain ⟨hf, rfl⟩ := hJ
    rw [List.length_map, List.take_length] at hf
    simp only [List.cons_append, List.nil_append]
    refine inBlk_normal ?_
    refine thenX_normal ?_
    refine X_seq ?_
    refine X_region ?_
    refine XL_efd .no (F_stl rfl rfl rfl (by repeat first | with_reducible exact .here _ _ | with_reducible apply Out.there | with_reducible apply Out.app) tk_3 (by repeat first | exact .zero _ _ _ | apply SetL.succ)) ?_
    refine XL_efd .no (F_stl rfl rfl rfl (by repeat first | with_reducible exact .here _ _ | with_reducible apply Out.there | with_reducible apply Out.app) tk_4 (by repeat first | exact .zero _ _ _ | apply SetL.succ)) ?_
    refine XL_then ?_
    refine X_ret ?_
    refine ret_ok (show Take [dfr dd0] _ _ from (by repeat first | with_reducible exact .nil _ | with_reducible exact .here _ _ | with_reducible exact Take.self _ | with_reducible apply Take.cons | with_reducible apply Out.there | with_reducible apply Take.skip | with_reducible exact Take.pre _ _ | with_reducible apply Out.app)) (res_cc rfl rfl rfl (by repeat first | with_reducible exact .here _ _ | with_reducible apply Out.there | with_reducible apply Out.app) (by repeat first | with_reducible exact .here _ _ | with_reducible apply Out.there | with_reducible apply Out.app) tk_3 tk_4) ?_
    have hv : holderI s r = 0 ∧ holderB s r = false := by
      unfold holderI holderB
      by_cases q : 0 ≤ r
      · rw [hf q, if_pos q]; exact ⟨rfl, by simp⟩
      · rw [if_neg q, decide_eq_false q]; exact ⟨rfl, rfl⟩
    exact ⟨[blk cq (crC s) 110, many 16 (rowS s.jf), K], ⟨by rw [hv.1, hv.2], rfl⟩, _, (by repeat first | with_reducible exact .nil _ | with_reducible exact .here _ _ | exact .here _ _ | with_reducible exact Take.self _ | with_reducible apply Take.cons | with_reducible apply Out.there | with_reducible apply Take.skip | with_reducible exact Take.pre _ _ | with_reducible apply Out.app)⟩
  · intro dd0 c i S2 hi h
    obtain ⟨rfl, m, hm1, hr0, rfl⟩ := h
    simp only [List.cons_append, List.nil_append]
    refine X_ret ?_
    refine inBlk_ret ?_
    refine thenX_ret ?_
    refine ret_ok (show Take [dfr dd0] _ _ from (by repeat first | with_reducible exact .nil _ | with_reducible exact .here _ _ | with_reducible exact Take.self _ | with_reducible apply Take.cons | with_reducible apply Out.there | with_reducible apply Take.skip | with_reducible exact Take.pre _ _ | with_reducible apply Out.app)) (res_cc rfl rfl rfl (by repeat first | with_reducible exact .here _ _ | with_reducible apply Out.there | with_reducible apply Out.app) (by repeat first | with_reducible exact .here _ _ | with_reducible apply Out.there | with_reducible apply Out.app) tk_3 tk_4) ?_
    have hv : holderI s r = m ∧ holderB s r = true := by
      unfold holderI holderB
      rw [hm1, if_pos hr0, decide_eq_true hr0]; exact ⟨rfl, rfl⟩
    exact ⟨[blk cq (crC s) 110, many 16 (rowS s.jf), K], ⟨by rw [hv.1, hv.2], rfl⟩, _, (by repeat first | with_reducible exact .nil _ | with_reducible exact .here _ _ | exact .here _ _ | with_reducible exact Take.self _ | with_reducible apply Take.cons | with_reducible apply Out.there | with_reducible apply Take.skip | with_reducible exact Take.pre _ _ | with_reducible apply Out.app)⟩

end Go.Proofs.YtkkdchgnknpceaaDoor
end

section
namespace Go.Proofs.YtkkdchgnknpceaaDoor
open Go Go.Sl
set_option linter.unusedVariables false
set_option linter.unusedSimpArgs false
set_option maxRecDepth 4000
variable {B : Nat} {K : Asrt B}
theorem en_24 : Go.Proofs.Enters Tryd.prog 24 := Go.Proofs.enters_of Tryd.func24 (by kernel_rfl) rfl
theorem en_88 : Go.Proofs.Enters Tryd.prog 88 := Go.Proofs.enters_of Tryd.func88 (by kernel_rfl) rfl
theorem en_89 : Go.Proofs.Enters Tryd.prog 89 := Go.Proofs.enters_of Tryd.func89 (by kernel_rfl) rfl
theorem zero_33 : zeroOf Tryd.prog 33 = some [.int .i64 0, .int .i64 0, .int .i64 0, .int .i64 0, .int .i64 0, .int .i64 0, .int .i64 0, .int .i64 0] := by kernel_rfl

theorem fm_congr {α β : Type} {f g : α → List β} : ∀ {l : List α}, (∀ a ∈ l, f a = g a) → l.flatMap f = l.flatMap g
  | [], _ => rfl
  | a :: l, h => by rw [List.flatMap_cons, List.flatMap_cons, h a (List.mem_cons_self ..), fm_congr fun b hb => h b (List.mem_cons_of_mem _ hb)]
theorem fd_congr {α : Type} {f g : α → Bool} : ∀ {l : List α}, (∀ a ∈ l, f a = g a) → l.find? f = l.find? g
  | [], _ => rfl
  | a :: l, h => by rw [List.find?_cons, List.find?_cons, h a (List.mem_cons_self ..), fd_congr fun b hb => h b (List.mem_cons_of_mem _ hb)]
theorem range_dr {i : Nat} (h : i < 16) : (List.range 16).drop i = i :: (List.range 16).drop (i + 1) := by
  rw [List.drop_eq_getElem_cons (by simpa using h)]; simp
theorem range_32 : List.range 32 = List.range 16 ++ (List.range 16).map (16 + ·) := by decide
/-- What is held, from a task on. -/
def wantF (s : Sr) (i : Nat) : List (Int × Int) := ((List.range 16).drop i).flatMap fun (k : Nat) => if s.lv k = true ∧ 0 ≤ s.H k then [(s.H k, (k : Int))] else []
theorem want_t {s : Sr} {i : Nat} (h : i < 16) (hl : s.lv i = true) (hh : 0 ≤ s.H i) : wantF s i = (s.H i, (i : Int)) :: wantF s (i + 1) := by
  unfold wantF; rw [range_dr h, List.flatMap_cons, if_pos ⟨hl, hh⟩]; rfl
theorem want_f {s : Sr} {i : Nat} (h : i < 16) (hn : ¬ (s.lv i = true ∧ 0 ≤ s.H i)) : wantF s i = wantF s (i + 1) := by
  unfold wantF; rw [range_dr h, List.flatMap_cons, if_neg hn]; rfl
theorem want_len (s : Sr) : ∀ n i, i + n = 16 → (wantF s i).length ≤ n
  | 0, i, h => by
    obtain rfl : i = 16 := by omega
    exact Nat.le_refl _
  | n + 1, i, h => by
    have ih := want_len s n (i + 1) (by omega)
    by_cases q : s.lv i = true ∧ 0 ≤ s.H i
    · rw [want_t (by omega) q.1 q.2, List.length_cons]; omega
    · rw [want_f (by omega) q]; omega
/-- By whom, from a task on. -/
def byP (s : Sr) (r : Nat) (k : Nat) : Bool := s.lv k && decide (s.H k = (r : Int))
def byS (s : Sr) (i : Nat) : Nat → Int := fun r => match ((List.range 16).drop i).find? (byP s r) with
  | some k => (k : Int) + 1
  | none => 0
theorem by_t {s : Sr} {i r : Nat} (h : i < 16) (hl : s.lv i = true) (hr : s.H i = r) : upd (byS s (i + 1)) r ((i : Int) + 1) = byS s i := by
  funext j
  by_cases e : j = r
  · subst e
    rw [upd_same]; unfold byS
    rw [range_dr h, List.find?_cons, show byP s j i = true from by unfold byP; rw [hl, hr]; simp]
  · rw [upd_ne _ _ e]; unfold byS
    rw [range_dr h, List.find?_cons, show byP s j i = false from by unfold byP; rw [hr, decide_eq_false (by omega)]; simp]
theorem by_f {s : Sr} {i : Nat} (h : i < 16) (hn : ¬ (s.lv i = true ∧ 0 ≤ s.H i)) : byS s (i + 1) = byS s i := by
  funext j
  unfold byS
  rw [range_dr h, List.find?_cons, show byP s j i = false from by
    unfold byP
    cases hl : s.lv i with
    | false => rfl
    | true => rw [decide_eq_false (fun c => hn ⟨hl, by omega⟩)]; rfl]
theorem held_fm (c : Cr) (p : Nat → Bool) : ∀ L : List Nat, heldT c ((L.filter p).map fun (i : Nat) => (i : Int)) = L.flatMap fun (k : Nat) => if p k = true then (if 0 ≤ c.H k then [(c.H k, (k : Int))] else []) else []
  | [] => rfl
  | k :: L => by
    rw [List.flatMap_cons, ← held_fm c p L]
    cases hp : p k with
    | true =>
      rw [List.filter_cons_of_pos hp, List.map_cons, if_pos rfl]
      unfold heldT; rw [List.flatMap_cons, Int.toNat_natCast]
    | false => rw [List.filter_cons_of_neg (by rw [hp]; decide), if_neg (by decide)]; rfl
theorem find_fm (p : Nat → Bool) (q : Int → Bool) : ∀ L : List Nat, ((L.filter p).map fun (i : Nat) => (i : Int)).find? q = (L.find? fun (k : Nat) => p k && q (k : Int)).map fun (i : Nat) => (i : Int)
  | [] => rfl
  | k :: L => by
    cases hp : p k with
    | true =>
      rw [List.filter_cons_of_pos hp, List.map_cons, List.find?_cons, List.find?_cons, find_fm p q L]
      cases hq : q (k : Int) <;> simp [hp, hq]
    | false =>
      rw [List.filter_cons_of_neg (by rw [hp]; decide), List.find?_cons, find_fm p q L]
      simp [hp]
theorem Like.want {c : Cr} {s : Sr} (h : Like c s) : wantF s 0 = heldL c := by
  show _ = heldT c (listN c.live 32)
  unfold listN
  rw [held_fm, range_32, List.flatMap_append]
  have e2 : ((List.range 16).map (16 + ·)).flatMap (fun (k : Nat) => if hasB c.live (k : Int) = true then (if 0 ≤ c.H k then [(c.H k, (k : Int))] else []) else []) = [] := by
    rw [List.flatMap_eq_nil_iff]
    intro a ha
    obtain ⟨b, _, rfl⟩ := List.mem_map.1 ha
    rw [if_neg (fun q => by have := h.h16 (i := 16 + b) q; omega)]
  rw [e2, List.append_nil]
  unfold wantF
  rw [List.drop_zero]
  refine fm_congr fun k hk => ?_
  have hk16 : k < 16 := List.mem_range.1 hk
  by_cases hl : c.L k
  · rw [if_pos hl, h.H hl]
    by_cases q : 0 ≤ c.H k
    · rw [if_pos ⟨(h.live k hk16).2 hl, q⟩, if_pos q]
    · rw [if_neg (fun z => q z.2), if_neg q]
  · rw [if_neg (fun z => hl ((h.live k hk16).1 z.1)), if_neg hl]
theorem Like.byq {c : Cr} {s : Sr} (h : Like c s) (r : Nat) : (listI c.live).find? (holdF c r) = ((List.range 16).find? (byP s r)).map fun (i : Nat) => (i : Int) := by
  show (listN c.live 32).find? _ = _
  unfold listN
  rw [find_fm, range_32, List.find?_append]
  have e2 : ((List.range 16).map (16 + ·)).find? (fun (k : Nat) => hasB c.live (k : Int) && holdF c r (k : Int)) = none := by
    rw [List.find?_eq_none]
    intro a ha
    obtain ⟨b, _, rfl⟩ := List.mem_map.1 ha
    intro q
    simp only [Bool.and_eq_true] at q
    have := h.h16 (i := 16 + b) q.1; omega
  rw [e2, Option.or_none]
  congr 1
  refine fd_congr fun k hk => ?_
  have hk16 : k < 16 := List.mem_range.1 hk
  unfold byP holdF
  rw [Int.toNat_natCast]
  by_cases hl : c.L k
  · have hl' : hasB c.live (k : Int) = true := hl
    rw [hl', (h.live k hk16).2 hl, h.H hl]
  · have hl' : hasB c.live (k : Int) = false := by
      cases q : hasB c.live (k : Int) with
      | true => exact absurd q hl
      | false => rfl
    have hl2 : s.lv k = false := by
      cases q : s.lv k with
      | true => exact absurd ((h.live k hk16).1 q) hl
      | false => rfl
    rw [hl', hl2]; rfl
theorem Like.by_ {c : Cr} {s : Sr} (h : Like c s) (r : Nat) : holderB c r = decide (byS s 0 r > 0) ∧ (holderB c r = true → holderI c r = byS s 0 r - 1) ∧ 0 ≤ byS s 0 r ∧ byS s 0 r ≤ 16 := by
  unfold holderB holderI byS
  rw [h.byq, List.drop_zero, decide_eq_true (show (0 : Int) ≤ r by omega), if_pos (show (0 : Int) ≤ r by omega)]
  cases hf : (List.range 16).find? (byP s r) with
  | none => exact ⟨rfl, fun q => by simp at q, by decide, by decide⟩
  | some k =>
    have : k < 16 := List.mem_range.1 (List.mem_of_find?_eq_some hf)
    refine ⟨?_, fun _ => ?_, ?_, ?_⟩
    · show true = decide ((k : Int) + 1 > 0); rw [decide_eq_true (by omega)]
    · show (k : Int) = (k : Int) + 1 - 1; omega
    · show 0 ≤ (k : Int) + 1; omega
    · show (k : Int) + 1 ≤ 16; omega
theorem hold_m1 (c : Cr) : holderB c (-1) = false := rfl

theorem lheld (c : Nat) (z : Cr) (s : Sr) (h : Like z s) (hK : Rd K ⟨0, 0, none⟩ (tab32.map fun m => .int .u8 m)) (hd : Dup K) : Ctr Tryd.prog B 68 [.pointer (some ⟨c, 0, none⟩), .agg (srC s).toArray] [many 16 (rowS s.jf), blk c (crC (z)) 110, many 16 (rowS z.jf), K] (fun v S => v = .bool true ∧ S = [many 16 (rowS s.jf), blk c (crC (z)) 110, many 16 (rowS z.jf), K]) := by
  refine Ctr_of_X (N := 116) Tryd.func68 rfl (by simp) rfl ?_
  intro w0 D0
  refine X_seq ?_
  refine X_region ?_
  refine XL_box (cs := srC s) .no rfl rfl rfl (fun b1 => ?_)
  refine XL_det .no (D_pure rfl) rfl ?_
  refine XL_then ?_
  refine X_seq ?_
  refine X_region ?_
  refine XL_det .no (D_pure rfl) rfl ?_
  refine XL_then ?_
  refine X_seq ?_
  refine X_region ?_
  refine XL_alloc (cs := rowI 8 (byS s 16)) .no zero_33 rfl (fun b2 => ?_)
  refine XL_then ?_
  refine X_seq ?_
  refine X_seq ?_
  refine X_region ?_
  refine XL_det .no (D_pure rfl) rfl ?_
  refine XL_then ?_
  refine X_block ?_
  refine X_rowa encI 3 1 ?_
  refine X_loop (α := Nat × Arr Int) (fun ⟨n, a⟩ => n ≤ 16 ∧ a.Own ∧ a.l = flatP (wantF s n)) (fun ⟨n, a⟩ => [(7, .int .i64 ((n : Int) - 1)), (5, .slice a.oad a.l.length a.c), (0, .pointer (some ⟨c, 0, none⟩)), (3, .pointer (some ⟨b1, 0, none⟩)), (6, .pointer (some ⟨b2, 0, none⟩))]) (fun ⟨n, a⟩ => [blk b1 (srC s) 69, blk b2 (rowI 8 (byS s n)) 33, row (.slice a.oad a.l.length a.c) 3 1 a.l.length (a.l.flatMap encI), many 16 (rowS s.jf), blk c (crC (z)) 110, many 16 (rowS z.jf), K]) (fun ⟨n, a⟩ => n) (16, Arr.emp) ?_ (by refine ⟨?_, ?_, ?_, ?_, ?_, trivial⟩ <;> rfl) (by repeat first | with_reducible exact .nil _ | with_reducible exact .here _ _ | exact .here _ _ | with_reducible exact Take.self _ | with_reducible apply Take.cons | with_reducible apply Out.there | with_reducible apply Take.skip | with_reducible exact Take.pre _ _ | with_reducible apply Out.app) ?_
  · exact ⟨by omega, Arr.emp_own, rfl⟩
  · rintro ⟨n, a⟩ ⟨hn, hao, ha⟩
    dsimp only
    have hal : a.l.length ≤ 32 := by have := want_len s (16 - n) n (by omega); rw [ha, flatP_len]; omega
    refine X_seq ?_
    refine X_seq ?_
    refine X_region ?_
    refine XL_det .no (D_pure rfl) rfl ?_
    refine XL_det .no (D_pure rfl) rfl ?_
    refine XL_then ?_
    refine X_cond rfl (fun h1 => ?_) (fun h1 => ?_)
    · try simp only [decide_eq_true_eq, decide_eq_false_iff_not, Bool.not_eq_true', Bool.not_eq_false', beq_iff_eq, bne_iff_ne, beq_eq_false_iff_ne, bne_eq_false_iff_eq, Int.not_lt, Int.not_le, gt_iff_lt, ge_iff_le, ne_eq] at h1
      obtain ⟨i, rfl⟩ : ∃ i, n = i + 1 := ⟨n - 1, by omega⟩
      rw [show (((i + 1 : Nat) : Int) - 1) = (i : Int) by omega]
      refine X_skip ?_
      refine thenX_normal ?_
      refine X_seq ?_
      refine X_block ?_
      refine X_seq ?_
      refine X_draw [blk b1 (srC s) 69] mixed (by repeat first | with_reducible exact .nil _ | with_reducible exact .here _ _ | with_reducible exact Take.self _ | with_reducible apply Take.cons | with_reducible apply Out.there | with_reducible apply Take.skip | with_reducible exact Take.pre _ _ | with_reducible apply Out.app) ?_
      refine XA_detp 0 rfl (by kernel_rfl) (by kernel_rfl) (by kernel_rfl) (fun _ _ _ _ h => h) .no (D_pureP rfl) rfl ?_
      refine XA_detp 1 rfl (by kernel_rfl) (by kernel_rfl) (by kernel_rfl) (fun _ _ _ _ h => h) .no (D_fldP rfl fld_69_0 (o' := 0) rfl) rfl ?_
      refine XA_detp 2 rfl (by kernel_rfl) (by kernel_rfl) (by kernel_rfl) (fun _ _ _ _ h => h) .no (D_idxAP rfl rfl arr_67 rfl (by omega) rfl) rfl ?_
      refine XA_detp 3 rfl (by kernel_rfl) (by kernel_rfl) (by kernel_rfl) (fun _ _ _ _ h => h) .no (D_fldP rfl fld_66_5 (o' := 0 + i * 6 + 5) rfl) rfl ?_
      refine XA_det 4 rfl (by kernel_rfl) (by kernel_rfl) (by kernel_rfl) (by kernel_rfl) (fun _ _ _ _ h => h) .no (D_ldo (v := .slice (s.jf i).secs.oad (s.jf i).secs.l.length (s.jf i).secs.c) rfl (by repeat first | with_reducible exact .here _ _ | with_reducible apply Out.there | with_reducible apply Out.app) tk_39 (sr_fld _ (by omega) rfl)) rfl ?_
      refine XA_detp 5 rfl (by kernel_rfl) (by kernel_rfl) (by kernel_rfl) (fun _ _ _ _ h => h) .no (D_pureP rfl) rfl ?_
      refine XA_detp 6 rfl (by kernel_rfl) (by kernel_rfl) (by kernel_rfl) (fun _ _ _ _ h => h) .no (D_fldP rfl fld_69_0 (o' := 0) rfl) rfl ?_
      refine XA_detp 7 rfl (by kernel_rfl) (by kernel_rfl) (by kernel_rfl) (fun _ _ _ _ h => h) .no (D_idxAP rfl rfl arr_67 rfl (by omega) rfl) rfl ?_
      refine XA_detp 8 rfl (by kernel_rfl) (by kernel_rfl) (by kernel_rfl) (fun _ _ _ _ h => h) .no (D_fldP rfl fld_66_4 (o' := 0 + i * 6 + 4) rfl) rfl ?_
      refine XA_det 9 rfl (by kernel_rfl) (by kernel_rfl) (by kernel_rfl) (by kernel_rfl) (fun _ _ _ _ h => h) .no (D_ldo (v := .int .i64 (s.jf i).done) rfl (by repeat first | with_reducible exact .here _ _ | with_reducible apply Out.there | with_reducible apply Out.app) tk_3 (sr_fld _ (by omega) rfl)) rfl ?_
      refine XA_one 10 (by kernel_rfl) ?_
      refine XO_callk rfl .no en_66 rfl (by repeat first | with_reducible exact .nil _ | with_reducible apply App.cons) (rhold (Kj := many 16 (rowS s.jf)) (s.jf i).secs (s.jf i).done (Rd_many (by omega : i < 16) (Rd_own (h.so.own i (by omega)) rfl))) (by repeat first | with_reducible exact .nil _ | with_reducible exact .here _ _ | with_reducible exact Take.self _ | with_reducible apply Take.cons | with_reducible apply Out.there | with_reducible apply Take.skip | with_reducible exact Take.pre _ _ | with_reducible apply Out.app) rfl ?_
      refine XA_detp 11 rfl (by kernel_rfl) (by kernel_rfl) (by kernel_rfl) (fun _ _ _ _ h => h) .no (D_pureP rfl) rfl ?_
      refine XA_done (by kernel_rfl) ?_
      try simp only [List.cons_append, List.nil_append, List.append_nil]
      refine thenX_normal ?_
      refine X_seq ?_
      refine X_region ?_
      refine XL_det .no (D_pure rfl) rfl ?_
      refine XL_det .no (D_fld rfl fld_69_0 (o' := 0) rfl) rfl ?_
      refine XL_det .no (D_idxA rfl rfl arr_67 rfl (by omega) rfl) rfl ?_
      refine XL_det .no (D_fld rfl fld_66_0 (o' := 0 + i * 6 + 0) rfl) rfl ?_
      refine XL_det .no (D_ldo (v := .bool (s.lv i)) rfl (by repeat first | with_reducible exact .here _ _ | with_reducible apply Out.there | with_reducible apply Out.app) tk_4 (sr_fld _ (by omega) rfl)) rfl ?_
      refine XL_det .no (D_pure rfl) rfl ?_
      refine XL_split (t := 36) rfl (fun h2 => ?_) (fun h2 => ?_)
      · try simp only [decide_eq_true_eq, decide_eq_false_iff_not, Bool.not_eq_true', Bool.not_eq_false', beq_iff_eq, bne_iff_ne, beq_eq_false_iff_ne, bne_eq_false_iff_eq, Int.not_lt, Int.not_le, gt_iff_lt, ge_iff_le, ne_eq] at h2
        refine XL_det (.yes 36 rfl rfl rfl) (D_pure rfl) rfl ?_
        refine XL_det (.yes 36 rfl rfl rfl) (D_pure rfl) rfl ?_
        refine XL_det .no (D_pure rfl) rfl ?_
        refine XL_then ?_
        refine X_cond rfl (fun h3 => ?_) (fun h3 => ?_)
        · try simp only [decide_eq_true_eq, decide_eq_false_iff_not, Bool.not_eq_true', Bool.not_eq_false', beq_iff_eq, bne_iff_ne, beq_eq_false_iff_ne, bne_eq_false_iff_eq, Int.not_lt, Int.not_le, gt_iff_lt, ge_iff_le, ne_eq] at h3
          have h3 : 0 ≤ s.H i := h3
          obtain ⟨r, hr⟩ := Int.eq_ofNat_of_zero_le h3
          have hr8 : r < 8 := by have := h.so.h8 i (by omega); omega
          refine X_seq ?_
          refine X_region ?_
          refine XL_det .no (D_pure rfl) rfl ?_
          refine XL_det .no (D_pure rfl) rfl ?_
          refine XL_bslice (cs := [.int .i64 (s.H i), .int .i64 (i : Int)]) .no rfl slt_60 (by decide) (by decide) (by rfl) (by rfl) rfl rfl (fun b3 => ?_)
          refine XL_det .no (D_pure rfl) rfl ?_
          refine XL_blkrow (b := b3) (e := 3) (cs := [.int .i64 (s.H i), .int .i64 (i : Int)]) 2 1 (by repeat first | with_reducible exact .here _ _ | with_reducible apply Out.there | with_reducible apply Out.app) rfl rfl ?_
          refine XL_appa (enc := encI) (c := Arr.lit b3 [s.H i, (i : Int)] (by simp)) (b := a) .no rfl rfl slt_60 (.here _ _) (by repeat first | with_reducible exact .here _ _ | with_reducible apply Out.there | with_reducible apply Out.app) (Rd_own hao rfl) (fun _ => rfl) (fun _ => rfl) (by show 2 + a.l.length ≤ _; omega) (by show (2 + a.l.length) * _ ≤ _; omega) rfl (fun a2 ha2 ha2o => ?_)
          refine XL_det .no (D_pure rfl) rfl ?_
          refine XL_then ?_
          refine X_region ?_
          refine XL_det .no (D_pure rfl) rfl ?_
          refine XL_det .no (D_pure rfl) rfl ?_
          refine XL_det .no (D_add rfl rfl (by omega) (by omega)) rfl ?_
          refine XL_det .no (D_idxA rfl rfl arr_33 hr (by omega) rfl) rfl ?_
          refine XL_efd .no (F_st (k := 0 + r * 1) (cs' := rowI 8 (byS s i)) rfl rfl rfl (by repeat first | with_reducible exact .here _ _ | with_reducible apply Out.there | with_reducible apply Out.app) tk_3 (row8_lt (by omega)) (row8_set.trans (by rw [by_t (by omega) h2 hr]))) ?_
          refine XL_nil ?_
          refine inBlk_normal ?_
          refine thenX_normal ?_
          refine X_region ?_
          refine XL_det .no (D_pure rfl) rfl ?_
          refine XL_det .no (D_sub rfl rfl (by omega) (by omega)) rfl ?_
          refine XL_det .no (D_pure rfl) rfl ?_
          refine XL_nil ?_
          refine loopQ_next (i, a2) ?_ ?_ ?_ ?_
          · (try dsimp only); exact ⟨by omega, ha2o, by rw [ha2, want_t (by omega) h2 h3, ha]; rfl⟩
          · (try dsimp only); omega
          · refine ⟨?_, ?_, ?_, ?_, ?_, trivial⟩ <;> rfl
          · (try dsimp only); exact ⟨_, (by repeat first | with_reducible exact .nil _ | with_reducible exact .here _ _ | exact .here _ _ | with_reducible exact Take.self _ | with_reducible apply Take.cons | with_reducible apply Out.there | with_reducible apply Take.skip | with_reducible exact Take.pre _ _ | with_reducible apply Out.app)⟩
        · try simp only [decide_eq_true_eq, decide_eq_false_iff_not, Bool.not_eq_true', Bool.not_eq_false', beq_iff_eq, bne_iff_ne, beq_eq_false_iff_ne, bne_eq_false_iff_eq, Int.not_lt, Int.not_le, gt_iff_lt, ge_iff_le, ne_eq] at h3
          have h3 : s.H i < 0 := h3
          refine X_skip ?_
          refine inBlk_normal ?_
          refine thenX_normal ?_
          refine X_region ?_
          refine XL_det .no (D_pure rfl) rfl ?_
          refine XL_det .no (D_sub rfl rfl (by omega) (by omega)) rfl ?_
          refine XL_det .no (D_pure rfl) rfl ?_
          refine XL_nil ?_
          rw [by_f (s := s) (i := i) (by omega) (fun q => absurd q.2 (Int.not_le.2 h3))]
          refine loopQ_next (i, a) ?_ ?_ ?_ ?_
          · (try dsimp only); exact ⟨by omega, hao, by rw [want_f (by omega) (fun q => absurd q.2 (Int.not_le.2 h3))]; exact ha⟩
          · (try dsimp only); omega
          · refine ⟨?_, ?_, ?_, ?_, ?_, trivial⟩ <;> rfl
          · (try dsimp only); exact ⟨_, (by repeat first | with_reducible exact .nil _ | with_reducible exact .here _ _ | exact .here _ _ | with_reducible exact Take.self _ | with_reducible apply Take.cons | with_reducible apply Out.there | with_reducible apply Take.skip | with_reducible exact Take.pre _ _ | with_reducible apply Out.app)⟩
      · try simp only [decide_eq_true_eq, decide_eq_false_iff_not, Bool.not_eq_true', Bool.not_eq_false', beq_iff_eq, bne_iff_ne, beq_eq_false_iff_ne, bne_eq_false_iff_eq, Int.not_lt, Int.not_le, gt_iff_lt, ge_iff_le, ne_eq] at h2
        refine XL_skip 36 rfl rfl rfl rfl rfl ?_
        refine XL_skip 36 rfl rfl rfl rfl rfl ?_
        refine XL_det .no (D_pure rfl) rfl ?_
        refine XL_then ?_
        refine X_cond_f rfl rfl ?_
        refine X_skip ?_
        refine inBlk_normal ?_
        refine thenX_normal ?_
        refine X_region ?_
        refine XL_det .no (D_pure rfl) rfl ?_
        refine XL_det .no (D_sub rfl rfl (by omega) (by omega)) rfl ?_
        refine XL_det .no (D_pure rfl) rfl ?_
        refine XL_nil ?_
        rw [by_f (s := s) (i := i) (by omega) (fun q => by rw [h2] at q; cases q.1)]
        refine loopQ_next (i, a) ?_ ?_ ?_ ?_
        · (try dsimp only); exact ⟨by omega, hao, by rw [want_f (by omega) (fun q => by rw [h2] at q; cases q.1)]; exact ha⟩
        · (try dsimp only); omega
        · refine ⟨?_, ?_, ?_, ?_, ?_, trivial⟩ <;> rfl
        · (try dsimp only); exact ⟨_, (by repeat first | with_reducible exact .nil _ | with_reducible exact .here _ _ | exact .here _ _ | with_reducible exact Take.self _ | with_reducible apply Take.cons | with_reducible apply Out.there | with_reducible apply Take.skip | with_reducible exact Take.pre _ _ | with_reducible apply Out.app)⟩
    · try simp only [decide_eq_true_eq, decide_eq_false_iff_not, Bool.not_eq_true', Bool.not_eq_false', beq_iff_eq, bne_iff_ne, beq_eq_false_iff_ne, bne_eq_false_iff_eq, Int.not_lt, Int.not_le, gt_iff_lt, ge_iff_le, ne_eq] at h1
      obtain rfl : n = 0 := by omega
      rw [h.want] at ha
      refine X_exit ?_
      refine thenX_exit ?_
      refine loopQ_exit ?_
      refine inBlk_here ?_
      refine thenX_normal ?_
      refine X_seq ?_
      refine X_region ?_
      refine XL_det .no (D_pure rfl) rfl ?_
      refine XL_call .no en_24 rfl (srow c z h.ok hK hd) (by repeat first | with_reducible exact .nil _ | with_reducible exact .here _ _ | with_reducible exact Take.self _ | with_reducible apply Take.cons | with_reducible apply Out.there | with_reducible apply Take.skip | with_reducible exact Take.pre _ _ | with_reducible apply Out.app) rfl ?_
      rintro _ _ ⟨x, ⟨hx, hxo⟩, rfl, rfl⟩
      simp only [List.cons_append, List.nil_append]
      refine XL_det .no (D_pure rfl) rfl ?_
      refine XL_then ?_
      refine X_seq ?_
      refine X_seq ?_
      refine X_region ?_
      refine XL_det .no (D_pure rfl) rfl ?_
      refine XL_det .no (D_len rfl rfl slc_60) rfl ?_
      refine XL_det .no (D_pure rfl) rfl ?_
      refine XL_det .no (D_len rfl rfl slc_60) rfl ?_
      refine XL_det .no (D_pure rfl) rfl ?_
      refine XL_then ?_
      refine X_cond rfl (fun h4 => ?_) (fun h4 => ?_)
      · try simp only [decide_eq_true_eq, decide_eq_false_iff_not, Bool.not_eq_true', Bool.not_eq_false', beq_iff_eq, bne_iff_ne, beq_eq_false_iff_ne, bne_eq_false_iff_eq, Int.not_lt, Int.not_le, gt_iff_lt, ge_iff_le, ne_eq] at h4
        exfalso; rw [hx, ha] at h4; exact h4 rfl
      · try simp only [decide_eq_true_eq, decide_eq_false_iff_not, Bool.not_eq_true', Bool.not_eq_false', beq_iff_eq, bne_iff_ne, beq_eq_false_iff_ne, bne_eq_false_iff_eq, Int.not_lt, Int.not_le, gt_iff_lt, ge_iff_le, ne_eq] at h4
        refine X_skip ?_
        refine thenX_normal ?_
        refine X_seq ?_
        refine X_seq ?_
        refine X_region ?_
        refine XL_det .no (D_pure rfl) rfl ?_
        refine XL_then ?_
        refine X_block ?_
        refine X_loop (α := Nat) (fun q => q ≤ x.l.length) (fun q => [(10, .int .i64 (q : Int)), (0, .pointer (some ⟨c, 0, none⟩)), (3, .pointer (some ⟨b1, 0, none⟩)), (5, .slice a.oad a.l.length a.c), (6, .pointer (some ⟨b2, 0, none⟩)), (9, .slice x.oad x.l.length x.c)]) (fun q => [blk b1 (srC s) 69, blk b2 (rowI 8 (byS s 0)) 33, row (.slice x.oad x.l.length x.c) 3 1 x.l.length (x.l.flatMap encI), row (.slice a.oad a.l.length a.c) 3 1 a.l.length (a.l.flatMap encI), many 16 (rowS s.jf), blk c (crC (z)) 110, many 16 (rowS z.jf), K]) (fun q => x.l.length - q) 0 ?_ (by refine ⟨?_, ?_, ?_, ?_, ?_, ?_, trivial⟩ <;> rfl) (by repeat first | with_reducible exact .nil _ | with_reducible exact .here _ _ | with_reducible exact Take.self _ | with_reducible apply Take.cons | with_reducible apply Out.there | with_reducible apply Take.skip | with_reducible exact Take.pre _ _ | with_reducible apply Out.app) ?_
        · omega
        · rintro q hq
          refine X_seq ?_
          refine X_seq ?_
          refine X_region ?_
          refine XL_det .no (D_pure rfl) rfl ?_
          refine XL_det .no (D_pure rfl) rfl ?_
          refine XL_det .no (D_len rfl rfl slc_60) rfl ?_
          refine XL_det .no (D_pure rfl) rfl ?_
          refine XL_then ?_
          refine X_cond rfl (fun h5 => ?_) (fun h5 => ?_)
          · try simp only [decide_eq_true_eq, decide_eq_false_iff_not, Bool.not_eq_true', Bool.not_eq_false', beq_iff_eq, bne_iff_ne, beq_eq_false_iff_ne, bne_eq_false_iff_eq, Int.not_lt, Int.not_le, gt_iff_lt, ge_iff_le, ne_eq] at h5
            obtain ⟨y, hgx⟩ : ∃ y, x.l[q]? = some y := ⟨_, List.getElem?_eq_getElem (by omega)⟩
            have hga : a.l[q]? = some y := by rw [ha, ← hx]; exact hgx
            refine X_skip ?_
            refine thenX_normal ?_
            refine X_seq ?_
            refine X_block ?_
            refine X_seq ?_
            refine X_draw [row (.slice x.oad x.l.length x.c) 3 1 x.l.length (x.l.flatMap encI), row (.slice a.oad a.l.length a.c) 3 1 a.l.length (a.l.flatMap encI)] mixed (by repeat first | with_reducible exact .nil _ | with_reducible exact .here _ _ | with_reducible exact Take.self _ | with_reducible apply Take.cons | with_reducible apply Out.there | with_reducible apply Take.skip | with_reducible exact Take.pre _ _ | with_reducible apply Out.app) ?_
            refine XA_detp 0 rfl (by kernel_rfl) (by kernel_rfl) (by kernel_rfl) (fun _ _ _ _ h => h) .no (D_pureP rfl) rfl ?_
            refine XA_detp 1 rfl (by kernel_rfl) (by kernel_rfl) (by kernel_rfl) (fun _ _ _ _ h => h) .no (D_pureP rfl) rfl ?_
            refine XA_detp 2 rfl (by kernel_rfl) (by kernel_rfl) (by kernel_rfl) (fun _ _ _ _ h => h) .no (D_idxSoP rfl rfl slc_60 (x).nil0 rfl (by omega) rfl) rfl ?_
            refine XA_det 3 rfl (by kernel_rfl) (by kernel_rfl) (by kernel_rfl) (by kernel_rfl) (fun _ _ _ _ h => h) .no (D_ela (enc := encI) (sz := 1) (i := q) (k := 0) (fun _ => rfl) rfl (by repeat first | with_reducible exact .here _ _ | with_reducible apply Out.there | with_reducible apply Out.app) (Rd_own hxo rfl) tk_3 hgx rfl) rfl ?_
            refine XA_detp 4 rfl (by kernel_rfl) (by kernel_rfl) (by kernel_rfl) (fun _ _ _ _ h => h) .no (D_pureP rfl) rfl ?_
            refine XA_detp 5 rfl (by kernel_rfl) (by kernel_rfl) (by kernel_rfl) (fun _ _ _ _ h => h) .no (D_pureP rfl) rfl ?_
            refine XA_detp 6 rfl (by kernel_rfl) (by kernel_rfl) (by kernel_rfl) (fun _ _ _ _ h => h) .no (D_idxSoP rfl rfl slc_60 (a).nil0 rfl (by omega) rfl) rfl ?_
            refine XA_det 7 rfl (by kernel_rfl) (by kernel_rfl) (by kernel_rfl) (by kernel_rfl) (fun _ _ _ _ h => h) .no (D_ela (enc := encI) (sz := 1) (i := q) (k := 0) (fun _ => rfl) rfl (by repeat first | with_reducible exact .here _ _ | with_reducible apply Out.there | with_reducible apply Out.app) (Rd_own hao rfl) tk_3 hga rfl) rfl ?_
            refine XA_detp 8 rfl (by kernel_rfl) (by kernel_rfl) (by kernel_rfl) (fun _ _ _ _ h => h) .no (D_pureP rfl) rfl ?_
            refine XA_done (by kernel_rfl) ?_
            try simp only [List.cons_append, List.nil_append, List.append_nil]
            refine thenX_normal ?_
            refine X_cond rfl (fun h6 => ?_) (fun h6 => ?_)
            · try simp only [decide_eq_true_eq, decide_eq_false_iff_not, Bool.not_eq_true', Bool.not_eq_false', beq_iff_eq, bne_iff_ne, beq_eq_false_iff_ne, bne_eq_false_iff_eq, Int.not_lt, Int.not_le, gt_iff_lt, ge_iff_le, ne_eq] at h6
              exact absurd trivial h6
            · try simp only [decide_eq_true_eq, decide_eq_false_iff_not, Bool.not_eq_true', Bool.not_eq_false', beq_iff_eq, bne_iff_ne, beq_eq_false_iff_ne, bne_eq_false_iff_eq, Int.not_lt, Int.not_le, gt_iff_lt, ge_iff_le, ne_eq] at h6
              refine X_skip ?_
              refine inBlk_normal ?_
              refine thenX_normal ?_
              refine X_region ?_
              refine XL_det .no (D_pure rfl) rfl ?_
              refine XL_det .no (D_add rfl rfl (by omega) (by omega)) rfl ?_
              refine XL_det .no (D_pure rfl) rfl ?_
              refine XL_nil ?_
              refine loopQ_next (q + 1) ?_ ?_ ?_ ?_
              · omega
              · omega
              · refine ⟨?_, ?_, ?_, ?_, ?_, ?_, trivial⟩ <;> rfl
              · exact ⟨_, (by repeat first | with_reducible exact .nil _ | with_reducible exact .here _ _ | with_reducible exact Take.self _ | with_reducible apply Take.cons | with_reducible apply Out.there | with_reducible apply Take.skip | with_reducible exact Take.pre _ _ | with_reducible apply Out.app)⟩
          · try simp only [decide_eq_true_eq, decide_eq_false_iff_not, Bool.not_eq_true', Bool.not_eq_false', beq_iff_eq, bne_iff_ne, beq_eq_false_iff_ne, bne_eq_false_iff_eq, Int.not_lt, Int.not_le, gt_iff_lt, ge_iff_le, ne_eq] at h5
            refine X_exit ?_
            refine thenX_exit ?_
            refine loopQ_exit ?_
            refine inBlk_here ?_
            refine thenX_normal ?_
            refine X_seq ?_
            refine X_seq ?_
            refine X_region ?_
            refine XL_det .no (D_pure rfl) rfl ?_
            refine XL_then ?_
            refine X_block ?_
            refine X_loop (α := Nat) (fun r => r ≤ 8) (fun r => [(11, .int .i64 (r : Int)), (0, .pointer (some ⟨c, 0, none⟩)), (3, .pointer (some ⟨b1, 0, none⟩)), (5, .slice a.oad a.l.length a.c), (6, .pointer (some ⟨b2, 0, none⟩)), (9, .slice x.oad x.l.length x.c)]) (fun r => [blk b1 (srC s) 69, blk b2 (rowI 8 (byS s 0)) 33, row (.slice x.oad x.l.length x.c) 3 1 x.l.length (x.l.flatMap encI), row (.slice a.oad a.l.length a.c) 3 1 a.l.length (a.l.flatMap encI), many 16 (rowS s.jf), blk c (crC (z)) 110, many 16 (rowS z.jf), K]) (fun r => 8 - r) 0 ?_ (by refine ⟨?_, ?_, ?_, ?_, ?_, ?_, trivial⟩ <;> rfl) (by repeat first | with_reducible exact .nil _ | with_reducible exact .here _ _ | with_reducible exact Take.self _ | with_reducible apply Take.cons | with_reducible apply Out.there | with_reducible apply Take.skip | with_reducible exact Take.pre _ _ | with_reducible apply Out.app) ?_
            · omega
            · rintro r hr
              refine X_seq ?_
              refine X_seq ?_
              refine X_region ?_
              refine XL_det .no (D_pure rfl) rfl ?_
              refine XL_det .no (D_pure rfl) rfl ?_
              refine XL_then ?_
              refine X_cond rfl (fun h7 => ?_) (fun h7 => ?_)
              · try simp only [decide_eq_true_eq, decide_eq_false_iff_not, Bool.not_eq_true', Bool.not_eq_false', beq_iff_eq, bne_iff_ne, beq_eq_false_iff_ne, bne_eq_false_iff_eq, Int.not_lt, Int.not_le, gt_iff_lt, ge_iff_le, ne_eq] at h7
                have hr8 : r < 8 := by omega
                obtain ⟨hb1, hb2, hb3, hb4⟩ := h.by_ r
                have htb : s.tab r = atV z.tab r := by rw [h.tab r hr8]; unfold atV; rw [if_pos (by omega), Int.toNat_natCast]
                refine X_skip ?_
                refine thenX_normal ?_
                refine X_seq ?_
                refine X_block ?_
                refine X_seq ?_
                refine X_region ?_
                refine XL_det .no (D_pure rfl) rfl ?_
                refine XL_det .no (D_pure rfl) rfl ?_
                refine XL_call .no en_88 rfl (sholder c z h.ok (r : Int) hK hd) (by repeat first | with_reducible exact .nil _ | with_reducible exact .here _ _ | with_reducible exact Take.self _ | with_reducible apply Take.cons | with_reducible apply Out.there | with_reducible apply Take.skip | with_reducible exact Take.pre _ _ | with_reducible apply Out.app) rfl ?_
                rintro _ _ ⟨rfl, rfl⟩
                simp only [List.cons_append, List.nil_append]
                refine XL_det .no (D_pure rfl) rfl ?_
                refine XL_det .no (D_pure (v := .int .i64 (holderI z r)) rfl) rfl ?_
                refine XL_det .no (D_pure (v := .bool (holderB z r)) rfl) rfl ?_
                refine XL_det .no (D_pure rfl) rfl ?_
                refine XL_det .no (D_pure rfl) rfl ?_
                refine XL_then ?_
                refine X_seq ?_
                refine X_draw [blk b2 (rowI 8 (byS s 0)) 33, blk b1 (srC s) 69, blk c (crC (z)) 110] mixed (by repeat first | with_reducible exact .nil _ | with_reducible exact .here _ _ | with_reducible exact Take.self _ | with_reducible apply Take.cons | with_reducible apply Out.there | with_reducible apply Take.skip | with_reducible exact Take.pre _ _ | with_reducible apply Out.app) ?_
                refine XA_detp 0 rfl (by kernel_rfl) (by kernel_rfl) (by kernel_rfl) (fun _ _ _ _ h => h) .no (D_pureP rfl) rfl ?_
                refine XA_detp 1 rfl (by kernel_rfl) (by kernel_rfl) (by kernel_rfl) (fun _ _ _ _ h => h) .no (D_pureP rfl) rfl ?_
                refine XA_detp 2 rfl (by kernel_rfl) (by kernel_rfl) (by kernel_rfl) (fun _ _ _ _ h => h) .no (D_idxAP rfl rfl arr_33 rfl (by omega) rfl) rfl ?_
                refine XA_det 3 rfl (by kernel_rfl) (by kernel_rfl) (by kernel_rfl) (by kernel_rfl) (fun _ _ _ _ h => h) .no (D_ldo (v := .int .i64 (byS s 0 r)) rfl (by repeat first | with_reducible exact .here _ _ | with_reducible apply Out.there | with_reducible apply Out.app) tk_3 (row8_get hr8)) rfl ?_
                refine XA_detp 4 rfl (by kernel_rfl) (by kernel_rfl) (by kernel_rfl) (fun _ _ _ _ h => h) .no (D_pureP rfl) rfl ?_
                refine XA_det 5 rfl (by kernel_rfl) (by kernel_rfl) (by kernel_rfl) (by kernel_rfl) (fun _ _ _ _ h => h) .no (D_eqb (b := false) rfl rfl ub_4 (by show (holderB z r != decide (byS s 0 r > 0)) = false; rw [hb1]; simp)) rfl ?_
                refine XA_detp 6 rfl (by kernel_rfl) (by kernel_rfl) (by kernel_rfl) (fun _ _ _ _ h => h) .no (D_pureP rfl) rfl ?_
                refine XA_detp 7 rfl (by kernel_rfl) (by kernel_rfl) (by kernel_rfl) (fun _ _ _ _ h => h) (.yes 87 rfl rfl rfl) (D_pureP rfl) rfl ?_
                refine XA_detp 8 rfl (by kernel_rfl) (by kernel_rfl) (by kernel_rfl) (fun _ _ _ _ h => h) (.yes 87 rfl rfl rfl) (D_pureP rfl) rfl ?_
                refine XA_split (t := 89) rfl (fun h8 => ?_) (fun h8 => ?_)
                · try simp only [decide_eq_true_eq, decide_eq_false_iff_not, Bool.not_eq_true', Bool.not_eq_false', beq_iff_eq, bne_iff_ne, beq_eq_false_iff_ne, bne_eq_false_iff_eq, Int.not_lt, Int.not_le, gt_iff_lt, ge_iff_le, ne_eq] at h8
                  refine XA_detp 9 rfl (by kernel_rfl) (by kernel_rfl) (by kernel_rfl) (fun _ _ _ _ h => h) (.yes 89 rfl rfl rfl) (D_pureP rfl) rfl ?_
                  refine XA_detp 10 rfl (by kernel_rfl) (by kernel_rfl) (by kernel_rfl) (fun _ _ _ _ h => h) (.yes 89 rfl rfl rfl) (D_pureP rfl) rfl ?_
                  refine XA_detp 11 rfl (by kernel_rfl) (by kernel_rfl) (by kernel_rfl) (fun _ _ _ _ h => h) (.yes 89 rfl rfl rfl) (D_idxAP rfl rfl arr_33 rfl (by omega) rfl) rfl ?_
                  refine XA_det 12 rfl (by kernel_rfl) (by kernel_rfl) (by kernel_rfl) (by kernel_rfl) (fun _ _ _ _ h => h) (.yes 89 rfl rfl rfl) (D_ldo (v := .int .i64 (byS s 0 r)) rfl (by repeat first | with_reducible exact .here _ _ | with_reducible apply Out.there | with_reducible apply Out.app) tk_3 (row8_get hr8)) rfl ?_
                  refine XA_det 13 rfl (by kernel_rfl) (by kernel_rfl) (by kernel_rfl) (by kernel_rfl) (fun _ _ _ _ h => h) (.yes 89 rfl rfl rfl) (D_sub rfl rfl (by omega) (by omega)) rfl ?_
                  refine XA_detp 14 rfl (by kernel_rfl) (by kernel_rfl) (by kernel_rfl) (fun _ _ _ _ h => h) (.yes 89 rfl rfl rfl) (D_pureP (v := .bool false) (bfn (by exact hb2 h8))) rfl ?_
                  refine XA_detp 15 rfl (by kernel_rfl) (by kernel_rfl) (by kernel_rfl) (fun _ _ _ _ h => h) (.yes 87 rfl rfl rfl) (D_pureP rfl) rfl ?_
                  refine XA_detp 16 rfl (by kernel_rfl) (by kernel_rfl) (by kernel_rfl) (fun _ _ _ _ h => h) .no (D_pureP rfl) rfl ?_
                  refine XA_detp 17 rfl (by kernel_rfl) (by kernel_rfl) (by kernel_rfl) (fun _ _ _ _ h => h) .no (D_pureP rfl) rfl ?_
                  refine XA_detp 18 rfl (by kernel_rfl) (by kernel_rfl) (by kernel_rfl) (fun _ _ _ _ h => h) (.yes 98 rfl rfl rfl) (D_pureP rfl) rfl ?_
                  refine XA_detp 20 rfl (by kernel_rfl) (by kernel_rfl) (by kernel_rfl) (fun _ _ _ _ h => h) (.yes 98 rfl rfl rfl) (D_pureP rfl) rfl ?_
                  refine XA_detp 22 rfl (by kernel_rfl) (by kernel_rfl) (by kernel_rfl) (fun _ _ _ _ h => h) (.yes 98 rfl rfl rfl) (D_pureP rfl) rfl ?_
                  refine XA_detp 23 rfl (by kernel_rfl) (by kernel_rfl) (by kernel_rfl) (fun _ _ _ _ h => h) (.yes 98 rfl rfl rfl) (D_fldP rfl fld_69_1 (o' := 96) rfl) rfl ?_
                  refine XA_detp 24 rfl (by kernel_rfl) (by kernel_rfl) (by kernel_rfl) (fun _ _ _ _ h => h) (.yes 98 rfl rfl rfl) (D_idxAP rfl rfl arr_33 rfl (by omega) rfl) rfl ?_
                  refine XA_det 25 rfl (by kernel_rfl) (by kernel_rfl) (by kernel_rfl) (by kernel_rfl) (fun _ _ _ _ h => h) (.yes 98 rfl rfl rfl) (D_ldo (v := .int .i64 (s.tab r)) rfl (by repeat first | with_reducible exact .here _ _ | with_reducible apply Out.there | with_reducible apply Out.app) tk_3 (sr_tab s hr8)) rfl ?_
                  refine XA_one 19 (by kernel_rfl) ?_
                  refine XO_callk rfl (.yes 98 rfl rfl rfl) en_89 rfl (by repeat first | with_reducible exact .nil _ | with_reducible apply App.cons) (stable c z) (by repeat first | with_reducible exact .nil _ | with_reducible exact .here _ _ | with_reducible exact Take.self _ | with_reducible apply Take.cons | with_reducible apply Out.there | with_reducible apply Take.skip | with_reducible exact Take.pre _ _ | with_reducible apply Out.app) rfl ?_
                  refine XA_one 21 (by kernel_rfl) ?_
                  refine XO_callv rfl (.yes 98 rfl rfl rfl) en_90 rfl (cat z.tab (r : Int)) rfl ?_
                  refine XA_detp 26 rfl (by kernel_rfl) (by kernel_rfl) (by kernel_rfl) (fun _ _ _ _ h => h) (.yes 98 rfl rfl rfl) (D_pureP (v := .bool false) (bfn (by exact htb.symm))) rfl ?_
                  refine XA_detp 27 rfl (by kernel_rfl) (by kernel_rfl) (by kernel_rfl) (fun _ _ _ _ h => h) .no (D_pureP rfl) rfl ?_
                  refine XA_done (by kernel_rfl) ?_
                  try simp only [List.cons_append, List.nil_append, List.append_nil]
                  refine thenX_normal ?_
                  refine X_cond_f rfl rfl ?_
                  refine X_skip ?_
                  refine inBlk_normal ?_
                  refine thenX_normal ?_
                  refine X_region ?_
                  refine XL_det .no (D_pure rfl) rfl ?_
                  refine XL_det .no (D_add rfl rfl (by omega) (by omega)) rfl ?_
                  refine XL_det .no (D_pure rfl) rfl ?_
                  refine XL_nil ?_
                  refine loopQ_next (r + 1) ?_ ?_ ?_ ?_
                  · omega
                  · omega
                  · refine ⟨?_, ?_, ?_, ?_, ?_, ?_, trivial⟩ <;> rfl
                  · exact ⟨_, (by repeat first | with_reducible exact .nil _ | with_reducible exact .here _ _ | with_reducible exact Take.self _ | with_reducible apply Take.cons | with_reducible apply Out.there | with_reducible apply Take.skip | with_reducible exact Take.pre _ _ | with_reducible apply Out.app)⟩
                · try simp only [decide_eq_true_eq, decide_eq_false_iff_not, Bool.not_eq_true', Bool.not_eq_false', beq_iff_eq, bne_iff_ne, beq_eq_false_iff_ne, bne_eq_false_iff_eq, Int.not_lt, Int.not_le, gt_iff_lt, ge_iff_le, ne_eq] at h8
                  refine XA_skipp 9 89 rfl (by kernel_rfl) (by kernel_rfl) (by kernel_rfl) (fun _ _ _ _ h => h) rfl rfl rfl rfl rfl ?_
                  refine XA_skipp 10 89 rfl (by kernel_rfl) (by kernel_rfl) (by kernel_rfl) (fun _ _ _ _ h => h) rfl rfl rfl rfl rfl ?_
                  refine XA_skipp 11 89 rfl (by kernel_rfl) (by kernel_rfl) (by kernel_rfl) (fun _ _ _ _ h => h) rfl rfl rfl rfl rfl ?_
                  refine XA_skipp 12 89 rfl (by kernel_rfl) (by kernel_rfl) (by kernel_rfl) (fun _ _ _ _ h => h) rfl rfl rfl rfl rfl ?_
                  refine XA_skipp 13 89 rfl (by kernel_rfl) (by kernel_rfl) (by kernel_rfl) (fun _ _ _ _ h => h) rfl rfl rfl rfl rfl ?_
                  refine XA_skipp 14 89 rfl (by kernel_rfl) (by kernel_rfl) (by kernel_rfl) (fun _ _ _ _ h => h) rfl rfl rfl rfl rfl ?_
                  refine XA_detp 15 rfl (by kernel_rfl) (by kernel_rfl) (by kernel_rfl) (fun _ _ _ _ h => h) (.yes 87 rfl rfl rfl) (D_pureP rfl) rfl ?_
                  refine XA_detp 16 rfl (by kernel_rfl) (by kernel_rfl) (by kernel_rfl) (fun _ _ _ _ h => h) .no (D_pureP rfl) rfl ?_
                  refine XA_detp 17 rfl (by kernel_rfl) (by kernel_rfl) (by kernel_rfl) (fun _ _ _ _ h => h) .no (D_pureP rfl) rfl ?_
                  refine XA_detp 18 rfl (by kernel_rfl) (by kernel_rfl) (by kernel_rfl) (fun _ _ _ _ h => h) (.yes 98 rfl rfl rfl) (D_pureP rfl) rfl ?_
                  refine XA_detp 20 rfl (by kernel_rfl) (by kernel_rfl) (by kernel_rfl) (fun _ _ _ _ h => h) (.yes 98 rfl rfl rfl) (D_pureP rfl) rfl ?_
                  refine XA_detp 22 rfl (by kernel_rfl) (by kernel_rfl) (by kernel_rfl) (fun _ _ _ _ h => h) (.yes 98 rfl rfl rfl) (D_pureP rfl) rfl ?_
                  refine XA_detp 23 rfl (by kernel_rfl) (by kernel_rfl) (by kernel_rfl) (fun _ _ _ _ h => h) (.yes 98 rfl rfl rfl) (D_fldP rfl fld_69_1 (o' := 96) rfl) rfl ?_
                  refine XA_detp 24 rfl (by kernel_rfl) (by kernel_rfl) (by kernel_rfl) (fun _ _ _ _ h => h) (.yes 98 rfl rfl rfl) (D_idxAP rfl rfl arr_33 rfl (by omega) rfl) rfl ?_
                  refine XA_det 25 rfl (by kernel_rfl) (by kernel_rfl) (by kernel_rfl) (by kernel_rfl) (fun _ _ _ _ h => h) (.yes 98 rfl rfl rfl) (D_ldo (v := .int .i64 (s.tab r)) rfl (by repeat first | with_reducible exact .here _ _ | with_reducible apply Out.there | with_reducible apply Out.app) tk_3 (sr_tab s hr8)) rfl ?_
                  refine XA_one 19 (by kernel_rfl) ?_
                  refine XO_callk rfl (.yes 98 rfl rfl rfl) en_89 rfl (by repeat first | with_reducible exact .nil _ | with_reducible apply App.cons) (stable c z) (by repeat first | with_reducible exact .nil _ | with_reducible exact .here _ _ | with_reducible exact Take.self _ | with_reducible apply Take.cons | with_reducible apply Out.there | with_reducible apply Take.skip | with_reducible exact Take.pre _ _ | with_reducible apply Out.app) rfl ?_
                  refine XA_one 21 (by kernel_rfl) ?_
                  refine XO_callv rfl (.yes 98 rfl rfl rfl) en_90 rfl (cat z.tab (r : Int)) rfl ?_
                  refine XA_detp 26 rfl (by kernel_rfl) (by kernel_rfl) (by kernel_rfl) (fun _ _ _ _ h => h) (.yes 98 rfl rfl rfl) (D_pureP (v := .bool false) (bfn (by exact htb.symm))) rfl ?_
                  refine XA_detp 27 rfl (by kernel_rfl) (by kernel_rfl) (by kernel_rfl) (fun _ _ _ _ h => h) .no (D_pureP rfl) rfl ?_
                  refine XA_done (by kernel_rfl) ?_
                  try simp only [List.cons_append, List.nil_append, List.append_nil]
                  refine thenX_normal ?_
                  refine X_cond_f rfl rfl ?_
                  refine X_skip ?_
                  refine inBlk_normal ?_
                  refine thenX_normal ?_
                  refine X_region ?_
                  refine XL_det .no (D_pure rfl) rfl ?_
                  refine XL_det .no (D_add rfl rfl (by omega) (by omega)) rfl ?_
                  refine XL_det .no (D_pure rfl) rfl ?_
                  refine XL_nil ?_
                  refine loopQ_next (r + 1) ?_ ?_ ?_ ?_
                  · omega
                  · omega
                  · refine ⟨?_, ?_, ?_, ?_, ?_, ?_, trivial⟩ <;> rfl
                  · exact ⟨_, (by repeat first | with_reducible exact .nil _ | with_reducible exact .here _ _ | with_reducible exact Take.self _ | with_reducible apply Take.cons | with_reducible apply Out.there | with_reducible apply Take.skip | with_reducible exact Take.pre _ _ | with_reducible apply Out.app)⟩
              · try simp only [decide_eq_true_eq, decide_eq_false_iff_not, Bool.not_eq_true', Bool.not_eq_false', beq_iff_eq, bne_iff_ne, beq_eq_false_iff_ne, bne_eq_false_iff_eq, Int.not_lt, Int.not_le, gt_iff_lt, ge_iff_le, ne_eq] at h7
                refine X_exit ?_
                refine thenX_exit ?_
                refine loopQ_exit ?_
                refine inBlk_here ?_
                refine thenX_normal ?_
                refine X_seq ?_
                refine X_region ?_
                refine XL_det .no (D_pure rfl) rfl ?_
                refine XL_call .no en_88 rfl (sholder c z h.ok (-1) hK hd) (by repeat first | with_reducible exact .nil _ | with_reducible exact .here _ _ | with_reducible exact Take.self _ | with_reducible apply Take.cons | with_reducible apply Out.there | with_reducible apply Take.skip | with_reducible exact Take.pre _ _ | with_reducible apply Out.app) rfl ?_
                rintro _ _ ⟨rfl, rfl⟩
                simp only [List.cons_append, List.nil_append]
                rw [hold_m1]
                refine XL_det .no (D_pure rfl) rfl ?_
                refine XL_det .no (D_pure (v := .int .i64 (holderI z (-1))) rfl) rfl ?_
                refine XL_det .no (D_pure (v := .bool false) rfl) rfl ?_
                refine XL_det .no (D_pure rfl) rfl ?_
                refine XL_det .no (D_pure rfl) rfl ?_
                refine XL_then ?_
                refine X_seq ?_
                refine X_region ?_
                refine XL_det .no (D_pure rfl) rfl ?_
                refine XL_det .no (D_pure rfl) rfl ?_
                refine XL_det .no (D_pure rfl) rfl ?_
                refine XL_then ?_
                refine X_ret ?_
                refine ret_ok (.nil _) (res_tmp rfl rfl) ?_
                exact ⟨_, ⟨rfl, rfl⟩, _, (by repeat first | with_reducible exact .nil _ | with_reducible exact .here _ _ | exact .here _ _ | with_reducible exact Take.self _ | with_reducible apply Take.cons | with_reducible apply Out.there | with_reducible apply Take.skip | with_reducible exact Take.pre _ _ | with_reducible apply Out.app)⟩

end Go.Proofs.YtkkdchgnknpceaaDoor
end

section
namespace Go.Proofs.YtkkdchgnknpceaaDoor
open Go Go.Sl
set_option linter.unusedVariables false
set_option linter.unusedSimpArgs false
set_option maxRecDepth 4000
variable {B : Nat} {K : Asrt B}
theorem en_67 : Go.Proofs.Enters Tryd.prog 67 := Go.Proofs.enters_of Tryd.func67 (by kernel_rfl) rfl
theorem en_68 : Go.Proofs.Enters Tryd.prog 68 := Go.Proofs.enters_of Tryd.func68 (by kernel_rfl) rfl

/-- Of whom a job is there. -/
def liveN (s : Sr) : Nat → BitVec 32
  | 0 => 0#32
  | n + 1 => if s.lv n = true then liveN s n ||| bitv (n : Int) else liveN s n
theorem liveN_has {s : Sr} {m : Nat} (hm : m < 32) : ∀ n : Nat, n ≤ 16 → (hasB (liveN s n) (m : Int) = true ↔ m < n ∧ s.lv m = true)
  | 0, _ => by
    have : hasB (liveN s 0) (m : Int) = false := by show hasB 0#32 _ = false; simp [hasB]
    rw [this]; exact ⟨fun q => Bool.noConfusion q, fun q => absurd q.1 (by omega)⟩
  | n + 1, hn => by
    have ih := liveN_has (s := s) hm n (by omega)
    unfold liveN
    by_cases g : s.lv n = true
    · rw [if_pos g, live_with (by omega) hm, Bool.or_eq_true, ih, decide_eq_true_eq]
      constructor
      · rintro (q | rfl)
        · exact ⟨by omega, q.2⟩
        · exact ⟨by omega, g⟩
      · rintro ⟨q1, q2⟩
        by_cases e : m = n
        · exact .inr e
        · exact .inl ⟨by omega, q2⟩
    · rw [if_neg g, ih]
      constructor
      · rintro ⟨q1, q2⟩; exact ⟨by omega, q2⟩
      · rintro ⟨q1, q2⟩
        refine ⟨?_, q2⟩
        rcases Nat.lt_succ_iff_lt_or_eq.1 q1 with h | rfl
        · exact h
        · exact absurd q2 g
theorem Like.liveN {c : Cr} {s : Sr} (h : Like c s) : liveN s 16 = c.live := hasB_ext fun m hm => by
  rw [Bool.eq_iff_iff, liveN_has hm 16 (by omega)]
  constructor
  · rintro ⟨q1, q2⟩; exact (h.live m q1).1 q2
  · intro q; have h16 := h.h16 q; exact ⟨h16, (h.live m h16).2 q⟩
theorem Like.liveB {c : Cr} {s : Sr} (h : Like c s) {i : Nat} (hi : i < 16) : hasB c.live (i : Int) = s.lv i := by
  rw [Bool.eq_iff_iff]; exact (h.live i hi).symm

theorem lsame (c : Nat) (z : Cr) (s : Sr) (h : Like z s) (hK : Rd K ⟨0, 0, none⟩ (tab32.map fun m => .int .u8 m)) (hd : Dup K) : Ctr Tryd.prog B 32 [.pointer (some ⟨c, 0, none⟩), .agg (srC s).toArray] [many 16 (rowS s.jf), blk c (crC (z)) 110, many 16 (rowS z.jf), K] (fun v S => v = .bool true ∧ S = [many 16 (rowS s.jf), blk c (crC (z)) 110, many 16 (rowS z.jf), K]) := by
  refine Ctr_of_X (N := 138) Tryd.func32 rfl (by simp) rfl ?_
  intro w0 D0
  refine X_seq ?_
  refine X_region ?_
  refine XL_box (cs := srC s) .no rfl rfl rfl (fun b1 => ?_)
  refine XL_det .no (D_pure rfl) rfl ?_
  refine XL_then ?_
  refine X_seq ?_
  refine X_region ?_
  refine XL_det .no (D_pure rfl) rfl ?_
  refine XL_then ?_
  refine X_seq ?_
  refine X_seq ?_
  refine X_region ?_
  refine XL_det .no (D_pure rfl) rfl ?_
  refine XL_then ?_
  refine X_block ?_
  refine X_loop (α := Nat) (fun i => i ≤ 16) (fun i => [(6, .int .i64 (i : Int)), (5, .int .u32 (liveN s i).toNat), (0, .pointer (some ⟨c, 0, none⟩)), (3, .pointer (some ⟨b1, 0, none⟩))]) (fun i => [blk b1 (srC s) 69, many 16 (rowS s.jf), blk c (crC (z)) 110, many 16 (rowS z.jf), K]) (fun i => 16 - i) 0 ?_ (by refine ⟨?_, ?_, ?_, ?_, trivial⟩ <;> rfl) (by repeat first | with_reducible exact .nil _ | with_reducible exact .here _ _ | with_reducible exact Take.self _ | with_reducible apply Take.cons | with_reducible apply Out.there | with_reducible apply Take.skip | with_reducible exact Take.pre _ _ | with_reducible apply Out.app) ?_
  · omega
  · rintro i hi
    refine X_seq ?_
    refine X_seq ?_
    refine X_region ?_
    refine XL_det .no (D_pure rfl) rfl ?_
    refine XL_det .no (D_pure rfl) rfl ?_
    refine XL_then ?_
    refine X_cond rfl (fun h1 => ?_) (fun h1 => ?_)
    · try simp only [decide_eq_true_eq, decide_eq_false_iff_not, Bool.not_eq_true', Bool.not_eq_false', beq_iff_eq, bne_iff_ne, beq_eq_false_iff_ne, bne_eq_false_iff_eq, Int.not_lt, Int.not_le, gt_iff_lt, ge_iff_le, ne_eq] at h1
      have hlb := h.liveB (show i < 16 by omega)
      refine X_skip ?_
      refine thenX_normal ?_
      refine X_seq ?_
      refine X_block ?_
      refine X_seq ?_
      refine X_region ?_
      refine XL_det .no (D_pure rfl) rfl ?_
      refine XL_det .no (D_fld rfl fld_69_0 (o' := 0) rfl) rfl ?_
      refine XL_det .no (D_idxA rfl rfl arr_67 rfl (by omega) rfl) rfl ?_
      refine XL_det .no (D_ldso (vs := encSj (pj s i)) rfl (by repeat first | with_reducible exact .here _ _ | with_reducible apply Out.there | with_reducible apply Out.app) tk_66 (by rw [sr_len]; exact Nat.ble_eq_true_of_le (by omega)) (sr_job s (by omega))) rfl ?_
      refine XL_alloc .no zero_66 rfl (fun b2 => ?_)
      refine XL_efd .no (F_stw rfl rfl rfl (by repeat first | with_reducible exact .here _ _ | with_reducible apply Out.there | with_reducible apply Out.app) tk_66 rfl rfl) ?_
      refine XL_then ?_
      refine X_seq ?_
      refine X_region ?_
      refine XL_det .no (D_pure rfl) rfl ?_
      refine XL_det .no (D_pure rfl) rfl ?_
      refine XL_call .no en_67 rfl (sjob c z h.ok i (by omega) (fun q => h.len i q)) (by repeat first | with_reducible exact .nil _ | with_reducible exact .here _ _ | with_reducible exact Take.self _ | with_reducible apply Take.cons | with_reducible apply Out.there | with_reducible apply Take.skip | with_reducible exact Take.pre _ _ | with_reducible apply Out.app) rfl ?_
      rintro _ _ ⟨a, ha, rfl, rfl⟩
      simp only [List.cons_append, List.nil_append]
      refine XL_det .no (D_pure rfl) rfl ?_
      refine XL_det .no (D_pure (v := .agg (encJ (if hasB z.live (i : Int) = true then (⟨(z.jf i).id, (z.jf i).rel, (z.jf i).dl, (z.jf i).cost, (z.jf i).done, a⟩ : JC) else ⟨0, 0, 0, 0, 0, Arr.emp⟩)).toArray) rfl) rfl ?_
      refine XL_det .no (D_pure (v := .bool (hasB z.live (i : Int))) rfl) rfl ?_
      refine XL_alloc .no zero_45 rfl (fun b3 => ?_)
      refine XL_efd .no (F_stw rfl rfl rfl (by repeat first | with_reducible exact .here _ _ | with_reducible apply Out.there | with_reducible apply Out.app) tk_45 rfl rfl) ?_
      refine XL_det .no (D_pure rfl) rfl ?_
      refine XL_then ?_
      refine X_seq ?_
      refine X_seq ?_
      refine X_region ?_
      refine XL_det .no (D_pure rfl) rfl ?_
      refine XL_det .no (D_fld rfl fld_66_0 (o' := 0) rfl) rfl ?_
      refine XL_det .no (D_ldo (v := .bool (s.lv i)) rfl (by repeat first | with_reducible exact .here _ _ | with_reducible apply Out.there | with_reducible apply Out.app) tk_4 (by rfl)) rfl ?_
      refine XL_det .no (D_eqb (b := false) rfl rfl ub_4 (by show (hasB z.live (i : Int) != s.lv i) = false; rw [hlb]; simp)) rfl ?_
      refine XL_det .no (D_pure rfl) rfl ?_
      refine XL_det (.yes 31 rfl rfl rfl) (D_pure rfl) rfl ?_
      refine XL_det (.yes 31 rfl rfl rfl) (D_pure rfl) rfl ?_
      refine XL_split (t := 33) rfl (fun h2 => ?_) (fun h2 => ?_)
      · try simp only [decide_eq_true_eq, decide_eq_false_iff_not, Bool.not_eq_true', Bool.not_eq_false', beq_iff_eq, bne_iff_ne, beq_eq_false_iff_ne, bne_eq_false_iff_eq, Int.not_lt, Int.not_le, gt_iff_lt, ge_iff_le, ne_eq] at h2
        have hid := (h.ok.live i h2).2.1
        obtain ⟨hj1, hj2, hj3, hj4, hj5⟩ := h.job i (by omega) h2
        replace ha := ha h2
        rw [if_pos h2]
        refine XL_det (.yes 33 rfl rfl rfl) (D_fld rfl fld_45_0 (o' := 0) rfl) rfl ?_
        refine XL_det (.yes 33 rfl rfl rfl) (D_ldo rfl (by repeat first | with_reducible exact .here _ _ | with_reducible apply Out.there | with_reducible apply Out.app) tk_3 (by rfl)) rfl ?_
        refine XL_det (.yes 33 rfl rfl rfl) (D_pure rfl) rfl ?_
        refine XL_det (.yes 33 rfl rfl rfl) (D_pure (v := .bool false) (bfn (by exact hid))) rfl ?_
        refine XL_det (.yes 33 rfl rfl rfl) (D_pure rfl) rfl ?_
        refine XL_det (.yes 38 rfl rfl rfl) (D_fld rfl fld_45_1 (o' := 1) rfl) rfl ?_
        refine XL_det (.yes 38 rfl rfl rfl) (D_ldo rfl (by repeat first | with_reducible exact .here _ _ | with_reducible apply Out.there | with_reducible apply Out.app) tk_3 (by rfl)) rfl ?_
        refine XL_det (.yes 38 rfl rfl rfl) (D_fld rfl fld_66_1 (o' := 1) rfl) rfl ?_
        refine XL_det (.yes 38 rfl rfl rfl) (D_ldo rfl (by repeat first | with_reducible exact .here _ _ | with_reducible apply Out.there | with_reducible apply Out.app) tk_3 (by rfl)) rfl ?_
        refine XL_det (.yes 38 rfl rfl rfl) (D_pure (v := .bool false) (bfn (by exact hj1.symm))) rfl ?_
        refine XL_det (.yes 33 rfl rfl rfl) (D_pure rfl) rfl ?_
        refine XL_det (.yes 33 rfl rfl rfl) (D_pure rfl) rfl ?_
        refine XL_det (.yes 45 rfl rfl rfl) (D_fld rfl fld_45_2 (o' := 2) rfl) rfl ?_
        refine XL_det (.yes 45 rfl rfl rfl) (D_ldo rfl (by repeat first | with_reducible exact .here _ _ | with_reducible apply Out.there | with_reducible apply Out.app) tk_3 (by rfl)) rfl ?_
        refine XL_det (.yes 45 rfl rfl rfl) (D_fld rfl fld_66_2 (o' := 2) rfl) rfl ?_
        refine XL_det (.yes 45 rfl rfl rfl) (D_ldo rfl (by repeat first | with_reducible exact .here _ _ | with_reducible apply Out.there | with_reducible apply Out.app) tk_3 (by rfl)) rfl ?_
        refine XL_det (.yes 45 rfl rfl rfl) (D_pure (v := .bool false) (bfn (by exact hj2.symm))) rfl ?_
        refine XL_det (.yes 33 rfl rfl rfl) (D_pure rfl) rfl ?_
        refine XL_det (.yes 33 rfl rfl rfl) (D_pure rfl) rfl ?_
        refine XL_det (.yes 52 rfl rfl rfl) (D_fld rfl fld_45_3 (o' := 3) rfl) rfl ?_
        refine XL_det (.yes 52 rfl rfl rfl) (D_ldo rfl (by repeat first | with_reducible exact .here _ _ | with_reducible apply Out.there | with_reducible apply Out.app) tk_3 (by rfl)) rfl ?_
        refine XL_det (.yes 52 rfl rfl rfl) (D_fld rfl fld_66_3 (o' := 3) rfl) rfl ?_
        refine XL_det (.yes 52 rfl rfl rfl) (D_ldo rfl (by repeat first | with_reducible exact .here _ _ | with_reducible apply Out.there | with_reducible apply Out.app) tk_3 (by rfl)) rfl ?_
        refine XL_det (.yes 52 rfl rfl rfl) (D_pure (v := .bool false) (bfn (by exact hj3.symm))) rfl ?_
        refine XL_det (.yes 33 rfl rfl rfl) (D_pure rfl) rfl ?_
        refine XL_det (.yes 33 rfl rfl rfl) (D_pure rfl) rfl ?_
        refine XL_det (.yes 59 rfl rfl rfl) (D_fld rfl fld_45_4 (o' := 4) rfl) rfl ?_
        refine XL_det (.yes 59 rfl rfl rfl) (D_ldo rfl (by repeat first | with_reducible exact .here _ _ | with_reducible apply Out.there | with_reducible apply Out.app) tk_3 (by rfl)) rfl ?_
        refine XL_det (.yes 59 rfl rfl rfl) (D_fld rfl fld_66_4 (o' := 4) rfl) rfl ?_
        refine XL_det (.yes 59 rfl rfl rfl) (D_ldo rfl (by repeat first | with_reducible exact .here _ _ | with_reducible apply Out.there | with_reducible apply Out.app) tk_3 (by rfl)) rfl ?_
        refine XL_det (.yes 59 rfl rfl rfl) (D_pure (v := .bool false) (bfn (by exact hj4.symm))) rfl ?_
        refine XL_det (.yes 33 rfl rfl rfl) (D_pure rfl) rfl ?_
        refine XL_det (.yes 33 rfl rfl rfl) (D_pure rfl) rfl ?_
        refine XL_det (.yes 66 rfl rfl rfl) (D_fld rfl fld_45_5 (o' := 5) rfl) rfl ?_
        refine XL_det (.yes 66 rfl rfl rfl) (D_ldo rfl (by repeat first | with_reducible exact .here _ _ | with_reducible apply Out.there | with_reducible apply Out.app) tk_39 (by rfl)) rfl ?_
        refine XL_det (.yes 66 rfl rfl rfl) (D_len rfl rfl slc_39) rfl ?_
        refine XL_det (.yes 66 rfl rfl rfl) (D_fld rfl fld_66_5 (o' := 5) rfl) rfl ?_
        refine XL_det (.yes 66 rfl rfl rfl) (D_ldo rfl (by repeat first | with_reducible exact .here _ _ | with_reducible apply Out.there | with_reducible apply Out.app) tk_39 (by rfl)) rfl ?_
        refine XL_det (.yes 66 rfl rfl rfl) (D_len rfl rfl slc_39) rfl ?_
        refine XL_det (.yes 66 rfl rfl rfl) (D_pure (v := .bool false) (bfn (by exact congrArg (fun l : List Sec => (l.length : Int)) (ha.trans hj5.symm)))) rfl ?_
        refine XL_det (.yes 33 rfl rfl rfl) (D_pure rfl) rfl ?_
        refine XL_det (.yes 31 rfl rfl rfl) (D_pure rfl) rfl ?_
        refine XL_det .no (D_pure rfl) rfl ?_
        refine XL_then ?_
        refine X_cond_f rfl rfl ?_
        refine X_skip ?_
        refine thenX_normal ?_
        refine X_seq ?_
        refine X_region ?_
        refine XL_det .no (D_fld rfl fld_66_0 (o' := 0) rfl) rfl ?_
        refine XL_det .no (D_ldo (v := .bool (s.lv i)) rfl (by repeat first | with_reducible exact .here _ _ | with_reducible apply Out.there | with_reducible apply Out.app) tk_4 (by rfl)) rfl ?_
        refine XL_then ?_
        refine X_cond rfl (fun h3 => ?_) (fun h3 => ?_)
        · try simp only [decide_eq_true_eq, decide_eq_false_iff_not, Bool.not_eq_true', Bool.not_eq_false', beq_iff_eq, bne_iff_ne, beq_eq_false_iff_ne, bne_eq_false_iff_eq, Int.not_lt, Int.not_le, gt_iff_lt, ge_iff_le, ne_eq] at h3
          refine X_region ?_
          refine XL_det .no (D_pure rfl) rfl ?_
          refine XL_det .no (D_pure rfl) rfl ?_
          refine XL_callv .no en_51 rfl (mWith (liveN s i) (i : Int)) rfl ?_
          refine XL_det .no (D_pure rfl) rfl ?_
          refine XL_nil ?_
          refine inBlk_normal ?_
          refine thenX_normal ?_
          refine X_region ?_
          refine XL_det .no (D_pure rfl) rfl ?_
          refine XL_det .no (D_add rfl rfl (by omega) (by omega)) rfl ?_
          refine XL_det .no (D_pure rfl) rfl ?_
          refine XL_nil ?_
          refine loopQ_next (i + 1) ?_ ?_ ?_ ?_
          · omega
          · omega
          · refine ⟨?_, ?_, ?_, ?_, trivial⟩ <;> first | rfl | (refine congrArg (fun z : BitVec 32 => some (Value.int .u32 z.toNat)) ?_; show _ = liveN s (i + 1); rw [liveN, if_pos h3])
          · exact ⟨_, (by repeat first | with_reducible exact .nil _ | with_reducible exact .here _ _ | with_reducible exact Take.self _ | with_reducible apply Take.cons | with_reducible apply Out.there | with_reducible apply Take.skip | with_reducible exact Take.pre _ _ | with_reducible apply Out.app)⟩
        · try simp only [decide_eq_true_eq, decide_eq_false_iff_not, Bool.not_eq_true', Bool.not_eq_false', beq_iff_eq, bne_iff_ne, beq_eq_false_iff_ne, bne_eq_false_iff_eq, Int.not_lt, Int.not_le, gt_iff_lt, ge_iff_le, ne_eq] at h3
          refine X_skip ?_
          refine inBlk_normal ?_
          refine thenX_normal ?_
          refine X_region ?_
          refine XL_det .no (D_pure rfl) rfl ?_
          refine XL_det .no (D_add rfl rfl (by omega) (by omega)) rfl ?_
          refine XL_det .no (D_pure rfl) rfl ?_
          refine XL_nil ?_
          refine loopQ_next (i + 1) ?_ ?_ ?_ ?_
          · omega
          · omega
          · refine ⟨?_, ?_, ?_, ?_, trivial⟩ <;> first | rfl | (refine congrArg (fun z : BitVec 32 => some (Value.int .u32 z.toNat)) ?_; show _ = liveN s (i + 1); rw [liveN, if_neg (by rw [h3]; decide)])
          · exact ⟨_, (by repeat first | with_reducible exact .nil _ | with_reducible exact .here _ _ | with_reducible exact Take.self _ | with_reducible apply Take.cons | with_reducible apply Out.there | with_reducible apply Take.skip | with_reducible exact Take.pre _ _ | with_reducible apply Out.app)⟩
      · try simp only [decide_eq_true_eq, decide_eq_false_iff_not, Bool.not_eq_true', Bool.not_eq_false', beq_iff_eq, bne_iff_ne, beq_eq_false_iff_ne, bne_eq_false_iff_eq, Int.not_lt, Int.not_le, gt_iff_lt, ge_iff_le, ne_eq] at h2
        refine XL_skip 33 rfl rfl rfl rfl rfl ?_
        refine XL_skip 33 rfl rfl rfl rfl rfl ?_
        refine XL_skip 33 rfl rfl rfl rfl rfl ?_
        refine XL_skip 33 rfl rfl rfl rfl rfl ?_
        refine XL_skip 33 rfl rfl rfl rfl rfl ?_
        refine XL_skipu 38 rfl rfl rfl rfl ?_
        refine XL_skipu 38 rfl rfl rfl rfl ?_
        refine XL_skipu 38 rfl rfl rfl rfl ?_
        refine XL_skipu 38 rfl rfl rfl rfl ?_
        refine XL_skipu 38 rfl rfl rfl rfl ?_
        refine XL_skip 33 rfl rfl rfl rfl rfl ?_
        refine XL_skip 33 rfl rfl rfl rfl rfl ?_
        refine XL_skipu 45 rfl rfl rfl rfl ?_
        refine XL_skipu 45 rfl rfl rfl rfl ?_
        refine XL_skipu 45 rfl rfl rfl rfl ?_
        refine XL_skipu 45 rfl rfl rfl rfl ?_
        refine XL_skipu 45 rfl rfl rfl rfl ?_
        refine XL_skip 33 rfl rfl rfl rfl rfl ?_
        refine XL_skip 33 rfl rfl rfl rfl rfl ?_
        refine XL_skipu 52 rfl rfl rfl rfl ?_
        refine XL_skipu 52 rfl rfl rfl rfl ?_
        refine XL_skipu 52 rfl rfl rfl rfl ?_
        refine XL_skipu 52 rfl rfl rfl rfl ?_
        refine XL_skipu 52 rfl rfl rfl rfl ?_
        refine XL_skip 33 rfl rfl rfl rfl rfl ?_
        refine XL_skip 33 rfl rfl rfl rfl rfl ?_
        refine XL_skipu 59 rfl rfl rfl rfl ?_
        refine XL_skipu 59 rfl rfl rfl rfl ?_
        refine XL_skipu 59 rfl rfl rfl rfl ?_
        refine XL_skipu 59 rfl rfl rfl rfl ?_
        refine XL_skipu 59 rfl rfl rfl rfl ?_
        refine XL_skip 33 rfl rfl rfl rfl rfl ?_
        refine XL_skip 33 rfl rfl rfl rfl rfl ?_
        refine XL_skipu 66 rfl rfl rfl rfl ?_
        refine XL_skipu 66 rfl rfl rfl rfl ?_
        refine XL_skipu 66 rfl rfl rfl rfl ?_
        refine XL_skipu 66 rfl rfl rfl rfl ?_
        refine XL_skipu 66 rfl rfl rfl rfl ?_
        refine XL_skipu 66 rfl rfl rfl rfl ?_
        refine XL_skipu 66 rfl rfl rfl rfl ?_
        refine XL_skip 33 rfl rfl rfl rfl rfl ?_
        refine XL_det (.yes 31 rfl rfl rfl) (D_pure rfl) rfl ?_
        refine XL_det .no (D_pure rfl) rfl ?_
        refine XL_then ?_
        refine X_cond_f rfl rfl ?_
        refine X_skip ?_
        refine thenX_normal ?_
        refine X_seq ?_
        refine X_region ?_
        refine XL_det .no (D_fld rfl fld_66_0 (o' := 0) rfl) rfl ?_
        refine XL_det .no (D_ldo (v := .bool (s.lv i)) rfl (by repeat first | with_reducible exact .here _ _ | with_reducible apply Out.there | with_reducible apply Out.app) tk_4 (by rfl)) rfl ?_
        refine XL_then ?_
        refine X_cond rfl (fun h4 => ?_) (fun h4 => ?_)
        · try simp only [decide_eq_true_eq, decide_eq_false_iff_not, Bool.not_eq_true', Bool.not_eq_false', beq_iff_eq, bne_iff_ne, beq_eq_false_iff_ne, bne_eq_false_iff_eq, Int.not_lt, Int.not_le, gt_iff_lt, ge_iff_le, ne_eq] at h4
          refine X_region ?_
          refine XL_det .no (D_pure rfl) rfl ?_
          refine XL_det .no (D_pure rfl) rfl ?_
          refine XL_callv .no en_51 rfl (mWith (liveN s i) (i : Int)) rfl ?_
          refine XL_det .no (D_pure rfl) rfl ?_
          refine XL_nil ?_
          refine inBlk_normal ?_
          refine thenX_normal ?_
          refine X_region ?_
          refine XL_det .no (D_pure rfl) rfl ?_
          refine XL_det .no (D_add rfl rfl (by omega) (by omega)) rfl ?_
          refine XL_det .no (D_pure rfl) rfl ?_
          refine XL_nil ?_
          refine loopQ_next (i + 1) ?_ ?_ ?_ ?_
          · omega
          · omega
          · refine ⟨?_, ?_, ?_, ?_, trivial⟩ <;> first | rfl | (refine congrArg (fun z : BitVec 32 => some (Value.int .u32 z.toNat)) ?_; show _ = liveN s (i + 1); rw [liveN, if_pos h4])
          · exact ⟨_, (by repeat first | with_reducible exact .nil _ | with_reducible exact .here _ _ | with_reducible exact Take.self _ | with_reducible apply Take.cons | with_reducible apply Out.there | with_reducible apply Take.skip | with_reducible exact Take.pre _ _ | with_reducible apply Out.app)⟩
        · try simp only [decide_eq_true_eq, decide_eq_false_iff_not, Bool.not_eq_true', Bool.not_eq_false', beq_iff_eq, bne_iff_ne, beq_eq_false_iff_ne, bne_eq_false_iff_eq, Int.not_lt, Int.not_le, gt_iff_lt, ge_iff_le, ne_eq] at h4
          refine X_skip ?_
          refine inBlk_normal ?_
          refine thenX_normal ?_
          refine X_region ?_
          refine XL_det .no (D_pure rfl) rfl ?_
          refine XL_det .no (D_add rfl rfl (by omega) (by omega)) rfl ?_
          refine XL_det .no (D_pure rfl) rfl ?_
          refine XL_nil ?_
          refine loopQ_next (i + 1) ?_ ?_ ?_ ?_
          · omega
          · omega
          · refine ⟨?_, ?_, ?_, ?_, trivial⟩ <;> first | rfl | (refine congrArg (fun z : BitVec 32 => some (Value.int .u32 z.toNat)) ?_; show _ = liveN s (i + 1); rw [liveN, if_neg (by rw [h4]; decide)])
          · exact ⟨_, (by repeat first | with_reducible exact .nil _ | with_reducible exact .here _ _ | with_reducible exact Take.self _ | with_reducible apply Take.cons | with_reducible apply Out.there | with_reducible apply Take.skip | with_reducible exact Take.pre _ _ | with_reducible apply Out.app)⟩
    · try simp only [decide_eq_true_eq, decide_eq_false_iff_not, Bool.not_eq_true', Bool.not_eq_false', beq_iff_eq, bne_iff_ne, beq_eq_false_iff_ne, bne_eq_false_iff_eq, Int.not_lt, Int.not_le, gt_iff_lt, ge_iff_le, ne_eq] at h1
      obtain rfl : i = 16 := by omega
      have hlv := h.liveN
      refine X_exit ?_
      refine thenX_exit ?_
      refine loopQ_exit ?_
      refine inBlk_here ?_
      refine thenX_normal ?_
      refine X_seq ?_
      refine X_region ?_
      refine XL_det .no (D_pure rfl) rfl ?_
      refine XL_callk .no en_61 rfl (snext c z h.ok hK) (by repeat first | with_reducible exact .nil _ | with_reducible exact .here _ _ | with_reducible exact Take.self _ | with_reducible apply Take.cons | with_reducible apply Out.there | with_reducible apply Take.skip | with_reducible exact Take.pre _ _ | with_reducible apply Out.app) rfl ?_
      refine XL_det .no (D_pure rfl) rfl ?_
      refine XL_det .no (D_pure (v := .int .i64 (firstR z.r).1) rfl) rfl ?_
      refine XL_det .no (D_pure (v := .bool (firstR z.r).2) rfl) rfl ?_
      refine XL_det .no (D_pure rfl) rfl ?_
      refine XL_det .no (D_pure rfl) rfl ?_
      refine XL_then ?_
      refine X_seq ?_
      refine X_region ?_
      refine XL_det .no (D_ldso (vs := srC s) rfl (by repeat first | with_reducible exact .here _ _ | with_reducible apply Out.there | with_reducible apply Out.app) tk_69 rfl (by rw [List.drop_zero, List.take_of_length_le (by rw [sr_len]; exact Nat.le_refl _)])) rfl ?_
      refine XL_callk .no en_65 rfl (rnext s h.so) (by repeat first | with_reducible exact .nil _ | with_reducible exact .here _ _ | with_reducible exact Take.self _ | with_reducible apply Take.cons | with_reducible apply Out.there | with_reducible apply Take.skip | with_reducible exact Take.pre _ _ | with_reducible apply Out.app) rfl ?_
      refine XL_det .no (D_pure rfl) rfl ?_
      refine XL_then ?_
      refine X_seq ?_
      refine X_seq ?_
      refine X_region ?_
      refine XL_det .no (D_pure rfl) rfl ?_
      refine XL_det .no (D_pure rfl) rfl ?_
      refine XL_then ?_
      refine X_cond rfl (fun h5 => ?_) (fun h5 => ?_)
      · try simp only [decide_eq_true_eq, decide_eq_false_iff_not, Bool.not_eq_true', Bool.not_eq_false', beq_iff_eq, bne_iff_ne, beq_eq_false_iff_ne, bne_eq_false_iff_eq, Int.not_lt, Int.not_le, gt_iff_lt, ge_iff_le, ne_eq] at h5
        obtain ⟨hk, g1, g2⟩ : nextR s = -1 ∧ firstR z.r = (0, false) ∧ ∀ m, ¬ z.L m := by rcases h.next with ⟨k, _, hk, _⟩ | q; omega; exact q
        have hl0 : z.live = 0#32 := hasB_ext fun i hi => by cases hb : hasB z.live (i : Int); simp [hasB]; exact absurd hb (g2 i)
        rw [g1]
        refine X_seq ?_
        refine X_draw [blk b1 (srC s) 69] mixed (by repeat first | with_reducible exact .nil _ | with_reducible exact .here _ _ | with_reducible exact Take.self _ | with_reducible apply Take.cons | with_reducible apply Out.there | with_reducible apply Take.skip | with_reducible exact Take.pre _ _ | with_reducible apply Out.app) ?_
        refine XA_detp 0 rfl (by kernel_rfl) (by kernel_rfl) (by kernel_rfl) (fun _ _ _ _ h => h) .no (D_pureP rfl) rfl ?_
        refine XA_detp 1 rfl (by kernel_rfl) (by kernel_rfl) (by kernel_rfl) (fun _ _ _ _ h => h) .no (D_pureP (v := .bool true) rfl) rfl ?_
        refine XA_detp 2 rfl (by kernel_rfl) (by kernel_rfl) (by kernel_rfl) (fun _ _ _ _ h => h) .no (D_pureP rfl) rfl ?_
        refine XA_detp 3 rfl (by kernel_rfl) (by kernel_rfl) (by kernel_rfl) (fun _ _ _ _ h => h) (.yes 93 rfl rfl rfl) (D_pureP rfl) rfl ?_
        refine XA_detp 4 rfl (by kernel_rfl) (by kernel_rfl) (by kernel_rfl) (fun _ _ _ _ h => h) (.yes 93 rfl rfl rfl) (D_pureP (v := .bool true) rfl) rfl ?_
        refine XA_detp 5 rfl (by kernel_rfl) (by kernel_rfl) (by kernel_rfl) (fun _ _ _ _ h => h) .no (D_pureP rfl) rfl ?_
        refine XA_detp 6 rfl (by kernel_rfl) (by kernel_rfl) (by kernel_rfl) (fun _ _ _ _ h => h) .no (D_pureP rfl) rfl ?_
        refine XA_detp 7 rfl (by kernel_rfl) (by kernel_rfl) (by kernel_rfl) (fun _ _ _ _ h => h) (.yes 97 rfl rfl rfl) (D_pureP rfl) rfl ?_
        refine XA_one 8 (by kernel_rfl) ?_
        refine XO_callk rfl (.yes 97 rfl rfl rfl) en_19 rfl (by repeat first | with_reducible exact .nil _ | with_reducible apply App.cons) (slive c z) (by repeat first | with_reducible exact .nil _ | with_reducible exact .here _ _ | with_reducible exact Take.self _ | with_reducible apply Take.cons | with_reducible apply Out.there | with_reducible apply Take.skip | with_reducible exact Take.pre _ _ | with_reducible apply Out.app) rfl ?_
        refine XA_detp 9 rfl (by kernel_rfl) (by kernel_rfl) (by kernel_rfl) (fun _ _ _ _ h => h) (.yes 97 rfl rfl rfl) (D_pureP (v := .bool true) (bt (congrArg (fun z : BitVec 32 => (z.toNat : Int)) (by exact hl0)))) rfl ?_
        refine XA_detp 10 rfl (by kernel_rfl) (by kernel_rfl) (by kernel_rfl) (fun _ _ _ _ h => h) .no (D_pureP rfl) rfl ?_
        refine XA_detp 11 rfl (by kernel_rfl) (by kernel_rfl) (by kernel_rfl) (fun _ _ _ _ h => h) .no (D_pureP rfl) rfl ?_
        refine XA_detp 12 rfl (by kernel_rfl) (by kernel_rfl) (by kernel_rfl) (fun _ _ _ _ h => h) (.yes 102 rfl rfl rfl) (D_pureP rfl) rfl ?_
        refine XA_detp 14 rfl (by kernel_rfl) (by kernel_rfl) (by kernel_rfl) (fun _ _ _ _ h => h) (.yes 102 rfl rfl rfl) (D_fldP rfl fld_69_2 (o' := 104) rfl) rfl ?_
        refine XA_det 15 rfl (by kernel_rfl) (by kernel_rfl) (by kernel_rfl) (by kernel_rfl) (fun _ _ _ _ h => h) (.yes 102 rfl rfl rfl) (D_ldo (v := .int .i64 s.now) rfl (by repeat first | with_reducible exact .here _ _ | with_reducible apply Out.there | with_reducible apply Out.app) tk_3 (sr_now s)) rfl ?_
        refine XA_one 13 (by kernel_rfl) ?_
        refine XO_callk rfl (.yes 102 rfl rfl rfl) en_17 rfl (by repeat first | with_reducible exact .nil _ | with_reducible apply App.cons) (snow c z) (by repeat first | with_reducible exact .nil _ | with_reducible exact .here _ _ | with_reducible exact Take.self _ | with_reducible apply Take.cons | with_reducible apply Out.there | with_reducible apply Take.skip | with_reducible exact Take.pre _ _ | with_reducible apply Out.app) rfl ?_
        refine XA_detp 16 rfl (by kernel_rfl) (by kernel_rfl) (by kernel_rfl) (fun _ _ _ _ h => h) (.yes 102 rfl rfl rfl) (D_pureP (v := .bool true) (bt (by exact h.now.symm))) rfl ?_
        refine XA_detp 17 rfl (by kernel_rfl) (by kernel_rfl) (by kernel_rfl) (fun _ _ _ _ h => h) .no (D_pureP rfl) rfl ?_
        refine XA_detp 18 rfl (by kernel_rfl) (by kernel_rfl) (by kernel_rfl) (fun _ _ _ _ h => h) .no (D_pureP rfl) rfl ?_
        refine XA_detp 19 rfl (by kernel_rfl) (by kernel_rfl) (by kernel_rfl) (fun _ _ _ _ h => h) (.yes 109 rfl rfl rfl) (D_pureP rfl) rfl ?_
        refine XA_det 20 rfl (by kernel_rfl) (by kernel_rfl) (by kernel_rfl) (by kernel_rfl) (fun _ _ _ _ h => h) (.yes 109 rfl rfl rfl) (D_ldso (vs := srC s) rfl (by repeat first | with_reducible exact .here _ _ | with_reducible apply Out.there | with_reducible apply Out.app) tk_69 rfl (by rw [List.drop_zero, List.take_of_length_le (by rw [sr_len]; exact Nat.le_refl _)])) rfl ?_
        refine XA_one 21 (by kernel_rfl) ?_
        refine XO_callk rfl (.yes 109 rfl rfl rfl) en_68 rfl (by repeat first | with_reducible exact .nil _ | with_reducible apply App.cons) (lheld c z s h hK hd) (by repeat first | with_reducible exact .nil _ | with_reducible exact .here _ _ | with_reducible exact Take.self _ | with_reducible apply Take.cons | with_reducible apply Out.there | with_reducible apply Take.skip | with_reducible exact Take.pre _ _ | with_reducible apply Out.app) rfl ?_
        refine XA_detp 22 rfl (by kernel_rfl) (by kernel_rfl) (by kernel_rfl) (fun _ _ _ _ h => h) .no (D_pureP rfl) rfl ?_
        refine XA_detp 23 rfl (by kernel_rfl) (by kernel_rfl) (by kernel_rfl) (fun _ _ _ _ h => h) .no (D_pureP rfl) rfl ?_
        refine XA_done (by kernel_rfl) ?_
        try simp only [List.cons_append, List.nil_append, List.append_nil]
        refine thenX_normal ?_
        refine X_ret ?_
        refine thenX_ret ?_
        refine ret_ok (.nil _) (res_tmp rfl rfl) ?_
        exact ⟨_, ⟨rfl, rfl⟩, _, (by repeat first | with_reducible exact .nil _ | with_reducible exact .here _ _ | exact .here _ _ | with_reducible exact Take.self _ | with_reducible apply Take.cons | with_reducible apply Out.there | with_reducible apply Take.skip | with_reducible exact Take.pre _ _ | with_reducible apply Out.app)⟩
      · try simp only [decide_eq_true_eq, decide_eq_false_iff_not, Bool.not_eq_true', Bool.not_eq_false', beq_iff_eq, bne_iff_ne, beq_eq_false_iff_ne, bne_eq_false_iff_eq, Int.not_lt, Int.not_le, gt_iff_lt, ge_iff_le, ne_eq] at h5
        obtain ⟨k, g, hk, hk16, hl⟩ : ∃ k, Goes z k ∧ nextR s = k ∧ k < 16 ∧ z.L k := by rcases h.next with q | ⟨hk, _⟩; exact q; omega
        rw [g.f1, g.f2]
        refine X_skip ?_
        refine thenX_normal ?_
        refine X_seq ?_
        refine X_draw [blk b1 (srC s) 69] mixed (by repeat first | with_reducible exact .nil _ | with_reducible exact .here _ _ | with_reducible exact Take.self _ | with_reducible apply Take.cons | with_reducible apply Out.there | with_reducible apply Take.skip | with_reducible exact Take.pre _ _ | with_reducible apply Out.app) ?_
        refine XA_detp 0 rfl (by kernel_rfl) (by kernel_rfl) (by kernel_rfl) (fun _ _ _ _ h => h) .no (D_pureP (v := .bool true) rfl) rfl ?_
        refine XA_detp 1 rfl (by kernel_rfl) (by kernel_rfl) (by kernel_rfl) (fun _ _ _ _ h => h) .no (D_pureP rfl) rfl ?_
        refine XA_detp 2 rfl (by kernel_rfl) (by kernel_rfl) (by kernel_rfl) (fun _ _ _ _ h => h) (.yes 115 rfl rfl rfl) (D_pureP rfl) rfl ?_
        refine XA_detp 3 rfl (by kernel_rfl) (by kernel_rfl) (by kernel_rfl) (fun _ _ _ _ h => h) (.yes 115 rfl rfl rfl) (D_pureP rfl) rfl ?_
        refine XA_detp 4 rfl (by kernel_rfl) (by kernel_rfl) (by kernel_rfl) (fun _ _ _ _ h => h) (.yes 115 rfl rfl rfl) (D_pureP (v := .bool true) (bt (by exact hk.symm))) rfl ?_
        refine XA_detp 5 rfl (by kernel_rfl) (by kernel_rfl) (by kernel_rfl) (fun _ _ _ _ h => h) .no (D_pureP rfl) rfl ?_
        refine XA_detp 6 rfl (by kernel_rfl) (by kernel_rfl) (by kernel_rfl) (fun _ _ _ _ h => h) .no (D_pureP rfl) rfl ?_
        refine XA_detp 7 rfl (by kernel_rfl) (by kernel_rfl) (by kernel_rfl) (fun _ _ _ _ h => h) (.yes 120 rfl rfl rfl) (D_pureP rfl) rfl ?_
        refine XA_detp 9 rfl (by kernel_rfl) (by kernel_rfl) (by kernel_rfl) (fun _ _ _ _ h => h) (.yes 120 rfl rfl rfl) (D_pureP rfl) rfl ?_
        refine XA_one 8 (by kernel_rfl) ?_
        refine XO_callk rfl (.yes 120 rfl rfl rfl) en_19 rfl (by repeat first | with_reducible exact .nil _ | with_reducible apply App.cons) (slive c z) (by repeat first | with_reducible exact .nil _ | with_reducible exact .here _ _ | with_reducible exact Take.self _ | with_reducible apply Take.cons | with_reducible apply Out.there | with_reducible apply Take.skip | with_reducible exact Take.pre _ _ | with_reducible apply Out.app) rfl ?_
        refine XA_detp 10 rfl (by kernel_rfl) (by kernel_rfl) (by kernel_rfl) (fun _ _ _ _ h => h) (.yes 120 rfl rfl rfl) (D_pureP (v := .bool true) (bt (congrArg (fun z : BitVec 32 => (z.toNat : Int)) (by exact hlv.symm)))) rfl ?_
        refine XA_detp 11 rfl (by kernel_rfl) (by kernel_rfl) (by kernel_rfl) (fun _ _ _ _ h => h) .no (D_pureP rfl) rfl ?_
        refine XA_detp 12 rfl (by kernel_rfl) (by kernel_rfl) (by kernel_rfl) (fun _ _ _ _ h => h) .no (D_pureP rfl) rfl ?_
        refine XA_detp 13 rfl (by kernel_rfl) (by kernel_rfl) (by kernel_rfl) (fun _ _ _ _ h => h) (.yes 126 rfl rfl rfl) (D_pureP rfl) rfl ?_
        refine XA_detp 15 rfl (by kernel_rfl) (by kernel_rfl) (by kernel_rfl) (fun _ _ _ _ h => h) (.yes 126 rfl rfl rfl) (D_fldP rfl fld_69_2 (o' := 104) rfl) rfl ?_
        refine XA_det 16 rfl (by kernel_rfl) (by kernel_rfl) (by kernel_rfl) (by kernel_rfl) (fun _ _ _ _ h => h) (.yes 126 rfl rfl rfl) (D_ldo (v := .int .i64 s.now) rfl (by repeat first | with_reducible exact .here _ _ | with_reducible apply Out.there | with_reducible apply Out.app) tk_3 (sr_now s)) rfl ?_
        refine XA_one 14 (by kernel_rfl) ?_
        refine XO_callk rfl (.yes 126 rfl rfl rfl) en_17 rfl (by repeat first | with_reducible exact .nil _ | with_reducible apply App.cons) (snow c z) (by repeat first | with_reducible exact .nil _ | with_reducible exact .here _ _ | with_reducible exact Take.self _ | with_reducible apply Take.cons | with_reducible apply Out.there | with_reducible apply Take.skip | with_reducible exact Take.pre _ _ | with_reducible apply Out.app) rfl ?_
        refine XA_detp 17 rfl (by kernel_rfl) (by kernel_rfl) (by kernel_rfl) (fun _ _ _ _ h => h) (.yes 126 rfl rfl rfl) (D_pureP (v := .bool true) (bt (by exact h.now.symm))) rfl ?_
        refine XA_detp 18 rfl (by kernel_rfl) (by kernel_rfl) (by kernel_rfl) (fun _ _ _ _ h => h) .no (D_pureP rfl) rfl ?_
        refine XA_detp 19 rfl (by kernel_rfl) (by kernel_rfl) (by kernel_rfl) (fun _ _ _ _ h => h) .no (D_pureP rfl) rfl ?_
        refine XA_detp 20 rfl (by kernel_rfl) (by kernel_rfl) (by kernel_rfl) (fun _ _ _ _ h => h) (.yes 133 rfl rfl rfl) (D_pureP rfl) rfl ?_
        refine XA_det 21 rfl (by kernel_rfl) (by kernel_rfl) (by kernel_rfl) (by kernel_rfl) (fun _ _ _ _ h => h) (.yes 133 rfl rfl rfl) (D_ldso (vs := srC s) rfl (by repeat first | with_reducible exact .here _ _ | with_reducible apply Out.there | with_reducible apply Out.app) tk_69 rfl (by rw [List.drop_zero, List.take_of_length_le (by rw [sr_len]; exact Nat.le_refl _)])) rfl ?_
        refine XA_one 22 (by kernel_rfl) ?_
        refine XO_callk rfl (.yes 133 rfl rfl rfl) en_68 rfl (by repeat first | with_reducible exact .nil _ | with_reducible apply App.cons) (lheld c z s h hK hd) (by repeat first | with_reducible exact .nil _ | with_reducible exact .here _ _ | with_reducible exact Take.self _ | with_reducible apply Take.cons | with_reducible apply Out.there | with_reducible apply Take.skip | with_reducible exact Take.pre _ _ | with_reducible apply Out.app) rfl ?_
        refine XA_detp 23 rfl (by kernel_rfl) (by kernel_rfl) (by kernel_rfl) (fun _ _ _ _ h => h) .no (D_pureP rfl) rfl ?_
        refine XA_detp 24 rfl (by kernel_rfl) (by kernel_rfl) (by kernel_rfl) (fun _ _ _ _ h => h) .no (D_pureP rfl) rfl ?_
        refine XA_done (by kernel_rfl) ?_
        try simp only [List.cons_append, List.nil_append, List.append_nil]
        refine thenX_normal ?_
        refine X_ret ?_
        refine ret_ok (.nil _) (res_tmp rfl rfl) ?_
        exact ⟨_, ⟨rfl, rfl⟩, _, (by repeat first | with_reducible exact .nil _ | with_reducible exact .here _ _ | exact .here _ _ | with_reducible exact Take.self _ | with_reducible apply Take.cons | with_reducible apply Out.there | with_reducible apply Take.skip | with_reducible exact Take.pre _ _ | with_reducible apply Out.app)⟩

end Go.Proofs.YtkkdchgnknpceaaDoor
end
