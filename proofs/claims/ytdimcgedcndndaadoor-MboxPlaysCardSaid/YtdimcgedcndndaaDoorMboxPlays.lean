/- The given statement MboxPlaysCardSaid is proved: whatever is sent and taken, the box holds the messages by degree in the order of their sending, drops the last one for a more urgent one when it is full, and answers rightly. Conditions: at most 200 calls, as the statement itself says them; none beside. -/
import Derived.Test.YtdimcgedcndndaaDoorMboxPlaysP1
import Derived.KernelRfl
import Derived.Test.YtdimcgedcndndaaDoorProg
import Derived.Test.YtdimcgedcndndaaDoorRows
import Derived.Test.YtdimcgedcndndaaDoorTie
import Derived.Test.YtdimcgedcndndaaDoorCards
import Derived.SevenTiedAt
import Derived.LaidMore
section
namespace Go.Proofs.YtdimcgedcndndaaDoor
open Go Go.Sl
set_option linter.unusedVariables false
set_option linter.unusedSimpArgs false
set_option maxRecDepth 4000
variable {B : Nat} {K : Asrt B}
theorem en_22 : Go.Proofs.Enters Tryd.prog 22 := Go.Proofs.enters_of Tryd.func22 (by kernel_rfl) rfl
theorem en_23 : Go.Proofs.Enters Tryd.prog 23 := Go.Proofs.enters_of Tryd.func23 (by kernel_rfl) rfl
theorem en_24 : Go.Proofs.Enters Tryd.prog 24 := Go.Proofs.enters_of Tryd.func24 (by kernel_rfl) rfl
theorem en_25 : Go.Proofs.Enters Tryd.prog 25 := Go.Proofs.enters_of Tryd.func25 (by kernel_rfl) rfl
theorem en_26 : Go.Proofs.Enters Tryd.prog 26 := Go.Proofs.enters_of Tryd.func26 (by kernel_rfl) rfl
theorem fld_60_0 : fldOff Tryd.prog 60 0 = some 0 := by kernel_rfl
theorem fld_60_1 : fldOff Tryd.prog 60 1 = some 1 := by kernel_rfl
theorem slc_57 : slcOf Tryd.prog 57 = some (60, 3) := by kernel_rfl
theorem tk_4 : tyK Tryd.prog 4 = some (false, 1) := by kernel_rfl
theorem tk_60 : tyK Tryd.prog 60 = some (true, 3) := by kernel_rfl
theorem zero_60 : zeroOf Tryd.prog 60 = some [.bool false, .int .i64 0, .int .i64 0] := by kernel_rfl

structure OpB where
  tk : Bool
  n : Int × Int
abbrev encB3 (o : OpB) : List Value := [.bool o.tk, .int .i64 o.n.1, .int .i64 o.n.2]
theorem bfn {m n : Int} (h : m = n) : some (Value.bool (m != n)) = some (.bool false) := by simp [h]
theorem beqF {a b : Bool} (h : a = b) : (a != b) = false := by rw [h]; simp
theorem o_same (p : Int × Int) : cellsEq (encO p) (encO p) = true := by simp [cellsEq, veq]
theorem bfd {p : Prop} [Decidable p] (h : ¬ p) : some (Value.bool (decide p)) = some (.bool false) := by rw [decide_eq_false h]
theorem cut_tailO {a : Arr (Int × Int)} {h1 : 1 ≤ a.l.length} {h2 : a.l.length ≤ a.l.length} {m : Nat} {h3 : a.l.length ≤ m} : (a.cut 2 1 a.l.length m h1 h2 h3).l = a.l.tail := by
  show (a.l.drop 1).take (a.l.length - 1) = _
  rw [List.drop_one, List.take_of_length_le (by simp)]
theorem flat_zero : flatR zR = [] := law_take0.1 z_set
theorem flat_le {r : Rw} {room : Int} (h : (totR r : Int) ≤ room) : ((flatR r).length : Int) ≤ room := by rw [flat_len']; exact h

theorem mboxPlays0 (l : Arr OpB) (hl : Rd K l.ad (l.l.flatMap encB3)) (room : Int) (hm : ¬ (1 ≤ room ∧ room ≤ 65536)) (hK : Rd K ⟨0, 0, none⟩ (tab32.map fun m => .int .u8 m)) : Ctr Tryd.prog B 6 [.int .i64 room, .slice l.oad l.l.length l.c] [K] (fun v S => v = .bool true ∧ S = [K]) := by
  refine Ctr_of_X (N := 185) Tryd.func6 rfl (by simp) rfl ?_
  intro w0 D0
  refine X_seq ?_
  refine X_region ?_
  refine XL_det .no (D_pure rfl) rfl ?_
  refine XL_then ?_
  refine X_seq ?_
  refine X_seq ?_
  refine X_region ?_
  refine XL_det .no (D_pure rfl) rfl ?_
  refine XL_det .no (D_len rfl rfl slc_57) rfl ?_
  refine XL_det .no (D_pure rfl) rfl ?_
  refine XL_then ?_
  refine X_cond rfl (fun h1 => ?_) (fun h1 => ?_)
  · try simp only [decide_eq_true_eq, decide_eq_false_iff_not, Bool.not_eq_true', Bool.not_eq_false', beq_iff_eq, bne_iff_ne, beq_eq_false_iff_ne, bne_eq_false_iff_eq, Int.not_lt, Int.not_le, gt_iff_lt, ge_iff_le, ne_eq] at h1
    refine X_seq ?_
    refine X_region ?_
    refine XL_det .no (D_pure rfl) rfl ?_
    refine XL_then ?_
    refine X_ret ?_
    refine thenX_ret ?_
    refine ret_ok (.nil _) (res_tmp rfl rfl) ?_
    exact ⟨_, ⟨rfl, rfl⟩, _, (by repeat first | with_reducible exact .nil _ | with_reducible exact .here _ _ | with_reducible exact Take.self _ | with_reducible apply Take.cons | with_reducible apply Out.there | with_reducible apply Take.skip | with_reducible exact Take.pre _ _ | with_reducible apply Out.app)⟩
  · try simp only [decide_eq_true_eq, decide_eq_false_iff_not, Bool.not_eq_true', Bool.not_eq_false', beq_iff_eq, bne_iff_ne, beq_eq_false_iff_ne, bne_eq_false_iff_eq, Int.not_lt, Int.not_le, gt_iff_lt, ge_iff_le, ne_eq] at h1
    refine X_skip ?_
    refine thenX_normal ?_
    refine X_seq ?_
    refine X_region ?_
    refine XL_det .no (D_pure rfl) rfl ?_
    refine XL_callv .no en_19 rfl (bnew0 room hm) rfl ?_
    refine XL_det .no (D_pure rfl) rfl ?_
    refine XL_det .no (D_pure (v := .pointer none) rfl) rfl ?_
    refine XL_det .no (D_pure (v := .int .i64 64) rfl) rfl ?_
    refine XL_det .no (D_pure rfl) rfl ?_
    refine XL_det .no (D_pure rfl) rfl ?_
    refine XL_then ?_
    refine X_seq ?_
    refine X_seq ?_
    refine X_region ?_
    refine XL_det .no (D_pure rfl) rfl ?_
    refine XL_det .no (D_pure rfl) rfl ?_
    refine XL_det .no (D_pure rfl) rfl ?_
    refine XL_split (t := 30) rfl (fun h2 => ?_) (fun h2 => ?_)
    · try simp only [decide_eq_true_eq, decide_eq_false_iff_not, Bool.not_eq_true', Bool.not_eq_false', beq_iff_eq, bne_iff_ne, beq_eq_false_iff_ne, bne_eq_false_iff_eq, Int.not_lt, Int.not_le, gt_iff_lt, ge_iff_le, ne_eq] at h2
      refine XL_skip 30 rfl rfl rfl rfl rfl ?_
      refine XL_skip 30 rfl rfl rfl rfl rfl ?_
      refine XL_det .no (D_pure rfl) rfl ?_
      refine XL_then ?_
      refine X_cond_t rfl rfl ?_
      refine X_seq ?_
      refine X_region ?_
      refine XL_det .no (D_pure rfl) rfl ?_
      refine XL_det .no (D_ptrnil rfl rfl ptr_46 rfl) rfl ?_
      refine XL_det .no (D_pure rfl) rfl ?_
      refine XL_det (.yes 36 rfl rfl rfl) (D_pure rfl) rfl ?_
      refine XL_det (.yes 36 rfl rfl rfl) (D_pure (v := .bool true) rfl) rfl ?_
      refine XL_det .no (D_pure rfl) rfl ?_
      refine XL_det .no (D_pure rfl) rfl ?_
      refine XL_callk (.yes 40 rfl rfl rfl) en_22 rfl (alive51 hK) (by repeat first | with_reducible exact .nil _ | with_reducible exact .here _ _ | with_reducible exact Take.self _ | with_reducible apply Take.cons | with_reducible apply Out.there | with_reducible apply Take.skip | with_reducible exact Take.pre _ _ | with_reducible apply Out.app) rfl ?_
      refine XL_det .no (D_pure rfl) rfl ?_
      refine XL_det .no (D_pure rfl) rfl ?_
      refine XL_then ?_
      refine X_ret ?_
      refine thenX_ret ?_
      refine ret_ok (.nil _) (res_tmp rfl rfl) ?_
      exact ⟨_, ⟨rfl, rfl⟩, _, (by repeat first | with_reducible exact .nil _ | with_reducible exact .here _ _ | with_reducible exact Take.self _ | with_reducible apply Take.cons | with_reducible apply Out.there | with_reducible apply Take.skip | with_reducible exact Take.pre _ _ | with_reducible apply Out.app)⟩
    · try simp only [decide_eq_true_eq, decide_eq_false_iff_not, Bool.not_eq_true', Bool.not_eq_false', beq_iff_eq, bne_iff_ne, beq_eq_false_iff_ne, bne_eq_false_iff_eq, Int.not_lt, Int.not_le, gt_iff_lt, ge_iff_le, ne_eq] at h2
      refine XL_det (.yes 30 rfl rfl rfl) (D_pure rfl) rfl ?_
      refine XL_det (.yes 30 rfl rfl rfl) (D_pure rfl) rfl ?_
      refine XL_det .no (D_pure rfl) rfl ?_
      refine XL_then ?_
      refine X_cond rfl (fun h3 => ?_) (fun h3 => ?_)
      · try simp only [decide_eq_true_eq, decide_eq_false_iff_not, Bool.not_eq_true', Bool.not_eq_false', beq_iff_eq, bne_iff_ne, beq_eq_false_iff_ne, bne_eq_false_iff_eq, Int.not_lt, Int.not_le, gt_iff_lt, ge_iff_le, ne_eq] at h3
        refine X_seq ?_
        refine X_region ?_
        refine XL_det .no (D_pure rfl) rfl ?_
        refine XL_det .no (D_ptrnil rfl rfl ptr_46 rfl) rfl ?_
        refine XL_det .no (D_pure rfl) rfl ?_
        refine XL_det (.yes 36 rfl rfl rfl) (D_pure rfl) rfl ?_
        refine XL_det (.yes 36 rfl rfl rfl) (D_pure (v := .bool true) rfl) rfl ?_
        refine XL_det .no (D_pure rfl) rfl ?_
        refine XL_det .no (D_pure rfl) rfl ?_
        refine XL_callk (.yes 40 rfl rfl rfl) en_22 rfl (alive51 hK) (by repeat first | with_reducible exact .nil _ | with_reducible exact .here _ _ | with_reducible exact Take.self _ | with_reducible apply Take.cons | with_reducible apply Out.there | with_reducible apply Take.skip | with_reducible exact Take.pre _ _ | with_reducible apply Out.app) rfl ?_
        refine XL_det .no (D_pure rfl) rfl ?_
        refine XL_det .no (D_pure rfl) rfl ?_
        refine XL_then ?_
        refine X_ret ?_
        refine thenX_ret ?_
        refine ret_ok (.nil _) (res_tmp rfl rfl) ?_
        exact ⟨_, ⟨rfl, rfl⟩, _, (by repeat first | with_reducible exact .nil _ | with_reducible exact .here _ _ | with_reducible exact Take.self _ | with_reducible apply Take.cons | with_reducible apply Out.there | with_reducible apply Take.skip | with_reducible exact Take.pre _ _ | with_reducible apply Out.app)⟩
      · try simp only [decide_eq_true_eq, decide_eq_false_iff_not, Bool.not_eq_true', Bool.not_eq_false', beq_iff_eq, bne_iff_ne, beq_eq_false_iff_ne, bne_eq_false_iff_eq, Int.not_lt, Int.not_le, gt_iff_lt, ge_iff_le, ne_eq] at h3
        omega

theorem mboxPlays1 (l : Arr OpB) (hl : Rd K l.ad (l.l.flatMap encB3)) (room : Int) (hm : 1 ≤ room ∧ room ≤ 65536) (hK : Rd K ⟨0, 0, none⟩ (tab32.map fun m => .int .u8 m)) (hD : Dup K) : Ctr Tryd.prog B 6 [.int .i64 room, .slice l.oad l.l.length l.c] [K] (fun v S => v = .bool true ∧ S = [K]) := by
  refine Ctr_of_X (N := 185) Tryd.func6 rfl (by simp) rfl ?_
  intro w0 D0
  refine X_seq ?_
  refine X_region ?_
  refine XL_det .no (D_pure rfl) rfl ?_
  refine XL_then ?_
  refine X_seq ?_
  refine X_seq ?_
  refine X_region ?_
  refine XL_det .no (D_pure rfl) rfl ?_
  refine XL_det .no (D_len rfl rfl slc_57) rfl ?_
  refine XL_det .no (D_pure rfl) rfl ?_
  refine XL_then ?_
  refine X_cond rfl (fun h1 => ?_) (fun h1 => ?_)
  · try simp only [decide_eq_true_eq, decide_eq_false_iff_not, Bool.not_eq_true', Bool.not_eq_false', beq_iff_eq, bne_iff_ne, beq_eq_false_iff_ne, bne_eq_false_iff_eq, Int.not_lt, Int.not_le, gt_iff_lt, ge_iff_le, ne_eq] at h1
    refine X_seq ?_
    refine X_region ?_
    refine XL_det .no (D_pure rfl) rfl ?_
    refine XL_then ?_
    refine X_ret ?_
    refine thenX_ret ?_
    refine ret_ok (.nil _) (res_tmp rfl rfl) ?_
    exact ⟨_, ⟨rfl, rfl⟩, _, (by repeat first | with_reducible exact .nil _ | with_reducible exact .here _ _ | with_reducible exact Take.self _ | with_reducible apply Take.cons | with_reducible apply Out.there | with_reducible apply Take.skip | with_reducible exact Take.pre _ _ | with_reducible apply Out.app)⟩
  · try simp only [decide_eq_true_eq, decide_eq_false_iff_not, Bool.not_eq_true', Bool.not_eq_false', beq_iff_eq, bne_iff_ne, beq_eq_false_iff_ne, bne_eq_false_iff_eq, Int.not_lt, Int.not_le, gt_iff_lt, ge_iff_le, ne_eq] at h1
    refine X_skip ?_
    refine thenX_normal ?_
    refine X_seq ?_
    refine X_region ?_
    refine XL_det .no (D_pure rfl) rfl ?_
    refine XL_call .no en_19 rfl (bnew room hm) (by repeat first | with_reducible exact .nil _ | with_reducible exact .here _ _ | with_reducible exact Take.self _ | with_reducible apply Take.cons | with_reducible apply Out.there | with_reducible apply Take.skip | with_reducible exact Take.pre _ _ | with_reducible apply Out.app) rfl ?_
    rintro _ _ ⟨bp, rfl, rfl⟩
    simp only [List.cons_append, List.nil_append]
    refine XL_det .no (D_pure rfl) rfl ?_
    refine XL_det .no (D_pure (v := .pointer (some ⟨bp, 0, none⟩)) rfl) rfl ?_
    refine XL_det .no (D_pure (v := .int .i64 0) rfl) rfl ?_
    refine XL_det .no (D_pure rfl) rfl ?_
    refine XL_det .no (D_pure rfl) rfl ?_
    refine XL_then ?_
    refine X_seq ?_
    refine X_seq ?_
    refine X_region ?_
    refine XL_det .no (D_pure rfl) rfl ?_
    refine XL_det .no (D_pure rfl) rfl ?_
    refine XL_det .no (D_pure rfl) rfl ?_
    refine XL_split (t := 30) rfl (fun h2 => ?_) (fun h2 => ?_)
    · try simp only [decide_eq_true_eq, decide_eq_false_iff_not, Bool.not_eq_true', Bool.not_eq_false', beq_iff_eq, bne_iff_ne, beq_eq_false_iff_ne, bne_eq_false_iff_eq, Int.not_lt, Int.not_le, gt_iff_lt, ge_iff_le, ne_eq] at h2
      omega
    · try simp only [decide_eq_true_eq, decide_eq_false_iff_not, Bool.not_eq_true', Bool.not_eq_false', beq_iff_eq, bne_iff_ne, beq_eq_false_iff_ne, bne_eq_false_iff_eq, Int.not_lt, Int.not_le, gt_iff_lt, ge_iff_le, ne_eq] at h2
      refine XL_det (.yes 30 rfl rfl rfl) (D_pure rfl) rfl ?_
      refine XL_det (.yes 30 rfl rfl rfl) (D_pure rfl) rfl ?_
      refine XL_det .no (D_pure rfl) rfl ?_
      refine XL_then ?_
      refine X_cond rfl (fun h3 => ?_) (fun h3 => ?_)
      · try simp only [decide_eq_true_eq, decide_eq_false_iff_not, Bool.not_eq_true', Bool.not_eq_false', beq_iff_eq, bne_iff_ne, beq_eq_false_iff_ne, bne_eq_false_iff_eq, Int.not_lt, Int.not_le, gt_iff_lt, ge_iff_le, ne_eq] at h3
        omega
      · try simp only [decide_eq_true_eq, decide_eq_false_iff_not, Bool.not_eq_true', Bool.not_eq_false', beq_iff_eq, bne_iff_ne, beq_eq_false_iff_ne, bne_eq_false_iff_eq, Int.not_lt, Int.not_le, gt_iff_lt, ge_iff_le, ne_eq] at h3
        refine X_skip ?_
        refine thenX_normal ?_
        refine X_seq ?_
        refine X_seq ?_
        refine X_region ?_
        refine XL_det .no (D_pure rfl) rfl ?_
        refine XL_det .no (D_ptrnil rfl rfl ptr_46 rfl) rfl ?_
        refine XL_det .no (D_pure rfl) rfl ?_
        refine XL_det (.yes 45 rfl rfl rfl) (D_pure rfl) rfl ?_
        refine XL_det (.yes 45 rfl rfl rfl) (D_pure (v := .bool false) rfl) rfl ?_
        refine XL_det .no (D_pure rfl) rfl ?_
        refine XL_then ?_
        refine X_cond_f rfl rfl ?_
        refine X_skip ?_
        refine thenX_normal ?_
        refine X_seq ?_
        refine X_region ?_
        refine XL_det .no (D_pure rfl) rfl ?_
        refine XL_then ?_
        refine X_seq ?_
        refine X_seq ?_
        refine X_region ?_
        refine XL_det .no (D_pure rfl) rfl ?_
        refine XL_then ?_
        refine X_block ?_
        refine X_rowa encO 53 2 ?_
        refine X_loop (α := Nat × (Nat → Arr Int) × Rw × Arr (Int × Int) × Asrt B) (fun ⟨i, f, r, a, Kl⟩ => i ≤ l.l.length ∧ Bx f r ∧ (totR r : Int) ≤ room ∧ a.l = flatR r ∧ Rd Kl a.ad (a.l.flatMap encO)) (fun ⟨i, f, r, a, Kl⟩ => [(8, .int .i64 (i : Int)), (7, .slice a.oad a.l.length a.c), (0, .int .i64 room), (1, .slice l.oad l.l.length l.c), (5, .pointer (some ⟨bp, 0, none⟩))]) (fun ⟨i, f, r, a, Kl⟩ => [blk bp (bxG room (setR r) f (totR r : Int)) 119, many 32 (rowOf f), Kl, K]) (fun ⟨i, f, r, a, Kl⟩ => l.l.length - i) (0, (fun _ => Arr.emp), zR, Arr.emp, row (.slice (Arr.emp : Arr (Int × Int)).oad (Arr.emp : Arr (Int × Int)).l.length (Arr.emp : Arr (Int × Int)).c) 53 2 (Arr.emp : Arr (Int × Int)).l.length ((Arr.emp : Arr (Int × Int)).l.flatMap encO)) ?_ (by refine ⟨?_, ?_, ?_, ?_, ?_, trivial⟩ <;> rfl) (by repeat first | with_reducible exact .nil _ | with_reducible exact .here _ _ | with_reducible exact Take.self _ | with_reducible apply Take.cons | with_reducible apply Out.there | with_reducible apply Take.skip | with_reducible exact Take.pre _ _ | with_reducible apply Out.app) ?_
        · exact ⟨Nat.zero_le _, z_bx, by show (totR zR : Int) ≤ room; rw [z_tot]; omega, flat_zero.symm, Rd_own Arr.emp_own rfl⟩
        · rintro ⟨i, f, r, a, Kl⟩ ⟨hi, hb, hr, ha, hKl⟩
          dsimp only
          have hfl := flat_le hr
          rw [← ha] at hfl
          refine X_seq ?_
          refine X_seq ?_
          refine X_region ?_
          refine XL_det .no (D_pure rfl) rfl ?_
          refine XL_det .no (D_pure rfl) rfl ?_
          refine XL_det .no (D_len rfl rfl slc_57) rfl ?_
          refine XL_det .no (D_pure rfl) rfl ?_
          refine XL_then ?_
          refine X_cond rfl (fun h4 => ?_) (fun h4 => ?_)
          · try simp only [decide_eq_true_eq, decide_eq_false_iff_not, Bool.not_eq_true', Bool.not_eq_false', beq_iff_eq, bne_iff_ne, beq_eq_false_iff_ne, bne_eq_false_iff_eq, Int.not_lt, Int.not_le, gt_iff_lt, ge_iff_le, ne_eq] at h4
            obtain ⟨o, ho⟩ : ∃ o, l.l[i]? = some o := ⟨_, List.getElem?_eq_getElem (by omega)⟩
            have hls := law_send (p := o.n) hr hm.1
            have hs1 : (sendL room a.l o.n).2.1 = (sendR room r o.n.1 o.n.2).2.1 := by rw [ha, hls]
            have hs2 : (sendL room a.l o.n).2.2 = (sendR room r o.n.1 o.n.2).2.2 := by rw [ha, hls]
            refine X_skip ?_
            refine thenX_normal ?_
            refine X_seq ?_
            refine X_block ?_
            refine X_seq ?_
            refine X_region ?_
            refine XL_det .no (D_pure rfl) rfl ?_
            refine XL_det .no (D_pure rfl) rfl ?_
            refine XL_det .no (D_idxSo rfl rfl slc_57 (l).nil0 rfl (by omega) rfl) rfl ?_
            refine XL_det .no (D_els (enc := encB3) (sz := 3) (i := i) (fun _ => rfl) rfl (by repeat first | with_reducible exact .here _ _ | with_reducible apply Out.there | with_reducible apply Out.app) hl tk_60 ho) rfl ?_
            refine XL_alloc .no zero_60 rfl (fun b1 => ?_)
            refine XL_efd .no (F_stw rfl rfl rfl (by repeat first | with_reducible exact .here _ _ | with_reducible apply Out.there | with_reducible apply Out.app) tk_60 rfl rfl) ?_
            refine XL_then ?_
            refine X_seqj (α := (Nat → Arr Int) × Rw × Arr (Int × Int) × Asrt B) (fun ⟨f2, r2, a2, K2⟩ => Bx f2 r2 ∧ (totR r2 : Int) ≤ room ∧ a2.l = flatR r2 ∧ Rd K2 a2.ad (a2.l.flatMap encO)) (fun ⟨f2, r2, a2, K2⟩ => [(7, .slice a2.oad a2.l.length a2.c), (0, .int .i64 room), (1, .slice l.oad l.l.length l.c), (5, .pointer (some ⟨bp, 0, none⟩)), (8, .int .i64 (i : Int)), (9, .pointer (some ⟨b1, 0, none⟩))]) (fun ⟨f2, r2, a2, K2⟩ => [blk bp (bxG room (setR r2) f2 (totR r2 : Int)) 119, many 32 (rowOf f2), K2, blk b1 (encB3 o) 60, K]) ?_ ?_
            · skip
              refine X_seq ?_
              refine X_region ?_
              refine XL_det .no (D_fld rfl fld_60_0 (o' := 0) rfl) rfl ?_
              refine XL_det .no (D_ldo rfl (by repeat first | with_reducible exact .here _ _ | with_reducible apply Out.there | with_reducible apply Out.app) tk_4 (by rfl)) rfl ?_
              refine XL_then ?_
              refine X_cond rfl (fun h5 => ?_) (fun h5 => ?_)
              · try simp only [decide_eq_true_eq, decide_eq_false_iff_not, Bool.not_eq_true', Bool.not_eq_false', beq_iff_eq, bne_iff_ne, beq_eq_false_iff_ne, bne_eq_false_iff_eq, Int.not_lt, Int.not_le, gt_iff_lt, ge_iff_le, ne_eq] at h5
                refine X_seq ?_
                refine X_region ?_
                refine XL_det .no (D_pure rfl) rfl ?_
                refine XL_call .no en_21 rfl (btake bp room f r hb hK) (by repeat first | with_reducible exact .nil _ | with_reducible exact .here _ _ | with_reducible exact Take.self _ | with_reducible apply Take.cons | with_reducible apply Out.there | with_reducible apply Take.skip | with_reducible exact Take.pre _ _ | with_reducible apply Out.app) rfl ?_
                rintro _ _ ⟨f1, rfl, rfl, hb1⟩
                simp only [List.cons_append, List.nil_append]
                refine XL_det .no (D_pure rfl) rfl ?_
                refine XL_det .no (D_pure (v := .agg #[.int .i64 (takeR r).2.1.1, .int .i64 (takeR r).2.1.2]) rfl) rfl ?_
                refine XL_det .no (D_pure (v := .int .i64 (takeR r).2.2) rfl) rfl ?_
                refine XL_alloc .no zero_53 rfl (fun b2 => ?_)
                refine XL_efd .no (F_stw rfl rfl rfl (by repeat first | with_reducible exact .here _ _ | with_reducible apply Out.there | with_reducible apply Out.app) tk_53 rfl rfl) ?_
                refine XL_det .no (D_pure rfl) rfl ?_
                refine XL_then ?_
                refine X_seq ?_
                refine X_seq ?_
                refine X_region ?_
                refine XL_det .no (D_pure rfl) rfl ?_
                refine XL_det .no (D_len rfl rfl slc_58) rfl ?_
                refine XL_det .no (D_pure rfl) rfl ?_
                refine XL_then ?_
                refine X_cond rfl (fun h6 => ?_) (fun h6 => ?_)
                · try simp only [decide_eq_true_eq, decide_eq_false_iff_not, Bool.not_eq_true', Bool.not_eq_false', beq_iff_eq, bne_iff_ne, beq_eq_false_iff_ne, bne_eq_false_iff_eq, Int.not_lt, Int.not_le, gt_iff_lt, ge_iff_le, ne_eq] at h6
                  have hl0 : flatR r = [] := by rw [← ha]; exact List.length_eq_zero_iff.1 (by omega)
                  have htk := law_take_no hl0
                  rw [show (takeR r).2.1 = ((0 : Int), (0 : Int)) by rw [htk], show (takeR r).2.2 = 270 by rw [htk]]
                  refine X_seq ?_
                  refine X_seq ?_
                  refine X_region ?_
                  refine XL_det .no (D_pure rfl) rfl ?_
                  refine XL_det .no (D_pure (v := .bool false) rfl) rfl ?_
                  refine XL_det .no (D_pure rfl) rfl ?_
                  refine XL_det (.yes 71 rfl rfl rfl) (D_ldso (vs := encO (0, 0)) rfl (by repeat first | with_reducible exact .here _ _ | with_reducible apply Out.there | with_reducible apply Out.app) tk_53 rfl (by rfl)) rfl ?_
                  refine XL_det (.yes 71 rfl rfl rfl) (D_zero zero_53 zk_53) rfl ?_
                  refine XL_det (.yes 71 rfl rfl rfl) (D_eqs (b := false) (xs := encO ((0, 0) : Int × Int)) (ys := encO ((0, 0) : Int × Int)) rfl rfl eqk_53 eqg_53 rfl rfl rfl (by show (!cellsEq _ _) = false; rw [o_same]; rfl)) rfl ?_
                  refine XL_det .no (D_pure (v := .bool false) rfl) rfl ?_
                  refine XL_then ?_
                  refine X_cond_f rfl rfl ?_
                  refine X_skip ?_
                  refine thenX_normal ?_
                  refine X_exit ?_
                  refine thenX_exit ?_
                  refine joinQ_exit ?_
                  refine inBlk_here ?_
                  refine thenX_normal ?_
                  refine X_region ?_
                  refine XL_det .no (D_pure rfl) rfl ?_
                  refine XL_det .no (D_add rfl rfl (by omega) (by omega)) rfl ?_
                  refine XL_det .no (D_pure rfl) rfl ?_
                  refine XL_nil ?_
                  refine loopQ_next (i + 1, f1, (takeR r).1, a, Kl) ?_ ?_ ?_ ?_
                  · (try dsimp only); exact ⟨by omega, hb1, take_tot hr, by rw [htk]; exact ha, hKl⟩
                  · (try dsimp only); omega
                  · refine ⟨?_, ?_, ?_, ?_, ?_, trivial⟩ <;> rfl
                  · (try dsimp only); exact ⟨_, (by repeat first | with_reducible exact .nil _ | with_reducible exact .here _ _ | with_reducible exact Take.self _ | with_reducible apply Take.cons | with_reducible apply Out.there | with_reducible apply Take.skip | with_reducible exact Take.pre _ _ | with_reducible apply Out.app)⟩
                · try simp only [decide_eq_true_eq, decide_eq_false_iff_not, Bool.not_eq_true', Bool.not_eq_false', beq_iff_eq, bne_iff_ne, beq_eq_false_iff_ne, bne_eq_false_iff_eq, Int.not_lt, Int.not_le, gt_iff_lt, ge_iff_le, ne_eq] at h6
                  obtain ⟨p, tl, hpt⟩ : ∃ p tl, flatR r = p :: tl := List.exists_cons_of_ne_nil (fun e => h6 (by rw [ha, e]; rfl))
                  obtain ⟨e1, e2, e3⟩ := law_take hpt
                  have hg0 : a.l[0]? = some p := by rw [ha, hpt]; rfl
                  have hc1 : 1 ≤ a.l.length := by rw [ha, hpt]; simp
                  rw [e1, e2]
                  refine X_skip ?_
                  refine thenX_normal ?_
                  refine X_seq ?_
                  refine X_seq ?_
                  refine X_draw [blk b2 (encO p) 53, Kl] mixed (by repeat first | with_reducible exact .nil _ | with_reducible exact .here _ _ | with_reducible exact Take.self _ | with_reducible apply Take.cons | with_reducible apply Out.there | with_reducible apply Take.skip | with_reducible exact Take.pre _ _ | with_reducible apply Out.app) ?_
                  refine XA_detp 0 rfl (by kernel_rfl) (by kernel_rfl) (by kernel_rfl) (fun _ _ _ _ h => h) .no (D_pureP rfl) rfl ?_
                  refine XA_detp 1 rfl (by kernel_rfl) (by kernel_rfl) (by kernel_rfl) (fun _ _ _ _ h => h) .no (D_pureP (v := .bool false) rfl) rfl ?_
                  refine XA_detp 2 rfl (by kernel_rfl) (by kernel_rfl) (by kernel_rfl) (fun _ _ _ _ h => h) .no (D_pureP rfl) rfl ?_
                  refine XA_det 3 rfl (by kernel_rfl) (by kernel_rfl) (by kernel_rfl) (by kernel_rfl) (fun _ _ _ _ h => h) (.yes 78 rfl rfl rfl) (D_ldso (vs := encO p) rfl (by repeat first | with_reducible exact .here _ _ | with_reducible apply Out.there | with_reducible apply Out.app) tk_53 rfl (by rfl)) rfl ?_
                  refine XA_detp 4 rfl (by kernel_rfl) (by kernel_rfl) (by kernel_rfl) (fun _ _ _ _ h => h) (.yes 78 rfl rfl rfl) (D_pureP rfl) rfl ?_
                  refine XA_detp 5 rfl (by kernel_rfl) (by kernel_rfl) (by kernel_rfl) (fun _ _ _ _ h => h) (.yes 78 rfl rfl rfl) (D_idxSoP (j := 0) rfl rfl slc_58 (a).nil0 (rfl : (0 : Int) = ((0 : Nat) : Int)) (List.getElem?_eq_some_iff.1 hg0).1 rfl) rfl ?_
                  refine XA_det 6 rfl (by kernel_rfl) (by kernel_rfl) (by kernel_rfl) (by kernel_rfl) (fun _ _ _ _ h => h) (.yes 78 rfl rfl rfl) (D_els (enc := encO) (sz := 2) (i := 0) (fun _ => rfl) rfl (by repeat first | with_reducible exact .here _ _ | with_reducible apply Out.there | with_reducible apply Out.app) hKl tk_53 hg0) rfl ?_
                  refine XA_det 7 rfl (by kernel_rfl) (by kernel_rfl) (by kernel_rfl) (by kernel_rfl) (fun _ _ _ _ h => h) (.yes 78 rfl rfl rfl) (D_eqs (b := false) (xs := encO p) (ys := encO p) rfl rfl eqk_53 eqg_53 rfl rfl rfl (by show (!cellsEq _ _) = false; rw [o_same]; rfl)) rfl ?_
                  refine XA_detp 8 rfl (by kernel_rfl) (by kernel_rfl) (by kernel_rfl) (fun _ _ _ _ h => h) .no (D_pureP (v := .bool false) rfl) rfl ?_
                  refine XA_done (by kernel_rfl) ?_
                  try simp only [List.cons_append, List.nil_append, List.append_nil]
                  refine thenX_normal ?_
                  refine X_cond_f rfl rfl ?_
                  refine X_skip ?_
                  refine thenX_normal ?_
                  refine X_region ?_
                  refine XL_det .no (D_pure rfl) rfl ?_
                  refine XL_det .no (D_slicea (a := a) (l := 1) (h := a.l.length) (m := a.c) rfl slc_58 (by exact ⟨_, rfl⟩) (by exact rfl) (by exact rfl) (by intro h; exact rfl) hc1 (Nat.le_refl _) a.cap (Nat.le_refl _)) rfl ?_
                  refine XL_det .no (D_pure rfl) rfl ?_
                  refine XL_nil ?_
                  refine joinQ_normal (f1, (takeR r).1, (a.cut 2 1 a.l.length a.c hc1 (Nat.le_refl _) a.cap), Kl) ?_ ?_ ?_
                  · exact ⟨hb1, take_tot hr, (cut_tailO (h1 := hc1) (h2 := Nat.le_refl _) (h3 := a.cap)).trans (by show a.l.tail = flatR (takeR r).1; rw [ha, hpt, e3]; rfl), Rd_cut (h1 := hc1) (h2 := Nat.le_refl _) (h3 := a.cap) (fun _ => rfl) hKl⟩
                  · refine ⟨?_, ?_, ?_, ?_, ?_, ?_, trivial⟩ <;> rfl
                  · exact ⟨_, (by repeat first | with_reducible exact .nil _ | with_reducible exact .here _ _ | with_reducible exact Take.self _ | with_reducible apply Take.cons | with_reducible apply Out.there | with_reducible apply Take.skip | with_reducible exact Take.pre _ _ | with_reducible apply Out.app)⟩
              · try simp only [decide_eq_true_eq, decide_eq_false_iff_not, Bool.not_eq_true', Bool.not_eq_false', beq_iff_eq, bne_iff_ne, beq_eq_false_iff_ne, bne_eq_false_iff_eq, Int.not_lt, Int.not_le, gt_iff_lt, ge_iff_le, ne_eq] at h5
                refine X_seq ?_
                refine X_region ?_
                refine XL_det .no (D_pure rfl) rfl ?_
                refine XL_det .no (D_fld rfl fld_60_1 (o' := 1) rfl) rfl ?_
                refine XL_det .no (D_ldso (vs := encO o.n) rfl (by repeat first | with_reducible exact .here _ _ | with_reducible apply Out.there | with_reducible apply Out.app) tk_53 rfl (by rfl)) rfl ?_
                refine XL_call .no en_20 rfl (bsend bp room f r hb ⟨hr, hm.2⟩ o.n.1 o.n.2 hK) (by repeat first | with_reducible exact .nil _ | with_reducible exact .here _ _ | with_reducible exact Take.self _ | with_reducible apply Take.cons | with_reducible apply Out.there | with_reducible apply Take.skip | with_reducible exact Take.pre _ _ | with_reducible apply Out.app) rfl ?_
                rintro _ _ ⟨f1, rfl, rfl, hb1⟩
                simp only [List.cons_append, List.nil_append]
                refine XL_det .no (D_pure rfl) rfl ?_
                refine XL_det .no (D_pure (v := .bool (sendR room r o.n.1 o.n.2).2.1) rfl) rfl ?_
                refine XL_det .no (D_pure (v := .int .i64 (sendR room r o.n.1 o.n.2).2.2) rfl) rfl ?_
                refine XL_det .no (D_pure rfl) rfl ?_
                refine XL_det .no (D_pure rfl) rfl ?_
                refine XL_then ?_
                refine X_seq ?_
                refine X_region ?_
                refine XL_det .no (D_pure rfl) rfl ?_
                refine XL_det .no (D_pure rfl) rfl ?_
                refine XL_then ?_
                refine X_seq ?_
                refine X_region ?_
                refine XL_det .no (D_pure rfl) rfl ?_
                refine XL_det .no (D_pure rfl) rfl ?_
                refine XL_det .no (D_fld rfl fld_60_1 (o' := 1) rfl) rfl ?_
                refine XL_det .no (D_ldso (vs := encO o.n) rfl (by repeat first | with_reducible exact .here _ _ | with_reducible apply Out.there | with_reducible apply Out.app) tk_53 rfl (by rfl)) rfl ?_
                refine XL_call .no en_23 rfl (lsend room hm.1 a hKl (by omega) o.n) (by repeat first | with_reducible exact .nil _ | with_reducible exact .here _ _ | with_reducible exact Take.self _ | with_reducible apply Take.cons | with_reducible apply Out.there | with_reducible apply Take.skip | with_reducible exact Take.pre _ _ | with_reducible apply Out.app) rfl ?_
                rintro _ _ ⟨x, Kx, ⟨hx, hKx⟩, rfl, rfl⟩
                simp only [List.cons_append, List.nil_append]
                rw [hs1, hs2]
                refine XL_det .no (D_pure rfl) rfl ?_
                refine XL_det .no (D_pure (v := .slice x.oad x.l.length x.c) rfl) rfl ?_
                refine XL_det .no (D_pure (v := .bool (sendR room r o.n.1 o.n.2).2.1) rfl) rfl ?_
                refine XL_det .no (D_pure (v := .int .i64 (sendR room r o.n.1 o.n.2).2.2) rfl) rfl ?_
                refine XL_det .no (D_pure rfl) rfl ?_
                refine XL_det .no (D_pure rfl) rfl ?_
                refine XL_det .no (D_pure rfl) rfl ?_
                refine XL_then ?_
                refine X_seq ?_
                refine X_region ?_
                refine XL_det .no (D_pure rfl) rfl ?_
                refine XL_det .no (D_pure rfl) rfl ?_
                refine XL_det .no (D_eqb (b := false) rfl rfl ub_4 (beqF (by rfl))) rfl ?_
                refine XL_det .no (D_pure rfl) rfl ?_
                refine XL_det (.yes 106 rfl rfl rfl) (D_pure rfl) rfl ?_
                refine XL_det (.yes 106 rfl rfl rfl) (D_pure rfl) rfl ?_
                refine XL_det (.yes 106 rfl rfl rfl) (D_pure (v := .bool false) (bfn (by rfl))) rfl ?_
                refine XL_det .no (D_pure (v := .bool false) rfl) rfl ?_
                refine XL_then ?_
                refine X_cond_f rfl rfl ?_
                refine X_skip ?_
                refine joinQ_normal (f1, (sendR room r o.n.1 o.n.2).1, x, Kx) ?_ ?_ ?_
                · exact ⟨hb1, send_tot hr, by rw [hx, ha, hls], hKx⟩
                · refine ⟨?_, ?_, ?_, ?_, ?_, ?_, trivial⟩ <;> rfl
                · exact ⟨_, (by repeat first | with_reducible exact .nil _ | with_reducible exact .here _ _ | with_reducible exact Take.self _ | with_reducible apply Take.cons | with_reducible apply Out.there | with_reducible apply Take.skip | with_reducible exact Take.pre _ _ | with_reducible apply Out.app)⟩
            · rintro ⟨f2, r2, a2, K2⟩ ⟨hb2, hr2, ha2, hK2⟩
              refine X_seq ?_
              refine X_draw [blk b1 (encB3 o) 60] mixed (by repeat first | with_reducible exact .nil _ | with_reducible exact .here _ _ | with_reducible exact Take.self _ | with_reducible apply Take.cons | with_reducible apply Out.there | with_reducible apply Take.skip | with_reducible exact Take.pre _ _ | with_reducible apply Out.app) ?_
              refine XA_detp 0 rfl (by kernel_rfl) (by kernel_rfl) (by kernel_rfl) (fun _ _ _ _ h => h) .no (D_pureP rfl) rfl ?_
              refine XA_detp 2 rfl (by kernel_rfl) (by kernel_rfl) (by kernel_rfl) (fun _ _ _ _ h => h) .no (D_pureP rfl) rfl ?_
              refine XA_detp 3 rfl (by kernel_rfl) (by kernel_rfl) (by kernel_rfl) (fun _ _ _ _ h => h) .no (D_fldP rfl fld_60_1 (o' := 1) rfl) rfl ?_
              refine XA_detp 4 rfl (by kernel_rfl) (by kernel_rfl) (by kernel_rfl) (fun _ _ _ _ h => h) .no (D_fldP rfl fld_53_0 (o' := 1) rfl) rfl ?_
              refine XA_det 5 rfl (by kernel_rfl) (by kernel_rfl) (by kernel_rfl) (by kernel_rfl) (fun _ _ _ _ h => h) .no (D_ldo rfl (by repeat first | with_reducible exact .here _ _ | with_reducible apply Out.there | with_reducible apply Out.app) tk_3 (by rfl)) rfl ?_
              refine XA_one 1 (by kernel_rfl) ?_
              refine XO_callc rfl .no en_24 rfl (by repeat first | with_reducible exact .nil _ | with_reducible apply App.cons) (lall bp room f2 r2 hb2 hK hD) (by repeat first | with_reducible exact .nil _ | with_reducible exact .here _ _ | with_reducible exact Take.self _ | with_reducible apply Take.cons | with_reducible apply Out.there | with_reducible apply Take.skip | with_reducible exact Take.pre _ _ | with_reducible apply Out.app) rfl ?_
              rintro _ _ ⟨g1, ⟨hg1, hg1o⟩, rfl, rfl⟩
              simp only [List.cons_append, List.nil_append]
              refine ⟨[row (.slice g1.oad g1.l.length g1.c) 53 2 g1.l.length (g1.l.flatMap encO), blk bp (bxG room (setR r2) f2 (totR r2 : Int)) 119, many 32 (rowOf f2), K2, K], _, _, (by repeat first | with_reducible exact .nil _ | with_reducible apply App.cons), (by repeat first | with_reducible exact .nil _ | with_reducible exact .here _ _ | with_reducible exact Take.self _ | with_reducible apply Take.cons | with_reducible apply Out.there | with_reducible apply Take.skip | with_reducible exact Take.pre _ _ | with_reducible apply Out.app), ?_⟩
              refine XA_one 6 (by kernel_rfl) ?_
              refine XO_callc rfl .no en_25 rfl (by repeat first | with_reducible exact .nil _ | with_reducible apply App.cons) (lof bp room f2 r2 hb2 o.n.1) (by repeat first | with_reducible exact .nil _ | with_reducible exact .here _ _ | with_reducible exact Take.self _ | with_reducible apply Take.cons | with_reducible apply Out.there | with_reducible apply Take.skip | with_reducible exact Take.pre _ _ | with_reducible apply Out.app) rfl ?_
              rintro _ _ ⟨g2, ⟨hg2, hg2o⟩, rfl, rfl⟩
              simp only [List.cons_append, List.nil_append]
              refine ⟨[row (.slice g2.oad g2.l.length g2.c) 3 1 g2.l.length (g2.l.flatMap encI), row (.slice g1.oad g1.l.length g1.c) 53 2 g1.l.length (g1.l.flatMap encO), blk bp (bxG room (setR r2) f2 (totR r2 : Int)) 119, many 32 (rowOf f2), K2, K], _, _, (by repeat first | with_reducible exact .nil _ | with_reducible apply App.cons), (by repeat first | with_reducible exact .nil _ | with_reducible exact .here _ _ | with_reducible exact Take.self _ | with_reducible apply Take.cons | with_reducible apply Out.there | with_reducible apply Take.skip | with_reducible exact Take.pre _ _ | with_reducible apply Out.app), ?_⟩
              refine XA_detp 7 rfl (by kernel_rfl) (by kernel_rfl) (by kernel_rfl) (fun _ _ _ _ h => h) .no (D_pureP rfl) rfl ?_
              refine XA_detp 8 rfl (by kernel_rfl) (by kernel_rfl) (by kernel_rfl) (fun _ _ _ _ h => h) .no (D_pureP rfl) rfl ?_
              refine XA_done (by kernel_rfl) ?_
              try simp only [List.cons_append, List.nil_append, List.append_nil]
              refine thenX_normal ?_
              refine X_seq ?_
              refine X_region ?_
              refine XL_det .no (D_pure rfl) rfl ?_
              refine XL_then ?_
              refine X_seq ?_
              refine X_seq ?_
              refine X_region ?_
              refine XL_det .no (D_pure rfl) rfl ?_
              refine XL_then ?_
              refine X_block ?_
              refine X_loop (α := Nat) (fun j => j ≤ a2.l.length) (fun j => [(19, .int .i64 (j : Int)), (18, .int .i64 ((cntD (flatR r2) o.n.1 j) : Int)), (0, .int .i64 room), (1, .slice l.oad l.l.length l.c), (5, .pointer (some ⟨bp, 0, none⟩)), (7, .slice a2.oad a2.l.length a2.c), (8, .int .i64 (i : Int)), (9, .pointer (some ⟨b1, 0, none⟩)), (16, .slice g1.oad g1.l.length g1.c), (17, .slice g2.oad g2.l.length g2.c)]) (fun j => [blk bp (bxG room (setR r2) f2 (totR r2 : Int)) 119, many 32 (rowOf f2), row (.slice g1.oad g1.l.length g1.c) 53 2 g1.l.length (g1.l.flatMap encO), row (.slice g2.oad g2.l.length g2.c) 3 1 g2.l.length (g2.l.flatMap encI), K2, blk b1 (encB3 o) 60, K]) (fun j => a2.l.length - j) 0 ?_ (by refine ⟨?_, ?_, ?_, ?_, ?_, ?_, ?_, ?_, ?_, ?_, trivial⟩ <;> rfl) (by repeat first | with_reducible exact .nil _ | with_reducible exact .here _ _ | with_reducible exact Take.self _ | with_reducible apply Take.cons | with_reducible apply Out.there | with_reducible apply Take.skip | with_reducible exact Take.pre _ _ | with_reducible apply Out.app) ?_
              · exact Nat.zero_le _
              · intro j hj
                have hfl2 := flat_le hr2
                have hcn := cntD_le (flatR r2) o.n.1 j
                rw [← ha2] at hfl2
                have hla : (flatR r2).length = a2.l.length := by rw [ha2]
                refine X_seq ?_
                refine X_seq ?_
                refine X_region ?_
                refine XL_det .no (D_pure rfl) rfl ?_
                refine XL_det .no (D_pure rfl) rfl ?_
                refine XL_det .no (D_len rfl rfl slc_58) rfl ?_
                refine XL_det .no (D_pure rfl) rfl ?_
                refine XL_then ?_
                refine X_cond rfl (fun h7 => ?_) (fun h7 => ?_)
                · try simp only [decide_eq_true_eq, decide_eq_false_iff_not, Bool.not_eq_true', Bool.not_eq_false', beq_iff_eq, bne_iff_ne, beq_eq_false_iff_ne, bne_eq_false_iff_eq, Int.not_lt, Int.not_le, gt_iff_lt, ge_iff_le, ne_eq] at h7
                  obtain ⟨p, hq2⟩ : ∃ p, a2.l[j]? = some p := ⟨_, List.getElem?_eq_getElem (by omega)⟩
                  have hq : (flatR r2)[j]? = some p := by rw [← ha2]; exact hq2
                  have hq1 : g1.l[j]? = some p := by rw [hg1]; exact hq
                  refine X_skip ?_
                  refine thenX_normal ?_
                  refine X_seq ?_
                  refine X_block ?_
                  refine X_seq ?_
                  refine X_seq ?_
                  refine X_draw [row (.slice g1.oad g1.l.length g1.c) 53 2 g1.l.length (g1.l.flatMap encO), K2] mixed (by repeat first | with_reducible exact .nil _ | with_reducible exact .here _ _ | with_reducible exact Take.self _ | with_reducible apply Take.cons | with_reducible apply Out.there | with_reducible apply Take.skip | with_reducible exact Take.pre _ _ | with_reducible apply Out.app) ?_
                  refine XA_detp 0 rfl (by kernel_rfl) (by kernel_rfl) (by kernel_rfl) (fun _ _ _ _ h => h) .no (D_pureP rfl) rfl ?_
                  refine XA_detp 1 rfl (by kernel_rfl) (by kernel_rfl) (by kernel_rfl) (fun _ _ _ _ h => h) .no (D_pureP rfl) rfl ?_
                  refine XA_detp 2 rfl (by kernel_rfl) (by kernel_rfl) (by kernel_rfl) (fun _ _ _ _ h => h) .no (D_lenP rfl rfl slc_58) rfl ?_
                  refine XA_detp 3 rfl (by kernel_rfl) (by kernel_rfl) (by kernel_rfl) (fun _ _ _ _ h => h) .no (D_pureP (v := .bool false) (bfd (by rw [hg1, ← ha2]; omega))) rfl ?_
                  refine XA_detp 4 rfl (by kernel_rfl) (by kernel_rfl) (by kernel_rfl) (fun _ _ _ _ h => h) .no (D_pureP rfl) rfl ?_
                  refine XA_detp 5 rfl (by kernel_rfl) (by kernel_rfl) (by kernel_rfl) (fun _ _ _ _ h => h) (.yes 128 rfl rfl rfl) (D_pureP rfl) rfl ?_
                  refine XA_detp 6 rfl (by kernel_rfl) (by kernel_rfl) (by kernel_rfl) (fun _ _ _ _ h => h) (.yes 128 rfl rfl rfl) (D_pureP rfl) rfl ?_
                  refine XA_detp 7 rfl (by kernel_rfl) (by kernel_rfl) (by kernel_rfl) (fun _ _ _ _ h => h) (.yes 128 rfl rfl rfl) (D_idxSoP rfl rfl slc_58 (g1).nil0 rfl (List.getElem?_eq_some_iff.1 hq1).1 rfl) rfl ?_
                  refine XA_det 8 rfl (by kernel_rfl) (by kernel_rfl) (by kernel_rfl) (by kernel_rfl) (fun _ _ _ _ h => h) (.yes 128 rfl rfl rfl) (D_els (enc := encO) (sz := 2) (i := j) (fun _ => rfl) rfl (by repeat first | with_reducible exact .here _ _ | with_reducible apply Out.there | with_reducible apply Out.app) (Rd_own hg1o rfl) tk_53 hq1) rfl ?_
                  refine XA_detp 9 rfl (by kernel_rfl) (by kernel_rfl) (by kernel_rfl) (fun _ _ _ _ h => h) (.yes 128 rfl rfl rfl) (D_pureP rfl) rfl ?_
                  refine XA_detp 10 rfl (by kernel_rfl) (by kernel_rfl) (by kernel_rfl) (fun _ _ _ _ h => h) (.yes 128 rfl rfl rfl) (D_pureP rfl) rfl ?_
                  refine XA_detp 11 rfl (by kernel_rfl) (by kernel_rfl) (by kernel_rfl) (fun _ _ _ _ h => h) (.yes 128 rfl rfl rfl) (D_idxSoP rfl rfl slc_58 (a2).nil0 rfl (List.getElem?_eq_some_iff.1 hq2).1 rfl) rfl ?_
                  refine XA_det 12 rfl (by kernel_rfl) (by kernel_rfl) (by kernel_rfl) (by kernel_rfl) (fun _ _ _ _ h => h) (.yes 128 rfl rfl rfl) (D_els (enc := encO) (sz := 2) (i := j) (fun _ => rfl) rfl (by repeat first | with_reducible exact .here _ _ | with_reducible apply Out.there | with_reducible apply Out.app) hK2 tk_53 hq2) rfl ?_
                  refine XA_det 13 rfl (by kernel_rfl) (by kernel_rfl) (by kernel_rfl) (by kernel_rfl) (fun _ _ _ _ h => h) (.yes 128 rfl rfl rfl) (D_eqs (b := false) (xs := encO p) (ys := encO p) rfl rfl eqk_53 eqg_53 rfl rfl rfl (by show (!cellsEq _ _) = false; rw [o_same]; rfl)) rfl ?_
                  refine XA_detp 14 rfl (by kernel_rfl) (by kernel_rfl) (by kernel_rfl) (fun _ _ _ _ h => h) .no (D_pureP (v := .bool false) rfl) rfl ?_
                  refine XA_done (by kernel_rfl) ?_
                  try simp only [List.cons_append, List.nil_append, List.append_nil]
                  refine thenX_normal ?_
                  refine X_cond_f rfl rfl ?_
                  refine X_skip ?_
                  refine thenX_normal ?_
                  refine X_seq ?_
                  refine X_draw [blk b1 (encB3 o) 60, K2] mixed (by repeat first | with_reducible exact .nil _ | with_reducible exact .here _ _ | with_reducible exact Take.self _ | with_reducible apply Take.cons | with_reducible apply Out.there | with_reducible apply Take.skip | with_reducible exact Take.pre _ _ | with_reducible apply Out.app) ?_
                  refine XA_detp 0 rfl (by kernel_rfl) (by kernel_rfl) (by kernel_rfl) (fun _ _ _ _ h => h) .no (D_pureP rfl) rfl ?_
                  refine XA_detp 1 rfl (by kernel_rfl) (by kernel_rfl) (by kernel_rfl) (fun _ _ _ _ h => h) .no (D_pureP rfl) rfl ?_
                  refine XA_detp 2 rfl (by kernel_rfl) (by kernel_rfl) (by kernel_rfl) (fun _ _ _ _ h => h) .no (D_idxSoP rfl rfl slc_58 (a2).nil0 rfl (List.getElem?_eq_some_iff.1 hq2).1 rfl) rfl ?_
                  refine XA_detp 3 rfl (by kernel_rfl) (by kernel_rfl) (by kernel_rfl) (fun _ _ _ _ h => h) .no (D_fldAP rfl fld_53_0 rfl) rfl ?_
                  refine XA_det 4 rfl (by kernel_rfl) (by kernel_rfl) (by kernel_rfl) (by kernel_rfl) (fun _ _ _ _ h => h) .no (D_ela (enc := encO) (sz := 2) (i := j) (k := 0) (fun _ => rfl) rfl (by repeat first | with_reducible exact .here _ _ | with_reducible apply Out.there | with_reducible apply Out.app) hK2 tk_3 hq2 rfl) rfl ?_
                  refine XA_detp 5 rfl (by kernel_rfl) (by kernel_rfl) (by kernel_rfl) (fun _ _ _ _ h => h) .no (D_fldP rfl fld_60_1 (o' := 1) rfl) rfl ?_
                  refine XA_detp 6 rfl (by kernel_rfl) (by kernel_rfl) (by kernel_rfl) (fun _ _ _ _ h => h) .no (D_fldP rfl fld_53_0 (o' := 1) rfl) rfl ?_
                  refine XA_det 7 rfl (by kernel_rfl) (by kernel_rfl) (by kernel_rfl) (by kernel_rfl) (fun _ _ _ _ h => h) .no (D_ldo rfl (by repeat first | with_reducible exact .here _ _ | with_reducible apply Out.there | with_reducible apply Out.app) tk_3 (by rfl)) rfl ?_
                  refine XA_detp 8 rfl (by kernel_rfl) (by kernel_rfl) (by kernel_rfl) (fun _ _ _ _ h => h) .no (D_pureP rfl) rfl ?_
                  refine XA_done (by kernel_rfl) ?_
                  try simp only [List.cons_append, List.nil_append, List.append_nil]
                  refine thenX_normal ?_
                  refine X_cond rfl (fun h8 => ?_) (fun h8 => ?_)
                  · try simp only [decide_eq_true_eq, decide_eq_false_iff_not, Bool.not_eq_true', Bool.not_eq_false', beq_iff_eq, bne_iff_ne, beq_eq_false_iff_ne, bne_eq_false_iff_eq, Int.not_lt, Int.not_le, gt_iff_lt, ge_iff_le, ne_eq] at h8
                    have hNN : p.1 = o.n.1 := h8
                    have hq3 : g2.l[(cntD (flatR r2) o.n.1 j)]? = some p.2 := by rw [hg2]; exact cntD_get hq hNN
                    refine X_seq ?_
                    refine X_seq ?_
                    refine X_draw [row (.slice g2.oad g2.l.length g2.c) 3 1 g2.l.length (g2.l.flatMap encI), K2] mixed (by repeat first | with_reducible exact .nil _ | with_reducible exact .here _ _ | with_reducible exact Take.self _ | with_reducible apply Take.cons | with_reducible apply Out.there | with_reducible apply Take.skip | with_reducible exact Take.pre _ _ | with_reducible apply Out.app) ?_
                    refine XA_detp 0 rfl (by kernel_rfl) (by kernel_rfl) (by kernel_rfl) (fun _ _ _ _ h => h) .no (D_pureP rfl) rfl ?_
                    refine XA_detp 1 rfl (by kernel_rfl) (by kernel_rfl) (by kernel_rfl) (fun _ _ _ _ h => h) .no (D_pureP rfl) rfl ?_
                    refine XA_detp 2 rfl (by kernel_rfl) (by kernel_rfl) (by kernel_rfl) (fun _ _ _ _ h => h) .no (D_lenP rfl rfl slc_41) rfl ?_
                    refine XA_detp 3 rfl (by kernel_rfl) (by kernel_rfl) (by kernel_rfl) (fun _ _ _ _ h => h) .no (D_pureP (v := .bool false) (bfd (by have := (List.getElem?_eq_some_iff.1 hq3).1; omega))) rfl ?_
                    refine XA_detp 4 rfl (by kernel_rfl) (by kernel_rfl) (by kernel_rfl) (fun _ _ _ _ h => h) .no (D_pureP rfl) rfl ?_
                    refine XA_detp 5 rfl (by kernel_rfl) (by kernel_rfl) (by kernel_rfl) (fun _ _ _ _ h => h) (.yes 152 rfl rfl rfl) (D_pureP rfl) rfl ?_
                    refine XA_detp 6 rfl (by kernel_rfl) (by kernel_rfl) (by kernel_rfl) (fun _ _ _ _ h => h) (.yes 152 rfl rfl rfl) (D_pureP rfl) rfl ?_
                    refine XA_detp 7 rfl (by kernel_rfl) (by kernel_rfl) (by kernel_rfl) (fun _ _ _ _ h => h) (.yes 152 rfl rfl rfl) (D_idxSoP (j := (cntD (flatR r2) o.n.1 j)) rfl rfl slc_41 (g2).nil0 rfl (List.getElem?_eq_some_iff.1 hq3).1 rfl) rfl ?_
                    refine XA_det 8 rfl (by kernel_rfl) (by kernel_rfl) (by kernel_rfl) (by kernel_rfl) (fun _ _ _ _ h => h) (.yes 152 rfl rfl rfl) (D_ela (enc := encI) (sz := 1) (i := (cntD (flatR r2) o.n.1 j)) (k := 0) (fun _ => rfl) rfl (by repeat first | with_reducible exact .here _ _ | with_reducible apply Out.there | with_reducible apply Out.app) (Rd_own hg2o rfl) tk_3 hq3 rfl) rfl ?_
                    refine XA_detp 9 rfl (by kernel_rfl) (by kernel_rfl) (by kernel_rfl) (fun _ _ _ _ h => h) (.yes 152 rfl rfl rfl) (D_pureP rfl) rfl ?_
                    refine XA_detp 10 rfl (by kernel_rfl) (by kernel_rfl) (by kernel_rfl) (fun _ _ _ _ h => h) (.yes 152 rfl rfl rfl) (D_pureP rfl) rfl ?_
                    refine XA_detp 11 rfl (by kernel_rfl) (by kernel_rfl) (by kernel_rfl) (fun _ _ _ _ h => h) (.yes 152 rfl rfl rfl) (D_idxSoP rfl rfl slc_58 (a2).nil0 rfl (List.getElem?_eq_some_iff.1 hq2).1 rfl) rfl ?_
                    refine XA_detp 12 rfl (by kernel_rfl) (by kernel_rfl) (by kernel_rfl) (fun _ _ _ _ h => h) (.yes 152 rfl rfl rfl) (D_fldAP rfl fld_53_1 rfl) rfl ?_
                    refine XA_det 13 rfl (by kernel_rfl) (by kernel_rfl) (by kernel_rfl) (by kernel_rfl) (fun _ _ _ _ h => h) (.yes 152 rfl rfl rfl) (D_ela (enc := encO) (sz := 2) (i := j) (k := 1) (fun _ => rfl) rfl (by repeat first | with_reducible exact .here _ _ | with_reducible apply Out.there | with_reducible apply Out.app) hK2 tk_3 hq2 rfl) rfl ?_
                    refine XA_detp 14 rfl (by kernel_rfl) (by kernel_rfl) (by kernel_rfl) (fun _ _ _ _ h => h) (.yes 152 rfl rfl rfl) (D_pureP (v := .bool false) (bfn (by rfl))) rfl ?_
                    refine XA_detp 15 rfl (by kernel_rfl) (by kernel_rfl) (by kernel_rfl) (fun _ _ _ _ h => h) .no (D_pureP (v := .bool false) rfl) rfl ?_
                    refine XA_done (by kernel_rfl) ?_
                    try simp only [List.cons_append, List.nil_append, List.append_nil]
                    refine thenX_normal ?_
                    refine X_cond_f rfl rfl ?_
                    refine X_skip ?_
                    refine thenX_normal ?_
                    refine X_region ?_
                    refine XL_det .no (D_pure rfl) rfl ?_
                    refine XL_det .no (D_add rfl rfl (by omega) (by omega)) rfl ?_
                    refine XL_det .no (D_pure rfl) rfl ?_
                    refine XL_nil ?_
                    refine inBlk_normal ?_
                    refine thenX_normal ?_
                    refine X_region ?_
                    refine XL_det .no (D_pure rfl) rfl ?_
                    refine XL_det .no (D_add rfl rfl (by omega) (by omega)) rfl ?_
                    refine XL_det .no (D_pure rfl) rfl ?_
                    refine XL_nil ?_
                    refine loopQ_next (j + 1) ?_ ?_ ?_ ?_
                    · omega
                    · omega
                    · rw [show cntD (flatR r2) o.n.1 (j + 1) = (cntD (flatR r2) o.n.1 j) + 1 by rw [cntD_s hq, if_pos hNN]]; refine ⟨?_, ?_, ?_, ?_, ?_, ?_, ?_, ?_, ?_, ?_, trivial⟩ <;> rfl
                    · exact ⟨_, (by repeat first | with_reducible exact .nil _ | with_reducible exact .here _ _ | with_reducible exact Take.self _ | with_reducible apply Take.cons | with_reducible apply Out.there | with_reducible apply Take.skip | with_reducible exact Take.pre _ _ | with_reducible apply Out.app)⟩
                  · try simp only [decide_eq_true_eq, decide_eq_false_iff_not, Bool.not_eq_true', Bool.not_eq_false', beq_iff_eq, bne_iff_ne, beq_eq_false_iff_ne, bne_eq_false_iff_eq, Int.not_lt, Int.not_le, gt_iff_lt, ge_iff_le, ne_eq] at h8
                    have hNN : ¬ p.1 = o.n.1 := h8
                    refine X_skip ?_
                    refine inBlk_normal ?_
                    refine thenX_normal ?_
                    refine X_region ?_
                    refine XL_det .no (D_pure rfl) rfl ?_
                    refine XL_det .no (D_add rfl rfl (by omega) (by omega)) rfl ?_
                    refine XL_det .no (D_pure rfl) rfl ?_
                    refine XL_nil ?_
                    refine loopQ_next (j + 1) ?_ ?_ ?_ ?_
                    · omega
                    · omega
                    · rw [show cntD (flatR r2) o.n.1 (j + 1) = (cntD (flatR r2) o.n.1 j) by rw [cntD_s hq, if_neg hNN]; rfl]; refine ⟨?_, ?_, ?_, ?_, ?_, ?_, ?_, ?_, ?_, ?_, trivial⟩ <;> rfl
                    · exact ⟨_, (by repeat first | with_reducible exact .nil _ | with_reducible exact .here _ _ | with_reducible exact Take.self _ | with_reducible apply Take.cons | with_reducible apply Out.there | with_reducible apply Take.skip | with_reducible exact Take.pre _ _ | with_reducible apply Out.app)⟩
                · try simp only [decide_eq_true_eq, decide_eq_false_iff_not, Bool.not_eq_true', Bool.not_eq_false', beq_iff_eq, bne_iff_ne, beq_eq_false_iff_ne, bne_eq_false_iff_eq, Int.not_lt, Int.not_le, gt_iff_lt, ge_iff_le, ne_eq] at h7
                  have hend : (cntD (flatR r2) o.n.1 j) = (ofR r2 o.n.1).length := by rw [show j = (flatR r2).length by omega]; exact cntD_end
                  refine X_exit ?_
                  refine thenX_exit ?_
                  refine loopQ_exit ?_
                  refine inBlk_here ?_
                  refine thenX_normal ?_
                  refine X_seq ?_
                  refine X_region ?_
                  refine XL_det .no (D_pure rfl) rfl ?_
                  refine XL_det .no (D_len rfl rfl slc_58) rfl ?_
                  refine XL_det .no (D_pure rfl) rfl ?_
                  refine XL_det .no (D_len rfl rfl slc_58) rfl ?_
                  refine XL_det .no (D_pure (v := .bool false) (bfn (by rw [hg1, ha2]))) rfl ?_
                  refine XL_det .no (D_pure rfl) rfl ?_
                  refine XL_det (.yes 171 rfl rfl rfl) (D_pure rfl) rfl ?_
                  refine XL_det (.yes 171 rfl rfl rfl) (D_pure rfl) rfl ?_
                  refine XL_det (.yes 171 rfl rfl rfl) (D_len rfl rfl slc_41) rfl ?_
                  refine XL_det (.yes 171 rfl rfl rfl) (D_pure (v := .bool false) (bfn (by rw [hg2, hend]))) rfl ?_
                  refine XL_det .no (D_pure rfl) rfl ?_
                  refine XL_det .no (D_pure rfl) rfl ?_
                  refine XL_det (.yes 177 rfl rfl rfl) (D_pure rfl) rfl ?_
                  refine XL_callk (.yes 177 rfl rfl rfl) en_26 rfl (blen bp room f2 r2) (by repeat first | with_reducible exact .nil _ | with_reducible exact .here _ _ | with_reducible exact Take.self _ | with_reducible apply Take.cons | with_reducible apply Out.there | with_reducible apply Take.skip | with_reducible exact Take.pre _ _ | with_reducible apply Out.app) rfl ?_
                  refine XL_det (.yes 177 rfl rfl rfl) (D_pure rfl) rfl ?_
                  refine XL_det (.yes 177 rfl rfl rfl) (D_len rfl rfl slc_58) rfl ?_
                  refine XL_det (.yes 177 rfl rfl rfl) (D_pure (v := .bool false) (bfn (by rw [ha2, flat_len']))) rfl ?_
                  refine XL_det .no (D_pure (v := .bool false) rfl) rfl ?_
                  refine XL_then ?_
                  refine X_cond_f rfl rfl ?_
                  refine X_skip ?_
                  refine inBlk_normal ?_
                  refine thenX_normal ?_
                  refine X_region ?_
                  refine XL_det .no (D_pure rfl) rfl ?_
                  refine XL_det .no (D_add rfl rfl (by omega) (by omega)) rfl ?_
                  refine XL_det .no (D_pure rfl) rfl ?_
                  refine XL_nil ?_
                  refine loopQ_next (i + 1, f2, r2, a2, K2) ?_ ?_ ?_ ?_
                  · (try dsimp only); exact ⟨by omega, hb2, hr2, ha2, hK2⟩
                  · (try dsimp only); omega
                  · refine ⟨?_, ?_, ?_, ?_, ?_, trivial⟩ <;> rfl
                  · (try dsimp only); exact ⟨_, (by repeat first | with_reducible exact .nil _ | with_reducible exact .here _ _ | with_reducible exact Take.self _ | with_reducible apply Take.cons | with_reducible apply Out.there | with_reducible apply Take.skip | with_reducible exact Take.pre _ _ | with_reducible apply Out.app)⟩
          · try simp only [decide_eq_true_eq, decide_eq_false_iff_not, Bool.not_eq_true', Bool.not_eq_false', beq_iff_eq, bne_iff_ne, beq_eq_false_iff_ne, bne_eq_false_iff_eq, Int.not_lt, Int.not_le, gt_iff_lt, ge_iff_le, ne_eq] at h4
            refine X_exit ?_
            refine thenX_exit ?_
            refine loopQ_exit ?_
            refine inBlk_here ?_
            refine thenX_normal ?_
            refine X_seq ?_
            refine X_region ?_
            refine XL_callk .no en_22 rfl (alive51 hK) (by repeat first | with_reducible exact .nil _ | with_reducible exact .here _ _ | with_reducible exact Take.self _ | with_reducible apply Take.cons | with_reducible apply Out.there | with_reducible apply Take.skip | with_reducible exact Take.pre _ _ | with_reducible apply Out.app) rfl ?_
            refine XL_det .no (D_pure rfl) rfl ?_
            refine XL_then ?_
            refine X_ret ?_
            refine ret_ok (.nil _) (res_tmp rfl rfl) ?_
            exact ⟨_, ⟨rfl, rfl⟩, _, (by repeat first | with_reducible exact .nil _ | with_reducible exact .here _ _ | with_reducible exact Take.self _ | with_reducible apply Take.cons | with_reducible apply Out.there | with_reducible apply Take.skip | with_reducible exact Take.pre _ _ | with_reducible apply Out.app)⟩


theorem mboxPlays (l : Arr OpB) (hl : Rd K l.ad (l.l.flatMap encB3)) (room : Int) (hK : Rd K ⟨0, 0, none⟩ (tab32.map fun m => .int .u8 m)) (hD : Dup K) : Ctr Tryd.prog B 6 [.int .i64 room, .slice l.oad l.l.length l.c] [K] (fun v S => v = .bool true ∧ S = [K]) := by
  by_cases h : 1 ≤ room ∧ room ≤ 65536
  · exact mboxPlays1 l hl room h hK hD
  · exact mboxPlays0 l hl room h hK

end Go.Proofs.YtdimcgedcndndaaDoor
end

section
namespace Go.Proofs.YtdimcgedcndndaaDoor
open Go Go.Sl Go.ChangeShapes Go.WideShapes Go.ChangeAt Go.RowKit
set_option linter.unusedVariables false
abbrev tabT : Nat := 152
theorem ui_int : Tryd.prog.underlying 3 = some (.int .i64) := by kernel_rfl
theorem eqk_60 : eqKinds Tryd.prog 12 60 = some [none, some .i64, some .i64] := by kernel_rfl
theorem sl_op : slcOf Tryd.prog 57 = some (60, 3) := by kernel_rfl
theorem sz_op : (Tryd.prog.info? 60).map (·.size) = some 3 := by kernel_rfl
theorem open_op {W : World} {n : Nat} {H : Type} {enc : TypeId × Value → H} {cs : List Value} {x : DataW H × List MemPlace} (hx : DataW.trod enc Tryd.prog W 0 (fun _ => true) true n 60 cs = some x) : ∃ o : OpB, cs = encB3 o ∧ True := by
  obtain ⟨e, h, hf⟩ := flat_dec eqk_60 sz_op hx
  exact ⟨⟨e 0 == 1, (e 1, e 2)⟩, h, trivial⟩

theorem own : ownKnob Tryd.prog.godebug = none := by kernel_rfl
theorem laidOut : laidOutB Tryd.prog = true := by kernel_rfl
abbrev laidT : List (String × DataW Unit) := [("math/bits.deBruijn32tab", Rows.laid_math_bits_deBruijn32tab)]
set_option maxRecDepth 100000 in
theorem laidTab {W : World} (h : laidMetH Tryd.prog laidT W) : Rd (old (B := W.heap.size) W) ⟨0, 0, none⟩ (tab32.map fun m => .int .u8 m) := by
  rw [MakeChecks.laidMetH_plain _ _ _ (by kernel_rfl)] at h
  rw [show laidT = [("math/bits.deBruijn32tab", .agg (tab32.map fun m => .lit (.int .u8 m)))] from by kernel_rfl] at h
  exact laid_row (tab := tab32) (t := tabT) (len := 32) (e := 5) (k := .u8) (by kernel_rfl) (by kernel_rfl) (by kernel_rfl) (by kernel_rfl) (by kernel_rfl) (by decide) h
theorem door_met (os : Os) (args : Array Value) : laidMetH Tryd.prog laidT ((World.doorLaid Tryd.prog 400 os).forCall (fun _ _ => 0) ⟨#[], args, []⟩).memory :=
  laidMetH_of_parts3 (fuel := 8) (laidMet_of_run' 8 (by kernel_rfl) (by kernel_rfl)) (by kernel_rfl) (by kernel_rfl)


set_option maxRecDepth 100000 in
/-- The walk, at the arguments as the row reads them. -/
theorem walkMboxPlays (W : World) (args : Array Value) (hL : laidMetH Tryd.prog laidT W) (h : ArgsOk Tryd.prog W Tryd.f6.params.toList args.toList) : Calls Tryd.prog 6 args W fun e w' => e = .returned (.bool true) ∧ Go.RowKit.Below W.heap.size W w' := by
  rw [show Tryd.f6.params.toList = [3, 57] from by kernel_rfl] at h
  obtain ⟨args⟩ := args
  match args, h with
  | [v0, v1], h =>
    have hK := laidTab hL
    obtain ⟨a0, a1, _⟩ := h
    obtain ⟨m, rfl, _⟩ := arg_int ui_int a0
    obtain ⟨l, rfl, _, hl⟩ := arg_arr (encA := encB3) (ok := fun _ => True) sl_op (by decide) a1 (fun n cs x hx => open_op hx)
    exact calls_of (old_self W) ((mboxPlays l hl m hK (old_dup W)).mono fun _ _ h => h.1)

set_option maxRecDepth 100000 in
theorem liftedMboxPlays (os : Os) (started : os.Started) (H : Type) (enc : TypeId × Value → H) :
    ReturnsInHanded {} Tryd.checked os 6 .any (fun w args => (Rows.mboxPlaysSpec.pre enc Tryd.prog Tryd.f6 [] false w args ∧ laidMetH Tryd.prog laidT w) ∧ sizedMet enc Tryd.prog Tryd.f6 (OpenSpec.ofChange Rows.mboxPlaysSpec) false w args) (Rows.mboxPlaysSpec.post enc Tryd.prog Tryd.f6 false true false false) :=
  handedL (C := Tryd.checked) (tb := 4) own started (by kernel_rfl) Tryd.func6 laidOut (by kernel_rfl) rfl
    (fun ds h => by
      have h : ds.length = 2 := h
      match ds, h with
      | [_, _], _ => exact ⟨rfl, rfl, rfl⟩) (by kernel_rfl) (by kernel_rfl)
    (ChangeSpec.witness_shaped (enc := enc) (C := Tryd.checked) (os := os) (X := fun w _ => laidMetH Tryd.prog laidT w) false (World.doorLaid Tryd.prog 400 os) #[.int .i64 0, .slice none 0 0] 8 rfl (World.shaped_of_RefB (by kernel_rfl) (by kernel_rfl)) (by kernel_rfl) (by kernel_rfl) (by kernel_rfl) (door_met os _))
    (fun W args hL h => walkMboxPlays W args hL h)

theorem overMboxPlays : Rows.MboxPlaysSaid :=
  OpenClaim.holds_of_wide 6 Tryd.f6 rfl rfl rfl rfl rfl rfl rfl ⟨rfl, rfl, rfl, rfl, rfl⟩ rfl rfl rfl rfl rfl (by kernel_rfl) Tryd.func6 (by kernel_rfl)
    (of_decide_eq_true (by kernel_rfl)) (by unfold Func.isWrapper; first | (rw [if_pos (by decide +kernel)]; kernel_rfl) | (rw [if_neg (by decide +kernel)]; exact ⟨rfl, rfl⟩))
    (fun os started H enc _ => liftedMboxPlays os started H enc)

/-- The statement: the tied card. -/
theorem provedMboxPlays : Rows.MboxPlaysCardSaid :=
  Claim7.holds_tied_plain_at .later [] [.data] true (true, "3603e660136b1921cb9f742bc841b9ec612f393fc17fb7707fd169dd1f08532f") false
    overMboxPlays (fun _ h => by cases h) (by kernel_rfl) (fun _ h => by cases h) mboxPlays_row_tie rfl ⟨rfl, rfl⟩ (by kernel_rfl) rfl
    (fun f fn hf hfn => by
      obtain rfl : f = 6 := Option.some.inj ((show Tryd.prog.funcNamed "remontoir/remontoirlaw51.MboxPlays" = some 6 by kernel_rfl).symm.trans hf) |>.symm
      obtain rfl : fn = Tryd.f6 := (Option.some.inj (Tryd.func6.symm.trans hfn)).symm
      exact ⟨by kernel_rfl, fun j t ht => by
        have ht : t ∈ Tryd.f6.params.toList := by simpa using Array.mem_of_getElem? ht
        rw [show Tryd.f6.params.toList = [3, 57] from by kernel_rfl] at ht
        have hall : ([3, 57].all fun u => !Tryd.prog.wantsStandIn u) = true := by kernel_rfl
        exact (show Tryd.prog.wantsStandIn t = false by simpa using List.all_eq_true.1 hall t ht)⟩)
    (by kernel_rfl)

#print axioms provedMboxPlays
end Go.Proofs.YtdimcgedcndndaaDoor
end
