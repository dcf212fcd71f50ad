/- The given statement MboxOrderCardSaid is proved: messages that were sent are taken by degree, and those of one degree in the order of their sending. Conditions: at most 200 messages, as the statement itself says them; none beside. -/
import Derived.Test.YtdimcgedcndndaaDoorMboxOrderP1
import Derived.KernelRfl
import Derived.Test.YtdimcgedcndndaaDoorProg
import Derived.Test.YtdimcgedcndndaaDoorRows
import Derived.Test.YtdimcgedcndndaaDoorTie
import Derived.Test.YtdimcgedcndndaaDoorCards
import Derived.SevenTiedAt
import Derived.LaidMore
section
namespace Go.Proofs.YtdimcgedcndndaaDoor
open Go Go.Sl
set_option linter.unusedVariables false
set_option linter.unusedSimpArgs false
set_option maxRecDepth 4000
variable {B : Nat} {K : Asrt B}
theorem en_22 : Go.Proofs.Enters Tryd.prog 22 := Go.Proofs.enters_of Tryd.func22 (by kernel_rfl) rfl
theorem en_23 : Go.Proofs.Enters Tryd.prog 23 := Go.Proofs.enters_of Tryd.func23 (by kernel_rfl) rfl
theorem en_24 : Go.Proofs.Enters Tryd.prog 24 := Go.Proofs.enters_of Tryd.func24 (by kernel_rfl) rfl
theorem en_25 : Go.Proofs.Enters Tryd.prog 25 := Go.Proofs.enters_of Tryd.func25 (by kernel_rfl) rfl
theorem en_26 : Go.Proofs.Enters Tryd.prog 26 := Go.Proofs.enters_of Tryd.func26 (by kernel_rfl) rfl
theorem fld_60_0 : fldOff Tryd.prog 60 0 = some 0 := by kernel_rfl
theorem fld_60_1 : fldOff Tryd.prog 60 1 = some 1 := by kernel_rfl
theorem slc_57 : slcOf Tryd.prog 57 = some (60, 3) := by kernel_rfl
theorem tk_4 : tyK Tryd.prog 4 = some (false, 1) := by kernel_rfl
theorem tk_60 : tyK Tryd.prog 60 = some (true, 3) := by kernel_rfl
theorem zero_60 : zeroOf Tryd.prog 60 = some [.bool false, .int .i64 0, .int .i64 0] := by kernel_rfl

structure OpB where
  tk : Bool
  n : Int × Int
abbrev encB3 (o : OpB) : List Value := [.bool o.tk, .int .i64 o.n.1, .int .i64 o.n.2]
theorem bfn {m n : Int} (h : m = n) : some (Value.bool (m != n)) = some (.bool false) := by simp [h]
theorem beqF {a b : Bool} (h : a = b) : (a != b) = false := by rw [h]; simp
theorem o_same (p : Int × Int) : cellsEq (encO p) (encO p) = true := by simp [cellsEq, veq]
theorem bfd {p : Prop} [Decidable p] (h : ¬ p) : some (Value.bool (decide p)) = some (.bool false) := by rw [decide_eq_false h]
theorem cut_tailO {a : Arr (Int × Int)} {h1 : 1 ≤ a.l.length} {h2 : a.l.length ≤ a.l.length} {m : Nat} {h3 : a.l.length ≤ m} : (a.cut 2 1 a.l.length m h1 h2 h3).l = a.l.tail := by
  show (a.l.drop 1).take (a.l.length - 1) = _
  rw [List.drop_one, List.take_of_length_le (by simp)]
theorem flat_zero : flatR zR = [] := law_take0.1 z_set
theorem flat_le {r : Rw} {room : Int} (h : (totR r : Int) ≤ room) : ((flatR r).length : Int) ≤ room := by rw [flat_len']; exact h

theorem mboxPlays0 (l : Arr OpB) (hl : Rd K l.ad (l.l.flatMap encB3)) (room : Int) (hm : ¬ (1 ≤ room ∧ room ≤ 65536)) (hK : Rd K ⟨0, 0, none⟩ (tab32.map fun m => .int .u8 m)) : Ctr Tryd.prog B 6 [.int .i64 room, .slice l.oad l.l.length l.c] [K] (fun v S => v = .bool true ∧ S = [K]) := by
  refine Ctr_of_X (N := 185) Tryd.func6 rfl (by simp) rfl ?_
  intro w0 D0
  refine X_seq ?_
  refine X_region ?_
  refine XL_det .no (D_pure rfl) rfl ?_
  refine XL_then ?_
  refine X_seq ?_
  refine X_seq ?_
  refine X_region ?_
  refine XL_det .no (D_pure rfl) rfl ?_
  refine XL_det .no (D_len rfl rfl slc_57) rfl ?_
  refine XL_det .no (D_pure rfl) rfl ?_
  refine XL_then ?_
  refine X_cond rfl (fun h1 => ?_) (fun h1 => ?_)
  · try simp only [decide_eq_true_eq, decide_eq_false_iff_not, Bool.not_eq_true', Bool.not_eq_false', beq_iff_eq, bne_iff_ne, beq_eq_false_iff_ne, bne_eq_false_iff_eq, Int.not_lt, Int.not_le, gt_iff_lt, ge_iff_le, ne_eq] at h1
    refine X_seq ?_
    refine X_region ?_
    refine XL_det .no (D_pure rfl) rfl ?_
    refine XL_then ?_
    refine X_ret ?_
    refine thenX_ret ?_
    refine ret_ok (.nil _) (res_tmp rfl rfl) ?_
    exact ⟨_, ⟨rfl, rfl⟩, _, (by repeat first | with_reducible exact .nil _ | with_reducible exact .here _ _ | with_reducible exact Take.self _ | with_reducible apply Take.cons | with_reducible apply Out.there | with_reducible apply Take.skip | with_reducible exact Take.pre _ _ | with_reducible apply Out.app)⟩
  · try simp only [decide_eq_true_eq, decide_eq_false_iff_not, Bool.not_eq_true', Bool.not_eq_false', beq_iff_eq, bne_iff_ne, beq_eq_false_iff_ne, bne_eq_false_iff_eq, Int.not_lt, Int.not_le, gt_iff_lt, ge_iff_le, ne_eq] at h1
    refine X_skip ?_
    refine thenX_normal ?_
    refine X_seq ?_
    refine X_region ?_
    refine XL_det .no (D_pure rfl) rfl ?_
    refine XL_callv .no en_19 rfl (bnew0 room hm) rfl ?_
    refine XL_det .no (D_pure rfl) rfl ?_
    refine XL_det .no (D_pure (v := .pointer none) rfl) rfl ?_
    refine XL_det .no (D_pure (v := .int .i64 64) rfl) rfl ?_
    refine XL_det .no (D_pure rfl) rfl ?_
    refine XL_det .no (D_pure rfl) rfl ?_
    refine XL_then ?_
    refine X_seq ?_
    refine X_seq ?_
    refine X_region ?_
    refine XL_det .no (D_pure rfl) rfl ?_
    refine XL_det .no (D_pure rfl) rfl ?_
    refine XL_det .no (D_pure rfl) rfl ?_
    refine XL_split (t := 30) rfl (fun h2 => ?_) (fun h2 => ?_)
    · try simp only [decide_eq_true_eq, decide_eq_false_iff_not, Bool.not_eq_true', Bool.not_eq_false', beq_iff_eq, bne_iff_ne, beq_eq_false_iff_ne, bne_eq_false_iff_eq, Int.not_lt, Int.not_le, gt_iff_lt, ge_iff_le, ne_eq] at h2
      refine XL_skip 30 rfl rfl rfl rfl rfl ?_
      refine XL_skip 30 rfl rfl rfl rfl rfl ?_
      refine XL_det .no (D_pure rfl) rfl ?_
      refine XL_then ?_
      refine X_cond_t rfl rfl ?_
      refine X_seq ?_
      refine X_region ?_
      refine XL_det .no (D_pure rfl) rfl ?_
      refine XL_det .no (D_ptrnil rfl rfl ptr_46 rfl) rfl ?_
      refine XL_det .no (D_pure rfl) rfl ?_
      refine XL_det (.yes 36 rfl rfl rfl) (D_pure rfl) rfl ?_
      refine XL_det (.yes 36 rfl rfl rfl) (D_pure (v := .bool true) rfl) rfl ?_
      refine XL_det .no (D_pure rfl) rfl ?_
      refine XL_det .no (D_pure rfl) rfl ?_
      refine XL_callk (.yes 40 rfl rfl rfl) en_22 rfl (alive51 hK) (by repeat first | with_reducible exact .nil _ | with_reducible exact .here _ _ | with_reducible exact Take.self _ | with_reducible apply Take.cons | with_reducible apply Out.there | with_reducible apply Take.skip | with_reducible exact Take.pre _ _ | with_reducible apply Out.app) rfl ?_
      refine XL_det .no (D_pure rfl) rfl ?_
      refine XL_det .no (D_pure rfl) rfl ?_
      refine XL_then ?_
      refine X_ret ?_
      refine thenX_ret ?_
      refine ret_ok (.nil _) (res_tmp rfl rfl) ?_
      exact ⟨_, ⟨rfl, rfl⟩, _, (by repeat first | with_reducible exact .nil _ | with_reducible exact .here _ _ | with_reducible exact Take.self _ | with_reducible apply Take.cons | with_reducible apply Out.there | with_reducible apply Take.skip | with_reducible exact Take.pre _ _ | with_reducible apply Out.app)⟩
    · try simp only [decide_eq_true_eq, decide_eq_false_iff_not, Bool.not_eq_true', Bool.not_eq_false', beq_iff_eq, bne_iff_ne, beq_eq_false_iff_ne, bne_eq_false_iff_eq, Int.not_lt, Int.not_le, gt_iff_lt, ge_iff_le, ne_eq] at h2
      refine XL_det (.yes 30 rfl rfl rfl) (D_pure rfl) rfl ?_
      refine XL_det (.yes 30 rfl rfl rfl) (D_pure rfl) rfl ?_
      refine XL_det .no (D_pure rfl) rfl ?_
      refine XL_then ?_
      refine X_cond rfl (fun h3 => ?_) (fun h3 => ?_)
      · try simp only [decide_eq_true_eq, decide_eq_false_iff_not, Bool.not_eq_true', Bool.not_eq_false', beq_iff_eq, bne_iff_ne, beq_eq_false_iff_ne, bne_eq_false_iff_eq, Int.not_lt, Int.not_le, gt_iff_lt, ge_iff_le, ne_eq] at h3
        refine X_seq ?_
        refine X_region ?_
        refine XL_det .no (D_pure rfl) rfl ?_
        refine XL_det .no (D_ptrnil rfl rfl ptr_46 rfl) rfl ?_
        refine XL_det .no (D_pure rfl) rfl ?_
        refine XL_det (.yes 36 rfl rfl rfl) (D_pure rfl) rfl ?_
        refine XL_det (.yes 36 rfl rfl rfl) (D_pure (v := .bool true) rfl) rfl ?_
        refine XL_det .no (D_pure rfl) rfl ?_
        refine XL_det .no (D_pure rfl) rfl ?_
        refine XL_callk (.yes 40 rfl rfl rfl) en_22 rfl (alive51 hK) (by repeat first | with_reducible exact .nil _ | with_reducible exact .here _ _ | with_reducible exact Take.self _ | with_reducible apply Take.cons | with_reducible apply Out.there | with_reducible apply Take.skip | with_reducible exact Take.pre _ _ | with_reducible apply Out.app) rfl ?_
        refine XL_det .no (D_pure rfl) rfl ?_
        refine XL_det .no (D_pure rfl) rfl ?_
        refine XL_then ?_
        refine X_ret ?_
        refine thenX_ret ?_
        refine ret_ok (.nil _) (res_tmp rfl rfl) ?_
        exact ⟨_, ⟨rfl, rfl⟩, _, (by repeat first | with_reducible exact .nil _ | with_reducible exact .here _ _ | with_reducible exact Take.self _ | with_reducible apply Take.cons | with_reducible apply Out.there | with_reducible apply Take.skip | with_reducible exact Take.pre _ _ | with_reducible apply Out.app)⟩
      · try simp only [decide_eq_true_eq, decide_eq_false_iff_not, Bool.not_eq_true', Bool.not_eq_false', beq_iff_eq, bne_iff_ne, beq_eq_false_iff_ne, bne_eq_false_iff_eq, Int.not_lt, Int.not_le, gt_iff_lt, ge_iff_le, ne_eq] at h3
        omega

theorem mboxPlays1 (l : Arr OpB) (hl : Rd K l.ad (l.l.flatMap encB3)) (room : Int) (hm : 1 ≤ room ∧ room ≤ 65536) (hK : Rd K ⟨0, 0, none⟩ (tab32.map fun m => .int .u8 m)) (hD : Dup K) : Ctr Tryd.prog B 6 [.int .i64 room, .slice l.oad l.l.length l.c] [K] (fun v S => v = .bool true ∧ S = [K]) := by
  refine Ctr_of_X (N := 185) Tryd.func6 rfl (by simp) rfl ?_
  intro w0 D0
  refine X_seq ?_
  refine X_region ?_
  refine XL_det .no (D_pure rfl) rfl ?_
  refine XL_then ?_
  refine X_seq ?_
  refine X_seq ?_
  refine X_region ?_
  refine XL_det .no (D_pure rfl) rfl ?_
  refine XL_det .no (D_len rfl rfl slc_57) rfl ?_
  refine XL_det .no (D_pure rfl) rfl ?_
  refine XL_then ?_
  refine X_cond rfl (fun h1 => ?_) (fun h1 => ?_)
  · try simp only [decide_eq_true_eq, decide_eq_false_iff_not, Bool.not_eq_true', Bool.not_eq_false', beq_iff_eq, bne_iff_ne, beq_eq_false_iff_ne, bne_eq_false_iff_eq, Int.not_lt, Int.not_le, gt_iff_lt, ge_iff_le, ne_eq] at h1
    refine X_seq ?_
    refine X_region ?_
    refine XL_det .no (D_pure rfl) rfl ?_
    refine XL_then ?_
    refine X_ret ?_
    refine thenX_ret ?_
    refine ret_ok (.nil _) (res_tmp rfl rfl) ?_
    exact ⟨_, ⟨rfl, rfl⟩, _, (by repeat first | with_reducible exact .nil _ | with_reducible exact .here _ _ | with_reducible exact Take.self _ | with_reducible apply Take.cons | with_reducible apply Out.there | with_reducible apply Take.skip | with_reducible exact Take.pre _ _ | with_reducible apply Out.app)⟩
  · try simp only [decide_eq_true_eq, decide_eq_false_iff_not, Bool.not_eq_true', Bool.not_eq_false', beq_iff_eq, bne_iff_ne, beq_eq_false_iff_ne, bne_eq_false_iff_eq, Int.not_lt, Int.not_le, gt_iff_lt, ge_iff_le, ne_eq] at h1
    refine X_skip ?_
    refine thenX_normal ?_
    refine X_seq ?_
    refine X_region ?_
    refine XL_det .no (D_pure rfl) rfl ?_
    refine XL_call .no en_19 rfl (bnew room hm) (by repeat first | with_reducible exact .nil _ | with_reducible exact .here _ _ | with_reducible exact Take.self _ | with_reducible apply Take.cons | with_reducible apply Out.there | with_reducible apply Take.skip | with_reducible exact Take.pre _ _ | with_reducible apply Out.app) rfl ?_
    rintro _ _ ⟨bp, rfl, rfl⟩
    simp only [List.cons_append, List.nil_append]
    refine XL_det .no (D_pure rfl) rfl ?_
    refine XL_det .no (D_pure (v := .pointer (some ⟨bp, 0, none⟩)) rfl) rfl ?_
    refine XL_det .no (D_pure (v := .int .i64 0) rfl) rfl ?_
    refine XL_det .no (D_pure rfl) rfl ?_
    refine XL_det .no (D_pure rfl) rfl ?_
    refine XL_then ?_
    refine X_seq ?_
    refine X_seq ?_
    refine X_region ?_
    refine XL_det .no (D_pure rfl) rfl ?_
    refine XL_det .no (D_pure rfl) rfl ?_
    refine XL_det .no (D_pure rfl) rfl ?_
    refine XL_split (t := 30) rfl (fun h2 => ?_) (fun h2 => ?_)
    · try simp only [decide_eq_true_eq, decide_eq_false_iff_not, Bool.not_eq_true', Bool.not_eq_false', beq_iff_eq, bne_iff_ne, beq_eq_false_iff_ne, bne_eq_false_iff_eq, Int.not_lt, Int.not_le, gt_iff_lt, ge_iff_le, ne_eq] at h2
      omega
    · try simp only [decide_eq_true_eq, decide_eq_false_iff_not, Bool.not_eq_true', Bool.not_eq_false', beq_iff_eq, bne_iff_ne, beq_eq_false_iff_ne, bne_eq_false_iff_eq, Int.not_lt, Int.not_le, gt_iff_lt, ge_iff_le, ne_eq] at h2
      refine XL_det (.yes 30 rfl rfl rfl) (D_pure rfl) rfl ?_
      refine XL_det (.yes 30 rfl rfl rfl) (D_pure rfl) rfl ?_
      refine XL_det .no (D_pure rfl) rfl ?_
      refine XL_then ?_
      refine X_cond rfl (fun h3 => ?_) (fun h3 => ?_)
      · try simp only [decide_eq_true_eq, decide_eq_false_iff_not, Bool.not_eq_true', Bool.not_eq_false', beq_iff_eq, bne_iff_ne, beq_eq_false_iff_ne, bne_eq_false_iff_eq, Int.not_lt, Int.not_le, gt_iff_lt, ge_iff_le, ne_eq] at h3
        omega
      · try simp only [decide_eq_true_eq, decide_eq_false_iff_not, Bool.not_eq_true', Bool.not_eq_false', beq_iff_eq, bne_iff_ne, beq_eq_false_iff_ne, bne_eq_false_iff_eq, Int.not_lt, Int.not_le, gt_iff_lt, ge_iff_le, ne_eq] at h3
        refine X_skip ?_
        refine thenX_normal ?_
        refine X_seq ?_
        refine X_seq ?_
        refine X_region ?_
        refine XL_det .no (D_pure rfl) rfl ?_
        refine XL_det .no (D_ptrnil rfl rfl ptr_46 rfl) rfl ?_
        refine XL_det .no (D_pure rfl) rfl ?_
        refine XL_det (.yes 45 rfl rfl rfl) (D_pure rfl) rfl ?_
        refine XL_det (.yes 45 rfl rfl rfl) (D_pure (v := .bool false) rfl) rfl ?_
        refine XL_det .no (D_pure rfl) rfl ?_
        refine XL_then ?_
        refine X_cond_f rfl rfl ?_
        refine X_skip ?_
        refine thenX_normal ?_
        refine X_seq ?_
        refine X_region ?_
        refine XL_det .no (D_pure rfl) rfl ?_
        refine XL_then ?_
        refine X_seq ?_
        refine X_seq ?_
        refine X_region ?_
        refine XL_det .no (D_pure rfl) rfl ?_
        refine XL_then ?_
        refine X_block ?_
        refine X_rowa encO 53 2 ?_
        refine X_loop (α := Nat × (Nat → Arr Int) × Rw × Arr (Int × Int) × Asrt B) (fun ⟨i, f, r, a, Kl⟩ => i ≤ l.l.length ∧ Bx f r ∧ (totR r : Int) ≤ room ∧ a.l = flatR r ∧ Rd Kl a.ad (a.l.flatMap encO)) (fun ⟨i, f, r, a, Kl⟩ => [(8, .int .i64 (i : Int)), (7, .slice a.oad a.l.length a.c), (0, .int .i64 room), (1, .slice l.oad l.l.length l.c), (5, .pointer (some ⟨bp, 0, none⟩))]) (fun ⟨i, f, r, a, Kl⟩ => [blk bp (bxG room (setR r) f (totR r : Int)) 119, many 32 (rowOf f), Kl, K]) (fun ⟨i, f, r, a, Kl⟩ => l.l.length - i) (0, (fun _ => Arr.emp), zR, Arr.emp, row (.slice (Arr.emp : Arr (Int × Int)).oad (Arr.emp : Arr (Int × Int)).l.length (Arr.emp : Arr (Int × Int)).c) 53 2 (Arr.emp : Arr (Int × Int)).l.length ((Arr.emp : Arr (Int × Int)).l.flatMap encO)) ?_ (by refine ⟨?_, ?_, ?_, ?_, ?_, trivial⟩ <;> rfl) (by repeat first | with_reducible exact .nil _ | with_reducible exact .here _ _ | with_reducible exact Take.self _ | with_reducible apply Take.cons | with_reducible apply Out.there | with_reducible apply Take.skip | with_reducible exact Take.pre _ _ | with_reducible apply Out.app) ?_
        · exact ⟨Nat.zero_le _, z_bx, by show (totR zR : Int) ≤ room; rw [z_tot]; omega, flat_zero.symm, Rd_own Arr.emp_own rfl⟩
        · rintro ⟨i, f, r, a, Kl⟩ ⟨hi, hb, hr, ha, hKl⟩
          dsimp only
          have hfl := flat_le hr
          rw [← ha] at hfl
          refine X_seq ?_
          refine X_seq ?_
          refine X_region ?_
          refine XL_det .no (D_pure rfl) rfl ?_
          refine XL_det .no (D_pure rfl) rfl ?_
          refine XL_det .no (D_len rfl rfl slc_57) rfl ?_
          refine XL_det .no (D_pure rfl) rfl ?_
          refine XL_then ?_
          refine X_cond rfl (fun h4 => ?_) (fun h4 => ?_)
          · try simp only [decide_eq_true_eq, decide_eq_false_iff_not, Bool.not_eq_true', Bool.not_eq_false', beq_iff_eq, bne_iff_ne, beq_eq_false_iff_ne, bne_eq_false_iff_eq, Int.not_lt, Int.not_le, gt_iff_lt, ge_iff_le, ne_eq] at h4
            obtain ⟨o, ho⟩ : ∃ o, l.l[i]? = some o := ⟨_, List.getElem?_eq_getElem (by omega)⟩
            have hls := law_send (p := o.n) hr hm.1
            have hs1 : (sendL room a.l o.n).2.1 = (sendR room r o.n.1 o.n.2).2.1 := by rw [ha, hls]
            have hs2 : (sendL room a.l o.n).2.2 = (sendR room r o.n.1 o.n.2).2.2 := by rw [ha, hls]
            refine X_skip ?_
            refine thenX_normal ?_
            refine X_seq ?_
            refine X_block ?_
            refine X_seq ?_
            refine X_region ?_
            refine XL_det .no (D_pure rfl) rfl ?_
            refine XL_det .no (D_pure rfl) rfl ?_
            refine XL_det .no (D_idxSo rfl rfl slc_57 (l).nil0 rfl (by omega) rfl) rfl ?_
            refine XL_det .no (D_els (enc := encB3) (sz := 3) (i := i) (fun _ => rfl) rfl (by repeat first | with_reducible exact .here _ _ | with_reducible apply Out.there | with_reducible apply Out.app) hl tk_60 ho) rfl ?_
            refine XL_alloc .no zero_60 rfl (fun b1 => ?_)
            refine XL_efd .no (F_stw rfl rfl rfl (by repeat first | with_reducible exact .here _ _ | with_reducible apply Out.there | with_reducible apply Out.app) tk_60 rfl rfl) ?_
            refine XL_then ?_
            refine X_seqj (α := (Nat → Arr Int) × Rw × Arr (Int × Int) × Asrt B) (fun ⟨f2, r2, a2, K2⟩ => Bx f2 r2 ∧ (totR r2 : Int) ≤ room ∧ a2.l = flatR r2 ∧ Rd K2 a2.ad (a2.l.flatMap encO)) (fun ⟨f2, r2, a2, K2⟩ => [(7, .slice a2.oad a2.l.length a2.c), (0, .int .i64 room), (1, .slice l.oad l.l.length l.c), (5, .pointer (some ⟨bp, 0, none⟩)), (8, .int .i64 (i : Int)), (9, .pointer (some ⟨b1, 0, none⟩))]) (fun ⟨f2, r2, a2, K2⟩ => [blk bp (bxG room (setR r2) f2 (totR r2 : Int)) 119, many 32 (rowOf f2), K2, blk b1 (encB3 o) 60, K]) ?_ ?_
            · skip
              refine X_seq ?_
              refine X_region ?_
              refine XL_det .no (D_fld rfl fld_60_0 (o' := 0) rfl) rfl ?_
              refine XL_det .no (D_ldo rfl (by repeat first | with_reducible exact .here _ _ | with_reducible apply Out.there | with_reducible apply Out.app) tk_4 (by rfl)) rfl ?_
              refine XL_then ?_
              refine X_cond rfl (fun h5 => ?_) (fun h5 => ?_)
              · try simp only [decide_eq_true_eq, decide_eq_false_iff_not, Bool.not_eq_true', Bool.not_eq_false', beq_iff_eq, bne_iff_ne, beq_eq_false_iff_ne, bne_eq_false_iff_eq, Int.not_lt, Int.not_le, gt_iff_lt, ge_iff_le, ne_eq] at h5
                refine X_seq ?_
                refine X_region ?_
                refine XL_det .no (D_pure rfl) rfl ?_
                refine XL_call .no en_21 rfl (btake bp room f r hb hK) (by repeat first | with_reducible exact .nil _ | with_reducible exact .here _ _ | with_reducible exact Take.self _ | with_reducible apply Take.cons | with_reducible apply Out.there | with_reducible apply Take.skip | with_reducible exact Take.pre _ _ | with_reducible apply Out.app) rfl ?_
                rintro _ _ ⟨f1, rfl, rfl, hb1⟩
                simp only [List.cons_append, List.nil_append]
                refine XL_det .no (D_pure rfl) rfl ?_
                refine XL_det .no (D_pure (v := .agg #[.int .i64 (takeR r).2.1.1, .int .i64 (takeR r).2.1.2]) rfl) rfl ?_
                refine XL_det .no (D_pure (v := .int .i64 (takeR r).2.2) rfl) rfl ?_
                refine XL_alloc .no zero_53 rfl (fun b2 => ?_)
                refine XL_efd .no (F_stw rfl rfl rfl (by repeat first | with_reducible exact .here _ _ | with_reducible apply Out.there | with_reducible apply Out.app) tk_53 rfl rfl) ?_
                refine XL_det .no (D_pure rfl) rfl ?_
                refine XL_then ?_
                refine X_seq ?_
                refine X_seq ?_
                refine X_region ?_
                refine XL_det .no (D_pure rfl) rfl ?_
                refine XL_det .no (D_len rfl rfl slc_58) rfl ?_
                refine XL_det .no (D_pure rfl) rfl ?_
                refine XL_then ?_
                refine X_cond rfl (fun h6 => ?_) (fun h6 => ?_)
                · try simp only [decide_eq_true_eq, decide_eq_false_iff_not, Bool.not_eq_true', Bool.not_eq_false', beq_iff_eq, bne_iff_ne, beq_eq_false_iff_ne, bne_eq_false_iff_eq, Int.not_lt, Int.not_le, gt_iff_lt, ge_iff_le, ne_eq] at h6
                  have hl0 : flatR r = [] := by rw [← ha]; exact List.length_eq_zero_iff.1 (by omega)
                  have htk := law_take_no hl0
                  rw [show (takeR r).2.1 = ((0 : Int), (0 : Int)) by rw [htk], show (takeR r).2.2 = 270 by rw [htk]]
                  refine X_seq ?_
                  refine X_seq ?_
                  refine X_region ?_
                  refine XL_det .no (D_pure rfl) rfl ?_
                  refine XL_det .no (D_pure (v := .bool false) rfl) rfl ?_
                  refine XL_det .no (D_pure rfl) rfl ?_
                  refine XL_det (.yes 71 rfl rfl rfl) (D_ldso (vs := encO (0, 0)) rfl (by repeat first | with_reducible exact .here _ _ | with_reducible apply Out.there | with_reducible apply Out.app) tk_53 rfl (by rfl)) rfl ?_
                  refine XL_det (.yes 71 rfl rfl rfl) (D_zero zero_53 zk_53) rfl ?_
                  refine XL_det (.yes 71 rfl rfl rfl) (D_eqs (b := false) (xs := encO ((0, 0) : Int × Int)) (ys := encO ((0, 0) : Int × Int)) rfl rfl eqk_53 eqg_53 rfl rfl rfl (by show (!cellsEq _ _) = false; rw [o_same]; rfl)) rfl ?_
                  refine XL_det .no (D_pure (v := .bool false) rfl) rfl ?_
                  refine XL_then ?_
                  refine X_cond_f rfl rfl ?_
                  refine X_skip ?_
                  refine thenX_normal ?_
                  refine X_exit ?_
                  refine thenX_exit ?_
                  refine joinQ_exit ?_
                  refine inBlk_here ?_
                  refine thenX_normal ?_
                  refine X_region ?_
                  refine XL_det .no (D_pure rfl) rfl ?_
                  refine XL_det .no (D_add rfl rfl (by omega) (by omega)) rfl ?_
                  refine XL_det .no (D_pure rfl) rfl ?_
                  refine XL_nil ?_
                  refine loopQ_next (i + 1, f1, (takeR r).1, a, Kl) ?_ ?_ ?_ ?_
                  · (try dsimp only); exact ⟨by omega, hb1, take_tot hr, by rw [htk]; exact ha, hKl⟩
                  · (try dsimp only); omega
                  · refine ⟨?_, ?_, ?_, ?_, ?_, trivial⟩ <;> rfl
                  · (try dsimp only); exact ⟨_, (by repeat first | with_reducible exact .nil _ | with_reducible exact .here _ _ | with_reducible exact Take.self _ | with_reducible apply Take.cons | with_reducible apply Out.there | with_reducible apply Take.skip | with_reducible exact Take.pre _ _ | with_reducible apply Out.app)⟩
                · try simp only [decide_eq_true_eq, decide_eq_false_iff_not, Bool.not_eq_true', Bool.not_eq_false', beq_iff_eq, bne_iff_ne, beq_eq_false_iff_ne, bne_eq_false_iff_eq, Int.not_lt, Int.not_le, gt_iff_lt, ge_iff_le, ne_eq] at h6
                  obtain ⟨p, tl, hpt⟩ : ∃ p tl, flatR r = p :: tl := List.exists_cons_of_ne_nil (fun e => h6 (by rw [ha, e]; rfl))
                  obtain ⟨e1, e2, e3⟩ := law_take hpt
                  have hg0 : a.l[0]? = some p := by rw [ha, hpt]; rfl
                  have hc1 : 1 ≤ a.l.length := by rw [ha, hpt]; simp
                  rw [e1, e2]
                  refine X_skip ?_
                  refine thenX_normal ?_
                  refine X_seq ?_
                  refine X_seq ?_
                  refine X_draw [blk b2 (encO p) 53, Kl] mixed (by repeat first | with_reducible exact .nil _ | with_reducible exact .here _ _ | with_reducible exact Take.self _ | with_reducible apply Take.cons | with_reducible apply Out.there | with_reducible apply Take.skip | with_reducible exact Take.pre _ _ | with_reducible apply Out.app) ?_
                  refine XA_detp 0 rfl (by kernel_rfl) (by kernel_rfl) (by kernel_rfl) (fun _ _ _ _ h => h) .no (D_pureP rfl) rfl ?_
                  refine XA_detp 1 rfl (by kernel_rfl) (by kernel_rfl) (by kernel_rfl) (fun _ _ _ _ h => h) .no (D_pureP (v := .bool false) rfl) rfl ?_
                  refine XA_detp 2 rfl (by kernel_rfl) (by kernel_rfl) (by kernel_rfl) (fun _ _ _ _ h => h) .no (D_pureP rfl) rfl ?_
                  refine XA_det 3 rfl (by kernel_rfl) (by kernel_rfl) (by kernel_rfl) (by kernel_rfl) (fun _ _ _ _ h => h) (.yes 78 rfl rfl rfl) (D_ldso (vs := encO p) rfl (by repeat first | with_reducible exact .here _ _ | with_reducible apply Out.there | with_reducible apply Out.app) tk_53 rfl (by rfl)) rfl ?_
                  refine XA_detp 4 rfl (by kernel_rfl) (by kernel_rfl) (by kernel_rfl) (fun _ _ _ _ h => h) (.yes 78 rfl rfl rfl) (D_pureP rfl) rfl ?_
                  refine XA_detp 5 rfl (by kernel_rfl) (by kernel_rfl) (by kernel_rfl) (fun _ _ _ _ h => h) (.yes 78 rfl rfl rfl) (D_idxSoP (j := 0) rfl rfl slc_58 (a).nil0 (rfl : (0 : Int) = ((0 : Nat) : Int)) (List.getElem?_eq_some_iff.1 hg0).1 rfl) rfl ?_
                  refine XA_det 6 rfl (by kernel_rfl) (by kernel_rfl) (by kernel_rfl) (by kernel_rfl) (fun _ _ _ _ h => h) (.yes 78 rfl rfl rfl) (D_els (enc := encO) (sz := 2) (i := 0) (fun _ => rfl) rfl (by repeat first | with_reducible exact .here _ _ | with_reducible apply Out.there | with_reducible apply Out.app) hKl tk_53 hg0) rfl ?_
                  refine XA_det 7 rfl (by kernel_rfl) (by kernel_rfl) (by kernel_rfl) (by kernel_rfl) (fun _ _ _ _ h => h) (.yes 78 rfl rfl rfl) (D_eqs (b := false) (xs := encO p) (ys := encO p) rfl rfl eqk_53 eqg_53 rfl rfl rfl (by show (!cellsEq _ _) = false; rw [o_same]; rfl)) rfl ?_
                  refine XA_detp 8 rfl (by kernel_rfl) (by kernel_rfl) (by kernel_rfl) (fun _ _ _ _ h => h) .no (D_pureP (v := .bool false) rfl) rfl ?_
                  refine XA_done (by kernel_rfl) ?_
                  try simp only [List.cons_append, List.nil_append, List.append_nil]
                  refine thenX_normal ?_
                  refine X_cond_f rfl rfl ?_
                  refine X_skip ?_
                  refine thenX_normal ?_
                  refine X_region ?_
                  refine XL_det .no (D_pure rfl) rfl ?_
                  refine XL_det .no (D_slicea (a := a) (l := 1) (h := a.l.length) (m := a.c) rfl slc_58 (by exact ⟨_, rfl⟩) (by exact rfl) (by exact rfl) (by intro h; exact rfl) hc1 (Nat.le_refl _) a.cap (Nat.le_refl _)) rfl ?_
                  refine XL_det .no (D_pure rfl) rfl ?_
                  refine XL_nil ?_
                  refine joinQ_normal (f1, (takeR r).1, (a.cut 2 1 a.l.length a.c hc1 (Nat.le_refl _) a.cap), Kl) ?_ ?_ ?_
                  · exact ⟨hb1, take_tot hr, (cut_tailO (h1 := hc1) (h2 := Nat.le_refl _) (h3 := a.cap)).trans (by show a.l.tail = flatR (takeR r).1; rw [ha, hpt, e3]; rfl), Rd_cut (h1 := hc1) (h2 := Nat.le_refl _) (h3 := a.cap) (fun _ => rfl) hKl⟩
                  · refine ⟨?_, ?_, ?_, ?_, ?_, ?_, trivial⟩ <;> rfl
                  · exact ⟨_, (by repeat first | with_reducible exact .nil _ | with_reducible exact .here _ _ | with_reducible exact Take.self _ | with_reducible apply Take.cons | with_reducible apply Out.there | with_reducible apply Take.skip | with_reducible exact Take.pre _ _ | with_reducible apply Out.app)⟩
              · try simp only [decide_eq_true_eq, decide_eq_false_iff_not, Bool.not_eq_true', Bool.not_eq_false', beq_iff_eq, bne_iff_ne, beq_eq_false_iff_ne, bne_eq_false_iff_eq, Int.not_lt, Int.not_le, gt_iff_lt, ge_iff_le, ne_eq] at h5
                refine X_seq ?_
                refine X_region ?_
                refine XL_det .no (D_pure rfl) rfl ?_
                refine XL_det .no (D_fld rfl fld_60_1 (o' := 1) rfl) rfl ?_
                refine XL_det .no (D_ldso (vs := encO o.n) rfl (by repeat first | with_reducible exact .here _ _ | with_reducible apply Out.there | with_reducible apply Out.app) tk_53 rfl (by rfl)) rfl ?_
                refine XL_call .no en_20 rfl (bsend bp room f r hb ⟨hr, hm.2⟩ o.n.1 o.n.2 hK) (by repeat first | with_reducible exact .nil _ | with_reducible exact .here _ _ | with_reducible exact Take.self _ | with_reducible apply Take.cons | with_reducible apply Out.there | with_reducible apply Take.skip | with_reducible exact Take.pre _ _ | with_reducible apply Out.app) rfl ?_
                rintro _ _ ⟨f1, rfl, rfl, hb1⟩
                simp only [List.cons_append, List.nil_append]
                refine XL_det .no (D_pure rfl) rfl ?_
                refine XL_det .no (D_pure (v := .bool (sendR room r o.n.1 o.n.2).2.1) rfl) rfl ?_
                refine XL_det .no (D_pure (v := .int .i64 (sendR room r o.n.1 o.n.2).2.2) rfl) rfl ?_
                refine XL_det .no (D_pure rfl) rfl ?_
                refine XL_det .no (D_pure rfl) rfl ?_
                refine XL_then ?_
                refine X_seq ?_
                refine X_region ?_
                refine XL_det .no (D_pure rfl) rfl ?_
                refine XL_det .no (D_pure rfl) rfl ?_
                refine XL_then ?_
                refine X_seq ?_
                refine X_region ?_
                refine XL_det .no (D_pure rfl) rfl ?_
                refine XL_det .no (D_pure rfl) rfl ?_
                refine XL_det .no (D_fld rfl fld_60_1 (o' := 1) rfl) rfl ?_
                refine XL_det .no (D_ldso (vs := encO o.n) rfl (by repeat first | with_reducible exact .here _ _ | with_reducible apply Out.there | with_reducible apply Out.app) tk_53 rfl (by rfl)) rfl ?_
                refine XL_call .no en_23 rfl (lsend room hm.1 a hKl (by omega) o.n) (by repeat first | with_reducible exact .nil _ | with_reducible exact .here _ _ | with_reducible exact Take.self _ | with_reducible apply Take.cons | with_reducible apply Out.there | with_reducible apply Take.skip | with_reducible exact Take.pre _ _ | with_reducible apply Out.app) rfl ?_
                rintro _ _ ⟨x, Kx, ⟨hx, hKx⟩, rfl, rfl⟩
                simp only [List.cons_append, List.nil_append]
                rw [hs1, hs2]
                refine XL_det .no (D_pure rfl) rfl ?_
                refine XL_det .no (D_pure (v := .slice x.oad x.l.length x.c) rfl) rfl ?_
                refine XL_det .no (D_pure (v := .bool (sendR room r o.n.1 o.n.2).2.1) rfl) rfl ?_
                refine XL_det .no (D_pure (v := .int .i64 (sendR room r o.n.1 o.n.2).2.2) rfl) rfl ?_
                refine XL_det .no (D_pure rfl) rfl ?_
                refine XL_det .no (D_pure rfl) rfl ?_
                refine XL_det .no (D_pure rfl) rfl ?_
                refine XL_then ?_
                refine X_seq ?_
                refine X_region ?_
                refine XL_det .no (D_pure rfl) rfl ?_
                refine XL_det .no (D_pure rfl) rfl ?_
                refine XL_det .no (D_eqb (b := false) rfl rfl ub_4 (beqF (by rfl))) rfl ?_
                refine XL_det .no (D_pure rfl) rfl ?_
                refine XL_det (.yes 106 rfl rfl rfl) (D_pure rfl) rfl ?_
                refine XL_det (.yes 106 rfl rfl rfl) (D_pure rfl) rfl ?_
                refine XL_det (.yes 106 rfl rfl rfl) (D_pure (v := .bool false) (bfn (by rfl))) rfl ?_
                refine XL_det .no (D_pure (v := .bool false) rfl) rfl ?_
                refine XL_then ?_
                refine X_cond_f rfl rfl ?_
                refine X_skip ?_
                refine joinQ_normal (f1, (sendR room r o.n.1 o.n.2).1, x, Kx) ?_ ?_ ?_
                · exact ⟨hb1, send_tot hr, by rw [hx, ha, hls], hKx⟩
                · refine ⟨?_, ?_, ?_, ?_, ?_, ?_, trivial⟩ <;> rfl
                · exact ⟨_, (by repeat first | with_reducible exact .nil _ | with_reducible exact .here _ _ | with_reducible exact Take.self _ | with_reducible apply Take.cons | with_reducible apply Out.there | with_reducible apply Take.skip | with_reducible exact Take.pre _ _ | with_reducible apply Out.app)⟩
            · rintro ⟨f2, r2, a2, K2⟩ ⟨hb2, hr2, ha2, hK2⟩
              refine X_seq ?_
              refine X_draw [blk b1 (encB3 o) 60] mixed (by repeat first | with_reducible exact .nil _ | with_reducible exact .here _ _ | with_reducible exact Take.self _ | with_reducible apply Take.cons | with_reducible apply Out.there | with_reducible apply Take.skip | with_reducible exact Take.pre _ _ | with_reducible apply Out.app) ?_
              refine XA_detp 0 rfl (by kernel_rfl) (by kernel_rfl) (by kernel_rfl) (fun _ _ _ _ h => h) .no (D_pureP rfl) rfl ?_
              refine XA_detp 2 rfl (by kernel_rfl) (by kernel_rfl) (by kernel_rfl) (fun _ _ _ _ h => h) .no (D_pureP rfl) rfl ?_
              refine XA_detp 3 rfl (by kernel_rfl) (by kernel_rfl) (by kernel_rfl) (fun _ _ _ _ h => h) .no (D_fldP rfl fld_60_1 (o' := 1) rfl) rfl ?_
              refine XA_detp 4 rfl (by kernel_rfl) (by kernel_rfl) (by kernel_rfl) (fun _ _ _ _ h => h) .no (D_fldP rfl fld_53_0 (o' := 1) rfl) rfl ?_
              refine XA_det 5 rfl (by kernel_rfl) (by kernel_rfl) (by kernel_rfl) (by kernel_rfl) (fun _ _ _ _ h => h) .no (D_ldo rfl (by repeat first | with_reducible exact .here _ _ | with_reducible apply Out.there | with_reducible apply Out.app) tk_3 (by rfl)) rfl ?_
              refine XA_one 1 (by kernel_rfl) ?_
              refine XO_callc rfl .no en_24 rfl (by repeat first | with_reducible exact .nil _ | with_reducible apply App.cons) (lall bp room f2 r2 hb2 hK hD) (by repeat first | with_reducible exact .nil _ | with_reducible exact .here _ _ | with_reducible exact Take.self _ | with_reducible apply Take.cons | with_reducible apply Out.there | with_reducible apply Take.skip | with_reducible exact Take.pre _ _ | with_reducible apply Out.app) rfl ?_
              rintro _ _ ⟨g1, ⟨hg1, hg1o⟩, rfl, rfl⟩
              simp only [List.cons_append, List.nil_append]
              refine ⟨[row (.slice g1.oad g1.l.length g1.c) 53 2 g1.l.length (g1.l.flatMap encO), blk bp (bxG room (setR r2) f2 (totR r2 : Int)) 119, many 32 (rowOf f2), K2, K], _, _, (by repeat first | with_reducible exact .nil _ | with_reducible apply App.cons), (by repeat first | with_reducible exact .nil _ | with_reducible exact .here _ _ | with_reducible exact Take.self _ | with_reducible apply Take.cons | with_reducible apply Out.there | with_reducible apply Take.skip | with_reducible exact Take.pre _ _ | with_reducible apply Out.app), ?_⟩
              refine XA_one 6 (by kernel_rfl) ?_
              refine XO_callc rfl .no en_25 rfl (by repeat first | with_reducible exact .nil _ | with_reducible apply App.cons) (lof bp room f2 r2 hb2 o.n.1) (by repeat first | with_reducible exact .nil _ | with_reducible exact .here _ _ | with_reducible exact Take.self _ | with_reducible apply Take.cons | with_reducible apply Out.there | with_reducible apply Take.skip | with_reducible exact Take.pre _ _ | with_reducible apply Out.app) rfl ?_
              rintro _ _ ⟨g2, ⟨hg2, hg2o⟩, rfl, rfl⟩
              simp only [List.cons_append, List.nil_append]
              refine ⟨[row (.slice g2.oad g2.l.length g2.c) 3 1 g2.l.length (g2.l.flatMap encI), row (.slice g1.oad g1.l.length g1.c) 53 2 g1.l.length (g1.l.flatMap encO), blk bp (bxG room (setR r2) f2 (totR r2 : Int)) 119, many 32 (rowOf f2), K2, K], _, _, (by repeat first | with_reducible exact .nil _ | with_reducible apply App.cons), (by repeat first | with_reducible exact .nil _ | with_reducible exact .here _ _ | with_reducible exact Take.self _ | with_reducible apply Take.cons | with_reducible apply Out.there | with_reducible apply Take.skip | with_reducible exact Take.pre _ _ | with_reducible apply Out.app), ?_⟩
              refine XA_detp 7 rfl (by kernel_rfl) (by kernel_rfl) (by kernel_rfl) (fun _ _ _ _ h => h) .no (D_pureP rfl) rfl ?_
              refine XA_detp 8 rfl (by kernel_rfl) (by kernel_rfl) (by kernel_rfl) (fun _ _ _ _ h => h) .no (D_pureP rfl) rfl ?_
              refine XA_done (by kernel_rfl) ?_
              try simp only [List.cons_append, List.nil_append, List.append_nil]
              refine thenX_normal ?_
              refine X_seq ?_
              refine X_region ?_
              refine XL_det .no (D_pure rfl) rfl ?_
              refine XL_then ?_
              refine X_seq ?_
              refine X_seq ?_
              refine X_region ?_
              refine XL_det .no (D_pure rfl) rfl ?_
              refine XL_then ?_
              refine X_block ?_
              refine X_loop (α := Nat) (fun j => j ≤ a2.l.length) (fun j => [(19, .int .i64 (j : Int)), (18, .int .i64 ((cntD (flatR r2) o.n.1 j) : Int)), (0, .int .i64 room), (1, .slice l.oad l.l.length l.c), (5, .pointer (some ⟨bp, 0, none⟩)), (7, .slice a2.oad a2.l.length a2.c), (8, .int .i64 (i : Int)), (9, .pointer (some ⟨b1, 0, none⟩)), (16, .slice g1.oad g1.l.length g1.c), (17, .slice g2.oad g2.l.length g2.c)]) (fun j => [blk bp (bxG room (setR r2) f2 (totR r2 : Int)) 119, many 32 (rowOf f2), row (.slice g1.oad g1.l.length g1.c) 53 2 g1.l.length (g1.l.flatMap encO), row (.slice g2.oad g2.l.length g2.c) 3 1 g2.l.length (g2.l.flatMap encI), K2, blk b1 (encB3 o) 60, K]) (fun j => a2.l.length - j) 0 ?_ (by refine ⟨?_, ?_, ?_, ?_, ?_, ?_, ?_, ?_, ?_, ?_, trivial⟩ <;> rfl) (by repeat first | with_reducible exact .nil _ | with_reducible exact .here _ _ | with_reducible exact Take.self _ | with_reducible apply Take.cons | with_reducible apply Out.there | with_reducible apply Take.skip | with_reducible exact Take.pre _ _ | with_reducible apply Out.app) ?_
              · exact Nat.zero_le _
              · intro j hj
                have hfl2 := flat_le hr2
                have hcn := cntD_le (flatR r2) o.n.1 j
                rw [← ha2] at hfl2
                have hla : (flatR r2).length = a2.l.length := by rw [ha2]
                refine X_seq ?_
                refine X_seq ?_
                refine X_region ?_
                refine XL_det .no (D_pure rfl) rfl ?_
                refine XL_det .no (D_pure rfl) rfl ?_
                refine XL_det .no (D_len rfl rfl slc_58) rfl ?_
                refine XL_det .no (D_pure rfl) rfl ?_
                refine XL_then ?_
                refine X_cond rfl (fun h7 => ?_) (fun h7 => ?_)
                · try simp only [decide_eq_true_eq, decide_eq_false_iff_not, Bool.not_eq_true', Bool.not_eq_false', beq_iff_eq, bne_iff_ne, beq_eq_false_iff_ne, bne_eq_false_iff_eq, Int.not_lt, Int.not_le, gt_iff_lt, ge_iff_le, ne_eq] at h7
                  obtain ⟨p, hq2⟩ : ∃ p, a2.l[j]? = some p := ⟨_, List.getElem?_eq_getElem (by omega)⟩
                  have hq : (flatR r2)[j]? = some p := by rw [← ha2]; exact hq2
                  have hq1 : g1.l[j]? = some p := by rw [hg1]; exact hq
                  refine X_skip ?_
                  refine thenX_normal ?_
                  refine X_seq ?_
                  refine X_block ?_
                  refine X_seq ?_
                  refine X_seq ?_
                  refine X_draw [row (.slice g1.oad g1.l.length g1.c) 53 2 g1.l.length (g1.l.flatMap encO), K2] mixed (by repeat first | with_reducible exact .nil _ | with_reducible exact .here _ _ | with_reducible exact Take.self _ | with_reducible apply Take.cons | with_reducible apply Out.there | with_reducible apply Take.skip | with_reducible exact Take.pre _ _ | with_reducible apply Out.app) ?_
                  refine XA_detp 0 rfl (by kernel_rfl) (by kernel_rfl) (by kernel_rfl) (fun _ _ _ _ h => h) .no (D_pureP rfl) rfl ?_
                  refine XA_detp 1 rfl (by kernel_rfl) (by kernel_rfl) (by kernel_rfl) (fun _ _ _ _ h => h) .no (D_pureP rfl) rfl ?_
                  refine XA_detp 2 rfl (by kernel_rfl) (by kernel_rfl) (by kernel_rfl) (fun _ _ _ _ h => h) .no (D_lenP rfl rfl slc_58) rfl ?_
                  refine XA_detp 3 rfl (by kernel_rfl) (by kernel_rfl) (by kernel_rfl) (fun _ _ _ _ h => h) .no (D_pureP (v := .bool false) (bfd (by rw [hg1, ← ha2]; omega))) rfl ?_
                  refine XA_detp 4 rfl (by kernel_rfl) (by kernel_rfl) (by kernel_rfl) (fun _ _ _ _ h => h) .no (D_pureP rfl) rfl ?_
                  refine XA_detp 5 rfl (by kernel_rfl) (by kernel_rfl) (by kernel_rfl) (fun _ _ _ _ h => h) (.yes 128 rfl rfl rfl) (D_pureP rfl) rfl ?_
                  refine XA_detp 6 rfl (by kernel_rfl) (by kernel_rfl) (by kernel_rfl) (fun _ _ _ _ h => h) (.yes 128 rfl rfl rfl) (D_pureP rfl) rfl ?_
                  refine XA_detp 7 rfl (by kernel_rfl) (by kernel_rfl) (by kernel_rfl) (fun _ _ _ _ h => h) (.yes 128 rfl rfl rfl) (D_idxSoP rfl rfl slc_58 (g1).nil0 rfl (List.getElem?_eq_some_iff.1 hq1).1 rfl) rfl ?_
                  refine XA_det 8 rfl (by kernel_rfl) (by kernel_rfl) (by kernel_rfl) (by kernel_rfl) (fun _ _ _ _ h => h) (.yes 128 rfl rfl rfl) (D_els (enc := encO) (sz := 2) (i := j) (fun _ => rfl) rfl (by repeat first | with_reducible exact .here _ _ | with_reducible apply Out.there | with_reducible apply Out.app) (Rd_own hg1o rfl) tk_53 hq1) rfl ?_
                  refine XA_detp 9 rfl (by kernel_rfl) (by kernel_rfl) (by kernel_rfl) (fun _ _ _ _ h => h) (.yes 128 rfl rfl rfl) (D_pureP rfl) rfl ?_
                  refine XA_detp 10 rfl (by kernel_rfl) (by kernel_rfl) (by kernel_rfl) (fun _ _ _ _ h => h) (.yes 128 rfl rfl rfl) (D_pureP rfl) rfl ?_
                  refine XA_detp 11 rfl (by kernel_rfl) (by kernel_rfl) (by kernel_rfl) (fun _ _ _ _ h => h) (.yes 128 rfl rfl rfl) (D_idxSoP rfl rfl slc_58 (a2).nil0 rfl (List.getElem?_eq_some_iff.1 hq2).1 rfl) rfl ?_
                  refine XA_det 12 rfl (by kernel_rfl) (by kernel_rfl) (by kernel_rfl) (by kernel_rfl) (fun _ _ _ _ h => h) (.yes 128 rfl rfl rfl) (D_els (enc := encO) (sz := 2) (i := j) (fun _ => rfl) rfl (by repeat first | with_reducible exact .here _ _ | with_reducible apply Out.there | with_reducible apply Out.app) hK2 tk_53 hq2) rfl ?_
                  refine XA_det 13 rfl (by kernel_rfl) (by kernel_rfl) (by kernel_rfl) (by kernel_rfl) (fun _ _ _ _ h => h) (.yes 128 rfl rfl rfl) (D_eqs (b := false) (xs := encO p) (ys := encO p) rfl rfl eqk_53 eqg_53 rfl rfl rfl (by show (!cellsEq _ _) = false; rw [o_same]; rfl)) rfl ?_
                  refine XA_detp 14 rfl (by kernel_rfl) (by kernel_rfl) (by kernel_rfl) (fun _ _ _ _ h => h) .no (D_pureP (v := .bool false) rfl) rfl ?_
                  refine XA_done (by kernel_rfl) ?_
                  try simp only [List.cons_append, List.nil_append, List.append_nil]
                  refine thenX_normal ?_
                  refine X_cond_f rfl rfl ?_
                  refine X_skip ?_
                  refine thenX_normal ?_
                  refine X_seq ?_
                  refine X_draw [blk b1 (encB3 o) 60, K2] mixed (by repeat first | with_reducible exact .nil _ | with_reducible exact .here _ _ | with_reducible exact Take.self _ | with_reducible apply Take.cons | with_reducible apply Out.there | with_reducible apply Take.skip | with_reducible exact Take.pre _ _ | with_reducible apply Out.app) ?_
                  refine XA_detp 0 rfl (by kernel_rfl) (by kernel_rfl) (by kernel_rfl) (fun _ _ _ _ h => h) .no (D_pureP rfl) rfl ?_
                  refine XA_detp 1 rfl (by kernel_rfl) (by kernel_rfl) (by kernel_rfl) (fun _ _ _ _ h => h) .no (D_pureP rfl) rfl ?_
                  refine XA_detp 2 rfl (by kernel_rfl) (by kernel_rfl) (by kernel_rfl) (fun _ _ _ _ h => h) .no (D_idxSoP rfl rfl slc_58 (a2).nil0 rfl (List.getElem?_eq_some_iff.1 hq2).1 rfl) rfl ?_
                  refine XA_detp 3 rfl (by kernel_rfl) (by kernel_rfl) (by kernel_rfl) (fun _ _ _ _ h => h) .no (D_fldAP rfl fld_53_0 rfl) rfl ?_
                  refine XA_det 4 rfl (by kernel_rfl) (by kernel_rfl) (by kernel_rfl) (by kernel_rfl) (fun _ _ _ _ h => h) .no (D_ela (enc := encO) (sz := 2) (i := j) (k := 0) (fun _ => rfl) rfl (by repeat first | with_reducible exact .here _ _ | with_reducible apply Out.there | with_reducible apply Out.app) hK2 tk_3 hq2 rfl) rfl ?_
                  refine XA_detp 5 rfl (by kernel_rfl) (by kernel_rfl) (by kernel_rfl) (fun _ _ _ _ h => h) .no (D_fldP rfl fld_60_1 (o' := 1) rfl) rfl ?_
                  refine XA_detp 6 rfl (by kernel_rfl) (by kernel_rfl) (by kernel_rfl) (fun _ _ _ _ h => h) .no (D_fldP rfl fld_53_0 (o' := 1) rfl) rfl ?_
                  refine XA_det 7 rfl (by kernel_rfl) (by kernel_rfl) (by kernel_rfl) (by kernel_rfl) (fun _ _ _ _ h => h) .no (D_ldo rfl (by repeat first | with_reducible exact .here _ _ | with_reducible apply Out.there | with_reducible apply Out.app) tk_3 (by rfl)) rfl ?_
                  refine XA_detp 8 rfl (by kernel_rfl) (by kernel_rfl) (by kernel_rfl) (fun _ _ _ _ h => h) .no (D_pureP rfl) rfl ?_
                  refine XA_done (by kernel_rfl) ?_
                  try simp only [List.cons_append, List.nil_append, List.append_nil]
                  refine thenX_normal ?_
                  refine X_cond rfl (fun h8 => ?_) (fun h8 => ?_)
                  · try simp only [decide_eq_true_eq, decide_eq_false_iff_not, Bool.not_eq_true', Bool.not_eq_false', beq_iff_eq, bne_iff_ne, beq_eq_false_iff_ne, bne_eq_false_iff_eq, Int.not_lt, Int.not_le, gt_iff_lt, ge_iff_le, ne_eq] at h8
                    have hNN : p.1 = o.n.1 := h8
                    have hq3 : g2.l[(cntD (flatR r2) o.n.1 j)]? = some p.2 := by rw [hg2]; exact cntD_get hq hNN
                    refine X_seq ?_
                    refine X_seq ?_
                    refine X_draw [row (.slice g2.oad g2.l.length g2.c) 3 1 g2.l.length (g2.l.flatMap encI), K2] mixed (by repeat first | with_reducible exact .nil _ | with_reducible exact .here _ _ | with_reducible exact Take.self _ | with_reducible apply Take.cons | with_reducible apply Out.there | with_reducible apply Take.skip | with_reducible exact Take.pre _ _ | with_reducible apply Out.app) ?_
                    refine XA_detp 0 rfl (by kernel_rfl) (by kernel_rfl) (by kernel_rfl) (fun _ _ _ _ h => h) .no (D_pureP rfl) rfl ?_
                    refine XA_detp 1 rfl (by kernel_rfl) (by kernel_rfl) (by kernel_rfl) (fun _ _ _ _ h => h) .no (D_pureP rfl) rfl ?_
                    refine XA_detp 2 rfl (by kernel_rfl) (by kernel_rfl) (by kernel_rfl) (fun _ _ _ _ h => h) .no (D_lenP rfl rfl slc_41) rfl ?_
                    refine XA_detp 3 rfl (by kernel_rfl) (by kernel_rfl) (by kernel_rfl) (fun _ _ _ _ h => h) .no (D_pureP (v := .bool false) (bfd (by have := (List.getElem?_eq_some_iff.1 hq3).1; omega))) rfl ?_
                    refine XA_detp 4 rfl (by kernel_rfl) (by kernel_rfl) (by kernel_rfl) (fun _ _ _ _ h => h) .no (D_pureP rfl) rfl ?_
                    refine XA_detp 5 rfl (by kernel_rfl) (by kernel_rfl) (by kernel_rfl) (fun _ _ _ _ h => h) (.yes 152 rfl rfl rfl) (D_pureP rfl) rfl ?_
                    refine XA_detp 6 rfl (by kernel_rfl) (by kernel_rfl) (by kernel_rfl) (fun _ _ _ _ h => h) (.yes 152 rfl rfl rfl) (D_pureP rfl) rfl ?_
                    refine XA_detp 7 rfl (by kernel_rfl) (by kernel_rfl) (by kernel_rfl) (fun _ _ _ _ h => h) (.yes 152 rfl rfl rfl) (D_idxSoP (j := (cntD (flatR r2) o.n.1 j)) rfl rfl slc_41 (g2).nil0 rfl (List.getElem?_eq_some_iff.1 hq3).1 rfl) rfl ?_
                    refine XA_det 8 rfl (by kernel_rfl) (by kernel_rfl) (by kernel_rfl) (by kernel_rfl) (fun _ _ _ _ h => h) (.yes 152 rfl rfl rfl) (D_ela (enc := encI) (sz := 1) (i := (cntD (flatR r2) o.n.1 j)) (k := 0) (fun _ => rfl) rfl (by repeat first | with_reducible exact .here _ _ | with_reducible apply Out.there | with_reducible apply Out.app) (Rd_own hg2o rfl) tk_3 hq3 rfl) rfl ?_
                    refine XA_detp 9 rfl (by kernel_rfl) (by kernel_rfl) (by kernel_rfl) (fun _ _ _ _ h => h) (.yes 152 rfl rfl rfl) (D_pureP rfl) rfl ?_
                    refine XA_detp 10 rfl (by kernel_rfl) (by kernel_rfl) (by kernel_rfl) (fun _ _ _ _ h => h) (.yes 152 rfl rfl rfl) (D_pureP rfl) rfl ?_
                    refine XA_detp 11 rfl (by kernel_rfl) (by kernel_rfl) (by kernel_rfl) (fun _ _ _ _ h => h) (.yes 152 rfl rfl rfl) (D_idxSoP rfl rfl slc_58 (a2).nil0 rfl (List.getElem?_eq_some_iff.1 hq2).1 rfl) rfl ?_
                    refine XA_detp 12 rfl (by kernel_rfl) (by kernel_rfl) (by kernel_rfl) (fun _ _ _ _ h => h) (.yes 152 rfl rfl rfl) (D_fldAP rfl fld_53_1 rfl) rfl ?_
                    refine XA_det 13 rfl (by kernel_rfl) (by kernel_rfl) (by kernel_rfl) (by kernel_rfl) (fun _ _ _ _ h => h) (.yes 152 rfl rfl rfl) (D_ela (enc := encO) (sz := 2) (i := j) (k := 1) (fun _ => rfl) rfl (by repeat first | with_reducible exact .here _ _ | with_reducible apply Out.there | with_reducible apply Out.app) hK2 tk_3 hq2 rfl) rfl ?_
                    refine XA_detp 14 rfl (by kernel_rfl) (by kernel_rfl) (by kernel_rfl) (fun _ _ _ _ h => h) (.yes 152 rfl rfl rfl) (D_pureP (v := .bool false) (bfn (by rfl))) rfl ?_
                    refine XA_detp 15 rfl (by kernel_rfl) (by kernel_rfl) (by kernel_rfl) (fun _ _ _ _ h => h) .no (D_pureP (v := .bool false) rfl) rfl ?_
                    refine XA_done (by kernel_rfl) ?_
                    try simp only [List.cons_append, List.nil_append, List.append_nil]
                    refine thenX_normal ?_
                    refine X_cond_f rfl rfl ?_
                    refine X_skip ?_
                    refine thenX_normal ?_
                    refine X_region ?_
                    refine XL_det .no (D_pure rfl) rfl ?_
                    refine XL_det .no (D_add rfl rfl (by omega) (by omega)) rfl ?_
                    refine XL_det .no (D_pure rfl) rfl ?_
                    refine XL_nil ?_
                    refine inBlk_normal ?_
                    refine thenX_normal ?_
                    refine X_region ?_
                    refine XL_det .no (D_pure rfl) rfl ?_
                    refine XL_det .no (D_add rfl rfl (by omega) (by omega)) rfl ?_
                    refine XL_det .no (D_pure rfl) rfl ?_
                    refine XL_nil ?_
                    refine loopQ_next (j + 1) ?_ ?_ ?_ ?_
                    · omega
                    · omega
                    · rw [show cntD (flatR r2) o.n.1 (j + 1) = (cntD (flatR r2) o.n.1 j) + 1 by rw [cntD_s hq, if_pos hNN]]; refine ⟨?_, ?_, ?_, ?_, ?_, ?_, ?_, ?_, ?_, ?_, trivial⟩ <;> rfl
                    · exact ⟨_, (by repeat first | with_reducible exact .nil _ | with_reducible exact .here _ _ | with_reducible exact Take.self _ | with_reducible apply Take.cons | with_reducible apply Out.there | with_reducible apply Take.skip | with_reducible exact Take.pre _ _ | with_reducible apply Out.app)⟩
                  · try simp only [decide_eq_true_eq, decide_eq_false_iff_not, Bool.not_eq_true', Bool.not_eq_false', beq_iff_eq, bne_iff_ne, beq_eq_false_iff_ne, bne_eq_false_iff_eq, Int.not_lt, Int.not_le, gt_iff_lt, ge_iff_le, ne_eq] at h8
                    have hNN : ¬ p.1 = o.n.1 := h8
                    refine X_skip ?_
                    refine inBlk_normal ?_
                    refine thenX_normal ?_
                    refine X_region ?_
                    refine XL_det .no (D_pure rfl) rfl ?_
                    refine XL_det .no (D_add rfl rfl (by omega) (by omega)) rfl ?_
                    refine XL_det .no (D_pure rfl) rfl ?_
                    refine XL_nil ?_
                    refine loopQ_next (j + 1) ?_ ?_ ?_ ?_
                    · omega
                    · omega
                    · rw [show cntD (flatR r2) o.n.1 (j + 1) = (cntD (flatR r2) o.n.1 j) by rw [cntD_s hq, if_neg hNN]; rfl]; refine ⟨?_, ?_, ?_, ?_, ?_, ?_, ?_, ?_, ?_, ?_, trivial⟩ <;> rfl
                    · exact ⟨_, (by repeat first | with_reducible exact .nil _ | with_reducible exact .here _ _ | with_reducible exact Take.self _ | with_reducible apply Take.cons | with_reducible apply Out.there | with_reducible apply Take.skip | with_reducible exact Take.pre _ _ | with_reducible apply Out.app)⟩
                · try simp only [decide_eq_true_eq, decide_eq_false_iff_not, Bool.not_eq_true', Bool.not_eq_false', beq_iff_eq, bne_iff_ne, beq_eq_false_iff_ne, bne_eq_false_iff_eq, Int.not_lt, Int.not_le, gt_iff_lt, ge_iff_le, ne_eq] at h7
                  have hend : (cntD (flatR r2) o.n.1 j) = (ofR r2 o.n.1).length := by rw [show j = (flatR r2).length by omega]; exact cntD_end
                  refine X_exit ?_
                  refine thenX_exit ?_
                  refine loopQ_exit ?_
                  refine inBlk_here ?_
                  refine thenX_normal ?_
                  refine X_seq ?_
                  refine X_region ?_
                  refine XL_det .no (D_pure rfl) rfl ?_
                  refine XL_det .no (D_len rfl rfl slc_58) rfl ?_
                  refine XL_det .no (D_pure rfl) rfl ?_
                  refine XL_det .no (D_len rfl rfl slc_58) rfl ?_
                  refine XL_det .no (D_pure (v := .bool false) (bfn (by rw [hg1, ha2]))) rfl ?_
                  refine XL_det .no (D_pure rfl) rfl ?_
                  refine XL_det (.yes 171 rfl rfl rfl) (D_pure rfl) rfl ?_
                  refine XL_det (.yes 171 rfl rfl rfl) (D_pure rfl) rfl ?_
                  refine XL_det (.yes 171 rfl rfl rfl) (D_len rfl rfl slc_41) rfl ?_
                  refine XL_det (.yes 171 rfl rfl rfl) (D_pure (v := .bool false) (bfn (by rw [hg2, hend]))) rfl ?_
                  refine XL_det .no (D_pure rfl) rfl ?_
                  refine XL_det .no (D_pure rfl) rfl ?_
                  refine XL_det (.yes 177 rfl rfl rfl) (D_pure rfl) rfl ?_
                  refine XL_callk (.yes 177 rfl rfl rfl) en_26 rfl (blen bp room f2 r2) (by repeat first | with_reducible exact .nil _ | with_reducible exact .here _ _ | with_reducible exact Take.self _ | with_reducible apply Take.cons | with_reducible apply Out.there | with_reducible apply Take.skip | with_reducible exact Take.pre _ _ | with_reducible apply Out.app) rfl ?_
                  refine XL_det (.yes 177 rfl rfl rfl) (D_pure rfl) rfl ?_
                  refine XL_det (.yes 177 rfl rfl rfl) (D_len rfl rfl slc_58) rfl ?_
                  refine XL_det (.yes 177 rfl rfl rfl) (D_pure (v := .bool false) (bfn (by rw [ha2, flat_len']))) rfl ?_
                  refine XL_det .no (D_pure (v := .bool false) rfl) rfl ?_
                  refine XL_then ?_
                  refine X_cond_f rfl rfl ?_
                  refine X_skip ?_
                  refine inBlk_normal ?_
                  refine thenX_normal ?_
                  refine X_region ?_
                  refine XL_det .no (D_pure rfl) rfl ?_
                  refine XL_det .no (D_add rfl rfl (by omega) (by omega)) rfl ?_
                  refine XL_det .no (D_pure rfl) rfl ?_
                  refine XL_nil ?_
                  refine loopQ_next (i + 1, f2, r2, a2, K2) ?_ ?_ ?_ ?_
                  · (try dsimp only); exact ⟨by omega, hb2, hr2, ha2, hK2⟩
                  · (try dsimp only); omega
                  · refine ⟨?_, ?_, ?_, ?_, ?_, trivial⟩ <;> rfl
                  · (try dsimp only); exact ⟨_, (by repeat first | with_reducible exact .nil _ | with_reducible exact .here _ _ | with_reducible exact Take.self _ | with_reducible apply Take.cons | with_reducible apply Out.there | with_reducible apply Take.skip | with_reducible exact Take.pre _ _ | with_reducible apply Out.app)⟩
          · try simp only [decide_eq_true_eq, decide_eq_false_iff_not, Bool.not_eq_true', Bool.not_eq_false', beq_iff_eq, bne_iff_ne, beq_eq_false_iff_ne, bne_eq_false_iff_eq, Int.not_lt, Int.not_le, gt_iff_lt, ge_iff_le, ne_eq] at h4
            refine X_exit ?_
            refine thenX_exit ?_
            refine loopQ_exit ?_
            refine inBlk_here ?_
            refine thenX_normal ?_
            refine X_seq ?_
            refine X_region ?_
            refine XL_callk .no en_22 rfl (alive51 hK) (by repeat first | with_reducible exact .nil _ | with_reducible exact .here _ _ | with_reducible exact Take.self _ | with_reducible apply Take.cons | with_reducible apply Out.there | with_reducible apply Take.skip | with_reducible exact Take.pre _ _ | with_reducible apply Out.app) rfl ?_
            refine XL_det .no (D_pure rfl) rfl ?_
            refine XL_then ?_
            refine X_ret ?_
            refine ret_ok (.nil _) (res_tmp rfl rfl) ?_
            exact ⟨_, ⟨rfl, rfl⟩, _, (by repeat first | with_reducible exact .nil _ | with_reducible exact .here _ _ | with_reducible exact Take.self _ | with_reducible apply Take.cons | with_reducible apply Out.there | with_reducible apply Take.skip | with_reducible exact Take.pre _ _ | with_reducible apply Out.app)⟩


theorem mboxPlays (l : Arr OpB) (hl : Rd K l.ad (l.l.flatMap encB3)) (room : Int) (hK : Rd K ⟨0, 0, none⟩ (tab32.map fun m => .int .u8 m)) (hD : Dup K) : Ctr Tryd.prog B 6 [.int .i64 room, .slice l.oad l.l.length l.c] [K] (fun v S => v = .bool true ∧ S = [K]) := by
  by_cases h : 1 ≤ room ∧ room ≤ 65536
  · exact mboxPlays1 l hl room h hK hD
  · exact mboxPlays0 l hl room h hK

end Go.Proofs.YtdimcgedcndndaaDoor
end

section
namespace Go.Proofs.YtdimcgedcndndaaDoor
open Go Go.Sl
set_option linter.unusedVariables false
set_option linter.unusedSimpArgs false
set_option maxRecDepth 4000
variable {B : Nat} {K : Asrt B}


def ltP (p q : Int × Int) : Prop := p.1 < q.1 ∨ (p.1 = q.1 ∧ p.2 < q.2)
structure Ordd (l : List Int) (L : List (Int × Int)) : Prop where
  pw : L.Pairwise ltP
  mem : ∀ p ∈ L, 0 ≤ p.2 ∧ l[p.2.toNat]? = some p.1
theorem ord_nil (l : List Int) : Ordd l (flatR zR) := by rw [flat_zero]; exact ⟨.nil, by simp⟩
theorem ord_put {l : List Int} {r : Rw} {d i : Nat} (hd : d < 32) (h : Ordd l (flatR r)) (hb : ∀ p ∈ flatR r, p.2 < (i : Int)) (hg : l[i]? = some (d : Int)) : Ordd l (flatR (upd r d (r d ++ [(i : Int)]))) ∧ ∀ p ∈ flatR (upd r d (r d ++ [(i : Int)])), p.2 < ((i + 1 : Nat) : Int) := by
  obtain ⟨C, h1, h2, h3⟩ := flat_split r hd
  have e : flatR (upd r d (r d ++ [(i : Int)])) = (flatN r d ++ rw1 d (r d)) ++ (((d : Int), (i : Int)) :: C) := by rw [h3, rw1, List.map_append]; simp
  have hm : ∀ p ∈ flatR (upd r d (r d ++ [(i : Int)])), p ∈ flatR r ∨ p = ((d : Int), (i : Int)) := fun p hp => by
    rw [e] at hp; rw [h1]
    rcases List.mem_append.1 hp with hp | hp
    · exact .inl (List.mem_append_left _ hp)
    · rcases List.mem_cons.1 hp with hp | hp
      · exact .inr hp
      · exact .inl (List.mem_append_right _ hp)
  have hpw := h.pw
  rw [h1] at hpw
  obtain ⟨p1, p2, p3⟩ := List.pairwise_append.1 hpw
  refine ⟨⟨?_, fun p hp => ?_⟩, fun p hp => ?_⟩
  · rw [e]
    refine List.pairwise_append.2 ⟨p1, List.pairwise_cons.2 ⟨fun c hc => .inl ?_, p2⟩, fun a ha b hb' => ?_⟩
    · obtain ⟨j, g, _⟩ := h2 c hc; show (d : Int) < c.1; omega
    · rcases List.mem_cons.1 hb' with rfl | hb'
      · have hlt := hb a (by rw [h1]; exact List.mem_append_left _ ha)
        rcases List.mem_append.1 ha with ha | ha
        · obtain ⟨j, g1, g2, _⟩ := flatN_lt r d a ha; exact .inl (show a.1 < (d : Int) by omega)
        · obtain ⟨w, _, rfl⟩ := List.mem_map.1 ha; exact .inr ⟨rfl, hlt⟩
      · exact p3 a ha b hb'
  · rcases hm p hp with hp | rfl
    · exact h.mem p hp
    · exact ⟨by show (0 : Int) ≤ (i : Int); omega, by show l[((i : Int)).toNat]? = _; rw [Int.toNat_natCast]; exact hg⟩
  · rcases hm p hp with hp | rfl
    · have := hb p hp; omega
    · show (i : Int) < _; omega
theorem send_free {room : Int} {r : Rw} {x w : Int} (h : (totR r : Int) < room) : ((sendR room r x w).2.2 = 0 ∧ ∃ d : Nat, x = (d : Int) ∧ d < 32 ∧ (sendR room r x w).1 = upd r d (r d ++ [w])) ∨ ((sendR room r x w).2.2 = 104 ∧ (sendR room r x w).1 = r) := by
  by_cases hd : 0 ≤ x ∧ x < 32
  · obtain ⟨d, rfl⟩ := Int.eq_ofNat_of_zero_le hd.1
    have e := send_go (w := w) (show d < 32 by omega) (r := r) (room := room) (.inr ⟨by omega, rfl⟩)
    exact .inl ⟨by rw [e], d, rfl, by omega, by rw [e]⟩
  · exact .inr ⟨by rw [send_bad hd], by rw [send_bad hd]⟩
theorem ord_first {l : List Int} {r : Rw} (h : Ordd l (flatR r)) : ∀ p ∈ flatR r, ltP (-1, 0) p := fun p hp => by
  rw [flat_N] at hp
  obtain ⟨j, g, _⟩ := flatN_lt r 32 p hp
  exact .inl (show (-1 : Int) < p.1 by omega)
theorem ord_tail {l : List Int} {L : List (Int × Int)} {p : Int × Int} (h : Ordd l (p :: L)) : Ordd l L ∧ ∀ q ∈ L, ltP p q := ⟨⟨(List.pairwise_cons.1 h.pw).2, fun q hq => h.mem q (List.mem_cons_of_mem _ hq)⟩, (List.pairwise_cons.1 h.pw).1⟩

theorem mboxOrder (l : Arr Int) (hl : Rd K l.ad (l.l.flatMap encI)) (hK : Rd K ⟨0, 0, none⟩ (tab32.map fun m => .int .u8 m)) : Ctr Tryd.prog B 5 [.slice l.oad l.l.length l.c] [K] (fun v S => v = .bool true ∧ S = [K]) := by
  refine Ctr_of_X (N := 111) Tryd.func5 rfl (by simp) rfl ?_
  intro w0 D0
  refine X_seq ?_
  refine X_region ?_
  refine XL_det .no (D_pure rfl) rfl ?_
  refine XL_then ?_
  refine X_seq ?_
  refine X_seq ?_
  refine X_region ?_
  refine XL_det .no (D_pure rfl) rfl ?_
  refine XL_det .no (D_len rfl rfl slc_41) rfl ?_
  refine XL_det .no (D_pure rfl) rfl ?_
  refine XL_then ?_
  refine X_cond rfl (fun h1 => ?_) (fun h1 => ?_)
  · try simp only [decide_eq_true_eq, decide_eq_false_iff_not, Bool.not_eq_true', Bool.not_eq_false', beq_iff_eq, bne_iff_ne, beq_eq_false_iff_ne, bne_eq_false_iff_eq, Int.not_lt, Int.not_le, gt_iff_lt, ge_iff_le, ne_eq] at h1
    refine X_seq ?_
    refine X_region ?_
    refine XL_det .no (D_pure rfl) rfl ?_
    refine XL_then ?_
    refine X_ret ?_
    refine thenX_ret ?_
    refine ret_ok (.nil _) (res_tmp rfl rfl) ?_
    exact ⟨_, ⟨rfl, rfl⟩, _, (by repeat first | with_reducible exact .nil _ | with_reducible exact .here _ _ | with_reducible exact Take.self _ | with_reducible apply Take.cons | with_reducible apply Out.there | with_reducible apply Take.skip | with_reducible exact Take.pre _ _ | with_reducible apply Out.app)⟩
  · try simp only [decide_eq_true_eq, decide_eq_false_iff_not, Bool.not_eq_true', Bool.not_eq_false', beq_iff_eq, bne_iff_ne, beq_eq_false_iff_ne, bne_eq_false_iff_eq, Int.not_lt, Int.not_le, gt_iff_lt, ge_iff_le, ne_eq] at h1
    refine X_skip ?_
    refine thenX_normal ?_
    refine X_seq ?_
    refine X_region ?_
    refine XL_call .no en_19 rfl (bnew 200 ⟨by decide, by decide⟩) (by repeat first | with_reducible exact .nil _ | with_reducible exact .here _ _ | with_reducible exact Take.self _ | with_reducible apply Take.cons | with_reducible apply Out.there | with_reducible apply Take.skip | with_reducible exact Take.pre _ _ | with_reducible apply Out.app) rfl ?_
    rintro _ _ ⟨bp, rfl, rfl⟩
    simp only [List.cons_append, List.nil_append]
    refine XL_det .no (D_pure rfl) rfl ?_
    refine XL_det .no (D_pure (v := .pointer (some ⟨bp, 0, none⟩)) rfl) rfl ?_
    refine XL_det .no (D_pure (v := .int .i64 0) rfl) rfl ?_
    refine XL_det .no (D_pure rfl) rfl ?_
    refine XL_det .no (D_pure rfl) rfl ?_
    refine XL_then ?_
    refine X_seq ?_
    refine X_seq ?_
    refine X_region ?_
    refine XL_det .no (D_pure rfl) rfl ?_
    refine XL_det .no (D_ptrnil rfl rfl ptr_46 rfl) rfl ?_
    refine XL_det .no (D_pure rfl) rfl ?_
    refine XL_det (.yes 24 rfl rfl rfl) (D_pure rfl) rfl ?_
    refine XL_det (.yes 24 rfl rfl rfl) (D_pure (v := .bool false) rfl) rfl ?_
    refine XL_det .no (D_pure rfl) rfl ?_
    refine XL_then ?_
    refine X_cond_f rfl rfl ?_
    refine X_skip ?_
    refine thenX_normal ?_
    refine X_seq ?_
    refine X_region ?_
    refine XL_det .no (D_pure rfl) rfl ?_
    refine XL_then ?_
    refine X_seq ?_
    refine X_seq ?_
    refine X_region ?_
    refine XL_det .no (D_pure rfl) rfl ?_
    refine XL_then ?_
    refine X_block ?_
    refine X_loop (α := Nat × (Nat → Arr Int) × Rw) (fun ⟨i, f, r⟩ => i ≤ l.l.length ∧ Bx f r ∧ totR r ≤ i ∧ Ordd l.l (flatR r) ∧ ∀ p ∈ flatR r, p.2 < (i : Int)) (fun ⟨i, f, r⟩ => [(6, .int .i64 (i : Int)), (5, .int .i64 (totR r : Int)), (0, .slice l.oad l.l.length l.c), (3, .pointer (some ⟨bp, 0, none⟩))]) (fun ⟨i, f, r⟩ => [blk bp (bxG 200 (setR r) f (totR r : Int)) 119, many 32 (rowOf f), K]) (fun ⟨i, f, r⟩ => l.l.length - i) (0, (fun _ => Arr.emp), zR) ?_ (by refine ⟨?_, ?_, ?_, ?_, trivial⟩ <;> rfl) (by repeat first | with_reducible exact .nil _ | with_reducible exact .here _ _ | with_reducible exact Take.self _ | with_reducible apply Take.cons | with_reducible apply Out.there | with_reducible apply Take.skip | with_reducible exact Take.pre _ _ | with_reducible apply Out.app) ?_
    · exact ⟨Nat.zero_le _, z_bx, Nat.le_of_eq z_tot, ord_nil _, fun p hp => by have hp : p ∈ flatR zR := hp; rw [flat_zero] at hp; cases hp⟩
    · rintro ⟨i, f, r⟩ ⟨hi, hb, hr, ho, hlt⟩
      dsimp only
      refine X_seq ?_
      refine X_seq ?_
      refine X_region ?_
      refine XL_det .no (D_pure rfl) rfl ?_
      refine XL_det .no (D_pure rfl) rfl ?_
      refine XL_det .no (D_len rfl rfl slc_41) rfl ?_
      refine XL_det .no (D_pure rfl) rfl ?_
      refine XL_then ?_
      refine X_cond rfl (fun h2 => ?_) (fun h2 => ?_)
      · try simp only [decide_eq_true_eq, decide_eq_false_iff_not, Bool.not_eq_true', Bool.not_eq_false', beq_iff_eq, bne_iff_ne, beq_eq_false_iff_ne, bne_eq_false_iff_eq, Int.not_lt, Int.not_le, gt_iff_lt, ge_iff_le, ne_eq] at h2
        obtain ⟨x, hg⟩ : ∃ x, l.l[i]? = some x := ⟨_, List.getElem?_eq_getElem (by omega)⟩
        have hS := send_free (room := 200) (r := r) (x := x) (w := (i : Int)) (by omega)
        refine X_skip ?_
        refine thenX_normal ?_
        refine X_seq ?_
        refine X_block ?_
        refine X_seq ?_
        refine X_region ?_
        refine XL_det .no (D_pure rfl) rfl ?_
        refine XL_det .no (D_pure rfl) rfl ?_
        refine XL_det .no (D_pure rfl) rfl ?_
        refine XL_det .no (D_idxSo rfl rfl slc_41 (l).nil0 rfl (by omega) rfl) rfl ?_
        refine XL_det .no (D_ela (enc := encI) (sz := 1) (i := i) (k := 0) (fun _ => rfl) rfl (by repeat first | with_reducible exact .here _ _ | with_reducible apply Out.there | with_reducible apply Out.app) hl tk_3 hg rfl) rfl ?_
        refine XL_det .no (D_pure rfl) rfl ?_
        refine XL_det .no (D_build [_, _] rfl bld_53 (by rfl)) rfl ?_
        refine XL_call .no en_20 rfl (bsend bp 200 f r hb ⟨by omega, by decide⟩ x (i : Int) hK) (by repeat first | with_reducible exact .nil _ | with_reducible exact .here _ _ | with_reducible exact Take.self _ | with_reducible apply Take.cons | with_reducible apply Out.there | with_reducible apply Take.skip | with_reducible exact Take.pre _ _ | with_reducible apply Out.app) rfl ?_
        rintro _ _ ⟨f1, rfl, rfl, hb1⟩
        simp only [List.cons_append, List.nil_append]
        refine XL_det .no (D_pure rfl) rfl ?_
        refine XL_det .no (D_pure (v := .bool (sendR 200 r x (i : Int)).2.1) rfl) rfl ?_
        refine XL_det .no (D_pure (v := .int .i64 (sendR 200 r x (i : Int)).2.2) rfl) rfl ?_
        refine XL_det .no (D_pure rfl) rfl ?_
        refine XL_det .no (D_pure rfl) rfl ?_
        refine XL_then ?_
        refine X_seq ?_
        refine X_region ?_
        refine XL_det .no (D_pure rfl) rfl ?_
        refine XL_det .no (D_pure rfl) rfl ?_
        refine XL_then ?_
        refine X_cond rfl (fun h3 => ?_) (fun h3 => ?_)
        · try simp only [decide_eq_true_eq, decide_eq_false_iff_not, Bool.not_eq_true', Bool.not_eq_false', beq_iff_eq, bne_iff_ne, beq_eq_false_iff_ne, bne_eq_false_iff_eq, Int.not_lt, Int.not_le, gt_iff_lt, ge_iff_le, ne_eq] at h3
          obtain ⟨_, d, hdx, hd32, hu⟩ := hS.resolve_right (fun c => by rw [c.1] at h3; exact absurd h3 (by decide))
          have htu := tot_upd r hd32 (r d ++ [(i : Int)])
          rw [List.length_append, ← hu] at htu
          have hone : ([(i : Int)] : List Int).length = 1 := rfl
          have hop := ord_put hd32 ho hlt (by rw [hg, hdx])
          refine X_region ?_
          refine XL_det .no (D_pure rfl) rfl ?_
          refine XL_det .no (D_add rfl rfl (by omega) (by omega)) rfl ?_
          refine XL_det .no (D_pure rfl) rfl ?_
          refine XL_nil ?_
          refine inBlk_normal ?_
          refine thenX_normal ?_
          refine X_region ?_
          refine XL_det .no (D_pure rfl) rfl ?_
          refine XL_det .no (D_add rfl rfl (by omega) (by omega)) rfl ?_
          refine XL_det .no (D_pure rfl) rfl ?_
          refine XL_nil ?_
          refine loopQ_next (i + 1, f1, (sendR 200 r x (i : Int)).1) ?_ ?_ ?_ ?_
          · (try dsimp only); exact ⟨by omega, hb1, by show totR (sendR 200 r x (i : Int)).1 ≤ i + 1; omega, by show Ordd l.l (flatR (sendR 200 r x (i : Int)).1); rw [hu]; exact hop.1, by show ∀ p ∈ flatR (sendR 200 r x (i : Int)).1, p.2 < ((i + 1 : Nat) : Int); rw [hu]; exact hop.2⟩
          · (try dsimp only); omega
          · rw [show (totR (sendR 200 r x (i : Int)).1 : Int) = (totR r : Int) + 1 by omega]; refine ⟨?_, ?_, ?_, ?_, trivial⟩ <;> rfl
          · (try dsimp only); exact ⟨_, (by repeat first | with_reducible exact .nil _ | with_reducible exact .here _ _ | with_reducible exact Take.self _ | with_reducible apply Take.cons | with_reducible apply Out.there | with_reducible apply Take.skip | with_reducible exact Take.pre _ _ | with_reducible apply Out.app)⟩
        · try simp only [decide_eq_true_eq, decide_eq_false_iff_not, Bool.not_eq_true', Bool.not_eq_false', beq_iff_eq, bne_iff_ne, beq_eq_false_iff_ne, bne_eq_false_iff_eq, Int.not_lt, Int.not_le, gt_iff_lt, ge_iff_le, ne_eq] at h3
          obtain ⟨_, hu⟩ := hS.resolve_left (fun c => h3 c.1)
          refine X_skip ?_
          refine inBlk_normal ?_
          refine thenX_normal ?_
          refine X_region ?_
          refine XL_det .no (D_pure rfl) rfl ?_
          refine XL_det .no (D_add rfl rfl (by omega) (by omega)) rfl ?_
          refine XL_det .no (D_pure rfl) rfl ?_
          refine XL_nil ?_
          refine loopQ_next (i + 1, f1, (sendR 200 r x (i : Int)).1) ?_ ?_ ?_ ?_
          · (try dsimp only); exact ⟨by omega, hb1, by show totR (sendR 200 r x (i : Int)).1 ≤ i + 1; rw [hu]; omega, by show Ordd l.l (flatR (sendR 200 r x (i : Int)).1); rw [hu]; exact ho, by show ∀ p ∈ flatR (sendR 200 r x (i : Int)).1, p.2 < ((i + 1 : Nat) : Int); rw [hu]; exact fun p hp => by have := hlt p hp; omega⟩
          · (try dsimp only); omega
          · rw [show totR (sendR 200 r x (i : Int)).1 = totR r by rw [hu]]; refine ⟨?_, ?_, ?_, ?_, trivial⟩ <;> rfl
          · (try dsimp only); exact ⟨_, (by repeat first | with_reducible exact .nil _ | with_reducible exact .here _ _ | with_reducible exact Take.self _ | with_reducible apply Take.cons | with_reducible apply Out.there | with_reducible apply Take.skip | with_reducible exact Take.pre _ _ | with_reducible apply Out.app)⟩
      · try simp only [decide_eq_true_eq, decide_eq_false_iff_not, Bool.not_eq_true', Bool.not_eq_false', beq_iff_eq, bne_iff_ne, beq_eq_false_iff_ne, bne_eq_false_iff_eq, Int.not_lt, Int.not_le, gt_iff_lt, ge_iff_le, ne_eq] at h2
        obtain ⟨r0, hr0⟩ : ∃ r0, r0 = r := ⟨_, rfl⟩
        subst hr0
        refine X_exit ?_
        refine thenX_exit ?_
        refine loopQ_exit ?_
        refine inBlk_here ?_
        refine thenX_normal ?_
        refine X_seq ?_
        refine X_region ?_
        refine XL_det .no (D_build [_, _] rfl bld_53 (by rfl)) rfl ?_
        refine XL_alloc .no zero_53 rfl (fun b1 => ?_)
        refine XL_efd .no (F_stw rfl rfl rfl (by repeat first | with_reducible exact .here _ _ | with_reducible apply Out.there | with_reducible apply Out.app) tk_53 rfl rfl) ?_
        refine XL_then ?_
        refine X_seq ?_
        refine X_seq ?_
        refine X_region ?_
        refine XL_det .no (D_pure rfl) rfl ?_
        refine XL_then ?_
        refine X_block ?_
        refine X_loop (α := Nat × (Nat → Arr Int) × Rw × (Int × Int)) (fun ⟨k, f, r, la⟩ => Bx f r ∧ Ordd l.l (flatR r) ∧ k + (flatR r).length = totR r0 ∧ ∀ p ∈ flatR r, ltP la p) (fun ⟨k, f, r, la⟩ => [(10, .int .i64 (k : Int)), (5, .int .i64 (totR r0 : Int)), (0, .slice l.oad l.l.length l.c), (3, .pointer (some ⟨bp, 0, none⟩)), (9, .pointer (some ⟨b1, 0, none⟩))]) (fun ⟨k, f, r, la⟩ => [blk b1 (encO la) 53, blk bp (bxG 200 (setR r) f (totR r : Int)) 119, many 32 (rowOf f), K]) (fun ⟨k, f, r, la⟩ => totR r0 - k) (0, f, r0, (-1, 0)) ?_ (by refine ⟨?_, ?_, ?_, ?_, ?_, trivial⟩ <;> rfl) (by repeat first | with_reducible exact .nil _ | with_reducible exact .here _ _ | with_reducible exact Take.self _ | with_reducible apply Take.cons | with_reducible apply Out.there | with_reducible apply Take.skip | with_reducible exact Take.pre _ _ | with_reducible apply Out.app) ?_
        · exact ⟨hb, ho, by show 0 + (flatR r0).length = totR r0; rw [Nat.zero_add, flat_len'], ord_first ho⟩
        · rintro ⟨k, f, r, la⟩ ⟨hb, ho, hk, hla⟩
          dsimp only
          refine X_seq ?_
          refine X_seq ?_
          refine X_region ?_
          refine XL_det .no (D_pure rfl) rfl ?_
          refine XL_det .no (D_pure rfl) rfl ?_
          refine XL_det .no (D_pure rfl) rfl ?_
          refine XL_then ?_
          refine X_cond rfl (fun h4 => ?_) (fun h4 => ?_)
          · try simp only [decide_eq_true_eq, decide_eq_false_iff_not, Bool.not_eq_true', Bool.not_eq_false', beq_iff_eq, bne_iff_ne, beq_eq_false_iff_ne, bne_eq_false_iff_eq, Int.not_lt, Int.not_le, gt_iff_lt, ge_iff_le, ne_eq] at h4
            obtain ⟨p, tl, hpt⟩ : ∃ p tl, flatR r = p :: tl := List.exists_cons_of_ne_nil (fun e => by rw [e] at hk; simp at hk; omega)
            obtain ⟨e1, e2, e3⟩ := law_take hpt
            rw [hpt] at ho hla hk
            rw [List.length_cons] at hk
            have hot := ord_tail ho
            have hlp := hla p (List.mem_cons_self ..)
            obtain ⟨hp0, hgl⟩ := ho.mem p (List.mem_cons_self ..)
            have hpl := (List.getElem?_eq_some_iff.1 hgl).1
            unfold ltP at hlp
            refine X_skip ?_
            refine thenX_normal ?_
            refine X_seq ?_
            refine X_block ?_
            refine X_seq ?_
            refine X_region ?_
            refine XL_det .no (D_pure rfl) rfl ?_
            refine XL_call .no en_21 rfl (btake bp 200 f r hb hK) (by repeat first | with_reducible exact .nil _ | with_reducible exact .here _ _ | with_reducible exact Take.self _ | with_reducible apply Take.cons | with_reducible apply Out.there | with_reducible apply Take.skip | with_reducible exact Take.pre _ _ | with_reducible apply Out.app) rfl ?_
            rintro _ _ ⟨f1, rfl, rfl, hb1⟩
            simp only [List.cons_append, List.nil_append]
            rw [e1, e2]
            refine XL_det .no (D_pure rfl) rfl ?_
            refine XL_det .no (D_pure (v := .agg #[.int .i64 p.1, .int .i64 p.2]) rfl) rfl ?_
            refine XL_det .no (D_pure (v := .int .i64 0) rfl) rfl ?_
            refine XL_alloc .no zero_53 rfl (fun b2 => ?_)
            refine XL_efd .no (F_stw rfl rfl rfl (by repeat first | with_reducible exact .here _ _ | with_reducible apply Out.there | with_reducible apply Out.app) tk_53 rfl rfl) ?_
            refine XL_det .no (D_pure rfl) rfl ?_
            refine XL_then ?_
            refine X_seq ?_
            refine X_seq ?_
            refine X_draw [blk b2 (encO p) 53, blk b1 (encO la) 53, K] mixed (by repeat first | with_reducible exact .nil _ | with_reducible exact .here _ _ | with_reducible exact Take.self _ | with_reducible apply Take.cons | with_reducible apply Out.there | with_reducible apply Take.skip | with_reducible exact Take.pre _ _ | with_reducible apply Out.app) ?_
            refine XA_detp 0 rfl (by kernel_rfl) (by kernel_rfl) (by kernel_rfl) (fun _ _ _ _ h => h) .no (D_pureP rfl) rfl ?_
            refine XA_detp 1 rfl (by kernel_rfl) (by kernel_rfl) (by kernel_rfl) (fun _ _ _ _ h => h) .no (D_pureP (v := .bool false) rfl) rfl ?_
            refine XA_detp 2 rfl (by kernel_rfl) (by kernel_rfl) (by kernel_rfl) (fun _ _ _ _ h => h) .no (D_pureP rfl) rfl ?_
            refine XA_detp 3 rfl (by kernel_rfl) (by kernel_rfl) (by kernel_rfl) (fun _ _ _ _ h => h) (.yes 62 rfl rfl rfl) (D_fldP rfl fld_53_0 (o' := 0) rfl) rfl ?_
            refine XA_det 4 rfl (by kernel_rfl) (by kernel_rfl) (by kernel_rfl) (by kernel_rfl) (fun _ _ _ _ h => h) (.yes 62 rfl rfl rfl) (D_ldo rfl (by repeat first | with_reducible exact .here _ _ | with_reducible apply Out.there | with_reducible apply Out.app) tk_3 (by rfl)) rfl ?_
            refine XA_detp 5 rfl (by kernel_rfl) (by kernel_rfl) (by kernel_rfl) (fun _ _ _ _ h => h) (.yes 62 rfl rfl rfl) (D_fldP rfl fld_53_0 (o' := 0) rfl) rfl ?_
            refine XA_det 6 rfl (by kernel_rfl) (by kernel_rfl) (by kernel_rfl) (by kernel_rfl) (fun _ _ _ _ h => h) (.yes 62 rfl rfl rfl) (D_ldo rfl (by repeat first | with_reducible exact .here _ _ | with_reducible apply Out.there | with_reducible apply Out.app) tk_3 (by rfl)) rfl ?_
            refine XA_detp 7 rfl (by kernel_rfl) (by kernel_rfl) (by kernel_rfl) (fun _ _ _ _ h => h) (.yes 62 rfl rfl rfl) (D_pureP (v := .bool false) (bfd (by omega))) rfl ?_
            refine XA_detp 8 rfl (by kernel_rfl) (by kernel_rfl) (by kernel_rfl) (fun _ _ _ _ h => h) .no (D_pureP (v := .bool false) rfl) rfl ?_
            refine XA_detp 9 rfl (by kernel_rfl) (by kernel_rfl) (by kernel_rfl) (fun _ _ _ _ h => h) .no (D_pureP rfl) rfl ?_
            refine XA_detp 10 rfl (by kernel_rfl) (by kernel_rfl) (by kernel_rfl) (fun _ _ _ _ h => h) (.yes 69 rfl rfl rfl) (D_fldP rfl fld_53_0 (o' := 0) rfl) rfl ?_
            refine XA_det 11 rfl (by kernel_rfl) (by kernel_rfl) (by kernel_rfl) (by kernel_rfl) (fun _ _ _ _ h => h) (.yes 69 rfl rfl rfl) (D_ldo rfl (by repeat first | with_reducible exact .here _ _ | with_reducible apply Out.there | with_reducible apply Out.app) tk_3 (by rfl)) rfl ?_
            refine XA_detp 12 rfl (by kernel_rfl) (by kernel_rfl) (by kernel_rfl) (fun _ _ _ _ h => h) (.yes 69 rfl rfl rfl) (D_fldP rfl fld_53_0 (o' := 0) rfl) rfl ?_
            refine XA_det 13 rfl (by kernel_rfl) (by kernel_rfl) (by kernel_rfl) (by kernel_rfl) (fun _ _ _ _ h => h) (.yes 69 rfl rfl rfl) (D_ldo rfl (by repeat first | with_reducible exact .here _ _ | with_reducible apply Out.there | with_reducible apply Out.app) tk_3 (by rfl)) rfl ?_
            refine XA_detp 14 rfl (by kernel_rfl) (by kernel_rfl) (by kernel_rfl) (fun _ _ _ _ h => h) (.yes 69 rfl rfl rfl) (D_pureP rfl) rfl ?_
            refine XA_detp 15 rfl (by kernel_rfl) (by kernel_rfl) (by kernel_rfl) (fun _ _ _ _ h => h) (.yes 69 rfl rfl rfl) (D_pureP rfl) rfl ?_
            refine XA_split (t := 75) rfl (fun h5 => ?_) (fun h5 => ?_)
            · try simp only [decide_eq_true_eq, decide_eq_false_iff_not, Bool.not_eq_true', Bool.not_eq_false', beq_iff_eq, bne_iff_ne, beq_eq_false_iff_ne, bne_eq_false_iff_eq, Int.not_lt, Int.not_le, gt_iff_lt, ge_iff_le, ne_eq] at h5
              refine XA_detp 16 rfl (by kernel_rfl) (by kernel_rfl) (by kernel_rfl) (fun _ _ _ _ h => h) (.yes 75 rfl rfl rfl) (D_fldP rfl fld_53_1 (o' := 1) rfl) rfl ?_
              refine XA_det 17 rfl (by kernel_rfl) (by kernel_rfl) (by kernel_rfl) (by kernel_rfl) (fun _ _ _ _ h => h) (.yes 75 rfl rfl rfl) (D_ldo rfl (by repeat first | with_reducible exact .here _ _ | with_reducible apply Out.there | with_reducible apply Out.app) tk_3 (by rfl)) rfl ?_
              refine XA_detp 18 rfl (by kernel_rfl) (by kernel_rfl) (by kernel_rfl) (fun _ _ _ _ h => h) (.yes 75 rfl rfl rfl) (D_fldP rfl fld_53_1 (o' := 1) rfl) rfl ?_
              refine XA_det 19 rfl (by kernel_rfl) (by kernel_rfl) (by kernel_rfl) (by kernel_rfl) (fun _ _ _ _ h => h) (.yes 75 rfl rfl rfl) (D_ldo rfl (by repeat first | with_reducible exact .here _ _ | with_reducible apply Out.there | with_reducible apply Out.app) tk_3 (by rfl)) rfl ?_
              refine XA_detp 20 rfl (by kernel_rfl) (by kernel_rfl) (by kernel_rfl) (fun _ _ _ _ h => h) (.yes 75 rfl rfl rfl) (D_pureP (v := .bool false) (bfd (by omega))) rfl ?_
              refine XA_detp 21 rfl (by kernel_rfl) (by kernel_rfl) (by kernel_rfl) (fun _ _ _ _ h => h) (.yes 69 rfl rfl rfl) (D_pureP (v := .bool false) rfl) rfl ?_
              refine XA_detp 22 rfl (by kernel_rfl) (by kernel_rfl) (by kernel_rfl) (fun _ _ _ _ h => h) .no (D_pureP (v := .bool false) rfl) rfl ?_
              refine XA_detp 23 rfl (by kernel_rfl) (by kernel_rfl) (by kernel_rfl) (fun _ _ _ _ h => h) .no (D_pureP rfl) rfl ?_
              refine XA_detp 24 rfl (by kernel_rfl) (by kernel_rfl) (by kernel_rfl) (fun _ _ _ _ h => h) (.yes 83 rfl rfl rfl) (D_fldP rfl fld_53_1 (o' := 1) rfl) rfl ?_
              refine XA_det 25 rfl (by kernel_rfl) (by kernel_rfl) (by kernel_rfl) (by kernel_rfl) (fun _ _ _ _ h => h) (.yes 83 rfl rfl rfl) (D_ldo rfl (by repeat first | with_reducible exact .here _ _ | with_reducible apply Out.there | with_reducible apply Out.app) tk_3 (by rfl)) rfl ?_
              refine XA_detp 26 rfl (by kernel_rfl) (by kernel_rfl) (by kernel_rfl) (fun _ _ _ _ h => h) (.yes 83 rfl rfl rfl) (D_pureP rfl) rfl ?_
              refine XA_detp 27 rfl (by kernel_rfl) (by kernel_rfl) (by kernel_rfl) (fun _ _ _ _ h => h) (.yes 83 rfl rfl rfl) (D_lenP rfl rfl slc_41) rfl ?_
              refine XA_detp 28 rfl (by kernel_rfl) (by kernel_rfl) (by kernel_rfl) (fun _ _ _ _ h => h) (.yes 83 rfl rfl rfl) (D_pureP (v := .bool false) (bfd (by omega))) rfl ?_
              refine XA_detp 29 rfl (by kernel_rfl) (by kernel_rfl) (by kernel_rfl) (fun _ _ _ _ h => h) .no (D_pureP (v := .bool false) rfl) rfl ?_
              refine XA_detp 30 rfl (by kernel_rfl) (by kernel_rfl) (by kernel_rfl) (fun _ _ _ _ h => h) .no (D_pureP rfl) rfl ?_
              refine XA_detp 31 rfl (by kernel_rfl) (by kernel_rfl) (by kernel_rfl) (fun _ _ _ _ h => h) (.yes 90 rfl rfl rfl) (D_pureP rfl) rfl ?_
              refine XA_detp 32 rfl (by kernel_rfl) (by kernel_rfl) (by kernel_rfl) (fun _ _ _ _ h => h) (.yes 90 rfl rfl rfl) (D_fldP rfl fld_53_1 (o' := 1) rfl) rfl ?_
              refine XA_det 33 rfl (by kernel_rfl) (by kernel_rfl) (by kernel_rfl) (by kernel_rfl) (fun _ _ _ _ h => h) (.yes 90 rfl rfl rfl) (D_ldo rfl (by repeat first | with_reducible exact .here _ _ | with_reducible apply Out.there | with_reducible apply Out.app) tk_3 (by rfl)) rfl ?_
              refine XA_detp 34 rfl (by kernel_rfl) (by kernel_rfl) (by kernel_rfl) (fun _ _ _ _ h => h) (.yes 90 rfl rfl rfl) (D_idxSoP (j := p.2.toNat) rfl rfl slc_41 (l).nil0 (by omega) (List.getElem?_eq_some_iff.1 hgl).1 rfl) rfl ?_
              refine XA_det 35 rfl (by kernel_rfl) (by kernel_rfl) (by kernel_rfl) (by kernel_rfl) (fun _ _ _ _ h => h) (.yes 90 rfl rfl rfl) (D_ela (enc := encI) (sz := 1) (i := p.2.toNat) (k := 0) (fun _ => rfl) rfl (by repeat first | with_reducible exact .here _ _ | with_reducible apply Out.there | with_reducible apply Out.app) hl tk_3 hgl rfl) rfl ?_
              refine XA_detp 36 rfl (by kernel_rfl) (by kernel_rfl) (by kernel_rfl) (fun _ _ _ _ h => h) (.yes 90 rfl rfl rfl) (D_fldP rfl fld_53_0 (o' := 0) rfl) rfl ?_
              refine XA_det 37 rfl (by kernel_rfl) (by kernel_rfl) (by kernel_rfl) (by kernel_rfl) (fun _ _ _ _ h => h) (.yes 90 rfl rfl rfl) (D_ldo rfl (by repeat first | with_reducible exact .here _ _ | with_reducible apply Out.there | with_reducible apply Out.app) tk_3 (by rfl)) rfl ?_
              refine XA_detp 38 rfl (by kernel_rfl) (by kernel_rfl) (by kernel_rfl) (fun _ _ _ _ h => h) (.yes 90 rfl rfl rfl) (D_pureP (v := .bool false) (bfn (by rfl))) rfl ?_
              refine XA_detp 39 rfl (by kernel_rfl) (by kernel_rfl) (by kernel_rfl) (fun _ _ _ _ h => h) .no (D_pureP (v := .bool false) rfl) rfl ?_
              refine XA_done (by kernel_rfl) ?_
              try simp only [List.cons_append, List.nil_append, List.append_nil]
              refine thenX_normal ?_
              refine X_cond_f rfl rfl ?_
              refine X_skip ?_
              refine thenX_normal ?_
              refine X_region ?_
              refine XL_det .no (D_ldso (vs := encO p) rfl (by repeat first | with_reducible exact .here _ _ | with_reducible apply Out.there | with_reducible apply Out.app) tk_53 rfl (by rfl)) rfl ?_
              refine XL_efd .no (F_stw rfl rfl rfl (by repeat first | with_reducible exact .here _ _ | with_reducible apply Out.there | with_reducible apply Out.app) tk_53 rfl rfl) ?_
              refine XL_nil ?_
              refine inBlk_normal ?_
              refine thenX_normal ?_
              refine X_region ?_
              refine XL_det .no (D_pure rfl) rfl ?_
              refine XL_det .no (D_add rfl rfl (by omega) (by omega)) rfl ?_
              refine XL_det .no (D_pure rfl) rfl ?_
              refine XL_nil ?_
              refine loopQ_next (k + 1, f1, (takeR r).1, p) ?_ ?_ ?_ ?_
              · (try dsimp only); exact ⟨hb1, by show Ordd l.l (flatR (takeR r).1); rw [e3]; exact hot.1, by show k + 1 + (flatR (takeR r).1).length = totR r0; rw [e3]; omega, by show ∀ q ∈ flatR (takeR r).1, ltP p q; rw [e3]; exact hot.2⟩
              · (try dsimp only); omega
              · refine ⟨?_, ?_, ?_, ?_, ?_, trivial⟩ <;> rfl
              · (try dsimp only); exact ⟨_, (by repeat first | with_reducible exact .nil _ | with_reducible exact .here _ _ | with_reducible exact Take.self _ | with_reducible apply Take.cons | with_reducible apply Out.there | with_reducible apply Take.skip | with_reducible exact Take.pre _ _ | with_reducible apply Out.app)⟩
            · try simp only [decide_eq_true_eq, decide_eq_false_iff_not, Bool.not_eq_true', Bool.not_eq_false', beq_iff_eq, bne_iff_ne, beq_eq_false_iff_ne, bne_eq_false_iff_eq, Int.not_lt, Int.not_le, gt_iff_lt, ge_iff_le, ne_eq] at h5
              refine XA_skipp 16 75 rfl (by kernel_rfl) (by kernel_rfl) (by kernel_rfl) (fun _ _ _ _ h => h) rfl rfl rfl rfl rfl ?_
              refine XA_skipp 17 75 rfl (by kernel_rfl) (by kernel_rfl) (by kernel_rfl) (fun _ _ _ _ h => h) rfl rfl rfl rfl rfl ?_
              refine XA_skipp 18 75 rfl (by kernel_rfl) (by kernel_rfl) (by kernel_rfl) (fun _ _ _ _ h => h) rfl rfl rfl rfl rfl ?_
              refine XA_skipp 19 75 rfl (by kernel_rfl) (by kernel_rfl) (by kernel_rfl) (fun _ _ _ _ h => h) rfl rfl rfl rfl rfl ?_
              refine XA_skipp 20 75 rfl (by kernel_rfl) (by kernel_rfl) (by kernel_rfl) (fun _ _ _ _ h => h) rfl rfl rfl rfl rfl ?_
              refine XA_detp 21 rfl (by kernel_rfl) (by kernel_rfl) (by kernel_rfl) (fun _ _ _ _ h => h) (.yes 69 rfl rfl rfl) (D_pureP (v := .bool false) rfl) rfl ?_
              refine XA_detp 22 rfl (by kernel_rfl) (by kernel_rfl) (by kernel_rfl) (fun _ _ _ _ h => h) .no (D_pureP (v := .bool false) rfl) rfl ?_
              refine XA_detp 23 rfl (by kernel_rfl) (by kernel_rfl) (by kernel_rfl) (fun _ _ _ _ h => h) .no (D_pureP rfl) rfl ?_
              refine XA_detp 24 rfl (by kernel_rfl) (by kernel_rfl) (by kernel_rfl) (fun _ _ _ _ h => h) (.yes 83 rfl rfl rfl) (D_fldP rfl fld_53_1 (o' := 1) rfl) rfl ?_
              refine XA_det 25 rfl (by kernel_rfl) (by kernel_rfl) (by kernel_rfl) (by kernel_rfl) (fun _ _ _ _ h => h) (.yes 83 rfl rfl rfl) (D_ldo rfl (by repeat first | with_reducible exact .here _ _ | with_reducible apply Out.there | with_reducible apply Out.app) tk_3 (by rfl)) rfl ?_
              refine XA_detp 26 rfl (by kernel_rfl) (by kernel_rfl) (by kernel_rfl) (fun _ _ _ _ h => h) (.yes 83 rfl rfl rfl) (D_pureP rfl) rfl ?_
              refine XA_detp 27 rfl (by kernel_rfl) (by kernel_rfl) (by kernel_rfl) (fun _ _ _ _ h => h) (.yes 83 rfl rfl rfl) (D_lenP rfl rfl slc_41) rfl ?_
              refine XA_detp 28 rfl (by kernel_rfl) (by kernel_rfl) (by kernel_rfl) (fun _ _ _ _ h => h) (.yes 83 rfl rfl rfl) (D_pureP (v := .bool false) (bfd (by omega))) rfl ?_
              refine XA_detp 29 rfl (by kernel_rfl) (by kernel_rfl) (by kernel_rfl) (fun _ _ _ _ h => h) .no (D_pureP (v := .bool false) rfl) rfl ?_
              refine XA_detp 30 rfl (by kernel_rfl) (by kernel_rfl) (by kernel_rfl) (fun _ _ _ _ h => h) .no (D_pureP rfl) rfl ?_
              refine XA_detp 31 rfl (by kernel_rfl) (by kernel_rfl) (by kernel_rfl) (fun _ _ _ _ h => h) (.yes 90 rfl rfl rfl) (D_pureP rfl) rfl ?_
              refine XA_detp 32 rfl (by kernel_rfl) (by kernel_rfl) (by kernel_rfl) (fun _ _ _ _ h => h) (.yes 90 rfl rfl rfl) (D_fldP rfl fld_53_1 (o' := 1) rfl) rfl ?_
              refine XA_det 33 rfl (by kernel_rfl) (by kernel_rfl) (by kernel_rfl) (by kernel_rfl) (fun _ _ _ _ h => h) (.yes 90 rfl rfl rfl) (D_ldo rfl (by repeat first | with_reducible exact .here _ _ | with_reducible apply Out.there | with_reducible apply Out.app) tk_3 (by rfl)) rfl ?_
              refine XA_detp 34 rfl (by kernel_rfl) (by kernel_rfl) (by kernel_rfl) (fun _ _ _ _ h => h) (.yes 90 rfl rfl rfl) (D_idxSoP (j := p.2.toNat) rfl rfl slc_41 (l).nil0 (by omega) (List.getElem?_eq_some_iff.1 hgl).1 rfl) rfl ?_
              refine XA_det 35 rfl (by kernel_rfl) (by kernel_rfl) (by kernel_rfl) (by kernel_rfl) (fun _ _ _ _ h => h) (.yes 90 rfl rfl rfl) (D_ela (enc := encI) (sz := 1) (i := p.2.toNat) (k := 0) (fun _ => rfl) rfl (by repeat first | with_reducible exact .here _ _ | with_reducible apply Out.there | with_reducible apply Out.app) hl tk_3 hgl rfl) rfl ?_
              refine XA_detp 36 rfl (by kernel_rfl) (by kernel_rfl) (by kernel_rfl) (fun _ _ _ _ h => h) (.yes 90 rfl rfl rfl) (D_fldP rfl fld_53_0 (o' := 0) rfl) rfl ?_
              refine XA_det 37 rfl (by kernel_rfl) (by kernel_rfl) (by kernel_rfl) (by kernel_rfl) (fun _ _ _ _ h => h) (.yes 90 rfl rfl rfl) (D_ldo rfl (by repeat first | with_reducible exact .here _ _ | with_reducible apply Out.there | with_reducible apply Out.app) tk_3 (by rfl)) rfl ?_
              refine XA_detp 38 rfl (by kernel_rfl) (by kernel_rfl) (by kernel_rfl) (fun _ _ _ _ h => h) (.yes 90 rfl rfl rfl) (D_pureP (v := .bool false) (bfn (by rfl))) rfl ?_
              refine XA_detp 39 rfl (by kernel_rfl) (by kernel_rfl) (by kernel_rfl) (fun _ _ _ _ h => h) .no (D_pureP (v := .bool false) rfl) rfl ?_
              refine XA_done (by kernel_rfl) ?_
              try simp only [List.cons_append, List.nil_append, List.append_nil]
              refine thenX_normal ?_
              refine X_cond_f rfl rfl ?_
              refine X_skip ?_
              refine thenX_normal ?_
              refine X_region ?_
              refine XL_det .no (D_ldso (vs := encO p) rfl (by repeat first | with_reducible exact .here _ _ | with_reducible apply Out.there | with_reducible apply Out.app) tk_53 rfl (by rfl)) rfl ?_
              refine XL_efd .no (F_stw rfl rfl rfl (by repeat first | with_reducible exact .here _ _ | with_reducible apply Out.there | with_reducible apply Out.app) tk_53 rfl rfl) ?_
              refine XL_nil ?_
              refine inBlk_normal ?_
              refine thenX_normal ?_
              refine X_region ?_
              refine XL_det .no (D_pure rfl) rfl ?_
              refine XL_det .no (D_add rfl rfl (by omega) (by omega)) rfl ?_
              refine XL_det .no (D_pure rfl) rfl ?_
              refine XL_nil ?_
              refine loopQ_next (k + 1, f1, (takeR r).1, p) ?_ ?_ ?_ ?_
              · (try dsimp only); exact ⟨hb1, by show Ordd l.l (flatR (takeR r).1); rw [e3]; exact hot.1, by show k + 1 + (flatR (takeR r).1).length = totR r0; rw [e3]; omega, by show ∀ q ∈ flatR (takeR r).1, ltP p q; rw [e3]; exact hot.2⟩
              · (try dsimp only); omega
              · refine ⟨?_, ?_, ?_, ?_, ?_, trivial⟩ <;> rfl
              · (try dsimp only); exact ⟨_, (by repeat first | with_reducible exact .nil _ | with_reducible exact .here _ _ | with_reducible exact Take.self _ | with_reducible apply Take.cons | with_reducible apply Out.there | with_reducible apply Take.skip | with_reducible exact Take.pre _ _ | with_reducible apply Out.app)⟩
          · try simp only [decide_eq_true_eq, decide_eq_false_iff_not, Bool.not_eq_true', Bool.not_eq_false', beq_iff_eq, bne_iff_ne, beq_eq_false_iff_ne, bne_eq_false_iff_eq, Int.not_lt, Int.not_le, gt_iff_lt, ge_iff_le, ne_eq] at h4
            have hl0 : flatR r = [] := List.length_eq_zero_iff.1 (by omega)
            have htk := law_take_no hl0
            refine X_exit ?_
            refine thenX_exit ?_
            refine loopQ_exit ?_
            refine inBlk_here ?_
            refine thenX_normal ?_
            refine X_seq ?_
            refine X_region ?_
            refine XL_det .no (D_pure rfl) rfl ?_
            refine XL_call .no en_21 rfl (btake bp 200 f r hb hK) (by repeat first | with_reducible exact .nil _ | with_reducible exact .here _ _ | with_reducible exact Take.self _ | with_reducible apply Take.cons | with_reducible apply Out.there | with_reducible apply Take.skip | with_reducible exact Take.pre _ _ | with_reducible apply Out.app) rfl ?_
            rintro _ _ ⟨f1, rfl, rfl, hb1⟩
            simp only [List.cons_append, List.nil_append]
            rw [show (takeR r).2.1 = ((0 : Int), (0 : Int)) by rw [htk], show (takeR r).2.2 = 270 by rw [htk]]
            refine XL_det .no (D_pure rfl) rfl ?_
            refine XL_det .no (D_pure (v := .agg #[.int .i64 0, .int .i64 0]) rfl) rfl ?_
            refine XL_det .no (D_pure (v := .int .i64 270) rfl) rfl ?_
            refine XL_alloc .no zero_53 rfl (fun b3 => ?_)
            refine XL_efd .no (F_stw rfl rfl rfl (by repeat first | with_reducible exact .here _ _ | with_reducible apply Out.there | with_reducible apply Out.app) tk_53 rfl rfl) ?_
            refine XL_det .no (D_pure rfl) rfl ?_
            refine XL_then ?_
            refine X_seq ?_
            refine X_region ?_
            refine XL_det .no (D_pure rfl) rfl ?_
            refine XL_det .no (D_pure (v := .bool true) rfl) rfl ?_
            refine XL_det .no (D_pure rfl) rfl ?_
            refine XL_callk (.yes 108 rfl rfl rfl) en_22 rfl (alive51 hK) (by repeat first | with_reducible exact .nil _ | with_reducible exact .here _ _ | with_reducible exact Take.self _ | with_reducible apply Take.cons | with_reducible apply Out.there | with_reducible apply Take.skip | with_reducible exact Take.pre _ _ | with_reducible apply Out.app) rfl ?_
            refine XL_det .no (D_pure rfl) rfl ?_
            refine XL_det .no (D_pure rfl) rfl ?_
            refine XL_then ?_
            refine X_ret ?_
            refine ret_ok (.nil _) (res_tmp rfl rfl) ?_
            exact ⟨_, ⟨rfl, rfl⟩, _, (by repeat first | with_reducible exact .nil _ | with_reducible exact .here _ _ | with_reducible exact Take.self _ | with_reducible apply Take.cons | with_reducible apply Out.there | with_reducible apply Take.skip | with_reducible exact Take.pre _ _ | with_reducible apply Out.app)⟩

end Go.Proofs.YtdimcgedcndndaaDoor
end

section
namespace Go.Proofs.YtdimcgedcndndaaDoor
open Go Go.Sl Go.ChangeShapes Go.WideShapes Go.ChangeAt Go.RowKit
set_option linter.unusedVariables false
abbrev tabT : Nat := 152
theorem ui_int : Tryd.prog.underlying 3 = some (.int .i64) := by kernel_rfl

theorem sl_ints : slcOf Tryd.prog 41 = some (3, 1) := by kernel_rfl

theorem own : ownKnob Tryd.prog.godebug = none := by kernel_rfl
theorem laidOut : laidOutB Tryd.prog = true := by kernel_rfl
abbrev laidT : List (String × DataW Unit) := [("math/bits.deBruijn32tab", Rows.laid_math_bits_deBruijn32tab)]
set_option maxRecDepth 100000 in
theorem laidTab {W : World} (h : laidMetH Tryd.prog laidT W) : Rd (old (B := W.heap.size) W) ⟨0, 0, none⟩ (tab32.map fun m => .int .u8 m) := by
  rw [MakeChecks.laidMetH_plain _ _ _ (by kernel_rfl)] at h
  rw [show laidT = [("math/bits.deBruijn32tab", .agg (tab32.map fun m => .lit (.int .u8 m)))] from by kernel_rfl] at h
  exact laid_row (tab := tab32) (t := tabT) (len := 32) (e := 5) (k := .u8) (by kernel_rfl) (by kernel_rfl) (by kernel_rfl) (by kernel_rfl) (by kernel_rfl) (by decide) h
theorem door_met (os : Os) (args : Array Value) : laidMetH Tryd.prog laidT ((World.doorLaid Tryd.prog 400 os).forCall (fun _ _ => 0) ⟨#[], args, []⟩).memory :=
  laidMetH_of_parts3 (fuel := 8) (laidMet_of_run' 8 (by kernel_rfl) (by kernel_rfl)) (by kernel_rfl) (by kernel_rfl)


set_option maxRecDepth 100000 in
/-- The walk, at the arguments as the row reads them. -/
theorem walkMboxOrder (W : World) (args : Array Value) (hL : laidMetH Tryd.prog laidT W) (h : ArgsOk Tryd.prog W Tryd.f5.params.toList args.toList) : Calls Tryd.prog 5 args W fun e w' => e = .returned (.bool true) ∧ Go.RowKit.Below W.heap.size W w' := by
  rw [show Tryd.f5.params.toList = [41] from by kernel_rfl] at h
  obtain ⟨args⟩ := args
  match args, h with
  | [v0], h =>
    have hK := laidTab hL
    obtain ⟨a0, _⟩ := h
    obtain ⟨l, rfl, _, hl⟩ := arg_arr (encA := encI) (ok := fun _ => True) sl_ints (by decide) a0 (fun n cs x hx => by obtain ⟨m, h, _⟩ := DataW.trod_int ui_int hx; exact ⟨m, h, trivial⟩)
    exact calls_of (old_self W) ((mboxOrder l hl hK).mono fun _ _ h => h.1)

set_option maxRecDepth 100000 in
theorem liftedMboxOrder (os : Os) (started : os.Started) (H : Type) (enc : TypeId × Value → H) :
    ReturnsInHanded {} Tryd.checked os 5 .any (fun w args => (Rows.mboxOrderSpec.pre enc Tryd.prog Tryd.f5 [] false w args ∧ laidMetH Tryd.prog laidT w) ∧ sizedMet enc Tryd.prog Tryd.f5 (OpenSpec.ofChange Rows.mboxOrderSpec) false w args) (Rows.mboxOrderSpec.post enc Tryd.prog Tryd.f5 false true false false) :=
  handedL (C := Tryd.checked) (tb := 4) own started (by kernel_rfl) Tryd.func5 laidOut (by kernel_rfl) rfl
    (fun ds h => by
      have h : ds.length = 1 := h
      match ds, h with
      | [_], _ => exact ⟨rfl, rfl, rfl⟩) (by kernel_rfl) (by kernel_rfl)
    (ChangeSpec.witness_shaped (enc := enc) (C := Tryd.checked) (os := os) (X := fun w _ => laidMetH Tryd.prog laidT w) false (World.doorLaid Tryd.prog 400 os) #[.slice none 0 0] 8 rfl (World.shaped_of_RefB (by kernel_rfl) (by kernel_rfl)) (by kernel_rfl) (by kernel_rfl) (by kernel_rfl) (door_met os _))
    (fun W args hL h => walkMboxOrder W args hL h)

theorem overMboxOrder : Rows.MboxOrderSaid :=
  OpenClaim.holds_of_wide 5 Tryd.f5 rfl rfl rfl rfl rfl rfl rfl ⟨rfl, rfl, rfl, rfl, rfl⟩ rfl rfl rfl rfl rfl (by kernel_rfl) Tryd.func5 (by kernel_rfl)
    (of_decide_eq_true (by kernel_rfl)) (by unfold Func.isWrapper; first | (rw [if_pos (by decide +kernel)]; kernel_rfl) | (rw [if_neg (by decide +kernel)]; exact ⟨rfl, rfl⟩))
    (fun os started H enc _ => liftedMboxOrder os started H enc)

/-- The statement: the tied card. -/
theorem provedMboxOrder : Rows.MboxOrderCardSaid :=
  Claim7.holds_tied_plain_at .later [] [.data] true (true, "3603e660136b1921cb9f742bc841b9ec612f393fc17fb7707fd169dd1f08532f") false
    overMboxOrder (fun _ h => by cases h) (by kernel_rfl) (fun _ h => by cases h) mboxOrder_row_tie rfl ⟨rfl, rfl⟩ (by kernel_rfl) rfl
    (fun f fn hf hfn => by
      obtain rfl : f = 5 := Option.some.inj ((show Tryd.prog.funcNamed "remontoir/remontoirlaw51.MboxOrder" = some 5 by kernel_rfl).symm.trans hf) |>.symm
      obtain rfl : fn = Tryd.f5 := (Option.some.inj (Tryd.func5.symm.trans hfn)).symm
      exact ⟨by kernel_rfl, fun j t ht => by
        have ht : t ∈ Tryd.f5.params.toList := by simpa using Array.mem_of_getElem? ht
        rw [show Tryd.f5.params.toList = [41] from by kernel_rfl] at ht
        have hall : ([41].all fun u => !Tryd.prog.wantsStandIn u) = true := by kernel_rfl
        exact (show Tryd.prog.wantsStandIn t = false by simpa using List.all_eq_true.1 hall t ht)⟩)
    (by kernel_rfl)

#print axioms provedMboxOrder
end Go.Proofs.YtdimcgedcndndaaDoor
end
