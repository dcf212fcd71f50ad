/- The given statement SchedPlaysCardSaid is proved: whatever jobs come and whatever ceilings hold, the core does in each tick what the document does, and all that is seen of it is as there. Conditions: images that are right and not too great, at most 60 calls, 2,000 ticks, as the statement itself says them; none beside. -/
import Derived.Test.YtkkdchgnknpceaaDoorSchedPlaysP4
import Derived.KernelRfl
import Derived.Test.YtkkdchgnknpceaaDoorProg
import Derived.Test.YtkkdchgnknpceaaDoorRows
import Derived.Test.YtkkdchgnknpceaaDoorTie
import Derived.Test.YtkkdchgnknpceaaDoorCards
import Derived.SevenTiedAt
import Derived.LaidMore
section
namespace Go.Proofs.YtkkdchgnknpceaaDoor
open Go Go.Sl
set_option linter.unusedVariables false
set_option linter.unusedSimpArgs false
set_option maxRecDepth 4000
variable {B : Nat} {K : Asrt B}
theorem en_27 : Go.Proofs.Enters Tryd.prog 27 := Go.Proofs.enters_of Tryd.func27 (by kernel_rfl) rfl
theorem en_28 : Go.Proofs.Enters Tryd.prog 28 := Go.Proofs.enters_of Tryd.func28 (by kernel_rfl) rfl
theorem en_29 : Go.Proofs.Enters Tryd.prog 29 := Go.Proofs.enters_of Tryd.func29 (by kernel_rfl) rfl
theorem en_31 : Go.Proofs.Enters Tryd.prog 31 := Go.Proofs.enters_of Tryd.func31 (by kernel_rfl) rfl
theorem en_32 : Go.Proofs.Enters Tryd.prog 32 := Go.Proofs.enters_of Tryd.func32 (by kernel_rfl) rfl
theorem eqg_53 : Tryd.prog.eqGuardType Tryd.prog.depth 53 = false := by kernel_rfl
theorem eqk_53 : eqKinds Tryd.prog 12 53 = some [some .i64, some .i64, some .i64, none, some .i64, none] := by kernel_rfl
theorem fld_41_3 : fldOff Tryd.prog 41 3 = some 3 := by kernel_rfl
theorem fld_76_0 : fldOff Tryd.prog 76 0 = some 0 := by kernel_rfl

def tabN (t t' : Nat → Int) (n : Nat) : Nat → Int := fun j => if j < n then t' j else t j
theorem tabN_0 {t t' : Nat → Int} : tabN t t' 0 = t := by funext j; unfold tabN; rw [if_neg (by omega)]
theorem tabN_s {t t' : Nat → Int} {n : Nat} : upd (tabN t t' n) n (t' n) = tabN t t' (n + 1) := by
  funext j
  by_cases e : j = n
  · subst e; rw [upd_same]; unfold tabN; rw [if_pos (by omega)]
  · rw [upd_ne _ _ e]; unfold tabN
    by_cases q : j < n
    · rw [if_pos q, if_pos (by omega)]
    · rw [if_neg q, if_neg (by omega)]
theorem Like.bnd {c : Cr} {s : Sr} (h : Like c s) : ∀ k, k < 16 → s.lv k = true → 0 ≤ (s.jf k).done ∧ (s.jf k).done ≤ 100000000 ∧ -1000000000 ≤ (s.jf k).rel ∧ (s.jf k).rel ≤ 1000000000 := fun k hk hl => by
  have hL := (h.live k hk).1 hl
  obtain ⟨_, _, b1, b2, _, _, b3, b4⟩ := h.ok.live k hL
  obtain ⟨j1, _, _, j4, _⟩ := h.job k hk hL
  rw [j1, j4]; exact ⟨b1, b2, b3, b4⟩
theorem ran_eq (x : Ran) : cellsEq (encR x) (encR x) = true := by simp [cellsEq, veq]
theorem ceilV_in (ts : List (Nat → Int)) (s : BitVec 32) (r : Nat) : 0 ≤ ceilV ts s r ∧ ceilV ts s r ≤ 16 := by
  rcases (ceilV_least ts s r).at_ with q | ⟨i, q1, _, q2⟩ <;> omega

theorem schedPlays {Ki : Asrt B} (x : Img) (hx : x.In Ki) (l : Arr OpS) (hl : OpsIn Ki l) (hK : Rd K ⟨0, 0, none⟩ (tab32.map fun m => .int .u8 m)) (hd : Dup K) : Ctr Tryd.prog B 5 [x.v, .slice l.oad l.l.length l.c] [K, Ki] (fun v S => v = .bool true ∧ S = [K, Ki]) := by
  refine Ctr_of_X (N := 152) Tryd.func5 rfl (by simp) rfl ?_
  intro w0 D0
  refine X_seq ?_
  refine X_region ?_
  refine XL_box (cs := [.int .i64 x.res, .slice x.tasks.oad x.tasks.l.length x.tasks.c, .slice x.modes.oad x.modes.l.length x.modes.c, .slice x.edges.oad x.edges.l.length x.edges.c]) .no rfl rfl rfl (fun b1 => ?_)
  refine XL_det .no (D_pure rfl) rfl ?_
  refine XL_then ?_
  refine X_seq ?_
  refine X_seq ?_
  refine X_region ?_
  refine XL_det .no (D_ldso (vs := [.int .i64 x.res, .slice x.tasks.oad x.tasks.l.length x.tasks.c, .slice x.modes.oad x.modes.l.length x.modes.c, .slice x.edges.oad x.edges.l.length x.edges.c]) rfl (by repeat first | with_reducible exact .here _ _ | with_reducible apply Out.there | with_reducible apply Out.app) tk_26 rfl (by rfl)) rfl ?_
  refine XL_callk .no en_9 rfl (rgreat x hx) (by repeat first | with_reducible exact .nil _ | with_reducible exact .here _ _ | with_reducible exact Take.self _ | with_reducible apply Take.cons | with_reducible apply Out.there | with_reducible apply Take.skip | with_reducible exact Take.pre _ _ | with_reducible apply Out.app) rfl ?_
  refine XL_det .no (D_pure rfl) rfl ?_
  refine XL_split (t := 19) rfl (fun h1 => ?_) (fun h1 => ?_)
  · try simp only [decide_eq_true_eq, decide_eq_false_iff_not, Bool.not_eq_true', Bool.not_eq_false', beq_iff_eq, bne_iff_ne, beq_eq_false_iff_ne, bne_eq_false_iff_eq, Int.not_lt, Int.not_le, gt_iff_lt, ge_iff_le, ne_eq] at h1
    refine XL_skip 19 rfl rfl rfl rfl rfl ?_
    refine XL_skip 19 rfl rfl rfl rfl rfl ?_
    refine XL_skip 19 rfl rfl rfl rfl rfl ?_
    refine XL_det .no (D_pure rfl) rfl ?_
    refine XL_det .no (D_pure rfl) rfl ?_
    refine XL_skip 24 rfl rfl rfl rfl rfl ?_
    refine XL_skip 24 rfl rfl rfl rfl rfl ?_
    refine XL_det .no (D_pure rfl) rfl ?_
    refine XL_then ?_
    refine X_cond_t rfl rfl ?_
    refine X_seq ?_
    refine X_region ?_
    refine XL_det .no (D_pure rfl) rfl ?_
    refine XL_then ?_
    refine X_ret ?_
    refine thenX_ret ?_
    refine ret_ok (.nil _) (res_tmp rfl rfl) ?_
    exact ⟨[K, Ki], ⟨rfl, rfl⟩, _, (by repeat first | with_reducible exact .nil _ | with_reducible exact .here _ _ | exact .here _ _ | with_reducible exact Take.self _ | with_reducible apply Take.cons | with_reducible apply Out.there | with_reducible apply Take.skip | with_reducible exact Take.pre _ _ | with_reducible apply Out.app)⟩
  · try simp only [decide_eq_true_eq, decide_eq_false_iff_not, Bool.not_eq_true', Bool.not_eq_false', beq_iff_eq, bne_iff_ne, beq_eq_false_iff_ne, bne_eq_false_iff_eq, Int.not_lt, Int.not_le, gt_iff_lt, ge_iff_le, ne_eq] at h1
    refine XL_det (.yes 19 rfl rfl rfl) (D_ldso (vs := [.int .i64 x.res, .slice x.tasks.oad x.tasks.l.length x.tasks.c, .slice x.modes.oad x.modes.l.length x.modes.c, .slice x.edges.oad x.edges.l.length x.edges.c]) rfl (by repeat first | with_reducible exact .here _ _ | with_reducible apply Out.there | with_reducible apply Out.app) tk_26 rfl (by rfl)) rfl ?_
    refine XL_call (.yes 19 rfl rfl rfl) en_10 rfl (rright x hx h1) (by repeat first | with_reducible exact .nil _ | with_reducible exact .here _ _ | with_reducible exact Take.self _ | with_reducible apply Take.cons | with_reducible apply Out.there | with_reducible apply Take.skip | with_reducible exact Take.pre _ _ | with_reducible apply Out.app) rfl ?_
    rintro _ _ ⟨br, rfl, hbr, rfl⟩
    simp only [List.cons_append, List.nil_append]
    refine XL_det (.yes 19 rfl rfl rfl) (D_pure rfl) rfl ?_
    refine XL_det .no (D_pure rfl) rfl ?_
    refine XL_det .no (D_pure rfl) rfl ?_
    refine XL_split (t := 24) rfl (fun h2 => ?_) (fun h2 => ?_)
    · try simp only [decide_eq_true_eq, decide_eq_false_iff_not, Bool.not_eq_true', Bool.not_eq_false', beq_iff_eq, bne_iff_ne, beq_eq_false_iff_ne, bne_eq_false_iff_eq, Int.not_lt, Int.not_le, gt_iff_lt, ge_iff_le, ne_eq] at h2
      refine XL_skip 24 rfl rfl rfl rfl rfl ?_
      refine XL_skip 24 rfl rfl rfl rfl rfl ?_
      refine XL_det .no (D_pure rfl) rfl ?_
      refine XL_then ?_
      refine X_cond_t rfl rfl ?_
      refine X_seq ?_
      refine X_region ?_
      refine XL_det .no (D_pure rfl) rfl ?_
      refine XL_then ?_
      refine X_ret ?_
      refine thenX_ret ?_
      refine ret_ok (.nil _) (res_tmp rfl rfl) ?_
      exact ⟨[K, Ki], ⟨rfl, rfl⟩, _, (by repeat first | with_reducible exact .nil _ | with_reducible exact .here _ _ | exact .here _ _ | with_reducible exact Take.self _ | with_reducible apply Take.cons | with_reducible apply Out.there | with_reducible apply Take.skip | with_reducible exact Take.pre _ _ | with_reducible apply Out.app)⟩
    · try simp only [decide_eq_true_eq, decide_eq_false_iff_not, Bool.not_eq_true', Bool.not_eq_false', beq_iff_eq, bne_iff_ne, beq_eq_false_iff_ne, bne_eq_false_iff_eq, Int.not_lt, Int.not_le, gt_iff_lt, ge_iff_le, ne_eq] at h2
      have hR := hbr h2
      have hT := hR.long
      have hnt := hR.nt
      refine XL_det (.yes 24 rfl rfl rfl) (D_pure rfl) rfl ?_
      refine XL_call (.yes 24 rfl rfl rfl) en_11 rfl (ogreat l hl) (by repeat first | with_reducible exact .nil _ | with_reducible exact .here _ _ | with_reducible exact Take.self _ | with_reducible apply Take.cons | with_reducible apply Out.there | with_reducible apply Take.skip | with_reducible exact Take.pre _ _ | with_reducible apply Out.app) rfl ?_
      rintro _ _ ⟨bg, rfl, hbg, rfl⟩
      simp only [List.cons_append, List.nil_append]
      refine XL_det .no (D_pure rfl) rfl ?_
      refine XL_then ?_
      refine X_cond rfl (fun h3 => ?_) (fun h3 => ?_)
      · try simp only [decide_eq_true_eq, decide_eq_false_iff_not, Bool.not_eq_true', Bool.not_eq_false', beq_iff_eq, bne_iff_ne, beq_eq_false_iff_ne, bne_eq_false_iff_eq, Int.not_lt, Int.not_le, gt_iff_lt, ge_iff_le, ne_eq] at h3
        refine X_seq ?_
        refine X_region ?_
        refine XL_det .no (D_pure rfl) rfl ?_
        refine XL_then ?_
        refine X_ret ?_
        refine thenX_ret ?_
        refine ret_ok (.nil _) (res_tmp rfl rfl) ?_
        exact ⟨[K, Ki], ⟨rfl, rfl⟩, _, (by repeat first | with_reducible exact .nil _ | with_reducible exact .here _ _ | exact .here _ _ | with_reducible exact Take.self _ | with_reducible apply Take.cons | with_reducible apply Out.there | with_reducible apply Take.skip | with_reducible exact Take.pre _ _ | with_reducible apply Out.app)⟩
      · try simp only [decide_eq_true_eq, decide_eq_false_iff_not, Bool.not_eq_true', Bool.not_eq_false', beq_iff_eq, bne_iff_ne, beq_eq_false_iff_ne, bne_eq_false_iff_eq, Int.not_lt, Int.not_le, gt_iff_lt, ge_iff_le, ne_eq] at h3
        have hLL := hbg h3
        have hnl := hLL.n
        refine X_skip ?_
        refine thenX_normal ?_
        refine X_seq ?_
        refine X_region ?_
        refine XL_call .no en_12 rfl (snew) (by repeat first | with_reducible exact .nil _ | with_reducible exact .here _ _ | with_reducible exact Take.self _ | with_reducible apply Take.cons | with_reducible apply Out.there | with_reducible apply Take.skip | with_reducible exact Take.pre _ _ | with_reducible apply Out.app) rfl ?_
        rintro _ _ ⟨c, rfl, rfl⟩
        simp only [List.cons_append, List.nil_append]
        refine XL_det .no (D_pure rfl) rfl ?_
        refine XL_then ?_
        refine X_seq ?_
        refine X_seq ?_
        refine X_region ?_
        refine XL_det .no (D_pure rfl) rfl ?_
        refine XL_det .no (D_ptrnil rfl rfl ptr_30 rfl) rfl ?_
        refine XL_then ?_
        refine X_cond_f rfl rfl ?_
        refine X_skip ?_
        refine thenX_normal ?_
        refine X_seq ?_
        refine X_region ?_
        refine XL_call .no en_27 rfl (rnew26) (by repeat first | with_reducible exact .nil _ | with_reducible exact .here _ _ | with_reducible exact Take.self _ | with_reducible apply Take.cons | with_reducible apply Out.there | with_reducible apply Take.skip | with_reducible exact Take.pre _ _ | with_reducible apply Out.app) rfl ?_
        rintro _ _ ⟨rfl, rfl⟩
        simp only [List.cons_append, List.nil_append]
        refine XL_alloc (cs := srC sr0) .no zero_69 rfl (fun b2 => ?_)
        refine XL_efd .no (F_stw rfl rfl rfl (by repeat first | with_reducible exact .here _ _ | with_reducible apply Out.there | with_reducible apply Out.app) tk_69 rfl rfl) ?_
        refine XL_then ?_
        refine X_seq ?_
        refine X_seq ?_
        refine X_region ?_
        refine XL_det .no (D_pure rfl) rfl ?_
        refine XL_then ?_
        refine X_block ?_
        refine X_loop (α := Nat × Cr × Sr) (fun ⟨i, z, s⟩ => i ≤ l.l.length ∧ Like z s ∧ z.now ≤ 50 * i) (fun ⟨i, z, s⟩ => [(7, .int .i64 (i : Int)), (1, .slice l.oad l.l.length l.c), (2, .pointer (some ⟨b1, 0, none⟩)), (5, .pointer (some ⟨c, 0, none⟩)), (6, .pointer (some ⟨b2, 0, none⟩))]) (fun ⟨i, z, s⟩ => [blk b1 [.int .i64 x.res, .slice x.tasks.oad x.tasks.l.length x.tasks.c, .slice x.modes.oad x.modes.l.length x.modes.c, .slice x.edges.oad x.edges.l.length x.edges.c] 26, blk c (crC (z)) 110, many 16 (rowS z.jf), blk b2 (srC s) 69, many 16 (rowS s.jf), K, Ki]) (fun ⟨i, z, s⟩ => l.l.length - i) (0, cr0, srN 8) ?_ (by refine ⟨?_, ?_, ?_, ?_, ?_, trivial⟩ <;> rfl) (by repeat first | with_reducible exact .nil _ | with_reducible exact .here _ _ | with_reducible exact Take.self _ | with_reducible apply Take.cons | with_reducible apply Out.there | with_reducible apply Take.skip | with_reducible exact Take.pre _ _ | with_reducible apply Out.app) ?_
        · exact ⟨by omega, Like.zero, by show (0 : Int) ≤ _; omega⟩
        · rintro ⟨i, z, s⟩ ⟨hi, hL, hnow⟩
          dsimp only
          refine X_seq ?_
          refine X_seq ?_
          refine X_region ?_
          refine XL_det .no (D_pure rfl) rfl ?_
          refine XL_det .no (D_pure rfl) rfl ?_
          refine XL_det .no (D_len rfl rfl slc_27) rfl ?_
          refine XL_det .no (D_pure rfl) rfl ?_
          refine XL_then ?_
          refine X_cond rfl (fun h4 => ?_) (fun h4 => ?_)
          · try simp only [decide_eq_true_eq, decide_eq_false_iff_not, Bool.not_eq_true', Bool.not_eq_false', beq_iff_eq, bne_iff_ne, beq_eq_false_iff_ne, bne_eq_false_iff_eq, Int.not_lt, Int.not_le, gt_iff_lt, ge_iff_le, ne_eq] at h4
            have h0n := hL.ok.now
            obtain ⟨o, ho⟩ : ∃ o, l.l[i]? = some o := ⟨_, List.getElem?_eq_getElem (by omega)⟩
            have hto := ticks_in o
            obtain ⟨kq, hq1, hq2, hq3, hq4⟩ := idx_of o.kind (n := 6) (by decide)
            have hq2 : Int.tmod (Int.tmod o.kind 6 + 6) 6 = kq := hq2
            have hq3 : -6 < Int.tmod o.kind 6 := hq3
            have hq4 : Int.tmod o.kind 6 < 6 := hq4
            obtain ⟨k, hk1, hk2, hk3, hk4⟩ := idx_of o.task (n := x.tasks.l.length) (by omega)
            obtain ⟨e, he⟩ : ∃ e, x.tasks.l[k]? = some e := ⟨_, List.getElem?_eq_getElem hk1⟩
            have hE := hR.tasks e (List.mem_of_getElem? he)
            have hE0 := hE.p
            have hE1 := hE.d
            have hE2 := hE.c
            refine X_skip ?_
            refine thenX_normal ?_
            refine X_seq ?_
            refine X_block ?_
            refine X_seq ?_
            refine X_region ?_
            refine XL_det .no (D_pure rfl) rfl ?_
            refine XL_det .no (D_pure rfl) rfl ?_
            refine XL_det .no (D_idxSo rfl rfl slc_27 (l).nil0 rfl (by omega) rfl) rfl ?_
            refine XL_det .no (D_els (enc := encOp) (sz := 5) (i := i) (fun _ => rfl) rfl (by repeat first | with_reducible exact .here _ _ | with_reducible apply Out.there | with_reducible apply Out.app) hl.ops tk_41 ho) rfl ?_
            refine XL_alloc .no zero_41 rfl (fun b3 => ?_)
            refine XL_efd .no (F_stw rfl rfl rfl (by repeat first | with_reducible exact .here _ _ | with_reducible apply Out.there | with_reducible apply Out.app) tk_41 rfl rfl) ?_
            refine XL_then ?_
            refine X_seqj (α := Cr × Sr) (fun ⟨z3, s3⟩ => Like z3 s3 ∧ z3.now ≤ 50 * i + 50) (fun ⟨z3, s3⟩ => [(1, .slice l.oad l.l.length l.c), (2, .pointer (some ⟨b1, 0, none⟩)), (5, .pointer (some ⟨c, 0, none⟩)), (6, .pointer (some ⟨b2, 0, none⟩)), (7, .int .i64 (i : Int))]) (fun ⟨z3, s3⟩ => [blk b1 [.int .i64 x.res, .slice x.tasks.oad x.tasks.l.length x.tasks.c, .slice x.modes.oad x.modes.l.length x.modes.c, .slice x.edges.oad x.edges.l.length x.edges.c] 26, blk c (crC (z3)) 110, many 16 (rowS z3.jf), blk b2 (srC s3) 69, many 16 (rowS s3.jf), K, Ki]) ?_ ?_
            · skip
              refine X_seq ?_
              refine X_region ?_
              refine XL_det .no (D_fld rfl fld_41_0 (o' := 0) rfl) rfl ?_
              refine XL_det .no (D_ldo rfl (by repeat first | with_reducible exact .here _ _ | with_reducible apply Out.there | with_reducible apply Out.app) tk_3 (by rfl)) rfl ?_
              refine XL_det .no (D_divmod rfl rfl (by omega) rfl) rfl ?_
              refine XL_det .no (D_add rfl rfl (by omega) (by omega)) rfl ?_
              refine XL_det .no (D_divmod (z := ((kq : Nat) : Int)) rfl rfl (by omega) hq2) rfl ?_
              refine XL_then ?_
              refine X_block ?_
              refine X_seqj (α := Bool) (fun bk => True) (fun bk => [(75, .bool bk), (1, .slice l.oad l.l.length l.c), (2, .pointer (some ⟨b1, 0, none⟩)), (5, .pointer (some ⟨c, 0, none⟩)), (6, .pointer (some ⟨b2, 0, none⟩)), (7, .int .i64 (i : Int)), (8, .pointer (some ⟨b3, 0, none⟩)), (46, .int .i64 (kq : Int))]) (fun bk => [blk b1 [.int .i64 x.res, .slice x.tasks.oad x.tasks.l.length x.tasks.c, .slice x.modes.oad x.modes.l.length x.modes.c, .slice x.edges.oad x.edges.l.length x.edges.c] 26, blk c (crC (z)) 110, many 16 (rowS z.jf), blk b2 (srC s) 69, blk b3 (encOp o) 41, many 16 (rowS s.jf), K, Ki]) ?_ ?_
              · skip
                refine X_seq ?_
                refine X_region ?_
                refine XL_det .no (D_pure rfl) rfl ?_
                refine XL_det .no (D_pure rfl) rfl ?_
                refine XL_then ?_
                refine X_cond rfl (fun h5 => ?_) (fun h5 => ?_)
                · try simp only [decide_eq_true_eq, decide_eq_false_iff_not, Bool.not_eq_true', Bool.not_eq_false', beq_iff_eq, bne_iff_ne, beq_eq_false_iff_ne, bne_eq_false_iff_eq, Int.not_lt, Int.not_le, gt_iff_lt, ge_iff_le, ne_eq] at h5
                  refine X_skip ?_
                  refine joinQ_normal ((kq : Int) == 0) ?_ ?_ ?_
                  · trivial
                  · refine ⟨?_, ?_, ?_, ?_, ?_, ?_, ?_, ?_, trivial⟩ <;> rfl
                  · exact ⟨_, (by repeat first | with_reducible exact .nil _ | with_reducible exact .here _ _ | with_reducible exact Take.self _ | with_reducible apply Take.cons | with_reducible apply Out.there | with_reducible apply Take.skip | with_reducible exact Take.pre _ _ | with_reducible apply Out.app)⟩
                · try simp only [decide_eq_true_eq, decide_eq_false_iff_not, Bool.not_eq_true', Bool.not_eq_false', beq_iff_eq, bne_iff_ne, beq_eq_false_iff_ne, bne_eq_false_iff_eq, Int.not_lt, Int.not_le, gt_iff_lt, ge_iff_le, ne_eq] at h5
                  refine X_region ?_
                  refine XL_det .no (D_pure rfl) rfl ?_
                  refine XL_det .no (D_pure rfl) rfl ?_
                  refine XL_nil ?_
                  refine joinQ_normal ((kq : Int) == 1) ?_ ?_ ?_
                  · trivial
                  · refine ⟨?_, ?_, ?_, ?_, ?_, ?_, ?_, ?_, trivial⟩ <;> rfl
                  · exact ⟨_, (by repeat first | with_reducible exact .nil _ | with_reducible exact .here _ _ | with_reducible exact Take.self _ | with_reducible apply Take.cons | with_reducible apply Out.there | with_reducible apply Take.skip | with_reducible exact Take.pre _ _ | with_reducible apply Out.app)⟩
              · rintro bk _
                refine X_cond rfl (fun h6 => ?_) (fun h6 => ?_)
                · try simp only [decide_eq_true_eq, decide_eq_false_iff_not, Bool.not_eq_true', Bool.not_eq_false', beq_iff_eq, bne_iff_ne, beq_eq_false_iff_ne, bne_eq_false_iff_eq, Int.not_lt, Int.not_le, gt_iff_lt, ge_iff_le, ne_eq] at h6
                  refine X_seq ?_
                  refine X_draw [blk b3 (encOp o) 41, blk b1 [.int .i64 x.res, .slice x.tasks.oad x.tasks.l.length x.tasks.c, .slice x.modes.oad x.modes.l.length x.modes.c, .slice x.edges.oad x.edges.l.length x.edges.c] 26] mixed (by repeat first | with_reducible exact .nil _ | with_reducible exact .here _ _ | with_reducible exact Take.self _ | with_reducible apply Take.cons | with_reducible apply Out.there | with_reducible apply Take.skip | with_reducible exact Take.pre _ _ | with_reducible apply Out.app) ?_
                  refine XA_detp 0 rfl (by kernel_rfl) (by kernel_rfl) (by kernel_rfl) (fun _ _ _ _ h => h) .no (D_fldP rfl fld_41_1 (o' := 1) rfl) rfl ?_
                  refine XA_det 1 rfl (by kernel_rfl) (by kernel_rfl) (by kernel_rfl) (by kernel_rfl) (fun _ _ _ _ h => h) .no (D_ldo rfl (by repeat first | with_reducible exact .here _ _ | with_reducible apply Out.there | with_reducible apply Out.app) tk_3 (by rfl)) rfl ?_
                  refine XA_detp 2 rfl (by kernel_rfl) (by kernel_rfl) (by kernel_rfl) (fun _ _ _ _ h => h) .no (D_fldP rfl fld_26_1 (o' := 1) rfl) rfl ?_
                  refine XA_det 3 rfl (by kernel_rfl) (by kernel_rfl) (by kernel_rfl) (by kernel_rfl) (fun _ _ _ _ h => h) .no (D_ldo rfl (by repeat first | with_reducible exact .here _ _ | with_reducible apply Out.there | with_reducible apply Out.app) tk_22 (by rfl)) rfl ?_
                  refine XA_detp 4 rfl (by kernel_rfl) (by kernel_rfl) (by kernel_rfl) (fun _ _ _ _ h => h) .no (D_lenP rfl rfl slc_22) rfl ?_
                  refine XA_det 5 rfl (by kernel_rfl) (by kernel_rfl) (by kernel_rfl) (by kernel_rfl) (fun _ _ _ _ h => h) .no (D_divmod rfl rfl (by omega) rfl) rfl ?_
                  refine XA_detp 6 rfl (by kernel_rfl) (by kernel_rfl) (by kernel_rfl) (fun _ _ _ _ h => h) .no (D_fldP rfl fld_26_1 (o' := 1) rfl) rfl ?_
                  refine XA_det 7 rfl (by kernel_rfl) (by kernel_rfl) (by kernel_rfl) (by kernel_rfl) (fun _ _ _ _ h => h) .no (D_ldo rfl (by repeat first | with_reducible exact .here _ _ | with_reducible apply Out.there | with_reducible apply Out.app) tk_22 (by rfl)) rfl ?_
                  refine XA_detp 8 rfl (by kernel_rfl) (by kernel_rfl) (by kernel_rfl) (fun _ _ _ _ h => h) .no (D_lenP rfl rfl slc_22) rfl ?_
                  refine XA_det 9 rfl (by kernel_rfl) (by kernel_rfl) (by kernel_rfl) (by kernel_rfl) (fun _ _ _ _ h => h) .no (D_add rfl rfl (by omega) (by omega)) rfl ?_
                  refine XA_detp 10 rfl (by kernel_rfl) (by kernel_rfl) (by kernel_rfl) (fun _ _ _ _ h => h) .no (D_fldP rfl fld_26_1 (o' := 1) rfl) rfl ?_
                  refine XA_det 11 rfl (by kernel_rfl) (by kernel_rfl) (by kernel_rfl) (by kernel_rfl) (fun _ _ _ _ h => h) .no (D_ldo rfl (by repeat first | with_reducible exact .here _ _ | with_reducible apply Out.there | with_reducible apply Out.app) tk_22 (by rfl)) rfl ?_
                  refine XA_detp 12 rfl (by kernel_rfl) (by kernel_rfl) (by kernel_rfl) (fun _ _ _ _ h => h) .no (D_lenP rfl rfl slc_22) rfl ?_
                  refine XA_det 13 rfl (by kernel_rfl) (by kernel_rfl) (by kernel_rfl) (by kernel_rfl) (fun _ _ _ _ h => h) .no (D_divmod (z := ((k : Nat) : Int)) rfl rfl (by omega) hk2) rfl ?_
                  refine XA_detp 14 rfl (by kernel_rfl) (by kernel_rfl) (by kernel_rfl) (fun _ _ _ _ h => h) .no (D_pureP rfl) rfl ?_
                  refine XA_done (by kernel_rfl) ?_
                  try simp only [List.cons_append, List.nil_append, List.append_nil]
                  refine thenX_normal ?_
                  refine X_seq ?_
                  refine X_region ?_
                  refine XL_det .no (D_pure rfl) rfl ?_
                  refine XL_then ?_
                  refine X_seq ?_
                  refine X_draw [blk b3 (encOp o) 41, blk b1 [.int .i64 x.res, .slice x.tasks.oad x.tasks.l.length x.tasks.c, .slice x.modes.oad x.modes.l.length x.modes.c, .slice x.edges.oad x.edges.l.length x.edges.c] 26, Ki] mixed (by repeat first | with_reducible exact .nil _ | with_reducible exact .here _ _ | with_reducible exact Take.self _ | with_reducible apply Take.cons | with_reducible apply Out.there | with_reducible apply Take.skip | with_reducible exact Take.pre _ _ | with_reducible apply Out.app) ?_
                  refine XA_detp 0 rfl (by kernel_rfl) (by kernel_rfl) (by kernel_rfl) (fun _ _ _ _ h => h) .no (D_pureP rfl) rfl ?_
                  refine XA_detp 1 rfl (by kernel_rfl) (by kernel_rfl) (by kernel_rfl) (fun _ _ _ _ h => h) .no (D_pureP rfl) rfl ?_
                  refine XA_detp 2 rfl (by kernel_rfl) (by kernel_rfl) (by kernel_rfl) (fun _ _ _ _ h => h) .no (D_fldP rfl fld_26_1 (o' := 1) rfl) rfl ?_
                  refine XA_det 3 rfl (by kernel_rfl) (by kernel_rfl) (by kernel_rfl) (by kernel_rfl) (fun _ _ _ _ h => h) .no (D_ldo rfl (by repeat first | with_reducible exact .here _ _ | with_reducible apply Out.there | with_reducible apply Out.app) tk_22 (by rfl)) rfl ?_
                  refine XA_detp 4 rfl (by kernel_rfl) (by kernel_rfl) (by kernel_rfl) (fun _ _ _ _ h => h) .no (D_pureP rfl) rfl ?_
                  refine XA_detp 5 rfl (by kernel_rfl) (by kernel_rfl) (by kernel_rfl) (fun _ _ _ _ h => h) .no (D_idxSoP rfl rfl slc_22 (x.tasks).nil0 rfl (by omega) rfl) rfl ?_
                  refine XA_det 6 rfl (by kernel_rfl) (by kernel_rfl) (by kernel_rfl) (by kernel_rfl) (fun _ _ _ _ h => h) .no (D_els (enc := encT) (sz := 11) (i := k) (fun _ => rfl) rfl (by repeat first | with_reducible exact .here _ _ | with_reducible apply Out.there | with_reducible apply Out.app) hx.tasks tk_48 he) rfl ?_
                  refine XA_detp 7 rfl (by kernel_rfl) (by kernel_rfl) (by kernel_rfl) (fun _ _ _ _ h => h) .no (D_pureP rfl) rfl ?_
                  refine XA_detp 9 rfl (by kernel_rfl) (by kernel_rfl) (by kernel_rfl) (fun _ _ _ _ h => h) .no (D_fldP rfl fld_41_2 (o' := 2) rfl) rfl ?_
                  refine XA_det 10 rfl (by kernel_rfl) (by kernel_rfl) (by kernel_rfl) (by kernel_rfl) (fun _ _ _ _ h => h) .no (D_ldo rfl (by repeat first | with_reducible exact .here _ _ | with_reducible apply Out.there | with_reducible apply Out.app) tk_3 (by rfl)) rfl ?_
                  refine XA_detp 11 rfl (by kernel_rfl) (by kernel_rfl) (by kernel_rfl) (fun _ _ _ _ h => h) .no (D_fldP rfl fld_41_4 (o' := 4) rfl) rfl ?_
                  refine XA_det 12 rfl (by kernel_rfl) (by kernel_rfl) (by kernel_rfl) (by kernel_rfl) (fun _ _ _ _ h => h) .no (D_ldo rfl (by repeat first | with_reducible exact .here _ _ | with_reducible apply Out.there | with_reducible apply Out.app) tk_39 (by rfl)) rfl ?_
                  refine XA_one 8 (by kernel_rfl) ?_
                  refine XO_callk rfl .no en_17 rfl (by repeat first | with_reducible exact .nil _ | with_reducible apply App.cons) (snow c z) (by repeat first | with_reducible exact .nil _ | with_reducible exact .here _ _ | with_reducible exact Take.self _ | with_reducible apply Take.cons | with_reducible apply Out.there | with_reducible apply Take.skip | with_reducible exact Take.pre _ _ | with_reducible apply Out.app) rfl ?_
                  refine XA_one 13 (by kernel_rfl) ?_
                  refine XO_callc rfl .no en_16 rfl (by repeat first | with_reducible exact .nil _ | with_reducible apply App.cons) (jnew (k : Int) z.now e o.cost o.secs (hl.secs o (List.mem_of_getElem? ho)) (fun j hj => (hE.l j hj).1) (by omega) (by omega) (by omega)) (by repeat first | with_reducible exact .nil _ | with_reducible exact .here _ _ | with_reducible exact Take.self _ | with_reducible apply Take.cons | with_reducible apply Out.there | with_reducible apply Take.skip | with_reducible exact Take.pre _ _ | with_reducible apply Out.app) rfl ?_
                  rintro _ _ ⟨x1, ⟨hx1, hx1o⟩, rfl, rfl⟩
                  simp only [List.cons_append, List.nil_append]
                  refine ⟨[row (.slice x1.oad x1.l.length x1.c) 123 3 x1.l.length (x1.l.flatMap encS), blk c (crC (z)) 110, many 16 (rowS z.jf), blk b2 (srC s) 69, many 16 (rowS s.jf), K], _, _, (by repeat first | with_reducible exact .nil _ | with_reducible apply App.cons), (by repeat first | with_reducible exact .nil _ | with_reducible exact .here _ _ | with_reducible exact Take.self _ | with_reducible apply Take.cons | with_reducible apply Out.there | with_reducible apply Take.skip | with_reducible exact Take.pre _ _ | with_reducible apply Out.app), ?_⟩
                  refine XA_one 14 (by kernel_rfl) ?_
                  refine XO_callc rfl .no en_15 rfl (by repeat first | with_reducible exact .nil _ | with_reducible apply App.cons) (srelease c z (Kj := row (.slice x1.oad x1.l.length x1.c) 123 3 x1.l.length (x1.l.flatMap encS)) (JN k z e (min (max o.cost 1) (e 2)) x1) (Rd_own hx1o rfl) hx1o (by show x1.l.length ≤ 1000; rw [hx1]; have := secs_len (T := e) (cost := min (max o.cost 1) (e 2)) o.secs.l 0 0 (by decide); omega) hL.ok hK) (by repeat first | with_reducible exact .nil _ | with_reducible exact .here _ _ | with_reducible exact Take.self _ | with_reducible apply Take.cons | with_reducible apply Out.there | with_reducible apply Take.skip | with_reducible exact Take.pre _ _ | with_reducible apply Out.app) rfl ?_
                  rintro _ _ ⟨a, ⟨ha, hao, rfl⟩, rfl⟩
                  simp only [List.cons_append, List.nil_append]
                  refine ⟨[blk c (crC ((relC z (JN k z e (min (max o.cost 1) (e 2)) x1) a))) 110, many 16 (rowS (relC z (JN k z e (min (max o.cost 1) (e 2)) x1) a).jf), blk b2 (srC s) 69, many 16 (rowS s.jf), K], _, _, (by repeat first | with_reducible exact .nil _ | with_reducible apply App.cons), (by repeat first | with_reducible exact .nil _ | with_reducible exact .here _ _ | with_reducible exact Take.self _ | with_reducible apply Take.cons | with_reducible apply Out.there | with_reducible apply Take.skip | with_reducible exact Take.pre _ _ | with_reducible apply Out.app), ?_⟩
                  refine XA_detp 15 rfl (by kernel_rfl) (by kernel_rfl) (by kernel_rfl) (fun _ _ _ _ h => h) .no (D_pureP rfl) rfl ?_
                  refine XA_done (by kernel_rfl) ?_
                  try simp only [List.cons_append, List.nil_append, List.append_nil]
                  refine thenX_normal ?_
                  refine X_seq ?_
                  refine X_draw [blk b3 (encOp o) 41, blk b1 [.int .i64 x.res, .slice x.tasks.oad x.tasks.l.length x.tasks.c, .slice x.modes.oad x.modes.l.length x.modes.c, .slice x.edges.oad x.edges.l.length x.edges.c] 26, blk b2 (srC s) 69, Ki] mixed (by repeat first | with_reducible exact .nil _ | with_reducible exact .here _ _ | with_reducible exact Take.self _ | with_reducible apply Take.cons | with_reducible apply Out.there | with_reducible apply Take.skip | with_reducible exact Take.pre _ _ | with_reducible apply Out.app) ?_
                  refine XA_det 0 rfl (by kernel_rfl) (by kernel_rfl) (by kernel_rfl) (by kernel_rfl) (fun _ _ _ _ h => h) .no (D_ldso (vs := srC s) rfl (by repeat first | with_reducible exact .here _ _ | with_reducible apply Out.there | with_reducible apply Out.app) tk_69 rfl (by rw [List.drop_zero, List.take_of_length_le (by rw [sr_len]; exact Nat.le_refl _)])) rfl ?_
                  refine XA_detp 1 rfl (by kernel_rfl) (by kernel_rfl) (by kernel_rfl) (fun _ _ _ _ h => h) .no (D_pureP rfl) rfl ?_
                  refine XA_detp 2 rfl (by kernel_rfl) (by kernel_rfl) (by kernel_rfl) (fun _ _ _ _ h => h) .no (D_fldP rfl fld_26_1 (o' := 1) rfl) rfl ?_
                  refine XA_det 3 rfl (by kernel_rfl) (by kernel_rfl) (by kernel_rfl) (by kernel_rfl) (fun _ _ _ _ h => h) .no (D_ldo rfl (by repeat first | with_reducible exact .here _ _ | with_reducible apply Out.there | with_reducible apply Out.app) tk_22 (by rfl)) rfl ?_
                  refine XA_detp 4 rfl (by kernel_rfl) (by kernel_rfl) (by kernel_rfl) (fun _ _ _ _ h => h) .no (D_pureP rfl) rfl ?_
                  refine XA_detp 5 rfl (by kernel_rfl) (by kernel_rfl) (by kernel_rfl) (fun _ _ _ _ h => h) .no (D_idxSoP rfl rfl slc_22 (x.tasks).nil0 rfl (by omega) rfl) rfl ?_
                  refine XA_det 6 rfl (by kernel_rfl) (by kernel_rfl) (by kernel_rfl) (by kernel_rfl) (fun _ _ _ _ h => h) .no (D_els (enc := encT) (sz := 11) (i := k) (fun _ => rfl) rfl (by repeat first | with_reducible exact .here _ _ | with_reducible apply Out.there | with_reducible apply Out.app) hx.tasks tk_48 he) rfl ?_
                  refine XA_detp 7 rfl (by kernel_rfl) (by kernel_rfl) (by kernel_rfl) (fun _ _ _ _ h => h) .no (D_fldP rfl fld_41_2 (o' := 2) rfl) rfl ?_
                  refine XA_det 8 rfl (by kernel_rfl) (by kernel_rfl) (by kernel_rfl) (by kernel_rfl) (fun _ _ _ _ h => h) .no (D_ldo rfl (by repeat first | with_reducible exact .here _ _ | with_reducible apply Out.there | with_reducible apply Out.app) tk_3 (by rfl)) rfl ?_
                  refine XA_detp 9 rfl (by kernel_rfl) (by kernel_rfl) (by kernel_rfl) (fun _ _ _ _ h => h) .no (D_fldP rfl fld_41_4 (o' := 4) rfl) rfl ?_
                  refine XA_det 10 rfl (by kernel_rfl) (by kernel_rfl) (by kernel_rfl) (by kernel_rfl) (fun _ _ _ _ h => h) .no (D_ldo rfl (by repeat first | with_reducible exact .here _ _ | with_reducible apply Out.there | with_reducible apply Out.app) tk_39 (by rfl)) rfl ?_
                  refine XA_one 11 (by kernel_rfl) ?_
                  refine XO_callc rfl .no en_28 rfl (by repeat first | with_reducible exact .nil _ | with_reducible apply App.cons) (rrel26 s hL.so k (by omega) e o.cost o.secs (hl.secs o (List.mem_of_getElem? ho)) (fun j hj => (hE.l j hj).1) (by rw [hL.now]; exact hL.ok.now) (by omega)) (by repeat first | with_reducible exact .nil _ | with_reducible exact .here _ _ | with_reducible exact Take.self _ | with_reducible apply Take.cons | with_reducible apply Out.there | with_reducible apply Take.skip | with_reducible exact Take.pre _ _ | with_reducible apply Out.app) rfl ?_
                  rintro _ _ ⟨y, hy, rfl, rfl⟩
                  simp only [List.cons_append, List.nil_append]
                  refine ⟨[many 16 (rowS (relR s k e (max (min o.cost (e 2)) 1) y).jf), blk c (crC ((relC z (JN k z e (min (max o.cost 1) (e 2)) x1) a))) 110, many 16 (rowS (relC z (JN k z e (min (max o.cost 1) (e 2)) x1) a).jf), K], _, _, (by repeat first | with_reducible exact .nil _ | with_reducible apply App.cons), (by repeat first | with_reducible exact .nil _ | with_reducible exact .here _ _ | with_reducible exact Take.self _ | with_reducible apply Take.cons | with_reducible apply Out.there | with_reducible apply Take.skip | with_reducible exact Take.pre _ _ | with_reducible apply Out.app), ?_⟩
                  have hlr := hL.rel (k := k) (e := e) (cost := o.cost) (l := o.secs.l) (x := x1) (a := a) (y := y) (by omega) (by omega) (fun j hj => (hE.l j hj).1) hx1 ha hao hy
                  refine XA_detp 12 rfl (by kernel_rfl) (by kernel_rfl) (by kernel_rfl) (fun _ _ _ _ h => h) .no (D_pureP rfl) rfl ?_
                  refine XA_detp 13 rfl (by kernel_rfl) (by kernel_rfl) (by kernel_rfl) (fun _ _ _ _ h => h) .no (D_pureP (v := .agg (srC ((relR s k e (max (min o.cost (e 2)) 1) y))).toArray) rfl) rfl ?_
                  refine XA_detp 14 rfl (by kernel_rfl) (by kernel_rfl) (by kernel_rfl) (fun _ _ _ _ h => h) .no (D_pureP (v := .int .i64 (relRE s k)) rfl) rfl ?_
                  refine XA_one 15 (by kernel_rfl) ?_
                  refine XO_efd rfl .no (by repeat first | with_reducible exact .nil _ | with_reducible apply App.cons) (F_stw rfl rfl rfl (by repeat first | with_reducible exact .here _ _ | with_reducible apply Out.there | with_reducible apply Out.app) tk_69 rfl rfl) (by kernel_rfl) ?_
                  refine XA_detp 16 rfl (by kernel_rfl) (by kernel_rfl) (by kernel_rfl) (fun _ _ _ _ h => h) .no (D_pureP rfl) rfl ?_
                  refine XA_done (by kernel_rfl) ?_
                  try simp only [List.cons_append, List.nil_append, List.append_nil]
                  refine thenX_normal ?_
                  refine X_seq ?_
                  refine X_region ?_
                  refine XL_det .no (D_pure rfl) rfl ?_
                  refine XL_det .no (D_pure rfl) rfl ?_
                  refine XL_det .no (D_pure (v := .bool false) (bfn (by exact hlr.2.1))) rfl ?_
                  refine XL_then ?_
                  refine X_cond_f rfl rfl ?_
                  refine X_skip ?_
                  refine inBlk_normal ?_
                  refine joinQ_normal ((relC z (JN k z e (min (max o.cost 1) (e 2)) x1) a), (relR s k e (max (min o.cost (e 2)) 1) y)) ?_ ?_ ?_
                  · exact ⟨hlr.1, by rw [hlr.2.2]; omega⟩
                  · refine ⟨?_, ?_, ?_, ?_, ?_, trivial⟩ <;> rfl
                  · exact ⟨_, (by repeat first | with_reducible exact .nil _ | with_reducible exact .here _ _ | with_reducible exact Take.self _ | with_reducible apply Take.cons | with_reducible apply Out.there | with_reducible apply Take.skip | with_reducible exact Take.pre _ _ | with_reducible apply Out.app)⟩
                · try simp only [decide_eq_true_eq, decide_eq_false_iff_not, Bool.not_eq_true', Bool.not_eq_false', beq_iff_eq, bne_iff_ne, beq_eq_false_iff_ne, bne_eq_false_iff_eq, Int.not_lt, Int.not_le, gt_iff_lt, ge_iff_le, ne_eq] at h6
                  refine X_seq ?_
                  refine X_region ?_
                  refine XL_det .no (D_pure rfl) rfl ?_
                  refine XL_det .no (D_pure rfl) rfl ?_
                  refine XL_then ?_
                  refine X_cond rfl (fun h7 => ?_) (fun h7 => ?_)
                  · try simp only [decide_eq_true_eq, decide_eq_false_iff_not, Bool.not_eq_true', Bool.not_eq_false', beq_iff_eq, bne_iff_ne, beq_eq_false_iff_ne, bne_eq_false_iff_eq, Int.not_lt, Int.not_le, gt_iff_lt, ge_iff_le, ne_eq] at h7
                    refine X_seq ?_
                    refine X_region ?_
                    refine XL_det .no (D_ldso (vs := [.int .i64 x.res, .slice x.tasks.oad x.tasks.l.length x.tasks.c, .slice x.modes.oad x.modes.l.length x.modes.c, .slice x.edges.oad x.edges.l.length x.edges.c]) rfl (by repeat first | with_reducible exact .here _ _ | with_reducible apply Out.there | with_reducible apply Out.app) tk_26 rfl (by rfl)) rfl ?_
                    refine XL_det .no (D_fld rfl fld_41_3 (o' := 3) rfl) rfl ?_
                    refine XL_det .no (D_ldo rfl (by repeat first | with_reducible exact .here _ _ | with_reducible apply Out.there | with_reducible apply Out.app) tk_37 (by rfl)) rfl ?_
                    refine XL_callk .no en_29 rfl (lwithin x hx hnt.2 o.set) (by repeat first | with_reducible exact .nil _ | with_reducible exact .here _ _ | with_reducible exact Take.self _ | with_reducible apply Take.cons | with_reducible apply Out.there | with_reducible apply Take.skip | with_reducible exact Take.pre _ _ | with_reducible apply Out.app) rfl ?_
                    refine XL_det .no (D_pure rfl) rfl ?_
                    refine XL_then ?_
                    refine X_seq ?_
                    refine X_region ?_
                    refine XL_det .no (D_pure rfl) rfl ?_
                    refine XL_det .no (D_ldso (vs := [.int .i64 x.res, .slice x.tasks.oad x.tasks.l.length x.tasks.c, .slice x.modes.oad x.modes.l.length x.modes.c, .slice x.edges.oad x.edges.l.length x.edges.c]) rfl (by repeat first | with_reducible exact .here _ _ | with_reducible apply Out.there | with_reducible apply Out.app) tk_26 rfl (by rfl)) rfl ?_
                    refine XL_det .no (D_pure rfl) rfl ?_
                    refine XL_callk .no en_14 rfl (cof x hx (wN o.set x.tasks.l.length) hK) (by repeat first | with_reducible exact .nil _ | with_reducible exact .here _ _ | with_reducible exact Take.self _ | with_reducible apply Take.cons | with_reducible apply Out.there | with_reducible apply Take.skip | with_reducible exact Take.pre _ _ | with_reducible apply Out.app) rfl ?_
                    refine XL_call .no en_13 rfl (sceil c z (ceilF x.tasks.l (wN o.set x.tasks.l.length)) hL.ok (fun r _ => ceilV_in _ _ r) hK hd) (by repeat first | with_reducible exact .nil _ | with_reducible exact .here _ _ | with_reducible exact Take.self _ | with_reducible apply Take.cons | with_reducible apply Out.there | with_reducible apply Take.skip | with_reducible exact Take.pre _ _ | with_reducible apply Out.app) rfl ?_
                    rintro _ _ ⟨rfl, rfl⟩
                    simp only [List.cons_append, List.nil_append]
                    rw [show (rowS z.jf : Nat → Asrt B) = rowS (ceilC z (ceilF x.tasks.l (wN o.set x.tasks.l.length))).jf from rfl]
                    refine XL_then ?_
                    refine X_seq ?_
                    refine X_region ?_
                    refine XL_det .no (D_pure rfl) rfl ?_
                    refine XL_then ?_
                    refine X_block ?_
                    rw [show srC s = srC (⟨s.jf, s.lv, tabN s.tab (ceilF x.tasks.l (wN o.set x.tasks.l.length)) 0, s.now⟩ : Sr) from by rw [tabN_0]]
                    refine X_loop (α := Nat) (fun r => r ≤ 8) (fun r => [(13, .int .i64 (r : Int)), (1, .slice l.oad l.l.length l.c), (2, .pointer (some ⟨b1, 0, none⟩)), (5, .pointer (some ⟨c, 0, none⟩)), (6, .pointer (some ⟨b2, 0, none⟩)), (7, .int .i64 (i : Int)), (8, .pointer (some ⟨b3, 0, none⟩)), (12, .int .u32 (wN o.set x.tasks.l.length).toNat)]) (fun r => [blk b1 [.int .i64 x.res, .slice x.tasks.oad x.tasks.l.length x.tasks.c, .slice x.modes.oad x.modes.l.length x.modes.c, .slice x.edges.oad x.edges.l.length x.edges.c] 26, blk c (crC ((ceilC z (ceilF x.tasks.l (wN o.set x.tasks.l.length))))) 110, many 16 (rowS (ceilC z (ceilF x.tasks.l (wN o.set x.tasks.l.length))).jf), blk b2 (srC (⟨s.jf, s.lv, tabN s.tab (ceilF x.tasks.l (wN o.set x.tasks.l.length)) r, s.now⟩ : Sr)) 69, many 16 (rowS s.jf), K, Ki]) (fun r => 8 - r) 0 ?_ (by refine ⟨?_, ?_, ?_, ?_, ?_, ?_, ?_, ?_, trivial⟩ <;> rfl) (by repeat first | with_reducible exact .nil _ | with_reducible exact .here _ _ | with_reducible exact Take.self _ | with_reducible apply Take.cons | with_reducible apply Out.there | with_reducible apply Take.skip | with_reducible exact Take.pre _ _ | with_reducible apply Out.app) ?_
                    · omega
                    · rintro r hr
                      refine X_seq ?_
                      refine X_seq ?_
                      refine X_region ?_
                      refine XL_det .no (D_pure rfl) rfl ?_
                      refine XL_det .no (D_pure rfl) rfl ?_
                      refine XL_then ?_
                      refine X_cond rfl (fun h8 => ?_) (fun h8 => ?_)
                      · try simp only [decide_eq_true_eq, decide_eq_false_iff_not, Bool.not_eq_true', Bool.not_eq_false', beq_iff_eq, bne_iff_ne, beq_eq_false_iff_ne, bne_eq_false_iff_eq, Int.not_lt, Int.not_le, gt_iff_lt, ge_iff_le, ne_eq] at h8
                        refine X_skip ?_
                        refine thenX_normal ?_
                        refine X_seq ?_
                        refine X_block ?_
                        refine X_region ?_
                        refine XL_det .no (D_pure rfl) rfl ?_
                        refine XL_det .no (D_ldso (vs := [.int .i64 x.res, .slice x.tasks.oad x.tasks.l.length x.tasks.c, .slice x.modes.oad x.modes.l.length x.modes.c, .slice x.edges.oad x.edges.l.length x.edges.c]) rfl (by repeat first | with_reducible exact .here _ _ | with_reducible apply Out.there | with_reducible apply Out.app) tk_26 rfl (by rfl)) rfl ?_
                        refine XL_det .no (D_pure rfl) rfl ?_
                        refine XL_det .no (D_pure rfl) rfl ?_
                        refine XL_callk .no en_30 rfl (rceil x hx hnt.2 (wN o.set x.tasks.l.length) r (by omega)) (by repeat first | with_reducible exact .nil _ | with_reducible exact .here _ _ | with_reducible exact Take.self _ | with_reducible apply Take.cons | with_reducible apply Out.there | with_reducible apply Take.skip | with_reducible exact Take.pre _ _ | with_reducible apply Out.app) rfl ?_
                        refine XL_det .no (D_fld rfl fld_69_1 (o' := 96) rfl) rfl ?_
                        refine XL_det .no (D_idxA rfl rfl arr_33 rfl (by omega) rfl) rfl ?_
                        refine XL_efd .no (F_st (k := 96 + r * 1) (cs' := srC (⟨s.jf, s.lv, tabN s.tab (ceilF x.tasks.l (wN o.set x.tasks.l.length)) (r + 1), s.now⟩ : Sr)) rfl rfl rfl (by repeat first | with_reducible exact .here _ _ | with_reducible apply Out.there | with_reducible apply Out.app) tk_3 (sr_lt _ (by omega)) ((sr_settab (⟨s.jf, s.lv, tabN s.tab (ceilF x.tasks.l (wN o.set x.tasks.l.length)) r, s.now⟩ : Sr) (by omega) _).trans (by show srC ⟨_, _, upd _ r (ceilF x.tasks.l (wN o.set x.tasks.l.length) r), _⟩ = _; rw [tabN_s]))) ?_
                        refine XL_nil ?_
                        refine inBlk_normal ?_
                        refine thenX_normal ?_
                        refine X_region ?_
                        refine XL_det .no (D_pure rfl) rfl ?_
                        refine XL_det .no (D_add rfl rfl (by omega) (by omega)) rfl ?_
                        refine XL_det .no (D_pure rfl) rfl ?_
                        refine XL_nil ?_
                        refine loopQ_next (r + 1) ?_ ?_ ?_ ?_
                        · omega
                        · omega
                        · refine ⟨?_, ?_, ?_, ?_, ?_, ?_, ?_, ?_, trivial⟩ <;> rfl
                        · exact ⟨_, (by repeat first | with_reducible exact .nil _ | with_reducible exact .here _ _ | with_reducible exact Take.self _ | with_reducible apply Take.cons | with_reducible apply Out.there | with_reducible apply Take.skip | with_reducible exact Take.pre _ _ | with_reducible apply Out.app)⟩
                      · try simp only [decide_eq_true_eq, decide_eq_false_iff_not, Bool.not_eq_true', Bool.not_eq_false', beq_iff_eq, bne_iff_ne, beq_eq_false_iff_ne, bne_eq_false_iff_eq, Int.not_lt, Int.not_le, gt_iff_lt, ge_iff_le, ne_eq] at h8
                        obtain rfl : r = 8 := by omega
                        refine X_exit ?_
                        refine thenX_exit ?_
                        refine loopQ_exit ?_
                        refine inBlk_here ?_
                        refine inBlk_normal ?_
                        refine joinQ_normal ((ceilC z (ceilF x.tasks.l (wN o.set x.tasks.l.length))), (⟨s.jf, s.lv, tabN s.tab (ceilF x.tasks.l (wN o.set x.tasks.l.length)) 8, s.now⟩ : Sr)) ?_ ?_ ?_
                        · exact ⟨hL.ceil (fun r _ => ceilV_in _ _ r) (fun r hr => by unfold tabN; rw [if_pos hr]), by show z.now ≤ _; omega⟩
                        · refine ⟨?_, ?_, ?_, ?_, ?_, trivial⟩ <;> rfl
                        · exact ⟨_, (by repeat first | with_reducible exact .nil _ | with_reducible exact .here _ _ | with_reducible exact Take.self _ | with_reducible apply Take.cons | with_reducible apply Out.there | with_reducible apply Take.skip | with_reducible exact Take.pre _ _ | with_reducible apply Out.app)⟩
                  · try simp only [decide_eq_true_eq, decide_eq_false_iff_not, Bool.not_eq_true', Bool.not_eq_false', beq_iff_eq, bne_iff_ne, beq_eq_false_iff_ne, bne_eq_false_iff_eq, Int.not_lt, Int.not_le, gt_iff_lt, ge_iff_le, ne_eq] at h7
                    refine X_seq ?_
                    refine X_region ?_
                    refine XL_det .no (D_pure rfl) rfl ?_
                    refine XL_then ?_
                    refine X_block ?_
                    refine X_loop (α := Nat × Cr × Sr) (fun ⟨n, z2, s2⟩ => (n : Int) ≤ ticksO o ∧ Like z2 s2 ∧ z2.now ≤ 50 * i + n) (fun ⟨n, z2, s2⟩ => [(14, .int .i64 (n : Int)), (1, .slice l.oad l.l.length l.c), (2, .pointer (some ⟨b1, 0, none⟩)), (5, .pointer (some ⟨c, 0, none⟩)), (6, .pointer (some ⟨b2, 0, none⟩)), (7, .int .i64 (i : Int)), (8, .pointer (some ⟨b3, 0, none⟩))]) (fun ⟨n, z2, s2⟩ => [blk b1 [.int .i64 x.res, .slice x.tasks.oad x.tasks.l.length x.tasks.c, .slice x.modes.oad x.modes.l.length x.modes.c, .slice x.edges.oad x.edges.l.length x.edges.c] 26, blk c (crC (z2)) 110, many 16 (rowS z2.jf), blk b2 (srC s2) 69, blk b3 (encOp o) 41, many 16 (rowS s2.jf), K, Ki]) (fun ⟨n, z2, s2⟩ => (ticksO o).toNat - n) (0, z, s) ?_ (by refine ⟨?_, ?_, ?_, ?_, ?_, ?_, ?_, trivial⟩ <;> rfl) (by repeat first | with_reducible exact .nil _ | with_reducible exact .here _ _ | with_reducible exact Take.self _ | with_reducible apply Take.cons | with_reducible apply Out.there | with_reducible apply Take.skip | with_reducible exact Take.pre _ _ | with_reducible apply Out.app) ?_
                    · exact ⟨by omega, hL, by omega⟩
                    · rintro ⟨n, z2, s2⟩ ⟨hn, hL2, hnow2⟩
                      dsimp only
                      refine X_seq ?_
                      refine X_seq ?_
                      refine X_region ?_
                      refine XL_det .no (D_pure rfl) rfl ?_
                      refine XL_det .no (D_ldso (vs := encOp o) rfl (by repeat first | with_reducible exact .here _ _ | with_reducible apply Out.there | with_reducible apply Out.app) tk_41 rfl (by rfl)) rfl ?_
                      refine XL_callv .no en_18 rfl (oticks o) rfl ?_
                      refine XL_det .no (D_pure rfl) rfl ?_
                      refine XL_then ?_
                      refine X_cond rfl (fun h9 => ?_) (fun h9 => ?_)
                      · try simp only [decide_eq_true_eq, decide_eq_false_iff_not, Bool.not_eq_true', Bool.not_eq_false', beq_iff_eq, bne_iff_ne, beq_eq_false_iff_ne, bne_eq_false_iff_eq, Int.not_lt, Int.not_le, gt_iff_lt, ge_iff_le, ne_eq] at h9
                        refine X_skip ?_
                        refine thenX_normal ?_
                        refine X_seq ?_
                        refine X_block ?_
                        refine X_seq ?_
                        refine X_region ?_
                        refine XL_det .no (D_pure rfl) rfl ?_
                        refine XL_call .no en_20 rfl (stick c z2 hL2.ok hK) (by repeat first | with_reducible exact .nil _ | with_reducible exact .here _ _ | with_reducible exact Take.self _ | with_reducible apply Take.cons | with_reducible apply Out.there | with_reducible apply Take.skip | with_reducible exact Take.pre _ _ | with_reducible apply Out.app) rfl ?_
                        rintro _ _ ⟨rfl, rfl⟩
                        simp only [List.cons_append, List.nil_append]
                        refine XL_alloc .no zero_53 rfl (fun b4 => ?_)
                        refine XL_efd .no (F_stw rfl rfl rfl (by repeat first | with_reducible exact .here _ _ | with_reducible apply Out.there | with_reducible apply Out.app) tk_53 rfl rfl) ?_
                        refine XL_then ?_
                        refine X_seq ?_
                        refine X_region ?_
                        refine XL_alloc .no zero_76 rfl (fun b5 => ?_)
                        refine XL_then ?_
                        refine X_seq ?_
                        refine X_region ?_
                        refine XL_det .no (D_ldso (vs := srC s2) rfl (by repeat first | with_reducible exact .here _ _ | with_reducible apply Out.there | with_reducible apply Out.app) tk_69 rfl (by rw [List.drop_zero, List.take_of_length_le (by rw [sr_len]; exact Nat.le_refl _)])) rfl ?_
                        refine XL_call .no en_31 rfl (rtick26 s2 hL2.so hL2.bnd (by rw [hL2.now]; exact hL2.ok.now)) (by repeat first | with_reducible exact .nil _ | with_reducible exact .here _ _ | with_reducible exact Take.self _ | with_reducible apply Take.cons | with_reducible apply Out.there | with_reducible apply Take.skip | with_reducible exact Take.pre _ _ | with_reducible apply Out.app) rfl ?_
                        rintro _ _ ⟨rfl, rfl⟩
                        simp only [List.cons_append, List.nil_append]
                        refine XL_det .no (D_pure rfl) rfl ?_
                        refine XL_det .no (D_pure (v := .agg (srC ((tickR s2).1)).toArray) rfl) rfl ?_
                        refine XL_det .no (D_pure (v := .agg (encRr (tickR s2).2).toArray) rfl) rfl ?_
                        refine XL_efd .no (F_stw rfl rfl rfl (by repeat first | with_reducible exact .here _ _ | with_reducible apply Out.there | with_reducible apply Out.app) tk_69 rfl rfl) ?_
                        refine XL_efd .no (F_stw rfl rfl rfl (by repeat first | with_reducible exact .here _ _ | with_reducible apply Out.there | with_reducible apply Out.app) tk_76 rfl rfl) ?_
                        refine XL_then ?_
                        refine X_seq ?_
                        refine X_region ?_
                        refine XL_det .no (D_ldso (vs := encR (tickC z2).2) rfl (by repeat first | with_reducible exact .here _ _ | with_reducible apply Out.there | with_reducible apply Out.app) tk_53 rfl (by rfl)) rfl ?_
                        refine XL_det .no (D_fld rfl fld_76_0 (o' := 0) rfl) rfl ?_
                        refine XL_det .no (D_ldo rfl (by repeat first | with_reducible exact .here _ _ | with_reducible apply Out.there | with_reducible apply Out.app) tk_3 (by rfl)) rfl ?_
                        refine XL_det .no (D_fld rfl fld_76_1 (o' := 1) rfl) rfl ?_
                        refine XL_det .no (D_ldo rfl (by repeat first | with_reducible exact .here _ _ | with_reducible apply Out.there | with_reducible apply Out.app) tk_3 (by rfl)) rfl ?_
                        refine XL_det .no (D_fld rfl fld_76_2 (o' := 2) rfl) rfl ?_
                        refine XL_det .no (D_ldo rfl (by repeat first | with_reducible exact .here _ _ | with_reducible apply Out.there | with_reducible apply Out.app) tk_3 (by rfl)) rfl ?_
                        refine XL_det .no (D_fld rfl fld_76_4 (o' := 4) rfl) rfl ?_
                        refine XL_det .no (D_ldo rfl (by repeat first | with_reducible exact .here _ _ | with_reducible apply Out.there | with_reducible apply Out.app) tk_4 (by rfl)) rfl ?_
                        refine XL_det .no (D_fld rfl fld_76_3 (o' := 3) rfl) rfl ?_
                        refine XL_det .no (D_ldo rfl (by repeat first | with_reducible exact .here _ _ | with_reducible apply Out.there | with_reducible apply Out.app) tk_3 (by rfl)) rfl ?_
                        refine XL_det .no (D_fld rfl fld_76_5 (o' := 5) rfl) rfl ?_
                        refine XL_det .no (D_ldo rfl (by repeat first | with_reducible exact .here _ _ | with_reducible apply Out.there | with_reducible apply Out.app) tk_4 (by rfl)) rfl ?_
                        refine XL_det .no (D_build [_, _, _, _, _, _] rfl bld_53 (by rfl)) rfl ?_
                        refine XL_det .no (D_eqs rfl rfl eqk_53 eqg_53 rfl rfl rfl rfl) rfl ?_
                        refine XL_then ?_
                        refine X_cond rfl (fun h10 => ?_) (fun h10 => ?_)
                        · try simp only [decide_eq_true_eq, decide_eq_false_iff_not, Bool.not_eq_true', Bool.not_eq_false', beq_iff_eq, bne_iff_ne, beq_eq_false_iff_ne, bne_eq_false_iff_eq, Int.not_lt, Int.not_le, gt_iff_lt, ge_iff_le, ne_eq] at h10
                          exfalso; have e := (hL2.tick (by omega)).2; rw [e] at h10; exact absurd (ran_eq _) (fun q => by rw [show cellsEq (encR (tickC z2).2) (encR (tickC z2).2) = false from h10] at q; cases q)
                        · try simp only [decide_eq_true_eq, decide_eq_false_iff_not, Bool.not_eq_true', Bool.not_eq_false', beq_iff_eq, bne_iff_ne, beq_eq_false_iff_ne, bne_eq_false_iff_eq, Int.not_lt, Int.not_le, gt_iff_lt, ge_iff_le, ne_eq] at h10
                          refine X_skip ?_
                          refine inBlk_normal ?_
                          refine thenX_normal ?_
                          refine X_region ?_
                          refine XL_det .no (D_pure rfl) rfl ?_
                          refine XL_det .no (D_add rfl rfl (by omega) (by omega)) rfl ?_
                          refine XL_det .no (D_pure rfl) rfl ?_
                          refine XL_nil ?_
                          refine loopQ_next (n + 1, (tickC z2).1, (tickR s2).1) ?_ ?_ ?_ ?_
                          · (try dsimp only); exact ⟨by omega, (hL2.tick (by omega)).1, by rw [tick_now]; omega⟩
                          · (try dsimp only); omega
                          · refine ⟨?_, ?_, ?_, ?_, ?_, ?_, ?_, trivial⟩ <;> rfl
                          · (try dsimp only); exact ⟨_, (by repeat first | with_reducible exact .nil _ | with_reducible exact .here _ _ | with_reducible exact Take.self _ | with_reducible apply Take.cons | with_reducible apply Out.there | with_reducible apply Take.skip | with_reducible exact Take.pre _ _ | with_reducible apply Out.app)⟩
                      · try simp only [decide_eq_true_eq, decide_eq_false_iff_not, Bool.not_eq_true', Bool.not_eq_false', beq_iff_eq, bne_iff_ne, beq_eq_false_iff_ne, bne_eq_false_iff_eq, Int.not_lt, Int.not_le, gt_iff_lt, ge_iff_le, ne_eq] at h9
                        refine X_exit ?_
                        refine thenX_exit ?_
                        refine loopQ_exit ?_
                        refine inBlk_here ?_
                        refine inBlk_normal ?_
                        refine joinQ_normal (z2, s2) ?_ ?_ ?_
                        · exact ⟨hL2, by show z2.now ≤ 50 * (i : Int) + 50; omega⟩
                        · refine ⟨?_, ?_, ?_, ?_, ?_, trivial⟩ <;> rfl
                        · exact ⟨_, (by repeat first | with_reducible exact .nil _ | with_reducible exact .here _ _ | with_reducible exact Take.self _ | with_reducible apply Take.cons | with_reducible apply Out.there | with_reducible apply Take.skip | with_reducible exact Take.pre _ _ | with_reducible apply Out.app)⟩
            · rintro ⟨z3, s3⟩ ⟨hL3, hnow3⟩
              refine X_seq ?_
              refine X_region ?_
              refine XL_det .no (D_pure rfl) rfl ?_
              refine XL_det .no (D_ldso (vs := srC s3) rfl (by repeat first | with_reducible exact .here _ _ | with_reducible apply Out.there | with_reducible apply Out.app) tk_69 rfl (by rw [List.drop_zero, List.take_of_length_le (by rw [sr_len]; exact Nat.le_refl _)])) rfl ?_
              refine XL_callk .no en_32 rfl (lsame c z3 s3 hL3 hK hd) (by repeat first | with_reducible exact .nil _ | with_reducible exact .here _ _ | with_reducible exact Take.self _ | with_reducible apply Take.cons | with_reducible apply Out.there | with_reducible apply Take.skip | with_reducible exact Take.pre _ _ | with_reducible apply Out.app) rfl ?_
              refine XL_det .no (D_pure rfl) rfl ?_
              refine XL_then ?_
              refine X_cond_f rfl rfl ?_
              refine X_skip ?_
              refine inBlk_normal ?_
              refine thenX_normal ?_
              refine X_region ?_
              refine XL_det .no (D_pure rfl) rfl ?_
              refine XL_det .no (D_add rfl rfl (by omega) (by omega)) rfl ?_
              refine XL_det .no (D_pure rfl) rfl ?_
              refine XL_nil ?_
              refine loopQ_next (i + 1, z3, s3) ?_ ?_ ?_ ?_
              · (try dsimp only); exact ⟨by omega, hL3, by omega⟩
              · (try dsimp only); omega
              · refine ⟨?_, ?_, ?_, ?_, ?_, trivial⟩ <;> rfl
              · (try dsimp only); exact ⟨_, (by repeat first | with_reducible exact .nil _ | with_reducible exact .here _ _ | with_reducible exact Take.self _ | with_reducible apply Take.cons | with_reducible apply Out.there | with_reducible apply Take.skip | with_reducible exact Take.pre _ _ | with_reducible apply Out.app)⟩
          · try simp only [decide_eq_true_eq, decide_eq_false_iff_not, Bool.not_eq_true', Bool.not_eq_false', beq_iff_eq, bne_iff_ne, beq_eq_false_iff_ne, bne_eq_false_iff_eq, Int.not_lt, Int.not_le, gt_iff_lt, ge_iff_le, ne_eq] at h4
            refine X_exit ?_
            refine thenX_exit ?_
            refine loopQ_exit ?_
            refine inBlk_here ?_
            refine thenX_normal ?_
            refine X_seq ?_
            refine X_region ?_
            refine XL_callk .no en_23 rfl (alive26 hK) (by repeat first | with_reducible exact .nil _ | with_reducible exact .here _ _ | with_reducible exact Take.self _ | with_reducible apply Take.cons | with_reducible apply Out.there | with_reducible apply Take.skip | with_reducible exact Take.pre _ _ | with_reducible apply Out.app) rfl ?_
            refine XL_det .no (D_pure rfl) rfl ?_
            refine XL_then ?_
            refine X_ret ?_
            refine ret_ok (.nil _) (res_tmp rfl rfl) ?_
            exact ⟨[K, Ki], ⟨rfl, rfl⟩, _, (by repeat first | with_reducible exact .nil _ | with_reducible exact .here _ _ | exact .here _ _ | with_reducible exact Take.self _ | with_reducible apply Take.cons | with_reducible apply Out.there | with_reducible apply Take.skip | with_reducible exact Take.pre _ _ | with_reducible apply Out.app)⟩

end Go.Proofs.YtkkdchgnknpceaaDoor
end

section
namespace Go.Proofs.YtkkdchgnknpceaaDoor
open Go Go.Sl Go.ChangeShapes Go.WideShapes Go.ChangeAt Go.RowKit
set_option linter.unusedVariables false
abbrev tabT : Nat := 154
theorem ui_int : Tryd.prog.underlying 3 = some (.int .i64) := by kernel_rfl
theorem eqk_164 : eqKinds Tryd.prog 12 164 = some [some .i64, some .i64] := by kernel_rfl
theorem eqk_168 : eqKinds Tryd.prog 12 168 = some [some .i64, some .i64, some .i64, some .i64, some .i64, some .i64, some .i64, some .i64, some .i64, some .i64, some .i64, some .i64, some .i64, some .i64, some .i64, some .i64, some .i64, some .i64, some .i64, some .i64, some .i64, some .i64, some .i64] := by kernel_rfl
theorem eqk_48 : eqKinds Tryd.prog 12 48 = some [some .i64, some .i64, some .i64, some .i64, some .i64, some .i64, some .i64, some .i64, some .i64, some .i64, some .i64] := by kernel_rfl

theorem sz_task : (Tryd.prog.info? 48).map (·.size) = some 11 := by kernel_rfl
theorem sz_edge : (Tryd.prog.info? 168).map (·.size) = some 23 := by kernel_rfl
theorem sz_q : (Tryd.prog.info? 164).map (·.size) = some 2 := by kernel_rfl
theorem sl_tasks : slcOf Tryd.prog 22 = some (48, 11) := by kernel_rfl
theorem sl_modes : slcOf Tryd.prog 23 = some (101, 2) := by kernel_rfl
theorem sl_edges : slcOf Tryd.prog 24 = some (168, 23) := by kernel_rfl
theorem sl_qs : slcOf Tryd.prog 99 = some (164, 2) := by kernel_rfl
theorem shp_img : shp Tryd.prog 26 = some [3, 22, 23, 24] := by kernel_rfl
theorem shp_mode : shp Tryd.prog 101 = some [36, 99] := by kernel_rfl
theorem ui_u32 : Tryd.prog.underlying 36 = some (.int .u32) := by kernel_rfl
/-- The fields' bounds. -/
def okT (e : Nat → Int) : Prop := fitK e 0 [some .i64, some .i64, some .i64, some .i64, some .i64, some .i64, some .i64, some .i64, some .i64, some .i64, some .i64]
def okE (e : Nat → Int) : Prop := fitK e 0 [some .i64, some .i64, some .i64, some .i64, some .i64, some .i64, some .i64, some .i64, some .i64, some .i64, some .i64, some .i64, some .i64, some .i64, some .i64, some .i64, some .i64, some .i64, some .i64, some .i64, some .i64, some .i64, some .i64]
structure Img.Ok (x : Img) : Prop where
  tasks : ∀ e ∈ x.tasks.l, okT e
  edges : ∀ e ∈ x.edges.l, okE e
theorem openImg {W : World} {v : Value} (h : ArgOk Tryd.prog W 26 v) : ∃ x : Img, v = x.v ∧ x.In (old (B := W.heap.size) W) ∧ x.Ok := by
  obtain ⟨H, enc, cs, rfl, p0, q0, rfl, ⟨n0, x0, h0⟩, p1, q1, rfl, ⟨n1, x1, h1⟩, p2, q2, rfl, ⟨n2, x2, h2⟩, p3, q3, rfl, ⟨n3, x3, h3⟩, rfl⟩ := arg_struct shp_img h
  obtain ⟨res, rfl, _, _⟩ := DataW.trod_int ui_int h0
  obtain ⟨ta, rfl, t1, t2⟩ := Arr.of_trod (encA := encT) (ok := okT) sl_tasks (by decide) h1 (fun n cs x hx => flat_dec eqk_48 sz_task hx)
  obtain ⟨ed, rfl, e1, e2⟩ := Arr.of_trod (encA := encE) (ok := okE) sl_edges (by decide) h3 (fun n cs x hx => flat_dec eqk_168 sz_edge hx)
  obtain ⟨mo, rfl, m1, m2⟩ := Arr.of_trod (encA := encM) (ok := fun m => Rd (old (B := W.heap.size) W) m.q.ad (m.q.l.flatMap encQ)) sl_modes (by decide) h2 (fun n cs x hx => by
    obtain ⟨p0, q0, rfl, ⟨n0, x0, h0⟩, p1, q1, rfl, ⟨n1, x1, h1⟩, rfl⟩ := struct_parts shp_mode hx
    obtain ⟨b, rfl, _, hb⟩ := DataW.trod_int ui_u32 h0
    obtain ⟨b, rfl⟩ := u32_bv hb
    obtain ⟨q, rfl, _, q2⟩ := Arr.of_trod (encA := encQ) (ok := fun _ => True) sl_qs (by decide) h1 (fun n cs x hx => by
      obtain ⟨e, he, _⟩ := flat_dec eqk_164 sz_q hx
      exact ⟨e, he, trivial⟩)
    exact ⟨⟨b, q⟩, rfl, q2⟩)
  exact ⟨⟨res, ta, mo, ed⟩, rfl, ⟨t2, m2, e2, m1⟩, ⟨t1, e1⟩⟩
theorem sz_sec : (Tryd.prog.info? 123).map (·.size) = some 3 := by kernel_rfl
theorem sl_secs : slcOf Tryd.prog 39 = some (123, 3) := by kernel_rfl
theorem sl_ops : slcOf Tryd.prog 27 = some (41, 5) := by kernel_rfl
theorem shp_op : shp Tryd.prog 41 = some [3, 3, 3, 37, 39] := by kernel_rfl
theorem ui_set : Tryd.prog.underlying 37 = some (.int .u32) := by kernel_rfl
theorem openOps {W : World} {v : Value} (h : ArgOk Tryd.prog W 27 v) : ∃ l : Arr OpS, v = .slice l.oad l.l.length l.c ∧ OpsIn (old (B := W.heap.size) W) l := by
  obtain ⟨l, rfl, h1, h2⟩ := arg_arr (encA := encOp) (ok := fun o => Rd (old (B := W.heap.size) W) o.secs.ad (o.secs.l.flatMap encS)) sl_ops (by decide) h (fun n cs x hx => by
    obtain ⟨p0, q0, rfl, ⟨n0, x0, h0⟩, p1, q1, rfl, ⟨n1, x1, h1⟩, p2, q2, rfl, ⟨n2, x2, h2⟩, p3, q3, rfl, ⟨n3, x3, h3⟩, p4, q4, rfl, ⟨n4, x4, h4⟩, rfl⟩ := struct_parts shp_op hx
    obtain ⟨a, rfl, _, _⟩ := DataW.trod_int ui_int h0
    obtain ⟨b, rfl, _, _⟩ := DataW.trod_int ui_int h1
    obtain ⟨c, rfl, _, _⟩ := DataW.trod_int ui_int h2
    obtain ⟨z, rfl, _, hz⟩ := DataW.trod_int ui_set h3
    obtain ⟨z, rfl⟩ := u32_bv hz
    obtain ⟨q, rfl, _, q2⟩ := Arr.of_trod (encA := encS) (ok := fun _ => True) sl_secs (by decide) h4 (fun n cs x hx => by
      obtain ⟨e, he, _⟩ := flat_dec eqk_123 sz_sec hx
      exact ⟨(e 0, e 1, e 2), he, trivial⟩)
    exact ⟨⟨a, b, c, z, q⟩, rfl, q2⟩)
  exact ⟨l, rfl, h2, h1⟩

theorem own : ownKnob Tryd.prog.godebug = none := by kernel_rfl
theorem laidOut : laidOutB Tryd.prog = true := by kernel_rfl
abbrev laidT : List (String × DataW Unit) := [("math/bits.deBruijn32tab", Rows.laid_math_bits_deBruijn32tab)]
set_option maxRecDepth 100000 in
theorem laidTab {W : World} (h : laidMetH Tryd.prog laidT W) : Rd (old (B := W.heap.size) W) ⟨0, 0, none⟩ (tab32.map fun m => .int .u8 m) := by
  rw [MakeChecks.laidMetH_plain _ _ _ (by kernel_rfl)] at h
  rw [show laidT = [("math/bits.deBruijn32tab", .agg (tab32.map fun m => .lit (.int .u8 m)))] from by kernel_rfl] at h
  exact laid_row (tab := tab32) (t := tabT) (len := 32) (e := 5) (k := .u8) (by kernel_rfl) (by kernel_rfl) (by kernel_rfl) (by kernel_rfl) (by kernel_rfl) (by decide) h
theorem door_met (os : Os) (args : Array Value) : laidMetH Tryd.prog laidT ((World.doorLaid Tryd.prog 400 os).forCall (fun _ _ => 0) ⟨#[], args, []⟩).memory :=
  laidMetH_of_parts3 (fuel := 8) (laidMet_of_run' 8 (by kernel_rfl) (by kernel_rfl)) (by kernel_rfl) (by kernel_rfl)


set_option maxRecDepth 100000 in
/-- The walk, at the arguments as the row reads them. -/
theorem walkSchedPlays (W : World) (args : Array Value) (hL : laidMetH Tryd.prog laidT W) (h : ArgsOk Tryd.prog W Tryd.f5.params.toList args.toList) : Calls Tryd.prog 5 args W fun e w' => e = .returned (.bool true) ∧ Go.RowKit.Below W.heap.size W w' := by
  rw [show Tryd.f5.params.toList = [26, 27] from by kernel_rfl] at h
  obtain ⟨args⟩ := args
  match args, h with
  | [v0, v1], h =>
    have hK := laidTab hL
    obtain ⟨a0, a1, _⟩ := h
    obtain ⟨x, rfl, hx, _⟩ := openImg a0
    obtain ⟨l, rfl, hl⟩ := openOps a1
    exact calls_of (old_self W) (((schedPlays x hx l hl hK (old_dup W)).dup (.here _ _) (old_dup W)).mono fun _ _ h => h.1)

set_option maxRecDepth 100000 in
theorem liftedSchedPlays (os : Os) (started : os.Started) (H : Type) (enc : TypeId × Value → H) :
    ReturnsInHanded {} Tryd.checked os 5 .any (fun w args => (Rows.schedPlaysSpec.pre enc Tryd.prog Tryd.f5 [] false w args ∧ laidMetH Tryd.prog laidT w) ∧ sizedMet enc Tryd.prog Tryd.f5 (OpenSpec.ofChange Rows.schedPlaysSpec) false w args) (Rows.schedPlaysSpec.post enc Tryd.prog Tryd.f5 false true false false) :=
  handedL (C := Tryd.checked) (tb := 4) own started (by kernel_rfl) Tryd.func5 laidOut (by kernel_rfl) rfl
    (fun ds h => by
      have h : ds.length = 2 := h
      match ds, h with
      | [_, _], _ => exact ⟨rfl, rfl, rfl⟩) (by kernel_rfl) (by kernel_rfl)
    (ChangeSpec.witness_shaped (enc := enc) (C := Tryd.checked) (os := os) (X := fun w _ => laidMetH Tryd.prog laidT w) false (World.doorLaid Tryd.prog 400 os) #[.agg #[.int .i64 0, .slice none 0 0, .slice none 0 0, .slice none 0 0], .slice none 0 0] 8 rfl (World.shaped_of_RefB (by kernel_rfl) (by kernel_rfl)) (by kernel_rfl) (by kernel_rfl) (by kernel_rfl) (door_met os _))
    (fun W args hL h => walkSchedPlays W args hL h)

theorem overSchedPlays : Rows.SchedPlaysSaid :=
  OpenClaim.holds_of_wide 5 Tryd.f5 rfl rfl rfl rfl rfl rfl rfl ⟨rfl, rfl, rfl, rfl, rfl⟩ rfl rfl rfl rfl rfl (by kernel_rfl) Tryd.func5 (by kernel_rfl)
    (of_decide_eq_true (by kernel_rfl)) (by unfold Func.isWrapper; first | (rw [if_pos (by decide +kernel)]; kernel_rfl) | (rw [if_neg (by decide +kernel)]; exact ⟨rfl, rfl⟩))
    (fun os started H enc _ => liftedSchedPlays os started H enc)

/-- The statement: the tied card. -/
theorem provedSchedPlays : Rows.SchedPlaysCardSaid :=
  Claim7.holds_tied_plain_at .later [] [.data] true (true, "44ef1e1e002b38ac2d72adeff89b3beb5f1b36ff56efcca0884e0dc2dba73968") false
    overSchedPlays (fun _ h => by cases h) (by kernel_rfl) (fun _ h => by cases h) schedPlays_row_tie rfl ⟨rfl, rfl⟩ (by kernel_rfl) rfl
    (fun f fn hf hfn => by
      obtain rfl : f = 5 := Option.some.inj ((show Tryd.prog.funcNamed "remontoir/remontoirlaw26.SchedPlays" = some 5 by kernel_rfl).symm.trans hf) |>.symm
      obtain rfl : fn = Tryd.f5 := (Option.some.inj (Tryd.func5.symm.trans hfn)).symm
      exact ⟨by kernel_rfl, fun j t ht => by
        have ht : t ∈ Tryd.f5.params.toList := by simpa using Array.mem_of_getElem? ht
        rw [show Tryd.f5.params.toList = [26, 27] from by kernel_rfl] at ht
        have hall : ([26, 27].all fun u => !Tryd.prog.wantsStandIn u) = true := by kernel_rfl
        exact (show Tryd.prog.wantsStandIn t = false by simpa using List.all_eq_true.1 hall t ht)⟩)
    (by kernel_rfl)

#print axioms provedSchedPlays
end Go.Proofs.YtkkdchgnknpceaaDoor
end
