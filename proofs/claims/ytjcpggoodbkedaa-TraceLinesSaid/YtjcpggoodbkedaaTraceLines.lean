/- The given statement TraceLinesSaid is proved: the line of an event, and the event of a line, are those of the document, and each leads back to the other. Conditions: texts of at most 5,000 bytes, as the statement itself says them; none beside. -/
import Derived.Test.YtjcpggoodbkedaaTraceLinesP1
import Derived.KernelRfl
import Derived.Test.YtjcpggoodbkedaaProg
import Derived.Test.YtjcpggoodbkedaaRows
section
namespace Go.Proofs.Ytjcpggoodbkedaa
open Go Go.Sl
set_option linter.unusedVariables false
set_option linter.unusedSimpArgs false
set_option maxRecDepth 4000
variable {B : Nat} {K : Asrt B}
theorem arr_43 : arrOf Try.prog 43 = some (4, 1) := by kernel_rfl
theorem bldA_43 : bldA Try.prog 43 = some ([.int .i64 0, .int .i64 0, .int .i64 0, .int .i64 0], 4, 1) := by kernel_rfl
theorem en_24 : Go.Proofs.Enters Try.prog 24 := Go.Proofs.enters_of Try.func24 (by kernel_rfl) rfl
theorem en_42 : Go.Proofs.Enters Try.prog 42 := Go.Proofs.enters_of Try.func42 (by kernel_rfl) rfl
theorem en_43 : Go.Proofs.Enters Try.prog 43 := Go.Proofs.enters_of Try.func43 (by kernel_rfl) rfl
theorem en_49 : Go.Proofs.Enters Try.prog 49 := Go.Proofs.enters_of Try.func49 (by kernel_rfl) rfl
theorem fld_36_0 : fldOff Try.prog 36 0 = some 0 := by kernel_rfl
theorem slc_71 : slcOf Try.prog 71 = some (9, 1) := by kernel_rfl
theorem slt_71 : slT Try.prog 71 = some (9, 1, 16, [.string ByteArray.empty]) := by kernel_rfl
theorem tk_43 : tyK Try.prog 43 = some (true, 4) := by kernel_rfl
theorem zero_43 : zeroOf Try.prog 43 = some [.int .i64 0, .int .i64 0, .int .i64 0, .int .i64 0] := by kernel_rfl
theorem tname (k : Int) : Ctr Try.prog B 42 [.int .i64 k] [] (fun v S => v = str (wordK k) ∧ S = []) := by
  refine Ctr_of_X (N := 24) Try.func42 rfl (by simp) rfl ?_
  intro w0 D0
  refine X_seq ?_
  refine X_region ?_
  refine XL_det .no (D_pure rfl) rfl ?_
  refine XL_then ?_
  refine X_seq ?_
  refine X_seq ?_
  refine X_region ?_
  refine XL_det .no (D_pure rfl) rfl ?_
  refine XL_then ?_
  refine X_block ?_
  refine X_seq ?_
  refine X_region ?_
  refine XL_det .no (D_pure rfl) rfl ?_
  refine XL_det .no (D_pure rfl) rfl ?_
  refine XL_then ?_
  refine X_cond rfl (fun h1 => ?_) (fun h1 => ?_)
  · try simp only [decide_eq_true_eq, decide_eq_false_iff_not, Bool.not_eq_true', Bool.not_eq_false', beq_iff_eq, bne_iff_ne, beq_eq_false_iff_ne, bne_eq_false_iff_eq, Int.not_lt, Int.not_le, gt_iff_lt, ge_iff_le, ne_eq] at h1
    refine X_seq ?_
    refine X_region ?_
    refine XL_det .no (D_pure rfl) rfl ?_
    refine XL_then ?_
    refine X_ret ?_
    refine inBlk_ret ?_
    refine thenX_ret ?_
    refine ret_ok (.nil _) (res_tmp rfl rfl) ?_
    exact ⟨_, ⟨by rw [h1]; rfl, rfl⟩, _, (by repeat first | with_reducible exact .nil _ | with_reducible exact .here _ _ | with_reducible exact Take.self _ | with_reducible apply Take.cons | with_reducible apply Out.there | with_reducible apply Take.skip | with_reducible exact Take.pre _ _ | with_reducible apply Out.app)⟩
  · try simp only [decide_eq_true_eq, decide_eq_false_iff_not, Bool.not_eq_true', Bool.not_eq_false', beq_iff_eq, bne_iff_ne, beq_eq_false_iff_ne, bne_eq_false_iff_eq, Int.not_lt, Int.not_le, gt_iff_lt, ge_iff_le, ne_eq] at h1
    refine X_seq ?_
    refine X_region ?_
    refine XL_det .no (D_pure rfl) rfl ?_
    refine XL_det .no (D_pure rfl) rfl ?_
    refine XL_then ?_
    refine X_cond rfl (fun h2 => ?_) (fun h2 => ?_)
    · try simp only [decide_eq_true_eq, decide_eq_false_iff_not, Bool.not_eq_true', Bool.not_eq_false', beq_iff_eq, bne_iff_ne, beq_eq_false_iff_ne, bne_eq_false_iff_eq, Int.not_lt, Int.not_le, gt_iff_lt, ge_iff_le, ne_eq] at h2
      refine X_seq ?_
      refine X_region ?_
      refine XL_det .no (D_pure rfl) rfl ?_
      refine XL_then ?_
      refine X_ret ?_
      refine inBlk_ret ?_
      refine thenX_ret ?_
      refine ret_ok (.nil _) (res_tmp rfl rfl) ?_
      exact ⟨_, ⟨by rw [h2]; rfl, rfl⟩, _, (by repeat first | with_reducible exact .nil _ | with_reducible exact .here _ _ | with_reducible exact Take.self _ | with_reducible apply Take.cons | with_reducible apply Out.there | with_reducible apply Take.skip | with_reducible exact Take.pre _ _ | with_reducible apply Out.app)⟩
    · try simp only [decide_eq_true_eq, decide_eq_false_iff_not, Bool.not_eq_true', Bool.not_eq_false', beq_iff_eq, bne_iff_ne, beq_eq_false_iff_ne, bne_eq_false_iff_eq, Int.not_lt, Int.not_le, gt_iff_lt, ge_iff_le, ne_eq] at h2
      refine X_seq ?_
      refine X_region ?_
      refine XL_det .no (D_pure rfl) rfl ?_
      refine XL_det .no (D_pure rfl) rfl ?_
      refine XL_then ?_
      refine X_cond rfl (fun h3 => ?_) (fun h3 => ?_)
      · try simp only [decide_eq_true_eq, decide_eq_false_iff_not, Bool.not_eq_true', Bool.not_eq_false', beq_iff_eq, bne_iff_ne, beq_eq_false_iff_ne, bne_eq_false_iff_eq, Int.not_lt, Int.not_le, gt_iff_lt, ge_iff_le, ne_eq] at h3
        refine X_seq ?_
        refine X_region ?_
        refine XL_det .no (D_pure rfl) rfl ?_
        refine XL_then ?_
        refine X_ret ?_
        refine inBlk_ret ?_
        refine thenX_ret ?_
        refine ret_ok (.nil _) (res_tmp rfl rfl) ?_
        exact ⟨_, ⟨by rw [h3]; rfl, rfl⟩, _, (by repeat first | with_reducible exact .nil _ | with_reducible exact .here _ _ | with_reducible exact Take.self _ | with_reducible apply Take.cons | with_reducible apply Out.there | with_reducible apply Take.skip | with_reducible exact Take.pre _ _ | with_reducible apply Out.app)⟩
      · try simp only [decide_eq_true_eq, decide_eq_false_iff_not, Bool.not_eq_true', Bool.not_eq_false', beq_iff_eq, bne_iff_ne, beq_eq_false_iff_ne, bne_eq_false_iff_eq, Int.not_lt, Int.not_le, gt_iff_lt, ge_iff_le, ne_eq] at h3
        refine X_seq ?_
        refine X_region ?_
        refine XL_det .no (D_pure rfl) rfl ?_
        refine XL_det .no (D_pure rfl) rfl ?_
        refine XL_then ?_
        refine X_cond rfl (fun h4 => ?_) (fun h4 => ?_)
        · try simp only [decide_eq_true_eq, decide_eq_false_iff_not, Bool.not_eq_true', Bool.not_eq_false', beq_iff_eq, bne_iff_ne, beq_eq_false_iff_ne, bne_eq_false_iff_eq, Int.not_lt, Int.not_le, gt_iff_lt, ge_iff_le, ne_eq] at h4
          refine X_seq ?_
          refine X_region ?_
          refine XL_det .no (D_pure rfl) rfl ?_
          refine XL_then ?_
          refine X_ret ?_
          refine inBlk_ret ?_
          refine thenX_ret ?_
          refine ret_ok (.nil _) (res_tmp rfl rfl) ?_
          exact ⟨_, ⟨by rw [h4]; rfl, rfl⟩, _, (by repeat first | with_reducible exact .nil _ | with_reducible exact .here _ _ | with_reducible exact Take.self _ | with_reducible apply Take.cons | with_reducible apply Out.there | with_reducible apply Take.skip | with_reducible exact Take.pre _ _ | with_reducible apply Out.app)⟩
        · try simp only [decide_eq_true_eq, decide_eq_false_iff_not, Bool.not_eq_true', Bool.not_eq_false', beq_iff_eq, bne_iff_ne, beq_eq_false_iff_ne, bne_eq_false_iff_eq, Int.not_lt, Int.not_le, gt_iff_lt, ge_iff_le, ne_eq] at h4
          refine X_seq ?_
          refine X_region ?_
          refine XL_det .no (D_pure rfl) rfl ?_
          refine XL_det .no (D_pure rfl) rfl ?_
          refine XL_then ?_
          refine X_cond rfl (fun h5 => ?_) (fun h5 => ?_)
          · try simp only [decide_eq_true_eq, decide_eq_false_iff_not, Bool.not_eq_true', Bool.not_eq_false', beq_iff_eq, bne_iff_ne, beq_eq_false_iff_ne, bne_eq_false_iff_eq, Int.not_lt, Int.not_le, gt_iff_lt, ge_iff_le, ne_eq] at h5
            refine X_seq ?_
            refine X_region ?_
            refine XL_det .no (D_pure rfl) rfl ?_
            refine XL_then ?_
            refine X_ret ?_
            refine inBlk_ret ?_
            refine thenX_ret ?_
            refine ret_ok (.nil _) (res_tmp rfl rfl) ?_
            exact ⟨_, ⟨by rw [h5]; rfl, rfl⟩, _, (by repeat first | with_reducible exact .nil _ | with_reducible exact .here _ _ | with_reducible exact Take.self _ | with_reducible apply Take.cons | with_reducible apply Out.there | with_reducible apply Take.skip | with_reducible exact Take.pre _ _ | with_reducible apply Out.app)⟩
          · try simp only [decide_eq_true_eq, decide_eq_false_iff_not, Bool.not_eq_true', Bool.not_eq_false', beq_iff_eq, bne_iff_ne, beq_eq_false_iff_ne, bne_eq_false_iff_eq, Int.not_lt, Int.not_le, gt_iff_lt, ge_iff_le, ne_eq] at h5
            refine X_seq ?_
            refine X_region ?_
            refine XL_det .no (D_pure rfl) rfl ?_
            refine XL_det .no (D_pure rfl) rfl ?_
            refine XL_then ?_
            refine X_cond rfl (fun h6 => ?_) (fun h6 => ?_)
            · try simp only [decide_eq_true_eq, decide_eq_false_iff_not, Bool.not_eq_true', Bool.not_eq_false', beq_iff_eq, bne_iff_ne, beq_eq_false_iff_ne, bne_eq_false_iff_eq, Int.not_lt, Int.not_le, gt_iff_lt, ge_iff_le, ne_eq] at h6
              refine X_seq ?_
              refine X_region ?_
              refine XL_det .no (D_pure rfl) rfl ?_
              refine XL_then ?_
              refine X_ret ?_
              refine inBlk_ret ?_
              refine thenX_ret ?_
              refine ret_ok (.nil _) (res_tmp rfl rfl) ?_
              exact ⟨_, ⟨by rw [h6]; rfl, rfl⟩, _, (by repeat first | with_reducible exact .nil _ | with_reducible exact .here _ _ | with_reducible exact Take.self _ | with_reducible apply Take.cons | with_reducible apply Out.there | with_reducible apply Take.skip | with_reducible exact Take.pre _ _ | with_reducible apply Out.app)⟩
            · try simp only [decide_eq_true_eq, decide_eq_false_iff_not, Bool.not_eq_true', Bool.not_eq_false', beq_iff_eq, bne_iff_ne, beq_eq_false_iff_ne, bne_eq_false_iff_eq, Int.not_lt, Int.not_le, gt_iff_lt, ge_iff_le, ne_eq] at h6
              refine X_seq ?_
              refine X_region ?_
              refine XL_det .no (D_pure rfl) rfl ?_
              refine XL_det .no (D_pure rfl) rfl ?_
              refine XL_then ?_
              refine X_cond rfl (fun h7 => ?_) (fun h7 => ?_)
              · try simp only [decide_eq_true_eq, decide_eq_false_iff_not, Bool.not_eq_true', Bool.not_eq_false', beq_iff_eq, bne_iff_ne, beq_eq_false_iff_ne, bne_eq_false_iff_eq, Int.not_lt, Int.not_le, gt_iff_lt, ge_iff_le, ne_eq] at h7
                refine X_seq ?_
                refine X_region ?_
                refine XL_det .no (D_pure rfl) rfl ?_
                refine XL_then ?_
                refine X_ret ?_
                refine inBlk_ret ?_
                refine thenX_ret ?_
                refine ret_ok (.nil _) (res_tmp rfl rfl) ?_
                exact ⟨_, ⟨by rw [h7]; rfl, rfl⟩, _, (by repeat first | with_reducible exact .nil _ | with_reducible exact .here _ _ | with_reducible exact Take.self _ | with_reducible apply Take.cons | with_reducible apply Out.there | with_reducible apply Take.skip | with_reducible exact Take.pre _ _ | with_reducible apply Out.app)⟩
              · try simp only [decide_eq_true_eq, decide_eq_false_iff_not, Bool.not_eq_true', Bool.not_eq_false', beq_iff_eq, bne_iff_ne, beq_eq_false_iff_ne, bne_eq_false_iff_eq, Int.not_lt, Int.not_le, gt_iff_lt, ge_iff_le, ne_eq] at h7
                refine X_seq ?_
                refine X_region ?_
                refine XL_det .no (D_pure rfl) rfl ?_
                refine XL_det .no (D_pure rfl) rfl ?_
                refine XL_then ?_
                refine X_cond rfl (fun h8 => ?_) (fun h8 => ?_)
                · try simp only [decide_eq_true_eq, decide_eq_false_iff_not, Bool.not_eq_true', Bool.not_eq_false', beq_iff_eq, bne_iff_ne, beq_eq_false_iff_ne, bne_eq_false_iff_eq, Int.not_lt, Int.not_le, gt_iff_lt, ge_iff_le, ne_eq] at h8
                  refine X_seq ?_
                  refine X_region ?_
                  refine XL_det .no (D_pure rfl) rfl ?_
                  refine XL_then ?_
                  refine X_ret ?_
                  refine inBlk_ret ?_
                  refine thenX_ret ?_
                  refine ret_ok (.nil _) (res_tmp rfl rfl) ?_
                  exact ⟨_, ⟨by rw [h8]; rfl, rfl⟩, _, (by repeat first | with_reducible exact .nil _ | with_reducible exact .here _ _ | with_reducible exact Take.self _ | with_reducible apply Take.cons | with_reducible apply Out.there | with_reducible apply Take.skip | with_reducible exact Take.pre _ _ | with_reducible apply Out.app)⟩
                · try simp only [decide_eq_true_eq, decide_eq_false_iff_not, Bool.not_eq_true', Bool.not_eq_false', beq_iff_eq, bne_iff_ne, beq_eq_false_iff_ne, bne_eq_false_iff_eq, Int.not_lt, Int.not_le, gt_iff_lt, ge_iff_le, ne_eq] at h8
                  refine X_seq ?_
                  refine X_region ?_
                  refine XL_det .no (D_pure rfl) rfl ?_
                  refine XL_det .no (D_pure rfl) rfl ?_
                  refine XL_then ?_
                  refine X_cond rfl (fun h9 => ?_) (fun h9 => ?_)
                  · try simp only [decide_eq_true_eq, decide_eq_false_iff_not, Bool.not_eq_true', Bool.not_eq_false', beq_iff_eq, bne_iff_ne, beq_eq_false_iff_ne, bne_eq_false_iff_eq, Int.not_lt, Int.not_le, gt_iff_lt, ge_iff_le, ne_eq] at h9
                    refine X_seq ?_
                    refine X_region ?_
                    refine XL_det .no (D_pure rfl) rfl ?_
                    refine XL_then ?_
                    refine X_ret ?_
                    refine inBlk_ret ?_
                    refine thenX_ret ?_
                    refine ret_ok (.nil _) (res_tmp rfl rfl) ?_
                    exact ⟨_, ⟨by rw [h9]; rfl, rfl⟩, _, (by repeat first | with_reducible exact .nil _ | with_reducible exact .here _ _ | with_reducible exact Take.self _ | with_reducible apply Take.cons | with_reducible apply Out.there | with_reducible apply Take.skip | with_reducible exact Take.pre _ _ | with_reducible apply Out.app)⟩
                  · try simp only [decide_eq_true_eq, decide_eq_false_iff_not, Bool.not_eq_true', Bool.not_eq_false', beq_iff_eq, bne_iff_ne, beq_eq_false_iff_ne, bne_eq_false_iff_eq, Int.not_lt, Int.not_le, gt_iff_lt, ge_iff_le, ne_eq] at h9
                    refine X_seq ?_
                    refine X_region ?_
                    refine XL_det .no (D_pure rfl) rfl ?_
                    refine XL_det .no (D_pure rfl) rfl ?_
                    refine XL_then ?_
                    refine X_cond rfl (fun h10 => ?_) (fun h10 => ?_)
                    · try simp only [decide_eq_true_eq, decide_eq_false_iff_not, Bool.not_eq_true', Bool.not_eq_false', beq_iff_eq, bne_iff_ne, beq_eq_false_iff_ne, bne_eq_false_iff_eq, Int.not_lt, Int.not_le, gt_iff_lt, ge_iff_le, ne_eq] at h10
                      refine X_seq ?_
                      refine X_region ?_
                      refine XL_det .no (D_pure rfl) rfl ?_
                      refine XL_then ?_
                      refine X_ret ?_
                      refine inBlk_ret ?_
                      refine thenX_ret ?_
                      refine ret_ok (.nil _) (res_tmp rfl rfl) ?_
                      exact ⟨_, ⟨by rw [h10]; rfl, rfl⟩, _, (by repeat first | with_reducible exact .nil _ | with_reducible exact .here _ _ | with_reducible exact Take.self _ | with_reducible apply Take.cons | with_reducible apply Out.there | with_reducible apply Take.skip | with_reducible exact Take.pre _ _ | with_reducible apply Out.app)⟩
                    · try simp only [decide_eq_true_eq, decide_eq_false_iff_not, Bool.not_eq_true', Bool.not_eq_false', beq_iff_eq, bne_iff_ne, beq_eq_false_iff_ne, bne_eq_false_iff_eq, Int.not_lt, Int.not_le, gt_iff_lt, ge_iff_le, ne_eq] at h10
                      refine X_skip ?_
                      refine inBlk_normal ?_
                      refine thenX_normal ?_
                      refine X_seq ?_
                      refine X_region ?_
                      refine XL_det .no (D_pure rfl) rfl ?_
                      refine XL_then ?_
                      refine X_ret ?_
                      refine ret_ok (.nil _) (res_tmp rfl rfl) ?_
                      exact ⟨_, ⟨by rw [word_out (by omega)], rfl⟩, _, (by repeat first | with_reducible exact .nil _ | with_reducible exact .here _ _ | with_reducible exact Take.self _ | with_reducible apply Take.cons | with_reducible apply Out.there | with_reducible apply Take.skip | with_reducible exact Take.pre _ _ | with_reducible apply Out.app)⟩


abbrev names10 : List Value := [str [114, 117, 110, 115], str [99, 97, 109, 101], str [111, 118, 101, 114], str [108, 97, 116, 101], str [116, 111, 111, 107], str [103, 97, 118, 101], str [97, 115, 107, 101, 100], str [109, 111, 100, 101], str [115, 101, 116, 116, 108, 101, 100], str [100, 114, 111, 112, 112, 101, 100]]
theorem names_get {k : Int} (h1 : 1 ≤ k) (h2 : k ≤ 10) : names10[(k - 1).toNat * 1]? = some (str (wordK k)) := by
  rcases k_cases h1 h2 with rfl | rfl | rfl | rfl | rfl | rfl | rfl | rfl | rfl | rfl <;> rfl

theorem rword (k : Int) : Ctr Try.prog B 43 [.int .i64 k] [] (fun v S => v = str (wordK k) ∧ S = []) := by
  refine Ctr_of_X (N := 14) Try.func43 rfl (by simp) rfl ?_
  intro w0 D0
  refine X_seq ?_
  refine X_region ?_
  refine XL_det .no (D_pure rfl) rfl ?_
  refine XL_then ?_
  refine X_seq ?_
  refine X_seq ?_
  refine X_region ?_
  refine XL_det .no (D_pure rfl) rfl ?_
  refine XL_det .no (D_pure rfl) rfl ?_
  refine XL_det .no (D_pure rfl) rfl ?_
  refine XL_split (t := 5) rfl (fun h1 => ?_) (fun h1 => ?_)
  · try simp only [decide_eq_true_eq, decide_eq_false_iff_not, Bool.not_eq_true', Bool.not_eq_false', beq_iff_eq, bne_iff_ne, beq_eq_false_iff_ne, bne_eq_false_iff_eq, Int.not_lt, Int.not_le, gt_iff_lt, ge_iff_le, ne_eq] at h1
    refine XL_skip 5 rfl rfl rfl rfl rfl ?_
    refine XL_skip 5 rfl rfl rfl rfl rfl ?_
    refine XL_det .no (D_pure rfl) rfl ?_
    refine XL_then ?_
    refine X_cond_t rfl rfl ?_
    refine X_seq ?_
    refine X_region ?_
    refine XL_det .no (D_pure rfl) rfl ?_
    refine XL_then ?_
    refine X_ret ?_
    refine thenX_ret ?_
    refine ret_ok (.nil _) (res_tmp rfl rfl) ?_
    exact ⟨_, ⟨by rw [word_out (by omega)], rfl⟩, _, (by repeat first | with_reducible exact .nil _ | with_reducible exact .here _ _ | with_reducible exact Take.self _ | with_reducible apply Take.cons | with_reducible apply Out.there | with_reducible apply Take.skip | with_reducible exact Take.pre _ _ | with_reducible apply Out.app)⟩
  · try simp only [decide_eq_true_eq, decide_eq_false_iff_not, Bool.not_eq_true', Bool.not_eq_false', beq_iff_eq, bne_iff_ne, beq_eq_false_iff_ne, bne_eq_false_iff_eq, Int.not_lt, Int.not_le, gt_iff_lt, ge_iff_le, ne_eq] at h1
    refine XL_det (.yes 5 rfl rfl rfl) (D_pure rfl) rfl ?_
    refine XL_det (.yes 5 rfl rfl rfl) (D_pure rfl) rfl ?_
    refine XL_det .no (D_pure rfl) rfl ?_
    refine XL_then ?_
    refine X_cond rfl (fun h2 => ?_) (fun h2 => ?_)
    · try simp only [decide_eq_true_eq, decide_eq_false_iff_not, Bool.not_eq_true', Bool.not_eq_false', beq_iff_eq, bne_iff_ne, beq_eq_false_iff_ne, bne_eq_false_iff_eq, Int.not_lt, Int.not_le, gt_iff_lt, ge_iff_le, ne_eq] at h2
      refine X_seq ?_
      refine X_region ?_
      refine XL_det .no (D_pure rfl) rfl ?_
      refine XL_then ?_
      refine X_ret ?_
      refine thenX_ret ?_
      refine ret_ok (.nil _) (res_tmp rfl rfl) ?_
      exact ⟨_, ⟨by rw [word_out (by omega)], rfl⟩, _, (by repeat first | with_reducible exact .nil _ | with_reducible exact .here _ _ | with_reducible exact Take.self _ | with_reducible apply Take.cons | with_reducible apply Out.there | with_reducible apply Take.skip | with_reducible exact Take.pre _ _ | with_reducible apply Out.app)⟩
    · try simp only [decide_eq_true_eq, decide_eq_false_iff_not, Bool.not_eq_true', Bool.not_eq_false', beq_iff_eq, bne_iff_ne, beq_eq_false_iff_ne, bne_eq_false_iff_eq, Int.not_lt, Int.not_le, gt_iff_lt, ge_iff_le, ne_eq] at h2
      refine X_skip ?_
      refine thenX_normal ?_
      refine X_seq ?_
      refine X_region ?_
      refine XL_bslice (cs := names10) .no rfl slt_71 (by decide) (by decide) (by rfl) (by rfl) rfl rfl (fun b1 => ?_)
      refine XL_det .no (D_pure rfl) rfl ?_
      refine XL_det .no (D_sub rfl rfl (by omega) (by omega)) rfl ?_
      refine XL_det .no (D_idxS (n := 10) (j := (k - 1).toNat) rfl rfl slc_71 (by omega) (by omega) rfl) rfl ?_
      refine XL_det .no (D_ld (ad := ⟨b1, 0, none⟩) (k := (k - 1).toNat * 1) rfl (by repeat first | with_reducible exact .here _ _ | with_reducible apply Out.there | with_reducible apply Out.app) Rd_obj tk_9 (names_get (by omega) (by omega))) rfl ?_
      refine XL_det .no (D_pure rfl) rfl ?_
      refine XL_then ?_
      refine X_ret ?_
      refine ret_ok (.nil _) (res_tmp rfl rfl) ?_
      exact ⟨_, ⟨rfl, rfl⟩, _, (by repeat first | with_reducible exact .nil _ | with_reducible exact .here _ _ | with_reducible exact Take.self _ | with_reducible apply Take.cons | with_reducible apply Out.there | with_reducible apply Take.skip | with_reducible exact Take.pre _ _ | with_reducible apply Out.app)⟩

theorem tright (n : Int) : Ctr Try.prog B 49 [.int .i64 n] [] (fun v S => v = .bool (rtN n) ∧ S = []) := by
  refine Ctr_of_X (N := 9) Try.func49 rfl (by simp) rfl ?_
  intro w0 D0
  refine X_seq ?_
  refine X_region ?_
  refine XL_det .no (D_pure rfl) rfl ?_
  refine XL_then ?_
  refine X_seq ?_
  refine X_region ?_
  refine XL_det .no (D_pure rfl) rfl ?_
  refine XL_det .no (D_pure rfl) rfl ?_
  refine XL_det .no (D_pure rfl) rfl ?_
  refine XL_split (t := 5) rfl (fun h1 => ?_) (fun h1 => ?_)
  · try simp only [decide_eq_true_eq, decide_eq_false_iff_not, Bool.not_eq_true', Bool.not_eq_false', beq_iff_eq, bne_iff_ne, beq_eq_false_iff_ne, bne_eq_false_iff_eq, Int.not_lt, Int.not_le, gt_iff_lt, ge_iff_le, ne_eq] at h1
    refine XL_det (.yes 5 rfl rfl rfl) (D_pure rfl) rfl ?_
    refine XL_det (.yes 5 rfl rfl rfl) (D_pure rfl) rfl ?_
    refine XL_det .no (D_pure rfl) rfl ?_
    refine XL_det .no (D_pure rfl) rfl ?_
    refine XL_then ?_
    refine X_ret ?_
    refine ret_ok (.nil _) (res_tmp rfl rfl) ?_
    exact ⟨_, ⟨by unfold rtN; simp [*] <;> omega, rfl⟩, _, (by repeat first | with_reducible exact .nil _ | with_reducible exact .here _ _ | with_reducible exact Take.self _ | with_reducible apply Take.cons | with_reducible apply Out.there | with_reducible apply Take.skip | with_reducible exact Take.pre _ _ | with_reducible apply Out.app)⟩
  · try simp only [decide_eq_true_eq, decide_eq_false_iff_not, Bool.not_eq_true', Bool.not_eq_false', beq_iff_eq, bne_iff_ne, beq_eq_false_iff_ne, bne_eq_false_iff_eq, Int.not_lt, Int.not_le, gt_iff_lt, ge_iff_le, ne_eq] at h1
    refine XL_skip 5 rfl rfl rfl rfl rfl ?_
    refine XL_skip 5 rfl rfl rfl rfl rfl ?_
    refine XL_det .no (D_pure rfl) rfl ?_
    refine XL_det .no (D_pure rfl) rfl ?_
    refine XL_then ?_
    refine X_ret ?_
    refine ret_ok (.nil _) (res_tmp rfl rfl) ?_
    exact ⟨_, ⟨by unfold rtN; simp [*] <;> omega, rfl⟩, _, (by repeat first | with_reducible exact .nil _ | with_reducible exact .here _ _ | with_reducible exact Take.self _ | with_reducible apply Take.cons | with_reducible apply Out.there | with_reducible apply Take.skip | with_reducible exact Take.pre _ _ | with_reducible apply Out.app)⟩

theorem tRight (e : Ev) : Ctr Try.prog B 24 [.agg (encE e).toArray] [] (fun v S => v = .bool (rtE e) ∧ S = []) := by
  refine Ctr_of_X (N := 22) Try.func24 rfl (by simp) rfl ?_
  intro w0 D0
  refine X_seq ?_
  refine X_region ?_
  refine XL_box (cs := encE e) .no rfl rfl rfl (fun b1 => ?_)
  refine XL_det .no (D_pure rfl) rfl ?_
  refine XL_then ?_
  refine X_seq ?_
  refine X_region ?_
  refine XL_det .no (D_fld rfl fld_36_1 (o' := 1) rfl) rfl ?_
  refine XL_det .no (D_ldo rfl (by repeat first | with_reducible exact .here _ _ | with_reducible apply Out.there | with_reducible apply Out.app) tk_34 (by rfl)) rfl ?_
  refine XL_callv .no en_42 rfl (tname e.kind) rfl ?_
  refine XL_det .no (D_seq (q := !(wordK e.kind == [])) rfl rfl rfl) rfl ?_
  refine XL_det .no (D_pure rfl) rfl ?_
  refine XL_split (t := 7) rfl (fun h1 => ?_) (fun h1 => ?_)
  · try simp only [decide_eq_true_eq, decide_eq_false_iff_not, Bool.not_eq_true', Bool.not_eq_false', beq_iff_eq, bne_iff_ne, beq_eq_false_iff_ne, bne_eq_false_iff_eq, Int.not_lt, Int.not_le, gt_iff_lt, ge_iff_le, ne_eq] at h1
    refine XL_det (.yes 7 rfl rfl rfl) (D_fld rfl fld_36_0 (o' := 0) rfl) rfl ?_
    refine XL_det (.yes 7 rfl rfl rfl) (D_ldo rfl (by repeat first | with_reducible exact .here _ _ | with_reducible apply Out.there | with_reducible apply Out.app) tk_3 (by rfl)) rfl ?_
    refine XL_callv (.yes 7 rfl rfl rfl) en_49 rfl (tright e.tick) rfl ?_
    refine XL_det .no (D_pure rfl) rfl ?_
    refine XL_det .no (D_pure rfl) rfl ?_
    refine XL_split (t := 12) rfl (fun h2 => ?_) (fun h2 => ?_)
    · try simp only [decide_eq_true_eq, decide_eq_false_iff_not, Bool.not_eq_true', Bool.not_eq_false', beq_iff_eq, bne_iff_ne, beq_eq_false_iff_ne, bne_eq_false_iff_eq, Int.not_lt, Int.not_le, gt_iff_lt, ge_iff_le, ne_eq] at h2
      refine XL_det (.yes 12 rfl rfl rfl) (D_fld rfl fld_36_2 (o' := 2) rfl) rfl ?_
      refine XL_det (.yes 12 rfl rfl rfl) (D_ldo rfl (by repeat first | with_reducible exact .here _ _ | with_reducible apply Out.there | with_reducible apply Out.app) tk_3 (by rfl)) rfl ?_
      refine XL_callv (.yes 12 rfl rfl rfl) en_49 rfl (tright e.a) rfl ?_
      refine XL_det .no (D_pure rfl) rfl ?_
      refine XL_det .no (D_pure rfl) rfl ?_
      refine XL_split (t := 17) rfl (fun h3 => ?_) (fun h3 => ?_)
      · try simp only [decide_eq_true_eq, decide_eq_false_iff_not, Bool.not_eq_true', Bool.not_eq_false', beq_iff_eq, bne_iff_ne, beq_eq_false_iff_ne, bne_eq_false_iff_eq, Int.not_lt, Int.not_le, gt_iff_lt, ge_iff_le, ne_eq] at h3
        refine XL_det (.yes 17 rfl rfl rfl) (D_fld rfl fld_36_3 (o' := 3) rfl) rfl ?_
        refine XL_det (.yes 17 rfl rfl rfl) (D_ldo rfl (by repeat first | with_reducible exact .here _ _ | with_reducible apply Out.there | with_reducible apply Out.app) tk_3 (by rfl)) rfl ?_
        refine XL_callv (.yes 17 rfl rfl rfl) en_49 rfl (tright e.b) rfl ?_
        refine XL_det .no (D_pure rfl) rfl ?_
        refine XL_det .no (D_pure rfl) rfl ?_
        refine XL_then ?_
        refine X_ret ?_
        refine ret_ok (.nil _) (res_tmp rfl rfl) ?_
        exact ⟨_, ⟨by unfold rtE; simp [*], rfl⟩, _, (by repeat first | with_reducible exact .nil _ | with_reducible exact .here _ _ | with_reducible exact Take.self _ | with_reducible apply Take.cons | with_reducible apply Out.there | with_reducible apply Take.skip | with_reducible exact Take.pre _ _ | with_reducible apply Out.app)⟩
      · try simp only [decide_eq_true_eq, decide_eq_false_iff_not, Bool.not_eq_true', Bool.not_eq_false', beq_iff_eq, bne_iff_ne, beq_eq_false_iff_ne, bne_eq_false_iff_eq, Int.not_lt, Int.not_le, gt_iff_lt, ge_iff_le, ne_eq] at h3
        refine XL_skip 17 rfl rfl rfl rfl rfl ?_
        refine XL_skip 17 rfl rfl rfl rfl rfl ?_
        refine XL_skip 17 rfl rfl rfl rfl rfl ?_
        refine XL_det .no (D_pure rfl) rfl ?_
        refine XL_det .no (D_pure rfl) rfl ?_
        refine XL_then ?_
        refine X_ret ?_
        refine ret_ok (.nil _) (res_tmp rfl rfl) ?_
        exact ⟨_, ⟨by unfold rtE; simp [*], rfl⟩, _, (by repeat first | with_reducible exact .nil _ | with_reducible exact .here _ _ | with_reducible exact Take.self _ | with_reducible apply Take.cons | with_reducible apply Out.there | with_reducible apply Take.skip | with_reducible exact Take.pre _ _ | with_reducible apply Out.app)⟩
    · try simp only [decide_eq_true_eq, decide_eq_false_iff_not, Bool.not_eq_true', Bool.not_eq_false', beq_iff_eq, bne_iff_ne, beq_eq_false_iff_ne, bne_eq_false_iff_eq, Int.not_lt, Int.not_le, gt_iff_lt, ge_iff_le, ne_eq] at h2
      refine XL_skip 12 rfl rfl rfl rfl rfl ?_
      refine XL_skip 12 rfl rfl rfl rfl rfl ?_
      refine XL_skip 12 rfl rfl rfl rfl rfl ?_
      refine XL_det .no (D_pure rfl) rfl ?_
      refine XL_det .no (D_pure rfl) rfl ?_
      refine XL_skip 17 rfl rfl rfl rfl rfl ?_
      refine XL_skip 17 rfl rfl rfl rfl rfl ?_
      refine XL_skip 17 rfl rfl rfl rfl rfl ?_
      refine XL_det .no (D_pure rfl) rfl ?_
      refine XL_det .no (D_pure rfl) rfl ?_
      refine XL_then ?_
      refine X_ret ?_
      refine ret_ok (.nil _) (res_tmp rfl rfl) ?_
      exact ⟨_, ⟨by unfold rtE; simp [*], rfl⟩, _, (by repeat first | with_reducible exact .nil _ | with_reducible exact .here _ _ | with_reducible exact Take.self _ | with_reducible apply Take.cons | with_reducible apply Out.there | with_reducible apply Take.skip | with_reducible exact Take.pre _ _ | with_reducible apply Out.app)⟩
  · try simp only [decide_eq_true_eq, decide_eq_false_iff_not, Bool.not_eq_true', Bool.not_eq_false', beq_iff_eq, bne_iff_ne, beq_eq_false_iff_ne, bne_eq_false_iff_eq, Int.not_lt, Int.not_le, gt_iff_lt, ge_iff_le, ne_eq] at h1
    refine XL_skip 7 rfl rfl rfl rfl rfl ?_
    refine XL_skip 7 rfl rfl rfl rfl rfl ?_
    refine XL_skip 7 rfl rfl rfl rfl rfl ?_
    refine XL_det .no (D_pure rfl) rfl ?_
    refine XL_det .no (D_pure rfl) rfl ?_
    refine XL_skip 12 rfl rfl rfl rfl rfl ?_
    refine XL_skip 12 rfl rfl rfl rfl rfl ?_
    refine XL_skip 12 rfl rfl rfl rfl rfl ?_
    refine XL_det .no (D_pure rfl) rfl ?_
    refine XL_det .no (D_pure rfl) rfl ?_
    refine XL_skip 17 rfl rfl rfl rfl rfl ?_
    refine XL_skip 17 rfl rfl rfl rfl rfl ?_
    refine XL_skip 17 rfl rfl rfl rfl rfl ?_
    refine XL_det .no (D_pure rfl) rfl ?_
    refine XL_det .no (D_pure rfl) rfl ?_
    refine XL_then ?_
    refine X_ret ?_
    refine ret_ok (.nil _) (res_tmp rfl rfl) ?_
    exact ⟨_, ⟨by unfold rtE; simp [*], rfl⟩, _, (by repeat first | with_reducible exact .nil _ | with_reducible exact .here _ _ | with_reducible exact Take.self _ | with_reducible apply Take.cons | with_reducible apply Out.there | with_reducible apply Take.skip | with_reducible exact Take.pre _ _ | with_reducible apply Out.app)⟩

theorem tLine (e : Ev) : Ctr Try.prog B 19 [.agg (encE e).toArray] [] (fun v S => v = str (lineE e) ∧ S = []) := by
  refine Ctr_of_X (N := 24) Try.func19 rfl (by simp) rfl ?_
  intro w0 D0
  refine X_seq ?_
  refine X_region ?_
  refine XL_box (cs := encE e) .no rfl rfl rfl (fun b1 => ?_)
  refine XL_det .no (D_pure rfl) rfl ?_
  refine XL_then ?_
  refine X_seq ?_
  refine X_seq ?_
  refine X_region ?_
  refine XL_det .no (D_ldso (vs := encE e) rfl (by repeat first | with_reducible exact .here _ _ | with_reducible apply Out.there | with_reducible apply Out.app) tk_36 rfl (by rfl)) rfl ?_
  refine XL_callv .no en_24 rfl (tRight e) rfl ?_
  refine XL_det .no (D_pure rfl) rfl ?_
  refine XL_then ?_
  refine X_cond rfl (fun h1 => ?_) (fun h1 => ?_)
  · try simp only [decide_eq_true_eq, decide_eq_false_iff_not, Bool.not_eq_true', Bool.not_eq_false', beq_iff_eq, bne_iff_ne, beq_eq_false_iff_ne, bne_eq_false_iff_eq, Int.not_lt, Int.not_le, gt_iff_lt, ge_iff_le, ne_eq] at h1
    refine X_seq ?_
    refine X_region ?_
    refine XL_det .no (D_pure rfl) rfl ?_
    refine XL_then ?_
    refine X_ret ?_
    refine thenX_ret ?_
    refine ret_ok (.nil _) (res_tmp rfl rfl) ?_
    exact ⟨_, ⟨by rw [lineE_f (by simpa using h1)], rfl⟩, _, (by repeat first | with_reducible exact .nil _ | with_reducible exact .here _ _ | with_reducible exact Take.self _ | with_reducible apply Take.cons | with_reducible apply Out.there | with_reducible apply Take.skip | with_reducible exact Take.pre _ _ | with_reducible apply Out.app)⟩
  · try simp only [decide_eq_true_eq, decide_eq_false_iff_not, Bool.not_eq_true', Bool.not_eq_false', beq_iff_eq, bne_iff_ne, beq_eq_false_iff_ne, bne_eq_false_iff_eq, Int.not_lt, Int.not_le, gt_iff_lt, ge_iff_le, ne_eq] at h1
    have g1 := txt_len e.tick
    have g2 := txt_len e.a
    have g3 := txt_len e.b
    have g4 := word_len e.kind
    refine X_skip ?_
    refine thenX_normal ?_
    refine X_seq ?_
    refine X_draw _ mixed (Take.self _) ?_
    refine XA_detp 0 rfl (by kernel_rfl) (by kernel_rfl) (by kernel_rfl) (fun _ _ _ _ h => h) .no (D_fldP rfl fld_36_0 (o' := 0) rfl) rfl ?_
    refine XA_det 1 rfl (by kernel_rfl) (by kernel_rfl) (by kernel_rfl) (by kernel_rfl) (fun _ _ _ _ h => h) .no (D_ldo rfl (by repeat first | with_reducible exact .here _ _ | with_reducible apply Out.there | with_reducible apply Out.app) tk_3 (by rfl)) rfl ?_
    refine XA_detp 4 rfl (by kernel_rfl) (by kernel_rfl) (by kernel_rfl) (fun _ _ _ _ h => h) .no (D_fldP rfl fld_36_1 (o' := 1) rfl) rfl ?_
    refine XA_det 5 rfl (by kernel_rfl) (by kernel_rfl) (by kernel_rfl) (by kernel_rfl) (fun _ _ _ _ h => h) .no (D_ldo rfl (by repeat first | with_reducible exact .here _ _ | with_reducible apply Out.there | with_reducible apply Out.app) tk_34 (by rfl)) rfl ?_
    refine XA_detp 9 rfl (by kernel_rfl) (by kernel_rfl) (by kernel_rfl) (fun _ _ _ _ h => h) .no (D_fldP rfl fld_36_2 (o' := 2) rfl) rfl ?_
    refine XA_det 10 rfl (by kernel_rfl) (by kernel_rfl) (by kernel_rfl) (by kernel_rfl) (fun _ _ _ _ h => h) .no (D_ldo rfl (by repeat first | with_reducible exact .here _ _ | with_reducible apply Out.there | with_reducible apply Out.app) tk_3 (by rfl)) rfl ?_
    refine XA_detp 14 rfl (by kernel_rfl) (by kernel_rfl) (by kernel_rfl) (fun _ _ _ _ h => h) .no (D_fldP rfl fld_36_3 (o' := 3) rfl) rfl ?_
    refine XA_det 15 rfl (by kernel_rfl) (by kernel_rfl) (by kernel_rfl) (by kernel_rfl) (fun _ _ _ _ h => h) .no (D_ldo rfl (by repeat first | with_reducible exact .here _ _ | with_reducible apply Out.there | with_reducible apply Out.app) tk_3 (by rfl)) rfl ?_
    refine XA_one 2 (by kernel_rfl) ?_
    refine XO_callv rfl .no en_41 rfl (dtext e.tick) rfl ?_
    refine XA_det 3 rfl (by kernel_rfl) (by kernel_rfl) (by kernel_rfl) (by kernel_rfl) (fun _ _ _ _ h => h) .no (D_scat rfl rfl (by simp only [List.length_append, List.length_cons, List.length_nil]; omega)) rfl ?_
    refine XA_one 6 (by kernel_rfl) ?_
    refine XO_callv rfl .no en_42 rfl (tname e.kind) rfl ?_
    refine XA_det 7 rfl (by kernel_rfl) (by kernel_rfl) (by kernel_rfl) (by kernel_rfl) (fun _ _ _ _ h => h) .no (D_scat rfl rfl (by simp only [List.length_append, List.length_cons, List.length_nil]; omega)) rfl ?_
    refine XA_det 8 rfl (by kernel_rfl) (by kernel_rfl) (by kernel_rfl) (by kernel_rfl) (fun _ _ _ _ h => h) .no (D_scat rfl rfl (by simp only [List.length_append, List.length_cons, List.length_nil]; omega)) rfl ?_
    refine XA_one 11 (by kernel_rfl) ?_
    refine XO_callv rfl .no en_41 rfl (dtext e.a) rfl ?_
    refine XA_det 12 rfl (by kernel_rfl) (by kernel_rfl) (by kernel_rfl) (by kernel_rfl) (fun _ _ _ _ h => h) .no (D_scat rfl rfl (by simp only [List.length_append, List.length_cons, List.length_nil]; omega)) rfl ?_
    refine XA_det 13 rfl (by kernel_rfl) (by kernel_rfl) (by kernel_rfl) (by kernel_rfl) (fun _ _ _ _ h => h) .no (D_scat rfl rfl (by simp only [List.length_append, List.length_cons, List.length_nil]; omega)) rfl ?_
    refine XA_one 16 (by kernel_rfl) ?_
    refine XO_callv rfl .no en_41 rfl (dtext e.b) rfl ?_
    refine XA_det 17 rfl (by kernel_rfl) (by kernel_rfl) (by kernel_rfl) (by kernel_rfl) (fun _ _ _ _ h => h) .no (D_scat rfl rfl (by simp only [List.length_append, List.length_cons, List.length_nil]; omega)) rfl ?_
    refine XA_detp 18 rfl (by kernel_rfl) (by kernel_rfl) (by kernel_rfl) (fun _ _ _ _ h => h) .no (D_pureP rfl) rfl ?_
    refine XA_done (by kernel_rfl) ?_
    try simp only [List.cons_append, List.nil_append, List.append_nil]
    refine thenX_normal ?_
    refine X_ret ?_
    refine ret_ok (.nil _) (res_tmp rfl rfl) ?_
    exact ⟨_, ⟨by rw [lineE_t (by simpa using h1)], rfl⟩, _, (by repeat first | with_reducible exact .nil _ | with_reducible exact .here _ _ | with_reducible exact Take.self _ | with_reducible apply Take.cons | with_reducible apply Out.there | with_reducible apply Take.skip | with_reducible exact Take.pre _ _ | with_reducible apply Out.app)⟩


def nthE (e : Ev) : Nat → Int
  | 0 => e.tick
  | 1 => e.kind
  | 2 => e.a
  | _ => e.b
theorem nthE_get (e : Ev) {i : Nat} (h : i < 4) : (encE e)[0 + i * 1]? = some (.int .i64 (nthE e i)) := by
  have : i = 0 ∨ i = 1 ∨ i = 2 ∨ i = 3 := by omega
  rcases this with rfl | rfl | rfl | rfl <;> rfl
theorem line_out {e : Ev} {i : Nat} (hi : i < 4) (h : ¬ (0 ≤ nthE e i ∧ nthE e i ≤ 2147483647)) : lineE e = [] := by
  apply lineE_f
  have : i = 0 ∨ i = 1 ∨ i = 2 ∨ i = 3 := by omega
  unfold rtE rtN
  rcases this with rfl | rfl | rfl | rfl
  · have : ¬ (0 ≤ e.tick ∧ e.tick ≤ 2147483647) := h
    simp [this]
  · have : wordK e.kind = [] := word_out (fun hk => h ⟨by show 0 ≤ e.kind; omega, by show e.kind ≤ _; omega⟩)
    simp [this]
  · have : ¬ (0 ≤ e.a ∧ e.a ≤ 2147483647) := h
    simp [this]
  · have : ¬ (0 ≤ e.b ∧ e.b ≤ 2147483647) := h
    simp [this]
theorem line_in {e : Ev} (h : ∀ j, j < 4 → 0 ≤ nthE e j ∧ nthE e j ≤ 2147483647) (hk : ¬ wordK e.kind = []) : lineE e = txt e.tick ++ [32] ++ wordK e.kind ++ [32] ++ txt e.a ++ [32] ++ txt e.b := by
  apply lineE_t
  have h0 : 0 ≤ e.tick ∧ e.tick ≤ 2147483647 := h 0 (by decide)
  have h2 : 0 ≤ e.a ∧ e.a ≤ 2147483647 := h 2 (by decide)
  have h3 : 0 ≤ e.b ∧ e.b ≤ 2147483647 := h 3 (by decide)
  unfold rtE rtN
  simp [h0, h2, h3, hk]

theorem rLine (e : Ev) : Ctr Try.prog B 20 [.agg (encE e).toArray] [] (fun v S => v = str (lineE e) ∧ S = []) := by
  refine Ctr_of_X (N := 40) Try.func20 rfl (by simp) rfl ?_
  intro w0 D0
  refine X_seq ?_
  refine X_region ?_
  refine XL_box (cs := encE e) .no rfl rfl rfl (fun b1 => ?_)
  refine XL_det .no (D_pure rfl) rfl ?_
  refine XL_then ?_
  refine X_seq ?_
  refine X_seq ?_
  refine X_region ?_
  refine XL_det .no (D_pure rfl) rfl ?_
  refine XL_then ?_
  refine X_block ?_
  refine X_loop (α := Nat) (fun i => i ≤ 4 ∧ ∀ j, j < i → 0 ≤ nthE e j ∧ nthE e j ≤ 2147483647) (fun i => [(3, .int .i64 (i : Int)), (1, .pointer (some ⟨b1, 0, none⟩))]) (fun i => [blk b1 (encE e) 43]) (fun i => 4 - i) 0 ?_ (by refine ⟨?_, ?_, trivial⟩ <;> rfl) (by repeat first | with_reducible exact .nil _ | with_reducible exact .here _ _ | with_reducible exact Take.self _ | with_reducible apply Take.cons | with_reducible apply Out.there | with_reducible apply Take.skip | with_reducible exact Take.pre _ _ | with_reducible apply Out.app) ?_
  · exact ⟨by decide, fun j h => by omega⟩
  · rintro i ⟨hi, hall⟩
    refine X_seq ?_
    refine X_seq ?_
    refine X_region ?_
    refine XL_det .no (D_pure rfl) rfl ?_
    refine XL_det .no (D_pure rfl) rfl ?_
    refine XL_then ?_
    refine X_cond rfl (fun h1 => ?_) (fun h1 => ?_)
    · try simp only [decide_eq_true_eq, decide_eq_false_iff_not, Bool.not_eq_true', Bool.not_eq_false', beq_iff_eq, bne_iff_ne, beq_eq_false_iff_ne, bne_eq_false_iff_eq, Int.not_lt, Int.not_le, gt_iff_lt, ge_iff_le, ne_eq] at h1
      refine X_skip ?_
      refine thenX_normal ?_
      refine X_seq ?_
      refine X_block ?_
      refine X_seq ?_
      refine X_region ?_
      refine XL_det .no (D_pure rfl) rfl ?_
      refine XL_det .no (D_idxA rfl rfl arr_43 rfl (by omega) rfl) rfl ?_
      refine XL_det .no (D_ldo (v := .int .i64 (nthE e i)) rfl (by repeat first | with_reducible exact .here _ _ | with_reducible apply Out.there | with_reducible apply Out.app) tk_3 (nthE_get e (by omega))) rfl ?_
      refine XL_det .no (D_pure rfl) rfl ?_
      refine XL_det .no (D_pure rfl) rfl ?_
      refine XL_split (t := 12) rfl (fun h2 => ?_) (fun h2 => ?_)
      · try simp only [decide_eq_true_eq, decide_eq_false_iff_not, Bool.not_eq_true', Bool.not_eq_false', beq_iff_eq, bne_iff_ne, beq_eq_false_iff_ne, bne_eq_false_iff_eq, Int.not_lt, Int.not_le, gt_iff_lt, ge_iff_le, ne_eq] at h2
        refine XL_skip 12 rfl rfl rfl rfl rfl ?_
        refine XL_skip 12 rfl rfl rfl rfl rfl ?_
        refine XL_skip 12 rfl rfl rfl rfl rfl ?_
        refine XL_skip 12 rfl rfl rfl rfl rfl ?_
        refine XL_det .no (D_pure rfl) rfl ?_
        refine XL_then ?_
        refine X_cond_t rfl rfl ?_
        refine X_seq ?_
        refine X_region ?_
        refine XL_det .no (D_pure rfl) rfl ?_
        refine XL_then ?_
        refine X_ret ?_
        refine inBlk_ret ?_
        refine thenX_ret ?_
        refine loopQ_ret ?_
        refine inBlk_ret ?_
        refine thenX_ret ?_
        refine ret_ok (.nil _) (res_tmp rfl rfl) ?_
        exact ⟨_, ⟨by rw [line_out (i := i) (by omega) (by omega)], rfl⟩, _, (by repeat first | with_reducible exact .nil _ | with_reducible exact .here _ _ | with_reducible exact Take.self _ | with_reducible apply Take.cons | with_reducible apply Out.there | with_reducible apply Take.skip | with_reducible exact Take.pre _ _ | with_reducible apply Out.app)⟩
      · try simp only [decide_eq_true_eq, decide_eq_false_iff_not, Bool.not_eq_true', Bool.not_eq_false', beq_iff_eq, bne_iff_ne, beq_eq_false_iff_ne, bne_eq_false_iff_eq, Int.not_lt, Int.not_le, gt_iff_lt, ge_iff_le, ne_eq] at h2
        refine XL_det (.yes 12 rfl rfl rfl) (D_pure rfl) rfl ?_
        refine XL_det (.yes 12 rfl rfl rfl) (D_idxA rfl rfl arr_43 rfl (by omega) rfl) rfl ?_
        refine XL_det (.yes 12 rfl rfl rfl) (D_ldo (v := .int .i64 (nthE e i)) rfl (by repeat first | with_reducible exact .here _ _ | with_reducible apply Out.there | with_reducible apply Out.app) tk_3 (nthE_get e (by omega))) rfl ?_
        refine XL_det (.yes 12 rfl rfl rfl) (D_pure rfl) rfl ?_
        refine XL_det .no (D_pure rfl) rfl ?_
        refine XL_then ?_
        refine X_cond rfl (fun h3 => ?_) (fun h3 => ?_)
        · try simp only [decide_eq_true_eq, decide_eq_false_iff_not, Bool.not_eq_true', Bool.not_eq_false', beq_iff_eq, bne_iff_ne, beq_eq_false_iff_ne, bne_eq_false_iff_eq, Int.not_lt, Int.not_le, gt_iff_lt, ge_iff_le, ne_eq] at h3
          refine X_seq ?_
          refine X_region ?_
          refine XL_det .no (D_pure rfl) rfl ?_
          refine XL_then ?_
          refine X_ret ?_
          refine inBlk_ret ?_
          refine thenX_ret ?_
          refine loopQ_ret ?_
          refine inBlk_ret ?_
          refine thenX_ret ?_
          refine ret_ok (.nil _) (res_tmp rfl rfl) ?_
          exact ⟨_, ⟨by rw [line_out (i := i) (by omega) (by omega)], rfl⟩, _, (by repeat first | with_reducible exact .nil _ | with_reducible exact .here _ _ | with_reducible exact Take.self _ | with_reducible apply Take.cons | with_reducible apply Out.there | with_reducible apply Take.skip | with_reducible exact Take.pre _ _ | with_reducible apply Out.app)⟩
        · try simp only [decide_eq_true_eq, decide_eq_false_iff_not, Bool.not_eq_true', Bool.not_eq_false', beq_iff_eq, bne_iff_ne, beq_eq_false_iff_ne, bne_eq_false_iff_eq, Int.not_lt, Int.not_le, gt_iff_lt, ge_iff_le, ne_eq] at h3
          refine X_skip ?_
          refine inBlk_normal ?_
          refine thenX_normal ?_
          refine X_region ?_
          refine XL_det .no (D_pure rfl) rfl ?_
          refine XL_det .no (D_add rfl rfl (by omega) (by omega)) rfl ?_
          refine XL_det .no (D_pure rfl) rfl ?_
          refine XL_nil ?_
          refine loopQ_next (i + 1) ?_ ?_ ?_ ?_
          · exact ⟨by omega, fun j hj => by rcases Nat.lt_succ_iff_lt_or_eq.1 hj with h | rfl; exact hall j h; exact ⟨by omega, by omega⟩⟩
          · omega
          · refine ⟨?_, ?_, trivial⟩ <;> rfl
          · exact ⟨_, (by repeat first | with_reducible exact .nil _ | with_reducible exact .here _ _ | with_reducible exact Take.self _ | with_reducible apply Take.cons | with_reducible apply Out.there | with_reducible apply Take.skip | with_reducible exact Take.pre _ _ | with_reducible apply Out.app)⟩
    · try simp only [decide_eq_true_eq, decide_eq_false_iff_not, Bool.not_eq_true', Bool.not_eq_false', beq_iff_eq, bne_iff_ne, beq_eq_false_iff_ne, bne_eq_false_iff_eq, Int.not_lt, Int.not_le, gt_iff_lt, ge_iff_le, ne_eq] at h1
      obtain rfl : i = 4 := by omega
      refine X_exit ?_
      refine thenX_exit ?_
      refine loopQ_exit ?_
      refine inBlk_here ?_
      refine thenX_normal ?_
      refine X_seq ?_
      refine X_seq ?_
      refine X_region ?_
      refine XL_det .no (D_idxA rfl rfl arr_43 rfl (by decide) rfl) rfl ?_
      refine XL_det .no (D_ldo (v := .int .i64 e.kind) rfl (by repeat first | with_reducible exact .here _ _ | with_reducible apply Out.there | with_reducible apply Out.app) tk_3 rfl) rfl ?_
      refine XL_callv .no en_43 rfl (rword e.kind) rfl ?_
      refine XL_det .no (D_seq (b := []) rfl rfl rfl) rfl ?_
      refine XL_then ?_
      refine X_cond rfl (fun h4 => ?_) (fun h4 => ?_)
      · try simp only [decide_eq_true_eq, decide_eq_false_iff_not, Bool.not_eq_true', Bool.not_eq_false', beq_iff_eq, bne_iff_ne, beq_eq_false_iff_ne, bne_eq_false_iff_eq, Int.not_lt, Int.not_le, gt_iff_lt, ge_iff_le, ne_eq] at h4
        refine X_seq ?_
        refine X_region ?_
        refine XL_det .no (D_pure rfl) rfl ?_
        refine XL_then ?_
        refine X_ret ?_
        refine thenX_ret ?_
        refine ret_ok (.nil _) (res_tmp rfl rfl) ?_
        exact ⟨_, ⟨by rw [lineE_f (by unfold rtE; simp [h4])], rfl⟩, _, (by repeat first | with_reducible exact .nil _ | with_reducible exact .here _ _ | with_reducible exact Take.self _ | with_reducible apply Take.cons | with_reducible apply Out.there | with_reducible apply Take.skip | with_reducible exact Take.pre _ _ | with_reducible apply Out.app)⟩
      · try simp only [decide_eq_true_eq, decide_eq_false_iff_not, Bool.not_eq_true', Bool.not_eq_false', beq_iff_eq, bne_iff_ne, beq_eq_false_iff_ne, bne_eq_false_iff_eq, Int.not_lt, Int.not_le, gt_iff_lt, ge_iff_le, ne_eq] at h4
        have g1 := txt_len e.tick
        have g2 := txt_len e.a
        have g3 := txt_len e.b
        have g4 := word_len e.kind
        refine X_skip ?_
        refine thenX_normal ?_
        refine X_seq ?_
        refine X_draw _ mixed (Take.self _) ?_
        refine XA_detp 0 rfl (by kernel_rfl) (by kernel_rfl) (by kernel_rfl) (fun _ _ _ _ h => h) .no (D_idxAP rfl rfl arr_43 rfl (by decide) rfl) rfl ?_
        refine XA_det 1 rfl (by kernel_rfl) (by kernel_rfl) (by kernel_rfl) (by kernel_rfl) (fun _ _ _ _ h => h) .no (D_ldo (v := .int .i64 e.tick) rfl (by repeat first | with_reducible exact .here _ _ | with_reducible apply Out.there | with_reducible apply Out.app) tk_3 rfl) rfl ?_
        refine XA_detp 4 rfl (by kernel_rfl) (by kernel_rfl) (by kernel_rfl) (fun _ _ _ _ h => h) .no (D_idxAP rfl rfl arr_43 rfl (by decide) rfl) rfl ?_
        refine XA_det 5 rfl (by kernel_rfl) (by kernel_rfl) (by kernel_rfl) (by kernel_rfl) (fun _ _ _ _ h => h) .no (D_ldo (v := .int .i64 e.kind) rfl (by repeat first | with_reducible exact .here _ _ | with_reducible apply Out.there | with_reducible apply Out.app) tk_3 rfl) rfl ?_
        refine XA_detp 9 rfl (by kernel_rfl) (by kernel_rfl) (by kernel_rfl) (fun _ _ _ _ h => h) .no (D_idxAP rfl rfl arr_43 rfl (by decide) rfl) rfl ?_
        refine XA_det 10 rfl (by kernel_rfl) (by kernel_rfl) (by kernel_rfl) (by kernel_rfl) (fun _ _ _ _ h => h) .no (D_ldo (v := .int .i64 e.a) rfl (by repeat first | with_reducible exact .here _ _ | with_reducible apply Out.there | with_reducible apply Out.app) tk_3 rfl) rfl ?_
        refine XA_detp 14 rfl (by kernel_rfl) (by kernel_rfl) (by kernel_rfl) (fun _ _ _ _ h => h) .no (D_idxAP rfl rfl arr_43 rfl (by decide) rfl) rfl ?_
        refine XA_det 15 rfl (by kernel_rfl) (by kernel_rfl) (by kernel_rfl) (by kernel_rfl) (fun _ _ _ _ h => h) .no (D_ldo (v := .int .i64 e.b) rfl (by repeat first | with_reducible exact .here _ _ | with_reducible apply Out.there | with_reducible apply Out.app) tk_3 rfl) rfl ?_
        refine XA_one 2 (by kernel_rfl) ?_
        refine XO_callv rfl .no en_16 rfl (rtext e.tick) rfl ?_
        refine XA_det 3 rfl (by kernel_rfl) (by kernel_rfl) (by kernel_rfl) (by kernel_rfl) (fun _ _ _ _ h => h) .no (D_scat rfl rfl (by simp only [List.length_append, List.length_cons, List.length_nil]; omega)) rfl ?_
        refine XA_one 6 (by kernel_rfl) ?_
        refine XO_callv rfl .no en_43 rfl (rword e.kind) rfl ?_
        refine XA_det 7 rfl (by kernel_rfl) (by kernel_rfl) (by kernel_rfl) (by kernel_rfl) (fun _ _ _ _ h => h) .no (D_scat rfl rfl (by simp only [List.length_append, List.length_cons, List.length_nil]; omega)) rfl ?_
        refine XA_det 8 rfl (by kernel_rfl) (by kernel_rfl) (by kernel_rfl) (by kernel_rfl) (fun _ _ _ _ h => h) .no (D_scat rfl rfl (by simp only [List.length_append, List.length_cons, List.length_nil]; omega)) rfl ?_
        refine XA_one 11 (by kernel_rfl) ?_
        refine XO_callv rfl .no en_16 rfl (rtext e.a) rfl ?_
        refine XA_det 12 rfl (by kernel_rfl) (by kernel_rfl) (by kernel_rfl) (by kernel_rfl) (fun _ _ _ _ h => h) .no (D_scat rfl rfl (by simp only [List.length_append, List.length_cons, List.length_nil]; omega)) rfl ?_
        refine XA_det 13 rfl (by kernel_rfl) (by kernel_rfl) (by kernel_rfl) (by kernel_rfl) (fun _ _ _ _ h => h) .no (D_scat rfl rfl (by simp only [List.length_append, List.length_cons, List.length_nil]; omega)) rfl ?_
        refine XA_one 16 (by kernel_rfl) ?_
        refine XO_callv rfl .no en_16 rfl (rtext e.b) rfl ?_
        refine XA_det 17 rfl (by kernel_rfl) (by kernel_rfl) (by kernel_rfl) (by kernel_rfl) (fun _ _ _ _ h => h) .no (D_scat rfl rfl (by simp only [List.length_append, List.length_cons, List.length_nil]; omega)) rfl ?_
        refine XA_detp 18 rfl (by kernel_rfl) (by kernel_rfl) (by kernel_rfl) (fun _ _ _ _ h => h) .no (D_pureP rfl) rfl ?_
        refine XA_done (by kernel_rfl) ?_
        try simp only [List.cons_append, List.nil_append, List.append_nil]
        refine thenX_normal ?_
        refine X_ret ?_
        refine ret_ok (.nil _) (res_tmp rfl rfl) ?_
        exact ⟨_, ⟨by rw [line_in hall h4], rfl⟩, _, (by repeat first | with_reducible exact .nil _ | with_reducible exact .here _ _ | with_reducible exact Take.self _ | with_reducible apply Take.cons | with_reducible apply Out.there | with_reducible apply Take.skip | with_reducible exact Take.pre _ _ | with_reducible apply Out.app)⟩

theorem plain (e : Ev) : Ctr Try.prog B 21 [.agg (encE e).toArray] [] (fun v S => v = .agg (encE e).toArray ∧ S = []) := by
  refine Ctr_of_X (N := 12) Try.func21 rfl (by simp) rfl ?_
  intro w0 D0
  refine X_seq ?_
  refine X_region ?_
  refine XL_box (cs := encE e) .no rfl rfl rfl (fun b1 => ?_)
  refine XL_alloc .no zero_43 rfl (fun b2 => ?_)
  refine XL_then ?_
  refine X_seq ?_
  refine X_region ?_
  refine XL_det .no (D_fld rfl fld_36_0 (o' := 0) rfl) rfl ?_
  refine XL_det .no (D_ldo rfl (by repeat first | with_reducible exact .here _ _ | with_reducible apply Out.there | with_reducible apply Out.app) tk_3 (by rfl)) rfl ?_
  refine XL_det .no (D_fld rfl fld_36_1 (o' := 1) rfl) rfl ?_
  refine XL_det .no (D_ldo rfl (by repeat first | with_reducible exact .here _ _ | with_reducible apply Out.there | with_reducible apply Out.app) tk_34 (by rfl)) rfl ?_
  refine XL_det .no (D_fld rfl fld_36_2 (o' := 2) rfl) rfl ?_
  refine XL_det .no (D_ldo rfl (by repeat first | with_reducible exact .here _ _ | with_reducible apply Out.there | with_reducible apply Out.app) tk_3 (by rfl)) rfl ?_
  refine XL_det .no (D_fld rfl fld_36_3 (o' := 3) rfl) rfl ?_
  refine XL_det .no (D_ldo rfl (by repeat first | with_reducible exact .here _ _ | with_reducible apply Out.there | with_reducible apply Out.app) tk_3 (by rfl)) rfl ?_
  refine XL_det .no (D_buildA (cs := encE e) rfl bldA_43 rfl (by rfl)) rfl ?_
  refine XL_efd .no (F_stw rfl rfl rfl (by repeat first | with_reducible exact .here _ _ | with_reducible apply Out.there | with_reducible apply Out.app) tk_43 rfl rfl) ?_
  refine XL_then ?_
  refine X_ret ?_
  refine ret_ok (.nil _) (res_cell rfl rfl (by repeat first | with_reducible exact .here _ _ | with_reducible apply Out.there | with_reducible apply Out.app) tk_43 (by rfl)) ?_
  exact ⟨_, ⟨rfl, rfl⟩, _, (by repeat first | with_reducible exact .nil _ | with_reducible exact .here _ _ | with_reducible exact Take.self _ | with_reducible apply Take.cons | with_reducible apply Out.there | with_reducible apply Take.skip | with_reducible exact Take.pre _ _ | with_reducible apply Out.app)⟩

end Go.Proofs.Ytjcpggoodbkedaa
end

section
namespace Go.Proofs.Ytjcpggoodbkedaa
open Go Go.Sl
set_option linter.unusedVariables false
set_option linter.unusedSimpArgs false
set_option maxRecDepth 4000
variable {B : Nat} {K : Asrt B}
theorem cvt_5_3 : cvtK Try.prog 5 3 = some .i64 := by kernel_rfl
theorem us_9 : Try.prog.underlying 9 = some .string := by kernel_rfl
theorem tkind (b : List UInt8) : Ctr Try.prog B 46 [str b] [] (fun v S => v = .int .i64 (kindS b) ∧ S = []) := by
  refine Ctr_of_X (N := 13) Try.func46 rfl (by simp) rfl ?_
  intro w0 D0
  refine X_seq ?_
  refine X_region ?_
  refine XL_det .no (D_pure rfl) rfl ?_
  refine XL_then ?_
  refine X_seq ?_
  refine X_seq ?_
  refine X_region ?_
  refine XL_det .no (D_pure rfl) rfl ?_
  refine XL_then ?_
  refine X_block ?_
  refine X_loop (α := Int) (fun k => 1 ≤ k ∧ k ≤ 11 ∧ (kindS b = 0 ∨ k ≤ kindS b)) (fun k => [(3, .int .i64 k), (0, str b)]) (fun k => []) (fun k => (11 - k).toNat) 1 ?_ (by refine ⟨?_, ?_, trivial⟩ <;> rfl) (by repeat first | with_reducible exact .nil _ | with_reducible exact .here _ _ | with_reducible exact Take.self _ | with_reducible apply Take.cons | with_reducible apply Out.there | with_reducible apply Take.skip | with_reducible exact Take.pre _ _ | with_reducible apply Out.app) ?_
  · have := kind_rng b; exact ⟨by decide, by decide, by omega⟩
  · rintro k ⟨hk1, hk2, hk⟩
    have hkr := kind_rng b
    refine X_seq ?_
    refine X_seq ?_
    refine X_region ?_
    refine XL_det .no (D_pure rfl) rfl ?_
    refine XL_det .no (D_pure rfl) rfl ?_
    refine XL_then ?_
    refine X_cond rfl (fun h1 => ?_) (fun h1 => ?_)
    · try simp only [decide_eq_true_eq, decide_eq_false_iff_not, Bool.not_eq_true', Bool.not_eq_false', beq_iff_eq, bne_iff_ne, beq_eq_false_iff_ne, bne_eq_false_iff_eq, Int.not_lt, Int.not_le, gt_iff_lt, ge_iff_le, ne_eq] at h1
      refine X_skip ?_
      refine thenX_normal ?_
      refine X_seq ?_
      refine X_block ?_
      refine X_seq ?_
      refine X_region ?_
      refine XL_det .no (D_pure rfl) rfl ?_
      refine XL_callv .no en_42 rfl (tname k) rfl ?_
      refine XL_det .no (D_pure rfl) rfl ?_
      refine XL_det .no (D_seq (a := wordK k) rfl rfl rfl) rfl ?_
      refine XL_then ?_
      refine X_cond rfl (fun h2 => ?_) (fun h2 => ?_)
      · try simp only [decide_eq_true_eq, decide_eq_false_iff_not, Bool.not_eq_true', Bool.not_eq_false', beq_iff_eq, bne_iff_ne, beq_eq_false_iff_ne, bne_eq_false_iff_eq, Int.not_lt, Int.not_le, gt_iff_lt, ge_iff_le, ne_eq] at h2
        refine X_seq ?_
        refine X_region ?_
        refine XL_det .no (D_pure rfl) rfl ?_
        refine XL_det .no (D_pure rfl) rfl ?_
        refine XL_then ?_
        refine X_ret ?_
        refine inBlk_ret ?_
        refine thenX_ret ?_
        refine loopQ_ret ?_
        refine inBlk_ret ?_
        refine thenX_ret ?_
        refine ret_ok (.nil _) (res_tmp rfl rfl) ?_
        exact ⟨_, ⟨by rw [(word_iff hk1 (by omega)).1 h2], rfl⟩, _, (by repeat first | with_reducible exact .nil _ | with_reducible exact .here _ _ | with_reducible exact Take.self _ | with_reducible apply Take.cons | with_reducible apply Out.there | with_reducible apply Take.skip | with_reducible exact Take.pre _ _ | with_reducible apply Out.app)⟩
      · try simp only [decide_eq_true_eq, decide_eq_false_iff_not, Bool.not_eq_true', Bool.not_eq_false', beq_iff_eq, bne_iff_ne, beq_eq_false_iff_ne, bne_eq_false_iff_eq, Int.not_lt, Int.not_le, gt_iff_lt, ge_iff_le, ne_eq] at h2
        refine X_skip ?_
        refine inBlk_normal ?_
        refine thenX_normal ?_
        refine X_region ?_
        refine XL_det .no (D_pure rfl) rfl ?_
        refine XL_det .no (D_add rfl rfl (by omega) (by omega)) rfl ?_
        refine XL_det .no (D_pure rfl) rfl ?_
        refine XL_nil ?_
        refine loopQ_next (k + 1) ?_ ?_ ?_ ?_
        · have h3 : kindS b ≠ k := fun e => h2 ((word_iff hk1 (by omega)).2 e); exact ⟨by omega, by omega, by omega⟩
        · omega
        · refine ⟨?_, ?_, trivial⟩ <;> rfl
        · exact ⟨_, (by repeat first | with_reducible exact .nil _ | with_reducible exact .here _ _ | with_reducible exact Take.self _ | with_reducible apply Take.cons | with_reducible apply Out.there | with_reducible apply Take.skip | with_reducible exact Take.pre _ _ | with_reducible apply Out.app)⟩
    · try simp only [decide_eq_true_eq, decide_eq_false_iff_not, Bool.not_eq_true', Bool.not_eq_false', beq_iff_eq, bne_iff_ne, beq_eq_false_iff_ne, bne_eq_false_iff_eq, Int.not_lt, Int.not_le, gt_iff_lt, ge_iff_le, ne_eq] at h1
      refine X_exit ?_
      refine thenX_exit ?_
      refine loopQ_exit ?_
      refine inBlk_here ?_
      refine thenX_normal ?_
      refine X_seq ?_
      refine X_region ?_
      refine XL_det .no (D_pure rfl) rfl ?_
      refine XL_then ?_
      refine X_ret ?_
      refine ret_ok (.nil _) (res_tmp rfl rfl) ?_
      exact ⟨_, ⟨by rw [show kindS b = 0 by omega], rfl⟩, _, (by repeat first | with_reducible exact .nil _ | with_reducible exact .here _ _ | with_reducible exact Take.self _ | with_reducible apply Take.cons | with_reducible apply Out.there | with_reducible apply Take.skip | with_reducible exact Take.pre _ _ | with_reducible apply Out.app)⟩


theorem vint_le10 {l : List UInt8} (h : l.length ≤ 10) : -1244996380848 ≤ vint l ∧ vint l ≤ 6614043273255 := by
  have h1 := vint_le 10 l h
  have e : (11 ^ 10 : Nat) = 25937424601 := by decide
  rw [e] at h1
  omega
theorem vint_s {s : List UInt8} {i : Nat} {b : UInt8} (h : s[i]? = some b) : vint (s.take (i + 1)) = 10 * vint (s.take i) + (b.toNat : Int) - 48 := by
  rw [List.take_add_one, h]; exact vint_snoc _ _
theorem take_all {s : List UInt8} {i : Nat} {b : UInt8} {p : UInt8 → Prop} (h : s[i]? = some b) (ha : ∀ c ∈ s.take i, p c) (hb : p b) : ∀ c ∈ s.take (i + 1), p c := by
  rw [List.take_add_one, h]
  intro c hc
  rcases List.mem_append.1 hc with hc | hc
  · exact ha c hc
  · have : c = b := by simpa using hc
    subst this; exact hb

theorem dread (s : List UInt8) : Ctr Try.prog B 45 [str s] [] (fun v S => v = .tuple #[.int .i64 (rdN s).1, .int .i64 (rdN s).2] ∧ S = []) := by
  refine Ctr_of_X (N := 50) Try.func45 rfl (by simp) rfl ?_
  intro w0 D0
  refine X_seq ?_
  refine X_region ?_
  refine XL_det .no (D_pure rfl) rfl ?_
  refine XL_det .no (D_pure rfl) rfl ?_
  refine XL_then ?_
  refine X_seqj (α := Unit) (fun _ => 1 ≤ s.length ∧ s.length ≤ 10 ∧ ¬ (1 < s.length ∧ s[0]? = some 48)) (fun _ => [(0, str s)]) (fun _ => []) ?_ ?_
  · skip
    refine X_seq ?_
    refine X_region ?_
    refine XL_det .no (D_pure rfl) rfl ?_
    refine XL_det .no (D_seq (b := []) rfl rfl rfl) rfl ?_
    refine XL_det .no (D_pure rfl) rfl ?_
    refine XL_split (t := 8) rfl (fun h1 => ?_) (fun h1 => ?_)
    · try simp only [decide_eq_true_eq, decide_eq_false_iff_not, Bool.not_eq_true', Bool.not_eq_false', beq_iff_eq, bne_iff_ne, beq_eq_false_iff_ne, bne_eq_false_iff_eq, Int.not_lt, Int.not_le, gt_iff_lt, ge_iff_le, ne_eq] at h1
      refine XL_skip 8 rfl rfl rfl rfl rfl ?_
      refine XL_skip 8 rfl rfl rfl rfl rfl ?_
      refine XL_skip 8 rfl rfl rfl rfl rfl ?_
      refine XL_det .no (D_pure rfl) rfl ?_
      refine XL_det .no (D_pure rfl) rfl ?_
      refine XL_skip 13 rfl rfl rfl rfl rfl ?_
      refine XL_skip 13 rfl rfl rfl rfl rfl ?_
      refine XL_skip 13 rfl rfl rfl rfl rfl ?_
      refine XL_skip 13 rfl rfl rfl rfl rfl ?_
      refine XL_skipu 17 rfl rfl rfl rfl ?_
      refine XL_skipu 17 rfl rfl rfl rfl ?_
      refine XL_skipu 17 rfl rfl rfl rfl ?_
      refine XL_skip 13 rfl rfl rfl rfl rfl ?_
      refine XL_det .no (D_pure rfl) rfl ?_
      refine XL_then ?_
      refine X_cond_t rfl rfl ?_
      refine X_seq ?_
      refine X_region ?_
      refine XL_det .no (D_pure rfl) rfl ?_
      refine XL_det .no (D_pure rfl) rfl ?_
      refine XL_then ?_
      refine X_ret ?_
      show _
      refine ret_ok (.nil _) (res_tmp2 rfl rfl rfl) ?_
      exact ⟨_, ⟨by rw [rdN_f (fun hk => by have := hk.len.1; rw [h1] at this; simp at this)], rfl⟩, _, (by repeat first | with_reducible exact .nil _ | with_reducible exact .here _ _ | with_reducible exact Take.self _ | with_reducible apply Take.cons | with_reducible apply Out.there | with_reducible apply Take.skip | with_reducible exact Take.pre _ _ | with_reducible apply Out.app)⟩
    · try simp only [decide_eq_true_eq, decide_eq_false_iff_not, Bool.not_eq_true', Bool.not_eq_false', beq_iff_eq, bne_iff_ne, beq_eq_false_iff_ne, bne_eq_false_iff_eq, Int.not_lt, Int.not_le, gt_iff_lt, ge_iff_le, ne_eq] at h1
      refine XL_det (.yes 8 rfl rfl rfl) (D_pure rfl) rfl ?_
      refine XL_det (.yes 8 rfl rfl rfl) (D_slen rfl rfl us_9) rfl ?_
      refine XL_det (.yes 8 rfl rfl rfl) (D_pure rfl) rfl ?_
      refine XL_det .no (D_pure rfl) rfl ?_
      refine XL_det .no (D_pure rfl) rfl ?_
      refine XL_split (t := 13) rfl (fun h2 => ?_) (fun h2 => ?_)
      · try simp only [decide_eq_true_eq, decide_eq_false_iff_not, Bool.not_eq_true', Bool.not_eq_false', beq_iff_eq, bne_iff_ne, beq_eq_false_iff_ne, bne_eq_false_iff_eq, Int.not_lt, Int.not_le, gt_iff_lt, ge_iff_le, ne_eq] at h2
        refine XL_skip 13 rfl rfl rfl rfl rfl ?_
        refine XL_skip 13 rfl rfl rfl rfl rfl ?_
        refine XL_skip 13 rfl rfl rfl rfl rfl ?_
        refine XL_skip 13 rfl rfl rfl rfl rfl ?_
        refine XL_skipu 17 rfl rfl rfl rfl ?_
        refine XL_skipu 17 rfl rfl rfl rfl ?_
        refine XL_skipu 17 rfl rfl rfl rfl ?_
        refine XL_skip 13 rfl rfl rfl rfl rfl ?_
        refine XL_det .no (D_pure rfl) rfl ?_
        refine XL_then ?_
        refine X_cond_t rfl rfl ?_
        refine X_seq ?_
        refine X_region ?_
        refine XL_det .no (D_pure rfl) rfl ?_
        refine XL_det .no (D_pure rfl) rfl ?_
        refine XL_then ?_
        refine X_ret ?_
        show _
        refine ret_ok (.nil _) (res_tmp2 rfl rfl rfl) ?_
        exact ⟨_, ⟨by rw [rdN_f (fun hk => by have := hk.len.2; omega)], rfl⟩, _, (by repeat first | with_reducible exact .nil _ | with_reducible exact .here _ _ | with_reducible exact Take.self _ | with_reducible apply Take.cons | with_reducible apply Out.there | with_reducible apply Take.skip | with_reducible exact Take.pre _ _ | with_reducible apply Out.app)⟩
      · try simp only [decide_eq_true_eq, decide_eq_false_iff_not, Bool.not_eq_true', Bool.not_eq_false', beq_iff_eq, bne_iff_ne, beq_eq_false_iff_ne, bne_eq_false_iff_eq, Int.not_lt, Int.not_le, gt_iff_lt, ge_iff_le, ne_eq] at h2
        refine XL_det (.yes 13 rfl rfl rfl) (D_pure rfl) rfl ?_
        refine XL_det (.yes 13 rfl rfl rfl) (D_slen rfl rfl us_9) rfl ?_
        refine XL_det (.yes 13 rfl rfl rfl) (D_pure rfl) rfl ?_
        refine XL_det (.yes 13 rfl rfl rfl) (D_pure rfl) rfl ?_
        refine XL_split (t := 17) rfl (fun h3 => ?_) (fun h3 => ?_)
        · try simp only [decide_eq_true_eq, decide_eq_false_iff_not, Bool.not_eq_true', Bool.not_eq_false', beq_iff_eq, bne_iff_ne, beq_eq_false_iff_ne, bne_eq_false_iff_eq, Int.not_lt, Int.not_le, gt_iff_lt, ge_iff_le, ne_eq] at h3
          obtain ⟨b0, hb0⟩ : ∃ b, s[0]? = some b := ⟨_, List.getElem?_eq_getElem (by omega)⟩
          refine XL_det (.yes 17 rfl rfl rfl) (D_pure rfl) rfl ?_
          refine XL_det (.yes 17 rfl rfl rfl) (D_sidx (i := 0) rfl rfl us_9 rfl hb0) rfl ?_
          refine XL_det (.yes 17 rfl rfl rfl) (D_pure rfl) rfl ?_
          refine XL_det (.yes 13 rfl rfl rfl) (D_pure rfl) rfl ?_
          refine XL_det .no (D_pure rfl) rfl ?_
          refine XL_then ?_
          refine X_cond rfl (fun h4 => ?_) (fun h4 => ?_)
          · try simp only [decide_eq_true_eq, decide_eq_false_iff_not, Bool.not_eq_true', Bool.not_eq_false', beq_iff_eq, bne_iff_ne, beq_eq_false_iff_ne, bne_eq_false_iff_eq, Int.not_lt, Int.not_le, gt_iff_lt, ge_iff_le, ne_eq] at h4
            refine X_seq ?_
            refine X_region ?_
            refine XL_det .no (D_pure rfl) rfl ?_
            refine XL_det .no (D_pure rfl) rfl ?_
            refine XL_then ?_
            refine X_ret ?_
            show _
            refine ret_ok (.nil _) (res_tmp2 rfl rfl rfl) ?_
            exact ⟨_, ⟨by rw [rdN_f (fun hk => hk.head ⟨by omega, by rw [hb0]; exact congrArg some (UInt8.toNat_inj.1 (show b0.toNat = 48 by omega))⟩)], rfl⟩, _, (by repeat first | with_reducible exact .nil _ | with_reducible exact .here _ _ | with_reducible exact Take.self _ | with_reducible apply Take.cons | with_reducible apply Out.there | with_reducible apply Take.skip | with_reducible exact Take.pre _ _ | with_reducible apply Out.app)⟩
          · try simp only [decide_eq_true_eq, decide_eq_false_iff_not, Bool.not_eq_true', Bool.not_eq_false', beq_iff_eq, bne_iff_ne, beq_eq_false_iff_ne, bne_eq_false_iff_eq, Int.not_lt, Int.not_le, gt_iff_lt, ge_iff_le, ne_eq] at h4
            refine X_skip ?_
            refine joinQ_normal () ?_ ?_ ?_
            · exact ⟨by omega, by omega, fun e => h4 (by have e2 := e.2; rw [hb0] at e2; have e3 := Option.some.inj e2; rw [e3]; rfl)⟩
            · refine ⟨?_, trivial⟩ <;> rfl
            · exact ⟨_, (by repeat first | with_reducible exact .nil _ | with_reducible exact .here _ _ | with_reducible exact Take.self _ | with_reducible apply Take.cons | with_reducible apply Out.there | with_reducible apply Take.skip | with_reducible exact Take.pre _ _ | with_reducible apply Out.app)⟩
        · try simp only [decide_eq_true_eq, decide_eq_false_iff_not, Bool.not_eq_true', Bool.not_eq_false', beq_iff_eq, bne_iff_ne, beq_eq_false_iff_ne, bne_eq_false_iff_eq, Int.not_lt, Int.not_le, gt_iff_lt, ge_iff_le, ne_eq] at h3
          refine XL_skip 17 rfl rfl rfl rfl rfl ?_
          refine XL_skip 17 rfl rfl rfl rfl rfl ?_
          refine XL_skip 17 rfl rfl rfl rfl rfl ?_
          refine XL_det (.yes 13 rfl rfl rfl) (D_pure rfl) rfl ?_
          refine XL_det .no (D_pure rfl) rfl ?_
          refine XL_then ?_
          refine X_cond_f rfl rfl ?_
          refine X_skip ?_
          refine joinQ_normal () ?_ ?_ ?_
          · exact ⟨by have : s.length ≠ 0 := fun e => h1 (List.length_eq_zero_iff.1 e); omega, by omega, fun e => by have := e.1; omega⟩
          · refine ⟨?_, trivial⟩ <;> rfl
          · exact ⟨_, (by repeat first | with_reducible exact .nil _ | with_reducible exact .here _ _ | with_reducible exact Take.self _ | with_reducible apply Take.cons | with_reducible apply Out.there | with_reducible apply Take.skip | with_reducible exact Take.pre _ _ | with_reducible apply Out.app)⟩
  · rintro _ ⟨hl1, hl2, hl3⟩
    refine X_seq ?_
    refine X_region ?_
    refine XL_det .no (D_pure rfl) rfl ?_
    refine XL_then ?_
    refine X_seq ?_
    refine X_seq ?_
    refine X_region ?_
    refine XL_det .no (D_pure rfl) rfl ?_
    refine XL_det .no (D_slen rfl rfl us_9) rfl ?_
    refine XL_det .no (D_pure rfl) rfl ?_
    refine XL_then ?_
    refine X_block ?_
    refine X_loop (α := Nat) (fun i => i ≤ s.length ∧ ∀ b ∈ s.take i, isDg b) (fun i => [(4, .int .i64 (vint (s.take i))), (24, .int .i64 (s.length : Int)), (25, .int .i64 (i : Int)), (0, str s)]) (fun i => []) (fun i => s.length - i) 0 ?_ (by refine ⟨?_, ?_, ?_, ?_, trivial⟩ <;> rfl) (by repeat first | with_reducible exact .nil _ | with_reducible exact .here _ _ | with_reducible exact Take.self _ | with_reducible apply Take.cons | with_reducible apply Out.there | with_reducible apply Take.skip | with_reducible exact Take.pre _ _ | with_reducible apply Out.app) ?_
    · exact ⟨Nat.zero_le _, fun b h => by simp at h⟩
    · rintro i ⟨hi, hd⟩
      have hv := vint_le10 (l := s.take i) (by rw [List.length_take]; omega)
      refine X_seq ?_
      refine X_region ?_
      refine XL_det .no (D_pure rfl) rfl ?_
      refine XL_then ?_
      refine X_seq ?_
      refine X_cond rfl (fun h5 => ?_) (fun h5 => ?_)
      · try simp only [decide_eq_true_eq, decide_eq_false_iff_not, Bool.not_eq_true', Bool.not_eq_false', beq_iff_eq, bne_iff_ne, beq_eq_false_iff_ne, bne_eq_false_iff_eq, Int.not_lt, Int.not_le, gt_iff_lt, ge_iff_le, ne_eq] at h5
        obtain ⟨b, hb⟩ : ∃ b, s[i]? = some b := ⟨_, List.getElem?_eq_getElem (by omega)⟩
        have hbl := b.toNat_lt
        refine X_skip ?_
        refine thenX_normal ?_
        refine X_seq ?_
        refine X_block ?_
        refine X_seq ?_
        refine X_region ?_
        refine XL_det .no (D_pure rfl) rfl ?_
        refine XL_det .no (D_pure rfl) rfl ?_
        refine XL_then ?_
        refine X_seq ?_
        refine X_seq ?_
        refine X_region ?_
        refine XL_det .no (D_pure rfl) rfl ?_
        refine XL_det .no (D_pure rfl) rfl ?_
        refine XL_det .no (D_sidx (i := i) rfl rfl us_9 rfl hb) rfl ?_
        refine XL_det .no (D_pure rfl) rfl ?_
        refine XL_det .no (D_pure rfl) rfl ?_
        refine XL_split (t := 32) rfl (fun h6 => ?_) (fun h6 => ?_)
        · try simp only [decide_eq_true_eq, decide_eq_false_iff_not, Bool.not_eq_true', Bool.not_eq_false', beq_iff_eq, bne_iff_ne, beq_eq_false_iff_ne, bne_eq_false_iff_eq, Int.not_lt, Int.not_le, gt_iff_lt, ge_iff_le, ne_eq] at h6
          refine XL_skip 32 rfl rfl rfl rfl rfl ?_
          refine XL_skip 32 rfl rfl rfl rfl rfl ?_
          refine XL_skip 32 rfl rfl rfl rfl rfl ?_
          refine XL_skip 32 rfl rfl rfl rfl rfl ?_
          refine XL_det .no (D_pure rfl) rfl ?_
          refine XL_then ?_
          refine X_cond_t rfl rfl ?_
          refine X_seq ?_
          refine X_region ?_
          refine XL_det .no (D_pure rfl) rfl ?_
          refine XL_det .no (D_pure rfl) rfl ?_
          refine XL_then ?_
          refine X_ret ?_
          refine thenX_ret ?_
          refine inBlk_ret ?_
          refine thenX_ret ?_
          refine loopQ_ret ?_
          refine inBlk_ret ?_
          refine thenX_ret ?_
          refine ret_ok (.nil _) (res_tmp2 rfl rfl rfl) ?_
          exact ⟨_, ⟨by rw [rdN_f (fun hk => by have := hk.all b (List.mem_of_getElem? hb); have := this.1; omega)], rfl⟩, _, (by repeat first | with_reducible exact .nil _ | with_reducible exact .here _ _ | with_reducible exact Take.self _ | with_reducible apply Take.cons | with_reducible apply Out.there | with_reducible apply Take.skip | with_reducible exact Take.pre _ _ | with_reducible apply Out.app)⟩
        · try simp only [decide_eq_true_eq, decide_eq_false_iff_not, Bool.not_eq_true', Bool.not_eq_false', beq_iff_eq, bne_iff_ne, beq_eq_false_iff_ne, bne_eq_false_iff_eq, Int.not_lt, Int.not_le, gt_iff_lt, ge_iff_le, ne_eq] at h6
          refine XL_det (.yes 32 rfl rfl rfl) (D_pure rfl) rfl ?_
          refine XL_det (.yes 32 rfl rfl rfl) (D_pure rfl) rfl ?_
          refine XL_det (.yes 32 rfl rfl rfl) (D_sidx (i := i) rfl rfl us_9 rfl hb) rfl ?_
          refine XL_det (.yes 32 rfl rfl rfl) (D_pure rfl) rfl ?_
          refine XL_det .no (D_pure rfl) rfl ?_
          refine XL_then ?_
          refine X_cond rfl (fun h7 => ?_) (fun h7 => ?_)
          · try simp only [decide_eq_true_eq, decide_eq_false_iff_not, Bool.not_eq_true', Bool.not_eq_false', beq_iff_eq, bne_iff_ne, beq_eq_false_iff_ne, bne_eq_false_iff_eq, Int.not_lt, Int.not_le, gt_iff_lt, ge_iff_le, ne_eq] at h7
            refine X_seq ?_
            refine X_region ?_
            refine XL_det .no (D_pure rfl) rfl ?_
            refine XL_det .no (D_pure rfl) rfl ?_
            refine XL_then ?_
            refine X_ret ?_
            refine thenX_ret ?_
            refine inBlk_ret ?_
            refine thenX_ret ?_
            refine loopQ_ret ?_
            refine inBlk_ret ?_
            refine thenX_ret ?_
            refine ret_ok (.nil _) (res_tmp2 rfl rfl rfl) ?_
            exact ⟨_, ⟨by rw [rdN_f (fun hk => by have := hk.all b (List.mem_of_getElem? hb); have := this.2; omega)], rfl⟩, _, (by repeat first | with_reducible exact .nil _ | with_reducible exact .here _ _ | with_reducible exact Take.self _ | with_reducible apply Take.cons | with_reducible apply Out.there | with_reducible apply Take.skip | with_reducible exact Take.pre _ _ | with_reducible apply Out.app)⟩
          · try simp only [decide_eq_true_eq, decide_eq_false_iff_not, Bool.not_eq_true', Bool.not_eq_false', beq_iff_eq, bne_iff_ne, beq_eq_false_iff_ne, bne_eq_false_iff_eq, Int.not_lt, Int.not_le, gt_iff_lt, ge_iff_le, ne_eq] at h7
            have hbd : isDg b := ⟨by omega, by omega⟩
            refine X_skip ?_
            refine thenX_normal ?_
            refine X_region ?_
            refine XL_det .no (D_pure rfl) rfl ?_
            refine XL_det .no (D_mul (m := 10) (n := vint (s.take i)) rfl rfl (by omega) (by omega)) rfl ?_
            refine XL_det .no (D_pure rfl) rfl ?_
            refine XL_det .no (D_pure rfl) rfl ?_
            refine XL_det .no (D_sidx (i := i) rfl rfl us_9 rfl hb) rfl ?_
            refine XL_det .no (D_arith (z := (b.toNat : Int) - 48) rfl rfl (u8_in (by omega) (by omega))) rfl ?_
            refine XL_det .no (D_cvt (z := (b.toNat : Int) - 48) rfl cvt_5_3 (i64_in' (by omega) (by omega))) rfl ?_
            refine XL_det .no (D_add (m := 10 * vint (s.take i)) (n := (b.toNat : Int) - 48) rfl rfl (by omega) (by omega)) rfl ?_
            refine XL_det .no (D_pure rfl) rfl ?_
            refine XL_nil ?_
            refine inBlk_normal ?_
            refine thenX_normal ?_
            refine X_region ?_
            refine XL_det .no (D_add rfl rfl (by omega) (by omega)) rfl ?_
            refine XL_det .no (D_pure rfl) rfl ?_
            refine XL_nil ?_
            refine loopQ_next (i + 1) ?_ ?_ ?_ ?_
            · exact ⟨by omega, take_all hb hd hbd⟩
            · omega
            · refine ⟨by rw [vint_s hb]; exact congrArg (fun n => some (Value.int .i64 n)) (by omega), ?_, ?_, ?_, trivial⟩ <;> rfl
            · exact ⟨_, (by repeat first | with_reducible exact .nil _ | with_reducible exact .here _ _ | with_reducible exact Take.self _ | with_reducible apply Take.cons | with_reducible apply Out.there | with_reducible apply Take.skip | with_reducible exact Take.pre _ _ | with_reducible apply Out.app)⟩
      · try simp only [decide_eq_true_eq, decide_eq_false_iff_not, Bool.not_eq_true', Bool.not_eq_false', beq_iff_eq, bne_iff_ne, beq_eq_false_iff_ne, bne_eq_false_iff_eq, Int.not_lt, Int.not_le, gt_iff_lt, ge_iff_le, ne_eq] at h5
        obtain rfl : i = s.length := by omega
        rw [List.take_length] at hd
        refine X_exit ?_
        refine thenX_exit ?_
        refine loopQ_exit ?_
        refine inBlk_here ?_
        refine thenX_normal ?_
        refine X_seq ?_
        refine X_seq ?_
        refine X_region ?_
        refine XL_det .no (D_pure rfl) rfl ?_
        refine XL_det .no (D_pure rfl) rfl ?_
        refine XL_then ?_
        refine X_cond rfl (fun h8 => ?_) (fun h8 => ?_)
        · try simp only [decide_eq_true_eq, decide_eq_false_iff_not, Bool.not_eq_true', Bool.not_eq_false', beq_iff_eq, bne_iff_ne, beq_eq_false_iff_ne, bne_eq_false_iff_eq, Int.not_lt, Int.not_le, gt_iff_lt, ge_iff_le, ne_eq] at h8
          refine X_seq ?_
          refine X_region ?_
          refine XL_det .no (D_pure rfl) rfl ?_
          refine XL_det .no (D_pure rfl) rfl ?_
          refine XL_then ?_
          refine X_ret ?_
          refine thenX_ret ?_
          refine ret_ok (.nil _) (res_tmp2 rfl rfl rfl) ?_
          exact ⟨_, ⟨by rw [rdN_f (fun hk => by have := hk.most; rw [List.take_length] at h8; omega)], rfl⟩, _, (by repeat first | with_reducible exact .nil _ | with_reducible exact .here _ _ | with_reducible exact Take.self _ | with_reducible apply Take.cons | with_reducible apply Out.there | with_reducible apply Take.skip | with_reducible exact Take.pre _ _ | with_reducible apply Out.app)⟩
        · try simp only [decide_eq_true_eq, decide_eq_false_iff_not, Bool.not_eq_true', Bool.not_eq_false', beq_iff_eq, bne_iff_ne, beq_eq_false_iff_ne, bne_eq_false_iff_eq, Int.not_lt, Int.not_le, gt_iff_lt, ge_iff_le, ne_eq] at h8
          refine X_skip ?_
          refine thenX_normal ?_
          refine X_seq ?_
          refine X_region ?_
          refine XL_det .no (D_pure rfl) rfl ?_
          refine XL_det .no (D_pure rfl) rfl ?_
          refine XL_det .no (D_pure rfl) rfl ?_
          refine XL_then ?_
          refine X_ret ?_
          refine ret_ok (.nil _) (res_tmp2 rfl rfl rfl) ?_
          exact ⟨_, ⟨by rw [rdN_t ⟨⟨hl1, hl2⟩, hl3, hd, by rw [List.take_length] at h8; omega⟩, List.take_length], rfl⟩, _, (by repeat first | with_reducible exact .nil _ | with_reducible exact .here _ _ | with_reducible exact Take.self _ | with_reducible apply Take.cons | with_reducible apply Out.there | with_reducible apply Take.skip | with_reducible exact Take.pre _ _ | with_reducible apply Out.app)⟩

theorem rread (s : List UInt8) : Ctr Try.prog B 48 [str s] [] (fun v S => v = .tuple #[.int .i64 (rdN s).1, .int .i64 (rdN s).2] ∧ S = []) := by
  refine Ctr_of_X (N := 33) Try.func48 rfl (by simp) rfl ?_
  intro w0 D0
  refine X_seq ?_
  refine X_region ?_
  refine XL_det .no (D_pure rfl) rfl ?_
  refine XL_det .no (D_pure rfl) rfl ?_
  refine XL_then ?_
  refine X_seq ?_
  refine X_region ?_
  refine XL_det .no (D_pure rfl) rfl ?_
  refine XL_then ?_
  refine X_seq ?_
  refine X_seq ?_
  refine X_region ?_
  refine XL_det .no (D_pure rfl) rfl ?_
  refine XL_then ?_
  refine X_block ?_
  refine X_loop (α := Nat) (fun i => i ≤ s.length ∧ i ≤ 10) (fun i => [(4, .int .i64 (vint (s.take i))), (5, .int .i64 (i : Int)), (0, str s)]) (fun i => []) (fun i => s.length - i) 0 ?_ (by refine ⟨?_, ?_, ?_, trivial⟩ <;> rfl) (by repeat first | with_reducible exact .nil _ | with_reducible exact .here _ _ | with_reducible exact Take.self _ | with_reducible apply Take.cons | with_reducible apply Out.there | with_reducible apply Take.skip | with_reducible exact Take.pre _ _ | with_reducible apply Out.app) ?_
  · exact ⟨Nat.zero_le _, by decide⟩
  · rintro i ⟨hi, hi2⟩
    have hv := vint_le10 (l := s.take i) (by rw [List.length_take]; omega)
    refine X_seq ?_
    refine X_seq ?_
    refine X_region ?_
    refine XL_det .no (D_pure rfl) rfl ?_
    refine XL_det .no (D_pure rfl) rfl ?_
    refine XL_det .no (D_slen rfl rfl us_9) rfl ?_
    refine XL_det .no (D_pure rfl) rfl ?_
    refine XL_det .no (D_pure rfl) rfl ?_
    refine XL_split (t := 10) rfl (fun h1 => ?_) (fun h1 => ?_)
    · try simp only [decide_eq_true_eq, decide_eq_false_iff_not, Bool.not_eq_true', Bool.not_eq_false', beq_iff_eq, bne_iff_ne, beq_eq_false_iff_ne, bne_eq_false_iff_eq, Int.not_lt, Int.not_le, gt_iff_lt, ge_iff_le, ne_eq] at h1
      refine XL_det (.yes 10 rfl rfl rfl) (D_pure rfl) rfl ?_
      refine XL_det (.yes 10 rfl rfl rfl) (D_pure rfl) rfl ?_
      refine XL_det .no (D_pure rfl) rfl ?_
      refine XL_then ?_
      refine X_cond rfl (fun h2 => ?_) (fun h2 => ?_)
      · try simp only [decide_eq_true_eq, decide_eq_false_iff_not, Bool.not_eq_true', Bool.not_eq_false', beq_iff_eq, bne_iff_ne, beq_eq_false_iff_ne, bne_eq_false_iff_eq, Int.not_lt, Int.not_le, gt_iff_lt, ge_iff_le, ne_eq] at h2
        obtain ⟨b, hb⟩ : ∃ b, s[i]? = some b := ⟨_, List.getElem?_eq_getElem (by omega)⟩
        have hbl := b.toNat_lt
        refine X_skip ?_
        refine thenX_normal ?_
        refine X_seq ?_
        refine X_block ?_
        refine X_region ?_
        refine XL_det .no (D_pure rfl) rfl ?_
        refine XL_det .no (D_mul (m := 10) (n := vint (s.take i)) rfl rfl (by omega) (by omega)) rfl ?_
        refine XL_det .no (D_pure rfl) rfl ?_
        refine XL_det .no (D_pure rfl) rfl ?_
        refine XL_det .no (D_sidx (i := i) rfl rfl us_9 rfl hb) rfl ?_
        refine XL_det .no (D_cvt rfl cvt_5_3 (i64_in' (by omega) (by omega))) rfl ?_
        refine XL_det .no (D_add (m := 10 * vint (s.take i)) (n := (b.toNat : Int)) rfl rfl (by omega) (by omega)) rfl ?_
        refine XL_det .no (D_sub (m := 10 * vint (s.take i) + (b.toNat : Int)) (n := 48) rfl rfl (by omega) (by omega)) rfl ?_
        refine XL_det .no (D_pure rfl) rfl ?_
        refine XL_nil ?_
        refine inBlk_normal ?_
        refine thenX_normal ?_
        refine X_region ?_
        refine XL_det .no (D_pure rfl) rfl ?_
        refine XL_det .no (D_add rfl rfl (by omega) (by omega)) rfl ?_
        refine XL_det .no (D_pure rfl) rfl ?_
        refine XL_nil ?_
        refine loopQ_next (i + 1) ?_ ?_ ?_ ?_
        · exact ⟨by omega, by omega⟩
        · omega
        · refine ⟨by rw [vint_s hb]; rfl, ?_, ?_, trivial⟩ <;> rfl
        · exact ⟨_, (by repeat first | with_reducible exact .nil _ | with_reducible exact .here _ _ | with_reducible exact Take.self _ | with_reducible apply Take.cons | with_reducible apply Out.there | with_reducible apply Take.skip | with_reducible exact Take.pre _ _ | with_reducible apply Out.app)⟩
      · try simp only [decide_eq_true_eq, decide_eq_false_iff_not, Bool.not_eq_true', Bool.not_eq_false', beq_iff_eq, bne_iff_ne, beq_eq_false_iff_ne, bne_eq_false_iff_eq, Int.not_lt, Int.not_le, gt_iff_lt, ge_iff_le, ne_eq] at h2
        have hti : s.take 10 = s.take i := by rw [show i = 10 by omega]
        refine X_exit ?_
        refine thenX_exit ?_
        refine loopQ_exit ?_
        refine inBlk_here ?_
        refine thenX_normal ?_
        refine X_seq ?_
        refine X_seq ?_
        refine X_region ?_
        refine XL_det .no (D_pure rfl) rfl ?_
        refine XL_det .no (D_pure rfl) rfl ?_
        refine XL_det .no (D_pure rfl) rfl ?_
        refine XL_split (t := 26) rfl (fun h3 => ?_) (fun h3 => ?_)
        · try simp only [decide_eq_true_eq, decide_eq_false_iff_not, Bool.not_eq_true', Bool.not_eq_false', beq_iff_eq, bne_iff_ne, beq_eq_false_iff_ne, bne_eq_false_iff_eq, Int.not_lt, Int.not_le, gt_iff_lt, ge_iff_le, ne_eq] at h3
          refine XL_skip 26 rfl rfl rfl rfl rfl ?_
          refine XL_skip 26 rfl rfl rfl rfl rfl ?_
          refine XL_skip 26 rfl rfl rfl rfl rfl ?_
          refine XL_skip 26 rfl rfl rfl rfl rfl ?_
          refine XL_det .no (D_pure rfl) rfl ?_
          refine XL_then ?_
          refine X_cond_t rfl rfl ?_
          refine X_seq ?_
          refine X_region ?_
          refine XL_det .no (D_pure rfl) rfl ?_
          refine XL_det .no (D_pure rfl) rfl ?_
          refine XL_then ?_
          refine X_ret ?_
          refine thenX_ret ?_
          refine ret_ok (.nil _) (res_tmp2 rfl rfl rfl) ?_
          exact ⟨_, ⟨by first | rw [ref_f (Or.inl (by rw [hti]; omega))] | rw [ref_f (Or.inr (by rw [hti]; assumption))] | rw [ref_t (by rw [hti]; omega) (by rw [hti]; assumption), hti], rfl⟩, _, (by repeat first | with_reducible exact .nil _ | with_reducible exact .here _ _ | with_reducible exact Take.self _ | with_reducible apply Take.cons | with_reducible apply Out.there | with_reducible apply Take.skip | with_reducible exact Take.pre _ _ | with_reducible apply Out.app)⟩
        · try simp only [decide_eq_true_eq, decide_eq_false_iff_not, Bool.not_eq_true', Bool.not_eq_false', beq_iff_eq, bne_iff_ne, beq_eq_false_iff_ne, bne_eq_false_iff_eq, Int.not_lt, Int.not_le, gt_iff_lt, ge_iff_le, ne_eq] at h3
          refine XL_det (.yes 26 rfl rfl rfl) (D_pure rfl) rfl ?_
          refine XL_callv (.yes 26 rfl rfl rfl) en_16 rfl (rtext (vint (s.take i))) rfl ?_
          refine XL_det (.yes 26 rfl rfl rfl) (D_pure rfl) rfl ?_
          refine XL_det (.yes 26 rfl rfl rfl) (D_seq (a := txt (vint (s.take i))) rfl rfl rfl) rfl ?_
          refine XL_det .no (D_pure rfl) rfl ?_
          refine XL_then ?_
          refine X_cond rfl (fun h4 => ?_) (fun h4 => ?_)
          · try simp only [decide_eq_true_eq, decide_eq_false_iff_not, Bool.not_eq_true', Bool.not_eq_false', beq_iff_eq, bne_iff_ne, beq_eq_false_iff_ne, bne_eq_false_iff_eq, Int.not_lt, Int.not_le, gt_iff_lt, ge_iff_le, ne_eq] at h4
            refine X_seq ?_
            refine X_region ?_
            refine XL_det .no (D_pure rfl) rfl ?_
            refine XL_det .no (D_pure rfl) rfl ?_
            refine XL_then ?_
            refine X_ret ?_
            refine thenX_ret ?_
            refine ret_ok (.nil _) (res_tmp2 rfl rfl rfl) ?_
            exact ⟨_, ⟨by first | rw [ref_f (Or.inl (by rw [hti]; omega))] | rw [ref_f (Or.inr (by rw [hti]; assumption))] | rw [ref_t (by rw [hti]; omega) (by rw [hti]; assumption), hti], rfl⟩, _, (by repeat first | with_reducible exact .nil _ | with_reducible exact .here _ _ | with_reducible exact Take.self _ | with_reducible apply Take.cons | with_reducible apply Out.there | with_reducible apply Take.skip | with_reducible exact Take.pre _ _ | with_reducible apply Out.app)⟩
          · try simp only [decide_eq_true_eq, decide_eq_false_iff_not, Bool.not_eq_true', Bool.not_eq_false', beq_iff_eq, bne_iff_ne, beq_eq_false_iff_ne, bne_eq_false_iff_eq, Int.not_lt, Int.not_le, gt_iff_lt, ge_iff_le, ne_eq] at h4
            refine X_skip ?_
            refine thenX_normal ?_
            refine X_seq ?_
            refine X_region ?_
            refine XL_det .no (D_pure rfl) rfl ?_
            refine XL_det .no (D_pure rfl) rfl ?_
            refine XL_det .no (D_pure rfl) rfl ?_
            refine XL_then ?_
            refine X_ret ?_
            refine ret_ok (.nil _) (res_tmp2 rfl rfl rfl) ?_
            exact ⟨_, ⟨by first | rw [ref_f (Or.inl (by rw [hti]; omega))] | rw [ref_f (Or.inr (by rw [hti]; assumption))] | rw [ref_t (by rw [hti]; omega) (by rw [hti]; assumption), hti], rfl⟩, _, (by repeat first | with_reducible exact .nil _ | with_reducible exact .here _ _ | with_reducible exact Take.self _ | with_reducible apply Take.cons | with_reducible apply Out.there | with_reducible apply Take.skip | with_reducible exact Take.pre _ _ | with_reducible apply Out.app)⟩
    · try simp only [decide_eq_true_eq, decide_eq_false_iff_not, Bool.not_eq_true', Bool.not_eq_false', beq_iff_eq, bne_iff_ne, beq_eq_false_iff_ne, bne_eq_false_iff_eq, Int.not_lt, Int.not_le, gt_iff_lt, ge_iff_le, ne_eq] at h1
      have hti : s.take 10 = s.take i := by rw [List.take_of_length_le (by omega), List.take_of_length_le (by omega)]
      refine XL_skip 10 rfl rfl rfl rfl rfl ?_
      refine XL_skip 10 rfl rfl rfl rfl rfl ?_
      refine XL_det .no (D_pure rfl) rfl ?_
      refine XL_then ?_
      refine X_cond_f rfl rfl ?_
      refine X_exit ?_
      refine thenX_exit ?_
      refine loopQ_exit ?_
      refine inBlk_here ?_
      refine thenX_normal ?_
      refine X_seq ?_
      refine X_seq ?_
      refine X_region ?_
      refine XL_det .no (D_pure rfl) rfl ?_
      refine XL_det .no (D_pure rfl) rfl ?_
      refine XL_det .no (D_pure rfl) rfl ?_
      refine XL_split (t := 26) rfl (fun h5 => ?_) (fun h5 => ?_)
      · try simp only [decide_eq_true_eq, decide_eq_false_iff_not, Bool.not_eq_true', Bool.not_eq_false', beq_iff_eq, bne_iff_ne, beq_eq_false_iff_ne, bne_eq_false_iff_eq, Int.not_lt, Int.not_le, gt_iff_lt, ge_iff_le, ne_eq] at h5
        refine XL_skip 26 rfl rfl rfl rfl rfl ?_
        refine XL_skip 26 rfl rfl rfl rfl rfl ?_
        refine XL_skip 26 rfl rfl rfl rfl rfl ?_
        refine XL_skip 26 rfl rfl rfl rfl rfl ?_
        refine XL_det .no (D_pure rfl) rfl ?_
        refine XL_then ?_
        refine X_cond_t rfl rfl ?_
        refine X_seq ?_
        refine X_region ?_
        refine XL_det .no (D_pure rfl) rfl ?_
        refine XL_det .no (D_pure rfl) rfl ?_
        refine XL_then ?_
        refine X_ret ?_
        refine thenX_ret ?_
        refine ret_ok (.nil _) (res_tmp2 rfl rfl rfl) ?_
        exact ⟨_, ⟨by first | rw [ref_f (Or.inl (by rw [hti]; omega))] | rw [ref_f (Or.inr (by rw [hti]; assumption))] | rw [ref_t (by rw [hti]; omega) (by rw [hti]; assumption), hti], rfl⟩, _, (by repeat first | with_reducible exact .nil _ | with_reducible exact .here _ _ | with_reducible exact Take.self _ | with_reducible apply Take.cons | with_reducible apply Out.there | with_reducible apply Take.skip | with_reducible exact Take.pre _ _ | with_reducible apply Out.app)⟩
      · try simp only [decide_eq_true_eq, decide_eq_false_iff_not, Bool.not_eq_true', Bool.not_eq_false', beq_iff_eq, bne_iff_ne, beq_eq_false_iff_ne, bne_eq_false_iff_eq, Int.not_lt, Int.not_le, gt_iff_lt, ge_iff_le, ne_eq] at h5
        refine XL_det (.yes 26 rfl rfl rfl) (D_pure rfl) rfl ?_
        refine XL_callv (.yes 26 rfl rfl rfl) en_16 rfl (rtext (vint (s.take i))) rfl ?_
        refine XL_det (.yes 26 rfl rfl rfl) (D_pure rfl) rfl ?_
        refine XL_det (.yes 26 rfl rfl rfl) (D_seq (a := txt (vint (s.take i))) rfl rfl rfl) rfl ?_
        refine XL_det .no (D_pure rfl) rfl ?_
        refine XL_then ?_
        refine X_cond rfl (fun h6 => ?_) (fun h6 => ?_)
        · try simp only [decide_eq_true_eq, decide_eq_false_iff_not, Bool.not_eq_true', Bool.not_eq_false', beq_iff_eq, bne_iff_ne, beq_eq_false_iff_ne, bne_eq_false_iff_eq, Int.not_lt, Int.not_le, gt_iff_lt, ge_iff_le, ne_eq] at h6
          refine X_seq ?_
          refine X_region ?_
          refine XL_det .no (D_pure rfl) rfl ?_
          refine XL_det .no (D_pure rfl) rfl ?_
          refine XL_then ?_
          refine X_ret ?_
          refine thenX_ret ?_
          refine ret_ok (.nil _) (res_tmp2 rfl rfl rfl) ?_
          exact ⟨_, ⟨by first | rw [ref_f (Or.inl (by rw [hti]; omega))] | rw [ref_f (Or.inr (by rw [hti]; assumption))] | rw [ref_t (by rw [hti]; omega) (by rw [hti]; assumption), hti], rfl⟩, _, (by repeat first | with_reducible exact .nil _ | with_reducible exact .here _ _ | with_reducible exact Take.self _ | with_reducible apply Take.cons | with_reducible apply Out.there | with_reducible apply Take.skip | with_reducible exact Take.pre _ _ | with_reducible apply Out.app)⟩
        · try simp only [decide_eq_true_eq, decide_eq_false_iff_not, Bool.not_eq_true', Bool.not_eq_false', beq_iff_eq, bne_iff_ne, beq_eq_false_iff_ne, bne_eq_false_iff_eq, Int.not_lt, Int.not_le, gt_iff_lt, ge_iff_le, ne_eq] at h6
          refine X_skip ?_
          refine thenX_normal ?_
          refine X_seq ?_
          refine X_region ?_
          refine XL_det .no (D_pure rfl) rfl ?_
          refine XL_det .no (D_pure rfl) rfl ?_
          refine XL_det .no (D_pure rfl) rfl ?_
          refine XL_then ?_
          refine X_ret ?_
          refine ret_ok (.nil _) (res_tmp2 rfl rfl rfl) ?_
          exact ⟨_, ⟨by first | rw [ref_f (Or.inl (by rw [hti]; omega))] | rw [ref_f (Or.inr (by rw [hti]; assumption))] | rw [ref_t (by rw [hti]; omega) (by rw [hti]; assumption), hti], rfl⟩, _, (by repeat first | with_reducible exact .nil _ | with_reducible exact .here _ _ | with_reducible exact Take.self _ | with_reducible apply Take.cons | with_reducible apply Out.there | with_reducible apply Take.skip | with_reducible exact Take.pre _ _ | with_reducible apply Out.app)⟩

end Go.Proofs.Ytjcpggoodbkedaa
end

section
namespace Go.Proofs.Ytjcpggoodbkedaa
open Go Go.Sl
set_option linter.unusedVariables false
set_option linter.unusedSimpArgs false
set_option maxRecDepth 4000
variable {B : Nat} {K : Asrt B}


theorem take_run : ∀ (l : List UInt8) (k : Nat), (∀ b ∈ l.take k, b ≠ 32) → (l[k]? = none ∨ l[k]? = some 32) → l.takeWhile nb = l.take k ∧ l.dropWhile nb = l.drop k
  | [], k, _, _ => by simp
  | b :: l, 0, _, h => by
    have : b = 32 := by simpa using h
    subst this; simp [nb]
  | b :: l, k + 1, ha, h => by
    have hb : b ≠ 32 := ha b (by simp)
    have ih := take_run l k (fun c hc => ha c (by simp [hc])) (by simpa using h)
    have : nb b = true := by simp [nb, hb]
    simp [List.takeWhile_cons, List.dropWhile_cons, this, ih]
/-- Is the place i behind a byte of the same piece? -/
def inside (s : List UInt8) : Nat → Bool
  | 0 => false
  | j + 1 => s[j]? != some 32
def rest (s : List UInt8) (i : Nat) : List (List UInt8) := pc [] (if inside s i then (s.drop i).dropWhile nb else s.drop i)
theorem rest_0 (s : List UInt8) : rest s 0 = pieces s := rfl
theorem rest_len (s : List UInt8) : rest s s.length = [] := by
  unfold rest; rw [List.drop_length]; split <;> rfl
theorem drop_s {α : Type} {s : List α} {i : Nat} {b : α} (h : s[i]? = some b) : s.drop i = b :: s.drop (i + 1) := by
  obtain ⟨h1, h2⟩ := List.getElem?_eq_some_iff.1 h
  rw [List.drop_eq_getElem_cons h1, h2]
theorem rest_b {s : List UInt8} {i : Nat} (h : s[i]? = some 32) : rest s i = rest s (i + 1) := by
  have e1 : inside s (i + 1) = false := by show (s[i]? != some 32) = false; rw [h]; rfl
  unfold rest; rw [e1, drop_s h]
  have : (32 :: s.drop (i + 1)).dropWhile nb = 32 :: s.drop (i + 1) := by simp [nb]
  rw [this, ite_self, pc_b, if_pos rfl]; rfl
theorem inside_s {s : List UInt8} {i : Nat} {b : UInt8} (h : s[i]? = some b) (hb : b ≠ 32) : inside s (i + 1) = true := by
  show (s[i]? != some 32) = true; rw [h]; simp [hb]
theorem rest_in {s : List UInt8} {i : Nat} {b : UInt8} (h : s[i]? = some b) (hb : b ≠ 32) (hi : inside s i = true) : rest s i = rest s (i + 1) := by
  unfold rest; rw [hi, inside_s h hb, drop_s h, if_pos rfl, if_pos rfl]
  have : nb b = true := by simp [nb, hb]
  simp [this]
theorem rest_out {s : List UInt8} {i e : Nat} {b : UInt8} (h : s[i]? = some b) (hb : b ≠ 32) (hi : inside s i = false) (ha : ∀ c ∈ (s.drop i).take (e - i), c ≠ 32) (hie : i ≤ e) (he : s[e]? = none ∨ s[e]? = some 32) :
    rest s i = (s.drop i).take (e - i) :: rest s (i + 1) := by
  have hr := take_run (s.drop i) (e - i) ha (by rw [List.getElem?_drop, Nat.add_sub_cancel' hie]; exact he)
  have : nb b = true := by simp [nb, hb]
  unfold rest
  rw [hi, inside_s h hb, if_pos rfl, if_neg (by decide), ← hr.1]
  rw [drop_s h, pc_start hb]
  simp [this]
abbrev pcL (l : List (List UInt8)) : List (List Value) := l.zipIdx.map fun p => [.int .i64 (p.2 : Int), str p.1]
theorem pcL_len (l : List (List UInt8)) : (pcL l).length = l.length := by simp
theorem pcL_get {l : List (List UInt8)} {i : Nat} {q : List UInt8} (h : l[i]? = some q) : (pcL l).getD i [] = [.int .i64 (i : Int), str q] := by
  simp [List.getD, h]
theorem pc_len : ∀ (s cur : List UInt8), (pc cur s).length ≤ s.length + 1
  | [], cur => by rw [pc]; split <;> simp
  | b :: s, cur => by
    have h1 := pc_len s []; have h2 := pc_len s (cur ++ [b])
    by_cases hb : b = 32
    · subst hb; rw [pc_b]; split <;> simp <;> omega
    · rw [pc_n hb]; simp; omega
def frm : Option Nat → Int
  | none => -1
  | some f => (f : Int)
def curP (s : List UInt8) (i : Nat) : Option Nat → List UInt8
  | none => []
  | some f => (s.drop f).take (i - f)
theorem curP_ne {s : List UInt8} {i f : Nat} (h : f < i) (hi : i ≤ s.length) : curP s i (some f) ≠ [] := fun e => by
  have := congrArg List.length e
  simp [curP] at this; omega
theorem curP_start {s : List UInt8} {i : Nat} {b : UInt8} (h : s[i]? = some b) : curP s (i + 1) (some i) = curP s i none ++ [b] := by
  show (s.drop i).take (i + 1 - i) = [b]
  rw [drop_s h, show i + 1 - i = 1 by omega]; rfl
theorem curP_s {s : List UInt8} {i f : Nat} {b : UInt8} (h : s[i]? = some b) (hf : f ≤ i) : curP s (i + 1) (some f) = curP s i (some f) ++ [b] := by
  show (s.drop f).take (i + 1 - f) = (s.drop f).take (i - f) ++ [b]
  rw [show i + 1 - f = (i - f) + 1 by omega, List.take_add_one, List.getElem?_drop, Nat.add_sub_cancel' hf, h]; rfl

theorem dpieces (s : List UInt8) : Ctr Try.prog B 44 [str s] [] (fun v S => ∃ b, v = .func (.func 58) #[] #[.pointer (some ⟨b, 0, none⟩)] ∧ S = [blk b [str s] 9]) := by
  refine Ctr_of_X (N := 4) Try.func44 rfl (by simp) rfl ?_
  intro w0 D0
  refine X_seq ?_
  refine X_region ?_
  refine XL_box .no rfl rfl rfl (fun b1 => ?_)
  refine XL_det .no (D_pure rfl) rfl ?_
  refine XL_then ?_
  refine X_seq ?_
  refine X_region ?_
  refine XL_det .no (D_pure rfl) rfl ?_
  refine XL_det .no (D_pure rfl) rfl ?_
  refine XL_then ?_
  refine X_ret ?_
  refine ret_ok (.nil _) (res_tmp rfl rfl) ?_
  exact ⟨[blk b1 [str s] 9], ⟨b1, rfl, rfl⟩, _, (by repeat first | with_reducible exact .nil _ | with_reducible exact .here _ _ | with_reducible exact Take.self _ | with_reducible apply Take.cons | with_reducible apply Out.there | with_reducible apply Take.skip | with_reducible exact Take.pre _ _ | with_reducible apply Out.app)⟩

theorem dpItr (b : Nat) (s : List UInt8) (hs : s.length ≤ 5000000) :
    Itr Try.prog B 58 [.pointer (some ⟨b, 0, none⟩)] [blk b [str s] 9] (pcL (pieces s)) := by
  intro ly J Jx S0 hJ0 hy
  change Ctr _ _ _ _ (blk b [str s] 9 :: S0) _
  refine Ctr_of_X (N := 37) Try.func58 rfl (by simp) rfl ?_
  intro w0 D0
  refine X_seq ?_
  refine X_region ?_
  refine XL_det .no (D_pure rfl) rfl ?_
  refine XL_det .no (D_pure rfl) rfl ?_
  refine XL_then ?_
  refine X_seq ?_
  refine X_region ?_
  refine XL_det .no (D_pure rfl) rfl ?_
  refine XL_then ?_
  refine X_block ?_
  refine X_loop (α := Nat × Nat × Option Nat × List (Asrt B)) (fun ⟨i, n, fo, S1⟩ => i ≤ s.length + 1 ∧ J n S1 ∧ (∃ out, pieces s = out ++ pc (curP s i fo) (s.drop i) ∧ out.length = n) ∧ ∀ f, fo = some f → f < i ∧ i ≤ s.length) (fun ⟨i, n, fo, S1⟩ => [(3, .int .i64 (n : Int)), (4, .int .i64 (frm fo)), (5, .int .i64 (i : Int)), (0, .func (.yield ly) #[] #[]), (1, .pointer (some ⟨b, 0, none⟩))]) (fun ⟨i, n, fo, S1⟩ => blk b [str s] 9 :: S1) (fun ⟨i, n, fo, S1⟩ => s.length + 1 - i) (0, 0, none, S0) ?_ (by refine ⟨?_, ?_, ?_, ?_, ?_, trivial⟩ <;> rfl) (by repeat first | with_reducible exact .nil _ | with_reducible exact .here _ _ | with_reducible exact Take.self _ | with_reducible apply Take.cons | with_reducible apply Out.there | with_reducible apply Take.skip | with_reducible exact Take.pre _ _ | with_reducible apply Out.app) ?_
  · exact ⟨Nat.zero_le _, hJ0, ⟨[], rfl, rfl⟩, fun f h => by cases h⟩
  · rintro ⟨i, n, fo, S1⟩ ⟨hi, hJ, ⟨out, ho, hol⟩, hfo⟩
    dsimp only
    have hsm : s.length ≤ 5000000 := hs
    have hnb : n ≤ s.length + 1 := by have h1 : (pieces s).length ≤ s.length + 1 := pc_len s []; have h2 := congrArg List.length ho; rw [List.length_append] at h2; omega
    refine X_seq ?_
    refine X_seq ?_
    refine X_region ?_
    refine XL_det .no (D_pure rfl) rfl ?_
    refine XL_det .no (D_ldo rfl (by repeat first | with_reducible exact .here _ _ | with_reducible apply Out.there | with_reducible apply Out.app) tk_9 (by rfl)) rfl ?_
    refine XL_det .no (D_slen rfl rfl us_9) rfl ?_
    refine XL_det .no (D_pure rfl) rfl ?_
    refine XL_then ?_
    refine X_cond rfl (fun h1 => ?_) (fun h1 => ?_)
    · try simp only [decide_eq_true_eq, decide_eq_false_iff_not, Bool.not_eq_true', Bool.not_eq_false', beq_iff_eq, bne_iff_ne, beq_eq_false_iff_ne, bne_eq_false_iff_eq, Int.not_lt, Int.not_le, gt_iff_lt, ge_iff_le, ne_eq] at h1
      refine X_skip ?_
      refine thenX_normal ?_
      refine X_seq ?_
      refine X_block ?_
      refine X_seq ?_
      refine X_seq ?_
      refine X_region ?_
      refine XL_det .no (D_pure rfl) rfl ?_
      refine XL_det .no (D_ldo rfl (by repeat first | with_reducible exact .here _ _ | with_reducible apply Out.there | with_reducible apply Out.app) tk_9 (by rfl)) rfl ?_
      refine XL_det .no (D_slen rfl rfl us_9) rfl ?_
      refine XL_det .no (D_pure rfl) rfl ?_
      refine XL_det .no (D_pure rfl) rfl ?_
      refine XL_split (t := 16) rfl (fun h2 => ?_) (fun h2 => ?_)
      · try simp only [decide_eq_true_eq, decide_eq_false_iff_not, Bool.not_eq_true', Bool.not_eq_false', beq_iff_eq, bne_iff_ne, beq_eq_false_iff_ne, bne_eq_false_iff_eq, Int.not_lt, Int.not_le, gt_iff_lt, ge_iff_le, ne_eq] at h2
        obtain ⟨b2, hb⟩ : ∃ b, s[i]? = some b := ⟨_, List.getElem?_eq_getElem (by omega)⟩
        refine XL_det (.yes 16 rfl rfl rfl) (D_ldo rfl (by repeat first | with_reducible exact .here _ _ | with_reducible apply Out.there | with_reducible apply Out.app) tk_9 (by rfl)) rfl ?_
        refine XL_det (.yes 16 rfl rfl rfl) (D_pure rfl) rfl ?_
        refine XL_det (.yes 16 rfl rfl rfl) (D_sidx (i := i) rfl rfl us_9 rfl hb) rfl ?_
        refine XL_det (.yes 16 rfl rfl rfl) (D_pure rfl) rfl ?_
        refine XL_det .no (D_pure rfl) rfl ?_
        refine XL_then ?_
        refine X_cond rfl (fun h3 => ?_) (fun h3 => ?_)
        · try simp only [decide_eq_true_eq, decide_eq_false_iff_not, Bool.not_eq_true', Bool.not_eq_false', beq_iff_eq, bne_iff_ne, beq_eq_false_iff_ne, bne_eq_false_iff_eq, Int.not_lt, Int.not_le, gt_iff_lt, ge_iff_le, ne_eq] at h3
          refine X_seq ?_
          refine X_seq ?_
          refine X_region ?_
          refine XL_det .no (D_pure rfl) rfl ?_
          refine XL_det .no (D_pure rfl) rfl ?_
          refine XL_then ?_
          refine X_cond rfl (fun h4 => ?_) (fun h4 => ?_)
          · try simp only [decide_eq_true_eq, decide_eq_false_iff_not, Bool.not_eq_true', Bool.not_eq_false', beq_iff_eq, bne_iff_ne, beq_eq_false_iff_ne, bne_eq_false_iff_eq, Int.not_lt, Int.not_le, gt_iff_lt, ge_iff_le, ne_eq] at h4
            have hnone : fo = none := by cases fo with | none => rfl | some f => exact absurd h4 (by show ¬ (f : Int) < 0; omega)
            refine X_region ?_
            refine XL_det .no (D_pure rfl) rfl ?_
            refine XL_det .no (D_pure rfl) rfl ?_
            refine XL_then ?_
            refine X_exit ?_
            refine thenX_exit ?_
            refine inBlk_here ?_
            refine thenX_normal ?_
            refine X_region ?_
            refine XL_det .no (D_pure rfl) rfl ?_
            refine XL_det .no (D_add rfl rfl (by omega) (by omega)) rfl ?_
            refine XL_det .no (D_pure rfl) rfl ?_
            refine XL_nil ?_
            refine loopQ_next (i + 1, n, some i, S1) ?_ ?_ ?_ ?_
            · (try dsimp only); exact ⟨by omega, hJ, ⟨out, by rw [ho, curP_start hb, drop_s hb, hnone, pc_n (fun e => h3 (by rw [e]; rfl))], hol⟩, fun f h => by cases h; omega⟩
            · (try dsimp only); omega
            · refine ⟨?_, ?_, ?_, ?_, ?_, trivial⟩ <;> rfl
            · (try dsimp only); exact ⟨_, (by repeat first | with_reducible exact .nil _ | with_reducible exact .here _ _ | with_reducible exact Take.self _ | with_reducible apply Take.cons | with_reducible apply Out.there | with_reducible apply Take.skip | with_reducible exact Take.pre _ _ | with_reducible apply Out.app)⟩
          · try simp only [decide_eq_true_eq, decide_eq_false_iff_not, Bool.not_eq_true', Bool.not_eq_false', beq_iff_eq, bne_iff_ne, beq_eq_false_iff_ne, bne_eq_false_iff_eq, Int.not_lt, Int.not_le, gt_iff_lt, ge_iff_le, ne_eq] at h4
            obtain ⟨f, hsome⟩ : ∃ f, fo = some f := by cases fo with | none => exact absurd h4 (by decide) | some f => exact ⟨f, rfl⟩
            refine X_skip ?_
            refine thenX_normal ?_
            refine X_exit ?_
            refine thenX_exit ?_
            refine inBlk_here ?_
            refine thenX_normal ?_
            refine X_region ?_
            refine XL_det .no (D_pure rfl) rfl ?_
            refine XL_det .no (D_add rfl rfl (by omega) (by omega)) rfl ?_
            refine XL_det .no (D_pure rfl) rfl ?_
            refine XL_nil ?_
            refine loopQ_next (i + 1, n, fo, S1) ?_ ?_ ?_ ?_
            · (try dsimp only); exact ⟨by omega, hJ, ⟨out, by rw [ho, drop_s hb, hsome, pc_n (fun e => h3 (by rw [e]; rfl)), curP_s hb (by have := hfo f hsome; omega)], hol⟩, fun f h => by have := hfo f h; omega⟩
            · (try dsimp only); omega
            · refine ⟨?_, ?_, ?_, ?_, ?_, trivial⟩ <;> rfl
            · (try dsimp only); exact ⟨_, (by repeat first | with_reducible exact .nil _ | with_reducible exact .here _ _ | with_reducible exact Take.self _ | with_reducible apply Take.cons | with_reducible apply Out.there | with_reducible apply Take.skip | with_reducible exact Take.pre _ _ | with_reducible apply Out.app)⟩
        · try simp only [decide_eq_true_eq, decide_eq_false_iff_not, Bool.not_eq_true', Bool.not_eq_false', beq_iff_eq, bne_iff_ne, beq_eq_false_iff_ne, bne_eq_false_iff_eq, Int.not_lt, Int.not_le, gt_iff_lt, ge_iff_le, ne_eq] at h3
          have hb32 : b2 = 32 := UInt8.toNat_inj.1 (show b2.toNat = 32 by omega)
          refine X_skip ?_
          refine thenX_normal ?_
          refine X_seq ?_
          refine X_region ?_
          refine XL_det .no (D_pure rfl) rfl ?_
          refine XL_det .no (D_pure rfl) rfl ?_
          refine XL_then ?_
          refine X_cond rfl (fun h5 => ?_) (fun h5 => ?_)
          · try simp only [decide_eq_true_eq, decide_eq_false_iff_not, Bool.not_eq_true', Bool.not_eq_false', beq_iff_eq, bne_iff_ne, beq_eq_false_iff_ne, bne_eq_false_iff_eq, Int.not_lt, Int.not_le, gt_iff_lt, ge_iff_le, ne_eq] at h5
            obtain ⟨f, rfl⟩ : ∃ f, fo = some f := by cases fo with | none => exact absurd h5 (by decide) | some f => exact ⟨f, rfl⟩
            have hfi := hfo f rfl
            have hn2 : (pieces s)[n]? = some (curP s i (some f)) := by rw [ho, (show pc (curP s i (some f)) (s.drop i) = curP s i (some f) :: pc [] (s.drop (i + 1)) by rw [drop_s hb, hb32, pc_b, if_neg (curP_ne hfi.1 hfi.2)]), ← hol, List.getElem?_append_right (Nat.le_refl _)]; simp
            have hnl : n < (pieces s).length := (List.getElem?_eq_some_iff.1 hn2).1
            have hyy := hy n S1 (by rw [pcL_len]; exact hnl) hJ
            rw [pcL_get hn2] at hyy
            refine X_seq ?_
            refine X_seq ?_
            refine X_region ?_
            refine XL_det .no (D_pure rfl) rfl ?_
            refine XL_det .no (D_pure rfl) rfl ?_
            refine XL_det .no (D_ldo rfl (by repeat first | with_reducible exact .here _ _ | with_reducible apply Out.there | with_reducible apply Out.app) tk_9 (by rfl)) rfl ?_
            refine XL_det .no (D_pure rfl) rfl ?_
            refine XL_det .no (D_pure rfl) rfl ?_
            refine XL_det .no (D_sslice (lo := f) (hi := i) (p := curP s i (some f)) rfl us_9 ⟨_, rfl⟩ ⟨_, rfl⟩ (by omega) (by omega) rfl) rfl ?_
            refine XL_yield (own := [blk b [str s] 9]) (Si := S1) .no rfl rfl hyy rfl ?_
            rintro bb S2 hp
            simp only [List.cons_append, List.nil_append]
            refine XL_det .no (D_pure rfl) rfl ?_
            refine XL_then ?_
            refine X_cond rfl (fun h6 => ?_) (fun h6 => ?_)
            · try simp only [decide_eq_true_eq, decide_eq_false_iff_not, Bool.not_eq_true', Bool.not_eq_false', beq_iff_eq, bne_iff_ne, beq_eq_false_iff_ne, bne_eq_false_iff_eq, Int.not_lt, Int.not_le, gt_iff_lt, ge_iff_le, ne_eq] at h6
              refine X_ret ?_
              refine thenX_ret ?_
              refine inBlk_ret ?_
              refine thenX_ret ?_
              refine loopQ_ret ?_
              refine inBlk_ret ?_
              refine ret_ok (.nil _) (res_none rfl) ?_
              obtain ⟨h, _⟩ | ⟨_, hp⟩ := hp
              · rw [h] at h6; cases h6
              exact ⟨blk b [str s] 9 :: S2, ⟨S2, rfl, .inr ⟨n, by rw [pcL_len]; exact hnl, hp⟩⟩, _, (by repeat first | with_reducible exact .nil _ | with_reducible exact .here _ _ | with_reducible exact Take.self _ | with_reducible apply Take.cons | with_reducible apply Out.there | with_reducible apply Take.skip | with_reducible exact Take.pre _ _ | with_reducible apply Out.app)⟩
            · try simp only [decide_eq_true_eq, decide_eq_false_iff_not, Bool.not_eq_true', Bool.not_eq_false', beq_iff_eq, bne_iff_ne, beq_eq_false_iff_ne, bne_eq_false_iff_eq, Int.not_lt, Int.not_le, gt_iff_lt, ge_iff_le, ne_eq] at h6
              obtain ⟨_, hp⟩ | ⟨h, _⟩ := hp
              rotate_left
              · rw [h] at h6; cases h6
              refine X_skip ?_
              refine thenX_normal ?_
              refine X_region ?_
              refine XL_det .no (D_pure rfl) rfl ?_
              refine XL_det .no (D_add rfl rfl (by omega) (by omega)) rfl ?_
              refine XL_det .no (D_pure rfl) rfl ?_
              refine XL_det .no (D_pure rfl) rfl ?_
              refine XL_nil ?_
              refine inBlk_normal ?_
              refine thenX_normal ?_
              refine X_region ?_
              refine XL_det .no (D_pure rfl) rfl ?_
              refine XL_det .no (D_add rfl rfl (by omega) (by omega)) rfl ?_
              refine XL_det .no (D_pure rfl) rfl ?_
              refine XL_nil ?_
              refine loopQ_next (i + 1, n + 1, none, S2) ?_ ?_ ?_ ?_
              · (try dsimp only); exact ⟨by omega, hp, ⟨out ++ [curP s i (some f)], by rw [ho, (show pc (curP s i (some f)) (s.drop i) = curP s i (some f) :: pc [] (s.drop (i + 1)) by rw [drop_s hb, hb32, pc_b, if_neg (curP_ne hfi.1 hfi.2)]), List.append_assoc]; rfl, by simp [hol]⟩, fun f h => by cases h⟩
              · (try dsimp only); omega
              · refine ⟨?_, ?_, ?_, ?_, ?_, trivial⟩ <;> rfl
              · (try dsimp only); exact ⟨_, (by repeat first | with_reducible exact .nil _ | with_reducible exact .here _ _ | with_reducible exact Take.self _ | with_reducible apply Take.cons | with_reducible apply Out.there | with_reducible apply Take.skip | with_reducible exact Take.pre _ _ | with_reducible apply Out.app)⟩
          · try simp only [decide_eq_true_eq, decide_eq_false_iff_not, Bool.not_eq_true', Bool.not_eq_false', beq_iff_eq, bne_iff_ne, beq_eq_false_iff_ne, bne_eq_false_iff_eq, Int.not_lt, Int.not_le, gt_iff_lt, ge_iff_le, ne_eq] at h5
            have hnone : fo = none := by cases fo with | none => rfl | some f => exact absurd h5 (by show ¬ (f : Int) < 0; omega)
            refine X_skip ?_
            refine inBlk_normal ?_
            refine thenX_normal ?_
            refine X_region ?_
            refine XL_det .no (D_pure rfl) rfl ?_
            refine XL_det .no (D_add rfl rfl (by omega) (by omega)) rfl ?_
            refine XL_det .no (D_pure rfl) rfl ?_
            refine XL_nil ?_
            refine loopQ_next (i + 1, n, fo, S1) ?_ ?_ ?_ ?_
            · (try dsimp only); exact ⟨by omega, hJ, ⟨out, by rw [ho, hnone, drop_s hb, hb32]; exact congrArg (out ++ ·) (pc_b _ _), hol⟩, fun f h => by rw [hnone] at h; cases h⟩
            · (try dsimp only); omega
            · refine ⟨?_, ?_, ?_, ?_, ?_, trivial⟩ <;> rfl
            · (try dsimp only); exact ⟨_, (by repeat first | with_reducible exact .nil _ | with_reducible exact .here _ _ | with_reducible exact Take.self _ | with_reducible apply Take.cons | with_reducible apply Out.there | with_reducible apply Take.skip | with_reducible exact Take.pre _ _ | with_reducible apply Out.app)⟩
      · try simp only [decide_eq_true_eq, decide_eq_false_iff_not, Bool.not_eq_true', Bool.not_eq_false', beq_iff_eq, bne_iff_ne, beq_eq_false_iff_ne, bne_eq_false_iff_eq, Int.not_lt, Int.not_le, gt_iff_lt, ge_iff_le, ne_eq] at h2
        refine XL_skip 16 rfl rfl rfl rfl rfl ?_
        refine XL_skip 16 rfl rfl rfl rfl rfl ?_
        refine XL_skip 16 rfl rfl rfl rfl rfl ?_
        refine XL_skip 16 rfl rfl rfl rfl rfl ?_
        refine XL_det .no (D_pure rfl) rfl ?_
        refine XL_then ?_
        refine X_cond_f rfl rfl ?_
        refine X_skip ?_
        refine thenX_normal ?_
        refine X_seq ?_
        refine X_region ?_
        refine XL_det .no (D_pure rfl) rfl ?_
        refine XL_det .no (D_pure rfl) rfl ?_
        refine XL_then ?_
        refine X_cond rfl (fun h7 => ?_) (fun h7 => ?_)
        · try simp only [decide_eq_true_eq, decide_eq_false_iff_not, Bool.not_eq_true', Bool.not_eq_false', beq_iff_eq, bne_iff_ne, beq_eq_false_iff_ne, bne_eq_false_iff_eq, Int.not_lt, Int.not_le, gt_iff_lt, ge_iff_le, ne_eq] at h7
          obtain ⟨f, rfl⟩ : ∃ f, fo = some f := by cases fo with | none => exact absurd h7 (by decide) | some f => exact ⟨f, rfl⟩
          have hfi := hfo f rfl
          have hn2 : (pieces s)[n]? = some (curP s i (some f)) := by rw [ho, (show pc (curP s i (some f)) (s.drop i) = curP s i (some f) :: pc [] (s.drop (i + 1)) by rw [List.drop_eq_nil_of_le (by omega), List.drop_eq_nil_of_le (by omega), pc, if_neg (curP_ne hfi.1 hfi.2)]; rfl), ← hol, List.getElem?_append_right (Nat.le_refl _)]; simp
          have hnl : n < (pieces s).length := (List.getElem?_eq_some_iff.1 hn2).1
          have hyy := hy n S1 (by rw [pcL_len]; exact hnl) hJ
          rw [pcL_get hn2] at hyy
          refine X_seq ?_
          refine X_seq ?_
          refine X_region ?_
          refine XL_det .no (D_pure rfl) rfl ?_
          refine XL_det .no (D_pure rfl) rfl ?_
          refine XL_det .no (D_ldo rfl (by repeat first | with_reducible exact .here _ _ | with_reducible apply Out.there | with_reducible apply Out.app) tk_9 (by rfl)) rfl ?_
          refine XL_det .no (D_pure rfl) rfl ?_
          refine XL_det .no (D_pure rfl) rfl ?_
          refine XL_det .no (D_sslice (lo := f) (hi := i) (p := curP s i (some f)) rfl us_9 ⟨_, rfl⟩ ⟨_, rfl⟩ (by omega) (by omega) rfl) rfl ?_
          refine XL_yield (own := [blk b [str s] 9]) (Si := S1) .no rfl rfl hyy rfl ?_
          rintro bb S2 hp
          simp only [List.cons_append, List.nil_append]
          refine XL_det .no (D_pure rfl) rfl ?_
          refine XL_then ?_
          refine X_cond rfl (fun h8 => ?_) (fun h8 => ?_)
          · try simp only [decide_eq_true_eq, decide_eq_false_iff_not, Bool.not_eq_true', Bool.not_eq_false', beq_iff_eq, bne_iff_ne, beq_eq_false_iff_ne, bne_eq_false_iff_eq, Int.not_lt, Int.not_le, gt_iff_lt, ge_iff_le, ne_eq] at h8
            refine X_ret ?_
            refine thenX_ret ?_
            refine inBlk_ret ?_
            refine thenX_ret ?_
            refine loopQ_ret ?_
            refine inBlk_ret ?_
            refine ret_ok (.nil _) (res_none rfl) ?_
            obtain ⟨h, _⟩ | ⟨_, hp⟩ := hp
            · rw [h] at h8; cases h8
            exact ⟨blk b [str s] 9 :: S2, ⟨S2, rfl, .inr ⟨n, by rw [pcL_len]; exact hnl, hp⟩⟩, _, (by repeat first | with_reducible exact .nil _ | with_reducible exact .here _ _ | with_reducible exact Take.self _ | with_reducible apply Take.cons | with_reducible apply Out.there | with_reducible apply Take.skip | with_reducible exact Take.pre _ _ | with_reducible apply Out.app)⟩
          · try simp only [decide_eq_true_eq, decide_eq_false_iff_not, Bool.not_eq_true', Bool.not_eq_false', beq_iff_eq, bne_iff_ne, beq_eq_false_iff_ne, bne_eq_false_iff_eq, Int.not_lt, Int.not_le, gt_iff_lt, ge_iff_le, ne_eq] at h8
            obtain ⟨_, hp⟩ | ⟨h, _⟩ := hp
            rotate_left
            · rw [h] at h8; cases h8
            refine X_skip ?_
            refine thenX_normal ?_
            refine X_region ?_
            refine XL_det .no (D_pure rfl) rfl ?_
            refine XL_det .no (D_add rfl rfl (by omega) (by omega)) rfl ?_
            refine XL_det .no (D_pure rfl) rfl ?_
            refine XL_det .no (D_pure rfl) rfl ?_
            refine XL_nil ?_
            refine inBlk_normal ?_
            refine thenX_normal ?_
            refine X_region ?_
            refine XL_det .no (D_pure rfl) rfl ?_
            refine XL_det .no (D_add rfl rfl (by omega) (by omega)) rfl ?_
            refine XL_det .no (D_pure rfl) rfl ?_
            refine XL_nil ?_
            refine loopQ_next (i + 1, n + 1, none, S2) ?_ ?_ ?_ ?_
            · (try dsimp only); exact ⟨by omega, hp, ⟨out ++ [curP s i (some f)], by rw [ho, (show pc (curP s i (some f)) (s.drop i) = curP s i (some f) :: pc [] (s.drop (i + 1)) by rw [List.drop_eq_nil_of_le (by omega), List.drop_eq_nil_of_le (by omega), pc, if_neg (curP_ne hfi.1 hfi.2)]; rfl), List.append_assoc]; rfl, by simp [hol]⟩, fun f h => by cases h⟩
            · (try dsimp only); omega
            · refine ⟨?_, ?_, ?_, ?_, ?_, trivial⟩ <;> rfl
            · (try dsimp only); exact ⟨_, (by repeat first | with_reducible exact .nil _ | with_reducible exact .here _ _ | with_reducible exact Take.self _ | with_reducible apply Take.cons | with_reducible apply Out.there | with_reducible apply Take.skip | with_reducible exact Take.pre _ _ | with_reducible apply Out.app)⟩
        · try simp only [decide_eq_true_eq, decide_eq_false_iff_not, Bool.not_eq_true', Bool.not_eq_false', beq_iff_eq, bne_iff_ne, beq_eq_false_iff_ne, bne_eq_false_iff_eq, Int.not_lt, Int.not_le, gt_iff_lt, ge_iff_le, ne_eq] at h7
          have hnone : fo = none := by cases fo with | none => rfl | some f => exact absurd h7 (by show ¬ (f : Int) < 0; omega)
          refine X_skip ?_
          refine inBlk_normal ?_
          refine thenX_normal ?_
          refine X_region ?_
          refine XL_det .no (D_pure rfl) rfl ?_
          refine XL_det .no (D_add rfl rfl (by omega) (by omega)) rfl ?_
          refine XL_det .no (D_pure rfl) rfl ?_
          refine XL_nil ?_
          refine loopQ_next (i + 1, n, fo, S1) ?_ ?_ ?_ ?_
          · (try dsimp only); exact ⟨by omega, hJ, ⟨out, by rw [ho, hnone, List.drop_eq_nil_of_le (by omega), List.drop_eq_nil_of_le (by omega)]; rfl, hol⟩, fun f h => by rw [hnone] at h; cases h⟩
          · (try dsimp only); omega
          · refine ⟨?_, ?_, ?_, ?_, ?_, trivial⟩ <;> rfl
          · (try dsimp only); exact ⟨_, (by repeat first | with_reducible exact .nil _ | with_reducible exact .here _ _ | with_reducible exact Take.self _ | with_reducible apply Take.cons | with_reducible apply Out.there | with_reducible apply Take.skip | with_reducible exact Take.pre _ _ | with_reducible apply Out.app)⟩
    · try simp only [decide_eq_true_eq, decide_eq_false_iff_not, Bool.not_eq_true', Bool.not_eq_false', beq_iff_eq, bne_iff_ne, beq_eq_false_iff_ne, bne_eq_false_iff_eq, Int.not_lt, Int.not_le, gt_iff_lt, ge_iff_le, ne_eq] at h1
      refine X_exit ?_
      refine thenX_exit ?_
      refine loopQ_exit ?_
      refine inBlk_here ?_
      refine ret_okn (.nil _) (res_none rfl) ?_
      have hnone : fo = none := by cases fo with | none => rfl | some f => have := hfo f rfl; omega
      rw [hnone, List.drop_eq_nil_of_le (by omega)] at ho
      have hpe : pieces s = out := by rw [ho]; exact List.append_nil _
      exact ⟨blk b [str s] 9 :: S1, ⟨S1, rfl, .inl (by rw [pcL_len, hpe, hol]; exact hJ)⟩, _, (by repeat first | with_reducible exact .nil _ | with_reducible exact .here _ _ | with_reducible exact Take.self _ | with_reducible apply Take.cons | with_reducible apply Out.there | with_reducible apply Take.skip | with_reducible exact Take.pre _ _ | with_reducible apply Out.app)⟩

end Go.Proofs.Ytjcpggoodbkedaa
end

section
namespace Go.Proofs.Ytjcpggoodbkedaa
open Go Go.Sl
set_option linter.unusedVariables false
set_option linter.unusedSimpArgs false
set_option maxRecDepth 4000
variable {B : Nat} {K : Asrt B}


theorem inside_pos {s : List UInt8} {i : Nat} (h : 0 < i) : inside s i = (s[i - 1]? != some 32) := by
  obtain ⟨j, rfl⟩ : ∃ j, i = j + 1 := ⟨i - 1, by omega⟩
  rfl
theorem nb_s {s : List UInt8} {i e : Nat} {b : UInt8} (hie : i ≤ e) (h : s[e]? = some b) (hb : b ≠ 32) (ha : ∀ c ∈ (s.drop i).take (e - i), c ≠ 32) : ∀ c ∈ (s.drop i).take (e + 1 - i), c ≠ 32 := by
  rw [show e + 1 - i = (e - i) + 1 by omega]
  exact take_all (p := fun c => c ≠ 32) (by rw [List.getElem?_drop, Nat.add_sub_cancel' hie]; exact h) ha hb

theorem rpieces (s : List UInt8) (hs : s.length ≤ 5000000) : Ctr Try.prog B 47 [str s] [] (fun v S => ∃ x : Arr (List UInt8), (x.l = pieces s ∧ x.Own) ∧ v = x.v ∧ S = [row (.slice x.oad x.l.length x.c) 9 1 x.l.length (x.l.flatMap encS)] ++ []) := by
  refine Ctr_of_X (N := 48) Try.func47 rfl (by simp) rfl ?_
  intro w0 D0
  refine X_seq ?_
  refine X_region ?_
  refine XL_det .no (D_pure rfl) rfl ?_
  refine XL_then ?_
  refine X_seq ?_
  refine X_region ?_
  refine XL_det .no (D_pure rfl) rfl ?_
  refine XL_then ?_
  refine X_seq ?_
  refine X_seq ?_
  refine X_region ?_
  refine XL_det .no (D_pure rfl) rfl ?_
  refine XL_then ?_
  refine X_block ?_
  refine X_rowa encS 9 1 ?_
  refine X_loop (α := Nat × Arr (List UInt8)) (fun ⟨i, a⟩ => i ≤ s.length ∧ pieces s = a.l ++ rest s i ∧ a.Own ∧ a.l.length ≤ i) (fun ⟨i, a⟩ => [(3, .slice a.oad a.l.length a.c), (4, .int .i64 (i : Int)), (0, str s)]) (fun ⟨i, a⟩ => [row (.slice a.oad a.l.length a.c) 9 1 a.l.length (a.l.flatMap encS)]) (fun ⟨i, a⟩ => s.length - i) (0, Arr.emp) ?_ (by refine ⟨?_, ?_, ?_, trivial⟩ <;> rfl) (by repeat first | with_reducible exact .nil _ | with_reducible exact .here _ _ | with_reducible exact Take.self _ | with_reducible apply Take.cons | with_reducible apply Out.there | with_reducible apply Take.skip | with_reducible exact Take.pre _ _ | with_reducible apply Out.app) ?_
  · exact ⟨Nat.zero_le _, rfl, Arr.emp_own, Nat.le_refl _⟩
  · rintro ⟨i, a⟩ ⟨hi, ha, hao, hal⟩
    dsimp only
    refine X_seq ?_
    refine X_seq ?_
    refine X_region ?_
    refine XL_det .no (D_pure rfl) rfl ?_
    refine XL_det .no (D_pure rfl) rfl ?_
    refine XL_det .no (D_slen rfl rfl us_9) rfl ?_
    refine XL_det .no (D_pure rfl) rfl ?_
    refine XL_then ?_
    refine X_cond rfl (fun h1 => ?_) (fun h1 => ?_)
    · try simp only [decide_eq_true_eq, decide_eq_false_iff_not, Bool.not_eq_true', Bool.not_eq_false', beq_iff_eq, bne_iff_ne, beq_eq_false_iff_ne, bne_eq_false_iff_eq, Int.not_lt, Int.not_le, gt_iff_lt, ge_iff_le, ne_eq] at h1
      obtain ⟨b, hb⟩ : ∃ b, s[i]? = some b := ⟨_, List.getElem?_eq_getElem (by omega)⟩
      refine X_skip ?_
      refine thenX_normal ?_
      refine X_seq ?_
      refine X_block ?_
      refine X_seq ?_
      refine X_seq ?_
      refine X_region ?_
      refine XL_det .no (D_pure rfl) rfl ?_
      refine XL_det .no (D_pure rfl) rfl ?_
      refine XL_det .no (D_sidx (i := i) rfl rfl us_9 rfl hb) rfl ?_
      refine XL_det .no (D_pure rfl) rfl ?_
      refine XL_det .no (D_pure rfl) rfl ?_
      refine XL_split (t := 16) rfl (fun h2 => ?_) (fun h2 => ?_)
      · try simp only [decide_eq_true_eq, decide_eq_false_iff_not, Bool.not_eq_true', Bool.not_eq_false', beq_iff_eq, bne_iff_ne, beq_eq_false_iff_ne, bne_eq_false_iff_eq, Int.not_lt, Int.not_le, gt_iff_lt, ge_iff_le, ne_eq] at h2
        have hb32 : b = 32 := UInt8.toNat_inj.1 (show b.toNat = 32 by omega)
        refine XL_skip 16 rfl rfl rfl rfl rfl ?_
        refine XL_skip 16 rfl rfl rfl rfl rfl ?_
        refine XL_skip 16 rfl rfl rfl rfl rfl ?_
        refine XL_skipu 19 rfl rfl rfl rfl ?_
        refine XL_skipu 19 rfl rfl rfl rfl ?_
        refine XL_skipu 19 rfl rfl rfl rfl ?_
        refine XL_skipu 19 rfl rfl rfl rfl ?_
        refine XL_skipu 19 rfl rfl rfl rfl ?_
        refine XL_skip 16 rfl rfl rfl rfl rfl ?_
        refine XL_det .no (D_pure rfl) rfl ?_
        refine XL_then ?_
        refine X_cond_t rfl rfl ?_
        refine X_exit ?_
        refine thenX_exit ?_
        refine inBlk_here ?_
        refine thenX_normal ?_
        refine X_region ?_
        refine XL_det .no (D_pure rfl) rfl ?_
        refine XL_det .no (D_add rfl rfl (by omega) (by omega)) rfl ?_
        refine XL_det .no (D_pure rfl) rfl ?_
        refine XL_nil ?_
        refine loopQ_next (i + 1, a) ?_ ?_ ?_ ?_
        · (try dsimp only); exact ⟨by omega, by rw [ha, rest_b (hb.trans (congrArg some hb32))], hao, by omega⟩
        · (try dsimp only); omega
        · refine ⟨?_, ?_, ?_, trivial⟩ <;> rfl
        · (try dsimp only); exact ⟨_, (by repeat first | with_reducible exact .nil _ | with_reducible exact .here _ _ | with_reducible exact Take.self _ | with_reducible apply Take.cons | with_reducible apply Out.there | with_reducible apply Take.skip | with_reducible exact Take.pre _ _ | with_reducible apply Out.app)⟩
      · try simp only [decide_eq_true_eq, decide_eq_false_iff_not, Bool.not_eq_true', Bool.not_eq_false', beq_iff_eq, bne_iff_ne, beq_eq_false_iff_ne, bne_eq_false_iff_eq, Int.not_lt, Int.not_le, gt_iff_lt, ge_iff_le, ne_eq] at h2
        have hbn : b ≠ 32 := fun e => h2 (by rw [e]; rfl)
        refine XL_det (.yes 16 rfl rfl rfl) (D_pure rfl) rfl ?_
        refine XL_det (.yes 16 rfl rfl rfl) (D_pure rfl) rfl ?_
        refine XL_det (.yes 16 rfl rfl rfl) (D_pure rfl) rfl ?_
        refine XL_split (t := 19) rfl (fun h3 => ?_) (fun h3 => ?_)
        · try simp only [decide_eq_true_eq, decide_eq_false_iff_not, Bool.not_eq_true', Bool.not_eq_false', beq_iff_eq, bne_iff_ne, beq_eq_false_iff_ne, bne_eq_false_iff_eq, Int.not_lt, Int.not_le, gt_iff_lt, ge_iff_le, ne_eq] at h3
          obtain ⟨p, hp⟩ : ∃ b, s[i - 1]? = some b := ⟨_, List.getElem?_eq_getElem (by omega)⟩
          refine XL_det (.yes 19 rfl rfl rfl) (D_pure rfl) rfl ?_
          refine XL_det (.yes 19 rfl rfl rfl) (D_pure rfl) rfl ?_
          refine XL_det (.yes 19 rfl rfl rfl) (D_sub rfl rfl (by omega) (by omega)) rfl ?_
          refine XL_det (.yes 19 rfl rfl rfl) (D_sidx (i := (i - 1)) rfl rfl us_9 (by omega) hp) rfl ?_
          refine XL_det (.yes 19 rfl rfl rfl) (D_pure rfl) rfl ?_
          refine XL_det (.yes 16 rfl rfl rfl) (D_pure rfl) rfl ?_
          refine XL_det .no (D_pure rfl) rfl ?_
          refine XL_then ?_
          refine X_cond rfl (fun h4 => ?_) (fun h4 => ?_)
          · try simp only [decide_eq_true_eq, decide_eq_false_iff_not, Bool.not_eq_true', Bool.not_eq_false', beq_iff_eq, bne_iff_ne, beq_eq_false_iff_ne, bne_eq_false_iff_eq, Int.not_lt, Int.not_le, gt_iff_lt, ge_iff_le, ne_eq] at h4
            have hins : inside s i = true := by rw [inside_pos (by omega), hp]; simp; exact fun e => h4 (by rw [e]; rfl)
            refine X_exit ?_
            refine thenX_exit ?_
            refine inBlk_here ?_
            refine thenX_normal ?_
            refine X_region ?_
            refine XL_det .no (D_pure rfl) rfl ?_
            refine XL_det .no (D_add rfl rfl (by omega) (by omega)) rfl ?_
            refine XL_det .no (D_pure rfl) rfl ?_
            refine XL_nil ?_
            refine loopQ_next (i + 1, a) ?_ ?_ ?_ ?_
            · (try dsimp only); exact ⟨by omega, by rw [ha, rest_in hb hbn hins], hao, by omega⟩
            · (try dsimp only); omega
            · refine ⟨?_, ?_, ?_, trivial⟩ <;> rfl
            · (try dsimp only); exact ⟨_, (by repeat first | with_reducible exact .nil _ | with_reducible exact .here _ _ | with_reducible exact Take.self _ | with_reducible apply Take.cons | with_reducible apply Out.there | with_reducible apply Take.skip | with_reducible exact Take.pre _ _ | with_reducible apply Out.app)⟩
          · try simp only [decide_eq_true_eq, decide_eq_false_iff_not, Bool.not_eq_true', Bool.not_eq_false', beq_iff_eq, bne_iff_ne, beq_eq_false_iff_ne, bne_eq_false_iff_eq, Int.not_lt, Int.not_le, gt_iff_lt, ge_iff_le, ne_eq] at h4
            have hins : inside s i = false := by rw [inside_pos (by omega), hp]; simp; exact UInt8.toNat_inj.1 (show p.toNat = 32 by omega)
            refine X_skip ?_
            refine thenX_normal ?_
            refine X_seq ?_
            refine X_region ?_
            refine XL_det .no (D_pure rfl) rfl ?_
            refine XL_det .no (D_pure rfl) rfl ?_
            refine XL_then ?_
            refine X_seq ?_
            refine X_block ?_
            refine X_loop (α := Nat) (fun e => i ≤ e ∧ e ≤ s.length ∧ ∀ c ∈ (s.drop i).take (e - i), c ≠ 32) (fun e => [(5, .int .i64 (e : Int)), (0, str s), (3, .slice a.oad a.l.length a.c), (4, .int .i64 (i : Int))]) (fun e => [row (.slice a.oad a.l.length a.c) 9 1 a.l.length (a.l.flatMap encS)]) (fun e => s.length - e) i ?_ (by refine ⟨?_, ?_, ?_, ?_, trivial⟩ <;> rfl) (by repeat first | with_reducible exact .nil _ | with_reducible exact .here _ _ | with_reducible exact Take.self _ | with_reducible apply Take.cons | with_reducible apply Out.there | with_reducible apply Take.skip | with_reducible exact Take.pre _ _ | with_reducible apply Out.app) ?_
            · exact ⟨Nat.le_refl _, by omega, fun c hc => by simp at hc⟩
            · rintro e ⟨hie, hes, hne⟩
              refine X_seq ?_
              refine X_seq ?_
              refine X_region ?_
              refine XL_det .no (D_pure rfl) rfl ?_
              refine XL_det .no (D_pure rfl) rfl ?_
              refine XL_det .no (D_slen rfl rfl us_9) rfl ?_
              refine XL_det .no (D_pure rfl) rfl ?_
              refine XL_det .no (D_pure rfl) rfl ?_
              refine XL_split (t := 32) rfl (fun h5 => ?_) (fun h5 => ?_)
              · try simp only [decide_eq_true_eq, decide_eq_false_iff_not, Bool.not_eq_true', Bool.not_eq_false', beq_iff_eq, bne_iff_ne, beq_eq_false_iff_ne, bne_eq_false_iff_eq, Int.not_lt, Int.not_le, gt_iff_lt, ge_iff_le, ne_eq] at h5
                obtain ⟨c, he⟩ : ∃ b, s[e]? = some b := ⟨_, List.getElem?_eq_getElem (by omega)⟩
                refine XL_det (.yes 32 rfl rfl rfl) (D_pure rfl) rfl ?_
                refine XL_det (.yes 32 rfl rfl rfl) (D_pure rfl) rfl ?_
                refine XL_det (.yes 32 rfl rfl rfl) (D_sidx (i := e) rfl rfl us_9 rfl he) rfl ?_
                refine XL_det (.yes 32 rfl rfl rfl) (D_pure rfl) rfl ?_
                refine XL_det .no (D_pure rfl) rfl ?_
                refine XL_then ?_
                refine X_cond rfl (fun h6 => ?_) (fun h6 => ?_)
                · try simp only [decide_eq_true_eq, decide_eq_false_iff_not, Bool.not_eq_true', Bool.not_eq_false', beq_iff_eq, bne_iff_ne, beq_eq_false_iff_ne, bne_eq_false_iff_eq, Int.not_lt, Int.not_le, gt_iff_lt, ge_iff_le, ne_eq] at h6
                  have hcn : c ≠ 32 := fun e => h6 (by rw [e]; rfl)
                  refine X_skip ?_
                  refine thenX_normal ?_
                  refine X_block ?_
                  refine X_region ?_
                  refine XL_det .no (D_pure rfl) rfl ?_
                  refine XL_det .no (D_add rfl rfl (by omega) (by omega)) rfl ?_
                  refine XL_det .no (D_pure rfl) rfl ?_
                  refine XL_nil ?_
                  refine inBlk_normal ?_
                  refine loopQ_next (e + 1) ?_ ?_ ?_ ?_
                  · exact ⟨by omega, by omega, nb_s hie he hcn hne⟩
                  · omega
                  · refine ⟨?_, ?_, ?_, ?_, trivial⟩ <;> rfl
                  · exact ⟨_, (by repeat first | with_reducible exact .nil _ | with_reducible exact .here _ _ | with_reducible exact Take.self _ | with_reducible apply Take.cons | with_reducible apply Out.there | with_reducible apply Take.skip | with_reducible exact Take.pre _ _ | with_reducible apply Out.app)⟩
                · try simp only [decide_eq_true_eq, decide_eq_false_iff_not, Bool.not_eq_true', Bool.not_eq_false', beq_iff_eq, bne_iff_ne, beq_eq_false_iff_ne, bne_eq_false_iff_eq, Int.not_lt, Int.not_le, gt_iff_lt, ge_iff_le, ne_eq] at h6
                  have hc32 : c = 32 := UInt8.toNat_inj.1 (show c.toNat = 32 by omega)
                  refine X_exit ?_
                  refine thenX_exit ?_
                  refine loopQ_exit ?_
                  refine inBlk_here ?_
                  refine thenX_normal ?_
                  refine X_region ?_
                  refine XL_det .no (D_pure rfl) rfl ?_
                  refine XL_det .no (D_pure rfl) rfl ?_
                  refine XL_det .no (D_pure rfl) rfl ?_
                  refine XL_det .no (D_pure rfl) rfl ?_
                  refine XL_det .no (D_sslice (lo := i) (hi := e) (p := (s.drop i).take (e - i)) rfl us_9 ⟨_, rfl⟩ ⟨_, rfl⟩ (by omega) (by omega) rfl) rfl ?_
                  refine XL_bslice (cs := encS ((s.drop i).take (e - i))) .no rfl slt_71 (by decide) (by decide) (by rfl) (by rfl) rfl rfl (fun b1 => ?_)
                  refine XL_app1 (enc := encS) (c := a) (y := ((s.drop i).take (e - i))) (K := _) .no rfl rfl slt_71 (by repeat first | with_reducible exact .here _ _ | with_reducible apply Out.there | with_reducible apply Out.app) (by repeat first | with_reducible exact .here _ _ | with_reducible apply Out.there | with_reducible apply Out.app) (Rd_blk0) rfl rfl (by omega) (by omega) rfl (fun a2 ha2 ha2o => ?_)
                  refine XL_det .no (D_pure rfl) rfl ?_
                  refine XL_nil ?_
                  refine inBlk_normal ?_
                  refine thenX_normal ?_
                  refine X_region ?_
                  refine XL_det .no (D_pure rfl) rfl ?_
                  refine XL_det .no (D_add rfl rfl (by omega) (by omega)) rfl ?_
                  refine XL_det .no (D_pure rfl) rfl ?_
                  refine XL_nil ?_
                  refine loopQ_next (i + 1, a2) ?_ ?_ ?_ ?_
                  · (try dsimp only); exact ⟨by omega, by rw [ha, rest_out hb hbn hins hne hie (.inr (he.trans (congrArg some hc32))), ha2, List.append_assoc]; rfl, ha2o, by rw [ha2]; simp; omega⟩
                  · (try dsimp only); omega
                  · refine ⟨?_, ?_, ?_, trivial⟩ <;> rfl
                  · (try dsimp only); exact ⟨_, (by repeat first | with_reducible exact .nil _ | with_reducible exact .here _ _ | with_reducible exact Take.self _ | with_reducible apply Take.cons | with_reducible apply Out.there | with_reducible apply Take.skip | with_reducible exact Take.pre _ _ | with_reducible apply Out.app)⟩
              · try simp only [decide_eq_true_eq, decide_eq_false_iff_not, Bool.not_eq_true', Bool.not_eq_false', beq_iff_eq, bne_iff_ne, beq_eq_false_iff_ne, bne_eq_false_iff_eq, Int.not_lt, Int.not_le, gt_iff_lt, ge_iff_le, ne_eq] at h5
                refine XL_skip 32 rfl rfl rfl rfl rfl ?_
                refine XL_skip 32 rfl rfl rfl rfl rfl ?_
                refine XL_skip 32 rfl rfl rfl rfl rfl ?_
                refine XL_skip 32 rfl rfl rfl rfl rfl ?_
                refine XL_det .no (D_pure rfl) rfl ?_
                refine XL_then ?_
                refine X_cond_f rfl rfl ?_
                refine X_exit ?_
                refine thenX_exit ?_
                refine loopQ_exit ?_
                refine inBlk_here ?_
                refine thenX_normal ?_
                refine X_region ?_
                refine XL_det .no (D_pure rfl) rfl ?_
                refine XL_det .no (D_pure rfl) rfl ?_
                refine XL_det .no (D_pure rfl) rfl ?_
                refine XL_det .no (D_pure rfl) rfl ?_
                refine XL_det .no (D_sslice (lo := i) (hi := e) (p := (s.drop i).take (e - i)) rfl us_9 ⟨_, rfl⟩ ⟨_, rfl⟩ (by omega) (by omega) rfl) rfl ?_
                refine XL_bslice (cs := encS ((s.drop i).take (e - i))) .no rfl slt_71 (by decide) (by decide) (by rfl) (by rfl) rfl rfl (fun b2 => ?_)
                refine XL_app1 (enc := encS) (c := a) (y := ((s.drop i).take (e - i))) (K := _) .no rfl rfl slt_71 (by repeat first | with_reducible exact .here _ _ | with_reducible apply Out.there | with_reducible apply Out.app) (by repeat first | with_reducible exact .here _ _ | with_reducible apply Out.there | with_reducible apply Out.app) (Rd_blk0) rfl rfl (by omega) (by omega) rfl (fun a2 ha2 ha2o => ?_)
                refine XL_det .no (D_pure rfl) rfl ?_
                refine XL_nil ?_
                refine inBlk_normal ?_
                refine thenX_normal ?_
                refine X_region ?_
                refine XL_det .no (D_pure rfl) rfl ?_
                refine XL_det .no (D_add rfl rfl (by omega) (by omega)) rfl ?_
                refine XL_det .no (D_pure rfl) rfl ?_
                refine XL_nil ?_
                refine loopQ_next (i + 1, a2) ?_ ?_ ?_ ?_
                · (try dsimp only); exact ⟨by omega, by rw [ha, rest_out hb hbn hins hne hie (.inl (List.getElem?_eq_none (by omega))), ha2, List.append_assoc]; rfl, ha2o, by rw [ha2]; simp; omega⟩
                · (try dsimp only); omega
                · refine ⟨?_, ?_, ?_, trivial⟩ <;> rfl
                · (try dsimp only); exact ⟨_, (by repeat first | with_reducible exact .nil _ | with_reducible exact .here _ _ | with_reducible exact Take.self _ | with_reducible apply Take.cons | with_reducible apply Out.there | with_reducible apply Take.skip | with_reducible exact Take.pre _ _ | with_reducible apply Out.app)⟩
        · try simp only [decide_eq_true_eq, decide_eq_false_iff_not, Bool.not_eq_true', Bool.not_eq_false', beq_iff_eq, bne_iff_ne, beq_eq_false_iff_ne, bne_eq_false_iff_eq, Int.not_lt, Int.not_le, gt_iff_lt, ge_iff_le, ne_eq] at h3
          have hins : inside s i = false := by rw [show i = 0 by omega]; rfl
          refine XL_skip 19 rfl rfl rfl rfl rfl ?_
          refine XL_skip 19 rfl rfl rfl rfl rfl ?_
          refine XL_skip 19 rfl rfl rfl rfl rfl ?_
          refine XL_skip 19 rfl rfl rfl rfl rfl ?_
          refine XL_skip 19 rfl rfl rfl rfl rfl ?_
          refine XL_det (.yes 16 rfl rfl rfl) (D_pure rfl) rfl ?_
          refine XL_det .no (D_pure rfl) rfl ?_
          refine XL_then ?_
          refine X_cond_f rfl rfl ?_
          refine X_skip ?_
          refine thenX_normal ?_
          refine X_seq ?_
          refine X_region ?_
          refine XL_det .no (D_pure rfl) rfl ?_
          refine XL_det .no (D_pure rfl) rfl ?_
          refine XL_then ?_
          refine X_seq ?_
          refine X_block ?_
          refine X_loop (α := Nat) (fun e => i ≤ e ∧ e ≤ s.length ∧ ∀ c ∈ (s.drop i).take (e - i), c ≠ 32) (fun e => [(5, .int .i64 (e : Int)), (0, str s), (3, .slice a.oad a.l.length a.c), (4, .int .i64 (i : Int))]) (fun e => [row (.slice a.oad a.l.length a.c) 9 1 a.l.length (a.l.flatMap encS)]) (fun e => s.length - e) i ?_ (by refine ⟨?_, ?_, ?_, ?_, trivial⟩ <;> rfl) (by repeat first | with_reducible exact .nil _ | with_reducible exact .here _ _ | with_reducible exact Take.self _ | with_reducible apply Take.cons | with_reducible apply Out.there | with_reducible apply Take.skip | with_reducible exact Take.pre _ _ | with_reducible apply Out.app) ?_
          · exact ⟨Nat.le_refl _, by omega, fun c hc => by simp at hc⟩
          · rintro e ⟨hie, hes, hne⟩
            refine X_seq ?_
            refine X_seq ?_
            refine X_region ?_
            refine XL_det .no (D_pure rfl) rfl ?_
            refine XL_det .no (D_pure rfl) rfl ?_
            refine XL_det .no (D_slen rfl rfl us_9) rfl ?_
            refine XL_det .no (D_pure rfl) rfl ?_
            refine XL_det .no (D_pure rfl) rfl ?_
            refine XL_split (t := 32) rfl (fun h7 => ?_) (fun h7 => ?_)
            · try simp only [decide_eq_true_eq, decide_eq_false_iff_not, Bool.not_eq_true', Bool.not_eq_false', beq_iff_eq, bne_iff_ne, beq_eq_false_iff_ne, bne_eq_false_iff_eq, Int.not_lt, Int.not_le, gt_iff_lt, ge_iff_le, ne_eq] at h7
              obtain ⟨c, he⟩ : ∃ b, s[e]? = some b := ⟨_, List.getElem?_eq_getElem (by omega)⟩
              refine XL_det (.yes 32 rfl rfl rfl) (D_pure rfl) rfl ?_
              refine XL_det (.yes 32 rfl rfl rfl) (D_pure rfl) rfl ?_
              refine XL_det (.yes 32 rfl rfl rfl) (D_sidx (i := e) rfl rfl us_9 rfl he) rfl ?_
              refine XL_det (.yes 32 rfl rfl rfl) (D_pure rfl) rfl ?_
              refine XL_det .no (D_pure rfl) rfl ?_
              refine XL_then ?_
              refine X_cond rfl (fun h8 => ?_) (fun h8 => ?_)
              · try simp only [decide_eq_true_eq, decide_eq_false_iff_not, Bool.not_eq_true', Bool.not_eq_false', beq_iff_eq, bne_iff_ne, beq_eq_false_iff_ne, bne_eq_false_iff_eq, Int.not_lt, Int.not_le, gt_iff_lt, ge_iff_le, ne_eq] at h8
                have hcn : c ≠ 32 := fun e => h8 (by rw [e]; rfl)
                refine X_skip ?_
                refine thenX_normal ?_
                refine X_block ?_
                refine X_region ?_
                refine XL_det .no (D_pure rfl) rfl ?_
                refine XL_det .no (D_add rfl rfl (by omega) (by omega)) rfl ?_
                refine XL_det .no (D_pure rfl) rfl ?_
                refine XL_nil ?_
                refine inBlk_normal ?_
                refine loopQ_next (e + 1) ?_ ?_ ?_ ?_
                · exact ⟨by omega, by omega, nb_s hie he hcn hne⟩
                · omega
                · refine ⟨?_, ?_, ?_, ?_, trivial⟩ <;> rfl
                · exact ⟨_, (by repeat first | with_reducible exact .nil _ | with_reducible exact .here _ _ | with_reducible exact Take.self _ | with_reducible apply Take.cons | with_reducible apply Out.there | with_reducible apply Take.skip | with_reducible exact Take.pre _ _ | with_reducible apply Out.app)⟩
              · try simp only [decide_eq_true_eq, decide_eq_false_iff_not, Bool.not_eq_true', Bool.not_eq_false', beq_iff_eq, bne_iff_ne, beq_eq_false_iff_ne, bne_eq_false_iff_eq, Int.not_lt, Int.not_le, gt_iff_lt, ge_iff_le, ne_eq] at h8
                have hc32 : c = 32 := UInt8.toNat_inj.1 (show c.toNat = 32 by omega)
                refine X_exit ?_
                refine thenX_exit ?_
                refine loopQ_exit ?_
                refine inBlk_here ?_
                refine thenX_normal ?_
                refine X_region ?_
                refine XL_det .no (D_pure rfl) rfl ?_
                refine XL_det .no (D_pure rfl) rfl ?_
                refine XL_det .no (D_pure rfl) rfl ?_
                refine XL_det .no (D_pure rfl) rfl ?_
                refine XL_det .no (D_sslice (lo := i) (hi := e) (p := (s.drop i).take (e - i)) rfl us_9 ⟨_, rfl⟩ ⟨_, rfl⟩ (by omega) (by omega) rfl) rfl ?_
                refine XL_bslice (cs := encS ((s.drop i).take (e - i))) .no rfl slt_71 (by decide) (by decide) (by rfl) (by rfl) rfl rfl (fun b3 => ?_)
                refine XL_app1 (enc := encS) (c := a) (y := ((s.drop i).take (e - i))) (K := _) .no rfl rfl slt_71 (by repeat first | with_reducible exact .here _ _ | with_reducible apply Out.there | with_reducible apply Out.app) (by repeat first | with_reducible exact .here _ _ | with_reducible apply Out.there | with_reducible apply Out.app) (Rd_blk0) rfl rfl (by omega) (by omega) rfl (fun a2 ha2 ha2o => ?_)
                refine XL_det .no (D_pure rfl) rfl ?_
                refine XL_nil ?_
                refine inBlk_normal ?_
                refine thenX_normal ?_
                refine X_region ?_
                refine XL_det .no (D_pure rfl) rfl ?_
                refine XL_det .no (D_add rfl rfl (by omega) (by omega)) rfl ?_
                refine XL_det .no (D_pure rfl) rfl ?_
                refine XL_nil ?_
                refine loopQ_next (i + 1, a2) ?_ ?_ ?_ ?_
                · (try dsimp only); exact ⟨by omega, by rw [ha, rest_out hb hbn hins hne hie (.inr (he.trans (congrArg some hc32))), ha2, List.append_assoc]; rfl, ha2o, by rw [ha2]; simp; omega⟩
                · (try dsimp only); omega
                · refine ⟨?_, ?_, ?_, trivial⟩ <;> rfl
                · (try dsimp only); exact ⟨_, (by repeat first | with_reducible exact .nil _ | with_reducible exact .here _ _ | with_reducible exact Take.self _ | with_reducible apply Take.cons | with_reducible apply Out.there | with_reducible apply Take.skip | with_reducible exact Take.pre _ _ | with_reducible apply Out.app)⟩
            · try simp only [decide_eq_true_eq, decide_eq_false_iff_not, Bool.not_eq_true', Bool.not_eq_false', beq_iff_eq, bne_iff_ne, beq_eq_false_iff_ne, bne_eq_false_iff_eq, Int.not_lt, Int.not_le, gt_iff_lt, ge_iff_le, ne_eq] at h7
              refine XL_skip 32 rfl rfl rfl rfl rfl ?_
              refine XL_skip 32 rfl rfl rfl rfl rfl ?_
              refine XL_skip 32 rfl rfl rfl rfl rfl ?_
              refine XL_skip 32 rfl rfl rfl rfl rfl ?_
              refine XL_det .no (D_pure rfl) rfl ?_
              refine XL_then ?_
              refine X_cond_f rfl rfl ?_
              refine X_exit ?_
              refine thenX_exit ?_
              refine loopQ_exit ?_
              refine inBlk_here ?_
              refine thenX_normal ?_
              refine X_region ?_
              refine XL_det .no (D_pure rfl) rfl ?_
              refine XL_det .no (D_pure rfl) rfl ?_
              refine XL_det .no (D_pure rfl) rfl ?_
              refine XL_det .no (D_pure rfl) rfl ?_
              refine XL_det .no (D_sslice (lo := i) (hi := e) (p := (s.drop i).take (e - i)) rfl us_9 ⟨_, rfl⟩ ⟨_, rfl⟩ (by omega) (by omega) rfl) rfl ?_
              refine XL_bslice (cs := encS ((s.drop i).take (e - i))) .no rfl slt_71 (by decide) (by decide) (by rfl) (by rfl) rfl rfl (fun b4 => ?_)
              refine XL_app1 (enc := encS) (c := a) (y := ((s.drop i).take (e - i))) (K := _) .no rfl rfl slt_71 (by repeat first | with_reducible exact .here _ _ | with_reducible apply Out.there | with_reducible apply Out.app) (by repeat first | with_reducible exact .here _ _ | with_reducible apply Out.there | with_reducible apply Out.app) (Rd_blk0) rfl rfl (by omega) (by omega) rfl (fun a2 ha2 ha2o => ?_)
              refine XL_det .no (D_pure rfl) rfl ?_
              refine XL_nil ?_
              refine inBlk_normal ?_
              refine thenX_normal ?_
              refine X_region ?_
              refine XL_det .no (D_pure rfl) rfl ?_
              refine XL_det .no (D_add rfl rfl (by omega) (by omega)) rfl ?_
              refine XL_det .no (D_pure rfl) rfl ?_
              refine XL_nil ?_
              refine loopQ_next (i + 1, a2) ?_ ?_ ?_ ?_
              · (try dsimp only); exact ⟨by omega, by rw [ha, rest_out hb hbn hins hne hie (.inl (List.getElem?_eq_none (by omega))), ha2, List.append_assoc]; rfl, ha2o, by rw [ha2]; simp; omega⟩
              · (try dsimp only); omega
              · refine ⟨?_, ?_, ?_, trivial⟩ <;> rfl
              · (try dsimp only); exact ⟨_, (by repeat first | with_reducible exact .nil _ | with_reducible exact .here _ _ | with_reducible exact Take.self _ | with_reducible apply Take.cons | with_reducible apply Out.there | with_reducible apply Take.skip | with_reducible exact Take.pre _ _ | with_reducible apply Out.app)⟩
    · try simp only [decide_eq_true_eq, decide_eq_false_iff_not, Bool.not_eq_true', Bool.not_eq_false', beq_iff_eq, bne_iff_ne, beq_eq_false_iff_ne, bne_eq_false_iff_eq, Int.not_lt, Int.not_le, gt_iff_lt, ge_iff_le, ne_eq] at h1
      refine X_exit ?_
      refine thenX_exit ?_
      refine loopQ_exit ?_
      refine inBlk_here ?_
      refine thenX_normal ?_
      refine X_seq ?_
      refine X_region ?_
      refine XL_det .no (D_pure rfl) rfl ?_
      refine XL_det .no (D_pure rfl) rfl ?_
      refine XL_then ?_
      refine X_ret ?_
      refine ret_ok (.nil _) (res_tmp rfl rfl) ?_
      obtain rfl : i = s.length := by omega
      rw [rest_len, List.append_nil] at ha
      exact ⟨[row (.slice a.oad a.l.length a.c) 9 1 a.l.length (a.l.flatMap encS)], ⟨a, ⟨ha.symm, hao⟩, rfl, rfl⟩, _, (by repeat first | with_reducible exact .nil _ | with_reducible exact .here _ _ | with_reducible exact Take.self _ | with_reducible apply Take.cons | with_reducible apply Out.there | with_reducible apply Take.skip | with_reducible exact Take.pre _ _ | with_reducible apply Out.app)⟩

end Go.Proofs.Ytjcpggoodbkedaa
end

section
namespace Go.Proofs.Ytjcpggoodbkedaa
open Go Go.Sl
set_option linter.unusedVariables false
set_option linter.unusedSimpArgs false
set_option maxRecDepth 4000
variable {B : Nat} {K : Asrt B}
theorem en_44 : Go.Proofs.Enters Try.prog 44 := Go.Proofs.enters_of Try.func44 (by kernel_rfl) rfl
theorem en_45 : Go.Proofs.Enters Try.prog 45 := Go.Proofs.enters_of Try.func45 (by kernel_rfl) rfl
theorem en_46 : Go.Proofs.Enters Try.prog 46 := Go.Proofs.enters_of Try.func46 (by kernel_rfl) rfl
theorem en_58 : Go.Proofs.Enters Try.prog 58 := Go.Proofs.enters_of Try.func58 (by kernel_rfl) rfl
theorem tk_4 : tyK Try.prog 4 = some (false, 1) := by kernel_rfl
theorem zero_3 : zeroOf Try.prog 3 = some [.int .i64 0] := by kernel_rfl
theorem zero_4 : zeroOf Try.prog 4 = some [.bool false] := by kernel_rfl
theorem zk_36 : (match Try.prog.underlying 36 with | some (.struct _) => (bldOf Try.prog 36).isSome | some (.array _ e) => (Try.prog.info? e).isSome | _ => false) = true := by kernel_rfl

def partE (p : List (List UInt8)) (i : Nat) : Ev := ⟨if 0 < i then vint (p.getD 0 []) else 0, if 1 < i then kindS (p.getD 1 []) else 0, if 2 < i then vint (p.getD 2 []) else 0, if 3 < i then vint (p.getD 3 []) else 0⟩
def okTo (p : List (List UInt8)) (i : Nat) : Prop := ∀ j, j < i → j ≠ 1 → okN (p.getD j [])
def rdSpec (p : List (List UInt8)) (x : Ev) (b : Bool) : Prop := (b = true → readP p = some x) ∧ (b = false → readP p = none)
theorem rdN_0 {q : List UInt8} (h : (rdN q).2 = 0) : okN q ∧ (rdN q).1 = vint q := by
  by_cases hq : okN q
  · exact ⟨hq, by rw [rdN_t hq]⟩
  · rw [rdN_f hq] at h; cases h
theorem rdN_n {q : List UInt8} (h : (rdN q).2 ≠ 0) : ¬ okN q := fun hq => h (by rw [rdN_t hq])
theorem getD_of {p : List (List UInt8)} {i : Nat} {q : List UInt8} (h : p[i]? = some q) : p.getD i [] = q := by simp [List.getD, h]
theorem okTo_s {p : List (List UInt8)} {i : Nat} {q : List UInt8} (h : p[i]? = some q) (ho : okTo p i) (hq : i ≠ 1 → okN q) : okTo p (i + 1) := by
  intro j hj h1
  rcases Nat.lt_succ_iff_lt_or_eq.1 hj with h2 | rfl
  · exact ho j h2 h1
  · rw [getD_of h]; exact hq h1
theorem okTo_n {p : List (List UInt8)} {i : Nat} {q : List UInt8} (h : p[i]? = some q) (h1 : i ≠ 1) (hq : ¬ okN q) : ¬ okTo p (i + 1) := fun ho => hq (by rw [← getD_of h]; exact ho i (by omega) h1)
theorem part_1 {p : List (List UInt8)} {q : List UInt8} (h : p[0]? = some q) : partE p 1 = ⟨vint q, (partE p 0).kind, (partE p 0).a, (partE p 0).b⟩ := by unfold partE; rw [getD_of h]; rfl
theorem part_2 {p : List (List UInt8)} {q : List UInt8} (h : p[1]? = some q) : partE p 2 = ⟨(partE p 1).tick, kindS q, (partE p 1).a, (partE p 1).b⟩ := by unfold partE; rw [getD_of h]; rfl
theorem part_3 {p : List (List UInt8)} {q : List UInt8} (h : p[2]? = some q) : partE p 3 = ⟨(partE p 2).tick, (partE p 2).kind, vint q, (partE p 2).b⟩ := by unfold partE; rw [getD_of h]; rfl
theorem part_4 {p : List (List UInt8)} {q : List UInt8} (h : p[3]? = some q) : partE p 4 = ⟨(partE p 3).tick, (partE p 3).kind, (partE p 3).a, vint q⟩ := by unfold partE; rw [getD_of h]; rfl
theorem part_set {p : List (List UInt8)} {i : Nat} {q : List UInt8} {m : Int} (h : p[i]? = some q) (hi : i < 4) (hm : m = if i = 1 then kindS q else vint q) : (encE (partE p i)).set (0 + i * 1) (.int .i64 m) = encE (partE p (i + 1)) := by
  subst hm
  have : i = 0 ∨ i = 1 ∨ i = 2 ∨ i = 3 := by omega
  rcases this with rfl | rfl | rfl | rfl
  · rw [part_1 h]; rfl
  · rw [part_2 h]; rfl
  · rw [part_3 h]; rfl
  · rw [part_4 h]; rfl
theorem readP_some {p : List (List UInt8)} {e : Ev} (h : readP p = some e) : p.length = 4 ∧ okTo p 4 ∧ kindS (p.getD 1 []) ≠ 0 := by
  match p, h with
  | [a, b, c, d], h =>
    by_cases hc : okN a ∧ kindS b ≠ 0 ∧ okN c ∧ okN d
    · refine ⟨rfl, fun j hj h1 => ?_, hc.2.1⟩
      have : j = 0 ∨ j = 2 ∨ j = 3 := by omega
      rcases this with rfl | rfl | rfl
      · exact hc.1
      · exact hc.2.2.1
      · exact hc.2.2.2
    · rw [readP_f hc] at h; cases h
  | [], h => cases h
  | [_], h => cases h
  | [_, _], h => cases h
  | [_, _, _], h => cases h
  | _ :: _ :: _ :: _ :: _ :: _, h => cases h
theorem opt_none {α : Type} {o : Option α} (h : ∀ e, o ≠ some e) : o = none := by
  cases o with
  | none => rfl
  | some e => exact absurd rfl (h e)
theorem readP_none {p : List (List UInt8)} {i : Nat} (hi : i < p.length) (h : 3 < i ∨ ¬ okTo p (i + 1) ∨ (i = 1 ∧ kindS (p.getD 1 []) = 0)) : readP p = none := by
  apply opt_none
  intro e he
  obtain ⟨h1, h2, h3⟩ := readP_some he
  rcases h with h | h | h
  · omega
  · exact h fun j hj => h2 j (by omega)
  · exact h3 h.2
theorem readP_len {p : List (List UInt8)} (h : p.length ≠ 4 ∨ kindS (p.getD 1 []) = 0) : readP p = none := by
  apply opt_none
  intro e he
  obtain ⟨h1, _, h3⟩ := readP_some he
  rcases h with h | h
  · exact h h1
  · exact h3 h
theorem readP_part {p : List (List UInt8)} (hl : p.length = 4) (ho : okTo p 4) (hk : kindS (p.getD 1 []) ≠ 0) : readP p = some (partE p 4) := by
  match p, hl with
  | [a, b, c, d], _ => exact readP_t (a := a) (b := b) (c := c) (d := d) ⟨ho 0 (by decide) (by decide), hk, ho 2 (by decide) (by decide), ho 3 (by decide) (by decide)⟩
theorem rd_no {p : List (List UInt8)} {x : Ev} (h : readP p = none) : rdSpec p x false := ⟨fun h => (by cases h), fun _ => h⟩
theorem part_kind {p : List (List UInt8)} {i : Nat} (h : 1 < i) : (partE p i).kind = kindS (p.getD 1 []) := if_pos h
theorem rd_fin {p : List (List UInt8)} (hok : okTo p p.length) (h4 : (p.length : Int) = 4) : rdSpec p (partE p p.length) ((partE p p.length).kind != 0) := by
  have hl : p.length = 4 := by omega
  have hk := part_kind (p := p) (i := p.length) (by omega)
  refine ⟨fun hb => ?_, fun hb => ?_⟩
  · rw [readP_part hl (hl ▸ hok) (by rw [← hk]; simpa using hb), hl]
  · exact readP_len (.inr (by rw [← hk]; simpa using hb))
/-- What the document's inner loop finds: the kind of a word, where it is one. -/
noncomputable def kq (q : List UInt8) (k : Int) : Int × Int := if 0 < kindS q ∧ kindS q < k then (kindS q, 0) else rdN q
theorem kq_1 (q : List UInt8) : kq q 1 = rdN q := if_neg (by omega)
theorem kq_t {q : List UInt8} {k : Int} (h1 : 1 ≤ k) (h2 : k ≤ 10) (h : wordK k = q) : kq q (k + 1) = (k, 0) := by
  have := (word_iff h1 h2).1 h
  unfold kq; rw [if_pos (by omega), this]
theorem kq_f {q : List UInt8} {k : Int} (h1 : 1 ≤ k) (h2 : k ≤ 10) (h : ¬ wordK k = q) : kq q (k + 1) = kq q k := by
  have : kindS q ≠ k := fun e => h ((word_iff h1 h2).2 e)
  unfold kq
  by_cases hc : 0 < kindS q ∧ kindS q < k
  · rw [if_pos hc, if_pos (by omega)]
  · rw [if_neg hc, if_neg (by omega)]
theorem kq_bad {q : List UInt8} (h : (kq q 11).2 ≠ 0) : kindS q = 0 := by
  have hr := kind_rng q
  apply Classical.byContradiction; intro hk
  exact h (by unfold kq; rw [if_pos (by omega)])
theorem kq_word {q : List UInt8} (h : ¬ wordK (kq q 11).1 = q) : kindS q = 0 := by
  have hr := kind_rng q
  apply Classical.byContradiction; intro hk
  exact h (by unfold kq; rw [if_pos (by omega)]; exact word_kind hk)
theorem kq_good {q : List UInt8} (h0 : (kq q 11).2 = 0) (h : wordK (kq q 11).1 = q) : (kq q 11).1 = kindS q ∧ kindS q ≠ 0 := by
  have hr := kind_rng q
  by_cases hk : kindS q = 0
  · exfalso
    have e : kq q 11 = rdN q := if_neg (by omega)
    rw [e] at h0 h
    have hq := (rdN_0 h0).1
    have hne : q ≠ [] := fun e => by have := hq.len.1; rw [e] at this; simp at this
    by_cases hc : 1 ≤ (rdN q).1 ∧ (rdN q).1 ≤ 10
    · have := (word_iff hc.1 hc.2).1 h; omega
    · rw [word_out hc] at h; exact hne h.symm
  · exact ⟨by unfold kq; rw [if_pos (by omega)], hk⟩

theorem tRead (s : List UInt8) (hs : s.length ≤ 5000000) : Ctr Try.prog B 22 [str s] [] (fun v S => ∃ x b, v = .tuple #[.agg (encE x).toArray, .bool b] ∧ S = [] ∧ rdSpec (pieces s) x b) := by
  refine Ctr_of_X (N := 58) Try.func22 rfl (by simp) rfl ?_
  intro w0 D0
  refine X_seq ?_
  refine X_region ?_
  refine XL_alloc .no zero_36 rfl (fun b1 => ?_)
  refine XL_alloc .no zero_4 rfl (fun b2 => ?_)
  refine XL_then ?_
  refine X_seq ?_
  refine X_region ?_
  refine XL_det .no (D_zero zero_36 zk_36) rfl ?_
  refine XL_alloc .no zero_36 rfl (fun b3 => ?_)
  refine XL_alloc .no zero_3 rfl (fun b4 => ?_)
  refine XL_efd .no (F_stw rfl rfl rfl (by repeat first | with_reducible exact .here _ _ | with_reducible apply Out.there | with_reducible apply Out.app) tk_36 rfl rfl) ?_
  refine XL_efd .no (F_stl rfl rfl rfl (by repeat first | with_reducible exact .here _ _ | with_reducible apply Out.there | with_reducible apply Out.app) tk_3 (by repeat first | exact .zero _ _ _ | apply SetL.succ)) ?_
  refine XL_then ?_
  refine X_seq ?_
  refine X_seq ?_
  refine X_region ?_
  refine XL_det .no (D_pure rfl) rfl ?_
  refine XL_call .no en_44 rfl (dpieces s) (by repeat first | with_reducible exact .nil _ | with_reducible exact .here _ _ | with_reducible exact Take.self _ | with_reducible apply Take.cons | with_reducible apply Out.there | with_reducible apply Take.skip | with_reducible exact Take.pre _ _ | with_reducible apply Out.app) rfl ?_
  rintro _ _ ⟨bs, rfl, rfl⟩
  simp only [List.cons_append, List.nil_append]
  refine XL_then ?_
  refine X_block ?_
  refine X_range (own := [blk bs [str s] 9]) (S1 := [blk b3 (encE zE) 36, blk b4 [.int .i64 0] 3, blk b1 (encE zE) 36, blk b2 [.bool false] 4]) rfl en_58 (dpItr bs s hs) (fun i S => i ≤ 4 ∧ okTo (pieces s) i ∧ S = [blk b3 (encE (partE (pieces s) i)) 36, blk b4 [.int .i64 (i : Int)] 3, blk b1 (encE zE) 36, blk b2 [.bool false] 4]) (fun c i S => c = .ret ∧ readP (pieces s) = none ∧ ∃ x m, S = [blk b3 (encE x) 36, blk b4 [.int .i64 m] 3, blk b1 (encE zE) 36, blk b2 [.bool false] 4]) (show Take ([blk bs [str s] 9, blk b3 (encE zE) 36, blk b4 [.int .i64 0] 3, blk b1 (encE zE) 36, blk b2 [.bool false] 4]) _ _ from (by repeat first | with_reducible exact .nil _ | with_reducible exact .here _ _ | with_reducible exact Take.self _ | with_reducible apply Take.cons | with_reducible apply Out.there | with_reducible apply Take.skip | with_reducible exact Take.pre _ _ | with_reducible apply Out.app)) (⟨by decide, fun j h => by omega, rfl⟩) rfl (fun x hx => by obtain ⟨y, _, rfl⟩ := List.mem_map.1 hx; rfl) ?_ ?_ ?_
  · intro ly rec A2 i S2 hi hJ
    obtain ⟨hi4, hok, rfl⟩ := hJ
    rw [pcL_len] at hi
    obtain ⟨q, hq⟩ : ∃ p, (pieces s)[i]? = some p := ⟨_, List.getElem?_eq_getElem hi⟩
    rw [pcL_get hq]
    refine X_seq ?_
    refine X_region ?_
    refine XL_det .no (D_pure rfl) rfl ?_
    refine XL_then ?_
    refine X_region ?_
    refine XL_det .no (D_pure rfl) rfl ?_
    refine XL_nil ?_
    refine ⟨rfl, _, _, .cons (by repeat first | with_reducible exact .here _ _ | with_reducible apply Out.there | with_reducible apply Out.app) (Take.self _), fun rec2 => ?_⟩
    refine X_block ?_
    refine X_seq ?_
    refine X_region ?_
    refine XL_det .no (D_pure rfl) rfl ?_
    refine XL_callv .no en_45 rfl (dread q) rfl ?_
    refine XL_det .no (D_pure rfl) rfl ?_
    refine XL_det .no (D_pure (v := .int .i64 (rdN q).1) rfl) rfl ?_
    refine XL_det .no (D_pure (v := .int .i64 (rdN q).2) rfl) rfl ?_
    refine XL_det .no (D_pure rfl) rfl ?_
    refine XL_det .no (D_pure rfl) rfl ?_
    refine XL_then ?_
    refine X_seqj (α := Ev × Int) (fun z => (z.2 = 0 → i ≤ 3 → z.1 = partE (pieces s) (i + 1) ∧ okTo (pieces s) (i + 1)) ∧ (z.2 ≠ 0 → ¬ okTo (pieces s) (i + 1))) (fun z => [(9, .int .i64 z.2), (2, .pointer (some ⟨b1, 0, none⟩)), (3, .pointer (some ⟨b2, 0, none⟩)), (4, .pointer (some ⟨b3, 0, none⟩)), (5, .pointer (some ⟨b4, 0, none⟩)), (6, .int .i64 (i : Int))]) (fun z => [obj ly (.loop rec2), blk b3 (encE z.1) 36, blk b4 [.int .i64 (i : Int)] 3, blk b1 (encE zE) 36, blk b2 [.bool false] 4]) ?_ ?_
    · skip
      refine X_block ?_
      refine X_seq ?_
      refine X_region ?_
      refine XL_det .no (D_pure rfl) rfl ?_
      refine XL_det .no (D_pure rfl) rfl ?_
      refine XL_det .no (D_pure rfl) rfl ?_
      refine XL_then ?_
      refine X_cond rfl (fun h1 => ?_) (fun h1 => ?_)
      · try simp only [decide_eq_true_eq, decide_eq_false_iff_not, Bool.not_eq_true', Bool.not_eq_false', beq_iff_eq, bne_iff_ne, beq_eq_false_iff_ne, bne_eq_false_iff_eq, Int.not_lt, Int.not_le, gt_iff_lt, ge_iff_le, ne_eq] at h1
        refine X_region ?_
        refine XL_det .no (D_pure rfl) rfl ?_
        refine XL_callv .no en_46 rfl (tkind q) rfl ?_
        refine XL_det .no (D_fld rfl fld_36_1 (o' := 1) rfl) rfl ?_
        refine XL_efd .no (F_stl rfl rfl rfl (by repeat first | with_reducible exact .here _ _ | with_reducible apply Out.there | with_reducible apply Out.app) tk_34 (by repeat first | exact .zero _ _ _ | apply SetL.succ)) ?_
        refine XL_det .no (D_pure rfl) rfl ?_
        refine XL_nil ?_
        refine inBlk_normal ?_
        refine joinQ_normal (⟨(partE (pieces s) i).tick, kindS q, (partE (pieces s) i).a, (partE (pieces s) i).b⟩, 0) ?_ ?_ ?_
        · exact ⟨fun _ _ => ⟨(by have hi1 : i = 1 := (by omega); subst hi1; rw [part_2 hq]), okTo_s hq hok (fun h => absurd (by omega) h)⟩, fun h => absurd rfl h⟩
        · refine ⟨?_, ?_, ?_, ?_, ?_, ?_, trivial⟩ <;> rfl
        · exact ⟨_, (by repeat first | with_reducible exact .nil _ | with_reducible exact .here _ _ | with_reducible exact Take.self _ | with_reducible apply Take.cons | with_reducible apply Out.there | with_reducible apply Take.skip | with_reducible exact Take.pre _ _ | with_reducible apply Out.app)⟩
      · try simp only [decide_eq_true_eq, decide_eq_false_iff_not, Bool.not_eq_true', Bool.not_eq_false', beq_iff_eq, bne_iff_ne, beq_eq_false_iff_ne, bne_eq_false_iff_eq, Int.not_lt, Int.not_le, gt_iff_lt, ge_iff_le, ne_eq] at h1
        refine X_seq ?_
        refine X_region ?_
        refine XL_det .no (D_pure rfl) rfl ?_
        refine XL_det .no (D_pure rfl) rfl ?_
        refine XL_det .no (D_pure rfl) rfl ?_
        refine XL_then ?_
        refine X_cond rfl (fun h2 => ?_) (fun h2 => ?_)
        · try simp only [decide_eq_true_eq, decide_eq_false_iff_not, Bool.not_eq_true', Bool.not_eq_false', beq_iff_eq, bne_iff_ne, beq_eq_false_iff_ne, bne_eq_false_iff_eq, Int.not_lt, Int.not_le, gt_iff_lt, ge_iff_le, ne_eq] at h2
          refine X_region ?_
          refine XL_det .no (D_pure rfl) rfl ?_
          refine XL_det .no (D_fld rfl fld_36_0 (o' := 0) rfl) rfl ?_
          refine XL_efd .no (F_stl rfl rfl rfl (by repeat first | with_reducible exact .here _ _ | with_reducible apply Out.there | with_reducible apply Out.app) tk_3 (by repeat first | exact .zero _ _ _ | apply SetL.succ)) ?_
          refine XL_nil ?_
          refine inBlk_normal ?_
          refine joinQ_normal (⟨(rdN q).1, (partE (pieces s) i).kind, (partE (pieces s) i).a, (partE (pieces s) i).b⟩, (rdN q).2) ?_ ?_ ?_
          · exact ⟨fun h _ => ⟨(by have hi1 : i = 0 := (by omega); subst hi1; rw [part_1 hq, ← (rdN_0 h).2]), okTo_s hq hok fun _ => (rdN_0 h).1⟩, fun h => okTo_n hq (by omega) (rdN_n h)⟩
          · refine ⟨?_, ?_, ?_, ?_, ?_, ?_, trivial⟩ <;> rfl
          · exact ⟨_, (by repeat first | with_reducible exact .nil _ | with_reducible exact .here _ _ | with_reducible exact Take.self _ | with_reducible apply Take.cons | with_reducible apply Out.there | with_reducible apply Take.skip | with_reducible exact Take.pre _ _ | with_reducible apply Out.app)⟩
        · try simp only [decide_eq_true_eq, decide_eq_false_iff_not, Bool.not_eq_true', Bool.not_eq_false', beq_iff_eq, bne_iff_ne, beq_eq_false_iff_ne, bne_eq_false_iff_eq, Int.not_lt, Int.not_le, gt_iff_lt, ge_iff_le, ne_eq] at h2
          refine X_seq ?_
          refine X_region ?_
          refine XL_det .no (D_pure rfl) rfl ?_
          refine XL_det .no (D_pure rfl) rfl ?_
          refine XL_det .no (D_pure rfl) rfl ?_
          refine XL_then ?_
          refine X_cond rfl (fun h3 => ?_) (fun h3 => ?_)
          · try simp only [decide_eq_true_eq, decide_eq_false_iff_not, Bool.not_eq_true', Bool.not_eq_false', beq_iff_eq, bne_iff_ne, beq_eq_false_iff_ne, bne_eq_false_iff_eq, Int.not_lt, Int.not_le, gt_iff_lt, ge_iff_le, ne_eq] at h3
            refine X_region ?_
            refine XL_det .no (D_pure rfl) rfl ?_
            refine XL_det .no (D_fld rfl fld_36_2 (o' := 2) rfl) rfl ?_
            refine XL_efd .no (F_stl rfl rfl rfl (by repeat first | with_reducible exact .here _ _ | with_reducible apply Out.there | with_reducible apply Out.app) tk_3 (by repeat first | exact .zero _ _ _ | apply SetL.succ)) ?_
            refine XL_nil ?_
            refine inBlk_normal ?_
            refine joinQ_normal (⟨(partE (pieces s) i).tick, (partE (pieces s) i).kind, (rdN q).1, (partE (pieces s) i).b⟩, (rdN q).2) ?_ ?_ ?_
            · exact ⟨fun h _ => ⟨(by have hi1 : i = 2 := (by omega); subst hi1; rw [part_3 hq, ← (rdN_0 h).2]), okTo_s hq hok fun _ => (rdN_0 h).1⟩, fun h => okTo_n hq (by omega) (rdN_n h)⟩
            · refine ⟨?_, ?_, ?_, ?_, ?_, ?_, trivial⟩ <;> rfl
            · exact ⟨_, (by repeat first | with_reducible exact .nil _ | with_reducible exact .here _ _ | with_reducible exact Take.self _ | with_reducible apply Take.cons | with_reducible apply Out.there | with_reducible apply Take.skip | with_reducible exact Take.pre _ _ | with_reducible apply Out.app)⟩
          · try simp only [decide_eq_true_eq, decide_eq_false_iff_not, Bool.not_eq_true', Bool.not_eq_false', beq_iff_eq, bne_iff_ne, beq_eq_false_iff_ne, bne_eq_false_iff_eq, Int.not_lt, Int.not_le, gt_iff_lt, ge_iff_le, ne_eq] at h3
            refine X_seq ?_
            refine X_region ?_
            refine XL_det .no (D_pure rfl) rfl ?_
            refine XL_det .no (D_pure rfl) rfl ?_
            refine XL_det .no (D_pure rfl) rfl ?_
            refine XL_then ?_
            refine X_cond rfl (fun h4 => ?_) (fun h4 => ?_)
            · try simp only [decide_eq_true_eq, decide_eq_false_iff_not, Bool.not_eq_true', Bool.not_eq_false', beq_iff_eq, bne_iff_ne, beq_eq_false_iff_ne, bne_eq_false_iff_eq, Int.not_lt, Int.not_le, gt_iff_lt, ge_iff_le, ne_eq] at h4
              refine X_region ?_
              refine XL_det .no (D_pure rfl) rfl ?_
              refine XL_det .no (D_fld rfl fld_36_3 (o' := 3) rfl) rfl ?_
              refine XL_efd .no (F_stl rfl rfl rfl (by repeat first | with_reducible exact .here _ _ | with_reducible apply Out.there | with_reducible apply Out.app) tk_3 (by repeat first | exact .zero _ _ _ | apply SetL.succ)) ?_
              refine XL_nil ?_
              refine inBlk_normal ?_
              refine joinQ_normal (⟨(partE (pieces s) i).tick, (partE (pieces s) i).kind, (partE (pieces s) i).a, (rdN q).1⟩, (rdN q).2) ?_ ?_ ?_
              · exact ⟨fun h _ => ⟨(by have hi1 : i = 3 := (by omega); subst hi1; rw [part_4 hq, ← (rdN_0 h).2]), okTo_s hq hok fun _ => (rdN_0 h).1⟩, fun h => okTo_n hq (by omega) (rdN_n h)⟩
              · refine ⟨?_, ?_, ?_, ?_, ?_, ?_, trivial⟩ <;> rfl
              · exact ⟨_, (by repeat first | with_reducible exact .nil _ | with_reducible exact .here _ _ | with_reducible exact Take.self _ | with_reducible apply Take.cons | with_reducible apply Out.there | with_reducible apply Take.skip | with_reducible exact Take.pre _ _ | with_reducible apply Out.app)⟩
            · try simp only [decide_eq_true_eq, decide_eq_false_iff_not, Bool.not_eq_true', Bool.not_eq_false', beq_iff_eq, bne_iff_ne, beq_eq_false_iff_ne, bne_eq_false_iff_eq, Int.not_lt, Int.not_le, gt_iff_lt, ge_iff_le, ne_eq] at h4
              refine X_skip ?_
              refine inBlk_normal ?_
              refine joinQ_normal ((partE (pieces s) i), (rdN q).2) ?_ ?_ ?_
              · exact ⟨fun _ h => by omega, fun h => okTo_n hq (by omega) (rdN_n h)⟩
              · refine ⟨?_, ?_, ?_, ?_, ?_, ?_, trivial⟩ <;> rfl
              · exact ⟨_, (by repeat first | with_reducible exact .nil _ | with_reducible exact .here _ _ | with_reducible exact Take.self _ | with_reducible apply Take.cons | with_reducible apply Out.there | with_reducible apply Take.skip | with_reducible exact Take.pre _ _ | with_reducible apply Out.app)⟩
    · rintro ⟨x2, er⟩ ⟨hz1, hz2⟩
      refine X_seq ?_
      refine X_seq ?_
      refine X_region ?_
      refine XL_det .no (D_pure rfl) rfl ?_
      refine XL_det .no (D_pure rfl) rfl ?_
      refine XL_det .no (D_pure rfl) rfl ?_
      refine XL_split (t := 43) rfl (fun h5 => ?_) (fun h5 => ?_)
      · try simp only [decide_eq_true_eq, decide_eq_false_iff_not, Bool.not_eq_true', Bool.not_eq_false', beq_iff_eq, bne_iff_ne, beq_eq_false_iff_ne, bne_eq_false_iff_eq, Int.not_lt, Int.not_le, gt_iff_lt, ge_iff_le, ne_eq] at h5
        refine XL_skip 43 rfl rfl rfl rfl rfl ?_
        refine XL_skip 43 rfl rfl rfl rfl rfl ?_
        refine XL_det .no (D_pure rfl) rfl ?_
        refine XL_then ?_
        refine X_cond_t rfl rfl ?_
        refine X_seq ?_
        refine X_region ?_
        refine XL_det .no (D_zero zero_36 zk_36) rfl ?_
        refine XL_efd .no (F_stw rfl rfl rfl (by repeat first | with_reducible exact .here _ _ | with_reducible apply Out.there | with_reducible apply Out.app) tk_36 rfl rfl) ?_
        refine XL_efd .no (F_stl rfl rfl rfl (by repeat first | with_reducible exact .here _ _ | with_reducible apply Out.there | with_reducible apply Out.app) tk_4 (by repeat first | exact .zero _ _ _ | apply SetL.succ)) ?_
        refine XL_then ?_
        refine X_ret ?_
        refine thenX_ret ?_
        refine inBlk_ret ?_
        exact ⟨[blk b3 (encE x2) 36, blk b4 [.int .i64 (i : Int)] 3, blk b1 (encE zE) 36, blk b2 [.bool false] 4], _, (by repeat first | with_reducible exact .nil _ | with_reducible exact .here _ _ | with_reducible exact Take.self _ | with_reducible apply Take.cons | with_reducible apply Out.there | with_reducible apply Take.skip | with_reducible exact Take.pre _ _ | with_reducible apply Out.app), ⟨rfl, readP_none hi (by first | exact .inl (by omega) | exact .inr (.inl (hz2 (by assumption)))), _, _, rfl⟩⟩
      · try simp only [decide_eq_true_eq, decide_eq_false_iff_not, Bool.not_eq_true', Bool.not_eq_false', beq_iff_eq, bne_iff_ne, beq_eq_false_iff_ne, bne_eq_false_iff_eq, Int.not_lt, Int.not_le, gt_iff_lt, ge_iff_le, ne_eq] at h5
        refine XL_det (.yes 43 rfl rfl rfl) (D_pure rfl) rfl ?_
        refine XL_det (.yes 43 rfl rfl rfl) (D_pure rfl) rfl ?_
        refine XL_det .no (D_pure rfl) rfl ?_
        refine XL_then ?_
        refine X_cond rfl (fun h6 => ?_) (fun h6 => ?_)
        · try simp only [decide_eq_true_eq, decide_eq_false_iff_not, Bool.not_eq_true', Bool.not_eq_false', beq_iff_eq, bne_iff_ne, beq_eq_false_iff_ne, bne_eq_false_iff_eq, Int.not_lt, Int.not_le, gt_iff_lt, ge_iff_le, ne_eq] at h6
          refine X_seq ?_
          refine X_region ?_
          refine XL_det .no (D_zero zero_36 zk_36) rfl ?_
          refine XL_efd .no (F_stw rfl rfl rfl (by repeat first | with_reducible exact .here _ _ | with_reducible apply Out.there | with_reducible apply Out.app) tk_36 rfl rfl) ?_
          refine XL_efd .no (F_stl rfl rfl rfl (by repeat first | with_reducible exact .here _ _ | with_reducible apply Out.there | with_reducible apply Out.app) tk_4 (by repeat first | exact .zero _ _ _ | apply SetL.succ)) ?_
          refine XL_then ?_
          refine X_ret ?_
          refine thenX_ret ?_
          refine inBlk_ret ?_
          exact ⟨[blk b3 (encE x2) 36, blk b4 [.int .i64 (i : Int)] 3, blk b1 (encE zE) 36, blk b2 [.bool false] 4], _, (by repeat first | with_reducible exact .nil _ | with_reducible exact .here _ _ | with_reducible exact Take.self _ | with_reducible apply Take.cons | with_reducible apply Out.there | with_reducible apply Take.skip | with_reducible exact Take.pre _ _ | with_reducible apply Out.app), ⟨rfl, readP_none hi (by first | exact .inl (by omega) | exact .inr (.inl (hz2 (by assumption)))), _, _, rfl⟩⟩
        · try simp only [decide_eq_true_eq, decide_eq_false_iff_not, Bool.not_eq_true', Bool.not_eq_false', beq_iff_eq, bne_iff_ne, beq_eq_false_iff_ne, bne_eq_false_iff_eq, Int.not_lt, Int.not_le, gt_iff_lt, ge_iff_le, ne_eq] at h6
          refine X_skip ?_
          refine thenX_normal ?_
          refine X_region ?_
          refine XL_det .no (D_ldo rfl (by repeat first | with_reducible exact .here _ _ | with_reducible apply Out.there | with_reducible apply Out.app) tk_3 (by rfl)) rfl ?_
          refine XL_det .no (D_add rfl rfl (by omega) (by omega)) rfl ?_
          refine XL_efd .no (F_stl rfl rfl rfl (by repeat first | with_reducible exact .here _ _ | with_reducible apply Out.there | with_reducible apply Out.app) tk_3 (by repeat first | exact .zero _ _ _ | apply SetL.succ)) ?_
          refine XL_nil ?_
          refine inBlk_normal ?_
          obtain ⟨hx, hok2⟩ := hz1 (by assumption) (by omega)
          subst hx
          exact ⟨[blk b3 (encE (partE (pieces s) (i + 1))) 36, blk b4 [.int .i64 ((i : Int) + 1)] 3, blk b1 (encE zE) 36, blk b2 [.bool false] 4], _, (by repeat first | with_reducible exact .nil _ | with_reducible exact .here _ _ | with_reducible exact Take.self _ | with_reducible apply Take.cons | with_reducible apply Out.there | with_reducible apply Take.skip | with_reducible exact Take.pre _ _ | with_reducible apply Out.app), ⟨by omega, hok2, rfl⟩⟩
  · intro dd0 S2 hJ
    obtain ⟨hi4, hok, rfl⟩ := hJ
    simp only [pcL_len] at hi4 hok ⊢
    simp only [List.cons_append, List.nil_append]
    refine inBlk_normal ?_
    refine thenX_normal ?_
    refine X_seq ?_
    refine X_draw _ mixed (Take.self _) ?_
    refine XA_det 0 rfl (by kernel_rfl) (by kernel_rfl) (by kernel_rfl) (by kernel_rfl) (fun _ _ _ _ h => h) .no (D_ldso rfl (by repeat first | with_reducible exact .here _ _ | with_reducible apply Out.there | with_reducible apply Out.app) tk_36 rfl (by rfl)) rfl ?_
    refine XA_det 1 rfl (by kernel_rfl) (by kernel_rfl) (by kernel_rfl) (by kernel_rfl) (fun _ _ _ _ h => h) .no (D_ldo rfl (by repeat first | with_reducible exact .here _ _ | with_reducible apply Out.there | with_reducible apply Out.app) tk_3 (by rfl)) rfl ?_
    refine XA_detp 2 rfl (by kernel_rfl) (by kernel_rfl) (by kernel_rfl) (fun _ _ _ _ h => h) .no (D_pureP rfl) rfl ?_
    refine XA_detp 3 rfl (by kernel_rfl) (by kernel_rfl) (by kernel_rfl) (fun _ _ _ _ h => h) .no (D_pureP rfl) rfl ?_
    refine XA_split (t := 53) rfl (fun h7 => ?_) (fun h7 => ?_)
    · try simp only [decide_eq_true_eq, decide_eq_false_iff_not, Bool.not_eq_true', Bool.not_eq_false', beq_iff_eq, bne_iff_ne, beq_eq_false_iff_ne, bne_eq_false_iff_eq, Int.not_lt, Int.not_le, gt_iff_lt, ge_iff_le, ne_eq] at h7
      refine XA_detp 4 rfl (by kernel_rfl) (by kernel_rfl) (by kernel_rfl) (fun _ _ _ _ h => h) (.yes 53 rfl rfl rfl) (D_fldP rfl fld_36_1 (o' := 1) rfl) rfl ?_
      refine XA_two 5 8 (by kernel_rfl) ?_ ?_
      · skip
        refine XO_det rfl (.yes 53 rfl rfl rfl) (by repeat first | with_reducible exact .nil _ | with_reducible apply App.cons) (D_ldo rfl (by repeat first | with_reducible exact .here _ _ | with_reducible apply Out.there | with_reducible apply Out.app) tk_34 (by rfl)) rfl ?_
        refine XA_detp 6 rfl (by kernel_rfl) (by kernel_rfl) (by kernel_rfl) (fun _ _ _ _ h => h) (.yes 53 rfl rfl rfl) (D_pureP rfl) rfl ?_
        refine XA_detp 7 rfl (by kernel_rfl) (by kernel_rfl) (by kernel_rfl) (fun _ _ _ _ h => h) .no (D_pureP rfl) rfl ?_
        refine XA_one 8 (by kernel_rfl) ?_
        refine XO_efd rfl .no (by repeat first | with_reducible exact .nil _ | with_reducible apply App.cons) (F_stw rfl rfl rfl (by repeat first | with_reducible exact .here _ _ | with_reducible apply Out.there | with_reducible apply Out.app) tk_36 rfl rfl) (by kernel_rfl) ?_
        refine XA_one 9 (by kernel_rfl) ?_
        refine XO_efd rfl .no (by repeat first | with_reducible exact .nil _ | with_reducible apply App.cons) (F_stl rfl rfl rfl (by repeat first | with_reducible exact .here _ _ | with_reducible apply Out.there | with_reducible apply Out.app) tk_4 (by repeat first | exact .zero _ _ _ | apply SetL.succ)) (by kernel_rfl) ?_
        refine XA_done (by kernel_rfl) ?_
        try simp only [List.cons_append, List.nil_append, List.append_nil]
        refine thenX_normal ?_
        refine X_ret ?_
        refine ret_ok (show Take [dfr dd0] _ _ from (by repeat first | with_reducible exact .nil _ | with_reducible exact .here _ _ | with_reducible exact Take.self _ | with_reducible apply Take.cons | with_reducible apply Out.there | with_reducible apply Take.skip | with_reducible exact Take.pre _ _ | with_reducible apply Out.app)) (res_ac rfl rfl rfl (by repeat first | with_reducible exact .here _ _ | with_reducible apply Out.there | with_reducible apply Out.app) (by repeat first | with_reducible exact .here _ _ | with_reducible apply Out.there | with_reducible apply Out.app) tk_36 tk_4 (by rfl)) ?_
        exact ⟨_, ⟨_, _, rfl, rfl, rd_fin hok h7⟩, _, (by repeat first | with_reducible exact .nil _ | with_reducible exact .here _ _ | with_reducible exact Take.self _ | with_reducible apply Take.cons | with_reducible apply Out.there | with_reducible apply Take.skip | with_reducible exact Take.pre _ _ | with_reducible apply Out.app)⟩
      · skip
        refine XO_efd rfl .no (by repeat first | with_reducible exact .nil _ | with_reducible apply App.cons) (F_stw rfl rfl rfl (by repeat first | with_reducible exact .here _ _ | with_reducible apply Out.there | with_reducible apply Out.app) tk_36 rfl rfl) (by kernel_rfl) ?_
        refine XA_one 5 (by kernel_rfl) ?_
        refine XO_det rfl (.yes 53 rfl rfl rfl) (by repeat first | with_reducible exact .nil _ | with_reducible apply App.cons) (D_ldo rfl (by repeat first | with_reducible exact .here _ _ | with_reducible apply Out.there | with_reducible apply Out.app) tk_34 (by rfl)) rfl ?_
        refine XA_detp 6 rfl (by kernel_rfl) (by kernel_rfl) (by kernel_rfl) (fun _ _ _ _ h => h) (.yes 53 rfl rfl rfl) (D_pureP rfl) rfl ?_
        refine XA_detp 7 rfl (by kernel_rfl) (by kernel_rfl) (by kernel_rfl) (fun _ _ _ _ h => h) .no (D_pureP rfl) rfl ?_
        refine XA_one 9 (by kernel_rfl) ?_
        refine XO_efd rfl .no (by repeat first | with_reducible exact .nil _ | with_reducible apply App.cons) (F_stl rfl rfl rfl (by repeat first | with_reducible exact .here _ _ | with_reducible apply Out.there | with_reducible apply Out.app) tk_4 (by repeat first | exact .zero _ _ _ | apply SetL.succ)) (by kernel_rfl) ?_
        refine XA_done (by kernel_rfl) ?_
        try simp only [List.cons_append, List.nil_append, List.append_nil]
        refine thenX_normal ?_
        refine X_ret ?_
        refine ret_ok (show Take [dfr dd0] _ _ from (by repeat first | with_reducible exact .nil _ | with_reducible exact .here _ _ | with_reducible exact Take.self _ | with_reducible apply Take.cons | with_reducible apply Out.there | with_reducible apply Take.skip | with_reducible exact Take.pre _ _ | with_reducible apply Out.app)) (res_ac rfl rfl rfl (by repeat first | with_reducible exact .here _ _ | with_reducible apply Out.there | with_reducible apply Out.app) (by repeat first | with_reducible exact .here _ _ | with_reducible apply Out.there | with_reducible apply Out.app) tk_36 tk_4 (by rfl)) ?_
        exact ⟨_, ⟨_, _, rfl, rfl, rd_fin hok h7⟩, _, (by repeat first | with_reducible exact .nil _ | with_reducible exact .here _ _ | with_reducible exact Take.self _ | with_reducible apply Take.cons | with_reducible apply Out.there | with_reducible apply Take.skip | with_reducible exact Take.pre _ _ | with_reducible apply Out.app)⟩
    · try simp only [decide_eq_true_eq, decide_eq_false_iff_not, Bool.not_eq_true', Bool.not_eq_false', beq_iff_eq, bne_iff_ne, beq_eq_false_iff_ne, bne_eq_false_iff_eq, Int.not_lt, Int.not_le, gt_iff_lt, ge_iff_le, ne_eq] at h7
      refine XA_skipp 4 53 rfl (by kernel_rfl) (by kernel_rfl) (by kernel_rfl) (fun _ _ _ _ h => h) rfl rfl rfl rfl rfl ?_
      refine XA_skipp 5 53 rfl (by kernel_rfl) (by kernel_rfl) (by kernel_rfl) (fun _ _ _ _ h => h) rfl rfl rfl rfl rfl ?_
      refine XA_skipp 6 53 rfl (by kernel_rfl) (by kernel_rfl) (by kernel_rfl) (fun _ _ _ _ h => h) rfl rfl rfl rfl rfl ?_
      refine XA_detp 7 rfl (by kernel_rfl) (by kernel_rfl) (by kernel_rfl) (fun _ _ _ _ h => h) .no (D_pureP rfl) rfl ?_
      refine XA_one 8 (by kernel_rfl) ?_
      refine XO_efd rfl .no (by repeat first | with_reducible exact .nil _ | with_reducible apply App.cons) (F_stw rfl rfl rfl (by repeat first | with_reducible exact .here _ _ | with_reducible apply Out.there | with_reducible apply Out.app) tk_36 rfl rfl) (by kernel_rfl) ?_
      refine XA_one 9 (by kernel_rfl) ?_
      refine XO_efd rfl .no (by repeat first | with_reducible exact .nil _ | with_reducible apply App.cons) (F_stl rfl rfl rfl (by repeat first | with_reducible exact .here _ _ | with_reducible apply Out.there | with_reducible apply Out.app) tk_4 (by repeat first | exact .zero _ _ _ | apply SetL.succ)) (by kernel_rfl) ?_
      refine XA_done (by kernel_rfl) ?_
      try simp only [List.cons_append, List.nil_append, List.append_nil]
      refine thenX_normal ?_
      refine X_ret ?_
      refine ret_ok (show Take [dfr dd0] _ _ from (by repeat first | with_reducible exact .nil _ | with_reducible exact .here _ _ | with_reducible exact Take.self _ | with_reducible apply Take.cons | with_reducible apply Out.there | with_reducible apply Take.skip | with_reducible exact Take.pre _ _ | with_reducible apply Out.app)) (res_ac rfl rfl rfl (by repeat first | with_reducible exact .here _ _ | with_reducible apply Out.there | with_reducible apply Out.app) (by repeat first | with_reducible exact .here _ _ | with_reducible apply Out.there | with_reducible apply Out.app) tk_36 tk_4 (by rfl)) ?_
      exact ⟨_, ⟨_, _, rfl, rfl, rd_no (readP_len (.inl (fun e => h7 (by omega))))⟩, _, (by repeat first | with_reducible exact .nil _ | with_reducible exact .here _ _ | with_reducible exact Take.self _ | with_reducible apply Take.cons | with_reducible apply Out.there | with_reducible apply Take.skip | with_reducible exact Take.pre _ _ | with_reducible apply Out.app)⟩
  · intro dd0 c i S2 hi h
    obtain ⟨rfl, hnone, x, m, rfl⟩ := h
    simp only [List.cons_append, List.nil_append]
    refine X_ret ?_
    refine inBlk_ret ?_
    refine thenX_ret ?_
    refine ret_ok (show Take [dfr dd0] _ _ from (by repeat first | with_reducible exact .nil _ | with_reducible exact .here _ _ | with_reducible exact Take.self _ | with_reducible apply Take.cons | with_reducible apply Out.there | with_reducible apply Take.skip | with_reducible exact Take.pre _ _ | with_reducible apply Out.app)) (res_ac rfl rfl rfl (by repeat first | with_reducible exact .here _ _ | with_reducible apply Out.there | with_reducible apply Out.app) (by repeat first | with_reducible exact .here _ _ | with_reducible apply Out.there | with_reducible apply Out.app) tk_36 tk_4 (by rfl)) ?_
    exact ⟨_, ⟨zE, _, rfl, rfl, rd_no hnone⟩, _, (by repeat first | with_reducible exact .nil _ | with_reducible exact .here _ _ | with_reducible exact Take.self _ | with_reducible apply Take.cons | with_reducible apply Out.there | with_reducible apply Take.skip | with_reducible exact Take.pre _ _ | with_reducible apply Out.app)⟩

end Go.Proofs.Ytjcpggoodbkedaa
end

section
namespace Go.Proofs.Ytjcpggoodbkedaa
open Go Go.Sl
set_option linter.unusedVariables false
set_option linter.unusedSimpArgs false
set_option maxRecDepth 4000
variable {B : Nat} {K : Asrt B}
theorem en_47 : Go.Proofs.Enters Try.prog 47 := Go.Proofs.enters_of Try.func47 (by kernel_rfl) rfl
theorem en_48 : Go.Proofs.Enters Try.prog 48 := Go.Proofs.enters_of Try.func48 (by kernel_rfl) rfl
theorem zk_43 : (match Try.prog.underlying 43 with | some (.struct _) => (bldOf Try.prog 43).isSome | some (.array _ e) => (Try.prog.info? e).isSome | _ => false) = true := by kernel_rfl
theorem rRead (s : List UInt8) (hs : s.length ≤ 5000000) : Ctr Try.prog B 23 [str s] [] (fun v S => ∃ x b, v = .tuple #[.agg (encE x).toArray, .bool b] ∧ S = [] ∧ rdSpec (pieces s) x b) := by
  refine Ctr_of_X (N := 65) Try.func23 rfl (by simp) rfl ?_
  intro w0 D0
  refine X_seq ?_
  refine X_region ?_
  refine XL_alloc .no zero_43 rfl (fun b1 => ?_)
  refine XL_det .no (D_pure rfl) rfl ?_
  refine XL_then ?_
  refine X_seq ?_
  refine X_region ?_
  refine XL_det .no (D_pure rfl) rfl ?_
  refine XL_call .no en_47 rfl (rpieces s hs) (by repeat first | with_reducible exact .nil _ | with_reducible exact .here _ _ | with_reducible exact Take.self _ | with_reducible apply Take.cons | with_reducible apply Out.there | with_reducible apply Take.skip | with_reducible exact Take.pre _ _ | with_reducible apply Out.app) rfl ?_
  rintro _ _ ⟨x, ⟨hx, hxo⟩, rfl, rfl⟩
  simp only [List.cons_append, List.nil_append]
  refine XL_det .no (D_pure rfl) rfl ?_
  refine XL_then ?_
  refine X_seq ?_
  refine X_region ?_
  refine XL_det .no (D_zero zero_43 zk_43) rfl ?_
  refine XL_alloc .no zero_43 rfl (fun b2 => ?_)
  refine XL_efd .no (F_stw rfl rfl rfl (by repeat first | with_reducible exact .here _ _ | with_reducible apply Out.there | with_reducible apply Out.app) tk_43 rfl rfl) ?_
  refine XL_then ?_
  refine X_seq ?_
  refine X_seq ?_
  refine X_region ?_
  refine XL_det .no (D_pure rfl) rfl ?_
  refine XL_det .no (D_len rfl rfl slc_71) rfl ?_
  refine XL_det .no (D_pure rfl) rfl ?_
  refine XL_then ?_
  refine X_cond rfl (fun h1 => ?_) (fun h1 => ?_)
  · try simp only [decide_eq_true_eq, decide_eq_false_iff_not, Bool.not_eq_true', Bool.not_eq_false', beq_iff_eq, bne_iff_ne, beq_eq_false_iff_ne, bne_eq_false_iff_eq, Int.not_lt, Int.not_le, gt_iff_lt, ge_iff_le, ne_eq] at h1
    refine X_seq ?_
    refine X_region ?_
    refine XL_det .no (D_ldso (vs := encE zE) rfl (by repeat first | with_reducible exact .here _ _ | with_reducible apply Out.there | with_reducible apply Out.app) tk_43 rfl (by rfl)) rfl ?_
    refine XL_efd .no (F_stw rfl rfl rfl (by repeat first | with_reducible exact .here _ _ | with_reducible apply Out.there | with_reducible apply Out.app) tk_43 rfl rfl) ?_
    refine XL_det .no (D_pure rfl) rfl ?_
    refine XL_then ?_
    refine X_ret ?_
    refine thenX_ret ?_
    refine ret_ok (.nil _) (res_celltmp rfl rfl (by repeat first | with_reducible exact .here _ _ | with_reducible apply Out.there | with_reducible apply Out.app) tk_43 (by rfl) rfl) ?_
    exact ⟨_, ⟨zE, _, rfl, rfl, rd_no (readP_len (.inl (fun e => h1 (by rw [hx]; omega))))⟩, _, (by repeat first | with_reducible exact .nil _ | with_reducible exact .here _ _ | with_reducible exact Take.self _ | with_reducible apply Take.cons | with_reducible apply Out.there | with_reducible apply Take.skip | with_reducible exact Take.pre _ _ | with_reducible apply Out.app)⟩
  · try simp only [decide_eq_true_eq, decide_eq_false_iff_not, Bool.not_eq_true', Bool.not_eq_false', beq_iff_eq, bne_iff_ne, beq_eq_false_iff_ne, bne_eq_false_iff_eq, Int.not_lt, Int.not_le, gt_iff_lt, ge_iff_le, ne_eq] at h1
    have hpl : (pieces s).length = 4 := by rw [← hx]; omega
    refine X_skip ?_
    refine thenX_normal ?_
    refine X_seq ?_
    refine X_seq ?_
    refine X_region ?_
    refine XL_det .no (D_pure rfl) rfl ?_
    refine XL_then ?_
    refine X_block ?_
    refine X_loop (α := Nat) (fun i => i ≤ 4 ∧ okTo (pieces s) i ∧ (1 < i → kindS ((pieces s).getD 1 []) ≠ 0)) (fun i => [(6, .int .i64 (i : Int)), (2, .pointer (some ⟨b1, 0, none⟩)), (4, .slice x.oad x.l.length x.c), (5, .pointer (some ⟨b2, 0, none⟩))]) (fun i => [blk b1 (encE zE) 43, blk b2 (encE (partE (pieces s) i)) 43, row (.slice x.oad x.l.length x.c) 9 1 x.l.length (x.l.flatMap encS)]) (fun i => 4 - i) 0 ?_ (by refine ⟨?_, ?_, ?_, ?_, trivial⟩ <;> rfl) (by repeat first | with_reducible exact .nil _ | with_reducible exact .here _ _ | exact .here _ _ | with_reducible exact Take.self _ | with_reducible apply Take.cons | with_reducible apply Out.there | with_reducible apply Take.skip | with_reducible exact Take.pre _ _ | with_reducible apply Out.app) ?_
    · exact ⟨by decide, fun j h => by omega, fun h => by omega⟩
    · rintro i ⟨hi, hok, hkd⟩
      refine X_seq ?_
      refine X_seq ?_
      refine X_region ?_
      refine XL_det .no (D_pure rfl) rfl ?_
      refine XL_det .no (D_pure rfl) rfl ?_
      refine XL_then ?_
      refine X_cond rfl (fun h2 => ?_) (fun h2 => ?_)
      · try simp only [decide_eq_true_eq, decide_eq_false_iff_not, Bool.not_eq_true', Bool.not_eq_false', beq_iff_eq, bne_iff_ne, beq_eq_false_iff_ne, bne_eq_false_iff_eq, Int.not_lt, Int.not_le, gt_iff_lt, ge_iff_le, ne_eq] at h2
        obtain ⟨q, hq⟩ : ∃ q, x.l[i]? = some q := ⟨_, List.getElem?_eq_getElem (by omega)⟩
        have hqp : (pieces s)[i]? = some q := hx ▸ hq
        refine X_skip ?_
        refine thenX_normal ?_
        refine X_seq ?_
        refine X_block ?_
        refine X_seq ?_
        refine X_region ?_
        refine XL_det .no (D_pure rfl) rfl ?_
        refine XL_det .no (D_pure rfl) rfl ?_
        refine XL_det .no (D_idxSo rfl rfl slc_71 (x).nil0 rfl (by omega) rfl) rfl ?_
        refine XL_det .no (D_ela (enc := encS) (sz := 1) (i := i) (k := 0) (fun _ => rfl) rfl (by repeat first | with_reducible exact .here _ _ | with_reducible apply Out.there | with_reducible apply Out.app) (Rd_own hxo rfl) tk_9 hq rfl) rfl ?_
        refine XL_callv .no en_48 rfl (rread q) rfl ?_
        refine XL_det .no (D_pure rfl) rfl ?_
        refine XL_det .no (D_pure (v := .int .i64 (rdN q).1) rfl) rfl ?_
        refine XL_det .no (D_pure (v := .int .i64 (rdN q).2) rfl) rfl ?_
        refine XL_det .no (D_pure rfl) rfl ?_
        refine XL_det .no (D_pure rfl) rfl ?_
        refine XL_then ?_
        refine X_seq ?_
        refine X_seq ?_
        refine X_region ?_
        refine XL_det .no (D_pure rfl) rfl ?_
        refine XL_then ?_
        refine X_block ?_
        rw [← kq_1 q]
        refine X_loop (α := Int) (fun k => 1 ≤ k ∧ k ≤ 11 ∧ (i = 1 ∨ k = 1)) (fun k => [(7, .int .i64 (kq q k).1), (8, .int .i64 (kq q k).2), (9, .int .i64 k), (2, .pointer (some ⟨b1, 0, none⟩)), (4, .slice x.oad x.l.length x.c), (5, .pointer (some ⟨b2, 0, none⟩)), (6, .int .i64 (i : Int))]) (fun k => [blk b1 (encE zE) 43, blk b2 (encE (partE (pieces s) i)) 43, row (.slice x.oad x.l.length x.c) 9 1 x.l.length (x.l.flatMap encS)]) (fun k => (11 - k).toNat) 1 ?_ (by refine ⟨?_, ?_, ?_, ?_, ?_, ?_, ?_, trivial⟩ <;> rfl) (by repeat first | with_reducible exact .nil _ | with_reducible exact .here _ _ | with_reducible exact Take.self _ | with_reducible apply Take.cons | with_reducible apply Out.there | with_reducible apply Take.skip | with_reducible exact Take.pre _ _ | with_reducible apply Out.app) ?_
        · exact ⟨by decide, by decide, .inr rfl⟩
        · rintro k ⟨hk1, hk2, hk⟩
          refine X_seq ?_
          refine X_seq ?_
          refine X_region ?_
          refine XL_det .no (D_pure rfl) rfl ?_
          refine XL_det .no (D_pure rfl) rfl ?_
          refine XL_det .no (D_pure rfl) rfl ?_
          refine XL_split (t := 31) rfl (fun h3 => ?_) (fun h3 => ?_)
          · try simp only [decide_eq_true_eq, decide_eq_false_iff_not, Bool.not_eq_true', Bool.not_eq_false', beq_iff_eq, bne_iff_ne, beq_eq_false_iff_ne, bne_eq_false_iff_eq, Int.not_lt, Int.not_le, gt_iff_lt, ge_iff_le, ne_eq] at h3
            refine XL_det (.yes 31 rfl rfl rfl) (D_pure rfl) rfl ?_
            refine XL_det (.yes 31 rfl rfl rfl) (D_pure rfl) rfl ?_
            refine XL_det .no (D_pure rfl) rfl ?_
            refine XL_then ?_
            refine X_cond rfl (fun h4 => ?_) (fun h4 => ?_)
            · try simp only [decide_eq_true_eq, decide_eq_false_iff_not, Bool.not_eq_true', Bool.not_eq_false', beq_iff_eq, bne_iff_ne, beq_eq_false_iff_ne, bne_eq_false_iff_eq, Int.not_lt, Int.not_le, gt_iff_lt, ge_iff_le, ne_eq] at h4
              refine X_skip ?_
              refine thenX_normal ?_
              refine X_seq ?_
              refine X_block ?_
              refine X_seq ?_
              refine X_draw _ mixed (Take.self _) ?_
              refine XA_detp 0 rfl (by kernel_rfl) (by kernel_rfl) (by kernel_rfl) (fun _ _ _ _ h => h) .no (D_pureP rfl) rfl ?_
              refine XA_detp 2 rfl (by kernel_rfl) (by kernel_rfl) (by kernel_rfl) (fun _ _ _ _ h => h) .no (D_pureP rfl) rfl ?_
              refine XA_detp 3 rfl (by kernel_rfl) (by kernel_rfl) (by kernel_rfl) (fun _ _ _ _ h => h) .no (D_pureP rfl) rfl ?_
              refine XA_detp 4 rfl (by kernel_rfl) (by kernel_rfl) (by kernel_rfl) (fun _ _ _ _ h => h) .no (D_idxSoP rfl rfl slc_71 (x).nil0 rfl (by omega) rfl) rfl ?_
              refine XA_det 5 rfl (by kernel_rfl) (by kernel_rfl) (by kernel_rfl) (by kernel_rfl) (fun _ _ _ _ h => h) .no (D_ela (enc := encS) (sz := 1) (i := i) (k := 0) (fun _ => rfl) rfl (by repeat first | with_reducible exact .here _ _ | with_reducible apply Out.there | with_reducible apply Out.app) (Rd_own hxo rfl) tk_9 hq rfl) rfl ?_
              refine XA_one 1 (by kernel_rfl) ?_
              refine XO_callv rfl .no en_43 rfl (rword k) rfl ?_
              refine XA_det 6 rfl (by kernel_rfl) (by kernel_rfl) (by kernel_rfl) (by kernel_rfl) (fun _ _ _ _ h => h) .no (D_seq (a := wordK k) (b := q) rfl rfl rfl) rfl ?_
              refine XA_done (by kernel_rfl) ?_
              try simp only [List.cons_append, List.nil_append, List.append_nil]
              refine thenX_normal ?_
              refine X_cond rfl (fun h5 => ?_) (fun h5 => ?_)
              · try simp only [decide_eq_true_eq, decide_eq_false_iff_not, Bool.not_eq_true', Bool.not_eq_false', beq_iff_eq, bne_iff_ne, beq_eq_false_iff_ne, bne_eq_false_iff_eq, Int.not_lt, Int.not_le, gt_iff_lt, ge_iff_le, ne_eq] at h5
                refine X_seq ?_
                refine X_region ?_
                refine XL_det .no (D_pure rfl) rfl ?_
                refine XL_det .no (D_pure rfl) rfl ?_
                refine XL_then ?_
                refine X_region ?_
                refine XL_det .no (D_pure rfl) rfl ?_
                refine XL_nil ?_
                refine inBlk_normal ?_
                refine thenX_normal ?_
                refine X_region ?_
                refine XL_det .no (D_pure rfl) rfl ?_
                refine XL_det .no (D_add rfl rfl (by omega) (by omega)) rfl ?_
                refine XL_det .no (D_pure rfl) rfl ?_
                refine XL_nil ?_
                refine loopQ_next (k + 1) ?_ ?_ ?_ ?_
                · exact ⟨by omega, by omega, by omega⟩
                · omega
                · refine ⟨by rw [kq_t hk1 (by omega) h5]; rfl, by rw [kq_t hk1 (by omega) h5]; rfl, ?_, ?_, ?_, ?_, ?_, trivial⟩ <;> rfl
                · exact ⟨_, (by repeat first | with_reducible exact .nil _ | with_reducible exact .here _ _ | with_reducible exact Take.self _ | with_reducible apply Take.cons | with_reducible apply Out.there | with_reducible apply Take.skip | with_reducible exact Take.pre _ _ | with_reducible apply Out.app)⟩
              · try simp only [decide_eq_true_eq, decide_eq_false_iff_not, Bool.not_eq_true', Bool.not_eq_false', beq_iff_eq, bne_iff_ne, beq_eq_false_iff_ne, bne_eq_false_iff_eq, Int.not_lt, Int.not_le, gt_iff_lt, ge_iff_le, ne_eq] at h5
                refine X_skip ?_
                refine inBlk_normal ?_
                refine thenX_normal ?_
                refine X_region ?_
                refine XL_det .no (D_pure rfl) rfl ?_
                refine XL_det .no (D_add rfl rfl (by omega) (by omega)) rfl ?_
                refine XL_det .no (D_pure rfl) rfl ?_
                refine XL_nil ?_
                refine loopQ_next (k + 1) ?_ ?_ ?_ ?_
                · exact ⟨by omega, by omega, by omega⟩
                · omega
                · refine ⟨by rw [kq_f hk1 (by omega) h5]; rfl, by rw [kq_f hk1 (by omega) h5]; rfl, ?_, ?_, ?_, ?_, ?_, trivial⟩ <;> rfl
                · exact ⟨_, (by repeat first | with_reducible exact .nil _ | with_reducible exact .here _ _ | with_reducible exact Take.self _ | with_reducible apply Take.cons | with_reducible apply Out.there | with_reducible apply Take.skip | with_reducible exact Take.pre _ _ | with_reducible apply Out.app)⟩
            · try simp only [decide_eq_true_eq, decide_eq_false_iff_not, Bool.not_eq_true', Bool.not_eq_false', beq_iff_eq, bne_iff_ne, beq_eq_false_iff_ne, bne_eq_false_iff_eq, Int.not_lt, Int.not_le, gt_iff_lt, ge_iff_le, ne_eq] at h4
              have hkq : kq q k = rdN q := by rw [show k = 1 by omega]; exact kq_1 q
              refine X_exit ?_
              refine thenX_exit ?_
              refine loopQ_exit ?_
              refine inBlk_here ?_
              refine thenX_normal ?_
              refine X_seq ?_
              refine X_seq ?_
              refine X_draw _ mixed (Take.self _) ?_
              refine XA_detp 0 rfl (by kernel_rfl) (by kernel_rfl) (by kernel_rfl) (fun _ _ _ _ h => h) .no (D_pureP rfl) rfl ?_
              refine XA_detp 1 rfl (by kernel_rfl) (by kernel_rfl) (by kernel_rfl) (fun _ _ _ _ h => h) .no (D_pureP rfl) rfl ?_
              refine XA_detp 2 rfl (by kernel_rfl) (by kernel_rfl) (by kernel_rfl) (fun _ _ _ _ h => h) .no (D_pureP rfl) rfl ?_
              refine XA_split (t := 47) rfl (fun h6 => ?_) (fun h6 => ?_)
              · try simp only [decide_eq_true_eq, decide_eq_false_iff_not, Bool.not_eq_true', Bool.not_eq_false', beq_iff_eq, bne_iff_ne, beq_eq_false_iff_ne, bne_eq_false_iff_eq, Int.not_lt, Int.not_le, gt_iff_lt, ge_iff_le, ne_eq] at h6
                refine XA_skipp 3 47 rfl (by kernel_rfl) (by kernel_rfl) (by kernel_rfl) (fun _ _ _ _ h => h) rfl rfl rfl rfl rfl ?_
                refine XA_skipp 4 47 rfl (by kernel_rfl) (by kernel_rfl) (by kernel_rfl) (fun _ _ _ _ h => h) rfl rfl rfl rfl rfl ?_
                refine XA_skipp 5 47 rfl (by kernel_rfl) (by kernel_rfl) (by kernel_rfl) (fun _ _ _ _ h => h) rfl rfl rfl rfl rfl ?_
                refine XA_skipu 6 50 rfl (by kernel_rfl) (by kernel_rfl) (by kernel_rfl) (by kernel_rfl) (fun _ _ _ _ h => h) rfl rfl rfl rfl ?_
                refine XA_skipu 7 50 rfl (by kernel_rfl) (by kernel_rfl) (by kernel_rfl) (by kernel_rfl) (fun _ _ _ _ h => h) rfl rfl rfl rfl ?_
                refine XA_skipu 8 50 rfl (by kernel_rfl) (by kernel_rfl) (by kernel_rfl) (by kernel_rfl) (fun _ _ _ _ h => h) rfl rfl rfl rfl ?_
                refine XA_skipu 9 50 rfl (by kernel_rfl) (by kernel_rfl) (by kernel_rfl) (by kernel_rfl) (fun _ _ _ _ h => h) rfl rfl rfl rfl ?_
                refine XA_skipu 10 50 rfl (by kernel_rfl) (by kernel_rfl) (by kernel_rfl) (by kernel_rfl) (fun _ _ _ _ h => h) rfl rfl rfl rfl ?_
                refine XA_skipu 11 50 rfl (by kernel_rfl) (by kernel_rfl) (by kernel_rfl) (by kernel_rfl) (fun _ _ _ _ h => h) rfl rfl rfl rfl ?_
                refine XA_skipu 12 50 rfl (by kernel_rfl) (by kernel_rfl) (by kernel_rfl) (by kernel_rfl) (fun _ _ _ _ h => h) rfl rfl rfl rfl ?_
                refine XA_skipp 13 47 rfl (by kernel_rfl) (by kernel_rfl) (by kernel_rfl) (fun _ _ _ _ h => h) rfl rfl rfl rfl rfl ?_
                refine XA_detp 14 rfl (by kernel_rfl) (by kernel_rfl) (by kernel_rfl) (fun _ _ _ _ h => h) .no (D_pureP rfl) rfl ?_
                refine XA_done (by kernel_rfl) ?_
                try simp only [List.cons_append, List.nil_append, List.append_nil]
                refine thenX_normal ?_
                refine X_cond_t rfl rfl ?_
                refine X_seq ?_
                refine X_region ?_
                refine XL_det .no (D_zero zero_43 zk_43) rfl ?_
                refine XL_efd .no (F_stw rfl rfl rfl (by repeat first | with_reducible exact .here _ _ | with_reducible apply Out.there | with_reducible apply Out.app) tk_43 rfl rfl) ?_
                refine XL_det .no (D_pure rfl) rfl ?_
                refine XL_then ?_
                refine X_ret ?_
                refine thenX_ret ?_
                refine inBlk_ret ?_
                refine thenX_ret ?_
                refine loopQ_ret ?_
                refine inBlk_ret ?_
                refine thenX_ret ?_
                refine ret_ok (.nil _) (res_celltmp rfl rfl (by repeat first | with_reducible exact .here _ _ | with_reducible apply Out.there | with_reducible apply Out.app) tk_43 (by rfl) rfl) ?_
                exact ⟨_, ⟨zE, _, rfl, rfl, rd_no (readP_none (i := i) (by omega) (.inr (.inl (okTo_n hqp (by omega) (rdN_n (hkq ▸ h6))))))⟩, _, (by repeat first | with_reducible exact .nil _ | with_reducible exact .here _ _ | with_reducible exact Take.self _ | with_reducible apply Take.cons | with_reducible apply Out.there | with_reducible apply Take.skip | with_reducible exact Take.pre _ _ | with_reducible apply Out.app)⟩
              · try simp only [decide_eq_true_eq, decide_eq_false_iff_not, Bool.not_eq_true', Bool.not_eq_false', beq_iff_eq, bne_iff_ne, beq_eq_false_iff_ne, bne_eq_false_iff_eq, Int.not_lt, Int.not_le, gt_iff_lt, ge_iff_le, ne_eq] at h6
                rw [hkq] at h6
                have hg := rdN_0 h6
                refine XA_detp 3 rfl (by kernel_rfl) (by kernel_rfl) (by kernel_rfl) (fun _ _ _ _ h => h) (.yes 47 rfl rfl rfl) (D_pureP rfl) rfl ?_
                refine XA_detp 4 rfl (by kernel_rfl) (by kernel_rfl) (by kernel_rfl) (fun _ _ _ _ h => h) (.yes 47 rfl rfl rfl) (D_pureP rfl) rfl ?_
                refine XA_detp 5 rfl (by kernel_rfl) (by kernel_rfl) (by kernel_rfl) (fun _ _ _ _ h => h) (.yes 47 rfl rfl rfl) (D_pureP rfl) rfl ?_
                refine XA_split (t := 50) rfl (fun h7 => ?_) (fun h7 => ?_)
                · try simp only [decide_eq_true_eq, decide_eq_false_iff_not, Bool.not_eq_true', Bool.not_eq_false', beq_iff_eq, bne_iff_ne, beq_eq_false_iff_ne, bne_eq_false_iff_eq, Int.not_lt, Int.not_le, gt_iff_lt, ge_iff_le, ne_eq] at h7
                  omega
                · try simp only [decide_eq_true_eq, decide_eq_false_iff_not, Bool.not_eq_true', Bool.not_eq_false', beq_iff_eq, bne_iff_ne, beq_eq_false_iff_ne, bne_eq_false_iff_eq, Int.not_lt, Int.not_le, gt_iff_lt, ge_iff_le, ne_eq] at h7
                  refine XA_skipp 6 50 rfl (by kernel_rfl) (by kernel_rfl) (by kernel_rfl) (fun _ _ _ _ h => h) rfl rfl rfl rfl rfl ?_
                  refine XA_skipp 7 50 rfl (by kernel_rfl) (by kernel_rfl) (by kernel_rfl) (fun _ _ _ _ h => h) rfl rfl rfl rfl rfl ?_
                  refine XA_skipp 8 50 rfl (by kernel_rfl) (by kernel_rfl) (by kernel_rfl) (fun _ _ _ _ h => h) rfl rfl rfl rfl rfl ?_
                  refine XA_skipp 9 50 rfl (by kernel_rfl) (by kernel_rfl) (by kernel_rfl) (fun _ _ _ _ h => h) rfl rfl rfl rfl rfl ?_
                  refine XA_skipp 10 50 rfl (by kernel_rfl) (by kernel_rfl) (by kernel_rfl) (fun _ _ _ _ h => h) rfl rfl rfl rfl rfl ?_
                  refine XA_skipp 11 50 rfl (by kernel_rfl) (by kernel_rfl) (by kernel_rfl) (fun _ _ _ _ h => h) rfl rfl rfl rfl rfl ?_
                  refine XA_skipp 12 50 rfl (by kernel_rfl) (by kernel_rfl) (by kernel_rfl) (fun _ _ _ _ h => h) rfl rfl rfl rfl rfl ?_
                  refine XA_detp 13 rfl (by kernel_rfl) (by kernel_rfl) (by kernel_rfl) (fun _ _ _ _ h => h) (.yes 47 rfl rfl rfl) (D_pureP rfl) rfl ?_
                  refine XA_detp 14 rfl (by kernel_rfl) (by kernel_rfl) (by kernel_rfl) (fun _ _ _ _ h => h) .no (D_pureP rfl) rfl ?_
                  refine XA_done (by kernel_rfl) ?_
                  try simp only [List.cons_append, List.nil_append, List.append_nil]
                  refine thenX_normal ?_
                  refine X_cond_f rfl rfl ?_
                  refine X_skip ?_
                  refine thenX_normal ?_
                  refine X_region ?_
                  refine XL_det .no (D_pure rfl) rfl ?_
                  refine XL_det .no (D_pure rfl) rfl ?_
                  refine XL_det .no (D_idxA rfl rfl arr_43 rfl (by omega) rfl) rfl ?_
                  refine XL_efd .no (F_st (k := 0 + i * 1) (cs' := encE (partE (pieces s) (i + 1))) rfl rfl rfl (by repeat first | with_reducible exact .here _ _ | with_reducible apply Out.there | with_reducible apply Out.app) tk_3 (by rw [Nat.zero_add]; exact (by simp; omega)) (part_set hqp (by omega) (by rw [if_neg (by omega), hkq]; exact hg.2))) ?_
                  refine XL_nil ?_
                  refine inBlk_normal ?_
                  refine thenX_normal ?_
                  refine X_region ?_
                  refine XL_det .no (D_pure rfl) rfl ?_
                  refine XL_det .no (D_add rfl rfl (by omega) (by omega)) rfl ?_
                  refine XL_det .no (D_pure rfl) rfl ?_
                  refine XL_nil ?_
                  refine loopQ_next (i + 1) ?_ ?_ ?_ ?_
                  · exact ⟨by omega, okTo_s hqp hok fun _ => hg.1, fun h => hkd (by omega)⟩
                  · omega
                  · refine ⟨?_, ?_, ?_, ?_, trivial⟩ <;> rfl
                  · exact ⟨_, (by repeat first | with_reducible exact .nil _ | with_reducible exact .here _ _ | exact .here _ _ | with_reducible exact Take.self _ | with_reducible apply Take.cons | with_reducible apply Out.there | with_reducible apply Take.skip | with_reducible exact Take.pre _ _ | with_reducible apply Out.app)⟩
          · try simp only [decide_eq_true_eq, decide_eq_false_iff_not, Bool.not_eq_true', Bool.not_eq_false', beq_iff_eq, bne_iff_ne, beq_eq_false_iff_ne, bne_eq_false_iff_eq, Int.not_lt, Int.not_le, gt_iff_lt, ge_iff_le, ne_eq] at h3
            have hkq : kq q k = kq q 11 := by rw [show k = 11 by omega]
            have hi1 : i = 1 := by omega
            have hq1 : (pieces s)[1]? = some q := hi1 ▸ hqp
            refine XL_skip 31 rfl rfl rfl rfl rfl ?_
            refine XL_skip 31 rfl rfl rfl rfl rfl ?_
            refine XL_det .no (D_pure rfl) rfl ?_
            refine XL_then ?_
            refine X_cond_f rfl rfl ?_
            refine X_exit ?_
            refine thenX_exit ?_
            refine loopQ_exit ?_
            refine inBlk_here ?_
            refine thenX_normal ?_
            refine X_seq ?_
            refine X_seq ?_
            refine X_draw _ mixed (Take.self _) ?_
            refine XA_detp 0 rfl (by kernel_rfl) (by kernel_rfl) (by kernel_rfl) (fun _ _ _ _ h => h) .no (D_pureP rfl) rfl ?_
            refine XA_detp 1 rfl (by kernel_rfl) (by kernel_rfl) (by kernel_rfl) (fun _ _ _ _ h => h) .no (D_pureP rfl) rfl ?_
            refine XA_detp 2 rfl (by kernel_rfl) (by kernel_rfl) (by kernel_rfl) (fun _ _ _ _ h => h) .no (D_pureP rfl) rfl ?_
            refine XA_split (t := 47) rfl (fun h8 => ?_) (fun h8 => ?_)
            · try simp only [decide_eq_true_eq, decide_eq_false_iff_not, Bool.not_eq_true', Bool.not_eq_false', beq_iff_eq, bne_iff_ne, beq_eq_false_iff_ne, bne_eq_false_iff_eq, Int.not_lt, Int.not_le, gt_iff_lt, ge_iff_le, ne_eq] at h8
              refine XA_skipp 3 47 rfl (by kernel_rfl) (by kernel_rfl) (by kernel_rfl) (fun _ _ _ _ h => h) rfl rfl rfl rfl rfl ?_
              refine XA_skipp 4 47 rfl (by kernel_rfl) (by kernel_rfl) (by kernel_rfl) (fun _ _ _ _ h => h) rfl rfl rfl rfl rfl ?_
              refine XA_skipp 5 47 rfl (by kernel_rfl) (by kernel_rfl) (by kernel_rfl) (fun _ _ _ _ h => h) rfl rfl rfl rfl rfl ?_
              refine XA_skipu 6 50 rfl (by kernel_rfl) (by kernel_rfl) (by kernel_rfl) (by kernel_rfl) (fun _ _ _ _ h => h) rfl rfl rfl rfl ?_
              refine XA_skipu 7 50 rfl (by kernel_rfl) (by kernel_rfl) (by kernel_rfl) (by kernel_rfl) (fun _ _ _ _ h => h) rfl rfl rfl rfl ?_
              refine XA_skipu 8 50 rfl (by kernel_rfl) (by kernel_rfl) (by kernel_rfl) (by kernel_rfl) (fun _ _ _ _ h => h) rfl rfl rfl rfl ?_
              refine XA_skipu 9 50 rfl (by kernel_rfl) (by kernel_rfl) (by kernel_rfl) (by kernel_rfl) (fun _ _ _ _ h => h) rfl rfl rfl rfl ?_
              refine XA_skipu 10 50 rfl (by kernel_rfl) (by kernel_rfl) (by kernel_rfl) (by kernel_rfl) (fun _ _ _ _ h => h) rfl rfl rfl rfl ?_
              refine XA_skipu 11 50 rfl (by kernel_rfl) (by kernel_rfl) (by kernel_rfl) (by kernel_rfl) (fun _ _ _ _ h => h) rfl rfl rfl rfl ?_
              refine XA_skipu 12 50 rfl (by kernel_rfl) (by kernel_rfl) (by kernel_rfl) (by kernel_rfl) (fun _ _ _ _ h => h) rfl rfl rfl rfl ?_
              refine XA_skipp 13 47 rfl (by kernel_rfl) (by kernel_rfl) (by kernel_rfl) (fun _ _ _ _ h => h) rfl rfl rfl rfl rfl ?_
              refine XA_detp 14 rfl (by kernel_rfl) (by kernel_rfl) (by kernel_rfl) (fun _ _ _ _ h => h) .no (D_pureP rfl) rfl ?_
              refine XA_done (by kernel_rfl) ?_
              try simp only [List.cons_append, List.nil_append, List.append_nil]
              refine thenX_normal ?_
              refine X_cond_t rfl rfl ?_
              refine X_seq ?_
              refine X_region ?_
              refine XL_det .no (D_zero zero_43 zk_43) rfl ?_
              refine XL_efd .no (F_stw rfl rfl rfl (by repeat first | with_reducible exact .here _ _ | with_reducible apply Out.there | with_reducible apply Out.app) tk_43 rfl rfl) ?_
              refine XL_det .no (D_pure rfl) rfl ?_
              refine XL_then ?_
              refine X_ret ?_
              refine thenX_ret ?_
              refine inBlk_ret ?_
              refine thenX_ret ?_
              refine loopQ_ret ?_
              refine inBlk_ret ?_
              refine thenX_ret ?_
              refine ret_ok (.nil _) (res_celltmp rfl rfl (by repeat first | with_reducible exact .here _ _ | with_reducible apply Out.there | with_reducible apply Out.app) tk_43 (by rfl) rfl) ?_
              exact ⟨_, ⟨zE, _, rfl, rfl, rd_no (readP_none (i := i) (by omega) (.inr (.inr ⟨hi1, by rw [getD_of hq1]; exact kq_bad (hkq ▸ h8)⟩)))⟩, _, (by repeat first | with_reducible exact .nil _ | with_reducible exact .here _ _ | with_reducible exact Take.self _ | with_reducible apply Take.cons | with_reducible apply Out.there | with_reducible apply Take.skip | with_reducible exact Take.pre _ _ | with_reducible apply Out.app)⟩
            · try simp only [decide_eq_true_eq, decide_eq_false_iff_not, Bool.not_eq_true', Bool.not_eq_false', beq_iff_eq, bne_iff_ne, beq_eq_false_iff_ne, bne_eq_false_iff_eq, Int.not_lt, Int.not_le, gt_iff_lt, ge_iff_le, ne_eq] at h8
              refine XA_detp 3 rfl (by kernel_rfl) (by kernel_rfl) (by kernel_rfl) (fun _ _ _ _ h => h) (.yes 47 rfl rfl rfl) (D_pureP rfl) rfl ?_
              refine XA_detp 4 rfl (by kernel_rfl) (by kernel_rfl) (by kernel_rfl) (fun _ _ _ _ h => h) (.yes 47 rfl rfl rfl) (D_pureP rfl) rfl ?_
              refine XA_detp 5 rfl (by kernel_rfl) (by kernel_rfl) (by kernel_rfl) (fun _ _ _ _ h => h) (.yes 47 rfl rfl rfl) (D_pureP rfl) rfl ?_
              refine XA_split (t := 50) rfl (fun h9 => ?_) (fun h9 => ?_)
              · try simp only [decide_eq_true_eq, decide_eq_false_iff_not, Bool.not_eq_true', Bool.not_eq_false', beq_iff_eq, bne_iff_ne, beq_eq_false_iff_ne, bne_eq_false_iff_eq, Int.not_lt, Int.not_le, gt_iff_lt, ge_iff_le, ne_eq] at h9
                refine XA_detp 6 rfl (by kernel_rfl) (by kernel_rfl) (by kernel_rfl) (fun _ _ _ _ h => h) (.yes 50 rfl rfl rfl) (D_pureP rfl) rfl ?_
                refine XA_detp 8 rfl (by kernel_rfl) (by kernel_rfl) (by kernel_rfl) (fun _ _ _ _ h => h) (.yes 50 rfl rfl rfl) (D_pureP rfl) rfl ?_
                refine XA_detp 9 rfl (by kernel_rfl) (by kernel_rfl) (by kernel_rfl) (fun _ _ _ _ h => h) (.yes 50 rfl rfl rfl) (D_pureP rfl) rfl ?_
                refine XA_detp 10 rfl (by kernel_rfl) (by kernel_rfl) (by kernel_rfl) (fun _ _ _ _ h => h) (.yes 50 rfl rfl rfl) (D_idxSoP rfl rfl slc_71 (x).nil0 rfl (by omega) rfl) rfl ?_
                refine XA_det 11 rfl (by kernel_rfl) (by kernel_rfl) (by kernel_rfl) (by kernel_rfl) (fun _ _ _ _ h => h) (.yes 50 rfl rfl rfl) (D_ela (enc := encS) (sz := 1) (i := i) (k := 0) (fun _ => rfl) rfl (by repeat first | with_reducible exact .here _ _ | with_reducible apply Out.there | with_reducible apply Out.app) (Rd_own hxo rfl) tk_9 hq rfl) rfl ?_
                refine XA_one 7 (by kernel_rfl) ?_
                refine XO_callv rfl (.yes 50 rfl rfl rfl) en_43 rfl (rword (kq q k).1) rfl ?_
                refine XA_det 12 rfl (by kernel_rfl) (by kernel_rfl) (by kernel_rfl) (by kernel_rfl) (fun _ _ _ _ h => h) (.yes 50 rfl rfl rfl) (D_seq (a := wordK (kq q k).1) (b := q) rfl rfl rfl) rfl ?_
                refine XA_detp 13 rfl (by kernel_rfl) (by kernel_rfl) (by kernel_rfl) (fun _ _ _ _ h => h) (.yes 47 rfl rfl rfl) (D_pureP rfl) rfl ?_
                refine XA_detp 14 rfl (by kernel_rfl) (by kernel_rfl) (by kernel_rfl) (fun _ _ _ _ h => h) .no (D_pureP rfl) rfl ?_
                refine XA_done (by kernel_rfl) ?_
                try simp only [List.cons_append, List.nil_append, List.append_nil]
                refine thenX_normal ?_
                refine X_cond rfl (fun h10 => ?_) (fun h10 => ?_)
                · try simp only [decide_eq_true_eq, decide_eq_false_iff_not, Bool.not_eq_true', Bool.not_eq_false', beq_iff_eq, bne_iff_ne, beq_eq_false_iff_ne, bne_eq_false_iff_eq, Int.not_lt, Int.not_le, gt_iff_lt, ge_iff_le, ne_eq] at h10
                  refine X_seq ?_
                  refine X_region ?_
                  refine XL_det .no (D_zero zero_43 zk_43) rfl ?_
                  refine XL_efd .no (F_stw rfl rfl rfl (by repeat first | with_reducible exact .here _ _ | with_reducible apply Out.there | with_reducible apply Out.app) tk_43 rfl rfl) ?_
                  refine XL_det .no (D_pure rfl) rfl ?_
                  refine XL_then ?_
                  refine X_ret ?_
                  refine thenX_ret ?_
                  refine inBlk_ret ?_
                  refine thenX_ret ?_
                  refine loopQ_ret ?_
                  refine inBlk_ret ?_
                  refine thenX_ret ?_
                  refine ret_ok (.nil _) (res_celltmp rfl rfl (by repeat first | with_reducible exact .here _ _ | with_reducible apply Out.there | with_reducible apply Out.app) tk_43 (by rfl) rfl) ?_
                  exact ⟨_, ⟨zE, _, rfl, rfl, rd_no (readP_none (i := i) (by omega) (.inr (.inr ⟨hi1, by rw [getD_of hq1]; exact kq_word (hkq ▸ h10)⟩)))⟩, _, (by repeat first | with_reducible exact .nil _ | with_reducible exact .here _ _ | with_reducible exact Take.self _ | with_reducible apply Take.cons | with_reducible apply Out.there | with_reducible apply Take.skip | with_reducible exact Take.pre _ _ | with_reducible apply Out.app)⟩
                · try simp only [decide_eq_true_eq, decide_eq_false_iff_not, Bool.not_eq_true', Bool.not_eq_false', beq_iff_eq, bne_iff_ne, beq_eq_false_iff_ne, bne_eq_false_iff_eq, Int.not_lt, Int.not_le, gt_iff_lt, ge_iff_le, ne_eq] at h10
                  rw [hkq] at h8 h10
                  have hg := kq_good h8 h10
                  refine X_skip ?_
                  refine thenX_normal ?_
                  refine X_region ?_
                  refine XL_det .no (D_pure rfl) rfl ?_
                  refine XL_det .no (D_pure rfl) rfl ?_
                  refine XL_det .no (D_idxA rfl rfl arr_43 rfl (by omega) rfl) rfl ?_
                  refine XL_efd .no (F_st (k := 0 + i * 1) (cs' := encE (partE (pieces s) (i + 1))) rfl rfl rfl (by repeat first | with_reducible exact .here _ _ | with_reducible apply Out.there | with_reducible apply Out.app) tk_3 (by rw [Nat.zero_add]; exact (by simp; omega)) (part_set hqp (by omega) (by rw [if_pos hi1, hkq]; exact hg.1))) ?_
                  refine XL_nil ?_
                  refine inBlk_normal ?_
                  refine thenX_normal ?_
                  refine X_region ?_
                  refine XL_det .no (D_pure rfl) rfl ?_
                  refine XL_det .no (D_add rfl rfl (by omega) (by omega)) rfl ?_
                  refine XL_det .no (D_pure rfl) rfl ?_
                  refine XL_nil ?_
                  refine loopQ_next (i + 1) ?_ ?_ ?_ ?_
                  · exact ⟨by omega, okTo_s hqp hok (fun h => absurd hi1 h), fun _ => by rw [getD_of hq1]; exact hg.2⟩
                  · omega
                  · refine ⟨?_, ?_, ?_, ?_, trivial⟩ <;> rfl
                  · exact ⟨_, (by repeat first | with_reducible exact .nil _ | with_reducible exact .here _ _ | exact .here _ _ | with_reducible exact Take.self _ | with_reducible apply Take.cons | with_reducible apply Out.there | with_reducible apply Take.skip | with_reducible exact Take.pre _ _ | with_reducible apply Out.app)⟩
              · try simp only [decide_eq_true_eq, decide_eq_false_iff_not, Bool.not_eq_true', Bool.not_eq_false', beq_iff_eq, bne_iff_ne, beq_eq_false_iff_ne, bne_eq_false_iff_eq, Int.not_lt, Int.not_le, gt_iff_lt, ge_iff_le, ne_eq] at h9
                omega
      · try simp only [decide_eq_true_eq, decide_eq_false_iff_not, Bool.not_eq_true', Bool.not_eq_false', beq_iff_eq, bne_iff_ne, beq_eq_false_iff_ne, bne_eq_false_iff_eq, Int.not_lt, Int.not_le, gt_iff_lt, ge_iff_le, ne_eq] at h2
        have hi4 : i = 4 := by omega
        refine X_exit ?_
        refine thenX_exit ?_
        refine loopQ_exit ?_
        refine inBlk_here ?_
        refine thenX_normal ?_
        refine X_seq ?_
        refine X_region ?_
        refine XL_det .no (D_ldso rfl (by repeat first | with_reducible exact .here _ _ | with_reducible apply Out.there | with_reducible apply Out.app) tk_43 rfl (by rfl)) rfl ?_
        refine XL_efd .no (F_stw rfl rfl rfl (by repeat first | with_reducible exact .here _ _ | with_reducible apply Out.there | with_reducible apply Out.app) tk_43 rfl rfl) ?_
        refine XL_det .no (D_pure rfl) rfl ?_
        refine XL_then ?_
        refine X_ret ?_
        refine ret_ok (.nil _) (res_celltmp rfl rfl (by repeat first | with_reducible exact .here _ _ | with_reducible apply Out.there | with_reducible apply Out.app) tk_43 (by rfl) rfl) ?_
        exact ⟨_, ⟨_, _, rfl, rfl, fun _ => by rw [hi4] at hok hkd ⊢; exact readP_part hpl hok (hkd (by decide)), fun h => (by cases h)⟩, _, (by repeat first | with_reducible exact .nil _ | with_reducible exact .here _ _ | with_reducible exact Take.self _ | with_reducible apply Take.cons | with_reducible apply Out.there | with_reducible apply Take.skip | with_reducible exact Take.pre _ _ | with_reducible apply Out.app)⟩

end Go.Proofs.Ytjcpggoodbkedaa
end

section
namespace Go.Proofs.Ytjcpggoodbkedaa
open Go Go.Sl
set_option linter.unusedVariables false
set_option linter.unusedSimpArgs false
set_option maxRecDepth 4000
variable {B : Nat} {K : Asrt B}
theorem bld_36 : bldOf Try.prog 36 = some ([.int .i64 0, .int .i64 0, .int .i64 0, .int .i64 0], [(0, 1), (1, 1), (2, 1), (3, 1)]) := by kernel_rfl
theorem en_19 : Go.Proofs.Enters Try.prog 19 := Go.Proofs.enters_of Try.func19 (by kernel_rfl) rfl
theorem en_20 : Go.Proofs.Enters Try.prog 20 := Go.Proofs.enters_of Try.func20 (by kernel_rfl) rfl
theorem en_21 : Go.Proofs.Enters Try.prog 21 := Go.Proofs.enters_of Try.func21 (by kernel_rfl) rfl
theorem en_22 : Go.Proofs.Enters Try.prog 22 := Go.Proofs.enters_of Try.func22 (by kernel_rfl) rfl
theorem en_23 : Go.Proofs.Enters Try.prog 23 := Go.Proofs.enters_of Try.func23 (by kernel_rfl) rfl
theorem en_25 : Go.Proofs.Enters Try.prog 25 := Go.Proofs.enters_of Try.func25 (by kernel_rfl) rfl
theorem eqg_36 : Try.prog.eqGuardType Try.prog.depth 36 = false := by kernel_rfl
theorem eqg_43 : Try.prog.eqGuardType Try.prog.depth 43 = false := by kernel_rfl
theorem eqk_36 : eqKinds Try.prog 12 36 = some [some .i64, some .i64, some .i64, some .i64] := by kernel_rfl
theorem eqk_43 : eqKinds Try.prog 12 43 = some [some .i64, some .i64, some .i64, some .i64] := by kernel_rfl
theorem ub_4 : Try.prog.underlying 4 = some .bool := by kernel_rfl

abbrev e31 : Ev := ⟨7, 3, 2, 5⟩
theorem line31 : lineE e31 = [55, 32, 111, 118, 101, 114, 32, 50, 32, 53] := by kernel_rfl
theorem read31 : readP (pieces [55, 32, 111, 118, 101, 114, 32, 50, 32, 53]) = some e31 := by
  have h := read_back e31; rw [line31] at h; rw [h]; rfl
theorem rd_get {p : List (List UInt8)} {x e : Ev} {b : Bool} (h : rdSpec p x b) (hr : readP p = some e) : b = true ∧ x = e := by
  cases b with
  | true => have := h.1 rfl; rw [hr] at this; exact ⟨rfl, (Option.some.inj this).symm⟩
  | false => have := h.2 rfl; rw [hr] at this; cases this
theorem rd_same {p : List (List UInt8)} {x y : Ev} {b c : Bool} (h1 : rdSpec p x b) (h2 : rdSpec p y c) : b = c ∧ (b = true → x = y) := by
  cases b with
  | true => obtain ⟨h, e⟩ := rd_get h2 (h1.1 rfl); exact ⟨h.symm, fun _ => e.symm⟩
  | false =>
    cases c with
    | true => have := h2.1 rfl; rw [h1.2 rfl] at this; cases this
    | false => exact ⟨rfl, fun h => by cases h⟩
theorem rd_back {e z : Ev} {b : Bool} (h : rdSpec (pieces (lineE e)) z b) : b = rtE e ∧ (rtE e = true → z = e) := by
  have hr := read_back e
  cases he : rtE e with
  | true => rw [he] at hr; obtain ⟨h1, h2⟩ := rd_get h hr; exact ⟨h1, fun _ => h2⟩
  | false =>
    rw [he] at hr
    cases b with
    | true => have := h.1 rfl; rw [hr] at this; cases this
    | false => exact ⟨rfl, fun h => by cases h⟩
theorem ev_same (x : Ev) : cellsEq (encE x) (encE x) = true := by simp [cellsEq, veq]
theorem line_right (e : Ev) : (rtE e != !(lineE e == [])) = false := by rw [lineE_ne]; simp
theorem line_there (e : Ev) : (rtE e == !(lineE e == [])) = true := by rw [lineE_ne]; simp

theorem alive31  : Ctr Try.prog B 25 [] [] (fun v S => v = .bool true ∧ S = []) := by
  refine Ctr_of_X (N := 22) Try.func25 rfl (by simp) rfl ?_
  intro w0 D0
  refine X_seq ?_
  refine X_region ?_
  refine XL_det .no (D_pure rfl) rfl ?_
  refine XL_then ?_
  refine X_seq ?_
  refine X_region ?_
  refine XL_det .no (D_build [_, _, _, _] rfl bld_36 (by rfl)) rfl ?_
  refine XL_alloc .no zero_36 rfl (fun b1 => ?_)
  refine XL_efd .no (F_stw (vs := encE e31) rfl rfl (by rfl) (by repeat first | with_reducible exact .here _ _ | with_reducible apply Out.there | with_reducible apply Out.app) tk_36 rfl rfl) ?_
  refine XL_then ?_
  refine X_seq ?_
  refine X_region ?_
  refine XL_call .no en_22 rfl (tRead [55, 32, 111, 118, 101, 114, 32, 50, 32, 53] (by decide)) (by repeat first | with_reducible exact .nil _ | with_reducible exact .here _ _ | with_reducible exact Take.self _ | with_reducible apply Take.cons | with_reducible apply Out.there | with_reducible apply Take.skip | with_reducible exact Take.pre _ _ | with_reducible apply Out.app) rfl ?_
  rintro _ _ ⟨x, bb, rfl, rfl, hsp⟩
  simp only [List.cons_append, List.nil_append]
  obtain ⟨rfl, rfl⟩ := rd_get hsp read31
  refine XL_det .no (D_pure rfl) rfl ?_
  refine XL_det .no (D_pure (v := .agg (encE e31).toArray) rfl) rfl ?_
  refine XL_det .no (D_pure (v := .bool true) rfl) rfl ?_
  refine XL_alloc .no zero_36 rfl (fun b2 => ?_)
  refine XL_efd .no (F_stw (vs := encE e31) rfl rfl (by rfl) (by repeat first | with_reducible exact .here _ _ | with_reducible apply Out.there | with_reducible apply Out.app) tk_36 rfl rfl) ?_
  refine XL_det .no (D_pure rfl) rfl ?_
  refine XL_then ?_
  refine X_seq ?_
  refine X_region ?_
  refine XL_det .no (D_ldso (vs := encE e31) rfl (by repeat first | with_reducible exact .here _ _ | with_reducible apply Out.there | with_reducible apply Out.app) tk_36 rfl (by rfl)) rfl ?_
  refine XL_callv .no en_19 rfl (tLine e31) rfl ?_
  rw [line31]
  refine XL_det .no (D_seq (q := true) rfl rfl rfl) rfl ?_
  refine XL_det .no (D_pure rfl) rfl ?_
  refine XL_det (.yes 12 rfl rfl rfl) (D_pure rfl) rfl ?_
  refine XL_det .no (D_pure rfl) rfl ?_
  refine XL_det .no (D_pure rfl) rfl ?_
  refine XL_det (.yes 15 rfl rfl rfl) (D_ldso (vs := encE e31) rfl (by repeat first | with_reducible exact .here _ _ | with_reducible apply Out.there | with_reducible apply Out.app) tk_36 rfl (by rfl)) rfl ?_
  refine XL_det (.yes 15 rfl rfl rfl) (D_ldso (vs := encE e31) rfl (by repeat first | with_reducible exact .here _ _ | with_reducible apply Out.there | with_reducible apply Out.app) tk_36 rfl (by rfl)) rfl ?_
  refine XL_det (.yes 15 rfl rfl rfl) (D_eqs (b := true) rfl rfl eqk_36 eqg_36 rfl rfl rfl rfl) rfl ?_
  refine XL_det .no (D_pure rfl) rfl ?_
  refine XL_det .no (D_pure rfl) rfl ?_
  refine XL_det .no (D_pure rfl) rfl ?_
  refine XL_det .no (D_pure rfl) rfl ?_
  refine XL_then ?_
  refine X_ret ?_
  refine ret_ok (.nil _) (res_tmp rfl rfl) ?_
  exact ⟨_, ⟨rfl, rfl⟩, _, (by repeat first | with_reducible exact .nil _ | with_reducible exact .here _ _ | with_reducible exact Take.self _ | with_reducible apply Take.cons | with_reducible apply Out.there | with_reducible apply Take.skip | with_reducible exact Take.pre _ _ | with_reducible apply Out.app)⟩

theorem traceLines (e : Ev) (s : List UInt8) : Ctr Try.prog B 5 [.agg (encE e).toArray, str s] [] (fun v S => v = .bool true ∧ S = []) := by
  refine Ctr_of_X (N := 76) Try.func5 rfl (by simp) rfl ?_
  intro w0 D0
  refine X_seq ?_
  refine X_region ?_
  refine XL_box (cs := encE e) .no rfl rfl rfl (fun b1 => ?_)
  refine XL_det .no (D_pure rfl) rfl ?_
  refine XL_then ?_
  refine X_seq ?_
  refine X_seq ?_
  refine X_region ?_
  refine XL_det .no (D_pure rfl) rfl ?_
  refine XL_det .no (D_slen rfl rfl us_9) rfl ?_
  refine XL_det .no (D_pure rfl) rfl ?_
  refine XL_then ?_
  refine X_cond rfl (fun h1 => ?_) (fun h1 => ?_)
  · try simp only [decide_eq_true_eq, decide_eq_false_iff_not, Bool.not_eq_true', Bool.not_eq_false', beq_iff_eq, bne_iff_ne, beq_eq_false_iff_ne, bne_eq_false_iff_eq, Int.not_lt, Int.not_le, gt_iff_lt, ge_iff_le, ne_eq] at h1
    refine X_seq ?_
    refine X_region ?_
    refine XL_det .no (D_pure rfl) rfl ?_
    refine XL_then ?_
    refine X_ret ?_
    refine thenX_ret ?_
    refine ret_ok (.nil _) (res_tmp rfl rfl) ?_
    exact ⟨_, ⟨rfl, rfl⟩, _, (by repeat first | with_reducible exact .nil _ | with_reducible exact .here _ _ | with_reducible exact Take.self _ | with_reducible apply Take.cons | with_reducible apply Out.there | with_reducible apply Take.skip | with_reducible exact Take.pre _ _ | with_reducible apply Out.app)⟩
  · try simp only [decide_eq_true_eq, decide_eq_false_iff_not, Bool.not_eq_true', Bool.not_eq_false', beq_iff_eq, bne_iff_ne, beq_eq_false_iff_ne, bne_eq_false_iff_eq, Int.not_lt, Int.not_le, gt_iff_lt, ge_iff_le, ne_eq] at h1
    refine X_skip ?_
    refine thenX_normal ?_
    refine X_seq ?_
    refine X_region ?_
    refine XL_det .no (D_ldso (vs := encE e) rfl (by repeat first | with_reducible exact .here _ _ | with_reducible apply Out.there | with_reducible apply Out.app) tk_36 rfl (by rfl)) rfl ?_
    refine XL_callv .no en_19 rfl (tLine e) rfl ?_
    refine XL_det .no (D_pure rfl) rfl ?_
    refine XL_then ?_
    refine X_seq ?_
    refine X_region ?_
    refine XL_det .no (D_ldso (vs := encE e) rfl (by repeat first | with_reducible exact .here _ _ | with_reducible apply Out.there | with_reducible apply Out.app) tk_36 rfl (by rfl)) rfl ?_
    refine XL_callv .no en_21 rfl (plain e) rfl ?_
    refine XL_callv .no en_20 rfl (rLine e) rfl ?_
    refine XL_det .no (D_pure rfl) rfl ?_
    refine XL_then ?_
    refine X_seq ?_
    refine X_region ?_
    refine XL_det .no (D_pure rfl) rfl ?_
    refine XL_call .no en_22 rfl (tRead s (by omega)) (by repeat first | with_reducible exact .nil _ | with_reducible exact .here _ _ | with_reducible exact Take.self _ | with_reducible apply Take.cons | with_reducible apply Out.there | with_reducible apply Take.skip | with_reducible exact Take.pre _ _ | with_reducible apply Out.app) rfl ?_
    rintro _ _ ⟨x, bb, rfl, rfl, hs1⟩
    simp only [List.cons_append, List.nil_append]
    refine XL_det .no (D_pure rfl) rfl ?_
    refine XL_det .no (D_pure (v := .agg (encE x).toArray) rfl) rfl ?_
    refine XL_det .no (D_pure (v := .bool bb) rfl) rfl ?_
    refine XL_alloc .no zero_36 rfl (fun b2 => ?_)
    refine XL_efd .no (F_stw (vs := encE x) rfl rfl (by rfl) (by repeat first | with_reducible exact .here _ _ | with_reducible apply Out.there | with_reducible apply Out.app) tk_36 rfl rfl) ?_
    refine XL_det .no (D_pure rfl) rfl ?_
    refine XL_then ?_
    refine X_seq ?_
    refine X_region ?_
    refine XL_det .no (D_pure rfl) rfl ?_
    refine XL_call .no en_23 rfl (rRead s (by omega)) (by repeat first | with_reducible exact .nil _ | with_reducible exact .here _ _ | with_reducible exact Take.self _ | with_reducible apply Take.cons | with_reducible apply Out.there | with_reducible apply Take.skip | with_reducible exact Take.pre _ _ | with_reducible apply Out.app) rfl ?_
    rintro _ _ ⟨y, cc, rfl, rfl, hs2⟩
    simp only [List.cons_append, List.nil_append]
    obtain ⟨rfl, hxy⟩ := rd_same hs1 hs2
    refine XL_det .no (D_pure rfl) rfl ?_
    refine XL_det .no (D_pure (v := .agg (encE y).toArray) rfl) rfl ?_
    refine XL_det .no (D_pure (v := .bool bb) rfl) rfl ?_
    refine XL_alloc .no zero_43 rfl (fun b3 => ?_)
    refine XL_efd .no (F_stw (vs := encE y) rfl rfl (by rfl) (by repeat first | with_reducible exact .here _ _ | with_reducible apply Out.there | with_reducible apply Out.app) tk_43 rfl rfl) ?_
    refine XL_det .no (D_pure rfl) rfl ?_
    refine XL_then ?_
    refine X_seq ?_
    refine X_seq ?_
    refine X_draw _ mixed (Take.self _) ?_
    refine XA_detp 0 rfl (by kernel_rfl) (by kernel_rfl) (by kernel_rfl) (fun _ _ _ _ h => h) .no (D_pureP rfl) rfl ?_
    refine XA_detp 1 rfl (by kernel_rfl) (by kernel_rfl) (by kernel_rfl) (fun _ _ _ _ h => h) .no (D_pureP rfl) rfl ?_
    refine XA_det 2 rfl (by kernel_rfl) (by kernel_rfl) (by kernel_rfl) (by kernel_rfl) (fun _ _ _ _ h => h) .no (D_seq (q := false) rfl rfl (by show (!(_ == _)) = false; simp)) rfl ?_
    refine XA_detp 3 rfl (by kernel_rfl) (by kernel_rfl) (by kernel_rfl) (fun _ _ _ _ h => h) .no (D_pureP rfl) rfl ?_
    refine XA_det 4 rfl (by kernel_rfl) (by kernel_rfl) (by kernel_rfl) (by kernel_rfl) (fun _ _ _ _ h => h) (.yes 34 rfl rfl rfl) (D_ldso (vs := encE e) rfl (by repeat first | with_reducible exact .here _ _ | with_reducible apply Out.there | with_reducible apply Out.app) tk_36 rfl (by rfl)) rfl ?_
    refine XA_detp 6 rfl (by kernel_rfl) (by kernel_rfl) (by kernel_rfl) (fun _ _ _ _ h => h) (.yes 34 rfl rfl rfl) (D_pureP rfl) rfl ?_
    refine XA_det 7 rfl (by kernel_rfl) (by kernel_rfl) (by kernel_rfl) (by kernel_rfl) (fun _ _ _ _ h => h) (.yes 34 rfl rfl rfl) (D_seq (b := []) rfl rfl rfl) rfl ?_
    refine XA_one 5 (by kernel_rfl) ?_
    refine XO_callv rfl (.yes 34 rfl rfl rfl) en_24 rfl (tRight e) rfl ?_
    refine XA_det 8 rfl (by kernel_rfl) (by kernel_rfl) (by kernel_rfl) (by kernel_rfl) (fun _ _ _ _ h => h) (.yes 34 rfl rfl rfl) (D_eqb (b := false) rfl rfl ub_4 (line_right e)) rfl ?_
    refine XA_detp 9 rfl (by kernel_rfl) (by kernel_rfl) (by kernel_rfl) (fun _ _ _ _ h => h) .no (D_pureP rfl) rfl ?_
    refine XA_detp 10 rfl (by kernel_rfl) (by kernel_rfl) (by kernel_rfl) (fun _ _ _ _ h => h) .no (D_pureP rfl) rfl ?_
    refine XA_detp 11 rfl (by kernel_rfl) (by kernel_rfl) (by kernel_rfl) (fun _ _ _ _ h => h) (.yes 41 rfl rfl rfl) (D_pureP rfl) rfl ?_
    refine XA_detp 12 rfl (by kernel_rfl) (by kernel_rfl) (by kernel_rfl) (fun _ _ _ _ h => h) (.yes 41 rfl rfl rfl) (D_pureP rfl) rfl ?_
    refine XA_det 13 rfl (by kernel_rfl) (by kernel_rfl) (by kernel_rfl) (by kernel_rfl) (fun _ _ _ _ h => h) (.yes 41 rfl rfl rfl) (D_eqb (b := false) rfl rfl ub_4 (by show (_ != _) = false; simp)) rfl ?_
    refine XA_detp 14 rfl (by kernel_rfl) (by kernel_rfl) (by kernel_rfl) (fun _ _ _ _ h => h) .no (D_pureP rfl) rfl ?_
    refine XA_detp 15 rfl (by kernel_rfl) (by kernel_rfl) (by kernel_rfl) (fun _ _ _ _ h => h) .no (D_pureP rfl) rfl ?_
    refine XA_detp 16 rfl (by kernel_rfl) (by kernel_rfl) (by kernel_rfl) (fun _ _ _ _ h => h) (.yes 46 rfl rfl rfl) (D_pureP rfl) rfl ?_
    refine XA_detp 17 rfl (by kernel_rfl) (by kernel_rfl) (by kernel_rfl) (fun _ _ _ _ h => h) (.yes 46 rfl rfl rfl) (D_pureP rfl) rfl ?_
    refine XA_split (t := 48) rfl (fun h2 => ?_) (fun h2 => ?_)
    · try simp only [decide_eq_true_eq, decide_eq_false_iff_not, Bool.not_eq_true', Bool.not_eq_false', beq_iff_eq, bne_iff_ne, beq_eq_false_iff_ne, bne_eq_false_iff_eq, Int.not_lt, Int.not_le, gt_iff_lt, ge_iff_le, ne_eq] at h2
      refine XA_det 18 rfl (by kernel_rfl) (by kernel_rfl) (by kernel_rfl) (by kernel_rfl) (fun _ _ _ _ h => h) (.yes 48 rfl rfl rfl) (D_ldso (vs := encE x) rfl (by repeat first | with_reducible exact .here _ _ | with_reducible apply Out.there | with_reducible apply Out.app) tk_36 rfl (by rfl)) rfl ?_
      refine XA_det 20 rfl (by kernel_rfl) (by kernel_rfl) (by kernel_rfl) (by kernel_rfl) (fun _ _ _ _ h => h) (.yes 48 rfl rfl rfl) (D_ldso (vs := encE y) rfl (by repeat first | with_reducible exact .here _ _ | with_reducible apply Out.there | with_reducible apply Out.app) tk_43 rfl (by rfl)) rfl ?_
      refine XA_one 19 (by kernel_rfl) ?_
      refine XO_callv rfl (.yes 48 rfl rfl rfl) en_21 rfl (plain x) rfl ?_
      refine XA_det 21 rfl (by kernel_rfl) (by kernel_rfl) (by kernel_rfl) (by kernel_rfl) (fun _ _ _ _ h => h) (.yes 48 rfl rfl rfl) (D_eqs (b := false) rfl rfl eqk_43 eqg_43 rfl rfl rfl (by show (!cellsEq _ _) = false; rw [hxy h2, ev_same]; rfl)) rfl ?_
      refine XA_detp 22 rfl (by kernel_rfl) (by kernel_rfl) (by kernel_rfl) (fun _ _ _ _ h => h) (.yes 46 rfl rfl rfl) (D_pureP rfl) rfl ?_
      refine XA_detp 23 rfl (by kernel_rfl) (by kernel_rfl) (by kernel_rfl) (fun _ _ _ _ h => h) .no (D_pureP rfl) rfl ?_
      refine XA_done (by kernel_rfl) ?_
      try simp only [List.cons_append, List.nil_append, List.append_nil]
      refine thenX_normal ?_
      refine X_cond_f rfl rfl ?_
      refine X_skip ?_
      refine thenX_normal ?_
      refine X_seq ?_
      refine X_region ?_
      refine XL_det .no (D_pure rfl) rfl ?_
      refine XL_call .no en_22 rfl (tRead (lineE e) (by have := lineE_len e; omega)) (by repeat first | with_reducible exact .nil _ | with_reducible exact .here _ _ | with_reducible exact Take.self _ | with_reducible apply Take.cons | with_reducible apply Out.there | with_reducible apply Take.skip | with_reducible exact Take.pre _ _ | with_reducible apply Out.app) rfl ?_
      rintro _ _ ⟨z, dd, rfl, rfl, hs3⟩
      simp only [List.cons_append, List.nil_append]
      obtain ⟨rfl, hze⟩ := rd_back hs3
      refine XL_det .no (D_pure rfl) rfl ?_
      refine XL_det .no (D_pure (v := .agg (encE z).toArray) rfl) rfl ?_
      refine XL_det .no (D_pure (v := .bool (rtE e)) rfl) rfl ?_
      refine XL_alloc .no zero_36 rfl (fun b4 => ?_)
      refine XL_efd .no (F_stw (vs := encE z) rfl rfl (by rfl) (by repeat first | with_reducible exact .here _ _ | with_reducible apply Out.there | with_reducible apply Out.app) tk_36 rfl rfl) ?_
      refine XL_det .no (D_pure rfl) rfl ?_
      refine XL_then ?_
      refine X_seq ?_
      refine X_region ?_
      refine XL_det .no (D_pure rfl) rfl ?_
      refine XL_det .no (D_pure rfl) rfl ?_
      refine XL_det .no (D_seq (b := []) rfl rfl rfl) rfl ?_
      refine XL_det .no (D_eqb (b := true) rfl rfl ub_4 (line_there e)) rfl ?_
      refine XL_det .no (D_pure rfl) rfl ?_
      refine XL_det (.yes 64 rfl rfl rfl) (D_pure rfl) rfl ?_
      refine XL_det (.yes 64 rfl rfl rfl) (D_pure rfl) rfl ?_
      refine XL_det (.yes 64 rfl rfl rfl) (D_pure rfl) rfl ?_
      refine XL_split (t := 67) rfl (fun h3 => ?_) (fun h3 => ?_)
      · try simp only [decide_eq_true_eq, decide_eq_false_iff_not, Bool.not_eq_true', Bool.not_eq_false', beq_iff_eq, bne_iff_ne, beq_eq_false_iff_ne, bne_eq_false_iff_eq, Int.not_lt, Int.not_le, gt_iff_lt, ge_iff_le, ne_eq] at h3
        refine XL_skip 67 rfl rfl rfl rfl rfl ?_
        refine XL_skip 67 rfl rfl rfl rfl rfl ?_
        refine XL_skip 67 rfl rfl rfl rfl rfl ?_
        refine XL_det (.yes 64 rfl rfl rfl) (D_pure rfl) rfl ?_
        refine XL_det .no (D_pure rfl) rfl ?_
        refine XL_det .no (D_pure rfl) rfl ?_
        refine XL_callv (.yes 73 rfl rfl rfl) en_25 rfl (alive31) rfl ?_
        refine XL_det .no (D_pure rfl) rfl ?_
        refine XL_det .no (D_pure rfl) rfl ?_
        refine XL_then ?_
        refine X_ret ?_
        refine ret_ok (.nil _) (res_tmp rfl rfl) ?_
        exact ⟨_, ⟨rfl, rfl⟩, _, (by repeat first | with_reducible exact .nil _ | with_reducible exact .here _ _ | with_reducible exact Take.self _ | with_reducible apply Take.cons | with_reducible apply Out.there | with_reducible apply Take.skip | with_reducible exact Take.pre _ _ | with_reducible apply Out.app)⟩
      · try simp only [decide_eq_true_eq, decide_eq_false_iff_not, Bool.not_eq_true', Bool.not_eq_false', beq_iff_eq, bne_iff_ne, beq_eq_false_iff_ne, bne_eq_false_iff_eq, Int.not_lt, Int.not_le, gt_iff_lt, ge_iff_le, ne_eq] at h3
        refine XL_det (.yes 67 rfl rfl rfl) (D_ldso (vs := encE z) rfl (by repeat first | with_reducible exact .here _ _ | with_reducible apply Out.there | with_reducible apply Out.app) tk_36 rfl (by rfl)) rfl ?_
        refine XL_det (.yes 67 rfl rfl rfl) (D_ldso (vs := encE e) rfl (by repeat first | with_reducible exact .here _ _ | with_reducible apply Out.there | with_reducible apply Out.app) tk_36 rfl (by rfl)) rfl ?_
        refine XL_det (.yes 67 rfl rfl rfl) (D_eqs (b := true) rfl rfl eqk_36 eqg_36 rfl rfl rfl (by show cellsEq _ _ = true; rw [hze h3]; exact ev_same e)) rfl ?_
        refine XL_det (.yes 64 rfl rfl rfl) (D_pure rfl) rfl ?_
        refine XL_det .no (D_pure rfl) rfl ?_
        refine XL_det .no (D_pure rfl) rfl ?_
        refine XL_callv (.yes 73 rfl rfl rfl) en_25 rfl (alive31) rfl ?_
        refine XL_det .no (D_pure rfl) rfl ?_
        refine XL_det .no (D_pure rfl) rfl ?_
        refine XL_then ?_
        refine X_ret ?_
        refine ret_ok (.nil _) (res_tmp rfl rfl) ?_
        exact ⟨_, ⟨rfl, rfl⟩, _, (by repeat first | with_reducible exact .nil _ | with_reducible exact .here _ _ | with_reducible exact Take.self _ | with_reducible apply Take.cons | with_reducible apply Out.there | with_reducible apply Take.skip | with_reducible exact Take.pre _ _ | with_reducible apply Out.app)⟩
    · try simp only [decide_eq_true_eq, decide_eq_false_iff_not, Bool.not_eq_true', Bool.not_eq_false', beq_iff_eq, bne_iff_ne, beq_eq_false_iff_ne, bne_eq_false_iff_eq, Int.not_lt, Int.not_le, gt_iff_lt, ge_iff_le, ne_eq] at h2
      refine XA_skipp 18 48 rfl (by kernel_rfl) (by kernel_rfl) (by kernel_rfl) (fun _ _ _ _ h => h) rfl rfl rfl rfl rfl ?_
      refine XA_skipp 19 48 rfl (by kernel_rfl) (by kernel_rfl) (by kernel_rfl) (fun _ _ _ _ h => h) rfl rfl rfl rfl rfl ?_
      refine XA_skipp 20 48 rfl (by kernel_rfl) (by kernel_rfl) (by kernel_rfl) (fun _ _ _ _ h => h) rfl rfl rfl rfl rfl ?_
      refine XA_skipp 21 48 rfl (by kernel_rfl) (by kernel_rfl) (by kernel_rfl) (fun _ _ _ _ h => h) rfl rfl rfl rfl rfl ?_
      refine XA_detp 22 rfl (by kernel_rfl) (by kernel_rfl) (by kernel_rfl) (fun _ _ _ _ h => h) (.yes 46 rfl rfl rfl) (D_pureP rfl) rfl ?_
      refine XA_detp 23 rfl (by kernel_rfl) (by kernel_rfl) (by kernel_rfl) (fun _ _ _ _ h => h) .no (D_pureP rfl) rfl ?_
      refine XA_done (by kernel_rfl) ?_
      try simp only [List.cons_append, List.nil_append, List.append_nil]
      refine thenX_normal ?_
      refine X_cond_f rfl rfl ?_
      refine X_skip ?_
      refine thenX_normal ?_
      refine X_seq ?_
      refine X_region ?_
      refine XL_det .no (D_pure rfl) rfl ?_
      refine XL_call .no en_22 rfl (tRead (lineE e) (by have := lineE_len e; omega)) (by repeat first | with_reducible exact .nil _ | with_reducible exact .here _ _ | with_reducible exact Take.self _ | with_reducible apply Take.cons | with_reducible apply Out.there | with_reducible apply Take.skip | with_reducible exact Take.pre _ _ | with_reducible apply Out.app) rfl ?_
      rintro _ _ ⟨z, dd, rfl, rfl, hs3⟩
      simp only [List.cons_append, List.nil_append]
      obtain ⟨rfl, hze⟩ := rd_back hs3
      refine XL_det .no (D_pure rfl) rfl ?_
      refine XL_det .no (D_pure (v := .agg (encE z).toArray) rfl) rfl ?_
      refine XL_det .no (D_pure (v := .bool (rtE e)) rfl) rfl ?_
      refine XL_alloc .no zero_36 rfl (fun b5 => ?_)
      refine XL_efd .no (F_stw (vs := encE z) rfl rfl (by rfl) (by repeat first | with_reducible exact .here _ _ | with_reducible apply Out.there | with_reducible apply Out.app) tk_36 rfl rfl) ?_
      refine XL_det .no (D_pure rfl) rfl ?_
      refine XL_then ?_
      refine X_seq ?_
      refine X_region ?_
      refine XL_det .no (D_pure rfl) rfl ?_
      refine XL_det .no (D_pure rfl) rfl ?_
      refine XL_det .no (D_seq (b := []) rfl rfl rfl) rfl ?_
      refine XL_det .no (D_eqb (b := true) rfl rfl ub_4 (line_there e)) rfl ?_
      refine XL_det .no (D_pure rfl) rfl ?_
      refine XL_det (.yes 64 rfl rfl rfl) (D_pure rfl) rfl ?_
      refine XL_det (.yes 64 rfl rfl rfl) (D_pure rfl) rfl ?_
      refine XL_det (.yes 64 rfl rfl rfl) (D_pure rfl) rfl ?_
      refine XL_split (t := 67) rfl (fun h4 => ?_) (fun h4 => ?_)
      · try simp only [decide_eq_true_eq, decide_eq_false_iff_not, Bool.not_eq_true', Bool.not_eq_false', beq_iff_eq, bne_iff_ne, beq_eq_false_iff_ne, bne_eq_false_iff_eq, Int.not_lt, Int.not_le, gt_iff_lt, ge_iff_le, ne_eq] at h4
        refine XL_skip 67 rfl rfl rfl rfl rfl ?_
        refine XL_skip 67 rfl rfl rfl rfl rfl ?_
        refine XL_skip 67 rfl rfl rfl rfl rfl ?_
        refine XL_det (.yes 64 rfl rfl rfl) (D_pure rfl) rfl ?_
        refine XL_det .no (D_pure rfl) rfl ?_
        refine XL_det .no (D_pure rfl) rfl ?_
        refine XL_callv (.yes 73 rfl rfl rfl) en_25 rfl (alive31) rfl ?_
        refine XL_det .no (D_pure rfl) rfl ?_
        refine XL_det .no (D_pure rfl) rfl ?_
        refine XL_then ?_
        refine X_ret ?_
        refine ret_ok (.nil _) (res_tmp rfl rfl) ?_
        exact ⟨_, ⟨rfl, rfl⟩, _, (by repeat first | with_reducible exact .nil _ | with_reducible exact .here _ _ | with_reducible exact Take.self _ | with_reducible apply Take.cons | with_reducible apply Out.there | with_reducible apply Take.skip | with_reducible exact Take.pre _ _ | with_reducible apply Out.app)⟩
      · try simp only [decide_eq_true_eq, decide_eq_false_iff_not, Bool.not_eq_true', Bool.not_eq_false', beq_iff_eq, bne_iff_ne, beq_eq_false_iff_ne, bne_eq_false_iff_eq, Int.not_lt, Int.not_le, gt_iff_lt, ge_iff_le, ne_eq] at h4
        refine XL_det (.yes 67 rfl rfl rfl) (D_ldso (vs := encE z) rfl (by repeat first | with_reducible exact .here _ _ | with_reducible apply Out.there | with_reducible apply Out.app) tk_36 rfl (by rfl)) rfl ?_
        refine XL_det (.yes 67 rfl rfl rfl) (D_ldso (vs := encE e) rfl (by repeat first | with_reducible exact .here _ _ | with_reducible apply Out.there | with_reducible apply Out.app) tk_36 rfl (by rfl)) rfl ?_
        refine XL_det (.yes 67 rfl rfl rfl) (D_eqs (b := true) rfl rfl eqk_36 eqg_36 rfl rfl rfl (by show cellsEq _ _ = true; rw [hze h4]; exact ev_same e)) rfl ?_
        refine XL_det (.yes 64 rfl rfl rfl) (D_pure rfl) rfl ?_
        refine XL_det .no (D_pure rfl) rfl ?_
        refine XL_det .no (D_pure rfl) rfl ?_
        refine XL_callv (.yes 73 rfl rfl rfl) en_25 rfl (alive31) rfl ?_
        refine XL_det .no (D_pure rfl) rfl ?_
        refine XL_det .no (D_pure rfl) rfl ?_
        refine XL_then ?_
        refine X_ret ?_
        refine ret_ok (.nil _) (res_tmp rfl rfl) ?_
        exact ⟨_, ⟨rfl, rfl⟩, _, (by repeat first | with_reducible exact .nil _ | with_reducible exact .here _ _ | with_reducible exact Take.self _ | with_reducible apply Take.cons | with_reducible apply Out.there | with_reducible apply Take.skip | with_reducible exact Take.pre _ _ | with_reducible apply Out.app)⟩

end Go.Proofs.Ytjcpggoodbkedaa
end

section
namespace Go.Proofs.Ytjcpggoodbkedaa
open Go Go.Sl Go.ChangeShapes Go.WideShapes Go.ChangeAt Go.RowKit
set_option linter.unusedVariables false
set_option maxRecDepth 20000
theorem own : ownKnob Try.prog.godebug = none := by kernel_rfl
theorem laidOut : laidOutB Try.prog = true := by kernel_rfl

theorem sz_e : (Try.prog.info? 36).map (·.size) = some 4 := by kernel_rfl

/-- The walk, at the arguments as the row reads them. -/
theorem walkTraceLines (W : World) (args : Array Value) (h : ArgsOk Try.prog W Try.f5.params.toList args.toList) : Calls Try.prog 5 args W fun e w' => e = .returned (.bool true) ∧ Go.RowKit.Below W.heap.size W w' := by
  rw [show Try.f5.params.toList = [36, 9] from by kernel_rfl] at h
  obtain ⟨args⟩ := args
  match args, h with
  | [v0, v1], h =>
    obtain ⟨a0, a1, _⟩ := h
    obtain ⟨e, rfl, _⟩ := arg_flat eqk_36 sz_e (by kernel_rfl) a0
    obtain ⟨bs, rfl⟩ := arg_string us_9 a1
    obtain ⟨⟨bl⟩⟩ := bs
    exact calls_of (old_self W) (((traceLines ⟨e 0, e 1, e 2, e 3⟩ bl).more (.nil _)).mono fun _ _ h => h.1)

set_option maxRecDepth 100000 in
theorem liftedTraceLines (os : Os) (started : os.Started) (H : Type) (enc : TypeId × Value → H) :
    ReturnsInHanded {} Try.checked os 5 .any (Rows.traceLinesSpec.pre6 enc Try.prog Try.f5 Rows.traceLinesRow.domain false) (Rows.traceLinesSpec.post enc Try.prog Try.f5 false true false false) :=
  handed (C := Try.checked) (tb := 4) own started (by kernel_rfl) Try.func5 laidOut (by kernel_rfl) rfl
    (fun ds h => by
      have h : ds.length = 2 := h
      match ds, h with
      | [_, _], _ => exact ⟨rfl, rfl, rfl⟩) (by kernel_rfl) (by kernel_rfl)
    (ChangeSpec.witness6 (enc := enc) (C := Try.checked) false ⟨#[], #[.agg #[.int .i64 0, .int .i64 0, .int .i64 0, .int .i64 0], .string ByteArray.empty], []⟩ 8 (by kernel_rfl) (by kernel_rfl) (by kernel_rfl) (by kernel_rfl))
    (fun W args h => walkTraceLines W args h)

theorem overTraceLines : Rows.traceLinesRow.holds Try.pinned (OpenSpec.ofChange Rows.traceLinesSpec) :=
  OpenClaim.holds_of_wide 5 Try.f5 rfl rfl rfl rfl rfl rfl rfl ⟨rfl, rfl, rfl, rfl, rfl⟩ rfl rfl rfl rfl rfl (by kernel_rfl) Try.func5 (by kernel_rfl)
    (of_decide_eq_true (by kernel_rfl)) (by unfold Func.isWrapper; first | (rw [if_pos (by decide +kernel)]; kernel_rfl) | (rw [if_neg (by decide +kernel)]; exact ⟨rfl, rfl⟩))
    (fun os started H enc _ => liftedTraceLines os started H enc)

/-- The statement. -/
theorem provedTraceLines : Rows.TraceLinesSaid := overTraceLines

#print axioms provedTraceLines
end Go.Proofs.Ytjcpggoodbkedaa
end
