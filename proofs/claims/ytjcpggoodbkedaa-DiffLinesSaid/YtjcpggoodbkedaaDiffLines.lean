/- The given statement DiffLinesSaid is proved: the line of any turn is the one of the document, and empty where there is no such turn. Conditions: none. -/
import Derived.Test.YtjcpggoodbkedaaDiffLinesP1
import Derived.KernelRfl
import Derived.Test.YtjcpggoodbkedaaProg
import Derived.Test.YtjcpggoodbkedaaRows
section
namespace Go.Proofs.Ytjcpggoodbkedaa
open Go Go.Sl
set_option linter.unusedVariables false
set_option linter.unusedSimpArgs false
set_option maxRecDepth 4000
variable {B : Nat} {K : Asrt B}
theorem en_51 : Go.Proofs.Enters Try.prog 51 := Go.Proofs.enters_of Try.func51 (by kernel_rfl) rfl
theorem eqg_113 : Try.prog.eqGuardType Try.prog.depth 113 = false := by kernel_rfl
theorem eqg_75 : Try.prog.eqGuardType Try.prog.depth 75 = false := by kernel_rfl
theorem eqk_113 : eqKinds Try.prog 12 113 = some [some .i64, some .i64, some .i64, some .i64, some .i64, some .i64, some .i64, some .i64, some .i64, some .i64, some .i64, some .i64, some .i64, some .i64, some .i64, some .i64, some .i64, some .i64, some .i64, some .i64, some .i64, some .i64, some .i64] := by kernel_rfl
theorem eqk_75 : eqKinds Try.prog 12 75 = some [some .i64, some .i64, some .i64, some .i64, some .i64, some .i64, some .i64, some .i64, some .i64, some .i64, some .i64] := by kernel_rfl
theorem fld_62_0 : fldOff Try.prog 62 0 = some 0 := by kernel_rfl
theorem fld_62_1 : fldOff Try.prog 62 1 = some 1 := by kernel_rfl
theorem fld_62_2 : fldOff Try.prog 62 2 = some 2 := by kernel_rfl
theorem fld_62_3 : fldOff Try.prog 62 3 = some 3 := by kernel_rfl
theorem slc_58 : slcOf Try.prog 58 = some (75, 11) := by kernel_rfl
theorem slc_60 : slcOf Try.prog 60 = some (113, 23) := by kernel_rfl
theorem tk_113 : tyK Try.prog 113 = some (true, 23) := by kernel_rfl
theorem tk_58 : tyK Try.prog 58 = some (false, 1) := by kernel_rfl
theorem tk_60 : tyK Try.prog 60 = some (false, 1) := by kernel_rfl
theorem tk_75 : tyK Try.prog 75 = some (true, 11) := by kernel_rfl

theorem pre_len2 {x y : Img} (sx : Small x) (sy : Small y) {i : Nat} (hi : i ≤ 1000) : (resT x y ++ tasksT x y i).length ≤ 9000 := by
  have h1 := resT_len x y; have h2 := tasksT_len x y i
  rw [List.length_append]; omega
theorem pre_len3 {x y : Img} (sx : Small x) (sy : Small y) : (resT x y ++ tasksT x y (mx x.tasks.l.length y.tasks.l.length) ++ modesT x.modes.l y.modes.l (mx x.modes.l.length y.modes.l.length)).length ≤ 9000 := by
  have h1 := resT_len x y; have h2 := tasksT_len x y (mx x.tasks.l.length y.tasks.l.length); have h3 := modesT_len x.modes.l y.modes.l (mx x.modes.l.length y.modes.l.length)
  have m1 : mx x.tasks.l.length y.tasks.l.length ≤ 1000 := by have := sx.tasks; have := sy.tasks; show max _ _ ≤ 1000; omega
  have m2 : mx x.modes.l.length y.modes.l.length ≤ 1000 := by have := sx.modes; have := sy.modes; show max _ _ ≤ 1000; omega
  simp only [List.length_append]; omega
theorem pre_len5 {x y : Img} (sx : Small x) (sy : Small y) {i : Nat} (hi : i ≤ 1000) : (resT x y ++ tasksT x y (mx x.tasks.l.length y.tasks.l.length) ++ modesT x.modes.l y.modes.l (mx x.modes.l.length y.modes.l.length) ++ edgesT x y i).length ≤ 9000 := by
  have h1 := resT_len x y; have h2 := tasksT_len x y (mx x.tasks.l.length y.tasks.l.length); have h3 := modesT_len x.modes.l y.modes.l (mx x.modes.l.length y.modes.l.length); have h4 := edgesT_len x y i
  have m1 : mx x.tasks.l.length y.tasks.l.length ≤ 1000 := by have := sx.tasks; have := sy.tasks; show max _ _ ≤ 1000; omega
  have m2 : mx x.modes.l.length y.modes.l.length ≤ 1000 := by have := sx.modes; have := sy.modes; show max _ _ ≤ 1000; omega
  simp only [List.length_append]; omega

theorem dOf (x y : Img) (hx : x.In K) (hy : y.In K) (sx : Small x) (sy : Small y) : Ctr Try.prog B 30 [x.v, y.v] [K] (fun v S => ∃ o : Arr Tn, (o.l = diffOf x y ∧ o.Own) ∧ v = o.v ∧ S = [row (.slice o.oad o.l.length o.c) 69 4 o.l.length (o.l.flatMap encN)] ++ [K]) := by
  refine Ctr_of_X (N := 105) Try.func30 rfl (by simp) rfl ?_
  intro w0 D0
  refine X_rowa encN 69 4 ?_
  refine X_seq ?_
  refine X_region ?_
  refine XL_box .no rfl rfl rfl (fun b1 => ?_)
  refine XL_box .no rfl rfl rfl (fun b2 => ?_)
  refine XL_det .no (D_pure rfl) rfl ?_
  refine XL_then ?_
  refine X_seq ?_
  refine X_region ?_
  refine XL_alloc .no zero_64 rfl (fun b3 => ?_)
  refine XL_then ?_
  refine X_seqj (α := Arr Tn) (fun c => c.l = resT x y ∧ c.Own) (fun c => [(2, .pointer (some ⟨b1, 0, none⟩)), (3, .pointer (some ⟨b2, 0, none⟩)), (5, .pointer (some ⟨b3, 0, none⟩))]) (fun c => [blk b1 [.int .i64 x.res, .slice x.tasks.oad x.tasks.l.length x.tasks.c, .slice x.modes.oad x.modes.l.length x.modes.c, .slice x.edges.oad x.edges.l.length x.edges.c] 62, blk b2 [.int .i64 y.res, .slice y.tasks.oad y.tasks.l.length y.tasks.c, .slice y.modes.oad y.modes.l.length y.modes.c, .slice y.edges.oad y.edges.l.length y.edges.c] 62, blk b3 [.slice c.oad c.l.length c.c] 64, row (.slice c.oad c.l.length c.c) 69 4 c.l.length (c.l.flatMap encN), K]) ?_ ?_
  · skip
    refine X_seq ?_
    refine X_region ?_
    refine XL_det .no (D_fld rfl fld_62_0 (o' := 0) rfl) rfl ?_
    refine XL_det .no (D_ldo rfl (by repeat first | with_reducible exact .here _ _ | with_reducible apply Out.there | with_reducible apply Out.app) tk_3 (by rfl)) rfl ?_
    refine XL_det .no (D_fld rfl fld_62_0 (o' := 0) rfl) rfl ?_
    refine XL_det .no (D_ldo rfl (by repeat first | with_reducible exact .here _ _ | with_reducible apply Out.there | with_reducible apply Out.app) tk_3 (by rfl)) rfl ?_
    refine XL_det .no (D_pure rfl) rfl ?_
    refine XL_then ?_
    refine X_cond rfl (fun h1 => ?_) (fun h1 => ?_)
    · try simp only [decide_eq_true_eq, decide_eq_false_iff_not, Bool.not_eq_true', Bool.not_eq_false', beq_iff_eq, bne_iff_ne, beq_eq_false_iff_ne, bne_eq_false_iff_eq, Int.not_lt, Int.not_le, gt_iff_lt, ge_iff_le, ne_eq] at h1
      refine X_region ?_
      refine XL_det .no (D_ldo rfl (by repeat first | with_reducible exact .here _ _ | with_reducible apply Out.there | with_reducible apply Out.app) tk_64 (by rfl)) rfl ?_
      refine XL_det .no (D_build [_, _, _, _] rfl bld_69 (by rfl)) rfl ?_
      refine XL_bslice (cs := encN ⟨1, 0, true, true⟩) .no rfl slt_64 (by decide) (by decide) (by rfl) (by rfl) rfl rfl (fun b4 => ?_)
      refine XL_app1 (enc := encN) (c := (Arr.emp : Arr Tn)) (y := ⟨1, 0, true, true⟩) (K := _) .no rfl rfl slt_64 (by repeat first | with_reducible exact .here _ _ | with_reducible apply Out.there | with_reducible apply Out.app) (by repeat first | with_reducible exact .here _ _ | with_reducible apply Out.there | with_reducible apply Out.app) (Rd_blk0) rfl rfl (by decide) (by decide) rfl (fun o2 ho2 ho2o => ?_)
      refine XL_efd .no (F_stl rfl rfl rfl (by repeat first | with_reducible exact .here _ _ | with_reducible apply Out.there | with_reducible apply Out.app) tk_64 (by repeat first | exact .zero _ _ _ | apply SetL.succ)) ?_
      refine XL_nil ?_
      refine joinQ_normal o2 ?_ ?_ ?_
      · exact ⟨by rw [ho2, resT, if_neg h1]; rfl, ho2o⟩
      · refine ⟨?_, ?_, ?_, trivial⟩ <;> rfl
      · exact ⟨_, (by repeat first | with_reducible exact .nil _ | with_reducible exact .here _ _ | exact .here _ _ | with_reducible exact Take.self _ | with_reducible apply Take.cons | with_reducible apply Out.there | with_reducible apply Take.skip | with_reducible exact Take.pre _ _ | with_reducible apply Out.app)⟩
    · try simp only [decide_eq_true_eq, decide_eq_false_iff_not, Bool.not_eq_true', Bool.not_eq_false', beq_iff_eq, bne_iff_ne, beq_eq_false_iff_ne, bne_eq_false_iff_eq, Int.not_lt, Int.not_le, gt_iff_lt, ge_iff_le, ne_eq] at h1
      refine X_skip ?_
      refine joinQ_normal (Arr.emp : Arr Tn) ?_ ?_ ?_
      · exact ⟨by rw [resT, if_pos h1]; rfl, Arr.emp_own⟩
      · refine ⟨?_, ?_, ?_, trivial⟩ <;> rfl
      · exact ⟨_, (by repeat first | with_reducible exact .nil _ | with_reducible exact .here _ _ | exact .here _ _ | with_reducible exact Take.self _ | with_reducible apply Take.cons | with_reducible apply Out.there | with_reducible apply Take.skip | with_reducible exact Take.pre _ _ | with_reducible apply Out.app)⟩
  · rintro c2 ⟨hc2, hc2o⟩
    refine X_seq ?_
    refine X_seq ?_
    refine X_region ?_
    refine XL_det .no (D_fld rfl fld_62_1 (o' := 1) rfl) rfl ?_
    refine XL_det .no (D_ldo rfl (by repeat first | with_reducible exact .here _ _ | with_reducible apply Out.there | with_reducible apply Out.app) tk_58 (by rfl)) rfl ?_
    refine XL_det .no (D_len rfl rfl slc_58) rfl ?_
    refine XL_det .no (D_fld rfl fld_62_1 (o' := 1) rfl) rfl ?_
    refine XL_det .no (D_ldo rfl (by repeat first | with_reducible exact .here _ _ | with_reducible apply Out.there | with_reducible apply Out.app) tk_58 (by rfl)) rfl ?_
    refine XL_det .no (D_len rfl rfl slc_58) rfl ?_
    refine XL_call .no en_50 rfl (dplaces x.tasks.l.length y.tasks.l.length) (by repeat first | with_reducible exact .nil _ | with_reducible exact .here _ _ | with_reducible exact Take.self _ | with_reducible apply Take.cons | with_reducible apply Out.there | with_reducible apply Take.skip | with_reducible exact Take.pre _ _ | with_reducible apply Out.app) rfl ?_
    rintro _ _ ⟨ba2, bb2, rfl, rfl⟩
    simp only [List.cons_append, List.nil_append]
    refine XL_then ?_
    refine X_block ?_
    refine X_range (own := [blk ba2 [.int .i64 (x.tasks.l.length : Int)] 3, blk bb2 [.int .i64 (y.tasks.l.length : Int)] 3]) (S1 := [blk b1 [.int .i64 x.res, .slice x.tasks.oad x.tasks.l.length x.tasks.c, .slice x.modes.oad x.modes.l.length x.modes.c, .slice x.edges.oad x.edges.l.length x.edges.c] 62, blk b2 [.int .i64 y.res, .slice y.tasks.oad y.tasks.l.length y.tasks.c, .slice y.modes.oad y.modes.l.length y.modes.c, .slice y.edges.oad y.edges.l.length y.edges.c] 62, blk b3 [.slice c2.oad c2.l.length c2.c] 64, row (.slice c2.oad c2.l.length c2.c) 69 4 c2.l.length (c2.l.flatMap encN), K]) rfl en_59 (plItr ba2 bb2 x.tasks.l.length y.tasks.l.length sx.tasks sy.tasks) (fun i S => ∃ o : Arr Tn, o.l = resT x y ++ tasksT x y i ∧ o.Own ∧ S = [blk b1 [.int .i64 x.res, .slice x.tasks.oad x.tasks.l.length x.tasks.c, .slice x.modes.oad x.modes.l.length x.modes.c, .slice x.edges.oad x.edges.l.length x.edges.c] 62, blk b2 [.int .i64 y.res, .slice y.tasks.oad y.tasks.l.length y.tasks.c, .slice y.modes.oad y.modes.l.length y.modes.c, .slice y.edges.oad y.edges.l.length y.edges.c] 62, blk b3 [.slice o.oad o.l.length o.c] 64, row (.slice o.oad o.l.length o.c) 69 4 o.l.length (o.l.flatMap encN), K]) (fun c i S => False) (show Take ([blk ba2 [.int .i64 (x.tasks.l.length : Int)] 3, blk bb2 [.int .i64 (y.tasks.l.length : Int)] 3, blk b1 [.int .i64 x.res, .slice x.tasks.oad x.tasks.l.length x.tasks.c, .slice x.modes.oad x.modes.l.length x.modes.c, .slice x.edges.oad x.edges.l.length x.edges.c] 62, blk b2 [.int .i64 y.res, .slice y.tasks.oad y.tasks.l.length y.tasks.c, .slice y.modes.oad y.modes.l.length y.modes.c, .slice y.edges.oad y.edges.l.length y.edges.c] 62, blk b3 [.slice c2.oad c2.l.length c2.c] 64, row (.slice c2.oad c2.l.length c2.c) 69 4 c2.l.length (c2.l.flatMap encN), K]) _ _ from (by repeat first | with_reducible exact .nil _ | with_reducible exact .here _ _ | with_reducible exact Take.self _ | with_reducible apply Take.cons | with_reducible apply Out.there | with_reducible apply Take.skip | with_reducible exact Take.pre _ _ | with_reducible apply Out.app)) (⟨c2, (by rw [hc2]; exact (List.append_nil _).symm), hc2o, rfl⟩) rfl (fun x hx => by obtain ⟨y, _, rfl⟩ := List.mem_map.1 hx; rfl) ?_ ?_ ?_
    · intro ly rec A2 i S2 hi hJ
      obtain ⟨o, ho, hoo, rfl⟩ := hJ
      rw [plL_len] at hi
      have hmx : mx x.tasks.l.length y.tasks.l.length ≤ 1000 := by have := sx.tasks; have := sy.tasks; show max _ _ ≤ 1000; omega
      have hol : o.l.length ≤ 9000 := by rw [ho]; exact pre_len2 sx sy (by omega)
      rw [plL_get hi]
      refine X_seq ?_
      refine X_region ?_
      refine XL_det .no (D_pure rfl) rfl ?_
      refine XL_then ?_
      refine X_region ?_
      refine XL_alloc .no zero_108 rfl (fun b5 => ?_)
      refine XL_efd .no (F_stw (vs := [.bool (decide ((i : Int) < (x.tasks.l.length : Int))), .bool (decide ((i : Int) < (y.tasks.l.length : Int)))]) rfl rfl (by rfl) (by repeat first | with_reducible exact .here _ _ | with_reducible apply Out.there | with_reducible apply Out.app) tk_108 rfl rfl) ?_
      refine XL_nil ?_
      refine ⟨rfl, _, _, .cons (by repeat first | with_reducible exact .here _ _ | with_reducible apply Out.there | with_reducible apply Out.app) (Take.self _), fun rec2 => ?_⟩
      refine X_block ?_
      refine X_seq ?_
      refine X_draw _ mixed (Take.self _) ?_
      refine XA_detp 0 rfl (by kernel_rfl) (by kernel_rfl) (by kernel_rfl) (fun _ _ _ _ h => h) .no (D_idxAP rfl rfl arr_108 rfl (by decide) rfl) rfl ?_
      refine XA_det 1 rfl (by kernel_rfl) (by kernel_rfl) (by kernel_rfl) (by kernel_rfl) (fun _ _ _ _ h => h) .no (D_ldo rfl (by repeat first | with_reducible exact .here _ _ | with_reducible apply Out.there | with_reducible apply Out.app) tk_4 (by rfl)) rfl ?_
      refine XA_detp 2 rfl (by kernel_rfl) (by kernel_rfl) (by kernel_rfl) (fun _ _ _ _ h => h) .no (D_pureP rfl) rfl ?_
      refine XA_detp 3 rfl (by kernel_rfl) (by kernel_rfl) (by kernel_rfl) (fun _ _ _ _ h => h) .no (D_pureP rfl) rfl ?_
      refine XA_split (t := 31) rfl (fun h2 => ?_) (fun h2 => ?_)
      · try simp only [decide_eq_true_eq, decide_eq_false_iff_not, Bool.not_eq_true', Bool.not_eq_false', beq_iff_eq, bne_iff_ne, beq_eq_false_iff_ne, bne_eq_false_iff_eq, Int.not_lt, Int.not_le, gt_iff_lt, ge_iff_le, ne_eq] at h2
        refine XA_skipp 4 31 rfl (by kernel_rfl) (by kernel_rfl) (by kernel_rfl) (fun _ _ _ _ h => h) rfl rfl rfl rfl rfl ?_
        refine XA_skipp 5 31 rfl (by kernel_rfl) (by kernel_rfl) (by kernel_rfl) (fun _ _ _ _ h => h) rfl rfl rfl rfl rfl ?_
        refine XA_skipp 6 31 rfl (by kernel_rfl) (by kernel_rfl) (by kernel_rfl) (fun _ _ _ _ h => h) rfl rfl rfl rfl rfl ?_
        refine XA_detp 7 rfl (by kernel_rfl) (by kernel_rfl) (by kernel_rfl) (fun _ _ _ _ h => h) .no (D_pureP rfl) rfl ?_
        refine XA_detp 8 rfl (by kernel_rfl) (by kernel_rfl) (by kernel_rfl) (fun _ _ _ _ h => h) .no (D_pureP rfl) rfl ?_
        refine XA_skipp 9 36 rfl (by kernel_rfl) (by kernel_rfl) (by kernel_rfl) (fun _ _ _ _ h => h) rfl rfl rfl rfl rfl ?_
        refine XA_skipp 10 36 rfl (by kernel_rfl) (by kernel_rfl) (by kernel_rfl) (fun _ _ _ _ h => h) rfl rfl rfl rfl rfl ?_
        refine XA_skipp 11 36 rfl (by kernel_rfl) (by kernel_rfl) (by kernel_rfl) (fun _ _ _ _ h => h) rfl rfl rfl rfl rfl ?_
        refine XA_skipp 12 36 rfl (by kernel_rfl) (by kernel_rfl) (by kernel_rfl) (fun _ _ _ _ h => h) rfl rfl rfl rfl rfl ?_
        refine XA_skipp 13 36 rfl (by kernel_rfl) (by kernel_rfl) (by kernel_rfl) (fun _ _ _ _ h => h) rfl rfl rfl rfl rfl ?_
        refine XA_skipp 14 36 rfl (by kernel_rfl) (by kernel_rfl) (by kernel_rfl) (fun _ _ _ _ h => h) rfl rfl rfl rfl rfl ?_
        refine XA_skipp 15 36 rfl (by kernel_rfl) (by kernel_rfl) (by kernel_rfl) (fun _ _ _ _ h => h) rfl rfl rfl rfl rfl ?_
        refine XA_skipp 16 36 rfl (by kernel_rfl) (by kernel_rfl) (by kernel_rfl) (fun _ _ _ _ h => h) rfl rfl rfl rfl rfl ?_
        refine XA_skipp 17 36 rfl (by kernel_rfl) (by kernel_rfl) (by kernel_rfl) (fun _ _ _ _ h => h) rfl rfl rfl rfl rfl ?_
        refine XA_skipp 18 36 rfl (by kernel_rfl) (by kernel_rfl) (by kernel_rfl) (fun _ _ _ _ h => h) rfl rfl rfl rfl rfl ?_
        refine XA_skipp 19 36 rfl (by kernel_rfl) (by kernel_rfl) (by kernel_rfl) (fun _ _ _ _ h => h) rfl rfl rfl rfl rfl ?_
        refine XA_detp 20 rfl (by kernel_rfl) (by kernel_rfl) (by kernel_rfl) (fun _ _ _ _ h => h) .no (D_pureP rfl) rfl ?_
        refine XA_done (by kernel_rfl) ?_
        try simp only [List.cons_append, List.nil_append, List.append_nil]
        refine thenX_normal ?_
        refine X_cond_t rfl rfl ?_
        refine X_region ?_
        refine XL_det .no (D_ldo rfl (by repeat first | with_reducible exact .here _ _ | with_reducible apply Out.there | with_reducible apply Out.app) tk_64 (by rfl)) rfl ?_
        refine XL_det .no (D_pure rfl) rfl ?_
        refine XL_det .no (D_idxA rfl rfl arr_108 rfl (by decide) rfl) rfl ?_
        refine XL_det .no (D_ldo rfl (by repeat first | with_reducible exact .here _ _ | with_reducible apply Out.there | with_reducible apply Out.app) tk_4 (by rfl)) rfl ?_
        refine XL_det .no (D_idxA rfl rfl arr_108 rfl (by decide) rfl) rfl ?_
        refine XL_det .no (D_ldo rfl (by repeat first | with_reducible exact .here _ _ | with_reducible apply Out.there | with_reducible apply Out.app) tk_4 (by rfl)) rfl ?_
        refine XL_det .no (D_build [_, _, _, _] rfl bld_69 (by rfl)) rfl ?_
        refine XL_bslice (cs := encN (tnAt 2 x.tasks.l.length y.tasks.l.length i)) .no rfl slt_64 (by decide) (by decide) (by rfl) (by rfl) rfl rfl (fun b6 => ?_)
        refine XL_app1 (enc := encN) (c := o) (y := (tnAt 2 x.tasks.l.length y.tasks.l.length i)) (K := _) .no rfl rfl slt_64 (by repeat first | with_reducible exact .here _ _ | with_reducible apply Out.there | with_reducible apply Out.app) (by repeat first | with_reducible exact .here _ _ | with_reducible apply Out.there | with_reducible apply Out.app) (Rd_blk0) rfl rfl (by omega) (by omega) rfl (fun o2 ho2 ho2o => ?_)
        refine XL_efd .no (F_stl rfl rfl rfl (by repeat first | with_reducible exact .here _ _ | with_reducible apply Out.there | with_reducible apply Out.app) tk_64 (by repeat first | exact .zero _ _ _ | apply SetL.succ)) ?_
        refine XL_nil ?_
        refine inBlk_normal ?_
        exact ⟨[blk b1 [.int .i64 x.res, .slice x.tasks.oad x.tasks.l.length x.tasks.c, .slice x.modes.oad x.modes.l.length x.modes.c, .slice x.edges.oad x.edges.l.length x.edges.c] 62, blk b2 [.int .i64 y.res, .slice y.tasks.oad y.tasks.l.length y.tasks.c, .slice y.modes.oad y.modes.l.length y.modes.c, .slice y.edges.oad y.edges.l.length y.edges.c] 62, blk b3 [.slice o2.oad o2.l.length o2.c] 64, row (.slice o2.oad o2.l.length o2.c) 69 4 o2.l.length (o2.l.flatMap encN), K], _, (by repeat first | with_reducible exact .nil _ | with_reducible exact .here _ _ | with_reducible exact Take.self _ | with_reducible apply Take.cons | with_reducible apply Out.there | with_reducible apply Take.skip | with_reducible exact Take.pre _ _ | with_reducible apply Out.app), ⟨o2, by rw [ho2, ho, List.append_assoc, tasksT_s, plT_out (both_f (by omega))], ho2o, rfl⟩⟩
      · try simp only [decide_eq_true_eq, decide_eq_false_iff_not, Bool.not_eq_true', Bool.not_eq_false', beq_iff_eq, bne_iff_ne, beq_eq_false_iff_ne, bne_eq_false_iff_eq, Int.not_lt, Int.not_le, gt_iff_lt, ge_iff_le, ne_eq] at h2
        refine XA_detp 4 rfl (by kernel_rfl) (by kernel_rfl) (by kernel_rfl) (fun _ _ _ _ h => h) (.yes 31 rfl rfl rfl) (D_idxAP rfl rfl arr_108 rfl (by decide) rfl) rfl ?_
        refine XA_det 5 rfl (by kernel_rfl) (by kernel_rfl) (by kernel_rfl) (by kernel_rfl) (fun _ _ _ _ h => h) (.yes 31 rfl rfl rfl) (D_ldo rfl (by repeat first | with_reducible exact .here _ _ | with_reducible apply Out.there | with_reducible apply Out.app) tk_4 (by rfl)) rfl ?_
        refine XA_detp 6 rfl (by kernel_rfl) (by kernel_rfl) (by kernel_rfl) (fun _ _ _ _ h => h) (.yes 31 rfl rfl rfl) (D_pureP rfl) rfl ?_
        refine XA_detp 7 rfl (by kernel_rfl) (by kernel_rfl) (by kernel_rfl) (fun _ _ _ _ h => h) .no (D_pureP rfl) rfl ?_
        refine XA_detp 8 rfl (by kernel_rfl) (by kernel_rfl) (by kernel_rfl) (fun _ _ _ _ h => h) .no (D_pureP rfl) rfl ?_
        refine XA_split (t := 36) rfl (fun h3 => ?_) (fun h3 => ?_)
        · try simp only [decide_eq_true_eq, decide_eq_false_iff_not, Bool.not_eq_true', Bool.not_eq_false', beq_iff_eq, bne_iff_ne, beq_eq_false_iff_ne, bne_eq_false_iff_eq, Int.not_lt, Int.not_le, gt_iff_lt, ge_iff_le, ne_eq] at h3
          refine XA_skipp 9 36 rfl (by kernel_rfl) (by kernel_rfl) (by kernel_rfl) (fun _ _ _ _ h => h) rfl rfl rfl rfl rfl ?_
          refine XA_skipp 10 36 rfl (by kernel_rfl) (by kernel_rfl) (by kernel_rfl) (fun _ _ _ _ h => h) rfl rfl rfl rfl rfl ?_
          refine XA_skipp 11 36 rfl (by kernel_rfl) (by kernel_rfl) (by kernel_rfl) (fun _ _ _ _ h => h) rfl rfl rfl rfl rfl ?_
          refine XA_skipp 12 36 rfl (by kernel_rfl) (by kernel_rfl) (by kernel_rfl) (fun _ _ _ _ h => h) rfl rfl rfl rfl rfl ?_
          refine XA_skipp 13 36 rfl (by kernel_rfl) (by kernel_rfl) (by kernel_rfl) (fun _ _ _ _ h => h) rfl rfl rfl rfl rfl ?_
          refine XA_skipp 14 36 rfl (by kernel_rfl) (by kernel_rfl) (by kernel_rfl) (fun _ _ _ _ h => h) rfl rfl rfl rfl rfl ?_
          refine XA_skipp 15 36 rfl (by kernel_rfl) (by kernel_rfl) (by kernel_rfl) (fun _ _ _ _ h => h) rfl rfl rfl rfl rfl ?_
          refine XA_skipp 16 36 rfl (by kernel_rfl) (by kernel_rfl) (by kernel_rfl) (fun _ _ _ _ h => h) rfl rfl rfl rfl rfl ?_
          refine XA_skipp 17 36 rfl (by kernel_rfl) (by kernel_rfl) (by kernel_rfl) (fun _ _ _ _ h => h) rfl rfl rfl rfl rfl ?_
          refine XA_skipp 18 36 rfl (by kernel_rfl) (by kernel_rfl) (by kernel_rfl) (fun _ _ _ _ h => h) rfl rfl rfl rfl rfl ?_
          refine XA_skipp 19 36 rfl (by kernel_rfl) (by kernel_rfl) (by kernel_rfl) (fun _ _ _ _ h => h) rfl rfl rfl rfl rfl ?_
          refine XA_detp 20 rfl (by kernel_rfl) (by kernel_rfl) (by kernel_rfl) (fun _ _ _ _ h => h) .no (D_pureP rfl) rfl ?_
          refine XA_done (by kernel_rfl) ?_
          try simp only [List.cons_append, List.nil_append, List.append_nil]
          refine thenX_normal ?_
          refine X_cond_t rfl rfl ?_
          refine X_region ?_
          refine XL_det .no (D_ldo rfl (by repeat first | with_reducible exact .here _ _ | with_reducible apply Out.there | with_reducible apply Out.app) tk_64 (by rfl)) rfl ?_
          refine XL_det .no (D_pure rfl) rfl ?_
          refine XL_det .no (D_idxA rfl rfl arr_108 rfl (by decide) rfl) rfl ?_
          refine XL_det .no (D_ldo rfl (by repeat first | with_reducible exact .here _ _ | with_reducible apply Out.there | with_reducible apply Out.app) tk_4 (by rfl)) rfl ?_
          refine XL_det .no (D_idxA rfl rfl arr_108 rfl (by decide) rfl) rfl ?_
          refine XL_det .no (D_ldo rfl (by repeat first | with_reducible exact .here _ _ | with_reducible apply Out.there | with_reducible apply Out.app) tk_4 (by rfl)) rfl ?_
          refine XL_det .no (D_build [_, _, _, _] rfl bld_69 (by rfl)) rfl ?_
          refine XL_bslice (cs := encN (tnAt 2 x.tasks.l.length y.tasks.l.length i)) .no rfl slt_64 (by decide) (by decide) (by rfl) (by rfl) rfl rfl (fun b7 => ?_)
          refine XL_app1 (enc := encN) (c := o) (y := (tnAt 2 x.tasks.l.length y.tasks.l.length i)) (K := _) .no rfl rfl slt_64 (by repeat first | with_reducible exact .here _ _ | with_reducible apply Out.there | with_reducible apply Out.app) (by repeat first | with_reducible exact .here _ _ | with_reducible apply Out.there | with_reducible apply Out.app) (Rd_blk0) rfl rfl (by omega) (by omega) rfl (fun o2 ho2 ho2o => ?_)
          refine XL_efd .no (F_stl rfl rfl rfl (by repeat first | with_reducible exact .here _ _ | with_reducible apply Out.there | with_reducible apply Out.app) tk_64 (by repeat first | exact .zero _ _ _ | apply SetL.succ)) ?_
          refine XL_nil ?_
          refine inBlk_normal ?_
          exact ⟨[blk b1 [.int .i64 x.res, .slice x.tasks.oad x.tasks.l.length x.tasks.c, .slice x.modes.oad x.modes.l.length x.modes.c, .slice x.edges.oad x.edges.l.length x.edges.c] 62, blk b2 [.int .i64 y.res, .slice y.tasks.oad y.tasks.l.length y.tasks.c, .slice y.modes.oad y.modes.l.length y.modes.c, .slice y.edges.oad y.edges.l.length y.edges.c] 62, blk b3 [.slice o2.oad o2.l.length o2.c] 64, row (.slice o2.oad o2.l.length o2.c) 69 4 o2.l.length (o2.l.flatMap encN), K], _, (by repeat first | with_reducible exact .nil _ | with_reducible exact .here _ _ | with_reducible exact Take.self _ | with_reducible apply Take.cons | with_reducible apply Out.there | with_reducible apply Take.skip | with_reducible exact Take.pre _ _ | with_reducible apply Out.app), ⟨o2, by rw [ho2, ho, List.append_assoc, tasksT_s, plT_out (both_f (by omega))], ho2o, rfl⟩⟩
        · try simp only [decide_eq_true_eq, decide_eq_false_iff_not, Bool.not_eq_true', Bool.not_eq_false', beq_iff_eq, bne_iff_ne, beq_eq_false_iff_ne, bne_eq_false_iff_eq, Int.not_lt, Int.not_le, gt_iff_lt, ge_iff_le, ne_eq] at h3
          obtain ⟨p, hgp⟩ : ∃ p, x.tasks.l[i]? = some p := ⟨_, List.getElem?_eq_getElem (by omega)⟩
          obtain ⟨q, hgq⟩ : ∃ q, y.tasks.l[i]? = some q := ⟨_, List.getElem?_eq_getElem (by omega)⟩
          refine XA_detp 9 rfl (by kernel_rfl) (by kernel_rfl) (by kernel_rfl) (fun _ _ _ _ h => h) (.yes 36 rfl rfl rfl) (D_fldP rfl fld_62_1 (o' := 1) rfl) rfl ?_
          refine XA_det 10 rfl (by kernel_rfl) (by kernel_rfl) (by kernel_rfl) (by kernel_rfl) (fun _ _ _ _ h => h) (.yes 36 rfl rfl rfl) (D_ldo rfl (by repeat first | with_reducible exact .here _ _ | with_reducible apply Out.there | with_reducible apply Out.app) tk_58 (by rfl)) rfl ?_
          refine XA_detp 11 rfl (by kernel_rfl) (by kernel_rfl) (by kernel_rfl) (fun _ _ _ _ h => h) (.yes 36 rfl rfl rfl) (D_pureP rfl) rfl ?_
          refine XA_detp 12 rfl (by kernel_rfl) (by kernel_rfl) (by kernel_rfl) (fun _ _ _ _ h => h) (.yes 36 rfl rfl rfl) (D_idxSoP rfl rfl slc_58 (x.tasks).nil0 rfl (by omega) rfl) rfl ?_
          refine XA_det 13 rfl (by kernel_rfl) (by kernel_rfl) (by kernel_rfl) (by kernel_rfl) (fun _ _ _ _ h => h) (.yes 36 rfl rfl rfl) (D_els (enc := encT) (sz := 11) (i := i) (fun _ => rfl) rfl (by repeat first | with_reducible exact .here _ _ | with_reducible apply Out.there | with_reducible apply Out.app) hx.tasks tk_75 hgp) rfl ?_
          refine XA_detp 14 rfl (by kernel_rfl) (by kernel_rfl) (by kernel_rfl) (fun _ _ _ _ h => h) (.yes 36 rfl rfl rfl) (D_fldP rfl fld_62_1 (o' := 1) rfl) rfl ?_
          refine XA_det 15 rfl (by kernel_rfl) (by kernel_rfl) (by kernel_rfl) (by kernel_rfl) (fun _ _ _ _ h => h) (.yes 36 rfl rfl rfl) (D_ldo rfl (by repeat first | with_reducible exact .here _ _ | with_reducible apply Out.there | with_reducible apply Out.app) tk_58 (by rfl)) rfl ?_
          refine XA_detp 16 rfl (by kernel_rfl) (by kernel_rfl) (by kernel_rfl) (fun _ _ _ _ h => h) (.yes 36 rfl rfl rfl) (D_pureP rfl) rfl ?_
          refine XA_detp 17 rfl (by kernel_rfl) (by kernel_rfl) (by kernel_rfl) (fun _ _ _ _ h => h) (.yes 36 rfl rfl rfl) (D_idxSoP rfl rfl slc_58 (y.tasks).nil0 rfl (by omega) rfl) rfl ?_
          refine XA_det 18 rfl (by kernel_rfl) (by kernel_rfl) (by kernel_rfl) (by kernel_rfl) (fun _ _ _ _ h => h) (.yes 36 rfl rfl rfl) (D_els (enc := encT) (sz := 11) (i := i) (fun _ => rfl) rfl (by repeat first | with_reducible exact .here _ _ | with_reducible apply Out.there | with_reducible apply Out.app) hy.tasks tk_75 hgq) rfl ?_
          refine XA_det 19 rfl (by kernel_rfl) (by kernel_rfl) (by kernel_rfl) (by kernel_rfl) (fun _ _ _ _ h => h) (.yes 36 rfl rfl rfl) (D_eqs (b := !cellsEq (encT p) (encT q)) rfl rfl eqk_75 eqg_75 rfl rfl rfl rfl) rfl ?_
          refine XA_detp 20 rfl (by kernel_rfl) (by kernel_rfl) (by kernel_rfl) (fun _ _ _ _ h => h) .no (D_pureP rfl) rfl ?_
          refine XA_done (by kernel_rfl) ?_
          try simp only [List.cons_append, List.nil_append, List.append_nil]
          refine thenX_normal ?_
          refine X_cond rfl (fun h4 => ?_) (fun h4 => ?_)
          · try simp only [decide_eq_true_eq, decide_eq_false_iff_not, Bool.not_eq_true', Bool.not_eq_false', beq_iff_eq, bne_iff_ne, beq_eq_false_iff_ne, bne_eq_false_iff_eq, Int.not_lt, Int.not_le, gt_iff_lt, ge_iff_le, ne_eq] at h4
            refine X_region ?_
            refine XL_det .no (D_ldo rfl (by repeat first | with_reducible exact .here _ _ | with_reducible apply Out.there | with_reducible apply Out.app) tk_64 (by rfl)) rfl ?_
            refine XL_det .no (D_pure rfl) rfl ?_
            refine XL_det .no (D_idxA rfl rfl arr_108 rfl (by decide) rfl) rfl ?_
            refine XL_det .no (D_ldo rfl (by repeat first | with_reducible exact .here _ _ | with_reducible apply Out.there | with_reducible apply Out.app) tk_4 (by rfl)) rfl ?_
            refine XL_det .no (D_idxA rfl rfl arr_108 rfl (by decide) rfl) rfl ?_
            refine XL_det .no (D_ldo rfl (by repeat first | with_reducible exact .here _ _ | with_reducible apply Out.there | with_reducible apply Out.app) tk_4 (by rfl)) rfl ?_
            refine XL_det .no (D_build [_, _, _, _] rfl bld_69 (by rfl)) rfl ?_
            refine XL_bslice (cs := encN (tnAt 2 x.tasks.l.length y.tasks.l.length i)) .no rfl slt_64 (by decide) (by decide) (by rfl) (by rfl) rfl rfl (fun b8 => ?_)
            refine XL_app1 (enc := encN) (c := o) (y := (tnAt 2 x.tasks.l.length y.tasks.l.length i)) (K := _) .no rfl rfl slt_64 (by repeat first | with_reducible exact .here _ _ | with_reducible apply Out.there | with_reducible apply Out.app) (by repeat first | with_reducible exact .here _ _ | with_reducible apply Out.there | with_reducible apply Out.app) (Rd_blk0) rfl rfl (by omega) (by omega) rfl (fun o2 ho2 ho2o => ?_)
            refine XL_efd .no (F_stl rfl rfl rfl (by repeat first | with_reducible exact .here _ _ | with_reducible apply Out.there | with_reducible apply Out.app) tk_64 (by repeat first | exact .zero _ _ _ | apply SetL.succ)) ?_
            refine XL_nil ?_
            refine inBlk_normal ?_
            exact ⟨[blk b1 [.int .i64 x.res, .slice x.tasks.oad x.tasks.l.length x.tasks.c, .slice x.modes.oad x.modes.l.length x.modes.c, .slice x.edges.oad x.edges.l.length x.edges.c] 62, blk b2 [.int .i64 y.res, .slice y.tasks.oad y.tasks.l.length y.tasks.c, .slice y.modes.oad y.modes.l.length y.modes.c, .slice y.edges.oad y.edges.l.length y.edges.c] 62, blk b3 [.slice o2.oad o2.l.length o2.c] 64, row (.slice o2.oad o2.l.length o2.c) 69 4 o2.l.length (o2.l.flatMap encN), K], _, (by repeat first | with_reducible exact .nil _ | with_reducible exact .here _ _ | with_reducible exact Take.self _ | with_reducible apply Take.cons | with_reducible apply Out.there | with_reducible apply Take.skip | with_reducible exact Take.pre _ _ | with_reducible apply Out.app), ⟨o2, by rw [ho2, ho, List.append_assoc, tasksT_s, plT_ne hgp hgq (by show cellsEq _ _ = false; simpa using h4)], ho2o, rfl⟩⟩
          · try simp only [decide_eq_true_eq, decide_eq_false_iff_not, Bool.not_eq_true', Bool.not_eq_false', beq_iff_eq, bne_iff_ne, beq_eq_false_iff_ne, bne_eq_false_iff_eq, Int.not_lt, Int.not_le, gt_iff_lt, ge_iff_le, ne_eq] at h4
            refine X_skip ?_
            refine inBlk_normal ?_
            exact ⟨[blk b1 [.int .i64 x.res, .slice x.tasks.oad x.tasks.l.length x.tasks.c, .slice x.modes.oad x.modes.l.length x.modes.c, .slice x.edges.oad x.edges.l.length x.edges.c] 62, blk b2 [.int .i64 y.res, .slice y.tasks.oad y.tasks.l.length y.tasks.c, .slice y.modes.oad y.modes.l.length y.modes.c, .slice y.edges.oad y.edges.l.length y.edges.c] 62, blk b3 [.slice o.oad o.l.length o.c] 64, row (.slice o.oad o.l.length o.c) 69 4 o.l.length (o.l.flatMap encN), K], _, (by repeat first | with_reducible exact .nil _ | with_reducible exact .here _ _ | with_reducible exact Take.self _ | with_reducible apply Take.cons | with_reducible apply Out.there | with_reducible apply Take.skip | with_reducible exact Take.pre _ _ | with_reducible apply Out.app), ⟨o, by rw [ho, tasksT_s, plT_eq hgp hgq (by show cellsEq _ _ = true; simpa using h4), List.append_nil], hoo, rfl⟩⟩
    · intro dd0 S2 hJ
      obtain ⟨o, ho, hoo, rfl⟩ := hJ
      rw [plL_len] at ho
      simp only [List.cons_append, List.nil_append]
      replace hoo : o.Own := hoo
      refine inBlk_normal ?_
      refine thenX_normal ?_
      refine X_seq ?_
      refine X_draw [blk b1 [.int .i64 x.res, .slice x.tasks.oad x.tasks.l.length x.tasks.c, .slice x.modes.oad x.modes.l.length x.modes.c, .slice x.edges.oad x.edges.l.length x.edges.c] 62, blk b2 [.int .i64 y.res, .slice y.tasks.oad y.tasks.l.length y.tasks.c, .slice y.modes.oad y.modes.l.length y.modes.c, .slice y.edges.oad y.edges.l.length y.edges.c] 62, blk b3 [.slice o.oad o.l.length o.c] 64, K] mixed (by repeat first | with_reducible exact .nil _ | with_reducible exact .here _ _ | with_reducible exact Take.self _ | with_reducible apply Take.cons | with_reducible apply Out.there | with_reducible apply Take.skip | with_reducible exact Take.pre _ _ | with_reducible apply Out.app) ?_
      refine XA_det 0 rfl (by kernel_rfl) (by kernel_rfl) (by kernel_rfl) (by kernel_rfl) (fun _ _ _ _ h => h) .no (D_ldo rfl (by repeat first | with_reducible exact .here _ _ | with_reducible apply Out.there | with_reducible apply Out.app) tk_64 (by rfl)) rfl ?_
      refine XA_detp 1 rfl (by kernel_rfl) (by kernel_rfl) (by kernel_rfl) (fun _ _ _ _ h => h) .no (D_fldP rfl fld_62_2 (o' := 2) rfl) rfl ?_
      refine XA_det 2 rfl (by kernel_rfl) (by kernel_rfl) (by kernel_rfl) (by kernel_rfl) (fun _ _ _ _ h => h) .no (D_ldo rfl (by repeat first | with_reducible exact .here _ _ | with_reducible apply Out.there | with_reducible apply Out.app) tk_59 (by rfl)) rfl ?_
      refine XA_detp 3 rfl (by kernel_rfl) (by kernel_rfl) (by kernel_rfl) (fun _ _ _ _ h => h) .no (D_fldP rfl fld_62_2 (o' := 2) rfl) rfl ?_
      refine XA_det 4 rfl (by kernel_rfl) (by kernel_rfl) (by kernel_rfl) (by kernel_rfl) (fun _ _ _ _ h => h) .no (D_ldo rfl (by repeat first | with_reducible exact .here _ _ | with_reducible apply Out.there | with_reducible apply Out.app) tk_59 (by rfl)) rfl ?_
      refine XA_one 5 (by kernel_rfl) ?_
      refine XO_callc rfl .no en_51 rfl (by repeat first | with_reducible exact .nil _ | with_reducible apply App.cons) (dmodes x.modes y.modes hx.modes hy.modes hx.queues hy.queues sx.modes sy.modes) (by repeat first | with_reducible exact .nil _ | with_reducible exact .here _ _ | with_reducible exact Take.self _ | with_reducible apply Take.cons | with_reducible apply Out.there | with_reducible apply Take.skip | with_reducible exact Take.pre _ _ | with_reducible apply Out.app) rfl ?_
      rintro _ _ ⟨md, ⟨hmd, hmdo⟩, rfl, rfl⟩
      simp only [List.cons_append, List.nil_append]
      refine ⟨[row (.slice md.oad md.l.length md.c) 69 4 md.l.length (md.l.flatMap encN), row (.slice o.oad o.l.length o.c) 69 4 o.l.length (o.l.flatMap encN), dfr dd0], _, _, (by repeat first | with_reducible exact .nil _ | with_reducible apply App.cons), (by repeat first | with_reducible exact .nil _ | with_reducible exact .here _ _ | with_reducible exact Take.self _ | with_reducible apply Take.cons | with_reducible apply Out.there | with_reducible apply Take.skip | with_reducible exact Take.pre _ _ | with_reducible apply Out.app), ?_⟩
      refine XA_one 6 (by kernel_rfl) ?_
      refine XO_appa (enc := encN) (c := o) (b := md) rfl .no rfl rfl slt_64 (by repeat first | with_reducible exact .here _ _ | with_reducible apply Out.there | with_reducible apply Out.app) (by repeat first | exact .nil _ | apply App.cons) (by repeat first | with_reducible exact .here _ _ | with_reducible apply Out.there | with_reducible apply Out.app) (Rd_own hmdo rfl) (fun _ => rfl) (fun _ => rfl) (by rw [ho, hmd]; have := pre_len3 sx sy; rw [List.length_append] at this; omega) (by rw [ho, hmd]; have := pre_len3 sx sy; rw [List.length_append] at this; omega) rfl (fun o4 ho4 ho4o => ?_)
      refine XA_one 7 (by kernel_rfl) ?_
      refine XO_efd rfl .no (by repeat first | with_reducible exact .nil _ | with_reducible apply App.cons) (F_stl rfl rfl rfl (by repeat first | with_reducible exact .here _ _ | with_reducible apply Out.there | with_reducible apply Out.app) tk_64 (by repeat first | exact .zero _ _ _ | apply SetL.succ)) (by kernel_rfl) ?_
      refine XA_done (by kernel_rfl) ?_
      try simp only [List.cons_append, List.nil_append, List.append_nil]
      refine thenX_normal ?_
      refine X_seq ?_
      refine X_seq ?_
      refine X_region ?_
      refine XL_det .no (D_fld rfl fld_62_3 (o' := 3) rfl) rfl ?_
      refine XL_det .no (D_ldo rfl (by repeat first | with_reducible exact .here _ _ | with_reducible apply Out.there | with_reducible apply Out.app) tk_60 (by rfl)) rfl ?_
      refine XL_det .no (D_len rfl rfl slc_60) rfl ?_
      refine XL_det .no (D_fld rfl fld_62_3 (o' := 3) rfl) rfl ?_
      refine XL_det .no (D_ldo rfl (by repeat first | with_reducible exact .here _ _ | with_reducible apply Out.there | with_reducible apply Out.app) tk_60 (by rfl)) rfl ?_
      refine XL_det .no (D_len rfl rfl slc_60) rfl ?_
      refine XL_call .no en_50 rfl (dplaces x.edges.l.length y.edges.l.length) (by repeat first | with_reducible exact .nil _ | with_reducible exact .here _ _ | with_reducible exact Take.self _ | with_reducible apply Take.cons | with_reducible apply Out.there | with_reducible apply Take.skip | with_reducible exact Take.pre _ _ | with_reducible apply Out.app) rfl ?_
      rintro _ _ ⟨ba5, bb5, rfl, rfl⟩
      simp only [List.cons_append, List.nil_append]
      refine XL_then ?_
      refine X_block ?_
      refine X_range (own := [blk ba5 [.int .i64 (x.edges.l.length : Int)] 3, blk bb5 [.int .i64 (y.edges.l.length : Int)] 3]) (S1 := [blk b1 [.int .i64 x.res, .slice x.tasks.oad x.tasks.l.length x.tasks.c, .slice x.modes.oad x.modes.l.length x.modes.c, .slice x.edges.oad x.edges.l.length x.edges.c] 62, blk b2 [.int .i64 y.res, .slice y.tasks.oad y.tasks.l.length y.tasks.c, .slice y.modes.oad y.modes.l.length y.modes.c, .slice y.edges.oad y.edges.l.length y.edges.c] 62, blk b3 [.slice o4.oad o4.l.length o4.c] 64, row (.slice o4.oad o4.l.length o4.c) 69 4 o4.l.length (o4.l.flatMap encN), K]) rfl en_59 (plItr ba5 bb5 x.edges.l.length y.edges.l.length sx.edges sy.edges) (fun i S => ∃ o : Arr Tn, o.l = resT x y ++ tasksT x y (mx x.tasks.l.length y.tasks.l.length) ++ modesT x.modes.l y.modes.l (mx x.modes.l.length y.modes.l.length) ++ edgesT x y i ∧ o.Own ∧ S = [blk b1 [.int .i64 x.res, .slice x.tasks.oad x.tasks.l.length x.tasks.c, .slice x.modes.oad x.modes.l.length x.modes.c, .slice x.edges.oad x.edges.l.length x.edges.c] 62, blk b2 [.int .i64 y.res, .slice y.tasks.oad y.tasks.l.length y.tasks.c, .slice y.modes.oad y.modes.l.length y.modes.c, .slice y.edges.oad y.edges.l.length y.edges.c] 62, blk b3 [.slice o.oad o.l.length o.c] 64, row (.slice o.oad o.l.length o.c) 69 4 o.l.length (o.l.flatMap encN), K]) (fun c i S => False) (show Take ([blk ba5 [.int .i64 (x.edges.l.length : Int)] 3, blk bb5 [.int .i64 (y.edges.l.length : Int)] 3, blk b1 [.int .i64 x.res, .slice x.tasks.oad x.tasks.l.length x.tasks.c, .slice x.modes.oad x.modes.l.length x.modes.c, .slice x.edges.oad x.edges.l.length x.edges.c] 62, blk b2 [.int .i64 y.res, .slice y.tasks.oad y.tasks.l.length y.tasks.c, .slice y.modes.oad y.modes.l.length y.modes.c, .slice y.edges.oad y.edges.l.length y.edges.c] 62, blk b3 [.slice o4.oad o4.l.length o4.c] 64, row (.slice o4.oad o4.l.length o4.c) 69 4 o4.l.length (o4.l.flatMap encN), K]) _ _ from (by repeat first | with_reducible exact .nil _ | with_reducible exact .here _ _ | with_reducible exact Take.self _ | with_reducible apply Take.cons | with_reducible apply Out.there | with_reducible apply Take.skip | with_reducible exact Take.pre _ _ | with_reducible apply Out.app)) (⟨o4, (by rw [ho4, ho, hmd]; exact (List.append_nil _).symm), ho4o, rfl⟩) rfl (fun x hx => by obtain ⟨y, _, rfl⟩ := List.mem_map.1 hx; rfl) ?_ ?_ ?_
      · intro ly rec A2 i S2 hi hJ
        obtain ⟨o, ho, hoo, rfl⟩ := hJ
        rw [plL_len] at hi
        have hmx : mx x.edges.l.length y.edges.l.length ≤ 1000 := by have := sx.edges; have := sy.edges; show max _ _ ≤ 1000; omega
        have hol : o.l.length ≤ 9000 := by rw [ho]; exact pre_len5 sx sy (by omega)
        rw [plL_get hi]
        refine X_seq ?_
        refine X_region ?_
        refine XL_det .no (D_pure rfl) rfl ?_
        refine XL_then ?_
        refine X_region ?_
        refine XL_alloc .no zero_108 rfl (fun b9 => ?_)
        refine XL_efd .no (F_stw (vs := [.bool (decide ((i : Int) < (x.edges.l.length : Int))), .bool (decide ((i : Int) < (y.edges.l.length : Int)))]) rfl rfl (by rfl) (by repeat first | with_reducible exact .here _ _ | with_reducible apply Out.there | with_reducible apply Out.app) tk_108 rfl rfl) ?_
        refine XL_nil ?_
        refine ⟨rfl, _, _, .cons (by repeat first | with_reducible exact .here _ _ | with_reducible apply Out.there | with_reducible apply Out.app) (Take.self _), fun rec2 => ?_⟩
        refine X_block ?_
        refine X_seq ?_
        refine X_draw _ mixed (Take.self _) ?_
        refine XA_detp 0 rfl (by kernel_rfl) (by kernel_rfl) (by kernel_rfl) (fun _ _ _ _ h => h) .no (D_idxAP rfl rfl arr_108 rfl (by decide) rfl) rfl ?_
        refine XA_det 1 rfl (by kernel_rfl) (by kernel_rfl) (by kernel_rfl) (by kernel_rfl) (fun _ _ _ _ h => h) .no (D_ldo rfl (by repeat first | with_reducible exact .here _ _ | with_reducible apply Out.there | with_reducible apply Out.app) tk_4 (by rfl)) rfl ?_
        refine XA_detp 2 rfl (by kernel_rfl) (by kernel_rfl) (by kernel_rfl) (fun _ _ _ _ h => h) .no (D_pureP rfl) rfl ?_
        refine XA_detp 3 rfl (by kernel_rfl) (by kernel_rfl) (by kernel_rfl) (fun _ _ _ _ h => h) .no (D_pureP rfl) rfl ?_
        refine XA_split (t := 77) rfl (fun h5 => ?_) (fun h5 => ?_)
        · try simp only [decide_eq_true_eq, decide_eq_false_iff_not, Bool.not_eq_true', Bool.not_eq_false', beq_iff_eq, bne_iff_ne, beq_eq_false_iff_ne, bne_eq_false_iff_eq, Int.not_lt, Int.not_le, gt_iff_lt, ge_iff_le, ne_eq] at h5
          refine XA_skipp 4 77 rfl (by kernel_rfl) (by kernel_rfl) (by kernel_rfl) (fun _ _ _ _ h => h) rfl rfl rfl rfl rfl ?_
          refine XA_skipp 5 77 rfl (by kernel_rfl) (by kernel_rfl) (by kernel_rfl) (fun _ _ _ _ h => h) rfl rfl rfl rfl rfl ?_
          refine XA_skipp 6 77 rfl (by kernel_rfl) (by kernel_rfl) (by kernel_rfl) (fun _ _ _ _ h => h) rfl rfl rfl rfl rfl ?_
          refine XA_detp 7 rfl (by kernel_rfl) (by kernel_rfl) (by kernel_rfl) (fun _ _ _ _ h => h) .no (D_pureP rfl) rfl ?_
          refine XA_detp 8 rfl (by kernel_rfl) (by kernel_rfl) (by kernel_rfl) (fun _ _ _ _ h => h) .no (D_pureP rfl) rfl ?_
          refine XA_skipp 9 82 rfl (by kernel_rfl) (by kernel_rfl) (by kernel_rfl) (fun _ _ _ _ h => h) rfl rfl rfl rfl rfl ?_
          refine XA_skipp 10 82 rfl (by kernel_rfl) (by kernel_rfl) (by kernel_rfl) (fun _ _ _ _ h => h) rfl rfl rfl rfl rfl ?_
          refine XA_skipp 11 82 rfl (by kernel_rfl) (by kernel_rfl) (by kernel_rfl) (fun _ _ _ _ h => h) rfl rfl rfl rfl rfl ?_
          refine XA_skipp 12 82 rfl (by kernel_rfl) (by kernel_rfl) (by kernel_rfl) (fun _ _ _ _ h => h) rfl rfl rfl rfl rfl ?_
          refine XA_skipp 13 82 rfl (by kernel_rfl) (by kernel_rfl) (by kernel_rfl) (fun _ _ _ _ h => h) rfl rfl rfl rfl rfl ?_
          refine XA_skipp 14 82 rfl (by kernel_rfl) (by kernel_rfl) (by kernel_rfl) (fun _ _ _ _ h => h) rfl rfl rfl rfl rfl ?_
          refine XA_skipp 15 82 rfl (by kernel_rfl) (by kernel_rfl) (by kernel_rfl) (fun _ _ _ _ h => h) rfl rfl rfl rfl rfl ?_
          refine XA_skipp 16 82 rfl (by kernel_rfl) (by kernel_rfl) (by kernel_rfl) (fun _ _ _ _ h => h) rfl rfl rfl rfl rfl ?_
          refine XA_skipp 17 82 rfl (by kernel_rfl) (by kernel_rfl) (by kernel_rfl) (fun _ _ _ _ h => h) rfl rfl rfl rfl rfl ?_
          refine XA_skipp 18 82 rfl (by kernel_rfl) (by kernel_rfl) (by kernel_rfl) (fun _ _ _ _ h => h) rfl rfl rfl rfl rfl ?_
          refine XA_skipp 19 82 rfl (by kernel_rfl) (by kernel_rfl) (by kernel_rfl) (fun _ _ _ _ h => h) rfl rfl rfl rfl rfl ?_
          refine XA_detp 20 rfl (by kernel_rfl) (by kernel_rfl) (by kernel_rfl) (fun _ _ _ _ h => h) .no (D_pureP rfl) rfl ?_
          refine XA_done (by kernel_rfl) ?_
          try simp only [List.cons_append, List.nil_append, List.append_nil]
          refine thenX_normal ?_
          refine X_cond_t rfl rfl ?_
          refine X_region ?_
          refine XL_det .no (D_ldo rfl (by repeat first | with_reducible exact .here _ _ | with_reducible apply Out.there | with_reducible apply Out.app) tk_64 (by rfl)) rfl ?_
          refine XL_det .no (D_pure rfl) rfl ?_
          refine XL_det .no (D_idxA rfl rfl arr_108 rfl (by decide) rfl) rfl ?_
          refine XL_det .no (D_ldo rfl (by repeat first | with_reducible exact .here _ _ | with_reducible apply Out.there | with_reducible apply Out.app) tk_4 (by rfl)) rfl ?_
          refine XL_det .no (D_idxA rfl rfl arr_108 rfl (by decide) rfl) rfl ?_
          refine XL_det .no (D_ldo rfl (by repeat first | with_reducible exact .here _ _ | with_reducible apply Out.there | with_reducible apply Out.app) tk_4 (by rfl)) rfl ?_
          refine XL_det .no (D_build [_, _, _, _] rfl bld_69 (by rfl)) rfl ?_
          refine XL_bslice (cs := encN (tnAt 5 x.edges.l.length y.edges.l.length i)) .no rfl slt_64 (by decide) (by decide) (by rfl) (by rfl) rfl rfl (fun b10 => ?_)
          refine XL_app1 (enc := encN) (c := o) (y := (tnAt 5 x.edges.l.length y.edges.l.length i)) (K := _) .no rfl rfl slt_64 (by repeat first | with_reducible exact .here _ _ | with_reducible apply Out.there | with_reducible apply Out.app) (by repeat first | with_reducible exact .here _ _ | with_reducible apply Out.there | with_reducible apply Out.app) (Rd_blk0) rfl rfl (by omega) (by omega) rfl (fun o2 ho2 ho2o => ?_)
          refine XL_efd .no (F_stl rfl rfl rfl (by repeat first | with_reducible exact .here _ _ | with_reducible apply Out.there | with_reducible apply Out.app) tk_64 (by repeat first | exact .zero _ _ _ | apply SetL.succ)) ?_
          refine XL_nil ?_
          refine inBlk_normal ?_
          exact ⟨[blk b1 [.int .i64 x.res, .slice x.tasks.oad x.tasks.l.length x.tasks.c, .slice x.modes.oad x.modes.l.length x.modes.c, .slice x.edges.oad x.edges.l.length x.edges.c] 62, blk b2 [.int .i64 y.res, .slice y.tasks.oad y.tasks.l.length y.tasks.c, .slice y.modes.oad y.modes.l.length y.modes.c, .slice y.edges.oad y.edges.l.length y.edges.c] 62, blk b3 [.slice o2.oad o2.l.length o2.c] 64, row (.slice o2.oad o2.l.length o2.c) 69 4 o2.l.length (o2.l.flatMap encN), K], _, (by repeat first | with_reducible exact .nil _ | with_reducible exact .here _ _ | with_reducible exact Take.self _ | with_reducible apply Take.cons | with_reducible apply Out.there | with_reducible apply Take.skip | with_reducible exact Take.pre _ _ | with_reducible apply Out.app), ⟨o2, by rw [ho2, ho, List.append_assoc, edgesT_s, plT_out (both_f (by omega))], ho2o, rfl⟩⟩
        · try simp only [decide_eq_true_eq, decide_eq_false_iff_not, Bool.not_eq_true', Bool.not_eq_false', beq_iff_eq, bne_iff_ne, beq_eq_false_iff_ne, bne_eq_false_iff_eq, Int.not_lt, Int.not_le, gt_iff_lt, ge_iff_le, ne_eq] at h5
          refine XA_detp 4 rfl (by kernel_rfl) (by kernel_rfl) (by kernel_rfl) (fun _ _ _ _ h => h) (.yes 77 rfl rfl rfl) (D_idxAP rfl rfl arr_108 rfl (by decide) rfl) rfl ?_
          refine XA_det 5 rfl (by kernel_rfl) (by kernel_rfl) (by kernel_rfl) (by kernel_rfl) (fun _ _ _ _ h => h) (.yes 77 rfl rfl rfl) (D_ldo rfl (by repeat first | with_reducible exact .here _ _ | with_reducible apply Out.there | with_reducible apply Out.app) tk_4 (by rfl)) rfl ?_
          refine XA_detp 6 rfl (by kernel_rfl) (by kernel_rfl) (by kernel_rfl) (fun _ _ _ _ h => h) (.yes 77 rfl rfl rfl) (D_pureP rfl) rfl ?_
          refine XA_detp 7 rfl (by kernel_rfl) (by kernel_rfl) (by kernel_rfl) (fun _ _ _ _ h => h) .no (D_pureP rfl) rfl ?_
          refine XA_detp 8 rfl (by kernel_rfl) (by kernel_rfl) (by kernel_rfl) (fun _ _ _ _ h => h) .no (D_pureP rfl) rfl ?_
          refine XA_split (t := 82) rfl (fun h6 => ?_) (fun h6 => ?_)
          · try simp only [decide_eq_true_eq, decide_eq_false_iff_not, Bool.not_eq_true', Bool.not_eq_false', beq_iff_eq, bne_iff_ne, beq_eq_false_iff_ne, bne_eq_false_iff_eq, Int.not_lt, Int.not_le, gt_iff_lt, ge_iff_le, ne_eq] at h6
            refine XA_skipp 9 82 rfl (by kernel_rfl) (by kernel_rfl) (by kernel_rfl) (fun _ _ _ _ h => h) rfl rfl rfl rfl rfl ?_
            refine XA_skipp 10 82 rfl (by kernel_rfl) (by kernel_rfl) (by kernel_rfl) (fun _ _ _ _ h => h) rfl rfl rfl rfl rfl ?_
            refine XA_skipp 11 82 rfl (by kernel_rfl) (by kernel_rfl) (by kernel_rfl) (fun _ _ _ _ h => h) rfl rfl rfl rfl rfl ?_
            refine XA_skipp 12 82 rfl (by kernel_rfl) (by kernel_rfl) (by kernel_rfl) (fun _ _ _ _ h => h) rfl rfl rfl rfl rfl ?_
            refine XA_skipp 13 82 rfl (by kernel_rfl) (by kernel_rfl) (by kernel_rfl) (fun _ _ _ _ h => h) rfl rfl rfl rfl rfl ?_
            refine XA_skipp 14 82 rfl (by kernel_rfl) (by kernel_rfl) (by kernel_rfl) (fun _ _ _ _ h => h) rfl rfl rfl rfl rfl ?_
            refine XA_skipp 15 82 rfl (by kernel_rfl) (by kernel_rfl) (by kernel_rfl) (fun _ _ _ _ h => h) rfl rfl rfl rfl rfl ?_
            refine XA_skipp 16 82 rfl (by kernel_rfl) (by kernel_rfl) (by kernel_rfl) (fun _ _ _ _ h => h) rfl rfl rfl rfl rfl ?_
            refine XA_skipp 17 82 rfl (by kernel_rfl) (by kernel_rfl) (by kernel_rfl) (fun _ _ _ _ h => h) rfl rfl rfl rfl rfl ?_
            refine XA_skipp 18 82 rfl (by kernel_rfl) (by kernel_rfl) (by kernel_rfl) (fun _ _ _ _ h => h) rfl rfl rfl rfl rfl ?_
            refine XA_skipp 19 82 rfl (by kernel_rfl) (by kernel_rfl) (by kernel_rfl) (fun _ _ _ _ h => h) rfl rfl rfl rfl rfl ?_
            refine XA_detp 20 rfl (by kernel_rfl) (by kernel_rfl) (by kernel_rfl) (fun _ _ _ _ h => h) .no (D_pureP rfl) rfl ?_
            refine XA_done (by kernel_rfl) ?_
            try simp only [List.cons_append, List.nil_append, List.append_nil]
            refine thenX_normal ?_
            refine X_cond_t rfl rfl ?_
            refine X_region ?_
            refine XL_det .no (D_ldo rfl (by repeat first | with_reducible exact .here _ _ | with_reducible apply Out.there | with_reducible apply Out.app) tk_64 (by rfl)) rfl ?_
            refine XL_det .no (D_pure rfl) rfl ?_
            refine XL_det .no (D_idxA rfl rfl arr_108 rfl (by decide) rfl) rfl ?_
            refine XL_det .no (D_ldo rfl (by repeat first | with_reducible exact .here _ _ | with_reducible apply Out.there | with_reducible apply Out.app) tk_4 (by rfl)) rfl ?_
            refine XL_det .no (D_idxA rfl rfl arr_108 rfl (by decide) rfl) rfl ?_
            refine XL_det .no (D_ldo rfl (by repeat first | with_reducible exact .here _ _ | with_reducible apply Out.there | with_reducible apply Out.app) tk_4 (by rfl)) rfl ?_
            refine XL_det .no (D_build [_, _, _, _] rfl bld_69 (by rfl)) rfl ?_
            refine XL_bslice (cs := encN (tnAt 5 x.edges.l.length y.edges.l.length i)) .no rfl slt_64 (by decide) (by decide) (by rfl) (by rfl) rfl rfl (fun b11 => ?_)
            refine XL_app1 (enc := encN) (c := o) (y := (tnAt 5 x.edges.l.length y.edges.l.length i)) (K := _) .no rfl rfl slt_64 (by repeat first | with_reducible exact .here _ _ | with_reducible apply Out.there | with_reducible apply Out.app) (by repeat first | with_reducible exact .here _ _ | with_reducible apply Out.there | with_reducible apply Out.app) (Rd_blk0) rfl rfl (by omega) (by omega) rfl (fun o2 ho2 ho2o => ?_)
            refine XL_efd .no (F_stl rfl rfl rfl (by repeat first | with_reducible exact .here _ _ | with_reducible apply Out.there | with_reducible apply Out.app) tk_64 (by repeat first | exact .zero _ _ _ | apply SetL.succ)) ?_
            refine XL_nil ?_
            refine inBlk_normal ?_
            exact ⟨[blk b1 [.int .i64 x.res, .slice x.tasks.oad x.tasks.l.length x.tasks.c, .slice x.modes.oad x.modes.l.length x.modes.c, .slice x.edges.oad x.edges.l.length x.edges.c] 62, blk b2 [.int .i64 y.res, .slice y.tasks.oad y.tasks.l.length y.tasks.c, .slice y.modes.oad y.modes.l.length y.modes.c, .slice y.edges.oad y.edges.l.length y.edges.c] 62, blk b3 [.slice o2.oad o2.l.length o2.c] 64, row (.slice o2.oad o2.l.length o2.c) 69 4 o2.l.length (o2.l.flatMap encN), K], _, (by repeat first | with_reducible exact .nil _ | with_reducible exact .here _ _ | with_reducible exact Take.self _ | with_reducible apply Take.cons | with_reducible apply Out.there | with_reducible apply Take.skip | with_reducible exact Take.pre _ _ | with_reducible apply Out.app), ⟨o2, by rw [ho2, ho, List.append_assoc, edgesT_s, plT_out (both_f (by omega))], ho2o, rfl⟩⟩
          · try simp only [decide_eq_true_eq, decide_eq_false_iff_not, Bool.not_eq_true', Bool.not_eq_false', beq_iff_eq, bne_iff_ne, beq_eq_false_iff_ne, bne_eq_false_iff_eq, Int.not_lt, Int.not_le, gt_iff_lt, ge_iff_le, ne_eq] at h6
            obtain ⟨p, hgp⟩ : ∃ p, x.edges.l[i]? = some p := ⟨_, List.getElem?_eq_getElem (by omega)⟩
            obtain ⟨q, hgq⟩ : ∃ q, y.edges.l[i]? = some q := ⟨_, List.getElem?_eq_getElem (by omega)⟩
            refine XA_detp 9 rfl (by kernel_rfl) (by kernel_rfl) (by kernel_rfl) (fun _ _ _ _ h => h) (.yes 82 rfl rfl rfl) (D_fldP rfl fld_62_3 (o' := 3) rfl) rfl ?_
            refine XA_det 10 rfl (by kernel_rfl) (by kernel_rfl) (by kernel_rfl) (by kernel_rfl) (fun _ _ _ _ h => h) (.yes 82 rfl rfl rfl) (D_ldo rfl (by repeat first | with_reducible exact .here _ _ | with_reducible apply Out.there | with_reducible apply Out.app) tk_60 (by rfl)) rfl ?_
            refine XA_detp 11 rfl (by kernel_rfl) (by kernel_rfl) (by kernel_rfl) (fun _ _ _ _ h => h) (.yes 82 rfl rfl rfl) (D_pureP rfl) rfl ?_
            refine XA_detp 12 rfl (by kernel_rfl) (by kernel_rfl) (by kernel_rfl) (fun _ _ _ _ h => h) (.yes 82 rfl rfl rfl) (D_idxSoP rfl rfl slc_60 (x.edges).nil0 rfl (by omega) rfl) rfl ?_
            refine XA_det 13 rfl (by kernel_rfl) (by kernel_rfl) (by kernel_rfl) (by kernel_rfl) (fun _ _ _ _ h => h) (.yes 82 rfl rfl rfl) (D_els (enc := encE) (sz := 23) (i := i) (fun _ => rfl) rfl (by repeat first | with_reducible exact .here _ _ | with_reducible apply Out.there | with_reducible apply Out.app) hx.edges tk_113 hgp) rfl ?_
            refine XA_detp 14 rfl (by kernel_rfl) (by kernel_rfl) (by kernel_rfl) (fun _ _ _ _ h => h) (.yes 82 rfl rfl rfl) (D_fldP rfl fld_62_3 (o' := 3) rfl) rfl ?_
            refine XA_det 15 rfl (by kernel_rfl) (by kernel_rfl) (by kernel_rfl) (by kernel_rfl) (fun _ _ _ _ h => h) (.yes 82 rfl rfl rfl) (D_ldo rfl (by repeat first | with_reducible exact .here _ _ | with_reducible apply Out.there | with_reducible apply Out.app) tk_60 (by rfl)) rfl ?_
            refine XA_detp 16 rfl (by kernel_rfl) (by kernel_rfl) (by kernel_rfl) (fun _ _ _ _ h => h) (.yes 82 rfl rfl rfl) (D_pureP rfl) rfl ?_
            refine XA_detp 17 rfl (by kernel_rfl) (by kernel_rfl) (by kernel_rfl) (fun _ _ _ _ h => h) (.yes 82 rfl rfl rfl) (D_idxSoP rfl rfl slc_60 (y.edges).nil0 rfl (by omega) rfl) rfl ?_
            refine XA_det 18 rfl (by kernel_rfl) (by kernel_rfl) (by kernel_rfl) (by kernel_rfl) (fun _ _ _ _ h => h) (.yes 82 rfl rfl rfl) (D_els (enc := encE) (sz := 23) (i := i) (fun _ => rfl) rfl (by repeat first | with_reducible exact .here _ _ | with_reducible apply Out.there | with_reducible apply Out.app) hy.edges tk_113 hgq) rfl ?_
            refine XA_det 19 rfl (by kernel_rfl) (by kernel_rfl) (by kernel_rfl) (by kernel_rfl) (fun _ _ _ _ h => h) (.yes 82 rfl rfl rfl) (D_eqs (b := !cellsEq (encE p) (encE q)) rfl rfl eqk_113 eqg_113 rfl rfl rfl rfl) rfl ?_
            refine XA_detp 20 rfl (by kernel_rfl) (by kernel_rfl) (by kernel_rfl) (fun _ _ _ _ h => h) .no (D_pureP rfl) rfl ?_
            refine XA_done (by kernel_rfl) ?_
            try simp only [List.cons_append, List.nil_append, List.append_nil]
            refine thenX_normal ?_
            refine X_cond rfl (fun h7 => ?_) (fun h7 => ?_)
            · try simp only [decide_eq_true_eq, decide_eq_false_iff_not, Bool.not_eq_true', Bool.not_eq_false', beq_iff_eq, bne_iff_ne, beq_eq_false_iff_ne, bne_eq_false_iff_eq, Int.not_lt, Int.not_le, gt_iff_lt, ge_iff_le, ne_eq] at h7
              refine X_region ?_
              refine XL_det .no (D_ldo rfl (by repeat first | with_reducible exact .here _ _ | with_reducible apply Out.there | with_reducible apply Out.app) tk_64 (by rfl)) rfl ?_
              refine XL_det .no (D_pure rfl) rfl ?_
              refine XL_det .no (D_idxA rfl rfl arr_108 rfl (by decide) rfl) rfl ?_
              refine XL_det .no (D_ldo rfl (by repeat first | with_reducible exact .here _ _ | with_reducible apply Out.there | with_reducible apply Out.app) tk_4 (by rfl)) rfl ?_
              refine XL_det .no (D_idxA rfl rfl arr_108 rfl (by decide) rfl) rfl ?_
              refine XL_det .no (D_ldo rfl (by repeat first | with_reducible exact .here _ _ | with_reducible apply Out.there | with_reducible apply Out.app) tk_4 (by rfl)) rfl ?_
              refine XL_det .no (D_build [_, _, _, _] rfl bld_69 (by rfl)) rfl ?_
              refine XL_bslice (cs := encN (tnAt 5 x.edges.l.length y.edges.l.length i)) .no rfl slt_64 (by decide) (by decide) (by rfl) (by rfl) rfl rfl (fun b12 => ?_)
              refine XL_app1 (enc := encN) (c := o) (y := (tnAt 5 x.edges.l.length y.edges.l.length i)) (K := _) .no rfl rfl slt_64 (by repeat first | with_reducible exact .here _ _ | with_reducible apply Out.there | with_reducible apply Out.app) (by repeat first | with_reducible exact .here _ _ | with_reducible apply Out.there | with_reducible apply Out.app) (Rd_blk0) rfl rfl (by omega) (by omega) rfl (fun o2 ho2 ho2o => ?_)
              refine XL_efd .no (F_stl rfl rfl rfl (by repeat first | with_reducible exact .here _ _ | with_reducible apply Out.there | with_reducible apply Out.app) tk_64 (by repeat first | exact .zero _ _ _ | apply SetL.succ)) ?_
              refine XL_nil ?_
              refine inBlk_normal ?_
              exact ⟨[blk b1 [.int .i64 x.res, .slice x.tasks.oad x.tasks.l.length x.tasks.c, .slice x.modes.oad x.modes.l.length x.modes.c, .slice x.edges.oad x.edges.l.length x.edges.c] 62, blk b2 [.int .i64 y.res, .slice y.tasks.oad y.tasks.l.length y.tasks.c, .slice y.modes.oad y.modes.l.length y.modes.c, .slice y.edges.oad y.edges.l.length y.edges.c] 62, blk b3 [.slice o2.oad o2.l.length o2.c] 64, row (.slice o2.oad o2.l.length o2.c) 69 4 o2.l.length (o2.l.flatMap encN), K], _, (by repeat first | with_reducible exact .nil _ | with_reducible exact .here _ _ | with_reducible exact Take.self _ | with_reducible apply Take.cons | with_reducible apply Out.there | with_reducible apply Take.skip | with_reducible exact Take.pre _ _ | with_reducible apply Out.app), ⟨o2, by rw [ho2, ho, List.append_assoc, edgesT_s, plT_ne hgp hgq (by show cellsEq _ _ = false; simpa using h7)], ho2o, rfl⟩⟩
            · try simp only [decide_eq_true_eq, decide_eq_false_iff_not, Bool.not_eq_true', Bool.not_eq_false', beq_iff_eq, bne_iff_ne, beq_eq_false_iff_ne, bne_eq_false_iff_eq, Int.not_lt, Int.not_le, gt_iff_lt, ge_iff_le, ne_eq] at h7
              refine X_skip ?_
              refine inBlk_normal ?_
              exact ⟨[blk b1 [.int .i64 x.res, .slice x.tasks.oad x.tasks.l.length x.tasks.c, .slice x.modes.oad x.modes.l.length x.modes.c, .slice x.edges.oad x.edges.l.length x.edges.c] 62, blk b2 [.int .i64 y.res, .slice y.tasks.oad y.tasks.l.length y.tasks.c, .slice y.modes.oad y.modes.l.length y.modes.c, .slice y.edges.oad y.edges.l.length y.edges.c] 62, blk b3 [.slice o.oad o.l.length o.c] 64, row (.slice o.oad o.l.length o.c) 69 4 o.l.length (o.l.flatMap encN), K], _, (by repeat first | with_reducible exact .nil _ | with_reducible exact .here _ _ | with_reducible exact Take.self _ | with_reducible apply Take.cons | with_reducible apply Out.there | with_reducible apply Take.skip | with_reducible exact Take.pre _ _ | with_reducible apply Out.app), ⟨o, by rw [ho, edgesT_s, plT_eq hgp hgq (by show cellsEq _ _ = true; simpa using h7), List.append_nil], hoo, rfl⟩⟩
      · intro dd1 S2 hJ
        obtain ⟨o, ho, hoo, rfl⟩ := hJ
        rw [plL_len] at ho
        simp only [List.cons_append, List.nil_append]
        replace hoo : o.Own := hoo
        refine inBlk_normal ?_
        refine thenX_normal ?_
        refine X_seq ?_
        refine X_region ?_
        refine XL_det .no (D_ldo rfl (by repeat first | with_reducible exact .here _ _ | with_reducible apply Out.there | with_reducible apply Out.app) tk_64 (by rfl)) rfl ?_
        refine XL_det .no (D_pure rfl) rfl ?_
        refine XL_then ?_
        refine X_ret ?_
        refine ret_ok (show Take [dfr dd1, dfr dd0] _ _ from (by repeat first | with_reducible exact .nil _ | with_reducible exact .here _ _ | with_reducible exact Take.self _ | with_reducible apply Take.cons | with_reducible apply Out.there | with_reducible apply Take.skip | with_reducible exact Take.pre _ _ | with_reducible apply Out.app)) (res_tmp rfl rfl) ?_
        exact ⟨[row (.slice o.oad o.l.length o.c) 69 4 o.l.length (o.l.flatMap encN), K], ⟨o, ⟨ho, hoo⟩, rfl, rfl⟩, _, (by repeat first | with_reducible exact .nil _ | with_reducible exact .here _ _ | with_reducible exact Take.self _ | with_reducible apply Take.cons | with_reducible apply Out.there | with_reducible apply Take.skip | with_reducible exact Take.pre _ _ | with_reducible apply Out.app)⟩
      · intro dd1 c i S2 hi h
        exact h.elim
    · intro dd0 c i S2 hi h
      exact h.elim

end Go.Proofs.Ytjcpggoodbkedaa
end

section
namespace Go.Proofs.Ytjcpggoodbkedaa
open Go Go.Sl
set_option linter.unusedVariables false
set_option linter.unusedSimpArgs false
set_option maxRecDepth 4000
variable {B : Nat} {K : Asrt B}
theorem bld_62 : bldOf Try.prog 62 = some ([.int .i64 0, .slice none 0 0, .slice none 0 0, .slice none 0 0], [(0, 1), (1, 1), (2, 1), (3, 1)]) := by kernel_rfl
theorem bld_75 : bldOf Try.prog 75 = some ([.int .i64 0, .int .i64 0, .int .i64 0, .int .i64 0, .int .i64 0, .int .i64 0, .int .i64 0, .int .i64 0, .int .i64 0, .int .i64 0, .int .i64 0], [(0, 1), (1, 1), (2, 1), (3, 8)]) := by kernel_rfl
theorem en_16 : Go.Proofs.Enters Try.prog 16 := Go.Proofs.enters_of Try.func16 (by kernel_rfl) rfl
theorem en_30 : Go.Proofs.Enters Try.prog 30 := Go.Proofs.enters_of Try.func30 (by kernel_rfl) rfl
theorem en_32 : Go.Proofs.Enters Try.prog 32 := Go.Proofs.enters_of Try.func32 (by kernel_rfl) rfl
theorem en_33 : Go.Proofs.Enters Try.prog 33 := Go.Proofs.enters_of Try.func33 (by kernel_rfl) rfl
theorem slc_64 : slcOf Try.prog 64 = some (69, 4) := by kernel_rfl
theorem slc_71 : slcOf Try.prog 71 = some (9, 1) := by kernel_rfl
theorem slt_58 : slT Try.prog 58 = some (75, 11, 88, [.int .i64 0, .int .i64 0, .int .i64 0, .int .i64 0, .int .i64 0, .int .i64 0, .int .i64 0, .int .i64 0, .int .i64 0, .int .i64 0, .int .i64 0]) := by kernel_rfl
theorem slt_71 : slT Try.prog 71 = some (9, 1, 16, [.string ByteArray.empty]) := by kernel_rfl
theorem tk_62 : tyK Try.prog 62 = some (true, 4) := by kernel_rfl
theorem tk_69 : tyK Try.prog 69 = some (true, 4) := by kernel_rfl
theorem ub_4 : Try.prog.underlying 4 = some .bool := by kernel_rfl
theorem zero_62 : zeroOf Try.prog 62 = some [.int .i64 0, .slice none 0 0, .slice none 0 0, .slice none 0 0] := by kernel_rfl

def eA (n : Int) : Nat → Int
  | 0 => n
  | _ => 0
abbrev imgA (b : Nat) (n : Int) : Img := ⟨0, Arr.lit b [eA n] (by show 1 ≤ _; decide), Arr.emp, Arr.emp⟩
theorem imgA_small (b : Nat) (n : Int) : Small (imgA b n) := ⟨by show 1 ≤ 1000; decide, by show 0 ≤ 1000; decide, by show 0 ≤ 1000; decide⟩
theorem imgA_in {K : Asrt B} {b : Nat} {n : Int} (h : Rd K ⟨b, 0, none⟩ (encT (eA n))) : (imgA b n).In K :=
  ⟨by show Rd K ⟨b, 0, none⟩ (encT (eA n) ++ []); rw [List.append_nil]; exact h, fun D w _ k hk => absurd hk (Nat.not_lt_zero k), fun D w _ k hk => absurd hk (Nat.not_lt_zero k), fun m hm => by cases hm⟩
theorem diff42 (a b : Nat) : diffOf (imgA a 1) (imgA b 2) = [⟨2, 0, true, true⟩] := by rfl
theorem line42 : lineD ⟨2, 0, true, true⟩ = [116, 97, 115, 107, 32, 48, 32, 111, 116, 104, 101, 114] := by kernel_rfl

theorem alive42  : Ctr Try.prog B 33 [] [] (fun v S => v = .bool true ∧ S = []) := by
  refine Ctr_of_X (N := 25) Try.func33 rfl (by simp) rfl ?_
  intro w0 D0
  refine X_seq ?_
  refine X_region ?_
  refine XL_det .no (D_pure rfl) rfl ?_
  refine XL_then ?_
  refine X_seq ?_
  refine X_region ?_
  refine XL_det .no (D_build [_, _, _, _, _, _, _, _, _, _, _] rfl bld_75 (by rfl)) rfl ?_
  refine XL_bslice (cs := encT (eA 1)) .no rfl slt_58 (by decide) (by decide) (by rfl) (by rfl) rfl rfl (fun b1 => ?_)
  refine XL_det .no (D_build [_, _, _, _] rfl bld_62 (by rfl)) rfl ?_
  refine XL_alloc .no zero_62 rfl (fun b2 => ?_)
  refine XL_efd .no (F_stw rfl rfl rfl (by repeat first | with_reducible exact .here _ _ | with_reducible apply Out.there | with_reducible apply Out.app) tk_62 rfl rfl) ?_
  refine XL_then ?_
  refine X_seq ?_
  refine X_region ?_
  refine XL_det .no (D_build [_, _, _, _, _, _, _, _, _, _, _] rfl bld_75 (by rfl)) rfl ?_
  refine XL_bslice (cs := encT (eA 2)) .no rfl slt_58 (by decide) (by decide) (by rfl) (by rfl) rfl rfl (fun b3 => ?_)
  refine XL_det .no (D_build [_, _, _, _] rfl bld_62 (by rfl)) rfl ?_
  refine XL_alloc .no zero_62 rfl (fun b4 => ?_)
  refine XL_efd .no (F_stw rfl rfl rfl (by repeat first | with_reducible exact .here _ _ | with_reducible apply Out.there | with_reducible apply Out.app) tk_62 rfl rfl) ?_
  refine XL_then ?_
  refine X_seq ?_
  refine X_region ?_
  refine XL_det .no (D_ldso (vs := [.int .i64 0, .slice (some ⟨b1, 0, none⟩) 1 1, .slice none 0 0, .slice none 0 0]) rfl (by repeat first | with_reducible exact .here _ _ | with_reducible apply Out.there | with_reducible apply Out.app) tk_62 rfl (by rfl)) rfl ?_
  refine XL_det .no (D_ldso (vs := [.int .i64 0, .slice (some ⟨b3, 0, none⟩) 1 1, .slice none 0 0, .slice none 0 0]) rfl (by repeat first | with_reducible exact .here _ _ | with_reducible apply Out.there | with_reducible apply Out.app) tk_62 rfl (by rfl)) rfl ?_
  refine XL_both (blk b1 (encT (eA 1)) 75) (blk b3 (encT (eA 2)) 75) (by repeat first | with_reducible exact .nil _ | with_reducible exact .here _ _ | with_reducible exact Take.self _ | with_reducible apply Take.cons | with_reducible apply Out.there | with_reducible apply Take.skip | with_reducible exact Take.pre _ _ | with_reducible apply Out.app) ?_
  refine XL_call .no en_30 rfl (dOf (K := both (blk b1 (encT (eA 1)) 75) (blk b3 (encT (eA 2)) 75)) (imgA b1 1) (imgA b3 2) (imgA_in (Rd.both1 Rd_blk0)) (imgA_in (Rd.both2 Rd_blk0)) (imgA_small _ _) (imgA_small _ _)) (by repeat first | with_reducible exact .nil _ | with_reducible exact .here _ _ | with_reducible exact Take.self _ | with_reducible apply Take.cons | with_reducible apply Out.there | with_reducible apply Take.skip | with_reducible exact Take.pre _ _ | with_reducible apply Out.app) rfl ?_
  rintro _ _ ⟨o, ⟨ho, hoo⟩, rfl, rfl⟩
  simp only [List.cons_append, List.nil_append]
  rw [diff42] at ho
  refine XL_det .no (D_pure rfl) rfl ?_
  refine XL_then ?_
  refine X_seq ?_
  refine X_region ?_
  refine XL_det .no (D_pure rfl) rfl ?_
  refine XL_det .no (D_len rfl rfl slc_64) rfl ?_
  refine XL_det .no (D_pure (v := .bool true) (bt (by rw [ho]; rfl))) rfl ?_
  refine XL_det .no (D_pure rfl) rfl ?_
  refine XL_det (.yes 16 rfl rfl rfl) (D_pure rfl) rfl ?_
  refine XL_det (.yes 16 rfl rfl rfl) (D_idxSo rfl rfl slc_64 (o).nil0 rfl (by rw [ho]; decide) rfl) rfl ?_
  refine XL_det (.yes 16 rfl rfl rfl) (D_els (enc := encN) (sz := 4) (i := 0) (fun _ => rfl) rfl (by repeat first | with_reducible exact .here _ _ | with_reducible apply Out.there | with_reducible apply Out.app) (Rd_own hoo rfl) tk_69 (by rw [ho]; rfl : o.l[0]? = some (⟨2, 0, true, true⟩ : Tn))) rfl ?_
  refine XL_callv (.yes 16 rfl rfl rfl) en_32 rfl (dLine ⟨2, 0, true, true⟩) rfl ?_
  rw [line42]
  refine XL_det (.yes 16 rfl rfl rfl) (D_seq (q := true) rfl rfl rfl) rfl ?_
  refine XL_det .no (D_pure rfl) rfl ?_
  refine XL_det .no (D_pure rfl) rfl ?_
  refine XL_det .no (D_pure rfl) rfl ?_
  refine XL_det .no (D_pure rfl) rfl ?_
  refine XL_then ?_
  refine X_ret ?_
  refine ret_ok (.nil _) (res_tmp rfl rfl) ?_
  exact ⟨_, ⟨rfl, rfl⟩, _, (by repeat first | with_reducible exact .nil _ | with_reducible exact .here _ _ | with_reducible exact Take.self _ | with_reducible apply Take.cons | with_reducible apply Out.there | with_reducible apply Take.skip | with_reducible exact Take.pre _ _ | with_reducible apply Out.app)⟩


abbrev names5 : List Value := [str [114, 101, 115], str [116, 97, 115, 107], str [109, 111, 100, 101], str [113, 117, 101, 117, 101, 115], str [101, 100, 103, 101]]
theorem names5_get {k : Int} (h1 : 1 ≤ k) (h2 : k ≤ 5) : names5[(k - 1).toNat * 1]? = some (str (wordD k)) := by
  rcases wk_cases h1 h2 with rfl | rfl | rfl | rfl | rfl <;> rfl
theorem okD_i {t : Tn} (h1 : 1 ≤ t.kind) (h2 : t.kind ≤ 5) (h3 : 0 ≤ t.pl) (h4 : t.old = true ∨ t.new = true) : okD t = true := okD_t (wordD_in h1 h2).1 h3 h4
theorem okD_k {t : Tn} (h : ¬ (1 ≤ t.kind ∧ t.kind ≤ 5)) : okD t = false := okD_1 (wordD_out h)

theorem diffLines (t : Tn) : Ctr Try.prog B 8 [.agg (encN t).toArray] [] (fun v S => v = .bool true ∧ S = []) := by
  refine Ctr_of_X (N := 53) Try.func8 rfl (by simp) rfl ?_
  intro w0 D0
  refine X_seq ?_
  refine X_region ?_
  refine XL_box (cs := encN t) .no rfl rfl rfl (fun b1 => ?_)
  refine XL_det .no (D_pure rfl) rfl ?_
  refine XL_then ?_
  refine X_seq ?_
  refine X_region ?_
  refine XL_det .no (D_pure rfl) rfl ?_
  refine XL_then ?_
  refine X_seqj (α := Unit) (fun _ => True) (fun _ => [(3, str (lineD t)), (1, .pointer (some ⟨b1, 0, none⟩))]) (fun _ => [blk b1 (encN t) 69]) ?_ ?_
  · skip
    refine X_seq ?_
    refine X_region ?_
    refine XL_det .no (D_fld rfl fld_69_0 (o' := 0) rfl) rfl ?_
    refine XL_det .no (D_ldo rfl (by repeat first | with_reducible exact .here _ _ | with_reducible apply Out.there | with_reducible apply Out.app) tk_67 (by rfl)) rfl ?_
    refine XL_det .no (D_pure rfl) rfl ?_
    refine XL_det .no (D_pure rfl) rfl ?_
    refine XL_split (t := 8) rfl (fun h1 => ?_) (fun h1 => ?_)
    · try simp only [decide_eq_true_eq, decide_eq_false_iff_not, Bool.not_eq_true', Bool.not_eq_false', beq_iff_eq, bne_iff_ne, beq_eq_false_iff_ne, bne_eq_false_iff_eq, Int.not_lt, Int.not_le, gt_iff_lt, ge_iff_le, ne_eq] at h1
      refine XL_det (.yes 8 rfl rfl rfl) (D_fld rfl fld_69_0 (o' := 0) rfl) rfl ?_
      refine XL_det (.yes 8 rfl rfl rfl) (D_ldo rfl (by repeat first | with_reducible exact .here _ _ | with_reducible apply Out.there | with_reducible apply Out.app) tk_67 (by rfl)) rfl ?_
      refine XL_det (.yes 8 rfl rfl rfl) (D_pure rfl) rfl ?_
      refine XL_det .no (D_pure rfl) rfl ?_
      refine XL_det .no (D_pure rfl) rfl ?_
      refine XL_split (t := 13) rfl (fun h2 => ?_) (fun h2 => ?_)
      · try simp only [decide_eq_true_eq, decide_eq_false_iff_not, Bool.not_eq_true', Bool.not_eq_false', beq_iff_eq, bne_iff_ne, beq_eq_false_iff_ne, bne_eq_false_iff_eq, Int.not_lt, Int.not_le, gt_iff_lt, ge_iff_le, ne_eq] at h2
        refine XL_det (.yes 13 rfl rfl rfl) (D_fld rfl fld_69_1 (o' := 1) rfl) rfl ?_
        refine XL_det (.yes 13 rfl rfl rfl) (D_ldo rfl (by repeat first | with_reducible exact .here _ _ | with_reducible apply Out.there | with_reducible apply Out.app) tk_3 (by rfl)) rfl ?_
        refine XL_det (.yes 13 rfl rfl rfl) (D_pure rfl) rfl ?_
        refine XL_det .no (D_pure rfl) rfl ?_
        refine XL_det .no (D_pure rfl) rfl ?_
        refine XL_split (t := 18) rfl (fun h3 => ?_) (fun h3 => ?_)
        · try simp only [decide_eq_true_eq, decide_eq_false_iff_not, Bool.not_eq_true', Bool.not_eq_false', beq_iff_eq, bne_iff_ne, beq_eq_false_iff_ne, bne_eq_false_iff_eq, Int.not_lt, Int.not_le, gt_iff_lt, ge_iff_le, ne_eq] at h3
          refine XL_det (.yes 18 rfl rfl rfl) (D_fld rfl fld_69_2 (o' := 2) rfl) rfl ?_
          refine XL_det (.yes 18 rfl rfl rfl) (D_ldo rfl (by repeat first | with_reducible exact .here _ _ | with_reducible apply Out.there | with_reducible apply Out.app) tk_4 (by rfl)) rfl ?_
          refine XL_det (.yes 18 rfl rfl rfl) (D_pure rfl) rfl ?_
          refine XL_split (t := 21) rfl (fun h4 => ?_) (fun h4 => ?_)
          · try simp only [decide_eq_true_eq, decide_eq_false_iff_not, Bool.not_eq_true', Bool.not_eq_false', beq_iff_eq, bne_iff_ne, beq_eq_false_iff_ne, bne_eq_false_iff_eq, Int.not_lt, Int.not_le, gt_iff_lt, ge_iff_le, ne_eq] at h4
            have g1 := wordD_len t.kind
            have g2 := txt_len t.pl
            refine XL_skip 21 rfl rfl rfl rfl rfl ?_
            refine XL_skip 21 rfl rfl rfl rfl rfl ?_
            refine XL_det (.yes 18 rfl rfl rfl) (D_pure rfl) rfl ?_
            refine XL_det .no (D_pure rfl) rfl ?_
            refine XL_then ?_
            refine X_cond_t rfl rfl ?_
            refine X_seq ?_
            refine X_region ?_
            refine XL_det .no (D_pure rfl) rfl ?_
            refine XL_then ?_
            refine X_seq ?_
            refine X_seq ?_
            refine X_region ?_
            refine XL_det .no (D_fld rfl fld_69_2 (o' := 2) rfl) rfl ?_
            refine XL_det .no (D_ldo rfl (by repeat first | with_reducible exact .here _ _ | with_reducible apply Out.there | with_reducible apply Out.app) tk_4 (by rfl)) rfl ?_
            refine XL_det .no (D_pure rfl) rfl ?_
            refine XL_then ?_
            refine X_cond rfl (fun h5 => ?_) (fun h5 => ?_)
            · try simp only [decide_eq_true_eq, decide_eq_false_iff_not, Bool.not_eq_true', Bool.not_eq_false', beq_iff_eq, bne_iff_ne, beq_eq_false_iff_ne, bne_eq_false_iff_eq, Int.not_lt, Int.not_le, gt_iff_lt, ge_iff_le, ne_eq] at h5
              rw [h4] at h5; cases h5
            · try simp only [decide_eq_true_eq, decide_eq_false_iff_not, Bool.not_eq_true', Bool.not_eq_false', beq_iff_eq, bne_iff_ne, beq_eq_false_iff_ne, bne_eq_false_iff_eq, Int.not_lt, Int.not_le, gt_iff_lt, ge_iff_le, ne_eq] at h5
              refine X_skip ?_
              refine thenX_normal ?_
              refine X_seq ?_
              refine X_seq ?_
              refine X_region ?_
              refine XL_det .no (D_fld rfl fld_69_3 (o' := 3) rfl) rfl ?_
              refine XL_det .no (D_ldo rfl (by repeat first | with_reducible exact .here _ _ | with_reducible apply Out.there | with_reducible apply Out.app) tk_4 (by rfl)) rfl ?_
              refine XL_det .no (D_pure rfl) rfl ?_
              refine XL_then ?_
              refine X_cond rfl (fun h6 => ?_) (fun h6 => ?_)
              · try simp only [decide_eq_true_eq, decide_eq_false_iff_not, Bool.not_eq_true', Bool.not_eq_false', beq_iff_eq, bne_iff_ne, beq_eq_false_iff_ne, bne_eq_false_iff_eq, Int.not_lt, Int.not_le, gt_iff_lt, ge_iff_le, ne_eq] at h6
                refine X_region ?_
                refine XL_det .no (D_pure rfl) rfl ?_
                refine XL_then ?_
                refine X_draw _ mixed (Take.self _) ?_
                refine XA_detp 1 rfl (by kernel_rfl) (by kernel_rfl) (by kernel_rfl) (fun _ _ _ _ h => h) .no (D_fldP rfl fld_69_0 (o' := 0) rfl) rfl ?_
                refine XA_det 2 rfl (by kernel_rfl) (by kernel_rfl) (by kernel_rfl) (by kernel_rfl) (fun _ _ _ _ h => h) .no (D_ldo rfl (by repeat first | with_reducible exact .here _ _ | with_reducible apply Out.there | with_reducible apply Out.app) tk_67 (by rfl)) rfl ?_
                refine XA_det 3 rfl (by kernel_rfl) (by kernel_rfl) (by kernel_rfl) (by kernel_rfl) (fun _ _ _ _ h => h) .no (D_sub rfl rfl (by omega) (by omega)) rfl ?_
                refine XA_detp 7 rfl (by kernel_rfl) (by kernel_rfl) (by kernel_rfl) (fun _ _ _ _ h => h) .no (D_fldP rfl fld_69_1 (o' := 1) rfl) rfl ?_
                refine XA_det 8 rfl (by kernel_rfl) (by kernel_rfl) (by kernel_rfl) (by kernel_rfl) (fun _ _ _ _ h => h) .no (D_ldo rfl (by repeat first | with_reducible exact .here _ _ | with_reducible apply Out.there | with_reducible apply Out.app) tk_3 (by rfl)) rfl ?_
                refine XA_detp 12 rfl (by kernel_rfl) (by kernel_rfl) (by kernel_rfl) (fun _ _ _ _ h => h) .no (D_pureP rfl) rfl ?_
                refine XA_two 0 9 (by kernel_rfl) ?_ ?_
                · skip
                  refine XO_bslice (cs := names5) rfl .no rfl slt_71 (by decide) (by decide) (by rfl) (by rfl) rfl rfl (fun bd32 => ?_)
                  refine XA_det 4 rfl (by kernel_rfl) (by kernel_rfl) (by kernel_rfl) (by kernel_rfl) (fun _ _ _ _ h => h) .no (D_idxS (n := 5) (j := (t.kind - 1).toNat) rfl rfl slc_71 (by omega) (by omega) rfl) rfl ?_
                  refine XA_two 5 9 (by kernel_rfl) ?_ ?_
                  · skip
                    refine XO_det rfl .no (by repeat first | with_reducible exact .nil _ | with_reducible apply App.cons) (D_ld (ad := ⟨bd32, 0, none⟩) (k := (t.kind - 1).toNat * 1) rfl (by repeat first | with_reducible exact .here _ _ | with_reducible apply Out.there | with_reducible apply Out.app) Rd_obj tk_9 (names5_get (by omega) (by omega))) rfl ?_
                    refine XA_det 6 rfl (by kernel_rfl) (by kernel_rfl) (by kernel_rfl) (by kernel_rfl) (fun _ _ _ _ h => h) .no (D_scat rfl rfl (by simp only [List.length_append, List.length_cons, List.length_nil]; omega)) rfl ?_
                    refine XA_one 9 (by kernel_rfl) ?_
                    refine XO_callv rfl .no en_16 rfl (rtext t.pl) rfl ?_
                    refine XA_det 10 rfl (by kernel_rfl) (by kernel_rfl) (by kernel_rfl) (by kernel_rfl) (fun _ _ _ _ h => h) .no (D_scat rfl rfl (by simp only [List.length_append, List.length_cons, List.length_nil]; omega)) rfl ?_
                    refine XA_det 11 rfl (by kernel_rfl) (by kernel_rfl) (by kernel_rfl) (by kernel_rfl) (fun _ _ _ _ h => h) .no (D_scat rfl rfl (by simp only [List.length_append, List.length_cons, List.length_nil]; omega)) rfl ?_
                    refine XA_det 13 rfl (by kernel_rfl) (by kernel_rfl) (by kernel_rfl) (by kernel_rfl) (fun _ _ _ _ h => h) .no (D_scat rfl rfl (by simp only [List.length_append, List.length_cons, List.length_nil]; omega)) rfl ?_
                    refine XA_detp 14 rfl (by kernel_rfl) (by kernel_rfl) (by kernel_rfl) (fun _ _ _ _ h => h) .no (D_pureP rfl) rfl ?_
                    refine XA_done (by kernel_rfl) ?_
                    try simp only [List.cons_append, List.nil_append, List.append_nil]
                    refine joinQ_normal () ?_ ?_ ?_
                    · trivial
                    · refine ⟨by rw [lineD_t (okD_i h1 (by omega) (by omega) (by first | exact .inl (by assumption) | exact .inr (by assumption))), h4, h6]; rfl, ?_, trivial⟩ <;> rfl
                    · exact ⟨_, (by repeat first | with_reducible exact .nil _ | with_reducible exact .here _ _ | with_reducible exact Take.self _ | with_reducible apply Take.cons | with_reducible apply Out.there | with_reducible apply Take.skip | with_reducible exact Take.pre _ _ | with_reducible apply Out.app)⟩
                  · skip
                    refine XO_callv rfl .no en_16 rfl (rtext t.pl) rfl ?_
                    refine XA_one 5 (by kernel_rfl) ?_
                    refine XO_det rfl .no (by repeat first | with_reducible exact .nil _ | with_reducible apply App.cons) (D_ld (ad := ⟨bd32, 0, none⟩) (k := (t.kind - 1).toNat * 1) rfl (by repeat first | with_reducible exact .here _ _ | with_reducible apply Out.there | with_reducible apply Out.app) Rd_obj tk_9 (names5_get (by omega) (by omega))) rfl ?_
                    refine XA_det 6 rfl (by kernel_rfl) (by kernel_rfl) (by kernel_rfl) (by kernel_rfl) (fun _ _ _ _ h => h) .no (D_scat rfl rfl (by simp only [List.length_append, List.length_cons, List.length_nil]; omega)) rfl ?_
                    refine XA_det 10 rfl (by kernel_rfl) (by kernel_rfl) (by kernel_rfl) (by kernel_rfl) (fun _ _ _ _ h => h) .no (D_scat rfl rfl (by simp only [List.length_append, List.length_cons, List.length_nil]; omega)) rfl ?_
                    refine XA_det 11 rfl (by kernel_rfl) (by kernel_rfl) (by kernel_rfl) (by kernel_rfl) (fun _ _ _ _ h => h) .no (D_scat rfl rfl (by simp only [List.length_append, List.length_cons, List.length_nil]; omega)) rfl ?_
                    refine XA_det 13 rfl (by kernel_rfl) (by kernel_rfl) (by kernel_rfl) (by kernel_rfl) (fun _ _ _ _ h => h) .no (D_scat rfl rfl (by simp only [List.length_append, List.length_cons, List.length_nil]; omega)) rfl ?_
                    refine XA_detp 14 rfl (by kernel_rfl) (by kernel_rfl) (by kernel_rfl) (fun _ _ _ _ h => h) .no (D_pureP rfl) rfl ?_
                    refine XA_done (by kernel_rfl) ?_
                    try simp only [List.cons_append, List.nil_append, List.append_nil]
                    refine joinQ_normal () ?_ ?_ ?_
                    · trivial
                    · refine ⟨by rw [lineD_t (okD_i h1 (by omega) (by omega) (by first | exact .inl (by assumption) | exact .inr (by assumption))), h4, h6]; rfl, ?_, trivial⟩ <;> rfl
                    · exact ⟨_, (by repeat first | with_reducible exact .nil _ | with_reducible exact .here _ _ | with_reducible exact Take.self _ | with_reducible apply Take.cons | with_reducible apply Out.there | with_reducible apply Take.skip | with_reducible exact Take.pre _ _ | with_reducible apply Out.app)⟩
                · skip
                  refine XO_callv rfl .no en_16 rfl (rtext t.pl) rfl ?_
                  refine XA_one 0 (by kernel_rfl) ?_
                  refine XO_bslice (cs := names5) rfl .no rfl slt_71 (by decide) (by decide) (by rfl) (by rfl) rfl rfl (fun bd32 => ?_)
                  refine XA_det 4 rfl (by kernel_rfl) (by kernel_rfl) (by kernel_rfl) (by kernel_rfl) (fun _ _ _ _ h => h) .no (D_idxS (n := 5) (j := (t.kind - 1).toNat) rfl rfl slc_71 (by omega) (by omega) rfl) rfl ?_
                  refine XA_one 5 (by kernel_rfl) ?_
                  refine XO_det rfl .no (by repeat first | with_reducible exact .nil _ | with_reducible apply App.cons) (D_ld (ad := ⟨bd32, 0, none⟩) (k := (t.kind - 1).toNat * 1) rfl (by repeat first | with_reducible exact .here _ _ | with_reducible apply Out.there | with_reducible apply Out.app) Rd_obj tk_9 (names5_get (by omega) (by omega))) rfl ?_
                  refine XA_det 6 rfl (by kernel_rfl) (by kernel_rfl) (by kernel_rfl) (by kernel_rfl) (fun _ _ _ _ h => h) .no (D_scat rfl rfl (by simp only [List.length_append, List.length_cons, List.length_nil]; omega)) rfl ?_
                  refine XA_det 10 rfl (by kernel_rfl) (by kernel_rfl) (by kernel_rfl) (by kernel_rfl) (fun _ _ _ _ h => h) .no (D_scat rfl rfl (by simp only [List.length_append, List.length_cons, List.length_nil]; omega)) rfl ?_
                  refine XA_det 11 rfl (by kernel_rfl) (by kernel_rfl) (by kernel_rfl) (by kernel_rfl) (fun _ _ _ _ h => h) .no (D_scat rfl rfl (by simp only [List.length_append, List.length_cons, List.length_nil]; omega)) rfl ?_
                  refine XA_det 13 rfl (by kernel_rfl) (by kernel_rfl) (by kernel_rfl) (by kernel_rfl) (fun _ _ _ _ h => h) .no (D_scat rfl rfl (by simp only [List.length_append, List.length_cons, List.length_nil]; omega)) rfl ?_
                  refine XA_detp 14 rfl (by kernel_rfl) (by kernel_rfl) (by kernel_rfl) (fun _ _ _ _ h => h) .no (D_pureP rfl) rfl ?_
                  refine XA_done (by kernel_rfl) ?_
                  try simp only [List.cons_append, List.nil_append, List.append_nil]
                  refine joinQ_normal () ?_ ?_ ?_
                  · trivial
                  · refine ⟨by rw [lineD_t (okD_i h1 (by omega) (by omega) (by first | exact .inl (by assumption) | exact .inr (by assumption))), h4, h6]; rfl, ?_, trivial⟩ <;> rfl
                  · exact ⟨_, (by repeat first | with_reducible exact .nil _ | with_reducible exact .here _ _ | with_reducible exact Take.self _ | with_reducible apply Take.cons | with_reducible apply Out.there | with_reducible apply Take.skip | with_reducible exact Take.pre _ _ | with_reducible apply Out.app)⟩
              · try simp only [decide_eq_true_eq, decide_eq_false_iff_not, Bool.not_eq_true', Bool.not_eq_false', beq_iff_eq, bne_iff_ne, beq_eq_false_iff_ne, bne_eq_false_iff_eq, Int.not_lt, Int.not_le, gt_iff_lt, ge_iff_le, ne_eq] at h6
                refine X_skip ?_
                refine thenX_normal ?_
                refine X_draw _ mixed (Take.self _) ?_
                refine XA_detp 1 rfl (by kernel_rfl) (by kernel_rfl) (by kernel_rfl) (fun _ _ _ _ h => h) .no (D_fldP rfl fld_69_0 (o' := 0) rfl) rfl ?_
                refine XA_det 2 rfl (by kernel_rfl) (by kernel_rfl) (by kernel_rfl) (by kernel_rfl) (fun _ _ _ _ h => h) .no (D_ldo rfl (by repeat first | with_reducible exact .here _ _ | with_reducible apply Out.there | with_reducible apply Out.app) tk_67 (by rfl)) rfl ?_
                refine XA_det 3 rfl (by kernel_rfl) (by kernel_rfl) (by kernel_rfl) (by kernel_rfl) (fun _ _ _ _ h => h) .no (D_sub rfl rfl (by omega) (by omega)) rfl ?_
                refine XA_detp 7 rfl (by kernel_rfl) (by kernel_rfl) (by kernel_rfl) (fun _ _ _ _ h => h) .no (D_fldP rfl fld_69_1 (o' := 1) rfl) rfl ?_
                refine XA_det 8 rfl (by kernel_rfl) (by kernel_rfl) (by kernel_rfl) (by kernel_rfl) (fun _ _ _ _ h => h) .no (D_ldo rfl (by repeat first | with_reducible exact .here _ _ | with_reducible apply Out.there | with_reducible apply Out.app) tk_3 (by rfl)) rfl ?_
                refine XA_detp 12 rfl (by kernel_rfl) (by kernel_rfl) (by kernel_rfl) (fun _ _ _ _ h => h) .no (D_pureP rfl) rfl ?_
                refine XA_two 0 9 (by kernel_rfl) ?_ ?_
                · skip
                  refine XO_bslice (cs := names5) rfl .no rfl slt_71 (by decide) (by decide) (by rfl) (by rfl) rfl rfl (fun bd32 => ?_)
                  refine XA_det 4 rfl (by kernel_rfl) (by kernel_rfl) (by kernel_rfl) (by kernel_rfl) (fun _ _ _ _ h => h) .no (D_idxS (n := 5) (j := (t.kind - 1).toNat) rfl rfl slc_71 (by omega) (by omega) rfl) rfl ?_
                  refine XA_two 5 9 (by kernel_rfl) ?_ ?_
                  · skip
                    refine XO_det rfl .no (by repeat first | with_reducible exact .nil _ | with_reducible apply App.cons) (D_ld (ad := ⟨bd32, 0, none⟩) (k := (t.kind - 1).toNat * 1) rfl (by repeat first | with_reducible exact .here _ _ | with_reducible apply Out.there | with_reducible apply Out.app) Rd_obj tk_9 (names5_get (by omega) (by omega))) rfl ?_
                    refine XA_det 6 rfl (by kernel_rfl) (by kernel_rfl) (by kernel_rfl) (by kernel_rfl) (fun _ _ _ _ h => h) .no (D_scat rfl rfl (by simp only [List.length_append, List.length_cons, List.length_nil]; omega)) rfl ?_
                    refine XA_one 9 (by kernel_rfl) ?_
                    refine XO_callv rfl .no en_16 rfl (rtext t.pl) rfl ?_
                    refine XA_det 10 rfl (by kernel_rfl) (by kernel_rfl) (by kernel_rfl) (by kernel_rfl) (fun _ _ _ _ h => h) .no (D_scat rfl rfl (by simp only [List.length_append, List.length_cons, List.length_nil]; omega)) rfl ?_
                    refine XA_det 11 rfl (by kernel_rfl) (by kernel_rfl) (by kernel_rfl) (by kernel_rfl) (fun _ _ _ _ h => h) .no (D_scat rfl rfl (by simp only [List.length_append, List.length_cons, List.length_nil]; omega)) rfl ?_
                    refine XA_det 13 rfl (by kernel_rfl) (by kernel_rfl) (by kernel_rfl) (by kernel_rfl) (fun _ _ _ _ h => h) .no (D_scat rfl rfl (by simp only [List.length_append, List.length_cons, List.length_nil]; omega)) rfl ?_
                    refine XA_detp 14 rfl (by kernel_rfl) (by kernel_rfl) (by kernel_rfl) (fun _ _ _ _ h => h) .no (D_pureP rfl) rfl ?_
                    refine XA_done (by kernel_rfl) ?_
                    try simp only [List.cons_append, List.nil_append, List.append_nil]
                    refine joinQ_normal () ?_ ?_ ?_
                    · trivial
                    · refine ⟨by rw [lineD_t (okD_i h1 (by omega) (by omega) (by first | exact .inl (by assumption) | exact .inr (by assumption))), h4, h6]; rfl, ?_, trivial⟩ <;> rfl
                    · exact ⟨_, (by repeat first | with_reducible exact .nil _ | with_reducible exact .here _ _ | with_reducible exact Take.self _ | with_reducible apply Take.cons | with_reducible apply Out.there | with_reducible apply Take.skip | with_reducible exact Take.pre _ _ | with_reducible apply Out.app)⟩
                  · skip
                    refine XO_callv rfl .no en_16 rfl (rtext t.pl) rfl ?_
                    refine XA_one 5 (by kernel_rfl) ?_
                    refine XO_det rfl .no (by repeat first | with_reducible exact .nil _ | with_reducible apply App.cons) (D_ld (ad := ⟨bd32, 0, none⟩) (k := (t.kind - 1).toNat * 1) rfl (by repeat first | with_reducible exact .here _ _ | with_reducible apply Out.there | with_reducible apply Out.app) Rd_obj tk_9 (names5_get (by omega) (by omega))) rfl ?_
                    refine XA_det 6 rfl (by kernel_rfl) (by kernel_rfl) (by kernel_rfl) (by kernel_rfl) (fun _ _ _ _ h => h) .no (D_scat rfl rfl (by simp only [List.length_append, List.length_cons, List.length_nil]; omega)) rfl ?_
                    refine XA_det 10 rfl (by kernel_rfl) (by kernel_rfl) (by kernel_rfl) (by kernel_rfl) (fun _ _ _ _ h => h) .no (D_scat rfl rfl (by simp only [List.length_append, List.length_cons, List.length_nil]; omega)) rfl ?_
                    refine XA_det 11 rfl (by kernel_rfl) (by kernel_rfl) (by kernel_rfl) (by kernel_rfl) (fun _ _ _ _ h => h) .no (D_scat rfl rfl (by simp only [List.length_append, List.length_cons, List.length_nil]; omega)) rfl ?_
                    refine XA_det 13 rfl (by kernel_rfl) (by kernel_rfl) (by kernel_rfl) (by kernel_rfl) (fun _ _ _ _ h => h) .no (D_scat rfl rfl (by simp only [List.length_append, List.length_cons, List.length_nil]; omega)) rfl ?_
                    refine XA_detp 14 rfl (by kernel_rfl) (by kernel_rfl) (by kernel_rfl) (fun _ _ _ _ h => h) .no (D_pureP rfl) rfl ?_
                    refine XA_done (by kernel_rfl) ?_
                    try simp only [List.cons_append, List.nil_append, List.append_nil]
                    refine joinQ_normal () ?_ ?_ ?_
                    · trivial
                    · refine ⟨by rw [lineD_t (okD_i h1 (by omega) (by omega) (by first | exact .inl (by assumption) | exact .inr (by assumption))), h4, h6]; rfl, ?_, trivial⟩ <;> rfl
                    · exact ⟨_, (by repeat first | with_reducible exact .nil _ | with_reducible exact .here _ _ | with_reducible exact Take.self _ | with_reducible apply Take.cons | with_reducible apply Out.there | with_reducible apply Take.skip | with_reducible exact Take.pre _ _ | with_reducible apply Out.app)⟩
                · skip
                  refine XO_callv rfl .no en_16 rfl (rtext t.pl) rfl ?_
                  refine XA_one 0 (by kernel_rfl) ?_
                  refine XO_bslice (cs := names5) rfl .no rfl slt_71 (by decide) (by decide) (by rfl) (by rfl) rfl rfl (fun bd32 => ?_)
                  refine XA_det 4 rfl (by kernel_rfl) (by kernel_rfl) (by kernel_rfl) (by kernel_rfl) (fun _ _ _ _ h => h) .no (D_idxS (n := 5) (j := (t.kind - 1).toNat) rfl rfl slc_71 (by omega) (by omega) rfl) rfl ?_
                  refine XA_one 5 (by kernel_rfl) ?_
                  refine XO_det rfl .no (by repeat first | with_reducible exact .nil _ | with_reducible apply App.cons) (D_ld (ad := ⟨bd32, 0, none⟩) (k := (t.kind - 1).toNat * 1) rfl (by repeat first | with_reducible exact .here _ _ | with_reducible apply Out.there | with_reducible apply Out.app) Rd_obj tk_9 (names5_get (by omega) (by omega))) rfl ?_
                  refine XA_det 6 rfl (by kernel_rfl) (by kernel_rfl) (by kernel_rfl) (by kernel_rfl) (fun _ _ _ _ h => h) .no (D_scat rfl rfl (by simp only [List.length_append, List.length_cons, List.length_nil]; omega)) rfl ?_
                  refine XA_det 10 rfl (by kernel_rfl) (by kernel_rfl) (by kernel_rfl) (by kernel_rfl) (fun _ _ _ _ h => h) .no (D_scat rfl rfl (by simp only [List.length_append, List.length_cons, List.length_nil]; omega)) rfl ?_
                  refine XA_det 11 rfl (by kernel_rfl) (by kernel_rfl) (by kernel_rfl) (by kernel_rfl) (fun _ _ _ _ h => h) .no (D_scat rfl rfl (by simp only [List.length_append, List.length_cons, List.length_nil]; omega)) rfl ?_
                  refine XA_det 13 rfl (by kernel_rfl) (by kernel_rfl) (by kernel_rfl) (by kernel_rfl) (fun _ _ _ _ h => h) .no (D_scat rfl rfl (by simp only [List.length_append, List.length_cons, List.length_nil]; omega)) rfl ?_
                  refine XA_detp 14 rfl (by kernel_rfl) (by kernel_rfl) (by kernel_rfl) (fun _ _ _ _ h => h) .no (D_pureP rfl) rfl ?_
                  refine XA_done (by kernel_rfl) ?_
                  try simp only [List.cons_append, List.nil_append, List.append_nil]
                  refine joinQ_normal () ?_ ?_ ?_
                  · trivial
                  · refine ⟨by rw [lineD_t (okD_i h1 (by omega) (by omega) (by first | exact .inl (by assumption) | exact .inr (by assumption))), h4, h6]; rfl, ?_, trivial⟩ <;> rfl
                  · exact ⟨_, (by repeat first | with_reducible exact .nil _ | with_reducible exact .here _ _ | with_reducible exact Take.self _ | with_reducible apply Take.cons | with_reducible apply Out.there | with_reducible apply Take.skip | with_reducible exact Take.pre _ _ | with_reducible apply Out.app)⟩
          · try simp only [decide_eq_true_eq, decide_eq_false_iff_not, Bool.not_eq_true', Bool.not_eq_false', beq_iff_eq, bne_iff_ne, beq_eq_false_iff_ne, bne_eq_false_iff_eq, Int.not_lt, Int.not_le, gt_iff_lt, ge_iff_le, ne_eq] at h4
            have g1 := wordD_len t.kind
            have g2 := txt_len t.pl
            refine XL_det (.yes 21 rfl rfl rfl) (D_fld rfl fld_69_3 (o' := 3) rfl) rfl ?_
            refine XL_det (.yes 21 rfl rfl rfl) (D_ldo rfl (by repeat first | with_reducible exact .here _ _ | with_reducible apply Out.there | with_reducible apply Out.app) tk_4 (by rfl)) rfl ?_
            refine XL_det (.yes 18 rfl rfl rfl) (D_pure rfl) rfl ?_
            refine XL_det .no (D_pure rfl) rfl ?_
            refine XL_then ?_
            refine X_cond rfl (fun h7 => ?_) (fun h7 => ?_)
            · try simp only [decide_eq_true_eq, decide_eq_false_iff_not, Bool.not_eq_true', Bool.not_eq_false', beq_iff_eq, bne_iff_ne, beq_eq_false_iff_ne, bne_eq_false_iff_eq, Int.not_lt, Int.not_le, gt_iff_lt, ge_iff_le, ne_eq] at h7
              refine X_seq ?_
              refine X_region ?_
              refine XL_det .no (D_pure rfl) rfl ?_
              refine XL_then ?_
              refine X_seq ?_
              refine X_seq ?_
              refine X_region ?_
              refine XL_det .no (D_fld rfl fld_69_2 (o' := 2) rfl) rfl ?_
              refine XL_det .no (D_ldo rfl (by repeat first | with_reducible exact .here _ _ | with_reducible apply Out.there | with_reducible apply Out.app) tk_4 (by rfl)) rfl ?_
              refine XL_det .no (D_pure rfl) rfl ?_
              refine XL_then ?_
              refine X_cond rfl (fun h8 => ?_) (fun h8 => ?_)
              · try simp only [decide_eq_true_eq, decide_eq_false_iff_not, Bool.not_eq_true', Bool.not_eq_false', beq_iff_eq, bne_iff_ne, beq_eq_false_iff_ne, bne_eq_false_iff_eq, Int.not_lt, Int.not_le, gt_iff_lt, ge_iff_le, ne_eq] at h8
                refine X_region ?_
                refine XL_det .no (D_pure rfl) rfl ?_
                refine XL_then ?_
                refine X_seq ?_
                refine X_seq ?_
                refine X_region ?_
                refine XL_det .no (D_fld rfl fld_69_3 (o' := 3) rfl) rfl ?_
                refine XL_det .no (D_ldo rfl (by repeat first | with_reducible exact .here _ _ | with_reducible apply Out.there | with_reducible apply Out.app) tk_4 (by rfl)) rfl ?_
                refine XL_det .no (D_pure rfl) rfl ?_
                refine XL_then ?_
                refine X_cond rfl (fun h9 => ?_) (fun h9 => ?_)
                · try simp only [decide_eq_true_eq, decide_eq_false_iff_not, Bool.not_eq_true', Bool.not_eq_false', beq_iff_eq, bne_iff_ne, beq_eq_false_iff_ne, bne_eq_false_iff_eq, Int.not_lt, Int.not_le, gt_iff_lt, ge_iff_le, ne_eq] at h9
                  rw [h7] at h9; cases h9
                · try simp only [decide_eq_true_eq, decide_eq_false_iff_not, Bool.not_eq_true', Bool.not_eq_false', beq_iff_eq, bne_iff_ne, beq_eq_false_iff_ne, bne_eq_false_iff_eq, Int.not_lt, Int.not_le, gt_iff_lt, ge_iff_le, ne_eq] at h9
                  refine X_skip ?_
                  refine thenX_normal ?_
                  refine X_draw _ mixed (Take.self _) ?_
                  refine XA_detp 1 rfl (by kernel_rfl) (by kernel_rfl) (by kernel_rfl) (fun _ _ _ _ h => h) .no (D_fldP rfl fld_69_0 (o' := 0) rfl) rfl ?_
                  refine XA_det 2 rfl (by kernel_rfl) (by kernel_rfl) (by kernel_rfl) (by kernel_rfl) (fun _ _ _ _ h => h) .no (D_ldo rfl (by repeat first | with_reducible exact .here _ _ | with_reducible apply Out.there | with_reducible apply Out.app) tk_67 (by rfl)) rfl ?_
                  refine XA_det 3 rfl (by kernel_rfl) (by kernel_rfl) (by kernel_rfl) (by kernel_rfl) (fun _ _ _ _ h => h) .no (D_sub rfl rfl (by omega) (by omega)) rfl ?_
                  refine XA_detp 7 rfl (by kernel_rfl) (by kernel_rfl) (by kernel_rfl) (fun _ _ _ _ h => h) .no (D_fldP rfl fld_69_1 (o' := 1) rfl) rfl ?_
                  refine XA_det 8 rfl (by kernel_rfl) (by kernel_rfl) (by kernel_rfl) (by kernel_rfl) (fun _ _ _ _ h => h) .no (D_ldo rfl (by repeat first | with_reducible exact .here _ _ | with_reducible apply Out.there | with_reducible apply Out.app) tk_3 (by rfl)) rfl ?_
                  refine XA_detp 12 rfl (by kernel_rfl) (by kernel_rfl) (by kernel_rfl) (fun _ _ _ _ h => h) .no (D_pureP rfl) rfl ?_
                  refine XA_two 0 9 (by kernel_rfl) ?_ ?_
                  · skip
                    refine XO_bslice (cs := names5) rfl .no rfl slt_71 (by decide) (by decide) (by rfl) (by rfl) rfl rfl (fun bd32 => ?_)
                    refine XA_det 4 rfl (by kernel_rfl) (by kernel_rfl) (by kernel_rfl) (by kernel_rfl) (fun _ _ _ _ h => h) .no (D_idxS (n := 5) (j := (t.kind - 1).toNat) rfl rfl slc_71 (by omega) (by omega) rfl) rfl ?_
                    refine XA_two 5 9 (by kernel_rfl) ?_ ?_
                    · skip
                      refine XO_det rfl .no (by repeat first | with_reducible exact .nil _ | with_reducible apply App.cons) (D_ld (ad := ⟨bd32, 0, none⟩) (k := (t.kind - 1).toNat * 1) rfl (by repeat first | with_reducible exact .here _ _ | with_reducible apply Out.there | with_reducible apply Out.app) Rd_obj tk_9 (names5_get (by omega) (by omega))) rfl ?_
                      refine XA_det 6 rfl (by kernel_rfl) (by kernel_rfl) (by kernel_rfl) (by kernel_rfl) (fun _ _ _ _ h => h) .no (D_scat rfl rfl (by simp only [List.length_append, List.length_cons, List.length_nil]; omega)) rfl ?_
                      refine XA_one 9 (by kernel_rfl) ?_
                      refine XO_callv rfl .no en_16 rfl (rtext t.pl) rfl ?_
                      refine XA_det 10 rfl (by kernel_rfl) (by kernel_rfl) (by kernel_rfl) (by kernel_rfl) (fun _ _ _ _ h => h) .no (D_scat rfl rfl (by simp only [List.length_append, List.length_cons, List.length_nil]; omega)) rfl ?_
                      refine XA_det 11 rfl (by kernel_rfl) (by kernel_rfl) (by kernel_rfl) (by kernel_rfl) (fun _ _ _ _ h => h) .no (D_scat rfl rfl (by simp only [List.length_append, List.length_cons, List.length_nil]; omega)) rfl ?_
                      refine XA_det 13 rfl (by kernel_rfl) (by kernel_rfl) (by kernel_rfl) (by kernel_rfl) (fun _ _ _ _ h => h) .no (D_scat rfl rfl (by simp only [List.length_append, List.length_cons, List.length_nil]; omega)) rfl ?_
                      refine XA_detp 14 rfl (by kernel_rfl) (by kernel_rfl) (by kernel_rfl) (fun _ _ _ _ h => h) .no (D_pureP rfl) rfl ?_
                      refine XA_done (by kernel_rfl) ?_
                      try simp only [List.cons_append, List.nil_append, List.append_nil]
                      refine joinQ_normal () ?_ ?_ ?_
                      · trivial
                      · refine ⟨by rw [lineD_t (okD_i h1 (by omega) (by omega) (by first | exact .inl (by assumption) | exact .inr (by assumption))), h4, h9]; rfl, ?_, trivial⟩ <;> rfl
                      · exact ⟨_, (by repeat first | with_reducible exact .nil _ | with_reducible exact .here _ _ | with_reducible exact Take.self _ | with_reducible apply Take.cons | with_reducible apply Out.there | with_reducible apply Take.skip | with_reducible exact Take.pre _ _ | with_reducible apply Out.app)⟩
                    · skip
                      refine XO_callv rfl .no en_16 rfl (rtext t.pl) rfl ?_
                      refine XA_one 5 (by kernel_rfl) ?_
                      refine XO_det rfl .no (by repeat first | with_reducible exact .nil _ | with_reducible apply App.cons) (D_ld (ad := ⟨bd32, 0, none⟩) (k := (t.kind - 1).toNat * 1) rfl (by repeat first | with_reducible exact .here _ _ | with_reducible apply Out.there | with_reducible apply Out.app) Rd_obj tk_9 (names5_get (by omega) (by omega))) rfl ?_
                      refine XA_det 6 rfl (by kernel_rfl) (by kernel_rfl) (by kernel_rfl) (by kernel_rfl) (fun _ _ _ _ h => h) .no (D_scat rfl rfl (by simp only [List.length_append, List.length_cons, List.length_nil]; omega)) rfl ?_
                      refine XA_det 10 rfl (by kernel_rfl) (by kernel_rfl) (by kernel_rfl) (by kernel_rfl) (fun _ _ _ _ h => h) .no (D_scat rfl rfl (by simp only [List.length_append, List.length_cons, List.length_nil]; omega)) rfl ?_
                      refine XA_det 11 rfl (by kernel_rfl) (by kernel_rfl) (by kernel_rfl) (by kernel_rfl) (fun _ _ _ _ h => h) .no (D_scat rfl rfl (by simp only [List.length_append, List.length_cons, List.length_nil]; omega)) rfl ?_
                      refine XA_det 13 rfl (by kernel_rfl) (by kernel_rfl) (by kernel_rfl) (by kernel_rfl) (fun _ _ _ _ h => h) .no (D_scat rfl rfl (by simp only [List.length_append, List.length_cons, List.length_nil]; omega)) rfl ?_
                      refine XA_detp 14 rfl (by kernel_rfl) (by kernel_rfl) (by kernel_rfl) (fun _ _ _ _ h => h) .no (D_pureP rfl) rfl ?_
                      refine XA_done (by kernel_rfl) ?_
                      try simp only [List.cons_append, List.nil_append, List.append_nil]
                      refine joinQ_normal () ?_ ?_ ?_
                      · trivial
                      · refine ⟨by rw [lineD_t (okD_i h1 (by omega) (by omega) (by first | exact .inl (by assumption) | exact .inr (by assumption))), h4, h9]; rfl, ?_, trivial⟩ <;> rfl
                      · exact ⟨_, (by repeat first | with_reducible exact .nil _ | with_reducible exact .here _ _ | with_reducible exact Take.self _ | with_reducible apply Take.cons | with_reducible apply Out.there | with_reducible apply Take.skip | with_reducible exact Take.pre _ _ | with_reducible apply Out.app)⟩
                  · skip
                    refine XO_callv rfl .no en_16 rfl (rtext t.pl) rfl ?_
                    refine XA_one 0 (by kernel_rfl) ?_
                    refine XO_bslice (cs := names5) rfl .no rfl slt_71 (by decide) (by decide) (by rfl) (by rfl) rfl rfl (fun bd32 => ?_)
                    refine XA_det 4 rfl (by kernel_rfl) (by kernel_rfl) (by kernel_rfl) (by kernel_rfl) (fun _ _ _ _ h => h) .no (D_idxS (n := 5) (j := (t.kind - 1).toNat) rfl rfl slc_71 (by omega) (by omega) rfl) rfl ?_
                    refine XA_one 5 (by kernel_rfl) ?_
                    refine XO_det rfl .no (by repeat first | with_reducible exact .nil _ | with_reducible apply App.cons) (D_ld (ad := ⟨bd32, 0, none⟩) (k := (t.kind - 1).toNat * 1) rfl (by repeat first | with_reducible exact .here _ _ | with_reducible apply Out.there | with_reducible apply Out.app) Rd_obj tk_9 (names5_get (by omega) (by omega))) rfl ?_
                    refine XA_det 6 rfl (by kernel_rfl) (by kernel_rfl) (by kernel_rfl) (by kernel_rfl) (fun _ _ _ _ h => h) .no (D_scat rfl rfl (by simp only [List.length_append, List.length_cons, List.length_nil]; omega)) rfl ?_
                    refine XA_det 10 rfl (by kernel_rfl) (by kernel_rfl) (by kernel_rfl) (by kernel_rfl) (fun _ _ _ _ h => h) .no (D_scat rfl rfl (by simp only [List.length_append, List.length_cons, List.length_nil]; omega)) rfl ?_
                    refine XA_det 11 rfl (by kernel_rfl) (by kernel_rfl) (by kernel_rfl) (by kernel_rfl) (fun _ _ _ _ h => h) .no (D_scat rfl rfl (by simp only [List.length_append, List.length_cons, List.length_nil]; omega)) rfl ?_
                    refine XA_det 13 rfl (by kernel_rfl) (by kernel_rfl) (by kernel_rfl) (by kernel_rfl) (fun _ _ _ _ h => h) .no (D_scat rfl rfl (by simp only [List.length_append, List.length_cons, List.length_nil]; omega)) rfl ?_
                    refine XA_detp 14 rfl (by kernel_rfl) (by kernel_rfl) (by kernel_rfl) (fun _ _ _ _ h => h) .no (D_pureP rfl) rfl ?_
                    refine XA_done (by kernel_rfl) ?_
                    try simp only [List.cons_append, List.nil_append, List.append_nil]
                    refine joinQ_normal () ?_ ?_ ?_
                    · trivial
                    · refine ⟨by rw [lineD_t (okD_i h1 (by omega) (by omega) (by first | exact .inl (by assumption) | exact .inr (by assumption))), h4, h9]; rfl, ?_, trivial⟩ <;> rfl
                    · exact ⟨_, (by repeat first | with_reducible exact .nil _ | with_reducible exact .here _ _ | with_reducible exact Take.self _ | with_reducible apply Take.cons | with_reducible apply Out.there | with_reducible apply Take.skip | with_reducible exact Take.pre _ _ | with_reducible apply Out.app)⟩
              · try simp only [decide_eq_true_eq, decide_eq_false_iff_not, Bool.not_eq_true', Bool.not_eq_false', beq_iff_eq, bne_iff_ne, beq_eq_false_iff_ne, bne_eq_false_iff_eq, Int.not_lt, Int.not_le, gt_iff_lt, ge_iff_le, ne_eq] at h8
                rw [h4] at h8; cases h8
            · try simp only [decide_eq_true_eq, decide_eq_false_iff_not, Bool.not_eq_true', Bool.not_eq_false', beq_iff_eq, bne_iff_ne, beq_eq_false_iff_ne, bne_eq_false_iff_eq, Int.not_lt, Int.not_le, gt_iff_lt, ge_iff_le, ne_eq] at h7
              refine X_skip ?_
              refine joinQ_normal () ?_ ?_ ?_
              · trivial
              · refine ⟨by rw [lineD_f (okD_3 h4 h7)]; rfl, ?_, trivial⟩ <;> rfl
              · exact ⟨_, (by repeat first | with_reducible exact .nil _ | with_reducible exact .here _ _ | with_reducible exact Take.self _ | with_reducible apply Take.cons | with_reducible apply Out.there | with_reducible apply Take.skip | with_reducible exact Take.pre _ _ | with_reducible apply Out.app)⟩
        · try simp only [decide_eq_true_eq, decide_eq_false_iff_not, Bool.not_eq_true', Bool.not_eq_false', beq_iff_eq, bne_iff_ne, beq_eq_false_iff_ne, bne_eq_false_iff_eq, Int.not_lt, Int.not_le, gt_iff_lt, ge_iff_le, ne_eq] at h3
          refine XL_skip 18 rfl rfl rfl rfl rfl ?_
          refine XL_skip 18 rfl rfl rfl rfl rfl ?_
          refine XL_skip 18 rfl rfl rfl rfl rfl ?_
          refine XL_skipu 21 rfl rfl rfl rfl ?_
          refine XL_skipu 21 rfl rfl rfl rfl ?_
          refine XL_skip 18 rfl rfl rfl rfl rfl ?_
          refine XL_det .no (D_pure rfl) rfl ?_
          refine XL_then ?_
          refine X_cond_f rfl rfl ?_
          refine X_skip ?_
          refine joinQ_normal () ?_ ?_ ?_
          · trivial
          · refine ⟨by rw [lineD_f (okD_2 (by omega))]; rfl, ?_, trivial⟩ <;> rfl
          · exact ⟨_, (by repeat first | with_reducible exact .nil _ | with_reducible exact .here _ _ | with_reducible exact Take.self _ | with_reducible apply Take.cons | with_reducible apply Out.there | with_reducible apply Take.skip | with_reducible exact Take.pre _ _ | with_reducible apply Out.app)⟩
      · try simp only [decide_eq_true_eq, decide_eq_false_iff_not, Bool.not_eq_true', Bool.not_eq_false', beq_iff_eq, bne_iff_ne, beq_eq_false_iff_ne, bne_eq_false_iff_eq, Int.not_lt, Int.not_le, gt_iff_lt, ge_iff_le, ne_eq] at h2
        refine XL_skip 13 rfl rfl rfl rfl rfl ?_
        refine XL_skip 13 rfl rfl rfl rfl rfl ?_
        refine XL_skip 13 rfl rfl rfl rfl rfl ?_
        refine XL_det .no (D_pure rfl) rfl ?_
        refine XL_det .no (D_pure rfl) rfl ?_
        refine XL_skip 18 rfl rfl rfl rfl rfl ?_
        refine XL_skip 18 rfl rfl rfl rfl rfl ?_
        refine XL_skip 18 rfl rfl rfl rfl rfl ?_
        refine XL_skipu 21 rfl rfl rfl rfl ?_
        refine XL_skipu 21 rfl rfl rfl rfl ?_
        refine XL_skip 18 rfl rfl rfl rfl rfl ?_
        refine XL_det .no (D_pure rfl) rfl ?_
        refine XL_then ?_
        refine X_cond_f rfl rfl ?_
        refine X_skip ?_
        refine joinQ_normal () ?_ ?_ ?_
        · trivial
        · refine ⟨by rw [lineD_f (okD_k (by omega))]; rfl, ?_, trivial⟩ <;> rfl
        · exact ⟨_, (by repeat first | with_reducible exact .nil _ | with_reducible exact .here _ _ | with_reducible exact Take.self _ | with_reducible apply Take.cons | with_reducible apply Out.there | with_reducible apply Take.skip | with_reducible exact Take.pre _ _ | with_reducible apply Out.app)⟩
    · try simp only [decide_eq_true_eq, decide_eq_false_iff_not, Bool.not_eq_true', Bool.not_eq_false', beq_iff_eq, bne_iff_ne, beq_eq_false_iff_ne, bne_eq_false_iff_eq, Int.not_lt, Int.not_le, gt_iff_lt, ge_iff_le, ne_eq] at h1
      refine XL_skip 8 rfl rfl rfl rfl rfl ?_
      refine XL_skip 8 rfl rfl rfl rfl rfl ?_
      refine XL_skip 8 rfl rfl rfl rfl rfl ?_
      refine XL_det .no (D_pure rfl) rfl ?_
      refine XL_det .no (D_pure rfl) rfl ?_
      refine XL_skip 13 rfl rfl rfl rfl rfl ?_
      refine XL_skip 13 rfl rfl rfl rfl rfl ?_
      refine XL_skip 13 rfl rfl rfl rfl rfl ?_
      refine XL_det .no (D_pure rfl) rfl ?_
      refine XL_det .no (D_pure rfl) rfl ?_
      refine XL_skip 18 rfl rfl rfl rfl rfl ?_
      refine XL_skip 18 rfl rfl rfl rfl rfl ?_
      refine XL_skip 18 rfl rfl rfl rfl rfl ?_
      refine XL_skipu 21 rfl rfl rfl rfl ?_
      refine XL_skipu 21 rfl rfl rfl rfl ?_
      refine XL_skip 18 rfl rfl rfl rfl rfl ?_
      refine XL_det .no (D_pure rfl) rfl ?_
      refine XL_then ?_
      refine X_cond_f rfl rfl ?_
      refine X_skip ?_
      refine joinQ_normal () ?_ ?_ ?_
      · trivial
      · refine ⟨by rw [lineD_f (okD_k (by omega))]; rfl, ?_, trivial⟩ <;> rfl
      · exact ⟨_, (by repeat first | with_reducible exact .nil _ | with_reducible exact .here _ _ | with_reducible exact Take.self _ | with_reducible apply Take.cons | with_reducible apply Out.there | with_reducible apply Take.skip | with_reducible exact Take.pre _ _ | with_reducible apply Out.app)⟩
  · rintro _ _
    refine X_seq ?_
    refine X_region ?_
    refine XL_det .no (D_ldso (vs := encN t) rfl (by repeat first | with_reducible exact .here _ _ | with_reducible apply Out.there | with_reducible apply Out.app) tk_69 rfl (by rfl)) rfl ?_
    refine XL_callv .no en_32 rfl (dLine t) rfl ?_
    refine XL_det .no (D_pure rfl) rfl ?_
    refine XL_det .no (D_seq (q := true) rfl rfl (by show (_ == _) = true; exact beq_self_eq_true _)) rfl ?_
    refine XL_det .no (D_pure rfl) rfl ?_
    refine XL_callv (.yes 50 rfl rfl rfl) en_33 rfl (alive42) rfl ?_
    refine XL_det .no (D_pure rfl) rfl ?_
    refine XL_det .no (D_pure rfl) rfl ?_
    refine XL_then ?_
    refine X_ret ?_
    refine ret_ok (.nil _) (res_tmp rfl rfl) ?_
    exact ⟨_, ⟨rfl, rfl⟩, _, (by repeat first | with_reducible exact .nil _ | with_reducible exact .here _ _ | with_reducible exact Take.self _ | with_reducible apply Take.cons | with_reducible apply Out.there | with_reducible apply Take.skip | with_reducible exact Take.pre _ _ | with_reducible apply Out.app)⟩

end Go.Proofs.Ytjcpggoodbkedaa
end

section
namespace Go.Proofs.Ytjcpggoodbkedaa
open Go Go.Sl Go.ChangeShapes Go.WideShapes Go.ChangeAt Go.RowKit
set_option linter.unusedVariables false
set_option maxRecDepth 20000
theorem own : ownKnob Try.prog.godebug = none := by kernel_rfl
theorem laidOut : laidOutB Try.prog = true := by kernel_rfl
theorem eqk_69 : eqKinds Try.prog 12 69 = some [some .i64, some .i64, none, none] := by kernel_rfl
theorem sz_tn : (Try.prog.info? 69).map (·.size) = some 4 := by kernel_rfl

/-- The walk, at the arguments as the row reads them. -/
theorem walkDiffLines (W : World) (args : Array Value) (h : ArgsOk Try.prog W Try.f8.params.toList args.toList) : Calls Try.prog 8 args W fun e w' => e = .returned (.bool true) ∧ Go.RowKit.Below W.heap.size W w' := by
  rw [show Try.f8.params.toList = [69] from by kernel_rfl] at h
  obtain ⟨args⟩ := args
  match args, h with
  | [v0], h =>
    obtain ⟨a0, _⟩ := h
    obtain ⟨e, rfl, _⟩ := arg_flat eqk_69 sz_tn (by kernel_rfl) a0
    exact calls_of (old_self W) (((diffLines ⟨e 0, e 1, e 2 == 1, e 3 == 1⟩).more (.nil _)).mono fun _ _ h => h.1)

set_option maxRecDepth 100000 in
theorem liftedDiffLines (os : Os) (started : os.Started) (H : Type) (enc : TypeId × Value → H) :
    ReturnsInHanded {} Try.checked os 8 .any (Rows.diffLinesSpec.pre6 enc Try.prog Try.f8 Rows.diffLinesRow.domain false) (Rows.diffLinesSpec.post enc Try.prog Try.f8 false true false false) :=
  handed (C := Try.checked) (tb := 4) own started (by kernel_rfl) Try.func8 laidOut (by kernel_rfl) rfl
    (fun ds h => by
      have h : ds.length = 1 := h
      match ds, h with
      | [_], _ => exact ⟨rfl, rfl, rfl⟩) (by kernel_rfl) (by kernel_rfl)
    (ChangeSpec.witness6 (enc := enc) (C := Try.checked) false ⟨#[], #[.agg #[.int .i64 0, .int .i64 0, .bool false, .bool false]], []⟩ 8 (by kernel_rfl) (by kernel_rfl) (by kernel_rfl) (by kernel_rfl))
    (fun W args h => walkDiffLines W args h)

theorem overDiffLines : Rows.diffLinesRow.holds Try.pinned (OpenSpec.ofChange Rows.diffLinesSpec) :=
  OpenClaim.holds_of_wide 8 Try.f8 rfl rfl rfl rfl rfl rfl rfl ⟨rfl, rfl, rfl, rfl, rfl⟩ rfl rfl rfl rfl rfl (by kernel_rfl) Try.func8 (by kernel_rfl)
    (of_decide_eq_true (by kernel_rfl)) (by unfold Func.isWrapper; first | (rw [if_pos (by decide +kernel)]; kernel_rfl) | (rw [if_neg (by decide +kernel)]; exact ⟨rfl, rfl⟩))
    (fun os started H enc _ => liftedDiffLines os started H enc)

/-- The statement. -/
theorem provedDiffLines : Rows.DiffLinesSaid := overDiffLines

#print axioms provedDiffLines
end Go.Proofs.Ytjcpggoodbkedaa
end
