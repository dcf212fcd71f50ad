/- The given statement DiffTurnsSaid is proved: two images have no turn just if they are the same, and exchanged they have the same turns, exchanged. Conditions: images that are not too great, as the statement itself says them; none beside. -/
import Derived.Test.YtjcpggoodbkedaaDiffTurnsP1
import Derived.KernelRfl
import Derived.Test.YtjcpggoodbkedaaProg
import Derived.Test.YtjcpggoodbkedaaRows
section
namespace Go.Proofs.Ytjcpggoodbkedaa
open Go Go.Sl
set_option linter.unusedVariables false
set_option linter.unusedSimpArgs false
set_option maxRecDepth 4000
variable {B : Nat} {K : Asrt B}
theorem en_51 : Go.Proofs.Enters Try.prog 51 := Go.Proofs.enters_of Try.func51 (by kernel_rfl) rfl
theorem eqg_113 : Try.prog.eqGuardType Try.prog.depth 113 = false := by kernel_rfl
theorem eqg_75 : Try.prog.eqGuardType Try.prog.depth 75 = false := by kernel_rfl
theorem eqk_113 : eqKinds Try.prog 12 113 = some [some .i64, some .i64, some .i64, some .i64, some .i64, some .i64, some .i64, some .i64, some .i64, some .i64, some .i64, some .i64, some .i64, some .i64, some .i64, some .i64, some .i64, some .i64, some .i64, some .i64, some .i64, some .i64, some .i64] := by kernel_rfl
theorem eqk_75 : eqKinds Try.prog 12 75 = some [some .i64, some .i64, some .i64, some .i64, some .i64, some .i64, some .i64, some .i64, some .i64, some .i64, some .i64] := by kernel_rfl
theorem fld_62_0 : fldOff Try.prog 62 0 = some 0 := by kernel_rfl
theorem fld_62_1 : fldOff Try.prog 62 1 = some 1 := by kernel_rfl
theorem fld_62_2 : fldOff Try.prog 62 2 = some 2 := by kernel_rfl
theorem fld_62_3 : fldOff Try.prog 62 3 = some 3 := by kernel_rfl
theorem slc_58 : slcOf Try.prog 58 = some (75, 11) := by kernel_rfl
theorem slc_60 : slcOf Try.prog 60 = some (113, 23) := by kernel_rfl
theorem tk_113 : tyK Try.prog 113 = some (true, 23) := by kernel_rfl
theorem tk_58 : tyK Try.prog 58 = some (false, 1) := by kernel_rfl
theorem tk_60 : tyK Try.prog 60 = some (false, 1) := by kernel_rfl
theorem tk_75 : tyK Try.prog 75 = some (true, 11) := by kernel_rfl

theorem pre_len2 {x y : Img} (sx : Small x) (sy : Small y) {i : Nat} (hi : i ≤ 1000) : (resT x y ++ tasksT x y i).length ≤ 9000 := by
  have h1 := resT_len x y; have h2 := tasksT_len x y i
  rw [List.length_append]; omega
theorem pre_len3 {x y : Img} (sx : Small x) (sy : Small y) : (resT x y ++ tasksT x y (mx x.tasks.l.length y.tasks.l.length) ++ modesT x.modes.l y.modes.l (mx x.modes.l.length y.modes.l.length)).length ≤ 9000 := by
  have h1 := resT_len x y; have h2 := tasksT_len x y (mx x.tasks.l.length y.tasks.l.length); have h3 := modesT_len x.modes.l y.modes.l (mx x.modes.l.length y.modes.l.length)
  have m1 : mx x.tasks.l.length y.tasks.l.length ≤ 1000 := by have := sx.tasks; have := sy.tasks; show max _ _ ≤ 1000; omega
  have m2 : mx x.modes.l.length y.modes.l.length ≤ 1000 := by have := sx.modes; have := sy.modes; show max _ _ ≤ 1000; omega
  simp only [List.length_append]; omega
theorem pre_len5 {x y : Img} (sx : Small x) (sy : Small y) {i : Nat} (hi : i ≤ 1000) : (resT x y ++ tasksT x y (mx x.tasks.l.length y.tasks.l.length) ++ modesT x.modes.l y.modes.l (mx x.modes.l.length y.modes.l.length) ++ edgesT x y i).length ≤ 9000 := by
  have h1 := resT_len x y; have h2 := tasksT_len x y (mx x.tasks.l.length y.tasks.l.length); have h3 := modesT_len x.modes.l y.modes.l (mx x.modes.l.length y.modes.l.length); have h4 := edgesT_len x y i
  have m1 : mx x.tasks.l.length y.tasks.l.length ≤ 1000 := by have := sx.tasks; have := sy.tasks; show max _ _ ≤ 1000; omega
  have m2 : mx x.modes.l.length y.modes.l.length ≤ 1000 := by have := sx.modes; have := sy.modes; show max _ _ ≤ 1000; omega
  simp only [List.length_append]; omega

theorem dOf (x y : Img) (hx : x.In K) (hy : y.In K) (sx : Small x) (sy : Small y) : Ctr Try.prog B 30 [x.v, y.v] [K] (fun v S => ∃ o : Arr Tn, (o.l = diffOf x y ∧ o.Own) ∧ v = o.v ∧ S = [row (.slice o.oad o.l.length o.c) 69 4 o.l.length (o.l.flatMap encN)] ++ [K]) := by
  refine Ctr_of_X (N := 105) Try.func30 rfl (by simp) rfl ?_
  intro w0 D0
  refine X_rowa encN 69 4 ?_
  refine X_seq ?_
  refine X_region ?_
  refine XL_box .no rfl rfl rfl (fun b1 => ?_)
  refine XL_box .no rfl rfl rfl (fun b2 => ?_)
  refine XL_det .no (D_pure rfl) rfl ?_
  refine XL_then ?_
  refine X_seq ?_
  refine X_region ?_
  refine XL_alloc .no zero_64 rfl (fun b3 => ?_)
  refine XL_then ?_
  refine X_seqj (α := Arr Tn) (fun c => c.l = resT x y ∧ c.Own) (fun c => [(2, .pointer (some ⟨b1, 0, none⟩)), (3, .pointer (some ⟨b2, 0, none⟩)), (5, .pointer (some ⟨b3, 0, none⟩))]) (fun c => [blk b1 [.int .i64 x.res, .slice x.tasks.oad x.tasks.l.length x.tasks.c, .slice x.modes.oad x.modes.l.length x.modes.c, .slice x.edges.oad x.edges.l.length x.edges.c] 62, blk b2 [.int .i64 y.res, .slice y.tasks.oad y.tasks.l.length y.tasks.c, .slice y.modes.oad y.modes.l.length y.modes.c, .slice y.edges.oad y.edges.l.length y.edges.c] 62, blk b3 [.slice c.oad c.l.length c.c] 64, row (.slice c.oad c.l.length c.c) 69 4 c.l.length (c.l.flatMap encN), K]) ?_ ?_
  · skip
    refine X_seq ?_
    refine X_region ?_
    refine XL_det .no (D_fld rfl fld_62_0 (o' := 0) rfl) rfl ?_
    refine XL_det .no (D_ldo rfl (by repeat first | with_reducible exact .here _ _ | with_reducible apply Out.there | with_reducible apply Out.app) tk_3 (by rfl)) rfl ?_
    refine XL_det .no (D_fld rfl fld_62_0 (o' := 0) rfl) rfl ?_
    refine XL_det .no (D_ldo rfl (by repeat first | with_reducible exact .here _ _ | with_reducible apply Out.there | with_reducible apply Out.app) tk_3 (by rfl)) rfl ?_
    refine XL_det .no (D_pure rfl) rfl ?_
    refine XL_then ?_
    refine X_cond rfl (fun h1 => ?_) (fun h1 => ?_)
    · try simp only [decide_eq_true_eq, decide_eq_false_iff_not, Bool.not_eq_true', Bool.not_eq_false', beq_iff_eq, bne_iff_ne, beq_eq_false_iff_ne, bne_eq_false_iff_eq, Int.not_lt, Int.not_le, gt_iff_lt, ge_iff_le, ne_eq] at h1
      refine X_region ?_
      refine XL_det .no (D_ldo rfl (by repeat first | with_reducible exact .here _ _ | with_reducible apply Out.there | with_reducible apply Out.app) tk_64 (by rfl)) rfl ?_
      refine XL_det .no (D_build [_, _, _, _] rfl bld_69 (by rfl)) rfl ?_
      refine XL_bslice (cs := encN ⟨1, 0, true, true⟩) .no rfl slt_64 (by decide) (by decide) (by rfl) (by rfl) rfl rfl (fun b4 => ?_)
      refine XL_app1 (enc := encN) (c := (Arr.emp : Arr Tn)) (y := ⟨1, 0, true, true⟩) (K := _) .no rfl rfl slt_64 (by repeat first | with_reducible exact .here _ _ | with_reducible apply Out.there | with_reducible apply Out.app) (by repeat first | with_reducible exact .here _ _ | with_reducible apply Out.there | with_reducible apply Out.app) (Rd_blk0) rfl rfl (by decide) (by decide) rfl (fun o2 ho2 ho2o => ?_)
      refine XL_efd .no (F_stl rfl rfl rfl (by repeat first | with_reducible exact .here _ _ | with_reducible apply Out.there | with_reducible apply Out.app) tk_64 (by repeat first | exact .zero _ _ _ | apply SetL.succ)) ?_
      refine XL_nil ?_
      refine joinQ_normal o2 ?_ ?_ ?_
      · exact ⟨by rw [ho2, resT, if_neg h1]; rfl, ho2o⟩
      · refine ⟨?_, ?_, ?_, trivial⟩ <;> rfl
      · exact ⟨_, (by repeat first | with_reducible exact .nil _ | with_reducible exact .here _ _ | exact .here _ _ | with_reducible exact Take.self _ | with_reducible apply Take.cons | with_reducible apply Out.there | with_reducible apply Take.skip | with_reducible exact Take.pre _ _ | with_reducible apply Out.app)⟩
    · try simp only [decide_eq_true_eq, decide_eq_false_iff_not, Bool.not_eq_true', Bool.not_eq_false', beq_iff_eq, bne_iff_ne, beq_eq_false_iff_ne, bne_eq_false_iff_eq, Int.not_lt, Int.not_le, gt_iff_lt, ge_iff_le, ne_eq] at h1
      refine X_skip ?_
      refine joinQ_normal (Arr.emp : Arr Tn) ?_ ?_ ?_
      · exact ⟨by rw [resT, if_pos h1]; rfl, Arr.emp_own⟩
      · refine ⟨?_, ?_, ?_, trivial⟩ <;> rfl
      · exact ⟨_, (by repeat first | with_reducible exact .nil _ | with_reducible exact .here _ _ | exact .here _ _ | with_reducible exact Take.self _ | with_reducible apply Take.cons | with_reducible apply Out.there | with_reducible apply Take.skip | with_reducible exact Take.pre _ _ | with_reducible apply Out.app)⟩
  · rintro c2 ⟨hc2, hc2o⟩
    refine X_seq ?_
    refine X_seq ?_
    refine X_region ?_
    refine XL_det .no (D_fld rfl fld_62_1 (o' := 1) rfl) rfl ?_
    refine XL_det .no (D_ldo rfl (by repeat first | with_reducible exact .here _ _ | with_reducible apply Out.there | with_reducible apply Out.app) tk_58 (by rfl)) rfl ?_
    refine XL_det .no (D_len rfl rfl slc_58) rfl ?_
    refine XL_det .no (D_fld rfl fld_62_1 (o' := 1) rfl) rfl ?_
    refine XL_det .no (D_ldo rfl (by repeat first | with_reducible exact .here _ _ | with_reducible apply Out.there | with_reducible apply Out.app) tk_58 (by rfl)) rfl ?_
    refine XL_det .no (D_len rfl rfl slc_58) rfl ?_
    refine XL_call .no en_50 rfl (dplaces x.tasks.l.length y.tasks.l.length) (by repeat first | with_reducible exact .nil _ | with_reducible exact .here _ _ | with_reducible exact Take.self _ | with_reducible apply Take.cons | with_reducible apply Out.there | with_reducible apply Take.skip | with_reducible exact Take.pre _ _ | with_reducible apply Out.app) rfl ?_
    rintro _ _ ⟨ba2, bb2, rfl, rfl⟩
    simp only [List.cons_append, List.nil_append]
    refine XL_then ?_
    refine X_block ?_
    refine X_range (own := [blk ba2 [.int .i64 (x.tasks.l.length : Int)] 3, blk bb2 [.int .i64 (y.tasks.l.length : Int)] 3]) (S1 := [blk b1 [.int .i64 x.res, .slice x.tasks.oad x.tasks.l.length x.tasks.c, .slice x.modes.oad x.modes.l.length x.modes.c, .slice x.edges.oad x.edges.l.length x.edges.c] 62, blk b2 [.int .i64 y.res, .slice y.tasks.oad y.tasks.l.length y.tasks.c, .slice y.modes.oad y.modes.l.length y.modes.c, .slice y.edges.oad y.edges.l.length y.edges.c] 62, blk b3 [.slice c2.oad c2.l.length c2.c] 64, row (.slice c2.oad c2.l.length c2.c) 69 4 c2.l.length (c2.l.flatMap encN), K]) rfl en_59 (plItr ba2 bb2 x.tasks.l.length y.tasks.l.length sx.tasks sy.tasks) (fun i S => ∃ o : Arr Tn, o.l = resT x y ++ tasksT x y i ∧ o.Own ∧ S = [blk b1 [.int .i64 x.res, .slice x.tasks.oad x.tasks.l.length x.tasks.c, .slice x.modes.oad x.modes.l.length x.modes.c, .slice x.edges.oad x.edges.l.length x.edges.c] 62, blk b2 [.int .i64 y.res, .slice y.tasks.oad y.tasks.l.length y.tasks.c, .slice y.modes.oad y.modes.l.length y.modes.c, .slice y.edges.oad y.edges.l.length y.edges.c] 62, blk b3 [.slice o.oad o.l.length o.c] 64, row (.slice o.oad o.l.length o.c) 69 4 o.l.length (o.l.flatMap encN), K]) (fun c i S => False) (show Take ([blk ba2 [.int .i64 (x.tasks.l.length : Int)] 3, blk bb2 [.int .i64 (y.tasks.l.length : Int)] 3, blk b1 [.int .i64 x.res, .slice x.tasks.oad x.tasks.l.length x.tasks.c, .slice x.modes.oad x.modes.l.length x.modes.c, .slice x.edges.oad x.edges.l.length x.edges.c] 62, blk b2 [.int .i64 y.res, .slice y.tasks.oad y.tasks.l.length y.tasks.c, .slice y.modes.oad y.modes.l.length y.modes.c, .slice y.edges.oad y.edges.l.length y.edges.c] 62, blk b3 [.slice c2.oad c2.l.length c2.c] 64, row (.slice c2.oad c2.l.length c2.c) 69 4 c2.l.length (c2.l.flatMap encN), K]) _ _ from (by repeat first | with_reducible exact .nil _ | with_reducible exact .here _ _ | with_reducible exact Take.self _ | with_reducible apply Take.cons | with_reducible apply Out.there | with_reducible apply Take.skip | with_reducible exact Take.pre _ _ | with_reducible apply Out.app)) (⟨c2, (by rw [hc2]; exact (List.append_nil _).symm), hc2o, rfl⟩) rfl (fun x hx => by obtain ⟨y, _, rfl⟩ := List.mem_map.1 hx; rfl) ?_ ?_ ?_
    · intro ly rec A2 i S2 hi hJ
      obtain ⟨o, ho, hoo, rfl⟩ := hJ
      rw [plL_len] at hi
      have hmx : mx x.tasks.l.length y.tasks.l.length ≤ 1000 := by have := sx.tasks; have := sy.tasks; show max _ _ ≤ 1000; omega
      have hol : o.l.length ≤ 9000 := by rw [ho]; exact pre_len2 sx sy (by omega)
      rw [plL_get hi]
      refine X_seq ?_
      refine X_region ?_
      refine XL_det .no (D_pure rfl) rfl ?_
      refine XL_then ?_
      refine X_region ?_
      refine XL_alloc .no zero_108 rfl (fun b5 => ?_)
      refine XL_efd .no (F_stw (vs := [.bool (decide ((i : Int) < (x.tasks.l.length : Int))), .bool (decide ((i : Int) < (y.tasks.l.length : Int)))]) rfl rfl (by rfl) (by repeat first | with_reducible exact .here _ _ | with_reducible apply Out.there | with_reducible apply Out.app) tk_108 rfl rfl) ?_
      refine XL_nil ?_
      refine ⟨rfl, _, _, .cons (by repeat first | with_reducible exact .here _ _ | with_reducible apply Out.there | with_reducible apply Out.app) (Take.self _), fun rec2 => ?_⟩
      refine X_block ?_
      refine X_seq ?_
      refine X_draw _ mixed (Take.self _) ?_
      refine XA_detp 0 rfl (by kernel_rfl) (by kernel_rfl) (by kernel_rfl) (fun _ _ _ _ h => h) .no (D_idxAP rfl rfl arr_108 rfl (by decide) rfl) rfl ?_
      refine XA_det 1 rfl (by kernel_rfl) (by kernel_rfl) (by kernel_rfl) (by kernel_rfl) (fun _ _ _ _ h => h) .no (D_ldo rfl (by repeat first | with_reducible exact .here _ _ | with_reducible apply Out.there | with_reducible apply Out.app) tk_4 (by rfl)) rfl ?_
      refine XA_detp 2 rfl (by kernel_rfl) (by kernel_rfl) (by kernel_rfl) (fun _ _ _ _ h => h) .no (D_pureP rfl) rfl ?_
      refine XA_detp 3 rfl (by kernel_rfl) (by kernel_rfl) (by kernel_rfl) (fun _ _ _ _ h => h) .no (D_pureP rfl) rfl ?_
      refine XA_split (t := 31) rfl (fun h2 => ?_) (fun h2 => ?_)
      · try simp only [decide_eq_true_eq, decide_eq_false_iff_not, Bool.not_eq_true', Bool.not_eq_false', beq_iff_eq, bne_iff_ne, beq_eq_false_iff_ne, bne_eq_false_iff_eq, Int.not_lt, Int.not_le, gt_iff_lt, ge_iff_le, ne_eq] at h2
        refine XA_skipp 4 31 rfl (by kernel_rfl) (by kernel_rfl) (by kernel_rfl) (fun _ _ _ _ h => h) rfl rfl rfl rfl rfl ?_
        refine XA_skipp 5 31 rfl (by kernel_rfl) (by kernel_rfl) (by kernel_rfl) (fun _ _ _ _ h => h) rfl rfl rfl rfl rfl ?_
        refine XA_skipp 6 31 rfl (by kernel_rfl) (by kernel_rfl) (by kernel_rfl) (fun _ _ _ _ h => h) rfl rfl rfl rfl rfl ?_
        refine XA_detp 7 rfl (by kernel_rfl) (by kernel_rfl) (by kernel_rfl) (fun _ _ _ _ h => h) .no (D_pureP rfl) rfl ?_
        refine XA_detp 8 rfl (by kernel_rfl) (by kernel_rfl) (by kernel_rfl) (fun _ _ _ _ h => h) .no (D_pureP rfl) rfl ?_
        refine XA_skipp 9 36 rfl (by kernel_rfl) (by kernel_rfl) (by kernel_rfl) (fun _ _ _ _ h => h) rfl rfl rfl rfl rfl ?_
        refine XA_skipp 10 36 rfl (by kernel_rfl) (by kernel_rfl) (by kernel_rfl) (fun _ _ _ _ h => h) rfl rfl rfl rfl rfl ?_
        refine XA_skipp 11 36 rfl (by kernel_rfl) (by kernel_rfl) (by kernel_rfl) (fun _ _ _ _ h => h) rfl rfl rfl rfl rfl ?_
        refine XA_skipp 12 36 rfl (by kernel_rfl) (by kernel_rfl) (by kernel_rfl) (fun _ _ _ _ h => h) rfl rfl rfl rfl rfl ?_
        refine XA_skipp 13 36 rfl (by kernel_rfl) (by kernel_rfl) (by kernel_rfl) (fun _ _ _ _ h => h) rfl rfl rfl rfl rfl ?_
        refine XA_skipp 14 36 rfl (by kernel_rfl) (by kernel_rfl) (by kernel_rfl) (fun _ _ _ _ h => h) rfl rfl rfl rfl rfl ?_
        refine XA_skipp 15 36 rfl (by kernel_rfl) (by kernel_rfl) (by kernel_rfl) (fun _ _ _ _ h => h) rfl rfl rfl rfl rfl ?_
        refine XA_skipp 16 36 rfl (by kernel_rfl) (by kernel_rfl) (by kernel_rfl) (fun _ _ _ _ h => h) rfl rfl rfl rfl rfl ?_
        refine XA_skipp 17 36 rfl (by kernel_rfl) (by kernel_rfl) (by kernel_rfl) (fun _ _ _ _ h => h) rfl rfl rfl rfl rfl ?_
        refine XA_skipp 18 36 rfl (by kernel_rfl) (by kernel_rfl) (by kernel_rfl) (fun _ _ _ _ h => h) rfl rfl rfl rfl rfl ?_
        refine XA_skipp 19 36 rfl (by kernel_rfl) (by kernel_rfl) (by kernel_rfl) (fun _ _ _ _ h => h) rfl rfl rfl rfl rfl ?_
        refine XA_detp 20 rfl (by kernel_rfl) (by kernel_rfl) (by kernel_rfl) (fun _ _ _ _ h => h) .no (D_pureP rfl) rfl ?_
        refine XA_done (by kernel_rfl) ?_
        try simp only [List.cons_append, List.nil_append, List.append_nil]
        refine thenX_normal ?_
        refine X_cond_t rfl rfl ?_
        refine X_region ?_
        refine XL_det .no (D_ldo rfl (by repeat first | with_reducible exact .here _ _ | with_reducible apply Out.there | with_reducible apply Out.app) tk_64 (by rfl)) rfl ?_
        refine XL_det .no (D_pure rfl) rfl ?_
        refine XL_det .no (D_idxA rfl rfl arr_108 rfl (by decide) rfl) rfl ?_
        refine XL_det .no (D_ldo rfl (by repeat first | with_reducible exact .here _ _ | with_reducible apply Out.there | with_reducible apply Out.app) tk_4 (by rfl)) rfl ?_
        refine XL_det .no (D_idxA rfl rfl arr_108 rfl (by decide) rfl) rfl ?_
        refine XL_det .no (D_ldo rfl (by repeat first | with_reducible exact .here _ _ | with_reducible apply Out.there | with_reducible apply Out.app) tk_4 (by rfl)) rfl ?_
        refine XL_det .no (D_build [_, _, _, _] rfl bld_69 (by rfl)) rfl ?_
        refine XL_bslice (cs := encN (tnAt 2 x.tasks.l.length y.tasks.l.length i)) .no rfl slt_64 (by decide) (by decide) (by rfl) (by rfl) rfl rfl (fun b6 => ?_)
        refine XL_app1 (enc := encN) (c := o) (y := (tnAt 2 x.tasks.l.length y.tasks.l.length i)) (K := _) .no rfl rfl slt_64 (by repeat first | with_reducible exact .here _ _ | with_reducible apply Out.there | with_reducible apply Out.app) (by repeat first | with_reducible exact .here _ _ | with_reducible apply Out.there | with_reducible apply Out.app) (Rd_blk0) rfl rfl (by omega) (by omega) rfl (fun o2 ho2 ho2o => ?_)
        refine XL_efd .no (F_stl rfl rfl rfl (by repeat first | with_reducible exact .here _ _ | with_reducible apply Out.there | with_reducible apply Out.app) tk_64 (by repeat first | exact .zero _ _ _ | apply SetL.succ)) ?_
        refine XL_nil ?_
        refine inBlk_normal ?_
        exact ⟨[blk b1 [.int .i64 x.res, .slice x.tasks.oad x.tasks.l.length x.tasks.c, .slice x.modes.oad x.modes.l.length x.modes.c, .slice x.edges.oad x.edges.l.length x.edges.c] 62, blk b2 [.int .i64 y.res, .slice y.tasks.oad y.tasks.l.length y.tasks.c, .slice y.modes.oad y.modes.l.length y.modes.c, .slice y.edges.oad y.edges.l.length y.edges.c] 62, blk b3 [.slice o2.oad o2.l.length o2.c] 64, row (.slice o2.oad o2.l.length o2.c) 69 4 o2.l.length (o2.l.flatMap encN), K], _, (by repeat first | with_reducible exact .nil _ | with_reducible exact .here _ _ | with_reducible exact Take.self _ | with_reducible apply Take.cons | with_reducible apply Out.there | with_reducible apply Take.skip | with_reducible exact Take.pre _ _ | with_reducible apply Out.app), ⟨o2, by rw [ho2, ho, List.append_assoc, tasksT_s, plT_out (both_f (by omega))], ho2o, rfl⟩⟩
      · try simp only [decide_eq_true_eq, decide_eq_false_iff_not, Bool.not_eq_true', Bool.not_eq_false', beq_iff_eq, bne_iff_ne, beq_eq_false_iff_ne, bne_eq_false_iff_eq, Int.not_lt, Int.not_le, gt_iff_lt, ge_iff_le, ne_eq] at h2
        refine XA_detp 4 rfl (by kernel_rfl) (by kernel_rfl) (by kernel_rfl) (fun _ _ _ _ h => h) (.yes 31 rfl rfl rfl) (D_idxAP rfl rfl arr_108 rfl (by decide) rfl) rfl ?_
        refine XA_det 5 rfl (by kernel_rfl) (by kernel_rfl) (by kernel_rfl) (by kernel_rfl) (fun _ _ _ _ h => h) (.yes 31 rfl rfl rfl) (D_ldo rfl (by repeat first | with_reducible exact .here _ _ | with_reducible apply Out.there | with_reducible apply Out.app) tk_4 (by rfl)) rfl ?_
        refine XA_detp 6 rfl (by kernel_rfl) (by kernel_rfl) (by kernel_rfl) (fun _ _ _ _ h => h) (.yes 31 rfl rfl rfl) (D_pureP rfl) rfl ?_
        refine XA_detp 7 rfl (by kernel_rfl) (by kernel_rfl) (by kernel_rfl) (fun _ _ _ _ h => h) .no (D_pureP rfl) rfl ?_
        refine XA_detp 8 rfl (by kernel_rfl) (by kernel_rfl) (by kernel_rfl) (fun _ _ _ _ h => h) .no (D_pureP rfl) rfl ?_
        refine XA_split (t := 36) rfl (fun h3 => ?_) (fun h3 => ?_)
        · try simp only [decide_eq_true_eq, decide_eq_false_iff_not, Bool.not_eq_true', Bool.not_eq_false', beq_iff_eq, bne_iff_ne, beq_eq_false_iff_ne, bne_eq_false_iff_eq, Int.not_lt, Int.not_le, gt_iff_lt, ge_iff_le, ne_eq] at h3
          refine XA_skipp 9 36 rfl (by kernel_rfl) (by kernel_rfl) (by kernel_rfl) (fun _ _ _ _ h => h) rfl rfl rfl rfl rfl ?_
          refine XA_skipp 10 36 rfl (by kernel_rfl) (by kernel_rfl) (by kernel_rfl) (fun _ _ _ _ h => h) rfl rfl rfl rfl rfl ?_
          refine XA_skipp 11 36 rfl (by kernel_rfl) (by kernel_rfl) (by kernel_rfl) (fun _ _ _ _ h => h) rfl rfl rfl rfl rfl ?_
          refine XA_skipp 12 36 rfl (by kernel_rfl) (by kernel_rfl) (by kernel_rfl) (fun _ _ _ _ h => h) rfl rfl rfl rfl rfl ?_
          refine XA_skipp 13 36 rfl (by kernel_rfl) (by kernel_rfl) (by kernel_rfl) (fun _ _ _ _ h => h) rfl rfl rfl rfl rfl ?_
          refine XA_skipp 14 36 rfl (by kernel_rfl) (by kernel_rfl) (by kernel_rfl) (fun _ _ _ _ h => h) rfl rfl rfl rfl rfl ?_
          refine XA_skipp 15 36 rfl (by kernel_rfl) (by kernel_rfl) (by kernel_rfl) (fun _ _ _ _ h => h) rfl rfl rfl rfl rfl ?_
          refine XA_skipp 16 36 rfl (by kernel_rfl) (by kernel_rfl) (by kernel_rfl) (fun _ _ _ _ h => h) rfl rfl rfl rfl rfl ?_
          refine XA_skipp 17 36 rfl (by kernel_rfl) (by kernel_rfl) (by kernel_rfl) (fun _ _ _ _ h => h) rfl rfl rfl rfl rfl ?_
          refine XA_skipp 18 36 rfl (by kernel_rfl) (by kernel_rfl) (by kernel_rfl) (fun _ _ _ _ h => h) rfl rfl rfl rfl rfl ?_
          refine XA_skipp 19 36 rfl (by kernel_rfl) (by kernel_rfl) (by kernel_rfl) (fun _ _ _ _ h => h) rfl rfl rfl rfl rfl ?_
          refine XA_detp 20 rfl (by kernel_rfl) (by kernel_rfl) (by kernel_rfl) (fun _ _ _ _ h => h) .no (D_pureP rfl) rfl ?_
          refine XA_done (by kernel_rfl) ?_
          try simp only [List.cons_append, List.nil_append, List.append_nil]
          refine thenX_normal ?_
          refine X_cond_t rfl rfl ?_
          refine X_region ?_
          refine XL_det .no (D_ldo rfl (by repeat first | with_reducible exact .here _ _ | with_reducible apply Out.there | with_reducible apply Out.app) tk_64 (by rfl)) rfl ?_
          refine XL_det .no (D_pure rfl) rfl ?_
          refine XL_det .no (D_idxA rfl rfl arr_108 rfl (by decide) rfl) rfl ?_
          refine XL_det .no (D_ldo rfl (by repeat first | with_reducible exact .here _ _ | with_reducible apply Out.there | with_reducible apply Out.app) tk_4 (by rfl)) rfl ?_
          refine XL_det .no (D_idxA rfl rfl arr_108 rfl (by decide) rfl) rfl ?_
          refine XL_det .no (D_ldo rfl (by repeat first | with_reducible exact .here _ _ | with_reducible apply Out.there | with_reducible apply Out.app) tk_4 (by rfl)) rfl ?_
          refine XL_det .no (D_build [_, _, _, _] rfl bld_69 (by rfl)) rfl ?_
          refine XL_bslice (cs := encN (tnAt 2 x.tasks.l.length y.tasks.l.length i)) .no rfl slt_64 (by decide) (by decide) (by rfl) (by rfl) rfl rfl (fun b7 => ?_)
          refine XL_app1 (enc := encN) (c := o) (y := (tnAt 2 x.tasks.l.length y.tasks.l.length i)) (K := _) .no rfl rfl slt_64 (by repeat first | with_reducible exact .here _ _ | with_reducible apply Out.there | with_reducible apply Out.app) (by repeat first | with_reducible exact .here _ _ | with_reducible apply Out.there | with_reducible apply Out.app) (Rd_blk0) rfl rfl (by omega) (by omega) rfl (fun o2 ho2 ho2o => ?_)
          refine XL_efd .no (F_stl rfl rfl rfl (by repeat first | with_reducible exact .here _ _ | with_reducible apply Out.there | with_reducible apply Out.app) tk_64 (by repeat first | exact .zero _ _ _ | apply SetL.succ)) ?_
          refine XL_nil ?_
          refine inBlk_normal ?_
          exact ⟨[blk b1 [.int .i64 x.res, .slice x.tasks.oad x.tasks.l.length x.tasks.c, .slice x.modes.oad x.modes.l.length x.modes.c, .slice x.edges.oad x.edges.l.length x.edges.c] 62, blk b2 [.int .i64 y.res, .slice y.tasks.oad y.tasks.l.length y.tasks.c, .slice y.modes.oad y.modes.l.length y.modes.c, .slice y.edges.oad y.edges.l.length y.edges.c] 62, blk b3 [.slice o2.oad o2.l.length o2.c] 64, row (.slice o2.oad o2.l.length o2.c) 69 4 o2.l.length (o2.l.flatMap encN), K], _, (by repeat first | with_reducible exact .nil _ | with_reducible exact .here _ _ | with_reducible exact Take.self _ | with_reducible apply Take.cons | with_reducible apply Out.there | with_reducible apply Take.skip | with_reducible exact Take.pre _ _ | with_reducible apply Out.app), ⟨o2, by rw [ho2, ho, List.append_assoc, tasksT_s, plT_out (both_f (by omega))], ho2o, rfl⟩⟩
        · try simp only [decide_eq_true_eq, decide_eq_false_iff_not, Bool.not_eq_true', Bool.not_eq_false', beq_iff_eq, bne_iff_ne, beq_eq_false_iff_ne, bne_eq_false_iff_eq, Int.not_lt, Int.not_le, gt_iff_lt, ge_iff_le, ne_eq] at h3
          obtain ⟨p, hgp⟩ : ∃ p, x.tasks.l[i]? = some p := ⟨_, List.getElem?_eq_getElem (by omega)⟩
          obtain ⟨q, hgq⟩ : ∃ q, y.tasks.l[i]? = some q := ⟨_, List.getElem?_eq_getElem (by omega)⟩
          refine XA_detp 9 rfl (by kernel_rfl) (by kernel_rfl) (by kernel_rfl) (fun _ _ _ _ h => h) (.yes 36 rfl rfl rfl) (D_fldP rfl fld_62_1 (o' := 1) rfl) rfl ?_
          refine XA_det 10 rfl (by kernel_rfl) (by kernel_rfl) (by kernel_rfl) (by kernel_rfl) (fun _ _ _ _ h => h) (.yes 36 rfl rfl rfl) (D_ldo rfl (by repeat first | with_reducible exact .here _ _ | with_reducible apply Out.there | with_reducible apply Out.app) tk_58 (by rfl)) rfl ?_
          refine XA_detp 11 rfl (by kernel_rfl) (by kernel_rfl) (by kernel_rfl) (fun _ _ _ _ h => h) (.yes 36 rfl rfl rfl) (D_pureP rfl) rfl ?_
          refine XA_detp 12 rfl (by kernel_rfl) (by kernel_rfl) (by kernel_rfl) (fun _ _ _ _ h => h) (.yes 36 rfl rfl rfl) (D_idxSoP rfl rfl slc_58 (x.tasks).nil0 rfl (by omega) rfl) rfl ?_
          refine XA_det 13 rfl (by kernel_rfl) (by kernel_rfl) (by kernel_rfl) (by kernel_rfl) (fun _ _ _ _ h => h) (.yes 36 rfl rfl rfl) (D_els (enc := encT) (sz := 11) (i := i) (fun _ => rfl) rfl (by repeat first | with_reducible exact .here _ _ | with_reducible apply Out.there | with_reducible apply Out.app) hx.tasks tk_75 hgp) rfl ?_
          refine XA_detp 14 rfl (by kernel_rfl) (by kernel_rfl) (by kernel_rfl) (fun _ _ _ _ h => h) (.yes 36 rfl rfl rfl) (D_fldP rfl fld_62_1 (o' := 1) rfl) rfl ?_
          refine XA_det 15 rfl (by kernel_rfl) (by kernel_rfl) (by kernel_rfl) (by kernel_rfl) (fun _ _ _ _ h => h) (.yes 36 rfl rfl rfl) (D_ldo rfl (by repeat first | with_reducible exact .here _ _ | with_reducible apply Out.there | with_reducible apply Out.app) tk_58 (by rfl)) rfl ?_
          refine XA_detp 16 rfl (by kernel_rfl) (by kernel_rfl) (by kernel_rfl) (fun _ _ _ _ h => h) (.yes 36 rfl rfl rfl) (D_pureP rfl) rfl ?_
          refine XA_detp 17 rfl (by kernel_rfl) (by kernel_rfl) (by kernel_rfl) (fun _ _ _ _ h => h) (.yes 36 rfl rfl rfl) (D_idxSoP rfl rfl slc_58 (y.tasks).nil0 rfl (by omega) rfl) rfl ?_
          refine XA_det 18 rfl (by kernel_rfl) (by kernel_rfl) (by kernel_rfl) (by kernel_rfl) (fun _ _ _ _ h => h) (.yes 36 rfl rfl rfl) (D_els (enc := encT) (sz := 11) (i := i) (fun _ => rfl) rfl (by repeat first | with_reducible exact .here _ _ | with_reducible apply Out.there | with_reducible apply Out.app) hy.tasks tk_75 hgq) rfl ?_
          refine XA_det 19 rfl (by kernel_rfl) (by kernel_rfl) (by kernel_rfl) (by kernel_rfl) (fun _ _ _ _ h => h) (.yes 36 rfl rfl rfl) (D_eqs (b := !cellsEq (encT p) (encT q)) rfl rfl eqk_75 eqg_75 rfl rfl rfl rfl) rfl ?_
          refine XA_detp 20 rfl (by kernel_rfl) (by kernel_rfl) (by kernel_rfl) (fun _ _ _ _ h => h) .no (D_pureP rfl) rfl ?_
          refine XA_done (by kernel_rfl) ?_
          try simp only [List.cons_append, List.nil_append, List.append_nil]
          refine thenX_normal ?_
          refine X_cond rfl (fun h4 => ?_) (fun h4 => ?_)
          · try simp only [decide_eq_true_eq, decide_eq_false_iff_not, Bool.not_eq_true', Bool.not_eq_false', beq_iff_eq, bne_iff_ne, beq_eq_false_iff_ne, bne_eq_false_iff_eq, Int.not_lt, Int.not_le, gt_iff_lt, ge_iff_le, ne_eq] at h4
            refine X_region ?_
            refine XL_det .no (D_ldo rfl (by repeat first | with_reducible exact .here _ _ | with_reducible apply Out.there | with_reducible apply Out.app) tk_64 (by rfl)) rfl ?_
            refine XL_det .no (D_pure rfl) rfl ?_
            refine XL_det .no (D_idxA rfl rfl arr_108 rfl (by decide) rfl) rfl ?_
            refine XL_det .no (D_ldo rfl (by repeat first | with_reducible exact .here _ _ | with_reducible apply Out.there | with_reducible apply Out.app) tk_4 (by rfl)) rfl ?_
            refine XL_det .no (D_idxA rfl rfl arr_108 rfl (by decide) rfl) rfl ?_
            refine XL_det .no (D_ldo rfl (by repeat first | with_reducible exact .here _ _ | with_reducible apply Out.there | with_reducible apply Out.app) tk_4 (by rfl)) rfl ?_
            refine XL_det .no (D_build [_, _, _, _] rfl bld_69 (by rfl)) rfl ?_
            refine XL_bslice (cs := encN (tnAt 2 x.tasks.l.length y.tasks.l.length i)) .no rfl slt_64 (by decide) (by decide) (by rfl) (by rfl) rfl rfl (fun b8 => ?_)
            refine XL_app1 (enc := encN) (c := o) (y := (tnAt 2 x.tasks.l.length y.tasks.l.length i)) (K := _) .no rfl rfl slt_64 (by repeat first | with_reducible exact .here _ _ | with_reducible apply Out.there | with_reducible apply Out.app) (by repeat first | with_reducible exact .here _ _ | with_reducible apply Out.there | with_reducible apply Out.app) (Rd_blk0) rfl rfl (by omega) (by omega) rfl (fun o2 ho2 ho2o => ?_)
            refine XL_efd .no (F_stl rfl rfl rfl (by repeat first | with_reducible exact .here _ _ | with_reducible apply Out.there | with_reducible apply Out.app) tk_64 (by repeat first | exact .zero _ _ _ | apply SetL.succ)) ?_
            refine XL_nil ?_
            refine inBlk_normal ?_
            exact ⟨[blk b1 [.int .i64 x.res, .slice x.tasks.oad x.tasks.l.length x.tasks.c, .slice x.modes.oad x.modes.l.length x.modes.c, .slice x.edges.oad x.edges.l.length x.edges.c] 62, blk b2 [.int .i64 y.res, .slice y.tasks.oad y.tasks.l.length y.tasks.c, .slice y.modes.oad y.modes.l.length y.modes.c, .slice y.edges.oad y.edges.l.length y.edges.c] 62, blk b3 [.slice o2.oad o2.l.length o2.c] 64, row (.slice o2.oad o2.l.length o2.c) 69 4 o2.l.length (o2.l.flatMap encN), K], _, (by repeat first | with_reducible exact .nil _ | with_reducible exact .here _ _ | with_reducible exact Take.self _ | with_reducible apply Take.cons | with_reducible apply Out.there | with_reducible apply Take.skip | with_reducible exact Take.pre _ _ | with_reducible apply Out.app), ⟨o2, by rw [ho2, ho, List.append_assoc, tasksT_s, plT_ne hgp hgq (by show cellsEq _ _ = false; simpa using h4)], ho2o, rfl⟩⟩
          · try simp only [decide_eq_true_eq, decide_eq_false_iff_not, Bool.not_eq_true', Bool.not_eq_false', beq_iff_eq, bne_iff_ne, beq_eq_false_iff_ne, bne_eq_false_iff_eq, Int.not_lt, Int.not_le, gt_iff_lt, ge_iff_le, ne_eq] at h4
            refine X_skip ?_
            refine inBlk_normal ?_
            exact ⟨[blk b1 [.int .i64 x.res, .slice x.tasks.oad x.tasks.l.length x.tasks.c, .slice x.modes.oad x.modes.l.length x.modes.c, .slice x.edges.oad x.edges.l.length x.edges.c] 62, blk b2 [.int .i64 y.res, .slice y.tasks.oad y.tasks.l.length y.tasks.c, .slice y.modes.oad y.modes.l.length y.modes.c, .slice y.edges.oad y.edges.l.length y.edges.c] 62, blk b3 [.slice o.oad o.l.length o.c] 64, row (.slice o.oad o.l.length o.c) 69 4 o.l.length (o.l.flatMap encN), K], _, (by repeat first | with_reducible exact .nil _ | with_reducible exact .here _ _ | with_reducible exact Take.self _ | with_reducible apply Take.cons | with_reducible apply Out.there | with_reducible apply Take.skip | with_reducible exact Take.pre _ _ | with_reducible apply Out.app), ⟨o, by rw [ho, tasksT_s, plT_eq hgp hgq (by show cellsEq _ _ = true; simpa using h4), List.append_nil], hoo, rfl⟩⟩
    · intro dd0 S2 hJ
      obtain ⟨o, ho, hoo, rfl⟩ := hJ
      rw [plL_len] at ho
      simp only [List.cons_append, List.nil_append]
      replace hoo : o.Own := hoo
      refine inBlk_normal ?_
      refine thenX_normal ?_
      refine X_seq ?_
      refine X_draw [blk b1 [.int .i64 x.res, .slice x.tasks.oad x.tasks.l.length x.tasks.c, .slice x.modes.oad x.modes.l.length x.modes.c, .slice x.edges.oad x.edges.l.length x.edges.c] 62, blk b2 [.int .i64 y.res, .slice y.tasks.oad y.tasks.l.length y.tasks.c, .slice y.modes.oad y.modes.l.length y.modes.c, .slice y.edges.oad y.edges.l.length y.edges.c] 62, blk b3 [.slice o.oad o.l.length o.c] 64, K] mixed (by repeat first | with_reducible exact .nil _ | with_reducible exact .here _ _ | with_reducible exact Take.self _ | with_reducible apply Take.cons | with_reducible apply Out.there | with_reducible apply Take.skip | with_reducible exact Take.pre _ _ | with_reducible apply Out.app) ?_
      refine XA_det 0 rfl (by kernel_rfl) (by kernel_rfl) (by kernel_rfl) (by kernel_rfl) (fun _ _ _ _ h => h) .no (D_ldo rfl (by repeat first | with_reducible exact .here _ _ | with_reducible apply Out.there | with_reducible apply Out.app) tk_64 (by rfl)) rfl ?_
      refine XA_detp 1 rfl (by kernel_rfl) (by kernel_rfl) (by kernel_rfl) (fun _ _ _ _ h => h) .no (D_fldP rfl fld_62_2 (o' := 2) rfl) rfl ?_
      refine XA_det 2 rfl (by kernel_rfl) (by kernel_rfl) (by kernel_rfl) (by kernel_rfl) (fun _ _ _ _ h => h) .no (D_ldo rfl (by repeat first | with_reducible exact .here _ _ | with_reducible apply Out.there | with_reducible apply Out.app) tk_59 (by rfl)) rfl ?_
      refine XA_detp 3 rfl (by kernel_rfl) (by kernel_rfl) (by kernel_rfl) (fun _ _ _ _ h => h) .no (D_fldP rfl fld_62_2 (o' := 2) rfl) rfl ?_
      refine XA_det 4 rfl (by kernel_rfl) (by kernel_rfl) (by kernel_rfl) (by kernel_rfl) (fun _ _ _ _ h => h) .no (D_ldo rfl (by repeat first | with_reducible exact .here _ _ | with_reducible apply Out.there | with_reducible apply Out.app) tk_59 (by rfl)) rfl ?_
      refine XA_one 5 (by kernel_rfl) ?_
      refine XO_callc rfl .no en_51 rfl (by repeat first | with_reducible exact .nil _ | with_reducible apply App.cons) (dmodes x.modes y.modes hx.modes hy.modes hx.queues hy.queues sx.modes sy.modes) (by repeat first | with_reducible exact .nil _ | with_reducible exact .here _ _ | with_reducible exact Take.self _ | with_reducible apply Take.cons | with_reducible apply Out.there | with_reducible apply Take.skip | with_reducible exact Take.pre _ _ | with_reducible apply Out.app) rfl ?_
      rintro _ _ ⟨md, ⟨hmd, hmdo⟩, rfl, rfl⟩
      simp only [List.cons_append, List.nil_append]
      refine ⟨[row (.slice md.oad md.l.length md.c) 69 4 md.l.length (md.l.flatMap encN), row (.slice o.oad o.l.length o.c) 69 4 o.l.length (o.l.flatMap encN), dfr dd0], _, _, (by repeat first | with_reducible exact .nil _ | with_reducible apply App.cons), (by repeat first | with_reducible exact .nil _ | with_reducible exact .here _ _ | with_reducible exact Take.self _ | with_reducible apply Take.cons | with_reducible apply Out.there | with_reducible apply Take.skip | with_reducible exact Take.pre _ _ | with_reducible apply Out.app), ?_⟩
      refine XA_one 6 (by kernel_rfl) ?_
      refine XO_appa (enc := encN) (c := o) (b := md) rfl .no rfl rfl slt_64 (by repeat first | with_reducible exact .here _ _ | with_reducible apply Out.there | with_reducible apply Out.app) (by repeat first | exact .nil _ | apply App.cons) (by repeat first | with_reducible exact .here _ _ | with_reducible apply Out.there | with_reducible apply Out.app) (Rd_own hmdo rfl) (fun _ => rfl) (fun _ => rfl) (by rw [ho, hmd]; have := pre_len3 sx sy; rw [List.length_append] at this; omega) (by rw [ho, hmd]; have := pre_len3 sx sy; rw [List.length_append] at this; omega) rfl (fun o4 ho4 ho4o => ?_)
      refine XA_one 7 (by kernel_rfl) ?_
      refine XO_efd rfl .no (by repeat first | with_reducible exact .nil _ | with_reducible apply App.cons) (F_stl rfl rfl rfl (by repeat first | with_reducible exact .here _ _ | with_reducible apply Out.there | with_reducible apply Out.app) tk_64 (by repeat first | exact .zero _ _ _ | apply SetL.succ)) (by kernel_rfl) ?_
      refine XA_done (by kernel_rfl) ?_
      try simp only [List.cons_append, List.nil_append, List.append_nil]
      refine thenX_normal ?_
      refine X_seq ?_
      refine X_seq ?_
      refine X_region ?_
      refine XL_det .no (D_fld rfl fld_62_3 (o' := 3) rfl) rfl ?_
      refine XL_det .no (D_ldo rfl (by repeat first | with_reducible exact .here _ _ | with_reducible apply Out.there | with_reducible apply Out.app) tk_60 (by rfl)) rfl ?_
      refine XL_det .no (D_len rfl rfl slc_60) rfl ?_
      refine XL_det .no (D_fld rfl fld_62_3 (o' := 3) rfl) rfl ?_
      refine XL_det .no (D_ldo rfl (by repeat first | with_reducible exact .here _ _ | with_reducible apply Out.there | with_reducible apply Out.app) tk_60 (by rfl)) rfl ?_
      refine XL_det .no (D_len rfl rfl slc_60) rfl ?_
      refine XL_call .no en_50 rfl (dplaces x.edges.l.length y.edges.l.length) (by repeat first | with_reducible exact .nil _ | with_reducible exact .here _ _ | with_reducible exact Take.self _ | with_reducible apply Take.cons | with_reducible apply Out.there | with_reducible apply Take.skip | with_reducible exact Take.pre _ _ | with_reducible apply Out.app) rfl ?_
      rintro _ _ ⟨ba5, bb5, rfl, rfl⟩
      simp only [List.cons_append, List.nil_append]
      refine XL_then ?_
      refine X_block ?_
      refine X_range (own := [blk ba5 [.int .i64 (x.edges.l.length : Int)] 3, blk bb5 [.int .i64 (y.edges.l.length : Int)] 3]) (S1 := [blk b1 [.int .i64 x.res, .slice x.tasks.oad x.tasks.l.length x.tasks.c, .slice x.modes.oad x.modes.l.length x.modes.c, .slice x.edges.oad x.edges.l.length x.edges.c] 62, blk b2 [.int .i64 y.res, .slice y.tasks.oad y.tasks.l.length y.tasks.c, .slice y.modes.oad y.modes.l.length y.modes.c, .slice y.edges.oad y.edges.l.length y.edges.c] 62, blk b3 [.slice o4.oad o4.l.length o4.c] 64, row (.slice o4.oad o4.l.length o4.c) 69 4 o4.l.length (o4.l.flatMap encN), K]) rfl en_59 (plItr ba5 bb5 x.edges.l.length y.edges.l.length sx.edges sy.edges) (fun i S => ∃ o : Arr Tn, o.l = resT x y ++ tasksT x y (mx x.tasks.l.length y.tasks.l.length) ++ modesT x.modes.l y.modes.l (mx x.modes.l.length y.modes.l.length) ++ edgesT x y i ∧ o.Own ∧ S = [blk b1 [.int .i64 x.res, .slice x.tasks.oad x.tasks.l.length x.tasks.c, .slice x.modes.oad x.modes.l.length x.modes.c, .slice x.edges.oad x.edges.l.length x.edges.c] 62, blk b2 [.int .i64 y.res, .slice y.tasks.oad y.tasks.l.length y.tasks.c, .slice y.modes.oad y.modes.l.length y.modes.c, .slice y.edges.oad y.edges.l.length y.edges.c] 62, blk b3 [.slice o.oad o.l.length o.c] 64, row (.slice o.oad o.l.length o.c) 69 4 o.l.length (o.l.flatMap encN), K]) (fun c i S => False) (show Take ([blk ba5 [.int .i64 (x.edges.l.length : Int)] 3, blk bb5 [.int .i64 (y.edges.l.length : Int)] 3, blk b1 [.int .i64 x.res, .slice x.tasks.oad x.tasks.l.length x.tasks.c, .slice x.modes.oad x.modes.l.length x.modes.c, .slice x.edges.oad x.edges.l.length x.edges.c] 62, blk b2 [.int .i64 y.res, .slice y.tasks.oad y.tasks.l.length y.tasks.c, .slice y.modes.oad y.modes.l.length y.modes.c, .slice y.edges.oad y.edges.l.length y.edges.c] 62, blk b3 [.slice o4.oad o4.l.length o4.c] 64, row (.slice o4.oad o4.l.length o4.c) 69 4 o4.l.length (o4.l.flatMap encN), K]) _ _ from (by repeat first | with_reducible exact .nil _ | with_reducible exact .here _ _ | with_reducible exact Take.self _ | with_reducible apply Take.cons | with_reducible apply Out.there | with_reducible apply Take.skip | with_reducible exact Take.pre _ _ | with_reducible apply Out.app)) (⟨o4, (by rw [ho4, ho, hmd]; exact (List.append_nil _).symm), ho4o, rfl⟩) rfl (fun x hx => by obtain ⟨y, _, rfl⟩ := List.mem_map.1 hx; rfl) ?_ ?_ ?_
      · intro ly rec A2 i S2 hi hJ
        obtain ⟨o, ho, hoo, rfl⟩ := hJ
        rw [plL_len] at hi
        have hmx : mx x.edges.l.length y.edges.l.length ≤ 1000 := by have := sx.edges; have := sy.edges; show max _ _ ≤ 1000; omega
        have hol : o.l.length ≤ 9000 := by rw [ho]; exact pre_len5 sx sy (by omega)
        rw [plL_get hi]
        refine X_seq ?_
        refine X_region ?_
        refine XL_det .no (D_pure rfl) rfl ?_
        refine XL_then ?_
        refine X_region ?_
        refine XL_alloc .no zero_108 rfl (fun b9 => ?_)
        refine XL_efd .no (F_stw (vs := [.bool (decide ((i : Int) < (x.edges.l.length : Int))), .bool (decide ((i : Int) < (y.edges.l.length : Int)))]) rfl rfl (by rfl) (by repeat first | with_reducible exact .here _ _ | with_reducible apply Out.there | with_reducible apply Out.app) tk_108 rfl rfl) ?_
        refine XL_nil ?_
        refine ⟨rfl, _, _, .cons (by repeat first | with_reducible exact .here _ _ | with_reducible apply Out.there | with_reducible apply Out.app) (Take.self _), fun rec2 => ?_⟩
        refine X_block ?_
        refine X_seq ?_
        refine X_draw _ mixed (Take.self _) ?_
        refine XA_detp 0 rfl (by kernel_rfl) (by kernel_rfl) (by kernel_rfl) (fun _ _ _ _ h => h) .no (D_idxAP rfl rfl arr_108 rfl (by decide) rfl) rfl ?_
        refine XA_det 1 rfl (by kernel_rfl) (by kernel_rfl) (by kernel_rfl) (by kernel_rfl) (fun _ _ _ _ h => h) .no (D_ldo rfl (by repeat first | with_reducible exact .here _ _ | with_reducible apply Out.there | with_reducible apply Out.app) tk_4 (by rfl)) rfl ?_
        refine XA_detp 2 rfl (by kernel_rfl) (by kernel_rfl) (by kernel_rfl) (fun _ _ _ _ h => h) .no (D_pureP rfl) rfl ?_
        refine XA_detp 3 rfl (by kernel_rfl) (by kernel_rfl) (by kernel_rfl) (fun _ _ _ _ h => h) .no (D_pureP rfl) rfl ?_
        refine XA_split (t := 77) rfl (fun h5 => ?_) (fun h5 => ?_)
        · try simp only [decide_eq_true_eq, decide_eq_false_iff_not, Bool.not_eq_true', Bool.not_eq_false', beq_iff_eq, bne_iff_ne, beq_eq_false_iff_ne, bne_eq_false_iff_eq, Int.not_lt, Int.not_le, gt_iff_lt, ge_iff_le, ne_eq] at h5
          refine XA_skipp 4 77 rfl (by kernel_rfl) (by kernel_rfl) (by kernel_rfl) (fun _ _ _ _ h => h) rfl rfl rfl rfl rfl ?_
          refine XA_skipp 5 77 rfl (by kernel_rfl) (by kernel_rfl) (by kernel_rfl) (fun _ _ _ _ h => h) rfl rfl rfl rfl rfl ?_
          refine XA_skipp 6 77 rfl (by kernel_rfl) (by kernel_rfl) (by kernel_rfl) (fun _ _ _ _ h => h) rfl rfl rfl rfl rfl ?_
          refine XA_detp 7 rfl (by kernel_rfl) (by kernel_rfl) (by kernel_rfl) (fun _ _ _ _ h => h) .no (D_pureP rfl) rfl ?_
          refine XA_detp 8 rfl (by kernel_rfl) (by kernel_rfl) (by kernel_rfl) (fun _ _ _ _ h => h) .no (D_pureP rfl) rfl ?_
          refine XA_skipp 9 82 rfl (by kernel_rfl) (by kernel_rfl) (by kernel_rfl) (fun _ _ _ _ h => h) rfl rfl rfl rfl rfl ?_
          refine XA_skipp 10 82 rfl (by kernel_rfl) (by kernel_rfl) (by kernel_rfl) (fun _ _ _ _ h => h) rfl rfl rfl rfl rfl ?_
          refine XA_skipp 11 82 rfl (by kernel_rfl) (by kernel_rfl) (by kernel_rfl) (fun _ _ _ _ h => h) rfl rfl rfl rfl rfl ?_
          refine XA_skipp 12 82 rfl (by kernel_rfl) (by kernel_rfl) (by kernel_rfl) (fun _ _ _ _ h => h) rfl rfl rfl rfl rfl ?_
          refine XA_skipp 13 82 rfl (by kernel_rfl) (by kernel_rfl) (by kernel_rfl) (fun _ _ _ _ h => h) rfl rfl rfl rfl rfl ?_
          refine XA_skipp 14 82 rfl (by kernel_rfl) (by kernel_rfl) (by kernel_rfl) (fun _ _ _ _ h => h) rfl rfl rfl rfl rfl ?_
          refine XA_skipp 15 82 rfl (by kernel_rfl) (by kernel_rfl) (by kernel_rfl) (fun _ _ _ _ h => h) rfl rfl rfl rfl rfl ?_
          refine XA_skipp 16 82 rfl (by kernel_rfl) (by kernel_rfl) (by kernel_rfl) (fun _ _ _ _ h => h) rfl rfl rfl rfl rfl ?_
          refine XA_skipp 17 82 rfl (by kernel_rfl) (by kernel_rfl) (by kernel_rfl) (fun _ _ _ _ h => h) rfl rfl rfl rfl rfl ?_
          refine XA_skipp 18 82 rfl (by kernel_rfl) (by kernel_rfl) (by kernel_rfl) (fun _ _ _ _ h => h) rfl rfl rfl rfl rfl ?_
          refine XA_skipp 19 82 rfl (by kernel_rfl) (by kernel_rfl) (by kernel_rfl) (fun _ _ _ _ h => h) rfl rfl rfl rfl rfl ?_
          refine XA_detp 20 rfl (by kernel_rfl) (by kernel_rfl) (by kernel_rfl) (fun _ _ _ _ h => h) .no (D_pureP rfl) rfl ?_
          refine XA_done (by kernel_rfl) ?_
          try simp only [List.cons_append, List.nil_append, List.append_nil]
          refine thenX_normal ?_
          refine X_cond_t rfl rfl ?_
          refine X_region ?_
          refine XL_det .no (D_ldo rfl (by repeat first | with_reducible exact .here _ _ | with_reducible apply Out.there | with_reducible apply Out.app) tk_64 (by rfl)) rfl ?_
          refine XL_det .no (D_pure rfl) rfl ?_
          refine XL_det .no (D_idxA rfl rfl arr_108 rfl (by decide) rfl) rfl ?_
          refine XL_det .no (D_ldo rfl (by repeat first | with_reducible exact .here _ _ | with_reducible apply Out.there | with_reducible apply Out.app) tk_4 (by rfl)) rfl ?_
          refine XL_det .no (D_idxA rfl rfl arr_108 rfl (by decide) rfl) rfl ?_
          refine XL_det .no (D_ldo rfl (by repeat first | with_reducible exact .here _ _ | with_reducible apply Out.there | with_reducible apply Out.app) tk_4 (by rfl)) rfl ?_
          refine XL_det .no (D_build [_, _, _, _] rfl bld_69 (by rfl)) rfl ?_
          refine XL_bslice (cs := encN (tnAt 5 x.edges.l.length y.edges.l.length i)) .no rfl slt_64 (by decide) (by decide) (by rfl) (by rfl) rfl rfl (fun b10 => ?_)
          refine XL_app1 (enc := encN) (c := o) (y := (tnAt 5 x.edges.l.length y.edges.l.length i)) (K := _) .no rfl rfl slt_64 (by repeat first | with_reducible exact .here _ _ | with_reducible apply Out.there | with_reducible apply Out.app) (by repeat first | with_reducible exact .here _ _ | with_reducible apply Out.there | with_reducible apply Out.app) (Rd_blk0) rfl rfl (by omega) (by omega) rfl (fun o2 ho2 ho2o => ?_)
          refine XL_efd .no (F_stl rfl rfl rfl (by repeat first | with_reducible exact .here _ _ | with_reducible apply Out.there | with_reducible apply Out.app) tk_64 (by repeat first | exact .zero _ _ _ | apply SetL.succ)) ?_
          refine XL_nil ?_
          refine inBlk_normal ?_
          exact ⟨[blk b1 [.int .i64 x.res, .slice x.tasks.oad x.tasks.l.length x.tasks.c, .slice x.modes.oad x.modes.l.length x.modes.c, .slice x.edges.oad x.edges.l.length x.edges.c] 62, blk b2 [.int .i64 y.res, .slice y.tasks.oad y.tasks.l.length y.tasks.c, .slice y.modes.oad y.modes.l.length y.modes.c, .slice y.edges.oad y.edges.l.length y.edges.c] 62, blk b3 [.slice o2.oad o2.l.length o2.c] 64, row (.slice o2.oad o2.l.length o2.c) 69 4 o2.l.length (o2.l.flatMap encN), K], _, (by repeat first | with_reducible exact .nil _ | with_reducible exact .here _ _ | with_reducible exact Take.self _ | with_reducible apply Take.cons | with_reducible apply Out.there | with_reducible apply Take.skip | with_reducible exact Take.pre _ _ | with_reducible apply Out.app), ⟨o2, by rw [ho2, ho, List.append_assoc, edgesT_s, plT_out (both_f (by omega))], ho2o, rfl⟩⟩
        · try simp only [decide_eq_true_eq, decide_eq_false_iff_not, Bool.not_eq_true', Bool.not_eq_false', beq_iff_eq, bne_iff_ne, beq_eq_false_iff_ne, bne_eq_false_iff_eq, Int.not_lt, Int.not_le, gt_iff_lt, ge_iff_le, ne_eq] at h5
          refine XA_detp 4 rfl (by kernel_rfl) (by kernel_rfl) (by kernel_rfl) (fun _ _ _ _ h => h) (.yes 77 rfl rfl rfl) (D_idxAP rfl rfl arr_108 rfl (by decide) rfl) rfl ?_
          refine XA_det 5 rfl (by kernel_rfl) (by kernel_rfl) (by kernel_rfl) (by kernel_rfl) (fun _ _ _ _ h => h) (.yes 77 rfl rfl rfl) (D_ldo rfl (by repeat first | with_reducible exact .here _ _ | with_reducible apply Out.there | with_reducible apply Out.app) tk_4 (by rfl)) rfl ?_
          refine XA_detp 6 rfl (by kernel_rfl) (by kernel_rfl) (by kernel_rfl) (fun _ _ _ _ h => h) (.yes 77 rfl rfl rfl) (D_pureP rfl) rfl ?_
          refine XA_detp 7 rfl (by kernel_rfl) (by kernel_rfl) (by kernel_rfl) (fun _ _ _ _ h => h) .no (D_pureP rfl) rfl ?_
          refine XA_detp 8 rfl (by kernel_rfl) (by kernel_rfl) (by kernel_rfl) (fun _ _ _ _ h => h) .no (D_pureP rfl) rfl ?_
          refine XA_split (t := 82) rfl (fun h6 => ?_) (fun h6 => ?_)
          · try simp only [decide_eq_true_eq, decide_eq_false_iff_not, Bool.not_eq_true', Bool.not_eq_false', beq_iff_eq, bne_iff_ne, beq_eq_false_iff_ne, bne_eq_false_iff_eq, Int.not_lt, Int.not_le, gt_iff_lt, ge_iff_le, ne_eq] at h6
            refine XA_skipp 9 82 rfl (by kernel_rfl) (by kernel_rfl) (by kernel_rfl) (fun _ _ _ _ h => h) rfl rfl rfl rfl rfl ?_
            refine XA_skipp 10 82 rfl (by kernel_rfl) (by kernel_rfl) (by kernel_rfl) (fun _ _ _ _ h => h) rfl rfl rfl rfl rfl ?_
            refine XA_skipp 11 82 rfl (by kernel_rfl) (by kernel_rfl) (by kernel_rfl) (fun _ _ _ _ h => h) rfl rfl rfl rfl rfl ?_
            refine XA_skipp 12 82 rfl (by kernel_rfl) (by kernel_rfl) (by kernel_rfl) (fun _ _ _ _ h => h) rfl rfl rfl rfl rfl ?_
            refine XA_skipp 13 82 rfl (by kernel_rfl) (by kernel_rfl) (by kernel_rfl) (fun _ _ _ _ h => h) rfl rfl rfl rfl rfl ?_
            refine XA_skipp 14 82 rfl (by kernel_rfl) (by kernel_rfl) (by kernel_rfl) (fun _ _ _ _ h => h) rfl rfl rfl rfl rfl ?_
            refine XA_skipp 15 82 rfl (by kernel_rfl) (by kernel_rfl) (by kernel_rfl) (fun _ _ _ _ h => h) rfl rfl rfl rfl rfl ?_
            refine XA_skipp 16 82 rfl (by kernel_rfl) (by kernel_rfl) (by kernel_rfl) (fun _ _ _ _ h => h) rfl rfl rfl rfl rfl ?_
            refine XA_skipp 17 82 rfl (by kernel_rfl) (by kernel_rfl) (by kernel_rfl) (fun _ _ _ _ h => h) rfl rfl rfl rfl rfl ?_
            refine XA_skipp 18 82 rfl (by kernel_rfl) (by kernel_rfl) (by kernel_rfl) (fun _ _ _ _ h => h) rfl rfl rfl rfl rfl ?_
            refine XA_skipp 19 82 rfl (by kernel_rfl) (by kernel_rfl) (by kernel_rfl) (fun _ _ _ _ h => h) rfl rfl rfl rfl rfl ?_
            refine XA_detp 20 rfl (by kernel_rfl) (by kernel_rfl) (by kernel_rfl) (fun _ _ _ _ h => h) .no (D_pureP rfl) rfl ?_
            refine XA_done (by kernel_rfl) ?_
            try simp only [List.cons_append, List.nil_append, List.append_nil]
            refine thenX_normal ?_
            refine X_cond_t rfl rfl ?_
            refine X_region ?_
            refine XL_det .no (D_ldo rfl (by repeat first | with_reducible exact .here _ _ | with_reducible apply Out.there | with_reducible apply Out.app) tk_64 (by rfl)) rfl ?_
            refine XL_det .no (D_pure rfl) rfl ?_
            refine XL_det .no (D_idxA rfl rfl arr_108 rfl (by decide) rfl) rfl ?_
            refine XL_det .no (D_ldo rfl (by repeat first | with_reducible exact .here _ _ | with_reducible apply Out.there | with_reducible apply Out.app) tk_4 (by rfl)) rfl ?_
            refine XL_det .no (D_idxA rfl rfl arr_108 rfl (by decide) rfl) rfl ?_
            refine XL_det .no (D_ldo rfl (by repeat first | with_reducible exact .here _ _ | with_reducible apply Out.there | with_reducible apply Out.app) tk_4 (by rfl)) rfl ?_
            refine XL_det .no (D_build [_, _, _, _] rfl bld_69 (by rfl)) rfl ?_
            refine XL_bslice (cs := encN (tnAt 5 x.edges.l.length y.edges.l.length i)) .no rfl slt_64 (by decide) (by decide) (by rfl) (by rfl) rfl rfl (fun b11 => ?_)
            refine XL_app1 (enc := encN) (c := o) (y := (tnAt 5 x.edges.l.length y.edges.l.length i)) (K := _) .no rfl rfl slt_64 (by repeat first | with_reducible exact .here _ _ | with_reducible apply Out.there | with_reducible apply Out.app) (by repeat first | with_reducible exact .here _ _ | with_reducible apply Out.there | with_reducible apply Out.app) (Rd_blk0) rfl rfl (by omega) (by omega) rfl (fun o2 ho2 ho2o => ?_)
            refine XL_efd .no (F_stl rfl rfl rfl (by repeat first | with_reducible exact .here _ _ | with_reducible apply Out.there | with_reducible apply Out.app) tk_64 (by repeat first | exact .zero _ _ _ | apply SetL.succ)) ?_
            refine XL_nil ?_
            refine inBlk_normal ?_
            exact ⟨[blk b1 [.int .i64 x.res, .slice x.tasks.oad x.tasks.l.length x.tasks.c, .slice x.modes.oad x.modes.l.length x.modes.c, .slice x.edges.oad x.edges.l.length x.edges.c] 62, blk b2 [.int .i64 y.res, .slice y.tasks.oad y.tasks.l.length y.tasks.c, .slice y.modes.oad y.modes.l.length y.modes.c, .slice y.edges.oad y.edges.l.length y.edges.c] 62, blk b3 [.slice o2.oad o2.l.length o2.c] 64, row (.slice o2.oad o2.l.length o2.c) 69 4 o2.l.length (o2.l.flatMap encN), K], _, (by repeat first | with_reducible exact .nil _ | with_reducible exact .here _ _ | with_reducible exact Take.self _ | with_reducible apply Take.cons | with_reducible apply Out.there | with_reducible apply Take.skip | with_reducible exact Take.pre _ _ | with_reducible apply Out.app), ⟨o2, by rw [ho2, ho, List.append_assoc, edgesT_s, plT_out (both_f (by omega))], ho2o, rfl⟩⟩
          · try simp only [decide_eq_true_eq, decide_eq_false_iff_not, Bool.not_eq_true', Bool.not_eq_false', beq_iff_eq, bne_iff_ne, beq_eq_false_iff_ne, bne_eq_false_iff_eq, Int.not_lt, Int.not_le, gt_iff_lt, ge_iff_le, ne_eq] at h6
            obtain ⟨p, hgp⟩ : ∃ p, x.edges.l[i]? = some p := ⟨_, List.getElem?_eq_getElem (by omega)⟩
            obtain ⟨q, hgq⟩ : ∃ q, y.edges.l[i]? = some q := ⟨_, List.getElem?_eq_getElem (by omega)⟩
            refine XA_detp 9 rfl (by kernel_rfl) (by kernel_rfl) (by kernel_rfl) (fun _ _ _ _ h => h) (.yes 82 rfl rfl rfl) (D_fldP rfl fld_62_3 (o' := 3) rfl) rfl ?_
            refine XA_det 10 rfl (by kernel_rfl) (by kernel_rfl) (by kernel_rfl) (by kernel_rfl) (fun _ _ _ _ h => h) (.yes 82 rfl rfl rfl) (D_ldo rfl (by repeat first | with_reducible exact .here _ _ | with_reducible apply Out.there | with_reducible apply Out.app) tk_60 (by rfl)) rfl ?_
            refine XA_detp 11 rfl (by kernel_rfl) (by kernel_rfl) (by kernel_rfl) (fun _ _ _ _ h => h) (.yes 82 rfl rfl rfl) (D_pureP rfl) rfl ?_
            refine XA_detp 12 rfl (by kernel_rfl) (by kernel_rfl) (by kernel_rfl) (fun _ _ _ _ h => h) (.yes 82 rfl rfl rfl) (D_idxSoP rfl rfl slc_60 (x.edges).nil0 rfl (by omega) rfl) rfl ?_
            refine XA_det 13 rfl (by kernel_rfl) (by kernel_rfl) (by kernel_rfl) (by kernel_rfl) (fun _ _ _ _ h => h) (.yes 82 rfl rfl rfl) (D_els (enc := encE) (sz := 23) (i := i) (fun _ => rfl) rfl (by repeat first | with_reducible exact .here _ _ | with_reducible apply Out.there | with_reducible apply Out.app) hx.edges tk_113 hgp) rfl ?_
            refine XA_detp 14 rfl (by kernel_rfl) (by kernel_rfl) (by kernel_rfl) (fun _ _ _ _ h => h) (.yes 82 rfl rfl rfl) (D_fldP rfl fld_62_3 (o' := 3) rfl) rfl ?_
            refine XA_det 15 rfl (by kernel_rfl) (by kernel_rfl) (by kernel_rfl) (by kernel_rfl) (fun _ _ _ _ h => h) (.yes 82 rfl rfl rfl) (D_ldo rfl (by repeat first | with_reducible exact .here _ _ | with_reducible apply Out.there | with_reducible apply Out.app) tk_60 (by rfl)) rfl ?_
            refine XA_detp 16 rfl (by kernel_rfl) (by kernel_rfl) (by kernel_rfl) (fun _ _ _ _ h => h) (.yes 82 rfl rfl rfl) (D_pureP rfl) rfl ?_
            refine XA_detp 17 rfl (by kernel_rfl) (by kernel_rfl) (by kernel_rfl) (fun _ _ _ _ h => h) (.yes 82 rfl rfl rfl) (D_idxSoP rfl rfl slc_60 (y.edges).nil0 rfl (by omega) rfl) rfl ?_
            refine XA_det 18 rfl (by kernel_rfl) (by kernel_rfl) (by kernel_rfl) (by kernel_rfl) (fun _ _ _ _ h => h) (.yes 82 rfl rfl rfl) (D_els (enc := encE) (sz := 23) (i := i) (fun _ => rfl) rfl (by repeat first | with_reducible exact .here _ _ | with_reducible apply Out.there | with_reducible apply Out.app) hy.edges tk_113 hgq) rfl ?_
            refine XA_det 19 rfl (by kernel_rfl) (by kernel_rfl) (by kernel_rfl) (by kernel_rfl) (fun _ _ _ _ h => h) (.yes 82 rfl rfl rfl) (D_eqs (b := !cellsEq (encE p) (encE q)) rfl rfl eqk_113 eqg_113 rfl rfl rfl rfl) rfl ?_
            refine XA_detp 20 rfl (by kernel_rfl) (by kernel_rfl) (by kernel_rfl) (fun _ _ _ _ h => h) .no (D_pureP rfl) rfl ?_
            refine XA_done (by kernel_rfl) ?_
            try simp only [List.cons_append, List.nil_append, List.append_nil]
            refine thenX_normal ?_
            refine X_cond rfl (fun h7 => ?_) (fun h7 => ?_)
            · try simp only [decide_eq_true_eq, decide_eq_false_iff_not, Bool.not_eq_true', Bool.not_eq_false', beq_iff_eq, bne_iff_ne, beq_eq_false_iff_ne, bne_eq_false_iff_eq, Int.not_lt, Int.not_le, gt_iff_lt, ge_iff_le, ne_eq] at h7
              refine X_region ?_
              refine XL_det .no (D_ldo rfl (by repeat first | with_reducible exact .here _ _ | with_reducible apply Out.there | with_reducible apply Out.app) tk_64 (by rfl)) rfl ?_
              refine XL_det .no (D_pure rfl) rfl ?_
              refine XL_det .no (D_idxA rfl rfl arr_108 rfl (by decide) rfl) rfl ?_
              refine XL_det .no (D_ldo rfl (by repeat first | with_reducible exact .here _ _ | with_reducible apply Out.there | with_reducible apply Out.app) tk_4 (by rfl)) rfl ?_
              refine XL_det .no (D_idxA rfl rfl arr_108 rfl (by decide) rfl) rfl ?_
              refine XL_det .no (D_ldo rfl (by repeat first | with_reducible exact .here _ _ | with_reducible apply Out.there | with_reducible apply Out.app) tk_4 (by rfl)) rfl ?_
              refine XL_det .no (D_build [_, _, _, _] rfl bld_69 (by rfl)) rfl ?_
              refine XL_bslice (cs := encN (tnAt 5 x.edges.l.length y.edges.l.length i)) .no rfl slt_64 (by decide) (by decide) (by rfl) (by rfl) rfl rfl (fun b12 => ?_)
              refine XL_app1 (enc := encN) (c := o) (y := (tnAt 5 x.edges.l.length y.edges.l.length i)) (K := _) .no rfl rfl slt_64 (by repeat first | with_reducible exact .here _ _ | with_reducible apply Out.there | with_reducible apply Out.app) (by repeat first | with_reducible exact .here _ _ | with_reducible apply Out.there | with_reducible apply Out.app) (Rd_blk0) rfl rfl (by omega) (by omega) rfl (fun o2 ho2 ho2o => ?_)
              refine XL_efd .no (F_stl rfl rfl rfl (by repeat first | with_reducible exact .here _ _ | with_reducible apply Out.there | with_reducible apply Out.app) tk_64 (by repeat first | exact .zero _ _ _ | apply SetL.succ)) ?_
              refine XL_nil ?_
              refine inBlk_normal ?_
              exact ⟨[blk b1 [.int .i64 x.res, .slice x.tasks.oad x.tasks.l.length x.tasks.c, .slice x.modes.oad x.modes.l.length x.modes.c, .slice x.edges.oad x.edges.l.length x.edges.c] 62, blk b2 [.int .i64 y.res, .slice y.tasks.oad y.tasks.l.length y.tasks.c, .slice y.modes.oad y.modes.l.length y.modes.c, .slice y.edges.oad y.edges.l.length y.edges.c] 62, blk b3 [.slice o2.oad o2.l.length o2.c] 64, row (.slice o2.oad o2.l.length o2.c) 69 4 o2.l.length (o2.l.flatMap encN), K], _, (by repeat first | with_reducible exact .nil _ | with_reducible exact .here _ _ | with_reducible exact Take.self _ | with_reducible apply Take.cons | with_reducible apply Out.there | with_reducible apply Take.skip | with_reducible exact Take.pre _ _ | with_reducible apply Out.app), ⟨o2, by rw [ho2, ho, List.append_assoc, edgesT_s, plT_ne hgp hgq (by show cellsEq _ _ = false; simpa using h7)], ho2o, rfl⟩⟩
            · try simp only [decide_eq_true_eq, decide_eq_false_iff_not, Bool.not_eq_true', Bool.not_eq_false', beq_iff_eq, bne_iff_ne, beq_eq_false_iff_ne, bne_eq_false_iff_eq, Int.not_lt, Int.not_le, gt_iff_lt, ge_iff_le, ne_eq] at h7
              refine X_skip ?_
              refine inBlk_normal ?_
              exact ⟨[blk b1 [.int .i64 x.res, .slice x.tasks.oad x.tasks.l.length x.tasks.c, .slice x.modes.oad x.modes.l.length x.modes.c, .slice x.edges.oad x.edges.l.length x.edges.c] 62, blk b2 [.int .i64 y.res, .slice y.tasks.oad y.tasks.l.length y.tasks.c, .slice y.modes.oad y.modes.l.length y.modes.c, .slice y.edges.oad y.edges.l.length y.edges.c] 62, blk b3 [.slice o.oad o.l.length o.c] 64, row (.slice o.oad o.l.length o.c) 69 4 o.l.length (o.l.flatMap encN), K], _, (by repeat first | with_reducible exact .nil _ | with_reducible exact .here _ _ | with_reducible exact Take.self _ | with_reducible apply Take.cons | with_reducible apply Out.there | with_reducible apply Take.skip | with_reducible exact Take.pre _ _ | with_reducible apply Out.app), ⟨o, by rw [ho, edgesT_s, plT_eq hgp hgq (by show cellsEq _ _ = true; simpa using h7), List.append_nil], hoo, rfl⟩⟩
      · intro dd1 S2 hJ
        obtain ⟨o, ho, hoo, rfl⟩ := hJ
        rw [plL_len] at ho
        simp only [List.cons_append, List.nil_append]
        replace hoo : o.Own := hoo
        refine inBlk_normal ?_
        refine thenX_normal ?_
        refine X_seq ?_
        refine X_region ?_
        refine XL_det .no (D_ldo rfl (by repeat first | with_reducible exact .here _ _ | with_reducible apply Out.there | with_reducible apply Out.app) tk_64 (by rfl)) rfl ?_
        refine XL_det .no (D_pure rfl) rfl ?_
        refine XL_then ?_
        refine X_ret ?_
        refine ret_ok (show Take [dfr dd1, dfr dd0] _ _ from (by repeat first | with_reducible exact .nil _ | with_reducible exact .here _ _ | with_reducible exact Take.self _ | with_reducible apply Take.cons | with_reducible apply Out.there | with_reducible apply Take.skip | with_reducible exact Take.pre _ _ | with_reducible apply Out.app)) (res_tmp rfl rfl) ?_
        exact ⟨[row (.slice o.oad o.l.length o.c) 69 4 o.l.length (o.l.flatMap encN), K], ⟨o, ⟨ho, hoo⟩, rfl, rfl⟩, _, (by repeat first | with_reducible exact .nil _ | with_reducible exact .here _ _ | with_reducible exact Take.self _ | with_reducible apply Take.cons | with_reducible apply Out.there | with_reducible apply Take.skip | with_reducible exact Take.pre _ _ | with_reducible apply Out.app)⟩
      · intro dd1 c i S2 hi h
        exact h.elim
    · intro dd0 c i S2 hi h
      exact h.elim

end Go.Proofs.Ytjcpggoodbkedaa
end

section
namespace Go.Proofs.Ytjcpggoodbkedaa
open Go Go.Sl
set_option linter.unusedVariables false
set_option linter.unusedSimpArgs false
set_option maxRecDepth 4000
variable {B : Nat} {K : Asrt B}
theorem bld_62 : bldOf Try.prog 62 = some ([.int .i64 0, .slice none 0 0, .slice none 0 0, .slice none 0 0], [(0, 1), (1, 1), (2, 1), (3, 1)]) := by kernel_rfl
theorem bld_75 : bldOf Try.prog 75 = some ([.int .i64 0, .int .i64 0, .int .i64 0, .int .i64 0, .int .i64 0, .int .i64 0, .int .i64 0, .int .i64 0, .int .i64 0, .int .i64 0, .int .i64 0], [(0, 1), (1, 1), (2, 1), (3, 8)]) := by kernel_rfl
theorem en_16 : Go.Proofs.Enters Try.prog 16 := Go.Proofs.enters_of Try.func16 (by kernel_rfl) rfl
theorem en_30 : Go.Proofs.Enters Try.prog 30 := Go.Proofs.enters_of Try.func30 (by kernel_rfl) rfl
theorem en_32 : Go.Proofs.Enters Try.prog 32 := Go.Proofs.enters_of Try.func32 (by kernel_rfl) rfl
theorem en_33 : Go.Proofs.Enters Try.prog 33 := Go.Proofs.enters_of Try.func33 (by kernel_rfl) rfl
theorem slc_64 : slcOf Try.prog 64 = some (69, 4) := by kernel_rfl
theorem slc_71 : slcOf Try.prog 71 = some (9, 1) := by kernel_rfl
theorem slt_58 : slT Try.prog 58 = some (75, 11, 88, [.int .i64 0, .int .i64 0, .int .i64 0, .int .i64 0, .int .i64 0, .int .i64 0, .int .i64 0, .int .i64 0, .int .i64 0, .int .i64 0, .int .i64 0]) := by kernel_rfl
theorem slt_71 : slT Try.prog 71 = some (9, 1, 16, [.string ByteArray.empty]) := by kernel_rfl
theorem tk_62 : tyK Try.prog 62 = some (true, 4) := by kernel_rfl
theorem tk_69 : tyK Try.prog 69 = some (true, 4) := by kernel_rfl
theorem ub_4 : Try.prog.underlying 4 = some .bool := by kernel_rfl
theorem zero_62 : zeroOf Try.prog 62 = some [.int .i64 0, .slice none 0 0, .slice none 0 0, .slice none 0 0] := by kernel_rfl

def eA (n : Int) : Nat → Int
  | 0 => n
  | _ => 0
abbrev imgA (b : Nat) (n : Int) : Img := ⟨0, Arr.lit b [eA n] (by show 1 ≤ _; decide), Arr.emp, Arr.emp⟩
theorem imgA_small (b : Nat) (n : Int) : Small (imgA b n) := ⟨by show 1 ≤ 1000; decide, by show 0 ≤ 1000; decide, by show 0 ≤ 1000; decide⟩
theorem imgA_in {K : Asrt B} {b : Nat} {n : Int} (h : Rd K ⟨b, 0, none⟩ (encT (eA n))) : (imgA b n).In K :=
  ⟨by show Rd K ⟨b, 0, none⟩ (encT (eA n) ++ []); rw [List.append_nil]; exact h, fun D w _ k hk => absurd hk (Nat.not_lt_zero k), fun D w _ k hk => absurd hk (Nat.not_lt_zero k), fun m hm => by cases hm⟩
theorem diff42 (a b : Nat) : diffOf (imgA a 1) (imgA b 2) = [⟨2, 0, true, true⟩] := by rfl
theorem line42 : lineD ⟨2, 0, true, true⟩ = [116, 97, 115, 107, 32, 48, 32, 111, 116, 104, 101, 114] := by kernel_rfl

theorem alive42  : Ctr Try.prog B 33 [] [] (fun v S => v = .bool true ∧ S = []) := by
  refine Ctr_of_X (N := 25) Try.func33 rfl (by simp) rfl ?_
  intro w0 D0
  refine X_seq ?_
  refine X_region ?_
  refine XL_det .no (D_pure rfl) rfl ?_
  refine XL_then ?_
  refine X_seq ?_
  refine X_region ?_
  refine XL_det .no (D_build [_, _, _, _, _, _, _, _, _, _, _] rfl bld_75 (by rfl)) rfl ?_
  refine XL_bslice (cs := encT (eA 1)) .no rfl slt_58 (by decide) (by decide) (by rfl) (by rfl) rfl rfl (fun b1 => ?_)
  refine XL_det .no (D_build [_, _, _, _] rfl bld_62 (by rfl)) rfl ?_
  refine XL_alloc .no zero_62 rfl (fun b2 => ?_)
  refine XL_efd .no (F_stw rfl rfl rfl (by repeat first | with_reducible exact .here _ _ | with_reducible apply Out.there | with_reducible apply Out.app) tk_62 rfl rfl) ?_
  refine XL_then ?_
  refine X_seq ?_
  refine X_region ?_
  refine XL_det .no (D_build [_, _, _, _, _, _, _, _, _, _, _] rfl bld_75 (by rfl)) rfl ?_
  refine XL_bslice (cs := encT (eA 2)) .no rfl slt_58 (by decide) (by decide) (by rfl) (by rfl) rfl rfl (fun b3 => ?_)
  refine XL_det .no (D_build [_, _, _, _] rfl bld_62 (by rfl)) rfl ?_
  refine XL_alloc .no zero_62 rfl (fun b4 => ?_)
  refine XL_efd .no (F_stw rfl rfl rfl (by repeat first | with_reducible exact .here _ _ | with_reducible apply Out.there | with_reducible apply Out.app) tk_62 rfl rfl) ?_
  refine XL_then ?_
  refine X_seq ?_
  refine X_region ?_
  refine XL_det .no (D_ldso (vs := [.int .i64 0, .slice (some ⟨b1, 0, none⟩) 1 1, .slice none 0 0, .slice none 0 0]) rfl (by repeat first | with_reducible exact .here _ _ | with_reducible apply Out.there | with_reducible apply Out.app) tk_62 rfl (by rfl)) rfl ?_
  refine XL_det .no (D_ldso (vs := [.int .i64 0, .slice (some ⟨b3, 0, none⟩) 1 1, .slice none 0 0, .slice none 0 0]) rfl (by repeat first | with_reducible exact .here _ _ | with_reducible apply Out.there | with_reducible apply Out.app) tk_62 rfl (by rfl)) rfl ?_
  refine XL_both (blk b1 (encT (eA 1)) 75) (blk b3 (encT (eA 2)) 75) (by repeat first | with_reducible exact .nil _ | with_reducible exact .here _ _ | with_reducible exact Take.self _ | with_reducible apply Take.cons | with_reducible apply Out.there | with_reducible apply Take.skip | with_reducible exact Take.pre _ _ | with_reducible apply Out.app) ?_
  refine XL_call .no en_30 rfl (dOf (K := both (blk b1 (encT (eA 1)) 75) (blk b3 (encT (eA 2)) 75)) (imgA b1 1) (imgA b3 2) (imgA_in (Rd.both1 Rd_blk0)) (imgA_in (Rd.both2 Rd_blk0)) (imgA_small _ _) (imgA_small _ _)) (by repeat first | with_reducible exact .nil _ | with_reducible exact .here _ _ | with_reducible exact Take.self _ | with_reducible apply Take.cons | with_reducible apply Out.there | with_reducible apply Take.skip | with_reducible exact Take.pre _ _ | with_reducible apply Out.app) rfl ?_
  rintro _ _ ⟨o, ⟨ho, hoo⟩, rfl, rfl⟩
  simp only [List.cons_append, List.nil_append]
  rw [diff42] at ho
  refine XL_det .no (D_pure rfl) rfl ?_
  refine XL_then ?_
  refine X_seq ?_
  refine X_region ?_
  refine XL_det .no (D_pure rfl) rfl ?_
  refine XL_det .no (D_len rfl rfl slc_64) rfl ?_
  refine XL_det .no (D_pure (v := .bool true) (bt (by rw [ho]; rfl))) rfl ?_
  refine XL_det .no (D_pure rfl) rfl ?_
  refine XL_det (.yes 16 rfl rfl rfl) (D_pure rfl) rfl ?_
  refine XL_det (.yes 16 rfl rfl rfl) (D_idxSo rfl rfl slc_64 (o).nil0 rfl (by rw [ho]; decide) rfl) rfl ?_
  refine XL_det (.yes 16 rfl rfl rfl) (D_els (enc := encN) (sz := 4) (i := 0) (fun _ => rfl) rfl (by repeat first | with_reducible exact .here _ _ | with_reducible apply Out.there | with_reducible apply Out.app) (Rd_own hoo rfl) tk_69 (by rw [ho]; rfl : o.l[0]? = some (⟨2, 0, true, true⟩ : Tn))) rfl ?_
  refine XL_callv (.yes 16 rfl rfl rfl) en_32 rfl (dLine ⟨2, 0, true, true⟩) rfl ?_
  rw [line42]
  refine XL_det (.yes 16 rfl rfl rfl) (D_seq (q := true) rfl rfl rfl) rfl ?_
  refine XL_det .no (D_pure rfl) rfl ?_
  refine XL_det .no (D_pure rfl) rfl ?_
  refine XL_det .no (D_pure rfl) rfl ?_
  refine XL_det .no (D_pure rfl) rfl ?_
  refine XL_then ?_
  refine X_ret ?_
  refine ret_ok (.nil _) (res_tmp rfl rfl) ?_
  exact ⟨_, ⟨rfl, rfl⟩, _, (by repeat first | with_reducible exact .nil _ | with_reducible exact .here _ _ | with_reducible exact Take.self _ | with_reducible apply Take.cons | with_reducible apply Out.there | with_reducible apply Take.skip | with_reducible exact Take.pre _ _ | with_reducible apply Out.app)⟩


abbrev names5 : List Value := [str [114, 101, 115], str [116, 97, 115, 107], str [109, 111, 100, 101], str [113, 117, 101, 117, 101, 115], str [101, 100, 103, 101]]
theorem names5_get {k : Int} (h1 : 1 ≤ k) (h2 : k ≤ 5) : names5[(k - 1).toNat * 1]? = some (str (wordD k)) := by
  rcases wk_cases h1 h2 with rfl | rfl | rfl | rfl | rfl <;> rfl
theorem okD_i {t : Tn} (h1 : 1 ≤ t.kind) (h2 : t.kind ≤ 5) (h3 : 0 ≤ t.pl) (h4 : t.old = true ∨ t.new = true) : okD t = true := okD_t (wordD_in h1 h2).1 h3 h4
theorem okD_k {t : Tn} (h : ¬ (1 ≤ t.kind ∧ t.kind ≤ 5)) : okD t = false := okD_1 (wordD_out h)

theorem diffLines (t : Tn) : Ctr Try.prog B 8 [.agg (encN t).toArray] [] (fun v S => v = .bool true ∧ S = []) := by
  refine Ctr_of_X (N := 53) Try.func8 rfl (by simp) rfl ?_
  intro w0 D0
  refine X_seq ?_
  refine X_region ?_
  refine XL_box (cs := encN t) .no rfl rfl rfl (fun b1 => ?_)
  refine XL_det .no (D_pure rfl) rfl ?_
  refine XL_then ?_
  refine X_seq ?_
  refine X_region ?_
  refine XL_det .no (D_pure rfl) rfl ?_
  refine XL_then ?_
  refine X_seqj (α := Unit) (fun _ => True) (fun _ => [(3, str (lineD t)), (1, .pointer (some ⟨b1, 0, none⟩))]) (fun _ => [blk b1 (encN t) 69]) ?_ ?_
  · skip
    refine X_seq ?_
    refine X_region ?_
    refine XL_det .no (D_fld rfl fld_69_0 (o' := 0) rfl) rfl ?_
    refine XL_det .no (D_ldo rfl (by repeat first | with_reducible exact .here _ _ | with_reducible apply Out.there | with_reducible apply Out.app) tk_67 (by rfl)) rfl ?_
    refine XL_det .no (D_pure rfl) rfl ?_
    refine XL_det .no (D_pure rfl) rfl ?_
    refine XL_split (t := 8) rfl (fun h1 => ?_) (fun h1 => ?_)
    · try simp only [decide_eq_true_eq, decide_eq_false_iff_not, Bool.not_eq_true', Bool.not_eq_false', beq_iff_eq, bne_iff_ne, beq_eq_false_iff_ne, bne_eq_false_iff_eq, Int.not_lt, Int.not_le, gt_iff_lt, ge_iff_le, ne_eq] at h1
      refine XL_det (.yes 8 rfl rfl rfl) (D_fld rfl fld_69_0 (o' := 0) rfl) rfl ?_
      refine XL_det (.yes 8 rfl rfl rfl) (D_ldo rfl (by repeat first | with_reducible exact .here _ _ | with_reducible apply Out.there | with_reducible apply Out.app) tk_67 (by rfl)) rfl ?_
      refine XL_det (.yes 8 rfl rfl rfl) (D_pure rfl) rfl ?_
      refine XL_det .no (D_pure rfl) rfl ?_
      refine XL_det .no (D_pure rfl) rfl ?_
      refine XL_split (t := 13) rfl (fun h2 => ?_) (fun h2 => ?_)
      · try simp only [decide_eq_true_eq, decide_eq_false_iff_not, Bool.not_eq_true', Bool.not_eq_false', beq_iff_eq, bne_iff_ne, beq_eq_false_iff_ne, bne_eq_false_iff_eq, Int.not_lt, Int.not_le, gt_iff_lt, ge_iff_le, ne_eq] at h2
        refine XL_det (.yes 13 rfl rfl rfl) (D_fld rfl fld_69_1 (o' := 1) rfl) rfl ?_
        refine XL_det (.yes 13 rfl rfl rfl) (D_ldo rfl (by repeat first | with_reducible exact .here _ _ | with_reducible apply Out.there | with_reducible apply Out.app) tk_3 (by rfl)) rfl ?_
        refine XL_det (.yes 13 rfl rfl rfl) (D_pure rfl) rfl ?_
        refine XL_det .no (D_pure rfl) rfl ?_
        refine XL_det .no (D_pure rfl) rfl ?_
        refine XL_split (t := 18) rfl (fun h3 => ?_) (fun h3 => ?_)
        · try simp only [decide_eq_true_eq, decide_eq_false_iff_not, Bool.not_eq_true', Bool.not_eq_false', beq_iff_eq, bne_iff_ne, beq_eq_false_iff_ne, bne_eq_false_iff_eq, Int.not_lt, Int.not_le, gt_iff_lt, ge_iff_le, ne_eq] at h3
          refine XL_det (.yes 18 rfl rfl rfl) (D_fld rfl fld_69_2 (o' := 2) rfl) rfl ?_
          refine XL_det (.yes 18 rfl rfl rfl) (D_ldo rfl (by repeat first | with_reducible exact .here _ _ | with_reducible apply Out.there | with_reducible apply Out.app) tk_4 (by rfl)) rfl ?_
          refine XL_det (.yes 18 rfl rfl rfl) (D_pure rfl) rfl ?_
          refine XL_split (t := 21) rfl (fun h4 => ?_) (fun h4 => ?_)
          · try simp only [decide_eq_true_eq, decide_eq_false_iff_not, Bool.not_eq_true', Bool.not_eq_false', beq_iff_eq, bne_iff_ne, beq_eq_false_iff_ne, bne_eq_false_iff_eq, Int.not_lt, Int.not_le, gt_iff_lt, ge_iff_le, ne_eq] at h4
            have g1 := wordD_len t.kind
            have g2 := txt_len t.pl
            refine XL_skip 21 rfl rfl rfl rfl rfl ?_
            refine XL_skip 21 rfl rfl rfl rfl rfl ?_
            refine XL_det (.yes 18 rfl rfl rfl) (D_pure rfl) rfl ?_
            refine XL_det .no (D_pure rfl) rfl ?_
            refine XL_then ?_
            refine X_cond_t rfl rfl ?_
            refine X_seq ?_
            refine X_region ?_
            refine XL_det .no (D_pure rfl) rfl ?_
            refine XL_then ?_
            refine X_seq ?_
            refine X_seq ?_
            refine X_region ?_
            refine XL_det .no (D_fld rfl fld_69_2 (o' := 2) rfl) rfl ?_
            refine XL_det .no (D_ldo rfl (by repeat first | with_reducible exact .here _ _ | with_reducible apply Out.there | with_reducible apply Out.app) tk_4 (by rfl)) rfl ?_
            refine XL_det .no (D_pure rfl) rfl ?_
            refine XL_then ?_
            refine X_cond rfl (fun h5 => ?_) (fun h5 => ?_)
            · try simp only [decide_eq_true_eq, decide_eq_false_iff_not, Bool.not_eq_true', Bool.not_eq_false', beq_iff_eq, bne_iff_ne, beq_eq_false_iff_ne, bne_eq_false_iff_eq, Int.not_lt, Int.not_le, gt_iff_lt, ge_iff_le, ne_eq] at h5
              rw [h4] at h5; cases h5
            · try simp only [decide_eq_true_eq, decide_eq_false_iff_not, Bool.not_eq_true', Bool.not_eq_false', beq_iff_eq, bne_iff_ne, beq_eq_false_iff_ne, bne_eq_false_iff_eq, Int.not_lt, Int.not_le, gt_iff_lt, ge_iff_le, ne_eq] at h5
              refine X_skip ?_
              refine thenX_normal ?_
              refine X_seq ?_
              refine X_seq ?_
              refine X_region ?_
              refine XL_det .no (D_fld rfl fld_69_3 (o' := 3) rfl) rfl ?_
              refine XL_det .no (D_ldo rfl (by repeat first | with_reducible exact .here _ _ | with_reducible apply Out.there | with_reducible apply Out.app) tk_4 (by rfl)) rfl ?_
              refine XL_det .no (D_pure rfl) rfl ?_
              refine XL_then ?_
              refine X_cond rfl (fun h6 => ?_) (fun h6 => ?_)
              · try simp only [decide_eq_true_eq, decide_eq_false_iff_not, Bool.not_eq_true', Bool.not_eq_false', beq_iff_eq, bne_iff_ne, beq_eq_false_iff_ne, bne_eq_false_iff_eq, Int.not_lt, Int.not_le, gt_iff_lt, ge_iff_le, ne_eq] at h6
                refine X_region ?_
                refine XL_det .no (D_pure rfl) rfl ?_
                refine XL_then ?_
                refine X_draw _ mixed (Take.self _) ?_
                refine XA_detp 1 rfl (by kernel_rfl) (by kernel_rfl) (by kernel_rfl) (fun _ _ _ _ h => h) .no (D_fldP rfl fld_69_0 (o' := 0) rfl) rfl ?_
                refine XA_det 2 rfl (by kernel_rfl) (by kernel_rfl) (by kernel_rfl) (by kernel_rfl) (fun _ _ _ _ h => h) .no (D_ldo rfl (by repeat first | with_reducible exact .here _ _ | with_reducible apply Out.there | with_reducible apply Out.app) tk_67 (by rfl)) rfl ?_
                refine XA_det 3 rfl (by kernel_rfl) (by kernel_rfl) (by kernel_rfl) (by kernel_rfl) (fun _ _ _ _ h => h) .no (D_sub rfl rfl (by omega) (by omega)) rfl ?_
                refine XA_detp 7 rfl (by kernel_rfl) (by kernel_rfl) (by kernel_rfl) (fun _ _ _ _ h => h) .no (D_fldP rfl fld_69_1 (o' := 1) rfl) rfl ?_
                refine XA_det 8 rfl (by kernel_rfl) (by kernel_rfl) (by kernel_rfl) (by kernel_rfl) (fun _ _ _ _ h => h) .no (D_ldo rfl (by repeat first | with_reducible exact .here _ _ | with_reducible apply Out.there | with_reducible apply Out.app) tk_3 (by rfl)) rfl ?_
                refine XA_detp 12 rfl (by kernel_rfl) (by kernel_rfl) (by kernel_rfl) (fun _ _ _ _ h => h) .no (D_pureP rfl) rfl ?_
                refine XA_two 0 9 (by kernel_rfl) ?_ ?_
                · skip
                  refine XO_bslice (cs := names5) rfl .no rfl slt_71 (by decide) (by decide) (by rfl) (by rfl) rfl rfl (fun bd32 => ?_)
                  refine XA_det 4 rfl (by kernel_rfl) (by kernel_rfl) (by kernel_rfl) (by kernel_rfl) (fun _ _ _ _ h => h) .no (D_idxS (n := 5) (j := (t.kind - 1).toNat) rfl rfl slc_71 (by omega) (by omega) rfl) rfl ?_
                  refine XA_two 5 9 (by kernel_rfl) ?_ ?_
                  · skip
                    refine XO_det rfl .no (by repeat first | with_reducible exact .nil _ | with_reducible apply App.cons) (D_ld (ad := ⟨bd32, 0, none⟩) (k := (t.kind - 1).toNat * 1) rfl (by repeat first | with_reducible exact .here _ _ | with_reducible apply Out.there | with_reducible apply Out.app) Rd_obj tk_9 (names5_get (by omega) (by omega))) rfl ?_
                    refine XA_det 6 rfl (by kernel_rfl) (by kernel_rfl) (by kernel_rfl) (by kernel_rfl) (fun _ _ _ _ h => h) .no (D_scat rfl rfl (by simp only [List.length_append, List.length_cons, List.length_nil]; omega)) rfl ?_
                    refine XA_one 9 (by kernel_rfl) ?_
                    refine XO_callv rfl .no en_16 rfl (rtext t.pl) rfl ?_
                    refine XA_det 10 rfl (by kernel_rfl) (by kernel_rfl) (by kernel_rfl) (by kernel_rfl) (fun _ _ _ _ h => h) .no (D_scat rfl rfl (by simp only [List.length_append, List.length_cons, List.length_nil]; omega)) rfl ?_
                    refine XA_det 11 rfl (by kernel_rfl) (by kernel_rfl) (by kernel_rfl) (by kernel_rfl) (fun _ _ _ _ h => h) .no (D_scat rfl rfl (by simp only [List.length_append, List.length_cons, List.length_nil]; omega)) rfl ?_
                    refine XA_det 13 rfl (by kernel_rfl) (by kernel_rfl) (by kernel_rfl) (by kernel_rfl) (fun _ _ _ _ h => h) .no (D_scat rfl rfl (by simp only [List.length_append, List.length_cons, List.length_nil]; omega)) rfl ?_
                    refine XA_detp 14 rfl (by kernel_rfl) (by kernel_rfl) (by kernel_rfl) (fun _ _ _ _ h => h) .no (D_pureP rfl) rfl ?_
                    refine XA_done (by kernel_rfl) ?_
                    try simp only [List.cons_append, List.nil_append, List.append_nil]
                    refine joinQ_normal () ?_ ?_ ?_
                    · trivial
                    · refine ⟨by rw [lineD_t (okD_i h1 (by omega) (by omega) (by first | exact .inl (by assumption) | exact .inr (by assumption))), h4, h6]; rfl, ?_, trivial⟩ <;> rfl
                    · exact ⟨_, (by repeat first | with_reducible exact .nil _ | with_reducible exact .here _ _ | with_reducible exact Take.self _ | with_reducible apply Take.cons | with_reducible apply Out.there | with_reducible apply Take.skip | with_reducible exact Take.pre _ _ | with_reducible apply Out.app)⟩
                  · skip
                    refine XO_callv rfl .no en_16 rfl (rtext t.pl) rfl ?_
                    refine XA_one 5 (by kernel_rfl) ?_
                    refine XO_det rfl .no (by repeat first | with_reducible exact .nil _ | with_reducible apply App.cons) (D_ld (ad := ⟨bd32, 0, none⟩) (k := (t.kind - 1).toNat * 1) rfl (by repeat first | with_reducible exact .here _ _ | with_reducible apply Out.there | with_reducible apply Out.app) Rd_obj tk_9 (names5_get (by omega) (by omega))) rfl ?_
                    refine XA_det 6 rfl (by kernel_rfl) (by kernel_rfl) (by kernel_rfl) (by kernel_rfl) (fun _ _ _ _ h => h) .no (D_scat rfl rfl (by simp only [List.length_append, List.length_cons, List.length_nil]; omega)) rfl ?_
                    refine XA_det 10 rfl (by kernel_rfl) (by kernel_rfl) (by kernel_rfl) (by kernel_rfl) (fun _ _ _ _ h => h) .no (D_scat rfl rfl (by simp only [List.length_append, List.length_cons, List.length_nil]; omega)) rfl ?_
                    refine XA_det 11 rfl (by kernel_rfl) (by kernel_rfl) (by kernel_rfl) (by kernel_rfl) (fun _ _ _ _ h => h) .no (D_scat rfl rfl (by simp only [List.length_append, List.length_cons, List.length_nil]; omega)) rfl ?_
                    refine XA_det 13 rfl (by kernel_rfl) (by kernel_rfl) (by kernel_rfl) (by kernel_rfl) (fun _ _ _ _ h => h) .no (D_scat rfl rfl (by simp only [List.length_append, List.length_cons, List.length_nil]; omega)) rfl ?_
                    refine XA_detp 14 rfl (by kernel_rfl) (by kernel_rfl) (by kernel_rfl) (fun _ _ _ _ h => h) .no (D_pureP rfl) rfl ?_
                    refine XA_done (by kernel_rfl) ?_
                    try simp only [List.cons_append, List.nil_append, List.append_nil]
                    refine joinQ_normal () ?_ ?_ ?_
                    · trivial
                    · refine ⟨by rw [lineD_t (okD_i h1 (by omega) (by omega) (by first | exact .inl (by assumption) | exact .inr (by assumption))), h4, h6]; rfl, ?_, trivial⟩ <;> rfl
                    · exact ⟨_, (by repeat first | with_reducible exact .nil _ | with_reducible exact .here _ _ | with_reducible exact Take.self _ | with_reducible apply Take.cons | with_reducible apply Out.there | with_reducible apply Take.skip | with_reducible exact Take.pre _ _ | with_reducible apply Out.app)⟩
                · skip
                  refine XO_callv rfl .no en_16 rfl (rtext t.pl) rfl ?_
                  refine XA_one 0 (by kernel_rfl) ?_
                  refine XO_bslice (cs := names5) rfl .no rfl slt_71 (by decide) (by decide) (by rfl) (by rfl) rfl rfl (fun bd32 => ?_)
                  refine XA_det 4 rfl (by kernel_rfl) (by kernel_rfl) (by kernel_rfl) (by kernel_rfl) (fun _ _ _ _ h => h) .no (D_idxS (n := 5) (j := (t.kind - 1).toNat) rfl rfl slc_71 (by omega) (by omega) rfl) rfl ?_
                  refine XA_one 5 (by kernel_rfl) ?_
                  refine XO_det rfl .no (by repeat first | with_reducible exact .nil _ | with_reducible apply App.cons) (D_ld (ad := ⟨bd32, 0, none⟩) (k := (t.kind - 1).toNat * 1) rfl (by repeat first | with_reducible exact .here _ _ | with_reducible apply Out.there | with_reducible apply Out.app) Rd_obj tk_9 (names5_get (by omega) (by omega))) rfl ?_
                  refine XA_det 6 rfl (by kernel_rfl) (by kernel_rfl) (by kernel_rfl) (by kernel_rfl) (fun _ _ _ _ h => h) .no (D_scat rfl rfl (by simp only [List.length_append, List.length_cons, List.length_nil]; omega)) rfl ?_
                  refine XA_det 10 rfl (by kernel_rfl) (by kernel_rfl) (by kernel_rfl) (by kernel_rfl) (fun _ _ _ _ h => h) .no (D_scat rfl rfl (by simp only [List.length_append, List.length_cons, List.length_nil]; omega)) rfl ?_
                  refine XA_det 11 rfl (by kernel_rfl) (by kernel_rfl) (by kernel_rfl) (by kernel_rfl) (fun _ _ _ _ h => h) .no (D_scat rfl rfl (by simp only [List.length_append, List.length_cons, List.length_nil]; omega)) rfl ?_
                  refine XA_det 13 rfl (by kernel_rfl) (by kernel_rfl) (by kernel_rfl) (by kernel_rfl) (fun _ _ _ _ h => h) .no (D_scat rfl rfl (by simp only [List.length_append, List.length_cons, List.length_nil]; omega)) rfl ?_
                  refine XA_detp 14 rfl (by kernel_rfl) (by kernel_rfl) (by kernel_rfl) (fun _ _ _ _ h => h) .no (D_pureP rfl) rfl ?_
                  refine XA_done (by kernel_rfl) ?_
                  try simp only [List.cons_append, List.nil_append, List.append_nil]
                  refine joinQ_normal () ?_ ?_ ?_
                  · trivial
                  · refine ⟨by rw [lineD_t (okD_i h1 (by omega) (by omega) (by first | exact .inl (by assumption) | exact .inr (by assumption))), h4, h6]; rfl, ?_, trivial⟩ <;> rfl
                  · exact ⟨_, (by repeat first | with_reducible exact .nil _ | with_reducible exact .here _ _ | with_reducible exact Take.self _ | with_reducible apply Take.cons | with_reducible apply Out.there | with_reducible apply Take.skip | with_reducible exact Take.pre _ _ | with_reducible apply Out.app)⟩
              · try simp only [decide_eq_true_eq, decide_eq_false_iff_not, Bool.not_eq_true', Bool.not_eq_false', beq_iff_eq, bne_iff_ne, beq_eq_false_iff_ne, bne_eq_false_iff_eq, Int.not_lt, Int.not_le, gt_iff_lt, ge_iff_le, ne_eq] at h6
                refine X_skip ?_
                refine thenX_normal ?_
                refine X_draw _ mixed (Take.self _) ?_
                refine XA_detp 1 rfl (by kernel_rfl) (by kernel_rfl) (by kernel_rfl) (fun _ _ _ _ h => h) .no (D_fldP rfl fld_69_0 (o' := 0) rfl) rfl ?_
                refine XA_det 2 rfl (by kernel_rfl) (by kernel_rfl) (by kernel_rfl) (by kernel_rfl) (fun _ _ _ _ h => h) .no (D_ldo rfl (by repeat first | with_reducible exact .here _ _ | with_reducible apply Out.there | with_reducible apply Out.app) tk_67 (by rfl)) rfl ?_
                refine XA_det 3 rfl (by kernel_rfl) (by kernel_rfl) (by kernel_rfl) (by kernel_rfl) (fun _ _ _ _ h => h) .no (D_sub rfl rfl (by omega) (by omega)) rfl ?_
                refine XA_detp 7 rfl (by kernel_rfl) (by kernel_rfl) (by kernel_rfl) (fun _ _ _ _ h => h) .no (D_fldP rfl fld_69_1 (o' := 1) rfl) rfl ?_
                refine XA_det 8 rfl (by kernel_rfl) (by kernel_rfl) (by kernel_rfl) (by kernel_rfl) (fun _ _ _ _ h => h) .no (D_ldo rfl (by repeat first | with_reducible exact .here _ _ | with_reducible apply Out.there | with_reducible apply Out.app) tk_3 (by rfl)) rfl ?_
                refine XA_detp 12 rfl (by kernel_rfl) (by kernel_rfl) (by kernel_rfl) (fun _ _ _ _ h => h) .no (D_pureP rfl) rfl ?_
                refine XA_two 0 9 (by kernel_rfl) ?_ ?_
                · skip
                  refine XO_bslice (cs := names5) rfl .no rfl slt_71 (by decide) (by decide) (by rfl) (by rfl) rfl rfl (fun bd32 => ?_)
                  refine XA_det 4 rfl (by kernel_rfl) (by kernel_rfl) (by kernel_rfl) (by kernel_rfl) (fun _ _ _ _ h => h) .no (D_idxS (n := 5) (j := (t.kind - 1).toNat) rfl rfl slc_71 (by omega) (by omega) rfl) rfl ?_
                  refine XA_two 5 9 (by kernel_rfl) ?_ ?_
                  · skip
                    refine XO_det rfl .no (by repeat first | with_reducible exact .nil _ | with_reducible apply App.cons) (D_ld (ad := ⟨bd32, 0, none⟩) (k := (t.kind - 1).toNat * 1) rfl (by repeat first | with_reducible exact .here _ _ | with_reducible apply Out.there | with_reducible apply Out.app) Rd_obj tk_9 (names5_get (by omega) (by omega))) rfl ?_
                    refine XA_det 6 rfl (by kernel_rfl) (by kernel_rfl) (by kernel_rfl) (by kernel_rfl) (fun _ _ _ _ h => h) .no (D_scat rfl rfl (by simp only [List.length_append, List.length_cons, List.length_nil]; omega)) rfl ?_
                    refine XA_one 9 (by kernel_rfl) ?_
                    refine XO_callv rfl .no en_16 rfl (rtext t.pl) rfl ?_
                    refine XA_det 10 rfl (by kernel_rfl) (by kernel_rfl) (by kernel_rfl) (by kernel_rfl) (fun _ _ _ _ h => h) .no (D_scat rfl rfl (by simp only [List.length_append, List.length_cons, List.length_nil]; omega)) rfl ?_
                    refine XA_det 11 rfl (by kernel_rfl) (by kernel_rfl) (by kernel_rfl) (by kernel_rfl) (fun _ _ _ _ h => h) .no (D_scat rfl rfl (by simp only [List.length_append, List.length_cons, List.length_nil]; omega)) rfl ?_
                    refine XA_det 13 rfl (by kernel_rfl) (by kernel_rfl) (by kernel_rfl) (by kernel_rfl) (fun _ _ _ _ h => h) .no (D_scat rfl rfl (by simp only [List.length_append, List.length_cons, List.length_nil]; omega)) rfl ?_
                    refine XA_detp 14 rfl (by kernel_rfl) (by kernel_rfl) (by kernel_rfl) (fun _ _ _ _ h => h) .no (D_pureP rfl) rfl ?_
                    refine XA_done (by kernel_rfl) ?_
                    try simp only [List.cons_append, List.nil_append, List.append_nil]
                    refine joinQ_normal () ?_ ?_ ?_
                    · trivial
                    · refine ⟨by rw [lineD_t (okD_i h1 (by omega) (by omega) (by first | exact .inl (by assumption) | exact .inr (by assumption))), h4, h6]; rfl, ?_, trivial⟩ <;> rfl
                    · exact ⟨_, (by repeat first | with_reducible exact .nil _ | with_reducible exact .here _ _ | with_reducible exact Take.self _ | with_reducible apply Take.cons | with_reducible apply Out.there | with_reducible apply Take.skip | with_reducible exact Take.pre _ _ | with_reducible apply Out.app)⟩
                  · skip
                    refine XO_callv rfl .no en_16 rfl (rtext t.pl) rfl ?_
                    refine XA_one 5 (by kernel_rfl) ?_
                    refine XO_det rfl .no (by repeat first | with_reducible exact .nil _ | with_reducible apply App.cons) (D_ld (ad := ⟨bd32, 0, none⟩) (k := (t.kind - 1).toNat * 1) rfl (by repeat first | with_reducible exact .here _ _ | with_reducible apply Out.there | with_reducible apply Out.app) Rd_obj tk_9 (names5_get (by omega) (by omega))) rfl ?_
                    refine XA_det 6 rfl (by kernel_rfl) (by kernel_rfl) (by kernel_rfl) (by kernel_rfl) (fun _ _ _ _ h => h) .no (D_scat rfl rfl (by simp only [List.length_append, List.length_cons, List.length_nil]; omega)) rfl ?_
                    refine XA_det 10 rfl (by kernel_rfl) (by kernel_rfl) (by kernel_rfl) (by kernel_rfl) (fun _ _ _ _ h => h) .no (D_scat rfl rfl (by simp only [List.length_append, List.length_cons, List.length_nil]; omega)) rfl ?_
                    refine XA_det 11 rfl (by kernel_rfl) (by kernel_rfl) (by kernel_rfl) (by kernel_rfl) (fun _ _ _ _ h => h) .no (D_scat rfl rfl (by simp only [List.length_append, List.length_cons, List.length_nil]; omega)) rfl ?_
                    refine XA_det 13 rfl (by kernel_rfl) (by kernel_rfl) (by kernel_rfl) (by kernel_rfl) (fun _ _ _ _ h => h) .no (D_scat rfl rfl (by simp only [List.length_append, List.length_cons, List.length_nil]; omega)) rfl ?_
                    refine XA_detp 14 rfl (by kernel_rfl) (by kernel_rfl) (by kernel_rfl) (fun _ _ _ _ h => h) .no (D_pureP rfl) rfl ?_
                    refine XA_done (by kernel_rfl) ?_
                    try simp only [List.cons_append, List.nil_append, List.append_nil]
                    refine joinQ_normal () ?_ ?_ ?_
                    · trivial
                    · refine ⟨by rw [lineD_t (okD_i h1 (by omega) (by omega) (by first | exact .inl (by assumption) | exact .inr (by assumption))), h4, h6]; rfl, ?_, trivial⟩ <;> rfl
                    · exact ⟨_, (by repeat first | with_reducible exact .nil _ | with_reducible exact .here _ _ | with_reducible exact Take.self _ | with_reducible apply Take.cons | with_reducible apply Out.there | with_reducible apply Take.skip | with_reducible exact Take.pre _ _ | with_reducible apply Out.app)⟩
                · skip
                  refine XO_callv rfl .no en_16 rfl (rtext t.pl) rfl ?_
                  refine XA_one 0 (by kernel_rfl) ?_
                  refine XO_bslice (cs := names5) rfl .no rfl slt_71 (by decide) (by decide) (by rfl) (by rfl) rfl rfl (fun bd32 => ?_)
                  refine XA_det 4 rfl (by kernel_rfl) (by kernel_rfl) (by kernel_rfl) (by kernel_rfl) (fun _ _ _ _ h => h) .no (D_idxS (n := 5) (j := (t.kind - 1).toNat) rfl rfl slc_71 (by omega) (by omega) rfl) rfl ?_
                  refine XA_one 5 (by kernel_rfl) ?_
                  refine XO_det rfl .no (by repeat first | with_reducible exact .nil _ | with_reducible apply App.cons) (D_ld (ad := ⟨bd32, 0, none⟩) (k := (t.kind - 1).toNat * 1) rfl (by repeat first | with_reducible exact .here _ _ | with_reducible apply Out.there | with_reducible apply Out.app) Rd_obj tk_9 (names5_get (by omega) (by omega))) rfl ?_
                  refine XA_det 6 rfl (by kernel_rfl) (by kernel_rfl) (by kernel_rfl) (by kernel_rfl) (fun _ _ _ _ h => h) .no (D_scat rfl rfl (by simp only [List.length_append, List.length_cons, List.length_nil]; omega)) rfl ?_
                  refine XA_det 10 rfl (by kernel_rfl) (by kernel_rfl) (by kernel_rfl) (by kernel_rfl) (fun _ _ _ _ h => h) .no (D_scat rfl rfl (by simp only [List.length_append, List.length_cons, List.length_nil]; omega)) rfl ?_
                  refine XA_det 11 rfl (by kernel_rfl) (by kernel_rfl) (by kernel_rfl) (by kernel_rfl) (fun _ _ _ _ h => h) .no (D_scat rfl rfl (by simp only [List.length_append, List.length_cons, List.length_nil]; omega)) rfl ?_
                  refine XA_det 13 rfl (by kernel_rfl) (by kernel_rfl) (by kernel_rfl) (by kernel_rfl) (fun _ _ _ _ h => h) .no (D_scat rfl rfl (by simp only [List.length_append, List.length_cons, List.length_nil]; omega)) rfl ?_
                  refine XA_detp 14 rfl (by kernel_rfl) (by kernel_rfl) (by kernel_rfl) (fun _ _ _ _ h => h) .no (D_pureP rfl) rfl ?_
                  refine XA_done (by kernel_rfl) ?_
                  try simp only [List.cons_append, List.nil_append, List.append_nil]
                  refine joinQ_normal () ?_ ?_ ?_
                  · trivial
                  · refine ⟨by rw [lineD_t (okD_i h1 (by omega) (by omega) (by first | exact .inl (by assumption) | exact .inr (by assumption))), h4, h6]; rfl, ?_, trivial⟩ <;> rfl
                  · exact ⟨_, (by repeat first | with_reducible exact .nil _ | with_reducible exact .here _ _ | with_reducible exact Take.self _ | with_reducible apply Take.cons | with_reducible apply Out.there | with_reducible apply Take.skip | with_reducible exact Take.pre _ _ | with_reducible apply Out.app)⟩
          · try simp only [decide_eq_true_eq, decide_eq_false_iff_not, Bool.not_eq_true', Bool.not_eq_false', beq_iff_eq, bne_iff_ne, beq_eq_false_iff_ne, bne_eq_false_iff_eq, Int.not_lt, Int.not_le, gt_iff_lt, ge_iff_le, ne_eq] at h4
            have g1 := wordD_len t.kind
            have g2 := txt_len t.pl
            refine XL_det (.yes 21 rfl rfl rfl) (D_fld rfl fld_69_3 (o' := 3) rfl) rfl ?_
            refine XL_det (.yes 21 rfl rfl rfl) (D_ldo rfl (by repeat first | with_reducible exact .here _ _ | with_reducible apply Out.there | with_reducible apply Out.app) tk_4 (by rfl)) rfl ?_
            refine XL_det (.yes 18 rfl rfl rfl) (D_pure rfl) rfl ?_
            refine XL_det .no (D_pure rfl) rfl ?_
            refine XL_then ?_
            refine X_cond rfl (fun h7 => ?_) (fun h7 => ?_)
            · try simp only [decide_eq_true_eq, decide_eq_false_iff_not, Bool.not_eq_true', Bool.not_eq_false', beq_iff_eq, bne_iff_ne, beq_eq_false_iff_ne, bne_eq_false_iff_eq, Int.not_lt, Int.not_le, gt_iff_lt, ge_iff_le, ne_eq] at h7
              refine X_seq ?_
              refine X_region ?_
              refine XL_det .no (D_pure rfl) rfl ?_
              refine XL_then ?_
              refine X_seq ?_
              refine X_seq ?_
              refine X_region ?_
              refine XL_det .no (D_fld rfl fld_69_2 (o' := 2) rfl) rfl ?_
              refine XL_det .no (D_ldo rfl (by repeat first | with_reducible exact .here _ _ | with_reducible apply Out.there | with_reducible apply Out.app) tk_4 (by rfl)) rfl ?_
              refine XL_det .no (D_pure rfl) rfl ?_
              refine XL_then ?_
              refine X_cond rfl (fun h8 => ?_) (fun h8 => ?_)
              · try simp only [decide_eq_true_eq, decide_eq_false_iff_not, Bool.not_eq_true', Bool.not_eq_false', beq_iff_eq, bne_iff_ne, beq_eq_false_iff_ne, bne_eq_false_iff_eq, Int.not_lt, Int.not_le, gt_iff_lt, ge_iff_le, ne_eq] at h8
                refine X_region ?_
                refine XL_det .no (D_pure rfl) rfl ?_
                refine XL_then ?_
                refine X_seq ?_
                refine X_seq ?_
                refine X_region ?_
                refine XL_det .no (D_fld rfl fld_69_3 (o' := 3) rfl) rfl ?_
                refine XL_det .no (D_ldo rfl (by repeat first | with_reducible exact .here _ _ | with_reducible apply Out.there | with_reducible apply Out.app) tk_4 (by rfl)) rfl ?_
                refine XL_det .no (D_pure rfl) rfl ?_
                refine XL_then ?_
                refine X_cond rfl (fun h9 => ?_) (fun h9 => ?_)
                · try simp only [decide_eq_true_eq, decide_eq_false_iff_not, Bool.not_eq_true', Bool.not_eq_false', beq_iff_eq, bne_iff_ne, beq_eq_false_iff_ne, bne_eq_false_iff_eq, Int.not_lt, Int.not_le, gt_iff_lt, ge_iff_le, ne_eq] at h9
                  rw [h7] at h9; cases h9
                · try simp only [decide_eq_true_eq, decide_eq_false_iff_not, Bool.not_eq_true', Bool.not_eq_false', beq_iff_eq, bne_iff_ne, beq_eq_false_iff_ne, bne_eq_false_iff_eq, Int.not_lt, Int.not_le, gt_iff_lt, ge_iff_le, ne_eq] at h9
                  refine X_skip ?_
                  refine thenX_normal ?_
                  refine X_draw _ mixed (Take.self _) ?_
                  refine XA_detp 1 rfl (by kernel_rfl) (by kernel_rfl) (by kernel_rfl) (fun _ _ _ _ h => h) .no (D_fldP rfl fld_69_0 (o' := 0) rfl) rfl ?_
                  refine XA_det 2 rfl (by kernel_rfl) (by kernel_rfl) (by kernel_rfl) (by kernel_rfl) (fun _ _ _ _ h => h) .no (D_ldo rfl (by repeat first | with_reducible exact .here _ _ | with_reducible apply Out.there | with_reducible apply Out.app) tk_67 (by rfl)) rfl ?_
                  refine XA_det 3 rfl (by kernel_rfl) (by kernel_rfl) (by kernel_rfl) (by kernel_rfl) (fun _ _ _ _ h => h) .no (D_sub rfl rfl (by omega) (by omega)) rfl ?_
                  refine XA_detp 7 rfl (by kernel_rfl) (by kernel_rfl) (by kernel_rfl) (fun _ _ _ _ h => h) .no (D_fldP rfl fld_69_1 (o' := 1) rfl) rfl ?_
                  refine XA_det 8 rfl (by kernel_rfl) (by kernel_rfl) (by kernel_rfl) (by kernel_rfl) (fun _ _ _ _ h => h) .no (D_ldo rfl (by repeat first | with_reducible exact .here _ _ | with_reducible apply Out.there | with_reducible apply Out.app) tk_3 (by rfl)) rfl ?_
                  refine XA_detp 12 rfl (by kernel_rfl) (by kernel_rfl) (by kernel_rfl) (fun _ _ _ _ h => h) .no (D_pureP rfl) rfl ?_
                  refine XA_two 0 9 (by kernel_rfl) ?_ ?_
                  · skip
                    refine XO_bslice (cs := names5) rfl .no rfl slt_71 (by decide) (by decide) (by rfl) (by rfl) rfl rfl (fun bd32 => ?_)
                    refine XA_det 4 rfl (by kernel_rfl) (by kernel_rfl) (by kernel_rfl) (by kernel_rfl) (fun _ _ _ _ h => h) .no (D_idxS (n := 5) (j := (t.kind - 1).toNat) rfl rfl slc_71 (by omega) (by omega) rfl) rfl ?_
                    refine XA_two 5 9 (by kernel_rfl) ?_ ?_
                    · skip
                      refine XO_det rfl .no (by repeat first | with_reducible exact .nil _ | with_reducible apply App.cons) (D_ld (ad := ⟨bd32, 0, none⟩) (k := (t.kind - 1).toNat * 1) rfl (by repeat first | with_reducible exact .here _ _ | with_reducible apply Out.there | with_reducible apply Out.app) Rd_obj tk_9 (names5_get (by omega) (by omega))) rfl ?_
                      refine XA_det 6 rfl (by kernel_rfl) (by kernel_rfl) (by kernel_rfl) (by kernel_rfl) (fun _ _ _ _ h => h) .no (D_scat rfl rfl (by simp only [List.length_append, List.length_cons, List.length_nil]; omega)) rfl ?_
                      refine XA_one 9 (by kernel_rfl) ?_
                      refine XO_callv rfl .no en_16 rfl (rtext t.pl) rfl ?_
                      refine XA_det 10 rfl (by kernel_rfl) (by kernel_rfl) (by kernel_rfl) (by kernel_rfl) (fun _ _ _ _ h => h) .no (D_scat rfl rfl (by simp only [List.length_append, List.length_cons, List.length_nil]; omega)) rfl ?_
                      refine XA_det 11 rfl (by kernel_rfl) (by kernel_rfl) (by kernel_rfl) (by kernel_rfl) (fun _ _ _ _ h => h) .no (D_scat rfl rfl (by simp only [List.length_append, List.length_cons, List.length_nil]; omega)) rfl ?_
                      refine XA_det 13 rfl (by kernel_rfl) (by kernel_rfl) (by kernel_rfl) (by kernel_rfl) (fun _ _ _ _ h => h) .no (D_scat rfl rfl (by simp only [List.length_append, List.length_cons, List.length_nil]; omega)) rfl ?_
                      refine XA_detp 14 rfl (by kernel_rfl) (by kernel_rfl) (by kernel_rfl) (fun _ _ _ _ h => h) .no (D_pureP rfl) rfl ?_
                      refine XA_done (by kernel_rfl) ?_
                      try simp only [List.cons_append, List.nil_append, List.append_nil]
                      refine joinQ_normal () ?_ ?_ ?_
                      · trivial
                      · refine ⟨by rw [lineD_t (okD_i h1 (by omega) (by omega) (by first | exact .inl (by assumption) | exact .inr (by assumption))), h4, h9]; rfl, ?_, trivial⟩ <;> rfl
                      · exact ⟨_, (by repeat first | with_reducible exact .nil _ | with_reducible exact .here _ _ | with_reducible exact Take.self _ | with_reducible apply Take.cons | with_reducible apply Out.there | with_reducible apply Take.skip | with_reducible exact Take.pre _ _ | with_reducible apply Out.app)⟩
                    · skip
                      refine XO_callv rfl .no en_16 rfl (rtext t.pl) rfl ?_
                      refine XA_one 5 (by kernel_rfl) ?_
                      refine XO_det rfl .no (by repeat first | with_reducible exact .nil _ | with_reducible apply App.cons) (D_ld (ad := ⟨bd32, 0, none⟩) (k := (t.kind - 1).toNat * 1) rfl (by repeat first | with_reducible exact .here _ _ | with_reducible apply Out.there | with_reducible apply Out.app) Rd_obj tk_9 (names5_get (by omega) (by omega))) rfl ?_
                      refine XA_det 6 rfl (by kernel_rfl) (by kernel_rfl) (by kernel_rfl) (by kernel_rfl) (fun _ _ _ _ h => h) .no (D_scat rfl rfl (by simp only [List.length_append, List.length_cons, List.length_nil]; omega)) rfl ?_
                      refine XA_det 10 rfl (by kernel_rfl) (by kernel_rfl) (by kernel_rfl) (by kernel_rfl) (fun _ _ _ _ h => h) .no (D_scat rfl rfl (by simp only [List.length_append, List.length_cons, List.length_nil]; omega)) rfl ?_
                      refine XA_det 11 rfl (by kernel_rfl) (by kernel_rfl) (by kernel_rfl) (by kernel_rfl) (fun _ _ _ _ h => h) .no (D_scat rfl rfl (by simp only [List.length_append, List.length_cons, List.length_nil]; omega)) rfl ?_
                      refine XA_det 13 rfl (by kernel_rfl) (by kernel_rfl) (by kernel_rfl) (by kernel_rfl) (fun _ _ _ _ h => h) .no (D_scat rfl rfl (by simp only [List.length_append, List.length_cons, List.length_nil]; omega)) rfl ?_
                      refine XA_detp 14 rfl (by kernel_rfl) (by kernel_rfl) (by kernel_rfl) (fun _ _ _ _ h => h) .no (D_pureP rfl) rfl ?_
                      refine XA_done (by kernel_rfl) ?_
                      try simp only [List.cons_append, List.nil_append, List.append_nil]
                      refine joinQ_normal () ?_ ?_ ?_
                      · trivial
                      · refine ⟨by rw [lineD_t (okD_i h1 (by omega) (by omega) (by first | exact .inl (by assumption) | exact .inr (by assumption))), h4, h9]; rfl, ?_, trivial⟩ <;> rfl
                      · exact ⟨_, (by repeat first | with_reducible exact .nil _ | with_reducible exact .here _ _ | with_reducible exact Take.self _ | with_reducible apply Take.cons | with_reducible apply Out.there | with_reducible apply Take.skip | with_reducible exact Take.pre _ _ | with_reducible apply Out.app)⟩
                  · skip
                    refine XO_callv rfl .no en_16 rfl (rtext t.pl) rfl ?_
                    refine XA_one 0 (by kernel_rfl) ?_
                    refine XO_bslice (cs := names5) rfl .no rfl slt_71 (by decide) (by decide) (by rfl) (by rfl) rfl rfl (fun bd32 => ?_)
                    refine XA_det 4 rfl (by kernel_rfl) (by kernel_rfl) (by kernel_rfl) (by kernel_rfl) (fun _ _ _ _ h => h) .no (D_idxS (n := 5) (j := (t.kind - 1).toNat) rfl rfl slc_71 (by omega) (by omega) rfl) rfl ?_
                    refine XA_one 5 (by kernel_rfl) ?_
                    refine XO_det rfl .no (by repeat first | with_reducible exact .nil _ | with_reducible apply App.cons) (D_ld (ad := ⟨bd32, 0, none⟩) (k := (t.kind - 1).toNat * 1) rfl (by repeat first | with_reducible exact .here _ _ | with_reducible apply Out.there | with_reducible apply Out.app) Rd_obj tk_9 (names5_get (by omega) (by omega))) rfl ?_
                    refine XA_det 6 rfl (by kernel_rfl) (by kernel_rfl) (by kernel_rfl) (by kernel_rfl) (fun _ _ _ _ h => h) .no (D_scat rfl rfl (by simp only [List.length_append, List.length_cons, List.length_nil]; omega)) rfl ?_
                    refine XA_det 10 rfl (by kernel_rfl) (by kernel_rfl) (by kernel_rfl) (by kernel_rfl) (fun _ _ _ _ h => h) .no (D_scat rfl rfl (by simp only [List.length_append, List.length_cons, List.length_nil]; omega)) rfl ?_
                    refine XA_det 11 rfl (by kernel_rfl) (by kernel_rfl) (by kernel_rfl) (by kernel_rfl) (fun _ _ _ _ h => h) .no (D_scat rfl rfl (by simp only [List.length_append, List.length_cons, List.length_nil]; omega)) rfl ?_
                    refine XA_det 13 rfl (by kernel_rfl) (by kernel_rfl) (by kernel_rfl) (by kernel_rfl) (fun _ _ _ _ h => h) .no (D_scat rfl rfl (by simp only [List.length_append, List.length_cons, List.length_nil]; omega)) rfl ?_
                    refine XA_detp 14 rfl (by kernel_rfl) (by kernel_rfl) (by kernel_rfl) (fun _ _ _ _ h => h) .no (D_pureP rfl) rfl ?_
                    refine XA_done (by kernel_rfl) ?_
                    try simp only [List.cons_append, List.nil_append, List.append_nil]
                    refine joinQ_normal () ?_ ?_ ?_
                    · trivial
                    · refine ⟨by rw [lineD_t (okD_i h1 (by omega) (by omega) (by first | exact .inl (by assumption) | exact .inr (by assumption))), h4, h9]; rfl, ?_, trivial⟩ <;> rfl
                    · exact ⟨_, (by repeat first | with_reducible exact .nil _ | with_reducible exact .here _ _ | with_reducible exact Take.self _ | with_reducible apply Take.cons | with_reducible apply Out.there | with_reducible apply Take.skip | with_reducible exact Take.pre _ _ | with_reducible apply Out.app)⟩
              · try simp only [decide_eq_true_eq, decide_eq_false_iff_not, Bool.not_eq_true', Bool.not_eq_false', beq_iff_eq, bne_iff_ne, beq_eq_false_iff_ne, bne_eq_false_iff_eq, Int.not_lt, Int.not_le, gt_iff_lt, ge_iff_le, ne_eq] at h8
                rw [h4] at h8; cases h8
            · try simp only [decide_eq_true_eq, decide_eq_false_iff_not, Bool.not_eq_true', Bool.not_eq_false', beq_iff_eq, bne_iff_ne, beq_eq_false_iff_ne, bne_eq_false_iff_eq, Int.not_lt, Int.not_le, gt_iff_lt, ge_iff_le, ne_eq] at h7
              refine X_skip ?_
              refine joinQ_normal () ?_ ?_ ?_
              · trivial
              · refine ⟨by rw [lineD_f (okD_3 h4 h7)]; rfl, ?_, trivial⟩ <;> rfl
              · exact ⟨_, (by repeat first | with_reducible exact .nil _ | with_reducible exact .here _ _ | with_reducible exact Take.self _ | with_reducible apply Take.cons | with_reducible apply Out.there | with_reducible apply Take.skip | with_reducible exact Take.pre _ _ | with_reducible apply Out.app)⟩
        · try simp only [decide_eq_true_eq, decide_eq_false_iff_not, Bool.not_eq_true', Bool.not_eq_false', beq_iff_eq, bne_iff_ne, beq_eq_false_iff_ne, bne_eq_false_iff_eq, Int.not_lt, Int.not_le, gt_iff_lt, ge_iff_le, ne_eq] at h3
          refine XL_skip 18 rfl rfl rfl rfl rfl ?_
          refine XL_skip 18 rfl rfl rfl rfl rfl ?_
          refine XL_skip 18 rfl rfl rfl rfl rfl ?_
          refine XL_skipu 21 rfl rfl rfl rfl ?_
          refine XL_skipu 21 rfl rfl rfl rfl ?_
          refine XL_skip 18 rfl rfl rfl rfl rfl ?_
          refine XL_det .no (D_pure rfl) rfl ?_
          refine XL_then ?_
          refine X_cond_f rfl rfl ?_
          refine X_skip ?_
          refine joinQ_normal () ?_ ?_ ?_
          · trivial
          · refine ⟨by rw [lineD_f (okD_2 (by omega))]; rfl, ?_, trivial⟩ <;> rfl
          · exact ⟨_, (by repeat first | with_reducible exact .nil _ | with_reducible exact .here _ _ | with_reducible exact Take.self _ | with_reducible apply Take.cons | with_reducible apply Out.there | with_reducible apply Take.skip | with_reducible exact Take.pre _ _ | with_reducible apply Out.app)⟩
      · try simp only [decide_eq_true_eq, decide_eq_false_iff_not, Bool.not_eq_true', Bool.not_eq_false', beq_iff_eq, bne_iff_ne, beq_eq_false_iff_ne, bne_eq_false_iff_eq, Int.not_lt, Int.not_le, gt_iff_lt, ge_iff_le, ne_eq] at h2
        refine XL_skip 13 rfl rfl rfl rfl rfl ?_
        refine XL_skip 13 rfl rfl rfl rfl rfl ?_
        refine XL_skip 13 rfl rfl rfl rfl rfl ?_
        refine XL_det .no (D_pure rfl) rfl ?_
        refine XL_det .no (D_pure rfl) rfl ?_
        refine XL_skip 18 rfl rfl rfl rfl rfl ?_
        refine XL_skip 18 rfl rfl rfl rfl rfl ?_
        refine XL_skip 18 rfl rfl rfl rfl rfl ?_
        refine XL_skipu 21 rfl rfl rfl rfl ?_
        refine XL_skipu 21 rfl rfl rfl rfl ?_
        refine XL_skip 18 rfl rfl rfl rfl rfl ?_
        refine XL_det .no (D_pure rfl) rfl ?_
        refine XL_then ?_
        refine X_cond_f rfl rfl ?_
        refine X_skip ?_
        refine joinQ_normal () ?_ ?_ ?_
        · trivial
        · refine ⟨by rw [lineD_f (okD_k (by omega))]; rfl, ?_, trivial⟩ <;> rfl
        · exact ⟨_, (by repeat first | with_reducible exact .nil _ | with_reducible exact .here _ _ | with_reducible exact Take.self _ | with_reducible apply Take.cons | with_reducible apply Out.there | with_reducible apply Take.skip | with_reducible exact Take.pre _ _ | with_reducible apply Out.app)⟩
    · try simp only [decide_eq_true_eq, decide_eq_false_iff_not, Bool.not_eq_true', Bool.not_eq_false', beq_iff_eq, bne_iff_ne, beq_eq_false_iff_ne, bne_eq_false_iff_eq, Int.not_lt, Int.not_le, gt_iff_lt, ge_iff_le, ne_eq] at h1
      refine XL_skip 8 rfl rfl rfl rfl rfl ?_
      refine XL_skip 8 rfl rfl rfl rfl rfl ?_
      refine XL_skip 8 rfl rfl rfl rfl rfl ?_
      refine XL_det .no (D_pure rfl) rfl ?_
      refine XL_det .no (D_pure rfl) rfl ?_
      refine XL_skip 13 rfl rfl rfl rfl rfl ?_
      refine XL_skip 13 rfl rfl rfl rfl rfl ?_
      refine XL_skip 13 rfl rfl rfl rfl rfl ?_
      refine XL_det .no (D_pure rfl) rfl ?_
      refine XL_det .no (D_pure rfl) rfl ?_
      refine XL_skip 18 rfl rfl rfl rfl rfl ?_
      refine XL_skip 18 rfl rfl rfl rfl rfl ?_
      refine XL_skip 18 rfl rfl rfl rfl rfl ?_
      refine XL_skipu 21 rfl rfl rfl rfl ?_
      refine XL_skipu 21 rfl rfl rfl rfl ?_
      refine XL_skip 18 rfl rfl rfl rfl rfl ?_
      refine XL_det .no (D_pure rfl) rfl ?_
      refine XL_then ?_
      refine X_cond_f rfl rfl ?_
      refine X_skip ?_
      refine joinQ_normal () ?_ ?_ ?_
      · trivial
      · refine ⟨by rw [lineD_f (okD_k (by omega))]; rfl, ?_, trivial⟩ <;> rfl
      · exact ⟨_, (by repeat first | with_reducible exact .nil _ | with_reducible exact .here _ _ | with_reducible exact Take.self _ | with_reducible apply Take.cons | with_reducible apply Out.there | with_reducible apply Take.skip | with_reducible exact Take.pre _ _ | with_reducible apply Out.app)⟩
  · rintro _ _
    refine X_seq ?_
    refine X_region ?_
    refine XL_det .no (D_ldso (vs := encN t) rfl (by repeat first | with_reducible exact .here _ _ | with_reducible apply Out.there | with_reducible apply Out.app) tk_69 rfl (by rfl)) rfl ?_
    refine XL_callv .no en_32 rfl (dLine t) rfl ?_
    refine XL_det .no (D_pure rfl) rfl ?_
    refine XL_det .no (D_seq (q := true) rfl rfl (by show (_ == _) = true; exact beq_self_eq_true _)) rfl ?_
    refine XL_det .no (D_pure rfl) rfl ?_
    refine XL_callv (.yes 50 rfl rfl rfl) en_33 rfl (alive42) rfl ?_
    refine XL_det .no (D_pure rfl) rfl ?_
    refine XL_det .no (D_pure rfl) rfl ?_
    refine XL_then ?_
    refine X_ret ?_
    refine ret_ok (.nil _) (res_tmp rfl rfl) ?_
    exact ⟨_, ⟨rfl, rfl⟩, _, (by repeat first | with_reducible exact .nil _ | with_reducible exact .here _ _ | with_reducible exact Take.self _ | with_reducible apply Take.cons | with_reducible apply Out.there | with_reducible apply Take.skip | with_reducible exact Take.pre _ _ | with_reducible apply Out.app)⟩

end Go.Proofs.Ytjcpggoodbkedaa
end

section
namespace Go.Proofs.Ytjcpggoodbkedaa
open Go Go.Sl
set_option linter.unusedVariables false
set_option linter.unusedSimpArgs false
set_option maxRecDepth 4000
variable {B : Nat} {K : Asrt B}
theorem tk_104 : tyK Try.prog 104 = some (true, 2) := by kernel_rfl
theorem zero_104 : zeroOf Try.prog 104 = some [.int .u32 0, .slice none 0 0] := by kernel_rfl

def greatB (x : Img) : Bool := decide (x.tasks.l.length > 40) || decide (x.modes.l.length > 20) || decide (x.edges.l.length > 60) || x.modes.l.any fun m => decide (m.q.l.length > 20)
theorem great_n {l : List Mode} {i : Nat} {m : Mode} (h : l[i]? = some m) (ht : (l.take i).any (fun m => decide (m.q.l.length > 20)) = false) (hm : ¬ m.q.l.length > 20) : (l.take (i + 1)).any (fun m => decide (m.q.l.length > 20)) = false := by
  rw [List.take_add_one, h, List.any_append, ht]
  simp; omega
theorem great_t {l : List Mode} {i : Nat} {m : Mode} (h : l[i]? = some m) (hm : m.q.l.length > 20) : l.any (fun m => decide (m.q.l.length > 20)) = true := by
  rw [List.any_eq_true]; exact ⟨m, List.mem_of_getElem? h, by simp; omega⟩
theorem great_small {x : Img} (h : greatB x = false) : x.tasks.l.length ≤ 40 ∧ x.modes.l.length ≤ 20 ∧ x.edges.l.length ≤ 60 := by
  unfold greatB at h
  simp only [Bool.or_eq_false_iff, decide_eq_false_iff_not] at h
  omega
theorem great_Small {x : Img} (h : greatB x = false) : Small x := by
  have := great_small h; exact ⟨by omega, by omega, by omega⟩
def mdEq (a b : List Mode) (i : Nat) : Bool := eqAt (fun x y => x.tasks == y.tasks) a b i && eqAt (fun x y => qSame x.q.l y.q.l) a b i
structure SameP (x y : Img) : Prop where
  res : x.res = y.res
  lt : x.tasks.l.length = y.tasks.l.length
  lm : x.modes.l.length = y.modes.l.length
  le : x.edges.l.length = y.edges.l.length
  tasks : ∀ j, j < x.tasks.l.length → eqAt fT x.tasks.l y.tasks.l j = true
  edges : ∀ j, j < x.edges.l.length → eqAt fE x.edges.l y.edges.l j = true
  modes : ∀ j, j < x.modes.l.length → mdEq x.modes.l y.modes.l j = true
open Classical in
noncomputable def sameI (x y : Img) : Bool := decide (SameP x y)
open Classical in
theorem sameI_t {x y : Img} (h : SameP x y) : sameI x y = true := decide_eq_true h
open Classical in
theorem sameI_f {x y : Img} (h : ¬ SameP x y) : sameI x y = false := decide_eq_false h
open Classical in
theorem sameI_iff {x y : Img} : sameI x y = true ↔ SameP x y := decide_eq_true_iff
theorem qSame_get {a b : List (Nat → Int)} (h : qSame a b = true) : a.length = b.length ∧ ∀ j, j < a.length → eqAt (fun x y => cellsEq (encQ x) (encQ y)) a b j = true := by
  unfold qSame at h
  rw [Bool.and_eq_true, decide_eq_true_eq, List.all_eq_true] at h
  exact ⟨h.1, fun j hj => h.2 j (List.mem_range.2 hj)⟩

theorem rgreat (x : Img) (hx : x.In K) : Ctr Try.prog B 29 [x.v] [K] (fun v S => v = .bool (greatB x) ∧ S = [K]) := by
  refine Ctr_of_X (N := 35) Try.func29 rfl (by simp) rfl ?_
  intro w0 D0
  refine X_seq ?_
  refine X_region ?_
  refine XL_box .no rfl rfl rfl (fun b1 => ?_)
  refine XL_det .no (D_pure rfl) rfl ?_
  refine XL_then ?_
  refine X_seq ?_
  refine X_seq ?_
  refine X_region ?_
  refine XL_det .no (D_fld rfl fld_62_1 (o' := 1) rfl) rfl ?_
  refine XL_det .no (D_ldo rfl (by repeat first | with_reducible exact .here _ _ | with_reducible apply Out.there | with_reducible apply Out.app) tk_58 (by rfl)) rfl ?_
  refine XL_det .no (D_len rfl rfl slc_58) rfl ?_
  refine XL_det .no (D_pure rfl) rfl ?_
  refine XL_det .no (D_pure rfl) rfl ?_
  refine XL_split (t := 8) rfl (fun h1 => ?_) (fun h1 => ?_)
  · try simp only [decide_eq_true_eq, decide_eq_false_iff_not, Bool.not_eq_true', Bool.not_eq_false', beq_iff_eq, bne_iff_ne, beq_eq_false_iff_ne, bne_eq_false_iff_eq, Int.not_lt, Int.not_le, gt_iff_lt, ge_iff_le, ne_eq] at h1
    refine XL_skip 8 rfl rfl rfl rfl rfl ?_
    refine XL_skip 8 rfl rfl rfl rfl rfl ?_
    refine XL_skip 8 rfl rfl rfl rfl rfl ?_
    refine XL_skip 8 rfl rfl rfl rfl rfl ?_
    refine XL_det .no (D_pure rfl) rfl ?_
    refine XL_det .no (D_pure rfl) rfl ?_
    refine XL_skip 14 rfl rfl rfl rfl rfl ?_
    refine XL_skip 14 rfl rfl rfl rfl rfl ?_
    refine XL_skip 14 rfl rfl rfl rfl rfl ?_
    refine XL_skip 14 rfl rfl rfl rfl rfl ?_
    refine XL_det .no (D_pure rfl) rfl ?_
    refine XL_then ?_
    refine X_cond_t rfl rfl ?_
    refine X_seq ?_
    refine X_region ?_
    refine XL_det .no (D_pure rfl) rfl ?_
    refine XL_then ?_
    refine X_ret ?_
    refine thenX_ret ?_
    refine ret_ok (.nil _) (res_tmp rfl rfl) ?_
    exact ⟨_, ⟨by rw [greatB, decide_eq_true (show x.tasks.l.length > 40 by omega)]; rfl, rfl⟩, _, (by repeat first | with_reducible exact .nil _ | with_reducible exact .here _ _ | with_reducible exact Take.self _ | with_reducible apply Take.cons | with_reducible apply Out.there | with_reducible apply Take.skip | with_reducible exact Take.pre _ _ | with_reducible apply Out.app)⟩
  · try simp only [decide_eq_true_eq, decide_eq_false_iff_not, Bool.not_eq_true', Bool.not_eq_false', beq_iff_eq, bne_iff_ne, beq_eq_false_iff_ne, bne_eq_false_iff_eq, Int.not_lt, Int.not_le, gt_iff_lt, ge_iff_le, ne_eq] at h1
    refine XL_det (.yes 8 rfl rfl rfl) (D_fld rfl fld_62_2 (o' := 2) rfl) rfl ?_
    refine XL_det (.yes 8 rfl rfl rfl) (D_ldo rfl (by repeat first | with_reducible exact .here _ _ | with_reducible apply Out.there | with_reducible apply Out.app) tk_59 (by rfl)) rfl ?_
    refine XL_det (.yes 8 rfl rfl rfl) (D_len rfl rfl slc_59) rfl ?_
    refine XL_det (.yes 8 rfl rfl rfl) (D_pure rfl) rfl ?_
    refine XL_det .no (D_pure rfl) rfl ?_
    refine XL_det .no (D_pure rfl) rfl ?_
    refine XL_split (t := 14) rfl (fun h2 => ?_) (fun h2 => ?_)
    · try simp only [decide_eq_true_eq, decide_eq_false_iff_not, Bool.not_eq_true', Bool.not_eq_false', beq_iff_eq, bne_iff_ne, beq_eq_false_iff_ne, bne_eq_false_iff_eq, Int.not_lt, Int.not_le, gt_iff_lt, ge_iff_le, ne_eq] at h2
      refine XL_skip 14 rfl rfl rfl rfl rfl ?_
      refine XL_skip 14 rfl rfl rfl rfl rfl ?_
      refine XL_skip 14 rfl rfl rfl rfl rfl ?_
      refine XL_skip 14 rfl rfl rfl rfl rfl ?_
      refine XL_det .no (D_pure rfl) rfl ?_
      refine XL_then ?_
      refine X_cond_t rfl rfl ?_
      refine X_seq ?_
      refine X_region ?_
      refine XL_det .no (D_pure rfl) rfl ?_
      refine XL_then ?_
      refine X_ret ?_
      refine thenX_ret ?_
      refine ret_ok (.nil _) (res_tmp rfl rfl) ?_
      exact ⟨_, ⟨by rw [greatB, decide_eq_true (show x.modes.l.length > 20 by omega)]; simp, rfl⟩, _, (by repeat first | with_reducible exact .nil _ | with_reducible exact .here _ _ | with_reducible exact Take.self _ | with_reducible apply Take.cons | with_reducible apply Out.there | with_reducible apply Take.skip | with_reducible exact Take.pre _ _ | with_reducible apply Out.app)⟩
    · try simp only [decide_eq_true_eq, decide_eq_false_iff_not, Bool.not_eq_true', Bool.not_eq_false', beq_iff_eq, bne_iff_ne, beq_eq_false_iff_ne, bne_eq_false_iff_eq, Int.not_lt, Int.not_le, gt_iff_lt, ge_iff_le, ne_eq] at h2
      refine XL_det (.yes 14 rfl rfl rfl) (D_fld rfl fld_62_3 (o' := 3) rfl) rfl ?_
      refine XL_det (.yes 14 rfl rfl rfl) (D_ldo rfl (by repeat first | with_reducible exact .here _ _ | with_reducible apply Out.there | with_reducible apply Out.app) tk_60 (by rfl)) rfl ?_
      refine XL_det (.yes 14 rfl rfl rfl) (D_len rfl rfl slc_60) rfl ?_
      refine XL_det (.yes 14 rfl rfl rfl) (D_pure rfl) rfl ?_
      refine XL_det .no (D_pure rfl) rfl ?_
      refine XL_then ?_
      refine X_cond rfl (fun h3 => ?_) (fun h3 => ?_)
      · try simp only [decide_eq_true_eq, decide_eq_false_iff_not, Bool.not_eq_true', Bool.not_eq_false', beq_iff_eq, bne_iff_ne, beq_eq_false_iff_ne, bne_eq_false_iff_eq, Int.not_lt, Int.not_le, gt_iff_lt, ge_iff_le, ne_eq] at h3
        refine X_seq ?_
        refine X_region ?_
        refine XL_det .no (D_pure rfl) rfl ?_
        refine XL_then ?_
        refine X_ret ?_
        refine thenX_ret ?_
        refine ret_ok (.nil _) (res_tmp rfl rfl) ?_
        exact ⟨_, ⟨by rw [greatB, decide_eq_true (show x.edges.l.length > 60 by omega)]; simp, rfl⟩, _, (by repeat first | with_reducible exact .nil _ | with_reducible exact .here _ _ | with_reducible exact Take.self _ | with_reducible apply Take.cons | with_reducible apply Out.there | with_reducible apply Take.skip | with_reducible exact Take.pre _ _ | with_reducible apply Out.app)⟩
      · try simp only [decide_eq_true_eq, decide_eq_false_iff_not, Bool.not_eq_true', Bool.not_eq_false', beq_iff_eq, bne_iff_ne, beq_eq_false_iff_ne, bne_eq_false_iff_eq, Int.not_lt, Int.not_le, gt_iff_lt, ge_iff_le, ne_eq] at h3
        refine X_skip ?_
        refine thenX_normal ?_
        refine X_seq ?_
        refine X_seq ?_
        refine X_region ?_
        refine XL_det .no (D_pure rfl) rfl ?_
        refine XL_then ?_
        refine X_block ?_
        refine X_loop (α := Nat) (fun i => i ≤ x.modes.l.length ∧ (x.modes.l.take i).any (fun m => decide (m.q.l.length > 20)) = false) (fun i => [(3, .int .i64 (i : Int)), (1, .pointer (some ⟨b1, 0, none⟩))]) (fun i => [blk b1 [.int .i64 x.res, .slice x.tasks.oad x.tasks.l.length x.tasks.c, .slice x.modes.oad x.modes.l.length x.modes.c, .slice x.edges.oad x.edges.l.length x.edges.c] 62, K]) (fun i => x.modes.l.length - i) 0 ?_ (by refine ⟨?_, ?_, trivial⟩ <;> rfl) (by repeat first | with_reducible exact .nil _ | with_reducible exact .here _ _ | with_reducible exact Take.self _ | with_reducible apply Take.cons | with_reducible apply Out.there | with_reducible apply Take.skip | with_reducible exact Take.pre _ _ | with_reducible apply Out.app) ?_
        · exact ⟨Nat.zero_le _, rfl⟩
        · rintro i ⟨hi, hq⟩
          have hsm := x.modes.small
          refine X_seq ?_
          refine X_seq ?_
          refine X_region ?_
          refine XL_det .no (D_pure rfl) rfl ?_
          refine XL_det .no (D_fld rfl fld_62_2 (o' := 2) rfl) rfl ?_
          refine XL_det .no (D_ldo rfl (by repeat first | with_reducible exact .here _ _ | with_reducible apply Out.there | with_reducible apply Out.app) tk_59 (by rfl)) rfl ?_
          refine XL_det .no (D_len rfl rfl slc_59) rfl ?_
          refine XL_det .no (D_pure rfl) rfl ?_
          refine XL_then ?_
          refine X_cond rfl (fun h4 => ?_) (fun h4 => ?_)
          · try simp only [decide_eq_true_eq, decide_eq_false_iff_not, Bool.not_eq_true', Bool.not_eq_false', beq_iff_eq, bne_iff_ne, beq_eq_false_iff_ne, bne_eq_false_iff_eq, Int.not_lt, Int.not_le, gt_iff_lt, ge_iff_le, ne_eq] at h4
            obtain ⟨m, hm⟩ : ∃ m, x.modes.l[i]? = some m := ⟨_, List.getElem?_eq_getElem (by omega)⟩
            refine X_skip ?_
            refine thenX_normal ?_
            refine X_seq ?_
            refine X_block ?_
            refine X_seq ?_
            refine X_region ?_
            refine XL_det .no (D_fld rfl fld_62_2 (o' := 2) rfl) rfl ?_
            refine XL_det .no (D_ldo rfl (by repeat first | with_reducible exact .here _ _ | with_reducible apply Out.there | with_reducible apply Out.app) tk_59 (by rfl)) rfl ?_
            refine XL_det .no (D_pure rfl) rfl ?_
            refine XL_det .no (D_idxSo rfl rfl slc_59 (x.modes).nil0 rfl (by omega) rfl) rfl ?_
            refine XL_det .no (D_fldA rfl fld_104_1 rfl) rfl ?_
            refine XL_det .no (D_ela (enc := encM) (sz := 2) (i := i) (k := 1) (fun _ => rfl) rfl (by repeat first | with_reducible exact .here _ _ | with_reducible apply Out.there | with_reducible apply Out.app) hx.modes tk_102 hm rfl) rfl ?_
            refine XL_det .no (D_len rfl rfl slc_102) rfl ?_
            refine XL_det .no (D_pure rfl) rfl ?_
            refine XL_then ?_
            refine X_cond rfl (fun h5 => ?_) (fun h5 => ?_)
            · try simp only [decide_eq_true_eq, decide_eq_false_iff_not, Bool.not_eq_true', Bool.not_eq_false', beq_iff_eq, bne_iff_ne, beq_eq_false_iff_ne, bne_eq_false_iff_eq, Int.not_lt, Int.not_le, gt_iff_lt, ge_iff_le, ne_eq] at h5
              refine X_seq ?_
              refine X_region ?_
              refine XL_det .no (D_pure rfl) rfl ?_
              refine XL_then ?_
              refine X_ret ?_
              refine inBlk_ret ?_
              refine thenX_ret ?_
              refine loopQ_ret ?_
              refine inBlk_ret ?_
              refine thenX_ret ?_
              refine ret_ok (.nil _) (res_tmp rfl rfl) ?_
              exact ⟨_, ⟨by rw [greatB, great_t hm (by omega)]; simp, rfl⟩, _, (by repeat first | with_reducible exact .nil _ | with_reducible exact .here _ _ | with_reducible exact Take.self _ | with_reducible apply Take.cons | with_reducible apply Out.there | with_reducible apply Take.skip | with_reducible exact Take.pre _ _ | with_reducible apply Out.app)⟩
            · try simp only [decide_eq_true_eq, decide_eq_false_iff_not, Bool.not_eq_true', Bool.not_eq_false', beq_iff_eq, bne_iff_ne, beq_eq_false_iff_ne, bne_eq_false_iff_eq, Int.not_lt, Int.not_le, gt_iff_lt, ge_iff_le, ne_eq] at h5
              refine X_skip ?_
              refine inBlk_normal ?_
              refine thenX_normal ?_
              refine X_region ?_
              refine XL_det .no (D_pure rfl) rfl ?_
              refine XL_det .no (D_add rfl rfl (by omega) (by omega)) rfl ?_
              refine XL_det .no (D_pure rfl) rfl ?_
              refine XL_nil ?_
              refine loopQ_next (i + 1) ?_ ?_ ?_ ?_
              · exact ⟨by omega, great_n hm hq (by omega)⟩
              · omega
              · refine ⟨?_, ?_, trivial⟩ <;> rfl
              · exact ⟨_, (by repeat first | with_reducible exact .nil _ | with_reducible exact .here _ _ | with_reducible exact Take.self _ | with_reducible apply Take.cons | with_reducible apply Out.there | with_reducible apply Take.skip | with_reducible exact Take.pre _ _ | with_reducible apply Out.app)⟩
          · try simp only [decide_eq_true_eq, decide_eq_false_iff_not, Bool.not_eq_true', Bool.not_eq_false', beq_iff_eq, bne_iff_ne, beq_eq_false_iff_ne, bne_eq_false_iff_eq, Int.not_lt, Int.not_le, gt_iff_lt, ge_iff_le, ne_eq] at h4
            refine X_exit ?_
            refine thenX_exit ?_
            refine loopQ_exit ?_
            refine inBlk_here ?_
            refine thenX_normal ?_
            refine X_seq ?_
            refine X_region ?_
            refine XL_det .no (D_pure rfl) rfl ?_
            refine XL_then ?_
            refine X_ret ?_
            refine ret_ok (.nil _) (res_tmp rfl rfl) ?_
            exact ⟨_, ⟨by rw [List.take_of_length_le (by omega)] at hq; rw [greatB, hq]; simp; omega, rfl⟩, _, (by repeat first | with_reducible exact .nil _ | with_reducible exact .here _ _ | with_reducible exact Take.self _ | with_reducible apply Take.cons | with_reducible apply Out.there | with_reducible apply Take.skip | with_reducible exact Take.pre _ _ | with_reducible apply Out.app)⟩

theorem rSame (x y : Img) (hx : x.In K) (hy : y.In K) : Ctr Try.prog B 31 [x.v, y.v] [K] (fun v S => v = .bool (sameI x y) ∧ S = [K]) := by
  refine Ctr_of_X (N := 128) Try.func31 rfl (by simp) rfl ?_
  intro w0 D0
  refine X_seq ?_
  refine X_region ?_
  refine XL_box .no rfl rfl rfl (fun b1 => ?_)
  refine XL_box .no rfl rfl rfl (fun b2 => ?_)
  refine XL_det .no (D_pure rfl) rfl ?_
  refine XL_then ?_
  refine X_seq ?_
  refine X_seq ?_
  refine X_region ?_
  refine XL_det .no (D_fld rfl fld_62_0 (o' := 0) rfl) rfl ?_
  refine XL_det .no (D_ldo rfl (by repeat first | with_reducible exact .here _ _ | with_reducible apply Out.there | with_reducible apply Out.app) tk_3 (by rfl)) rfl ?_
  refine XL_det .no (D_fld rfl fld_62_0 (o' := 0) rfl) rfl ?_
  refine XL_det .no (D_ldo rfl (by repeat first | with_reducible exact .here _ _ | with_reducible apply Out.there | with_reducible apply Out.app) tk_3 (by rfl)) rfl ?_
  refine XL_det .no (D_pure rfl) rfl ?_
  refine XL_det .no (D_pure rfl) rfl ?_
  refine XL_split (t := 16) rfl (fun h1 => ?_) (fun h1 => ?_)
  · try simp only [decide_eq_true_eq, decide_eq_false_iff_not, Bool.not_eq_true', Bool.not_eq_false', beq_iff_eq, bne_iff_ne, beq_eq_false_iff_ne, bne_eq_false_iff_eq, Int.not_lt, Int.not_le, gt_iff_lt, ge_iff_le, ne_eq] at h1
    refine XL_skip 16 rfl rfl rfl rfl rfl ?_
    refine XL_skip 16 rfl rfl rfl rfl rfl ?_
    refine XL_skip 16 rfl rfl rfl rfl rfl ?_
    refine XL_skip 16 rfl rfl rfl rfl rfl ?_
    refine XL_skip 16 rfl rfl rfl rfl rfl ?_
    refine XL_skip 16 rfl rfl rfl rfl rfl ?_
    refine XL_skip 16 rfl rfl rfl rfl rfl ?_
    refine XL_det .no (D_pure rfl) rfl ?_
    refine XL_det .no (D_pure rfl) rfl ?_
    refine XL_skip 25 rfl rfl rfl rfl rfl ?_
    refine XL_skip 25 rfl rfl rfl rfl rfl ?_
    refine XL_skip 25 rfl rfl rfl rfl rfl ?_
    refine XL_skip 25 rfl rfl rfl rfl rfl ?_
    refine XL_skip 25 rfl rfl rfl rfl rfl ?_
    refine XL_skip 25 rfl rfl rfl rfl rfl ?_
    refine XL_skip 25 rfl rfl rfl rfl rfl ?_
    refine XL_det .no (D_pure rfl) rfl ?_
    refine XL_det .no (D_pure rfl) rfl ?_
    refine XL_skip 34 rfl rfl rfl rfl rfl ?_
    refine XL_skip 34 rfl rfl rfl rfl rfl ?_
    refine XL_skip 34 rfl rfl rfl rfl rfl ?_
    refine XL_skip 34 rfl rfl rfl rfl rfl ?_
    refine XL_skip 34 rfl rfl rfl rfl rfl ?_
    refine XL_skip 34 rfl rfl rfl rfl rfl ?_
    refine XL_skip 34 rfl rfl rfl rfl rfl ?_
    refine XL_det .no (D_pure rfl) rfl ?_
    refine XL_then ?_
    refine X_cond_t rfl rfl ?_
    refine X_seq ?_
    refine X_region ?_
    refine XL_det .no (D_pure rfl) rfl ?_
    refine XL_then ?_
    refine X_ret ?_
    refine thenX_ret ?_
    refine ret_ok (.nil _) (res_tmp rfl rfl) ?_
    exact ⟨_, ⟨by rw [sameI_f (fun h => h1 h.res)], rfl⟩, _, (by repeat first | with_reducible exact .nil _ | with_reducible exact .here _ _ | with_reducible exact Take.self _ | with_reducible apply Take.cons | with_reducible apply Out.there | with_reducible apply Take.skip | with_reducible exact Take.pre _ _ | with_reducible apply Out.app)⟩
  · try simp only [decide_eq_true_eq, decide_eq_false_iff_not, Bool.not_eq_true', Bool.not_eq_false', beq_iff_eq, bne_iff_ne, beq_eq_false_iff_ne, bne_eq_false_iff_eq, Int.not_lt, Int.not_le, gt_iff_lt, ge_iff_le, ne_eq] at h1
    refine XL_det (.yes 16 rfl rfl rfl) (D_fld rfl fld_62_1 (o' := 1) rfl) rfl ?_
    refine XL_det (.yes 16 rfl rfl rfl) (D_ldo rfl (by repeat first | with_reducible exact .here _ _ | with_reducible apply Out.there | with_reducible apply Out.app) tk_58 (by rfl)) rfl ?_
    refine XL_det (.yes 16 rfl rfl rfl) (D_len rfl rfl slc_58) rfl ?_
    refine XL_det (.yes 16 rfl rfl rfl) (D_fld rfl fld_62_1 (o' := 1) rfl) rfl ?_
    refine XL_det (.yes 16 rfl rfl rfl) (D_ldo rfl (by repeat first | with_reducible exact .here _ _ | with_reducible apply Out.there | with_reducible apply Out.app) tk_58 (by rfl)) rfl ?_
    refine XL_det (.yes 16 rfl rfl rfl) (D_len rfl rfl slc_58) rfl ?_
    refine XL_det (.yes 16 rfl rfl rfl) (D_pure rfl) rfl ?_
    refine XL_det .no (D_pure rfl) rfl ?_
    refine XL_det .no (D_pure rfl) rfl ?_
    refine XL_split (t := 25) rfl (fun h2 => ?_) (fun h2 => ?_)
    · try simp only [decide_eq_true_eq, decide_eq_false_iff_not, Bool.not_eq_true', Bool.not_eq_false', beq_iff_eq, bne_iff_ne, beq_eq_false_iff_ne, bne_eq_false_iff_eq, Int.not_lt, Int.not_le, gt_iff_lt, ge_iff_le, ne_eq] at h2
      refine XL_skip 25 rfl rfl rfl rfl rfl ?_
      refine XL_skip 25 rfl rfl rfl rfl rfl ?_
      refine XL_skip 25 rfl rfl rfl rfl rfl ?_
      refine XL_skip 25 rfl rfl rfl rfl rfl ?_
      refine XL_skip 25 rfl rfl rfl rfl rfl ?_
      refine XL_skip 25 rfl rfl rfl rfl rfl ?_
      refine XL_skip 25 rfl rfl rfl rfl rfl ?_
      refine XL_det .no (D_pure rfl) rfl ?_
      refine XL_det .no (D_pure rfl) rfl ?_
      refine XL_skip 34 rfl rfl rfl rfl rfl ?_
      refine XL_skip 34 rfl rfl rfl rfl rfl ?_
      refine XL_skip 34 rfl rfl rfl rfl rfl ?_
      refine XL_skip 34 rfl rfl rfl rfl rfl ?_
      refine XL_skip 34 rfl rfl rfl rfl rfl ?_
      refine XL_skip 34 rfl rfl rfl rfl rfl ?_
      refine XL_skip 34 rfl rfl rfl rfl rfl ?_
      refine XL_det .no (D_pure rfl) rfl ?_
      refine XL_then ?_
      refine X_cond_t rfl rfl ?_
      refine X_seq ?_
      refine X_region ?_
      refine XL_det .no (D_pure rfl) rfl ?_
      refine XL_then ?_
      refine X_ret ?_
      refine thenX_ret ?_
      refine ret_ok (.nil _) (res_tmp rfl rfl) ?_
      exact ⟨_, ⟨by rw [sameI_f (fun h => h2 (by rw [h.lt]))], rfl⟩, _, (by repeat first | with_reducible exact .nil _ | with_reducible exact .here _ _ | with_reducible exact Take.self _ | with_reducible apply Take.cons | with_reducible apply Out.there | with_reducible apply Take.skip | with_reducible exact Take.pre _ _ | with_reducible apply Out.app)⟩
    · try simp only [decide_eq_true_eq, decide_eq_false_iff_not, Bool.not_eq_true', Bool.not_eq_false', beq_iff_eq, bne_iff_ne, beq_eq_false_iff_ne, bne_eq_false_iff_eq, Int.not_lt, Int.not_le, gt_iff_lt, ge_iff_le, ne_eq] at h2
      refine XL_det (.yes 25 rfl rfl rfl) (D_fld rfl fld_62_2 (o' := 2) rfl) rfl ?_
      refine XL_det (.yes 25 rfl rfl rfl) (D_ldo rfl (by repeat first | with_reducible exact .here _ _ | with_reducible apply Out.there | with_reducible apply Out.app) tk_59 (by rfl)) rfl ?_
      refine XL_det (.yes 25 rfl rfl rfl) (D_len rfl rfl slc_59) rfl ?_
      refine XL_det (.yes 25 rfl rfl rfl) (D_fld rfl fld_62_2 (o' := 2) rfl) rfl ?_
      refine XL_det (.yes 25 rfl rfl rfl) (D_ldo rfl (by repeat first | with_reducible exact .here _ _ | with_reducible apply Out.there | with_reducible apply Out.app) tk_59 (by rfl)) rfl ?_
      refine XL_det (.yes 25 rfl rfl rfl) (D_len rfl rfl slc_59) rfl ?_
      refine XL_det (.yes 25 rfl rfl rfl) (D_pure rfl) rfl ?_
      refine XL_det .no (D_pure rfl) rfl ?_
      refine XL_det .no (D_pure rfl) rfl ?_
      refine XL_split (t := 34) rfl (fun h3 => ?_) (fun h3 => ?_)
      · try simp only [decide_eq_true_eq, decide_eq_false_iff_not, Bool.not_eq_true', Bool.not_eq_false', beq_iff_eq, bne_iff_ne, beq_eq_false_iff_ne, bne_eq_false_iff_eq, Int.not_lt, Int.not_le, gt_iff_lt, ge_iff_le, ne_eq] at h3
        refine XL_skip 34 rfl rfl rfl rfl rfl ?_
        refine XL_skip 34 rfl rfl rfl rfl rfl ?_
        refine XL_skip 34 rfl rfl rfl rfl rfl ?_
        refine XL_skip 34 rfl rfl rfl rfl rfl ?_
        refine XL_skip 34 rfl rfl rfl rfl rfl ?_
        refine XL_skip 34 rfl rfl rfl rfl rfl ?_
        refine XL_skip 34 rfl rfl rfl rfl rfl ?_
        refine XL_det .no (D_pure rfl) rfl ?_
        refine XL_then ?_
        refine X_cond_t rfl rfl ?_
        refine X_seq ?_
        refine X_region ?_
        refine XL_det .no (D_pure rfl) rfl ?_
        refine XL_then ?_
        refine X_ret ?_
        refine thenX_ret ?_
        refine ret_ok (.nil _) (res_tmp rfl rfl) ?_
        exact ⟨_, ⟨by rw [sameI_f (fun h => h3 (by rw [h.lm]))], rfl⟩, _, (by repeat first | with_reducible exact .nil _ | with_reducible exact .here _ _ | with_reducible exact Take.self _ | with_reducible apply Take.cons | with_reducible apply Out.there | with_reducible apply Take.skip | with_reducible exact Take.pre _ _ | with_reducible apply Out.app)⟩
      · try simp only [decide_eq_true_eq, decide_eq_false_iff_not, Bool.not_eq_true', Bool.not_eq_false', beq_iff_eq, bne_iff_ne, beq_eq_false_iff_ne, bne_eq_false_iff_eq, Int.not_lt, Int.not_le, gt_iff_lt, ge_iff_le, ne_eq] at h3
        refine XL_det (.yes 34 rfl rfl rfl) (D_fld rfl fld_62_3 (o' := 3) rfl) rfl ?_
        refine XL_det (.yes 34 rfl rfl rfl) (D_ldo rfl (by repeat first | with_reducible exact .here _ _ | with_reducible apply Out.there | with_reducible apply Out.app) tk_60 (by rfl)) rfl ?_
        refine XL_det (.yes 34 rfl rfl rfl) (D_len rfl rfl slc_60) rfl ?_
        refine XL_det (.yes 34 rfl rfl rfl) (D_fld rfl fld_62_3 (o' := 3) rfl) rfl ?_
        refine XL_det (.yes 34 rfl rfl rfl) (D_ldo rfl (by repeat first | with_reducible exact .here _ _ | with_reducible apply Out.there | with_reducible apply Out.app) tk_60 (by rfl)) rfl ?_
        refine XL_det (.yes 34 rfl rfl rfl) (D_len rfl rfl slc_60) rfl ?_
        refine XL_det (.yes 34 rfl rfl rfl) (D_pure rfl) rfl ?_
        refine XL_det .no (D_pure rfl) rfl ?_
        refine XL_then ?_
        refine X_cond rfl (fun h4 => ?_) (fun h4 => ?_)
        · try simp only [decide_eq_true_eq, decide_eq_false_iff_not, Bool.not_eq_true', Bool.not_eq_false', beq_iff_eq, bne_iff_ne, beq_eq_false_iff_ne, bne_eq_false_iff_eq, Int.not_lt, Int.not_le, gt_iff_lt, ge_iff_le, ne_eq] at h4
          refine X_seq ?_
          refine X_region ?_
          refine XL_det .no (D_pure rfl) rfl ?_
          refine XL_then ?_
          refine X_ret ?_
          refine thenX_ret ?_
          refine ret_ok (.nil _) (res_tmp rfl rfl) ?_
          exact ⟨_, ⟨by rw [sameI_f (fun h => h4 (by rw [h.le]))], rfl⟩, _, (by repeat first | with_reducible exact .nil _ | with_reducible exact .here _ _ | with_reducible exact Take.self _ | with_reducible apply Take.cons | with_reducible apply Out.there | with_reducible apply Take.skip | with_reducible exact Take.pre _ _ | with_reducible apply Out.app)⟩
        · try simp only [decide_eq_true_eq, decide_eq_false_iff_not, Bool.not_eq_true', Bool.not_eq_false', beq_iff_eq, bne_iff_ne, beq_eq_false_iff_ne, bne_eq_false_iff_eq, Int.not_lt, Int.not_le, gt_iff_lt, ge_iff_le, ne_eq] at h4
          refine X_skip ?_
          refine thenX_normal ?_
          refine X_seq ?_
          refine X_seq ?_
          refine X_region ?_
          refine XL_det .no (D_pure rfl) rfl ?_
          refine XL_then ?_
          refine X_block ?_
          refine X_loop (α := Nat) (fun i => i ≤ x.tasks.l.length ∧ ∀ j, j < i → eqAt fT x.tasks.l y.tasks.l j = true) (fun i => [(5, .int .i64 (i : Int)), (2, .pointer (some ⟨b1, 0, none⟩)), (3, .pointer (some ⟨b2, 0, none⟩))]) (fun i => [blk b1 [.int .i64 x.res, .slice x.tasks.oad x.tasks.l.length x.tasks.c, .slice x.modes.oad x.modes.l.length x.modes.c, .slice x.edges.oad x.edges.l.length x.edges.c] 62, blk b2 [.int .i64 y.res, .slice y.tasks.oad y.tasks.l.length y.tasks.c, .slice y.modes.oad y.modes.l.length y.modes.c, .slice y.edges.oad y.edges.l.length y.edges.c] 62, K]) (fun i => x.tasks.l.length - i) 0 ?_ (by refine ⟨?_, ?_, ?_, trivial⟩ <;> rfl) (by repeat first | with_reducible exact .nil _ | with_reducible exact .here _ _ | with_reducible exact Take.self _ | with_reducible apply Take.cons | with_reducible apply Out.there | with_reducible apply Take.skip | with_reducible exact Take.pre _ _ | with_reducible apply Out.app) ?_
          · exact ⟨Nat.zero_le _, fun j h => by omega⟩
          · rintro i ⟨hi, hT⟩
            have hsm := x.tasks.small
            refine X_seq ?_
            refine X_seq ?_
            refine X_region ?_
            refine XL_det .no (D_pure rfl) rfl ?_
            refine XL_det .no (D_fld rfl fld_62_1 (o' := 1) rfl) rfl ?_
            refine XL_det .no (D_ldo rfl (by repeat first | with_reducible exact .here _ _ | with_reducible apply Out.there | with_reducible apply Out.app) tk_58 (by rfl)) rfl ?_
            refine XL_det .no (D_len rfl rfl slc_58) rfl ?_
            refine XL_det .no (D_pure rfl) rfl ?_
            refine XL_then ?_
            refine X_cond rfl (fun h5 => ?_) (fun h5 => ?_)
            · try simp only [decide_eq_true_eq, decide_eq_false_iff_not, Bool.not_eq_true', Bool.not_eq_false', beq_iff_eq, bne_iff_ne, beq_eq_false_iff_ne, bne_eq_false_iff_eq, Int.not_lt, Int.not_le, gt_iff_lt, ge_iff_le, ne_eq] at h5
              obtain ⟨p, hgp⟩ : ∃ p, x.tasks.l[i]? = some p := ⟨_, List.getElem?_eq_getElem (by omega)⟩
              obtain ⟨q, hgq⟩ : ∃ q, y.tasks.l[i]? = some q := ⟨_, List.getElem?_eq_getElem (by omega)⟩
              refine X_skip ?_
              refine thenX_normal ?_
              refine X_seq ?_
              refine X_block ?_
              refine X_seq ?_
              refine X_draw _ mixed (Take.self _) ?_
              refine XA_detp 0 rfl (by kernel_rfl) (by kernel_rfl) (by kernel_rfl) (fun _ _ _ _ h => h) .no (D_fldP rfl fld_62_1 (o' := 1) rfl) rfl ?_
              refine XA_det 1 rfl (by kernel_rfl) (by kernel_rfl) (by kernel_rfl) (by kernel_rfl) (fun _ _ _ _ h => h) .no (D_ldo rfl (by repeat first | with_reducible exact .here _ _ | with_reducible apply Out.there | with_reducible apply Out.app) tk_58 (by rfl)) rfl ?_
              refine XA_detp 2 rfl (by kernel_rfl) (by kernel_rfl) (by kernel_rfl) (fun _ _ _ _ h => h) .no (D_pureP rfl) rfl ?_
              refine XA_detp 3 rfl (by kernel_rfl) (by kernel_rfl) (by kernel_rfl) (fun _ _ _ _ h => h) .no (D_idxSoP rfl rfl slc_58 (x.tasks).nil0 rfl (by omega) rfl) rfl ?_
              refine XA_det 4 rfl (by kernel_rfl) (by kernel_rfl) (by kernel_rfl) (by kernel_rfl) (fun _ _ _ _ h => h) .no (D_els (enc := encT) (sz := 11) (i := i) (fun _ => rfl) rfl (by repeat first | with_reducible exact .here _ _ | with_reducible apply Out.there | with_reducible apply Out.app) hx.tasks tk_75 hgp) rfl ?_
              refine XA_detp 5 rfl (by kernel_rfl) (by kernel_rfl) (by kernel_rfl) (fun _ _ _ _ h => h) .no (D_fldP rfl fld_62_1 (o' := 1) rfl) rfl ?_
              refine XA_det 6 rfl (by kernel_rfl) (by kernel_rfl) (by kernel_rfl) (by kernel_rfl) (fun _ _ _ _ h => h) .no (D_ldo rfl (by repeat first | with_reducible exact .here _ _ | with_reducible apply Out.there | with_reducible apply Out.app) tk_58 (by rfl)) rfl ?_
              refine XA_detp 7 rfl (by kernel_rfl) (by kernel_rfl) (by kernel_rfl) (fun _ _ _ _ h => h) .no (D_pureP rfl) rfl ?_
              refine XA_detp 8 rfl (by kernel_rfl) (by kernel_rfl) (by kernel_rfl) (fun _ _ _ _ h => h) .no (D_idxSoP rfl rfl slc_58 (y.tasks).nil0 rfl (by omega) rfl) rfl ?_
              refine XA_det 9 rfl (by kernel_rfl) (by kernel_rfl) (by kernel_rfl) (by kernel_rfl) (fun _ _ _ _ h => h) .no (D_els (enc := encT) (sz := 11) (i := i) (fun _ => rfl) rfl (by repeat first | with_reducible exact .here _ _ | with_reducible apply Out.there | with_reducible apply Out.app) hy.tasks tk_75 hgq) rfl ?_
              refine XA_det 10 rfl (by kernel_rfl) (by kernel_rfl) (by kernel_rfl) (by kernel_rfl) (fun _ _ _ _ h => h) .no (D_eqs (b := !cellsEq (encT p) (encT q)) rfl rfl eqk_75 eqg_75 rfl rfl rfl rfl) rfl ?_
              refine XA_done (by kernel_rfl) ?_
              try simp only [List.cons_append, List.nil_append, List.append_nil]
              refine thenX_normal ?_
              refine X_cond rfl (fun h6 => ?_) (fun h6 => ?_)
              · try simp only [decide_eq_true_eq, decide_eq_false_iff_not, Bool.not_eq_true', Bool.not_eq_false', beq_iff_eq, bne_iff_ne, beq_eq_false_iff_ne, bne_eq_false_iff_eq, Int.not_lt, Int.not_le, gt_iff_lt, ge_iff_le, ne_eq] at h6
                refine X_seq ?_
                refine X_region ?_
                refine XL_det .no (D_pure rfl) rfl ?_
                refine XL_then ?_
                refine X_ret ?_
                refine inBlk_ret ?_
                refine thenX_ret ?_
                refine loopQ_ret ?_
                refine inBlk_ret ?_
                refine thenX_ret ?_
                refine ret_ok (.nil _) (res_tmp rfl rfl) ?_
                exact ⟨_, ⟨by rw [sameI_f (fun h => absurd (h.tasks i (by omega)) (by rw [eqAt_in hgp hgq]; show ¬ cellsEq _ _ = true; simpa using h6))], rfl⟩, _, (by repeat first | with_reducible exact .nil _ | with_reducible exact .here _ _ | with_reducible exact Take.self _ | with_reducible apply Take.cons | with_reducible apply Out.there | with_reducible apply Take.skip | with_reducible exact Take.pre _ _ | with_reducible apply Out.app)⟩
              · try simp only [decide_eq_true_eq, decide_eq_false_iff_not, Bool.not_eq_true', Bool.not_eq_false', beq_iff_eq, bne_iff_ne, beq_eq_false_iff_ne, bne_eq_false_iff_eq, Int.not_lt, Int.not_le, gt_iff_lt, ge_iff_le, ne_eq] at h6
                refine X_skip ?_
                refine inBlk_normal ?_
                refine thenX_normal ?_
                refine X_region ?_
                refine XL_det .no (D_pure rfl) rfl ?_
                refine XL_det .no (D_add rfl rfl (by omega) (by omega)) rfl ?_
                refine XL_det .no (D_pure rfl) rfl ?_
                refine XL_nil ?_
                refine loopQ_next (i + 1) ?_ ?_ ?_ ?_
                · exact ⟨by omega, fun j hj => by rcases Nat.lt_succ_iff_lt_or_eq.1 hj with h | rfl; exact hT j h; rw [eqAt_in hgp hgq]; show cellsEq _ _ = true; simpa using h6⟩
                · omega
                · refine ⟨?_, ?_, ?_, trivial⟩ <;> rfl
                · exact ⟨_, (by repeat first | with_reducible exact .nil _ | with_reducible exact .here _ _ | with_reducible exact Take.self _ | with_reducible apply Take.cons | with_reducible apply Out.there | with_reducible apply Take.skip | with_reducible exact Take.pre _ _ | with_reducible apply Out.app)⟩
            · try simp only [decide_eq_true_eq, decide_eq_false_iff_not, Bool.not_eq_true', Bool.not_eq_false', beq_iff_eq, bne_iff_ne, beq_eq_false_iff_ne, bne_eq_false_iff_eq, Int.not_lt, Int.not_le, gt_iff_lt, ge_iff_le, ne_eq] at h5
              have hTa : ∀ j, j < x.tasks.l.length → eqAt fT x.tasks.l y.tasks.l j = true := fun j hj => hT j (by omega)
              refine X_exit ?_
              refine thenX_exit ?_
              refine loopQ_exit ?_
              refine inBlk_here ?_
              refine thenX_normal ?_
              refine X_seq ?_
              refine X_seq ?_
              refine X_region ?_
              refine XL_det .no (D_pure rfl) rfl ?_
              refine XL_then ?_
              refine X_block ?_
              refine X_loop (α := Nat) (fun i => i ≤ x.edges.l.length ∧ ∀ j, j < i → eqAt fE x.edges.l y.edges.l j = true) (fun i => [(6, .int .i64 (i : Int)), (2, .pointer (some ⟨b1, 0, none⟩)), (3, .pointer (some ⟨b2, 0, none⟩))]) (fun i => [blk b1 [.int .i64 x.res, .slice x.tasks.oad x.tasks.l.length x.tasks.c, .slice x.modes.oad x.modes.l.length x.modes.c, .slice x.edges.oad x.edges.l.length x.edges.c] 62, blk b2 [.int .i64 y.res, .slice y.tasks.oad y.tasks.l.length y.tasks.c, .slice y.modes.oad y.modes.l.length y.modes.c, .slice y.edges.oad y.edges.l.length y.edges.c] 62, K]) (fun i => x.edges.l.length - i) 0 ?_ (by refine ⟨?_, ?_, ?_, trivial⟩ <;> rfl) (by repeat first | with_reducible exact .nil _ | with_reducible exact .here _ _ | with_reducible exact Take.self _ | with_reducible apply Take.cons | with_reducible apply Out.there | with_reducible apply Take.skip | with_reducible exact Take.pre _ _ | with_reducible apply Out.app) ?_
              · exact ⟨Nat.zero_le _, fun j h => by omega⟩
              · rintro i ⟨hi, hE⟩
                have hsm := x.edges.small
                refine X_seq ?_
                refine X_seq ?_
                refine X_region ?_
                refine XL_det .no (D_pure rfl) rfl ?_
                refine XL_det .no (D_fld rfl fld_62_3 (o' := 3) rfl) rfl ?_
                refine XL_det .no (D_ldo rfl (by repeat first | with_reducible exact .here _ _ | with_reducible apply Out.there | with_reducible apply Out.app) tk_60 (by rfl)) rfl ?_
                refine XL_det .no (D_len rfl rfl slc_60) rfl ?_
                refine XL_det .no (D_pure rfl) rfl ?_
                refine XL_then ?_
                refine X_cond rfl (fun h7 => ?_) (fun h7 => ?_)
                · try simp only [decide_eq_true_eq, decide_eq_false_iff_not, Bool.not_eq_true', Bool.not_eq_false', beq_iff_eq, bne_iff_ne, beq_eq_false_iff_ne, bne_eq_false_iff_eq, Int.not_lt, Int.not_le, gt_iff_lt, ge_iff_le, ne_eq] at h7
                  obtain ⟨p, hgp⟩ : ∃ p, x.edges.l[i]? = some p := ⟨_, List.getElem?_eq_getElem (by omega)⟩
                  obtain ⟨q, hgq⟩ : ∃ q, y.edges.l[i]? = some q := ⟨_, List.getElem?_eq_getElem (by omega)⟩
                  refine X_skip ?_
                  refine thenX_normal ?_
                  refine X_seq ?_
                  refine X_block ?_
                  refine X_seq ?_
                  refine X_draw _ mixed (Take.self _) ?_
                  refine XA_detp 0 rfl (by kernel_rfl) (by kernel_rfl) (by kernel_rfl) (fun _ _ _ _ h => h) .no (D_fldP rfl fld_62_3 (o' := 3) rfl) rfl ?_
                  refine XA_det 1 rfl (by kernel_rfl) (by kernel_rfl) (by kernel_rfl) (by kernel_rfl) (fun _ _ _ _ h => h) .no (D_ldo rfl (by repeat first | with_reducible exact .here _ _ | with_reducible apply Out.there | with_reducible apply Out.app) tk_60 (by rfl)) rfl ?_
                  refine XA_detp 2 rfl (by kernel_rfl) (by kernel_rfl) (by kernel_rfl) (fun _ _ _ _ h => h) .no (D_pureP rfl) rfl ?_
                  refine XA_detp 3 rfl (by kernel_rfl) (by kernel_rfl) (by kernel_rfl) (fun _ _ _ _ h => h) .no (D_idxSoP rfl rfl slc_60 (x.edges).nil0 rfl (by omega) rfl) rfl ?_
                  refine XA_det 4 rfl (by kernel_rfl) (by kernel_rfl) (by kernel_rfl) (by kernel_rfl) (fun _ _ _ _ h => h) .no (D_els (enc := encE) (sz := 23) (i := i) (fun _ => rfl) rfl (by repeat first | with_reducible exact .here _ _ | with_reducible apply Out.there | with_reducible apply Out.app) hx.edges tk_113 hgp) rfl ?_
                  refine XA_detp 5 rfl (by kernel_rfl) (by kernel_rfl) (by kernel_rfl) (fun _ _ _ _ h => h) .no (D_fldP rfl fld_62_3 (o' := 3) rfl) rfl ?_
                  refine XA_det 6 rfl (by kernel_rfl) (by kernel_rfl) (by kernel_rfl) (by kernel_rfl) (fun _ _ _ _ h => h) .no (D_ldo rfl (by repeat first | with_reducible exact .here _ _ | with_reducible apply Out.there | with_reducible apply Out.app) tk_60 (by rfl)) rfl ?_
                  refine XA_detp 7 rfl (by kernel_rfl) (by kernel_rfl) (by kernel_rfl) (fun _ _ _ _ h => h) .no (D_pureP rfl) rfl ?_
                  refine XA_detp 8 rfl (by kernel_rfl) (by kernel_rfl) (by kernel_rfl) (fun _ _ _ _ h => h) .no (D_idxSoP rfl rfl slc_60 (y.edges).nil0 rfl (by omega) rfl) rfl ?_
                  refine XA_det 9 rfl (by kernel_rfl) (by kernel_rfl) (by kernel_rfl) (by kernel_rfl) (fun _ _ _ _ h => h) .no (D_els (enc := encE) (sz := 23) (i := i) (fun _ => rfl) rfl (by repeat first | with_reducible exact .here _ _ | with_reducible apply Out.there | with_reducible apply Out.app) hy.edges tk_113 hgq) rfl ?_
                  refine XA_det 10 rfl (by kernel_rfl) (by kernel_rfl) (by kernel_rfl) (by kernel_rfl) (fun _ _ _ _ h => h) .no (D_eqs (b := !cellsEq (encE p) (encE q)) rfl rfl eqk_113 eqg_113 rfl rfl rfl rfl) rfl ?_
                  refine XA_done (by kernel_rfl) ?_
                  try simp only [List.cons_append, List.nil_append, List.append_nil]
                  refine thenX_normal ?_
                  refine X_cond rfl (fun h8 => ?_) (fun h8 => ?_)
                  · try simp only [decide_eq_true_eq, decide_eq_false_iff_not, Bool.not_eq_true', Bool.not_eq_false', beq_iff_eq, bne_iff_ne, beq_eq_false_iff_ne, bne_eq_false_iff_eq, Int.not_lt, Int.not_le, gt_iff_lt, ge_iff_le, ne_eq] at h8
                    refine X_seq ?_
                    refine X_region ?_
                    refine XL_det .no (D_pure rfl) rfl ?_
                    refine XL_then ?_
                    refine X_ret ?_
                    refine inBlk_ret ?_
                    refine thenX_ret ?_
                    refine loopQ_ret ?_
                    refine inBlk_ret ?_
                    refine thenX_ret ?_
                    refine ret_ok (.nil _) (res_tmp rfl rfl) ?_
                    exact ⟨_, ⟨by rw [sameI_f (fun h => absurd (h.edges i (by omega)) (by rw [eqAt_in hgp hgq]; show ¬ cellsEq _ _ = true; simpa using h8))], rfl⟩, _, (by repeat first | with_reducible exact .nil _ | with_reducible exact .here _ _ | with_reducible exact Take.self _ | with_reducible apply Take.cons | with_reducible apply Out.there | with_reducible apply Take.skip | with_reducible exact Take.pre _ _ | with_reducible apply Out.app)⟩
                  · try simp only [decide_eq_true_eq, decide_eq_false_iff_not, Bool.not_eq_true', Bool.not_eq_false', beq_iff_eq, bne_iff_ne, beq_eq_false_iff_ne, bne_eq_false_iff_eq, Int.not_lt, Int.not_le, gt_iff_lt, ge_iff_le, ne_eq] at h8
                    refine X_skip ?_
                    refine inBlk_normal ?_
                    refine thenX_normal ?_
                    refine X_region ?_
                    refine XL_det .no (D_pure rfl) rfl ?_
                    refine XL_det .no (D_add rfl rfl (by omega) (by omega)) rfl ?_
                    refine XL_det .no (D_pure rfl) rfl ?_
                    refine XL_nil ?_
                    refine loopQ_next (i + 1) ?_ ?_ ?_ ?_
                    · exact ⟨by omega, fun j hj => by rcases Nat.lt_succ_iff_lt_or_eq.1 hj with h | rfl; exact hE j h; rw [eqAt_in hgp hgq]; show cellsEq _ _ = true; simpa using h8⟩
                    · omega
                    · refine ⟨?_, ?_, ?_, trivial⟩ <;> rfl
                    · exact ⟨_, (by repeat first | with_reducible exact .nil _ | with_reducible exact .here _ _ | with_reducible exact Take.self _ | with_reducible apply Take.cons | with_reducible apply Out.there | with_reducible apply Take.skip | with_reducible exact Take.pre _ _ | with_reducible apply Out.app)⟩
                · try simp only [decide_eq_true_eq, decide_eq_false_iff_not, Bool.not_eq_true', Bool.not_eq_false', beq_iff_eq, bne_iff_ne, beq_eq_false_iff_ne, bne_eq_false_iff_eq, Int.not_lt, Int.not_le, gt_iff_lt, ge_iff_le, ne_eq] at h7
                  have hEa : ∀ j, j < x.edges.l.length → eqAt fE x.edges.l y.edges.l j = true := fun j hj => hE j (by omega)
                  refine X_exit ?_
                  refine thenX_exit ?_
                  refine loopQ_exit ?_
                  refine inBlk_here ?_
                  refine thenX_normal ?_
                  refine X_seq ?_
                  refine X_seq ?_
                  refine X_region ?_
                  refine XL_det .no (D_pure rfl) rfl ?_
                  refine XL_then ?_
                  refine X_block ?_
                  refine X_loop (α := Nat) (fun i => i ≤ x.modes.l.length ∧ ∀ j, j < i → mdEq x.modes.l y.modes.l j = true) (fun i => [(7, .int .i64 (i : Int)), (2, .pointer (some ⟨b1, 0, none⟩)), (3, .pointer (some ⟨b2, 0, none⟩))]) (fun i => [blk b1 [.int .i64 x.res, .slice x.tasks.oad x.tasks.l.length x.tasks.c, .slice x.modes.oad x.modes.l.length x.modes.c, .slice x.edges.oad x.edges.l.length x.edges.c] 62, blk b2 [.int .i64 y.res, .slice y.tasks.oad y.tasks.l.length y.tasks.c, .slice y.modes.oad y.modes.l.length y.modes.c, .slice y.edges.oad y.edges.l.length y.edges.c] 62, K]) (fun i => x.modes.l.length - i) 0 ?_ (by refine ⟨?_, ?_, ?_, trivial⟩ <;> rfl) (by repeat first | with_reducible exact .nil _ | with_reducible exact .here _ _ | with_reducible exact Take.self _ | with_reducible apply Take.cons | with_reducible apply Out.there | with_reducible apply Take.skip | with_reducible exact Take.pre _ _ | with_reducible apply Out.app) ?_
                  · exact ⟨Nat.zero_le _, fun j h => by omega⟩
                  · rintro i ⟨hi, hM⟩
                    have hsm := x.modes.small
                    refine X_seq ?_
                    refine X_seq ?_
                    refine X_region ?_
                    refine XL_det .no (D_pure rfl) rfl ?_
                    refine XL_det .no (D_fld rfl fld_62_2 (o' := 2) rfl) rfl ?_
                    refine XL_det .no (D_ldo rfl (by repeat first | with_reducible exact .here _ _ | with_reducible apply Out.there | with_reducible apply Out.app) tk_59 (by rfl)) rfl ?_
                    refine XL_det .no (D_len rfl rfl slc_59) rfl ?_
                    refine XL_det .no (D_pure rfl) rfl ?_
                    refine XL_then ?_
                    refine X_cond rfl (fun h9 => ?_) (fun h9 => ?_)
                    · try simp only [decide_eq_true_eq, decide_eq_false_iff_not, Bool.not_eq_true', Bool.not_eq_false', beq_iff_eq, bne_iff_ne, beq_eq_false_iff_ne, bne_eq_false_iff_eq, Int.not_lt, Int.not_le, gt_iff_lt, ge_iff_le, ne_eq] at h9
                      obtain ⟨p, hgp⟩ : ∃ p, x.modes.l[i]? = some p := ⟨_, List.getElem?_eq_getElem (by omega)⟩
                      obtain ⟨q, hgq⟩ : ∃ q, y.modes.l[i]? = some q := ⟨_, List.getElem?_eq_getElem (by omega)⟩
                      have hqm := hx.queues p (List.mem_of_getElem? hgp)
                      have hqn := hy.queues q (List.mem_of_getElem? hgq)
                      refine X_skip ?_
                      refine thenX_normal ?_
                      refine X_seq ?_
                      refine X_block ?_
                      refine X_seqj (α := Nat × Nat) (fun z => True) (fun z => [(8, .pointer (some ⟨z.1, 0, none⟩)), (9, .pointer (some ⟨z.2, 0, none⟩)), (2, .pointer (some ⟨b1, 0, none⟩)), (3, .pointer (some ⟨b2, 0, none⟩)), (7, .int .i64 (i : Int))]) (fun z => [blk b1 [.int .i64 x.res, .slice x.tasks.oad x.tasks.l.length x.tasks.c, .slice x.modes.oad x.modes.l.length x.modes.c, .slice x.edges.oad x.edges.l.length x.edges.c] 62, blk b2 [.int .i64 y.res, .slice y.tasks.oad y.tasks.l.length y.tasks.c, .slice y.modes.oad y.modes.l.length y.modes.c, .slice y.edges.oad y.edges.l.length y.edges.c] 62, blk z.1 (encM p) 104, blk z.2 (encM q) 104, K]) ?_ ?_
                      · skip
                        refine X_draw _ mixed (Take.self _) ?_
                        refine XA_detp 0 rfl (by kernel_rfl) (by kernel_rfl) (by kernel_rfl) (fun _ _ _ _ h => h) .no (D_fldP rfl fld_62_2 (o' := 2) rfl) rfl ?_
                        refine XA_det 1 rfl (by kernel_rfl) (by kernel_rfl) (by kernel_rfl) (by kernel_rfl) (fun _ _ _ _ h => h) .no (D_ldo rfl (by repeat first | with_reducible exact .here _ _ | with_reducible apply Out.there | with_reducible apply Out.app) tk_59 (by rfl)) rfl ?_
                        refine XA_detp 2 rfl (by kernel_rfl) (by kernel_rfl) (by kernel_rfl) (fun _ _ _ _ h => h) .no (D_pureP rfl) rfl ?_
                        refine XA_detp 3 rfl (by kernel_rfl) (by kernel_rfl) (by kernel_rfl) (fun _ _ _ _ h => h) .no (D_idxSoP rfl rfl slc_59 (x.modes).nil0 rfl (by omega) rfl) rfl ?_
                        refine XA_det 4 rfl (by kernel_rfl) (by kernel_rfl) (by kernel_rfl) (by kernel_rfl) (fun _ _ _ _ h => h) .no (D_els (enc := encM) (sz := 2) (i := i) (fun _ => rfl) rfl (by repeat first | with_reducible exact .here _ _ | with_reducible apply Out.there | with_reducible apply Out.app) hx.modes tk_104 hgp) rfl ?_
                        refine XA_detp 5 rfl (by kernel_rfl) (by kernel_rfl) (by kernel_rfl) (fun _ _ _ _ h => h) .no (D_fldP rfl fld_62_2 (o' := 2) rfl) rfl ?_
                        refine XA_detp 7 rfl (by kernel_rfl) (by kernel_rfl) (by kernel_rfl) (fun _ _ _ _ h => h) .no (D_pureP rfl) rfl ?_
                        refine XA_three 6 10 11 (by kernel_rfl) ?_ ?_ ?_
                        · skip
                          refine XO_det rfl .no (by repeat first | with_reducible exact .nil _ | with_reducible apply App.cons) (D_ldo rfl (by repeat first | with_reducible exact .here _ _ | with_reducible apply Out.there | with_reducible apply Out.app) tk_59 (by rfl)) rfl ?_
                          refine XA_detp 8 rfl (by kernel_rfl) (by kernel_rfl) (by kernel_rfl) (fun _ _ _ _ h => h) .no (D_idxSoP rfl rfl slc_59 (y.modes).nil0 rfl (by omega) rfl) rfl ?_
                          refine XA_three 9 10 11 (by kernel_rfl) ?_ ?_ ?_
                          · skip
                            refine XO_det rfl .no (by repeat first | with_reducible exact .nil _ | with_reducible apply App.cons) (D_els (enc := encM) (sz := 2) (i := i) (fun _ => rfl) rfl (by repeat first | with_reducible exact .here _ _ | with_reducible apply Out.there | with_reducible apply Out.app) hy.modes tk_104 hgq) rfl ?_
                            refine XA_two 10 11 (by kernel_rfl) ?_ ?_
                            · skip
                              refine XO_alloc rfl .no zero_104 rfl (fun bd8 => ?_)
                              refine XA_one 11 (by kernel_rfl) ?_
                              refine XO_alloc rfl .no zero_104 rfl (fun bd9 => ?_)
                              refine XA_one 12 (by kernel_rfl) ?_
                              refine XO_efd rfl .no (by repeat first | with_reducible exact .nil _ | with_reducible apply App.cons) (F_stw rfl rfl rfl (by repeat first | with_reducible exact .here _ _ | with_reducible apply Out.there | with_reducible apply Out.app) tk_104 rfl rfl) (by kernel_rfl) ?_
                              refine XA_one 13 (by kernel_rfl) ?_
                              refine XO_efd rfl .no (by repeat first | with_reducible exact .nil _ | with_reducible apply App.cons) (F_stw rfl rfl rfl (by repeat first | with_reducible exact .here _ _ | with_reducible apply Out.there | with_reducible apply Out.app) tk_104 rfl rfl) (by kernel_rfl) ?_
                              refine XA_done (by kernel_rfl) ?_
                              try simp only [List.cons_append, List.nil_append, List.append_nil]
                              refine joinQ_normal (bd8, bd9) ?_ ?_ ?_
                              · trivial
                              · refine ⟨?_, ?_, ?_, ?_, ?_, trivial⟩ <;> rfl
                              · exact ⟨_, (by repeat first | with_reducible exact .nil _ | with_reducible exact .here _ _ | with_reducible exact Take.self _ | with_reducible apply Take.cons | with_reducible apply Out.there | with_reducible apply Take.skip | with_reducible exact Take.pre _ _ | with_reducible apply Out.app)⟩
                            · skip
                              refine XO_alloc rfl .no zero_104 rfl (fun bd9 => ?_)
                              refine XA_one 10 (by kernel_rfl) ?_
                              refine XO_alloc rfl .no zero_104 rfl (fun bd8 => ?_)
                              refine XA_one 12 (by kernel_rfl) ?_
                              refine XO_efd rfl .no (by repeat first | with_reducible exact .nil _ | with_reducible apply App.cons) (F_stw rfl rfl rfl (by repeat first | with_reducible exact .here _ _ | with_reducible apply Out.there | with_reducible apply Out.app) tk_104 rfl rfl) (by kernel_rfl) ?_
                              refine XA_one 13 (by kernel_rfl) ?_
                              refine XO_efd rfl .no (by repeat first | with_reducible exact .nil _ | with_reducible apply App.cons) (F_stw rfl rfl rfl (by repeat first | with_reducible exact .here _ _ | with_reducible apply Out.there | with_reducible apply Out.app) tk_104 rfl rfl) (by kernel_rfl) ?_
                              refine XA_done (by kernel_rfl) ?_
                              try simp only [List.cons_append, List.nil_append, List.append_nil]
                              refine joinQ_normal (bd8, bd9) ?_ ?_ ?_
                              · trivial
                              · refine ⟨?_, ?_, ?_, ?_, ?_, trivial⟩ <;> rfl
                              · exact ⟨_, (by repeat first | with_reducible exact .nil _ | with_reducible exact .here _ _ | with_reducible exact Take.self _ | with_reducible apply Take.cons | with_reducible apply Out.there | with_reducible apply Take.skip | with_reducible exact Take.pre _ _ | with_reducible apply Out.app)⟩
                          · skip
                            refine XO_alloc rfl .no zero_104 rfl (fun bd8 => ?_)
                            refine XA_two 9 11 (by kernel_rfl) ?_ ?_
                            · skip
                              refine XO_det rfl .no (by repeat first | with_reducible exact .nil _ | with_reducible apply App.cons) (D_els (enc := encM) (sz := 2) (i := i) (fun _ => rfl) rfl (by repeat first | with_reducible exact .here _ _ | with_reducible apply Out.there | with_reducible apply Out.app) hy.modes tk_104 hgq) rfl ?_
                              refine XA_one 11 (by kernel_rfl) ?_
                              refine XO_alloc rfl .no zero_104 rfl (fun bd9 => ?_)
                              refine XA_one 12 (by kernel_rfl) ?_
                              refine XO_efd rfl .no (by repeat first | with_reducible exact .nil _ | with_reducible apply App.cons) (F_stw rfl rfl rfl (by repeat first | with_reducible exact .here _ _ | with_reducible apply Out.there | with_reducible apply Out.app) tk_104 rfl rfl) (by kernel_rfl) ?_
                              refine XA_one 13 (by kernel_rfl) ?_
                              refine XO_efd rfl .no (by repeat first | with_reducible exact .nil _ | with_reducible apply App.cons) (F_stw rfl rfl rfl (by repeat first | with_reducible exact .here _ _ | with_reducible apply Out.there | with_reducible apply Out.app) tk_104 rfl rfl) (by kernel_rfl) ?_
                              refine XA_done (by kernel_rfl) ?_
                              try simp only [List.cons_append, List.nil_append, List.append_nil]
                              refine joinQ_normal (bd8, bd9) ?_ ?_ ?_
                              · trivial
                              · refine ⟨?_, ?_, ?_, ?_, ?_, trivial⟩ <;> rfl
                              · exact ⟨_, (by repeat first | with_reducible exact .nil _ | with_reducible exact .here _ _ | with_reducible exact Take.self _ | with_reducible apply Take.cons | with_reducible apply Out.there | with_reducible apply Take.skip | with_reducible exact Take.pre _ _ | with_reducible apply Out.app)⟩
                            · skip
                              refine XO_alloc rfl .no zero_104 rfl (fun bd9 => ?_)
                              refine XA_two 9 12 (by kernel_rfl) ?_ ?_
                              · skip
                                refine XO_det rfl .no (by repeat first | with_reducible exact .nil _ | with_reducible apply App.cons) (D_els (enc := encM) (sz := 2) (i := i) (fun _ => rfl) rfl (by repeat first | with_reducible exact .here _ _ | with_reducible apply Out.there | with_reducible apply Out.app) hy.modes tk_104 hgq) rfl ?_
                                refine XA_one 12 (by kernel_rfl) ?_
                                refine XO_efd rfl .no (by repeat first | with_reducible exact .nil _ | with_reducible apply App.cons) (F_stw rfl rfl rfl (by repeat first | with_reducible exact .here _ _ | with_reducible apply Out.there | with_reducible apply Out.app) tk_104 rfl rfl) (by kernel_rfl) ?_
                                refine XA_one 13 (by kernel_rfl) ?_
                                refine XO_efd rfl .no (by repeat first | with_reducible exact .nil _ | with_reducible apply App.cons) (F_stw rfl rfl rfl (by repeat first | with_reducible exact .here _ _ | with_reducible apply Out.there | with_reducible apply Out.app) tk_104 rfl rfl) (by kernel_rfl) ?_
                                refine XA_done (by kernel_rfl) ?_
                                try simp only [List.cons_append, List.nil_append, List.append_nil]
                                refine joinQ_normal (bd8, bd9) ?_ ?_ ?_
                                · trivial
                                · refine ⟨?_, ?_, ?_, ?_, ?_, trivial⟩ <;> rfl
                                · exact ⟨_, (by repeat first | with_reducible exact .nil _ | with_reducible exact .here _ _ | with_reducible exact Take.self _ | with_reducible apply Take.cons | with_reducible apply Out.there | with_reducible apply Take.skip | with_reducible exact Take.pre _ _ | with_reducible apply Out.app)⟩
                              · skip
                                refine XO_efd rfl .no (by repeat first | with_reducible exact .nil _ | with_reducible apply App.cons) (F_stw rfl rfl rfl (by repeat first | with_reducible exact .here _ _ | with_reducible apply Out.there | with_reducible apply Out.app) tk_104 rfl rfl) (by kernel_rfl) ?_
                                refine XA_one 9 (by kernel_rfl) ?_
                                refine XO_det rfl .no (by repeat first | with_reducible exact .nil _ | with_reducible apply App.cons) (D_els (enc := encM) (sz := 2) (i := i) (fun _ => rfl) rfl (by repeat first | with_reducible exact .here _ _ | with_reducible apply Out.there | with_reducible apply Out.app) hy.modes tk_104 hgq) rfl ?_
                                refine XA_one 13 (by kernel_rfl) ?_
                                refine XO_efd rfl .no (by repeat first | with_reducible exact .nil _ | with_reducible apply App.cons) (F_stw rfl rfl rfl (by repeat first | with_reducible exact .here _ _ | with_reducible apply Out.there | with_reducible apply Out.app) tk_104 rfl rfl) (by kernel_rfl) ?_
                                refine XA_done (by kernel_rfl) ?_
                                try simp only [List.cons_append, List.nil_append, List.append_nil]
                                refine joinQ_normal (bd8, bd9) ?_ ?_ ?_
                                · trivial
                                · refine ⟨?_, ?_, ?_, ?_, ?_, trivial⟩ <;> rfl
                                · exact ⟨_, (by repeat first | with_reducible exact .nil _ | with_reducible exact .here _ _ | with_reducible exact Take.self _ | with_reducible apply Take.cons | with_reducible apply Out.there | with_reducible apply Take.skip | with_reducible exact Take.pre _ _ | with_reducible apply Out.app)⟩
                          · skip
                            refine XO_alloc rfl .no zero_104 rfl (fun bd9 => ?_)
                            refine XA_two 9 10 (by kernel_rfl) ?_ ?_
                            · skip
                              refine XO_det rfl .no (by repeat first | with_reducible exact .nil _ | with_reducible apply App.cons) (D_els (enc := encM) (sz := 2) (i := i) (fun _ => rfl) rfl (by repeat first | with_reducible exact .here _ _ | with_reducible apply Out.there | with_reducible apply Out.app) hy.modes tk_104 hgq) rfl ?_
                              refine XA_one 10 (by kernel_rfl) ?_
                              refine XO_alloc rfl .no zero_104 rfl (fun bd8 => ?_)
                              refine XA_one 12 (by kernel_rfl) ?_
                              refine XO_efd rfl .no (by repeat first | with_reducible exact .nil _ | with_reducible apply App.cons) (F_stw rfl rfl rfl (by repeat first | with_reducible exact .here _ _ | with_reducible apply Out.there | with_reducible apply Out.app) tk_104 rfl rfl) (by kernel_rfl) ?_
                              refine XA_one 13 (by kernel_rfl) ?_
                              refine XO_efd rfl .no (by repeat first | with_reducible exact .nil _ | with_reducible apply App.cons) (F_stw rfl rfl rfl (by repeat first | with_reducible exact .here _ _ | with_reducible apply Out.there | with_reducible apply Out.app) tk_104 rfl rfl) (by kernel_rfl) ?_
                              refine XA_done (by kernel_rfl) ?_
                              try simp only [List.cons_append, List.nil_append, List.append_nil]
                              refine joinQ_normal (bd8, bd9) ?_ ?_ ?_
                              · trivial
                              · refine ⟨?_, ?_, ?_, ?_, ?_, trivial⟩ <;> rfl
                              · exact ⟨_, (by repeat first | with_reducible exact .nil _ | with_reducible exact .here _ _ | with_reducible exact Take.self _ | with_reducible apply Take.cons | with_reducible apply Out.there | with_reducible apply Take.skip | with_reducible exact Take.pre _ _ | with_reducible apply Out.app)⟩
                            · skip
                              refine XO_alloc rfl .no zero_104 rfl (fun bd8 => ?_)
                              refine XA_two 9 12 (by kernel_rfl) ?_ ?_
                              · skip
                                refine XO_det rfl .no (by repeat first | with_reducible exact .nil _ | with_reducible apply App.cons) (D_els (enc := encM) (sz := 2) (i := i) (fun _ => rfl) rfl (by repeat first | with_reducible exact .here _ _ | with_reducible apply Out.there | with_reducible apply Out.app) hy.modes tk_104 hgq) rfl ?_
                                refine XA_one 12 (by kernel_rfl) ?_
                                refine XO_efd rfl .no (by repeat first | with_reducible exact .nil _ | with_reducible apply App.cons) (F_stw rfl rfl rfl (by repeat first | with_reducible exact .here _ _ | with_reducible apply Out.there | with_reducible apply Out.app) tk_104 rfl rfl) (by kernel_rfl) ?_
                                refine XA_one 13 (by kernel_rfl) ?_
                                refine XO_efd rfl .no (by repeat first | with_reducible exact .nil _ | with_reducible apply App.cons) (F_stw rfl rfl rfl (by repeat first | with_reducible exact .here _ _ | with_reducible apply Out.there | with_reducible apply Out.app) tk_104 rfl rfl) (by kernel_rfl) ?_
                                refine XA_done (by kernel_rfl) ?_
                                try simp only [List.cons_append, List.nil_append, List.append_nil]
                                refine joinQ_normal (bd8, bd9) ?_ ?_ ?_
                                · trivial
                                · refine ⟨?_, ?_, ?_, ?_, ?_, trivial⟩ <;> rfl
                                · exact ⟨_, (by repeat first | with_reducible exact .nil _ | with_reducible exact .here _ _ | with_reducible exact Take.self _ | with_reducible apply Take.cons | with_reducible apply Out.there | with_reducible apply Take.skip | with_reducible exact Take.pre _ _ | with_reducible apply Out.app)⟩
                              · skip
                                refine XO_efd rfl .no (by repeat first | with_reducible exact .nil _ | with_reducible apply App.cons) (F_stw rfl rfl rfl (by repeat first | with_reducible exact .here _ _ | with_reducible apply Out.there | with_reducible apply Out.app) tk_104 rfl rfl) (by kernel_rfl) ?_
                                refine XA_one 9 (by kernel_rfl) ?_
                                refine XO_det rfl .no (by repeat first | with_reducible exact .nil _ | with_reducible apply App.cons) (D_els (enc := encM) (sz := 2) (i := i) (fun _ => rfl) rfl (by repeat first | with_reducible exact .here _ _ | with_reducible apply Out.there | with_reducible apply Out.app) hy.modes tk_104 hgq) rfl ?_
                                refine XA_one 13 (by kernel_rfl) ?_
                                refine XO_efd rfl .no (by repeat first | with_reducible exact .nil _ | with_reducible apply App.cons) (F_stw rfl rfl rfl (by repeat first | with_reducible exact .here _ _ | with_reducible apply Out.there | with_reducible apply Out.app) tk_104 rfl rfl) (by kernel_rfl) ?_
                                refine XA_done (by kernel_rfl) ?_
                                try simp only [List.cons_append, List.nil_append, List.append_nil]
                                refine joinQ_normal (bd8, bd9) ?_ ?_ ?_
                                · trivial
                                · refine ⟨?_, ?_, ?_, ?_, ?_, trivial⟩ <;> rfl
                                · exact ⟨_, (by repeat first | with_reducible exact .nil _ | with_reducible exact .here _ _ | with_reducible exact Take.self _ | with_reducible apply Take.cons | with_reducible apply Out.there | with_reducible apply Take.skip | with_reducible exact Take.pre _ _ | with_reducible apply Out.app)⟩
                        · skip
                          refine XO_alloc rfl .no zero_104 rfl (fun bd8 => ?_)
                          refine XA_two 6 11 (by kernel_rfl) ?_ ?_
                          · skip
                            refine XO_det rfl .no (by repeat first | with_reducible exact .nil _ | with_reducible apply App.cons) (D_ldo rfl (by repeat first | with_reducible exact .here _ _ | with_reducible apply Out.there | with_reducible apply Out.app) tk_59 (by rfl)) rfl ?_
                            refine XA_detp 8 rfl (by kernel_rfl) (by kernel_rfl) (by kernel_rfl) (fun _ _ _ _ h => h) .no (D_idxSoP rfl rfl slc_59 (y.modes).nil0 rfl (by omega) rfl) rfl ?_
                            refine XA_two 9 11 (by kernel_rfl) ?_ ?_
                            · skip
                              refine XO_det rfl .no (by repeat first | with_reducible exact .nil _ | with_reducible apply App.cons) (D_els (enc := encM) (sz := 2) (i := i) (fun _ => rfl) rfl (by repeat first | with_reducible exact .here _ _ | with_reducible apply Out.there | with_reducible apply Out.app) hy.modes tk_104 hgq) rfl ?_
                              refine XA_one 11 (by kernel_rfl) ?_
                              refine XO_alloc rfl .no zero_104 rfl (fun bd9 => ?_)
                              refine XA_one 12 (by kernel_rfl) ?_
                              refine XO_efd rfl .no (by repeat first | with_reducible exact .nil _ | with_reducible apply App.cons) (F_stw rfl rfl rfl (by repeat first | with_reducible exact .here _ _ | with_reducible apply Out.there | with_reducible apply Out.app) tk_104 rfl rfl) (by kernel_rfl) ?_
                              refine XA_one 13 (by kernel_rfl) ?_
                              refine XO_efd rfl .no (by repeat first | with_reducible exact .nil _ | with_reducible apply App.cons) (F_stw rfl rfl rfl (by repeat first | with_reducible exact .here _ _ | with_reducible apply Out.there | with_reducible apply Out.app) tk_104 rfl rfl) (by kernel_rfl) ?_
                              refine XA_done (by kernel_rfl) ?_
                              try simp only [List.cons_append, List.nil_append, List.append_nil]
                              refine joinQ_normal (bd8, bd9) ?_ ?_ ?_
                              · trivial
                              · refine ⟨?_, ?_, ?_, ?_, ?_, trivial⟩ <;> rfl
                              · exact ⟨_, (by repeat first | with_reducible exact .nil _ | with_reducible exact .here _ _ | with_reducible exact Take.self _ | with_reducible apply Take.cons | with_reducible apply Out.there | with_reducible apply Take.skip | with_reducible exact Take.pre _ _ | with_reducible apply Out.app)⟩
                            · skip
                              refine XO_alloc rfl .no zero_104 rfl (fun bd9 => ?_)
                              refine XA_two 9 12 (by kernel_rfl) ?_ ?_
                              · skip
                                refine XO_det rfl .no (by repeat first | with_reducible exact .nil _ | with_reducible apply App.cons) (D_els (enc := encM) (sz := 2) (i := i) (fun _ => rfl) rfl (by repeat first | with_reducible exact .here _ _ | with_reducible apply Out.there | with_reducible apply Out.app) hy.modes tk_104 hgq) rfl ?_
                                refine XA_one 12 (by kernel_rfl) ?_
                                refine XO_efd rfl .no (by repeat first | with_reducible exact .nil _ | with_reducible apply App.cons) (F_stw rfl rfl rfl (by repeat first | with_reducible exact .here _ _ | with_reducible apply Out.there | with_reducible apply Out.app) tk_104 rfl rfl) (by kernel_rfl) ?_
                                refine XA_one 13 (by kernel_rfl) ?_
                                refine XO_efd rfl .no (by repeat first | with_reducible exact .nil _ | with_reducible apply App.cons) (F_stw rfl rfl rfl (by repeat first | with_reducible exact .here _ _ | with_reducible apply Out.there | with_reducible apply Out.app) tk_104 rfl rfl) (by kernel_rfl) ?_
                                refine XA_done (by kernel_rfl) ?_
                                try simp only [List.cons_append, List.nil_append, List.append_nil]
                                refine joinQ_normal (bd8, bd9) ?_ ?_ ?_
                                · trivial
                                · refine ⟨?_, ?_, ?_, ?_, ?_, trivial⟩ <;> rfl
                                · exact ⟨_, (by repeat first | with_reducible exact .nil _ | with_reducible exact .here _ _ | with_reducible exact Take.self _ | with_reducible apply Take.cons | with_reducible apply Out.there | with_reducible apply Take.skip | with_reducible exact Take.pre _ _ | with_reducible apply Out.app)⟩
                              · skip
                                refine XO_efd rfl .no (by repeat first | with_reducible exact .nil _ | with_reducible apply App.cons) (F_stw rfl rfl rfl (by repeat first | with_reducible exact .here _ _ | with_reducible apply Out.there | with_reducible apply Out.app) tk_104 rfl rfl) (by kernel_rfl) ?_
                                refine XA_one 9 (by kernel_rfl) ?_
                                refine XO_det rfl .no (by repeat first | with_reducible exact .nil _ | with_reducible apply App.cons) (D_els (enc := encM) (sz := 2) (i := i) (fun _ => rfl) rfl (by repeat first | with_reducible exact .here _ _ | with_reducible apply Out.there | with_reducible apply Out.app) hy.modes tk_104 hgq) rfl ?_
                                refine XA_one 13 (by kernel_rfl) ?_
                                refine XO_efd rfl .no (by repeat first | with_reducible exact .nil _ | with_reducible apply App.cons) (F_stw rfl rfl rfl (by repeat first | with_reducible exact .here _ _ | with_reducible apply Out.there | with_reducible apply Out.app) tk_104 rfl rfl) (by kernel_rfl) ?_
                                refine XA_done (by kernel_rfl) ?_
                                try simp only [List.cons_append, List.nil_append, List.append_nil]
                                refine joinQ_normal (bd8, bd9) ?_ ?_ ?_
                                · trivial
                                · refine ⟨?_, ?_, ?_, ?_, ?_, trivial⟩ <;> rfl
                                · exact ⟨_, (by repeat first | with_reducible exact .nil _ | with_reducible exact .here _ _ | with_reducible exact Take.self _ | with_reducible apply Take.cons | with_reducible apply Out.there | with_reducible apply Take.skip | with_reducible exact Take.pre _ _ | with_reducible apply Out.app)⟩
                          · skip
                            refine XO_alloc rfl .no zero_104 rfl (fun bd9 => ?_)
                            refine XA_two 6 12 (by kernel_rfl) ?_ ?_
                            · skip
                              refine XO_det rfl .no (by repeat first | with_reducible exact .nil _ | with_reducible apply App.cons) (D_ldo rfl (by repeat first | with_reducible exact .here _ _ | with_reducible apply Out.there | with_reducible apply Out.app) tk_59 (by rfl)) rfl ?_
                              refine XA_detp 8 rfl (by kernel_rfl) (by kernel_rfl) (by kernel_rfl) (fun _ _ _ _ h => h) .no (D_idxSoP rfl rfl slc_59 (y.modes).nil0 rfl (by omega) rfl) rfl ?_
                              refine XA_two 9 12 (by kernel_rfl) ?_ ?_
                              · skip
                                refine XO_det rfl .no (by repeat first | with_reducible exact .nil _ | with_reducible apply App.cons) (D_els (enc := encM) (sz := 2) (i := i) (fun _ => rfl) rfl (by repeat first | with_reducible exact .here _ _ | with_reducible apply Out.there | with_reducible apply Out.app) hy.modes tk_104 hgq) rfl ?_
                                refine XA_one 12 (by kernel_rfl) ?_
                                refine XO_efd rfl .no (by repeat first | with_reducible exact .nil _ | with_reducible apply App.cons) (F_stw rfl rfl rfl (by repeat first | with_reducible exact .here _ _ | with_reducible apply Out.there | with_reducible apply Out.app) tk_104 rfl rfl) (by kernel_rfl) ?_
                                refine XA_one 13 (by kernel_rfl) ?_
                                refine XO_efd rfl .no (by repeat first | with_reducible exact .nil _ | with_reducible apply App.cons) (F_stw rfl rfl rfl (by repeat first | with_reducible exact .here _ _ | with_reducible apply Out.there | with_reducible apply Out.app) tk_104 rfl rfl) (by kernel_rfl) ?_
                                refine XA_done (by kernel_rfl) ?_
                                try simp only [List.cons_append, List.nil_append, List.append_nil]
                                refine joinQ_normal (bd8, bd9) ?_ ?_ ?_
                                · trivial
                                · refine ⟨?_, ?_, ?_, ?_, ?_, trivial⟩ <;> rfl
                                · exact ⟨_, (by repeat first | with_reducible exact .nil _ | with_reducible exact .here _ _ | with_reducible exact Take.self _ | with_reducible apply Take.cons | with_reducible apply Out.there | with_reducible apply Take.skip | with_reducible exact Take.pre _ _ | with_reducible apply Out.app)⟩
                              · skip
                                refine XO_efd rfl .no (by repeat first | with_reducible exact .nil _ | with_reducible apply App.cons) (F_stw rfl rfl rfl (by repeat first | with_reducible exact .here _ _ | with_reducible apply Out.there | with_reducible apply Out.app) tk_104 rfl rfl) (by kernel_rfl) ?_
                                refine XA_one 9 (by kernel_rfl) ?_
                                refine XO_det rfl .no (by repeat first | with_reducible exact .nil _ | with_reducible apply App.cons) (D_els (enc := encM) (sz := 2) (i := i) (fun _ => rfl) rfl (by repeat first | with_reducible exact .here _ _ | with_reducible apply Out.there | with_reducible apply Out.app) hy.modes tk_104 hgq) rfl ?_
                                refine XA_one 13 (by kernel_rfl) ?_
                                refine XO_efd rfl .no (by repeat first | with_reducible exact .nil _ | with_reducible apply App.cons) (F_stw rfl rfl rfl (by repeat first | with_reducible exact .here _ _ | with_reducible apply Out.there | with_reducible apply Out.app) tk_104 rfl rfl) (by kernel_rfl) ?_
                                refine XA_done (by kernel_rfl) ?_
                                try simp only [List.cons_append, List.nil_append, List.append_nil]
                                refine joinQ_normal (bd8, bd9) ?_ ?_ ?_
                                · trivial
                                · refine ⟨?_, ?_, ?_, ?_, ?_, trivial⟩ <;> rfl
                                · exact ⟨_, (by repeat first | with_reducible exact .nil _ | with_reducible exact .here _ _ | with_reducible exact Take.self _ | with_reducible apply Take.cons | with_reducible apply Out.there | with_reducible apply Take.skip | with_reducible exact Take.pre _ _ | with_reducible apply Out.app)⟩
                            · skip
                              refine XO_efd rfl .no (by repeat first | with_reducible exact .nil _ | with_reducible apply App.cons) (F_stw rfl rfl rfl (by repeat first | with_reducible exact .here _ _ | with_reducible apply Out.there | with_reducible apply Out.app) tk_104 rfl rfl) (by kernel_rfl) ?_
                              refine XA_one 6 (by kernel_rfl) ?_
                              refine XO_det rfl .no (by repeat first | with_reducible exact .nil _ | with_reducible apply App.cons) (D_ldo rfl (by repeat first | with_reducible exact .here _ _ | with_reducible apply Out.there | with_reducible apply Out.app) tk_59 (by rfl)) rfl ?_
                              refine XA_detp 8 rfl (by kernel_rfl) (by kernel_rfl) (by kernel_rfl) (fun _ _ _ _ h => h) .no (D_idxSoP rfl rfl slc_59 (y.modes).nil0 rfl (by omega) rfl) rfl ?_
                              refine XA_one 9 (by kernel_rfl) ?_
                              refine XO_det rfl .no (by repeat first | with_reducible exact .nil _ | with_reducible apply App.cons) (D_els (enc := encM) (sz := 2) (i := i) (fun _ => rfl) rfl (by repeat first | with_reducible exact .here _ _ | with_reducible apply Out.there | with_reducible apply Out.app) hy.modes tk_104 hgq) rfl ?_
                              refine XA_one 13 (by kernel_rfl) ?_
                              refine XO_efd rfl .no (by repeat first | with_reducible exact .nil _ | with_reducible apply App.cons) (F_stw rfl rfl rfl (by repeat first | with_reducible exact .here _ _ | with_reducible apply Out.there | with_reducible apply Out.app) tk_104 rfl rfl) (by kernel_rfl) ?_
                              refine XA_done (by kernel_rfl) ?_
                              try simp only [List.cons_append, List.nil_append, List.append_nil]
                              refine joinQ_normal (bd8, bd9) ?_ ?_ ?_
                              · trivial
                              · refine ⟨?_, ?_, ?_, ?_, ?_, trivial⟩ <;> rfl
                              · exact ⟨_, (by repeat first | with_reducible exact .nil _ | with_reducible exact .here _ _ | with_reducible exact Take.self _ | with_reducible apply Take.cons | with_reducible apply Out.there | with_reducible apply Take.skip | with_reducible exact Take.pre _ _ | with_reducible apply Out.app)⟩
                        · skip
                          refine XO_alloc rfl .no zero_104 rfl (fun bd9 => ?_)
                          refine XA_two 6 10 (by kernel_rfl) ?_ ?_
                          · skip
                            refine XO_det rfl .no (by repeat first | with_reducible exact .nil _ | with_reducible apply App.cons) (D_ldo rfl (by repeat first | with_reducible exact .here _ _ | with_reducible apply Out.there | with_reducible apply Out.app) tk_59 (by rfl)) rfl ?_
                            refine XA_detp 8 rfl (by kernel_rfl) (by kernel_rfl) (by kernel_rfl) (fun _ _ _ _ h => h) .no (D_idxSoP rfl rfl slc_59 (y.modes).nil0 rfl (by omega) rfl) rfl ?_
                            refine XA_two 9 10 (by kernel_rfl) ?_ ?_
                            · skip
                              refine XO_det rfl .no (by repeat first | with_reducible exact .nil _ | with_reducible apply App.cons) (D_els (enc := encM) (sz := 2) (i := i) (fun _ => rfl) rfl (by repeat first | with_reducible exact .here _ _ | with_reducible apply Out.there | with_reducible apply Out.app) hy.modes tk_104 hgq) rfl ?_
                              refine XA_one 10 (by kernel_rfl) ?_
                              refine XO_alloc rfl .no zero_104 rfl (fun bd8 => ?_)
                              refine XA_one 12 (by kernel_rfl) ?_
                              refine XO_efd rfl .no (by repeat first | with_reducible exact .nil _ | with_reducible apply App.cons) (F_stw rfl rfl rfl (by repeat first | with_reducible exact .here _ _ | with_reducible apply Out.there | with_reducible apply Out.app) tk_104 rfl rfl) (by kernel_rfl) ?_
                              refine XA_one 13 (by kernel_rfl) ?_
                              refine XO_efd rfl .no (by repeat first | with_reducible exact .nil _ | with_reducible apply App.cons) (F_stw rfl rfl rfl (by repeat first | with_reducible exact .here _ _ | with_reducible apply Out.there | with_reducible apply Out.app) tk_104 rfl rfl) (by kernel_rfl) ?_
                              refine XA_done (by kernel_rfl) ?_
                              try simp only [List.cons_append, List.nil_append, List.append_nil]
                              refine joinQ_normal (bd8, bd9) ?_ ?_ ?_
                              · trivial
                              · refine ⟨?_, ?_, ?_, ?_, ?_, trivial⟩ <;> rfl
                              · exact ⟨_, (by repeat first | with_reducible exact .nil _ | with_reducible exact .here _ _ | with_reducible exact Take.self _ | with_reducible apply Take.cons | with_reducible apply Out.there | with_reducible apply Take.skip | with_reducible exact Take.pre _ _ | with_reducible apply Out.app)⟩
                            · skip
                              refine XO_alloc rfl .no zero_104 rfl (fun bd8 => ?_)
                              refine XA_two 9 12 (by kernel_rfl) ?_ ?_
                              · skip
                                refine XO_det rfl .no (by repeat first | with_reducible exact .nil _ | with_reducible apply App.cons) (D_els (enc := encM) (sz := 2) (i := i) (fun _ => rfl) rfl (by repeat first | with_reducible exact .here _ _ | with_reducible apply Out.there | with_reducible apply Out.app) hy.modes tk_104 hgq) rfl ?_
                                refine XA_one 12 (by kernel_rfl) ?_
                                refine XO_efd rfl .no (by repeat first | with_reducible exact .nil _ | with_reducible apply App.cons) (F_stw rfl rfl rfl (by repeat first | with_reducible exact .here _ _ | with_reducible apply Out.there | with_reducible apply Out.app) tk_104 rfl rfl) (by kernel_rfl) ?_
                                refine XA_one 13 (by kernel_rfl) ?_
                                refine XO_efd rfl .no (by repeat first | with_reducible exact .nil _ | with_reducible apply App.cons) (F_stw rfl rfl rfl (by repeat first | with_reducible exact .here _ _ | with_reducible apply Out.there | with_reducible apply Out.app) tk_104 rfl rfl) (by kernel_rfl) ?_
                                refine XA_done (by kernel_rfl) ?_
                                try simp only [List.cons_append, List.nil_append, List.append_nil]
                                refine joinQ_normal (bd8, bd9) ?_ ?_ ?_
                                · trivial
                                · refine ⟨?_, ?_, ?_, ?_, ?_, trivial⟩ <;> rfl
                                · exact ⟨_, (by repeat first | with_reducible exact .nil _ | with_reducible exact .here _ _ | with_reducible exact Take.self _ | with_reducible apply Take.cons | with_reducible apply Out.there | with_reducible apply Take.skip | with_reducible exact Take.pre _ _ | with_reducible apply Out.app)⟩
                              · skip
                                refine XO_efd rfl .no (by repeat first | with_reducible exact .nil _ | with_reducible apply App.cons) (F_stw rfl rfl rfl (by repeat first | with_reducible exact .here _ _ | with_reducible apply Out.there | with_reducible apply Out.app) tk_104 rfl rfl) (by kernel_rfl) ?_
                                refine XA_one 9 (by kernel_rfl) ?_
                                refine XO_det rfl .no (by repeat first | with_reducible exact .nil _ | with_reducible apply App.cons) (D_els (enc := encM) (sz := 2) (i := i) (fun _ => rfl) rfl (by repeat first | with_reducible exact .here _ _ | with_reducible apply Out.there | with_reducible apply Out.app) hy.modes tk_104 hgq) rfl ?_
                                refine XA_one 13 (by kernel_rfl) ?_
                                refine XO_efd rfl .no (by repeat first | with_reducible exact .nil _ | with_reducible apply App.cons) (F_stw rfl rfl rfl (by repeat first | with_reducible exact .here _ _ | with_reducible apply Out.there | with_reducible apply Out.app) tk_104 rfl rfl) (by kernel_rfl) ?_
                                refine XA_done (by kernel_rfl) ?_
                                try simp only [List.cons_append, List.nil_append, List.append_nil]
                                refine joinQ_normal (bd8, bd9) ?_ ?_ ?_
                                · trivial
                                · refine ⟨?_, ?_, ?_, ?_, ?_, trivial⟩ <;> rfl
                                · exact ⟨_, (by repeat first | with_reducible exact .nil _ | with_reducible exact .here _ _ | with_reducible exact Take.self _ | with_reducible apply Take.cons | with_reducible apply Out.there | with_reducible apply Take.skip | with_reducible exact Take.pre _ _ | with_reducible apply Out.app)⟩
                          · skip
                            refine XO_alloc rfl .no zero_104 rfl (fun bd8 => ?_)
                            refine XA_two 6 12 (by kernel_rfl) ?_ ?_
                            · skip
                              refine XO_det rfl .no (by repeat first | with_reducible exact .nil _ | with_reducible apply App.cons) (D_ldo rfl (by repeat first | with_reducible exact .here _ _ | with_reducible apply Out.there | with_reducible apply Out.app) tk_59 (by rfl)) rfl ?_
                              refine XA_detp 8 rfl (by kernel_rfl) (by kernel_rfl) (by kernel_rfl) (fun _ _ _ _ h => h) .no (D_idxSoP rfl rfl slc_59 (y.modes).nil0 rfl (by omega) rfl) rfl ?_
                              refine XA_two 9 12 (by kernel_rfl) ?_ ?_
                              · skip
                                refine XO_det rfl .no (by repeat first | with_reducible exact .nil _ | with_reducible apply App.cons) (D_els (enc := encM) (sz := 2) (i := i) (fun _ => rfl) rfl (by repeat first | with_reducible exact .here _ _ | with_reducible apply Out.there | with_reducible apply Out.app) hy.modes tk_104 hgq) rfl ?_
                                refine XA_one 12 (by kernel_rfl) ?_
                                refine XO_efd rfl .no (by repeat first | with_reducible exact .nil _ | with_reducible apply App.cons) (F_stw rfl rfl rfl (by repeat first | with_reducible exact .here _ _ | with_reducible apply Out.there | with_reducible apply Out.app) tk_104 rfl rfl) (by kernel_rfl) ?_
                                refine XA_one 13 (by kernel_rfl) ?_
                                refine XO_efd rfl .no (by repeat first | with_reducible exact .nil _ | with_reducible apply App.cons) (F_stw rfl rfl rfl (by repeat first | with_reducible exact .here _ _ | with_reducible apply Out.there | with_reducible apply Out.app) tk_104 rfl rfl) (by kernel_rfl) ?_
                                refine XA_done (by kernel_rfl) ?_
                                try simp only [List.cons_append, List.nil_append, List.append_nil]
                                refine joinQ_normal (bd8, bd9) ?_ ?_ ?_
                                · trivial
                                · refine ⟨?_, ?_, ?_, ?_, ?_, trivial⟩ <;> rfl
                                · exact ⟨_, (by repeat first | with_reducible exact .nil _ | with_reducible exact .here _ _ | with_reducible exact Take.self _ | with_reducible apply Take.cons | with_reducible apply Out.there | with_reducible apply Take.skip | with_reducible exact Take.pre _ _ | with_reducible apply Out.app)⟩
                              · skip
                                refine XO_efd rfl .no (by repeat first | with_reducible exact .nil _ | with_reducible apply App.cons) (F_stw rfl rfl rfl (by repeat first | with_reducible exact .here _ _ | with_reducible apply Out.there | with_reducible apply Out.app) tk_104 rfl rfl) (by kernel_rfl) ?_
                                refine XA_one 9 (by kernel_rfl) ?_
                                refine XO_det rfl .no (by repeat first | with_reducible exact .nil _ | with_reducible apply App.cons) (D_els (enc := encM) (sz := 2) (i := i) (fun _ => rfl) rfl (by repeat first | with_reducible exact .here _ _ | with_reducible apply Out.there | with_reducible apply Out.app) hy.modes tk_104 hgq) rfl ?_
                                refine XA_one 13 (by kernel_rfl) ?_
                                refine XO_efd rfl .no (by repeat first | with_reducible exact .nil _ | with_reducible apply App.cons) (F_stw rfl rfl rfl (by repeat first | with_reducible exact .here _ _ | with_reducible apply Out.there | with_reducible apply Out.app) tk_104 rfl rfl) (by kernel_rfl) ?_
                                refine XA_done (by kernel_rfl) ?_
                                try simp only [List.cons_append, List.nil_append, List.append_nil]
                                refine joinQ_normal (bd8, bd9) ?_ ?_ ?_
                                · trivial
                                · refine ⟨?_, ?_, ?_, ?_, ?_, trivial⟩ <;> rfl
                                · exact ⟨_, (by repeat first | with_reducible exact .nil _ | with_reducible exact .here _ _ | with_reducible exact Take.self _ | with_reducible apply Take.cons | with_reducible apply Out.there | with_reducible apply Take.skip | with_reducible exact Take.pre _ _ | with_reducible apply Out.app)⟩
                            · skip
                              refine XO_efd rfl .no (by repeat first | with_reducible exact .nil _ | with_reducible apply App.cons) (F_stw rfl rfl rfl (by repeat first | with_reducible exact .here _ _ | with_reducible apply Out.there | with_reducible apply Out.app) tk_104 rfl rfl) (by kernel_rfl) ?_
                              refine XA_one 6 (by kernel_rfl) ?_
                              refine XO_det rfl .no (by repeat first | with_reducible exact .nil _ | with_reducible apply App.cons) (D_ldo rfl (by repeat first | with_reducible exact .here _ _ | with_reducible apply Out.there | with_reducible apply Out.app) tk_59 (by rfl)) rfl ?_
                              refine XA_detp 8 rfl (by kernel_rfl) (by kernel_rfl) (by kernel_rfl) (fun _ _ _ _ h => h) .no (D_idxSoP rfl rfl slc_59 (y.modes).nil0 rfl (by omega) rfl) rfl ?_
                              refine XA_one 9 (by kernel_rfl) ?_
                              refine XO_det rfl .no (by repeat first | with_reducible exact .nil _ | with_reducible apply App.cons) (D_els (enc := encM) (sz := 2) (i := i) (fun _ => rfl) rfl (by repeat first | with_reducible exact .here _ _ | with_reducible apply Out.there | with_reducible apply Out.app) hy.modes tk_104 hgq) rfl ?_
                              refine XA_one 13 (by kernel_rfl) ?_
                              refine XO_efd rfl .no (by repeat first | with_reducible exact .nil _ | with_reducible apply App.cons) (F_stw rfl rfl rfl (by repeat first | with_reducible exact .here _ _ | with_reducible apply Out.there | with_reducible apply Out.app) tk_104 rfl rfl) (by kernel_rfl) ?_
                              refine XA_done (by kernel_rfl) ?_
                              try simp only [List.cons_append, List.nil_append, List.append_nil]
                              refine joinQ_normal (bd8, bd9) ?_ ?_ ?_
                              · trivial
                              · refine ⟨?_, ?_, ?_, ?_, ?_, trivial⟩ <;> rfl
                              · exact ⟨_, (by repeat first | with_reducible exact .nil _ | with_reducible exact .here _ _ | with_reducible exact Take.self _ | with_reducible apply Take.cons | with_reducible apply Out.there | with_reducible apply Take.skip | with_reducible exact Take.pre _ _ | with_reducible apply Out.app)⟩
                      · rintro ⟨bm, bn⟩ _
                        refine X_seq ?_
                        refine X_seq ?_
                        refine X_region ?_
                        refine XL_det .no (D_fld rfl fld_104_0 (o' := 0) rfl) rfl ?_
                        refine XL_det .no (D_ldo rfl (by repeat first | with_reducible exact .here _ _ | with_reducible apply Out.there | with_reducible apply Out.app) tk_76 (by rfl)) rfl ?_
                        refine XL_det .no (D_fld rfl fld_104_0 (o' := 0) rfl) rfl ?_
                        refine XL_det .no (D_ldo rfl (by repeat first | with_reducible exact .here _ _ | with_reducible apply Out.there | with_reducible apply Out.app) tk_76 (by rfl)) rfl ?_
                        refine XL_det .no (D_pure rfl) rfl ?_
                        refine XL_det .no (D_pure rfl) rfl ?_
                        refine XL_split (t := 101) rfl (fun h10 => ?_) (fun h10 => ?_)
                        · try simp only [decide_eq_true_eq, decide_eq_false_iff_not, Bool.not_eq_true', Bool.not_eq_false', beq_iff_eq, bne_iff_ne, beq_eq_false_iff_ne, bne_eq_false_iff_eq, Int.not_lt, Int.not_le, gt_iff_lt, ge_iff_le, ne_eq] at h10
                          refine XL_skip 101 rfl rfl rfl rfl rfl ?_
                          refine XL_skip 101 rfl rfl rfl rfl rfl ?_
                          refine XL_skip 101 rfl rfl rfl rfl rfl ?_
                          refine XL_skip 101 rfl rfl rfl rfl rfl ?_
                          refine XL_skip 101 rfl rfl rfl rfl rfl ?_
                          refine XL_skip 101 rfl rfl rfl rfl rfl ?_
                          refine XL_skip 101 rfl rfl rfl rfl rfl ?_
                          refine XL_det .no (D_pure rfl) rfl ?_
                          refine XL_then ?_
                          refine X_cond_t rfl rfl ?_
                          refine X_seq ?_
                          refine X_region ?_
                          refine XL_det .no (D_pure rfl) rfl ?_
                          refine XL_then ?_
                          refine X_ret ?_
                          refine thenX_ret ?_
                          refine inBlk_ret ?_
                          refine thenX_ret ?_
                          refine loopQ_ret ?_
                          refine inBlk_ret ?_
                          refine thenX_ret ?_
                          refine ret_ok (.nil _) (res_tmp rfl rfl) ?_
                          exact ⟨_, ⟨by rw [sameI_f (fun h => absurd (h.modes i (by omega)) (by unfold mdEq; rw [eqAt_in hgp hgq, eqAt_in hgp hgq]; simp; intro e; exact absurd e (bv_ne h10)))], rfl⟩, _, (by repeat first | with_reducible exact .nil _ | with_reducible exact .here _ _ | with_reducible exact Take.self _ | with_reducible apply Take.cons | with_reducible apply Out.there | with_reducible apply Take.skip | with_reducible exact Take.pre _ _ | with_reducible apply Out.app)⟩
                        · try simp only [decide_eq_true_eq, decide_eq_false_iff_not, Bool.not_eq_true', Bool.not_eq_false', beq_iff_eq, bne_iff_ne, beq_eq_false_iff_ne, bne_eq_false_iff_eq, Int.not_lt, Int.not_le, gt_iff_lt, ge_iff_le, ne_eq] at h10
                          refine XL_det (.yes 101 rfl rfl rfl) (D_fld rfl fld_104_1 (o' := 1) rfl) rfl ?_
                          refine XL_det (.yes 101 rfl rfl rfl) (D_ldo rfl (by repeat first | with_reducible exact .here _ _ | with_reducible apply Out.there | with_reducible apply Out.app) tk_102 (by rfl)) rfl ?_
                          refine XL_det (.yes 101 rfl rfl rfl) (D_len rfl rfl slc_102) rfl ?_
                          refine XL_det (.yes 101 rfl rfl rfl) (D_fld rfl fld_104_1 (o' := 1) rfl) rfl ?_
                          refine XL_det (.yes 101 rfl rfl rfl) (D_ldo rfl (by repeat first | with_reducible exact .here _ _ | with_reducible apply Out.there | with_reducible apply Out.app) tk_102 (by rfl)) rfl ?_
                          refine XL_det (.yes 101 rfl rfl rfl) (D_len rfl rfl slc_102) rfl ?_
                          refine XL_det (.yes 101 rfl rfl rfl) (D_pure rfl) rfl ?_
                          refine XL_det .no (D_pure rfl) rfl ?_
                          refine XL_then ?_
                          refine X_cond rfl (fun h11 => ?_) (fun h11 => ?_)
                          · try simp only [decide_eq_true_eq, decide_eq_false_iff_not, Bool.not_eq_true', Bool.not_eq_false', beq_iff_eq, bne_iff_ne, beq_eq_false_iff_ne, bne_eq_false_iff_eq, Int.not_lt, Int.not_le, gt_iff_lt, ge_iff_le, ne_eq] at h11
                            refine X_seq ?_
                            refine X_region ?_
                            refine XL_det .no (D_pure rfl) rfl ?_
                            refine XL_then ?_
                            refine X_ret ?_
                            refine thenX_ret ?_
                            refine inBlk_ret ?_
                            refine thenX_ret ?_
                            refine loopQ_ret ?_
                            refine inBlk_ret ?_
                            refine thenX_ret ?_
                            refine ret_ok (.nil _) (res_tmp rfl rfl) ?_
                            exact ⟨_, ⟨by rw [sameI_f (fun h => absurd (h.modes i (by omega)) (by unfold mdEq; rw [eqAt_in hgp hgq, eqAt_in hgp hgq, qSame_len (by omega)]; simp))], rfl⟩, _, (by repeat first | with_reducible exact .nil _ | with_reducible exact .here _ _ | with_reducible exact Take.self _ | with_reducible apply Take.cons | with_reducible apply Out.there | with_reducible apply Take.skip | with_reducible exact Take.pre _ _ | with_reducible apply Out.app)⟩
                          · try simp only [decide_eq_true_eq, decide_eq_false_iff_not, Bool.not_eq_true', Bool.not_eq_false', beq_iff_eq, bne_iff_ne, beq_eq_false_iff_ne, bne_eq_false_iff_eq, Int.not_lt, Int.not_le, gt_iff_lt, ge_iff_le, ne_eq] at h11
                            refine X_skip ?_
                            refine thenX_normal ?_
                            refine X_seq ?_
                            refine X_region ?_
                            refine XL_det .no (D_pure rfl) rfl ?_
                            refine XL_then ?_
                            refine X_block ?_
                            refine X_loop (α := Nat) (fun k => k ≤ p.q.l.length ∧ ∀ j, j < k → eqAt (fun x y => cellsEq (encQ x) (encQ y)) p.q.l q.q.l j = true) (fun k => [(10, .int .i64 (k : Int)), (2, .pointer (some ⟨b1, 0, none⟩)), (3, .pointer (some ⟨b2, 0, none⟩)), (7, .int .i64 (i : Int)), (8, .pointer (some ⟨bm, 0, none⟩)), (9, .pointer (some ⟨bn, 0, none⟩))]) (fun k => [blk b1 [.int .i64 x.res, .slice x.tasks.oad x.tasks.l.length x.tasks.c, .slice x.modes.oad x.modes.l.length x.modes.c, .slice x.edges.oad x.edges.l.length x.edges.c] 62, blk b2 [.int .i64 y.res, .slice y.tasks.oad y.tasks.l.length y.tasks.c, .slice y.modes.oad y.modes.l.length y.modes.c, .slice y.edges.oad y.edges.l.length y.edges.c] 62, blk bm (encM p) 104, blk bn (encM q) 104, K]) (fun k => p.q.l.length - k) 0 ?_ (by refine ⟨?_, ?_, ?_, ?_, ?_, ?_, trivial⟩ <;> rfl) (by repeat first | with_reducible exact .nil _ | with_reducible exact .here _ _ | with_reducible exact Take.self _ | with_reducible apply Take.cons | with_reducible apply Out.there | with_reducible apply Take.skip | with_reducible exact Take.pre _ _ | with_reducible apply Out.app) ?_
                            · exact ⟨Nat.zero_le _, fun j h => by omega⟩
                            · rintro k ⟨hk, hQ⟩
                              have hsq := p.q.small
                              refine X_seq ?_
                              refine X_seq ?_
                              refine X_region ?_
                              refine XL_det .no (D_pure rfl) rfl ?_
                              refine XL_det .no (D_fld rfl fld_104_1 (o' := 1) rfl) rfl ?_
                              refine XL_det .no (D_ldo rfl (by repeat first | with_reducible exact .here _ _ | with_reducible apply Out.there | with_reducible apply Out.app) tk_102 (by rfl)) rfl ?_
                              refine XL_det .no (D_len rfl rfl slc_102) rfl ?_
                              refine XL_det .no (D_pure rfl) rfl ?_
                              refine XL_then ?_
                              refine X_cond rfl (fun h12 => ?_) (fun h12 => ?_)
                              · try simp only [decide_eq_true_eq, decide_eq_false_iff_not, Bool.not_eq_true', Bool.not_eq_false', beq_iff_eq, bne_iff_ne, beq_eq_false_iff_ne, bne_eq_false_iff_eq, Int.not_lt, Int.not_le, gt_iff_lt, ge_iff_le, ne_eq] at h12
                                obtain ⟨u, hu⟩ : ∃ u, p.q.l[k]? = some u := ⟨_, List.getElem?_eq_getElem (by omega)⟩
                                obtain ⟨v, hv⟩ : ∃ v, q.q.l[k]? = some v := ⟨_, List.getElem?_eq_getElem (by omega)⟩
                                refine X_skip ?_
                                refine thenX_normal ?_
                                refine X_seq ?_
                                refine X_block ?_
                                refine X_seq ?_
                                refine X_draw _ mixed (Take.self _) ?_
                                refine XA_detp 0 rfl (by kernel_rfl) (by kernel_rfl) (by kernel_rfl) (fun _ _ _ _ h => h) .no (D_fldP rfl fld_104_1 (o' := 1) rfl) rfl ?_
                                refine XA_det 1 rfl (by kernel_rfl) (by kernel_rfl) (by kernel_rfl) (by kernel_rfl) (fun _ _ _ _ h => h) .no (D_ldo rfl (by repeat first | with_reducible exact .here _ _ | with_reducible apply Out.there | with_reducible apply Out.app) tk_102 (by rfl)) rfl ?_
                                refine XA_detp 2 rfl (by kernel_rfl) (by kernel_rfl) (by kernel_rfl) (fun _ _ _ _ h => h) .no (D_pureP rfl) rfl ?_
                                refine XA_detp 3 rfl (by kernel_rfl) (by kernel_rfl) (by kernel_rfl) (fun _ _ _ _ h => h) .no (D_idxSoP rfl rfl slc_102 (p.q).nil0 rfl (by omega) rfl) rfl ?_
                                refine XA_det 4 rfl (by kernel_rfl) (by kernel_rfl) (by kernel_rfl) (by kernel_rfl) (fun _ _ _ _ h => h) .no (D_els (enc := encQ) (sz := 2) (i := k) (fun _ => rfl) rfl (by repeat first | with_reducible exact .here _ _ | with_reducible apply Out.there | with_reducible apply Out.app) hqm tk_116 hu) rfl ?_
                                refine XA_detp 5 rfl (by kernel_rfl) (by kernel_rfl) (by kernel_rfl) (fun _ _ _ _ h => h) .no (D_fldP rfl fld_104_1 (o' := 1) rfl) rfl ?_
                                refine XA_det 6 rfl (by kernel_rfl) (by kernel_rfl) (by kernel_rfl) (by kernel_rfl) (fun _ _ _ _ h => h) .no (D_ldo rfl (by repeat first | with_reducible exact .here _ _ | with_reducible apply Out.there | with_reducible apply Out.app) tk_102 (by rfl)) rfl ?_
                                refine XA_detp 7 rfl (by kernel_rfl) (by kernel_rfl) (by kernel_rfl) (fun _ _ _ _ h => h) .no (D_pureP rfl) rfl ?_
                                refine XA_detp 8 rfl (by kernel_rfl) (by kernel_rfl) (by kernel_rfl) (fun _ _ _ _ h => h) .no (D_idxSoP rfl rfl slc_102 (q.q).nil0 rfl (by omega) rfl) rfl ?_
                                refine XA_det 9 rfl (by kernel_rfl) (by kernel_rfl) (by kernel_rfl) (by kernel_rfl) (fun _ _ _ _ h => h) .no (D_els (enc := encQ) (sz := 2) (i := k) (fun _ => rfl) rfl (by repeat first | with_reducible exact .here _ _ | with_reducible apply Out.there | with_reducible apply Out.app) hqn tk_116 hv) rfl ?_
                                refine XA_det 10 rfl (by kernel_rfl) (by kernel_rfl) (by kernel_rfl) (by kernel_rfl) (fun _ _ _ _ h => h) .no (D_eqs (b := !cellsEq (encQ u) (encQ v)) rfl rfl eqk_116 eqg_116 rfl rfl rfl rfl) rfl ?_
                                refine XA_done (by kernel_rfl) ?_
                                try simp only [List.cons_append, List.nil_append, List.append_nil]
                                refine thenX_normal ?_
                                refine X_cond rfl (fun h13 => ?_) (fun h13 => ?_)
                                · try simp only [decide_eq_true_eq, decide_eq_false_iff_not, Bool.not_eq_true', Bool.not_eq_false', beq_iff_eq, bne_iff_ne, beq_eq_false_iff_ne, bne_eq_false_iff_eq, Int.not_lt, Int.not_le, gt_iff_lt, ge_iff_le, ne_eq] at h13
                                  refine X_seq ?_
                                  refine X_region ?_
                                  refine XL_det .no (D_pure rfl) rfl ?_
                                  refine XL_then ?_
                                  refine X_ret ?_
                                  refine inBlk_ret ?_
                                  refine thenX_ret ?_
                                  refine loopQ_ret ?_
                                  refine inBlk_ret ?_
                                  refine inBlk_ret ?_
                                  refine thenX_ret ?_
                                  refine loopQ_ret ?_
                                  refine inBlk_ret ?_
                                  refine thenX_ret ?_
                                  refine ret_ok (.nil _) (res_tmp rfl rfl) ?_
                                  exact ⟨_, ⟨by rw [sameI_f (fun h => absurd (h.modes i (by omega)) (by unfold mdEq; rw [eqAt_in hgp hgq, eqAt_in hgp hgq, qSame_ne hu hv (by simpa using h13)]; simp))], rfl⟩, _, (by repeat first | with_reducible exact .nil _ | with_reducible exact .here _ _ | with_reducible exact Take.self _ | with_reducible apply Take.cons | with_reducible apply Out.there | with_reducible apply Take.skip | with_reducible exact Take.pre _ _ | with_reducible apply Out.app)⟩
                                · try simp only [decide_eq_true_eq, decide_eq_false_iff_not, Bool.not_eq_true', Bool.not_eq_false', beq_iff_eq, bne_iff_ne, beq_eq_false_iff_ne, bne_eq_false_iff_eq, Int.not_lt, Int.not_le, gt_iff_lt, ge_iff_le, ne_eq] at h13
                                  refine X_skip ?_
                                  refine inBlk_normal ?_
                                  refine thenX_normal ?_
                                  refine X_region ?_
                                  refine XL_det .no (D_pure rfl) rfl ?_
                                  refine XL_det .no (D_add rfl rfl (by omega) (by omega)) rfl ?_
                                  refine XL_det .no (D_pure rfl) rfl ?_
                                  refine XL_nil ?_
                                  refine loopQ_next (k + 1) ?_ ?_ ?_ ?_
                                  · exact ⟨by omega, fun j hj => by rcases Nat.lt_succ_iff_lt_or_eq.1 hj with h | rfl; exact hQ j h; rw [eqAt_in hu hv]; show cellsEq _ _ = true; simpa using h13⟩
                                  · omega
                                  · refine ⟨?_, ?_, ?_, ?_, ?_, ?_, trivial⟩ <;> rfl
                                  · exact ⟨_, (by repeat first | with_reducible exact .nil _ | with_reducible exact .here _ _ | with_reducible exact Take.self _ | with_reducible apply Take.cons | with_reducible apply Out.there | with_reducible apply Take.skip | with_reducible exact Take.pre _ _ | with_reducible apply Out.app)⟩
                              · try simp only [decide_eq_true_eq, decide_eq_false_iff_not, Bool.not_eq_true', Bool.not_eq_false', beq_iff_eq, bne_iff_ne, beq_eq_false_iff_ne, bne_eq_false_iff_eq, Int.not_lt, Int.not_le, gt_iff_lt, ge_iff_le, ne_eq] at h12
                                refine X_exit ?_
                                refine thenX_exit ?_
                                refine loopQ_exit ?_
                                refine inBlk_here ?_
                                refine inBlk_normal ?_
                                refine thenX_normal ?_
                                refine X_region ?_
                                refine XL_det .no (D_pure rfl) rfl ?_
                                refine XL_det .no (D_add rfl rfl (by omega) (by omega)) rfl ?_
                                refine XL_det .no (D_pure rfl) rfl ?_
                                refine XL_nil ?_
                                refine loopQ_next (i + 1) ?_ ?_ ?_ ?_
                                · exact ⟨by omega, fun j hj => by rcases Nat.lt_succ_iff_lt_or_eq.1 hj with h | rfl; exact hM j h; unfold mdEq; rw [eqAt_in hgp hgq, eqAt_in hgp hgq, qSame_t (by omega) (fun j hj => hQ j (by omega))]; simp; exact bv_eq' (by assumption)⟩
                                · omega
                                · refine ⟨?_, ?_, ?_, trivial⟩ <;> rfl
                                · exact ⟨_, (by repeat first | with_reducible exact .nil _ | with_reducible exact .here _ _ | with_reducible exact Take.self _ | with_reducible apply Take.cons | with_reducible apply Out.there | with_reducible apply Take.skip | with_reducible exact Take.pre _ _ | with_reducible apply Out.app)⟩
                    · try simp only [decide_eq_true_eq, decide_eq_false_iff_not, Bool.not_eq_true', Bool.not_eq_false', beq_iff_eq, bne_iff_ne, beq_eq_false_iff_ne, bne_eq_false_iff_eq, Int.not_lt, Int.not_le, gt_iff_lt, ge_iff_le, ne_eq] at h9
                      have hMa : ∀ j, j < x.modes.l.length → mdEq x.modes.l y.modes.l j = true := fun j hj => hM j (by omega)
                      refine X_exit ?_
                      refine thenX_exit ?_
                      refine loopQ_exit ?_
                      refine inBlk_here ?_
                      refine thenX_normal ?_
                      refine X_seq ?_
                      refine X_region ?_
                      refine XL_det .no (D_pure rfl) rfl ?_
                      refine XL_then ?_
                      refine X_ret ?_
                      refine ret_ok (.nil _) (res_tmp rfl rfl) ?_
                      exact ⟨_, ⟨by rw [sameI_t ⟨h1, by omega, by omega, by omega, hTa, hEa, hMa⟩], rfl⟩, _, (by repeat first | with_reducible exact .nil _ | with_reducible exact .here _ _ | with_reducible exact Take.self _ | with_reducible apply Take.cons | with_reducible apply Out.there | with_reducible apply Take.skip | with_reducible exact Take.pre _ _ | with_reducible apply Out.app)⟩

end Go.Proofs.Ytjcpggoodbkedaa
end

section
namespace Go.Proofs.Ytjcpggoodbkedaa
open Go Go.Sl
set_option linter.unusedVariables false
set_option linter.unusedSimpArgs false
set_option maxRecDepth 4000
variable {B : Nat} {K : Asrt B}
theorem en_29 : Go.Proofs.Enters Try.prog 29 := Go.Proofs.enters_of Try.func29 (by kernel_rfl) rfl
theorem en_31 : Go.Proofs.Enters Try.prog 31 := Go.Proofs.enters_of Try.func31 (by kernel_rfl) rfl
theorem eqg_69 : Try.prog.eqGuardType Try.prog.depth 69 = false := by kernel_rfl
theorem eqk_69 : eqKinds Try.prog 12 69 = some [some .i64, some .i64, none, none] := by kernel_rfl

def flipT (t : Tn) : Tn := ⟨t.kind, t.pl, t.new, t.old⟩
theorem fT_comm (x y : Nat → Int) : fT x y = fT y x := by
  have h : ∀ k, (x k == y k) = (y k == x k) := fun k => BEq.comm
  simp only [fT, cellsEq, veq, h]
theorem fE_comm (x y : Nat → Int) : fE x y = fE y x := by
  have h : ∀ k, (x k == y k) = (y k == x k) := fun k => BEq.comm
  simp only [fE, cellsEq, veq, h]
theorem fQ_comm (x y : Nat → Int) : cellsEq (encQ x) (encQ y) = cellsEq (encQ y) (encQ x) := by
  have h : ∀ k, (x k == y k) = (y k == x k) := fun k => BEq.comm
  simp only [cellsEq, veq, h]
theorem fT_self (x : Nat → Int) : fT x x = true := by simp [fT, cellsEq, veq]
theorem fE_self (x : Nat → Int) : fE x x = true := by simp [fE, cellsEq, veq]
theorem fQ_self (x : Nat → Int) : cellsEq (encQ x) (encQ x) = true := by simp [cellsEq, veq]
theorem tn_same (t : Tn) : cellsEq (encN t) (encN t) = true := by simp [cellsEq, veq]
theorem eqAt_comm {α : Type} {f : α → α → Bool} (h : ∀ x y, f x y = f y x) (a b : List α) (i : Nat) : eqAt f a b i = eqAt f b a i := by
  unfold eqAt
  cases a[i]? <;> cases b[i]? <;> first | rfl | exact h _ _
theorem eqAt_self {α : Type} {f : α → α → Bool} (h : ∀ x, f x x = true) (a : List α) (i : Nat) : eqAt f a a i = true := by
  unfold eqAt
  cases a[i]? with
  | none => rfl
  | some x => exact h x
theorem qSame_comm (a b : List (Nat → Int)) : qSame a b = qSame b a := by
  by_cases hl : a.length = b.length
  · unfold qSame
    rw [decide_eq_true hl, decide_eq_true hl.symm, hl]
    congr 1
    apply List.all_congr rfl
    intro i
    exact eqAt_comm fQ_comm a b i
  · rw [qSame_len hl, qSame_len (fun e => hl e.symm)]
theorem qSame_self (a : List (Nat → Int)) : qSame a a = true := qSame_t rfl fun j _ => eqAt_self fQ_self a j
theorem both_comm (n m i : Nat) : both_ n m i = both_ m n i := Bool.and_comm _ _
theorem plT_flip {α : Type} {k : Int} {f : α → α → Bool} (h : ∀ x y, f x y = f y x) (a b : List α) (i : Nat) : plT k f b a i = (plT k f a b i).map flipT := by
  unfold plT; rw [both_comm b.length, eqAt_comm h b a]
  split <;> rfl
theorem mdT_flip (a b : List Mode) (i : Nat) : mdT b a i = (mdT a b i).map flipT := by
  unfold mdT
  rw [both_comm b.length, eqAt_comm (f := fun x y => x.tasks == y.tasks) (fun x y => BEq.comm) b a, eqAt_comm (f := fun x y => qSame x.q.l y.q.l) (fun x y => qSame_comm _ _) b a]
  split
  · rw [List.map_append]; congr 1 <;> split <;> rfl
  · rfl
theorem upTo_flip {f g : Nat → List Tn} (h : ∀ i, g i = (f i).map flipT) (n : Nat) : upTo n g = (upTo n f).map flipT := by
  induction n with
  | zero => rfl
  | succ n ih => rw [upTo_s, upTo_s, List.map_append, ih, h]
theorem diffOf_flip (x y : Img) : diffOf y x = (diffOf x y).map flipT := by
  unfold diffOf
  rw [List.map_append, List.map_append, List.map_append]
  have h1 : resT y x = (resT x y).map flipT := by
    unfold resT
    by_cases e : x.res = y.res
    · rw [if_pos e, if_pos e.symm]; rfl
    · rw [if_neg e, if_neg (fun h => e h.symm)]; rfl
  have mc : ∀ n m : Nat, mx n m = mx m n := fun n m => Nat.max_comm n m
  rw [h1, mc y.tasks.l.length, mc y.modes.l.length, mc y.edges.l.length]
  congr 1
  · congr 1
    · congr 1
      exact upTo_flip (plT_flip fT_comm _ _) _
    · exact upTo_flip (mdT_flip _ _) _
  · exact upTo_flip (plT_flip fE_comm _ _) _
theorem upTo_nil {α : Type} {f : Nat → List α} : ∀ {n : Nat}, upTo n f = [] ↔ ∀ i, i < n → f i = []
  | 0 => ⟨fun _ i h => by omega, fun _ => rfl⟩
  | n + 1 => by
    rw [upTo_s, List.append_eq_nil_iff, upTo_nil (n := n)]
    exact ⟨fun h i hi => (Nat.lt_succ_iff_lt_or_eq.1 hi).elim (h.1 i) (fun e => e ▸ h.2), fun h => ⟨fun i hi => h i (by omega), h n (by omega)⟩⟩
theorem both_eq {n m : Nat} (h : ∀ i, i < mx n m → both_ n m i = true) : n = m := by
  apply Classical.byContradiction; intro hne
  have h1 : min n m < mx n m := by show min n m < max n m; omega
  have := h _ h1
  rw [both_f (by omega)] at this; cases this
theorem plT_nil {α : Type} {k : Int} {f : α → α → Bool} {a b : List α} : (∀ i, i < mx a.length b.length → plT k f a b i = []) ↔ a.length = b.length ∧ ∀ i, i < a.length → eqAt f a b i = true := by
  have key : ∀ i, plT k f a b i = [] ↔ both_ a.length b.length i = true ∧ eqAt f a b i = true := fun i => by
    unfold plT
    rw [← Bool.and_eq_true]
    cases both_ a.length b.length i && eqAt f a b i <;> simp
  constructor
  · intro h
    have e : a.length = b.length := both_eq fun i hi => ((key i).1 (h i hi)).1
    exact ⟨e, fun i hi => ((key i).1 (h i (by show i < max _ _; omega))).2⟩
  · rintro ⟨e, h⟩ i hi
    have hi' : i < a.length := by have : i < max a.length b.length := hi; omega
    exact (key i).2 ⟨both_t hi' (by omega), h i hi'⟩
theorem mdT_nil {a b : List Mode} : (∀ i, i < mx a.length b.length → mdT a b i = []) ↔ a.length = b.length ∧ ∀ i, i < a.length → mdEq a b i = true := by
  have key : ∀ i, mdT a b i = [] ↔ both_ a.length b.length i = true ∧ mdEq a b i = true := fun i => by
    unfold mdT mdEq
    cases both_ a.length b.length i <;> cases eqAt (fun x y : Mode => x.tasks == y.tasks) a b i <;> cases eqAt (fun x y : Mode => qSame x.q.l y.q.l) a b i <;> simp
  constructor
  · intro h
    have e : a.length = b.length := both_eq fun i hi => ((key i).1 (h i hi)).1
    exact ⟨e, fun i hi => ((key i).1 (h i (by show i < max _ _; omega))).2⟩
  · rintro ⟨e, h⟩ i hi
    have hi' : i < a.length := by have : i < max a.length b.length := hi; omega
    exact (key i).2 ⟨both_t hi' (by omega), h i hi'⟩
theorem diffOf_nil {x y : Img} : diffOf x y = [] ↔ SameP x y := by
  unfold diffOf tasksT modesT edgesT
  rw [List.append_eq_nil_iff, List.append_eq_nil_iff, List.append_eq_nil_iff, upTo_nil, upTo_nil, upTo_nil, plT_nil, plT_nil, mdT_nil]
  have hr : resT x y = [] ↔ x.res = y.res := by unfold resT; by_cases e : x.res = y.res <;> simp [e]
  rw [hr]
  exact ⟨fun h => ⟨h.1.1.1, h.1.1.2.1, h.1.2.1, h.2.1, h.1.1.2.2, h.2.2, h.1.2.2⟩, fun h => ⟨⟨⟨h.res, h.lt, h.tasks⟩, h.lm, h.modes⟩, h.le, h.edges⟩⟩
theorem same_self (x : Img) : SameP x x := ⟨rfl, rfl, rfl, rfl, fun j _ => eqAt_self fT_self _ j, fun j _ => eqAt_self fE_self _ j, fun j _ => by
  unfold mdEq; rw [eqAt_self (f := fun x y : Mode => x.tasks == y.tasks) (fun x => beq_self_eq_true _), eqAt_self (f := fun x y : Mode => qSame x.q.l y.q.l) (fun x => qSame_self _)]; rfl⟩
theorem diffOf_self (x : Img) : diffOf x x = [] := diffOf_nil.2 (same_self x)
theorem same_len (x y : Img) : (((diffOf x y).length : Int) == 0 : Bool) = sameI x y := by
  by_cases h : SameP x y
  · rw [sameI_t h, diffOf_nil.2 h]; rfl
  · rw [sameI_f h]
    have : (diffOf x y).length ≠ 0 := fun e => h (diffOf_nil.1 (List.length_eq_zero_iff.1 e))
    simp; exact fun e => this (by rw [e]; rfl)
theorem upTo_mem {α : Type} {f : Nat → List α} {t : α} : ∀ {n : Nat}, t ∈ upTo n f → ∃ i, i < n ∧ t ∈ f i
  | 0, h => by cases h
  | n + 1, h => by
    rw [upTo_s] at h
    rcases List.mem_append.1 h with h | h
    · obtain ⟨i, hi, ht⟩ := upTo_mem h; exact ⟨i, by omega, ht⟩
    · exact ⟨n, by omega, h⟩
theorem tnAt_ok {k : Int} {n m i : Nat} (h1 : 1 ≤ k) (h2 : k ≤ 5) (hi : i < mx n m) : okD (tnAt k n m i) = true := by
  refine okD_i h1 h2 (by show 0 ≤ (i : Int); omega) ?_
  have hi : i < max n m := hi
  by_cases hn : i < n
  · exact .inl (decide_eq_true (by omega))
  · exact .inr (decide_eq_true (by omega))
theorem diffOf_ok {x y : Img} {t : Tn} (h : t ∈ diffOf x y) : okD t = true := by
  unfold diffOf tasksT modesT edgesT at h
  rcases List.mem_append.1 h with h | h
  · rcases List.mem_append.1 h with h | h
    · rcases List.mem_append.1 h with h | h
      · unfold resT at h; split at h
        · cases h
        · have := List.mem_singleton.1 h; subst this; decide
      · obtain ⟨i, hi, ht⟩ := upTo_mem h
        unfold plT at ht; split at ht
        · cases ht
        · have := List.mem_singleton.1 ht; subst this; exact tnAt_ok (by decide) (by decide) hi
    · obtain ⟨i, hi, ht⟩ := upTo_mem h
      unfold mdT at ht; split at ht
      · rcases List.mem_append.1 ht with ht | ht
        · split at ht
          · cases ht
          · have := List.mem_singleton.1 ht; subst this; exact okD_i (by show (1 : Int) ≤ 3; decide) (by show (3 : Int) ≤ 5; decide) (by show 0 ≤ (i : Int); omega) (.inl rfl)
        · split at ht
          · cases ht
          · have := List.mem_singleton.1 ht; subst this; exact okD_i (by show (1 : Int) ≤ 4; decide) (by show (4 : Int) ≤ 5; decide) (by show 0 ≤ (i : Int); omega) (.inl rfl)
      · have := List.mem_singleton.1 ht; subst this; exact tnAt_ok (by decide) (by decide) hi
  · obtain ⟨i, hi, ht⟩ := upTo_mem h
    unfold plT at ht; split at ht
    · cases ht
    · have := List.mem_singleton.1 ht; subst this; exact tnAt_ok (by decide) (by decide) hi
theorem line_some {t : Tn} (h : okD t = true) : (lineD t == []) = false := by rw [lineD_t h]; simp
theorem diff_len {x y : Img} (sx : Small x) (sy : Small y) : (diffOf x y).length ≤ 9000 := pre_len5 sx sy (by have := sx.edges; have := sy.edges; show max _ _ ≤ 1000; omega)
theorem neq_f {m n : Int} (h : m = n) : some (Value.bool (m != n)) = some (.bool false) := by simp [h]

theorem diffTurns (x y : Img) (hx : x.In K) (hy : y.In K) : Ctr Try.prog B 7 [x.v, y.v] [K] (fun v S => v = .bool true ∧ S = [K]) := by
  refine Ctr_of_X (N := 82) Try.func7 rfl (by simp) rfl ?_
  intro w0 D0
  refine X_seq ?_
  refine X_region ?_
  refine XL_box .no rfl rfl rfl (fun b1 => ?_)
  refine XL_box .no rfl rfl rfl (fun b2 => ?_)
  refine XL_det .no (D_pure rfl) rfl ?_
  refine XL_then ?_
  refine X_seq ?_
  refine X_seq ?_
  refine X_region ?_
  refine XL_det .no (D_ldso (vs := [.int .i64 x.res, .slice x.tasks.oad x.tasks.l.length x.tasks.c, .slice x.modes.oad x.modes.l.length x.modes.c, .slice x.edges.oad x.edges.l.length x.edges.c]) rfl (by repeat first | with_reducible exact .here _ _ | with_reducible apply Out.there | with_reducible apply Out.app) tk_62 rfl (by rfl)) rfl ?_
  refine XL_callk .no en_29 rfl (rgreat x hx) (by repeat first | with_reducible exact .nil _ | with_reducible exact .here _ _ | with_reducible exact Take.self _ | with_reducible apply Take.cons | with_reducible apply Out.there | with_reducible apply Take.skip | with_reducible exact Take.pre _ _ | with_reducible apply Out.app) rfl ?_
  refine XL_det .no (D_pure rfl) rfl ?_
  refine XL_split (t := 10) rfl (fun h1 => ?_) (fun h1 => ?_)
  · try simp only [decide_eq_true_eq, decide_eq_false_iff_not, Bool.not_eq_true', Bool.not_eq_false', beq_iff_eq, bne_iff_ne, beq_eq_false_iff_ne, bne_eq_false_iff_eq, Int.not_lt, Int.not_le, gt_iff_lt, ge_iff_le, ne_eq] at h1
    refine XL_skip 10 rfl rfl rfl rfl rfl ?_
    refine XL_skip 10 rfl rfl rfl rfl rfl ?_
    refine XL_det .no (D_pure rfl) rfl ?_
    refine XL_then ?_
    refine X_cond_t rfl rfl ?_
    refine X_seq ?_
    refine X_region ?_
    refine XL_det .no (D_pure rfl) rfl ?_
    refine XL_then ?_
    refine X_ret ?_
    refine thenX_ret ?_
    refine ret_ok (.nil _) (res_tmp rfl rfl) ?_
    exact ⟨_, ⟨rfl, rfl⟩, _, (by repeat first | with_reducible exact .nil _ | with_reducible exact .here _ _ | with_reducible exact Take.self _ | with_reducible apply Take.cons | with_reducible apply Out.there | with_reducible apply Take.skip | with_reducible exact Take.pre _ _ | with_reducible apply Out.app)⟩
  · try simp only [decide_eq_true_eq, decide_eq_false_iff_not, Bool.not_eq_true', Bool.not_eq_false', beq_iff_eq, bne_iff_ne, beq_eq_false_iff_ne, bne_eq_false_iff_eq, Int.not_lt, Int.not_le, gt_iff_lt, ge_iff_le, ne_eq] at h1
    refine XL_det (.yes 10 rfl rfl rfl) (D_ldso (vs := [.int .i64 y.res, .slice y.tasks.oad y.tasks.l.length y.tasks.c, .slice y.modes.oad y.modes.l.length y.modes.c, .slice y.edges.oad y.edges.l.length y.edges.c]) rfl (by repeat first | with_reducible exact .here _ _ | with_reducible apply Out.there | with_reducible apply Out.app) tk_62 rfl (by rfl)) rfl ?_
    refine XL_callk (.yes 10 rfl rfl rfl) en_29 rfl (rgreat y hy) (by repeat first | with_reducible exact .nil _ | with_reducible exact .here _ _ | with_reducible exact Take.self _ | with_reducible apply Take.cons | with_reducible apply Out.there | with_reducible apply Take.skip | with_reducible exact Take.pre _ _ | with_reducible apply Out.app) rfl ?_
    refine XL_det .no (D_pure rfl) rfl ?_
    refine XL_then ?_
    refine X_cond rfl (fun h2 => ?_) (fun h2 => ?_)
    · try simp only [decide_eq_true_eq, decide_eq_false_iff_not, Bool.not_eq_true', Bool.not_eq_false', beq_iff_eq, bne_iff_ne, beq_eq_false_iff_ne, bne_eq_false_iff_eq, Int.not_lt, Int.not_le, gt_iff_lt, ge_iff_le, ne_eq] at h2
      refine X_seq ?_
      refine X_region ?_
      refine XL_det .no (D_pure rfl) rfl ?_
      refine XL_then ?_
      refine X_ret ?_
      refine thenX_ret ?_
      refine ret_ok (.nil _) (res_tmp rfl rfl) ?_
      exact ⟨_, ⟨rfl, rfl⟩, _, (by repeat first | with_reducible exact .nil _ | with_reducible exact .here _ _ | with_reducible exact Take.self _ | with_reducible apply Take.cons | with_reducible apply Out.there | with_reducible apply Take.skip | with_reducible exact Take.pre _ _ | with_reducible apply Out.app)⟩
    · try simp only [decide_eq_true_eq, decide_eq_false_iff_not, Bool.not_eq_true', Bool.not_eq_false', beq_iff_eq, bne_iff_ne, beq_eq_false_iff_ne, bne_eq_false_iff_eq, Int.not_lt, Int.not_le, gt_iff_lt, ge_iff_le, ne_eq] at h2
      have gx : greatB x = false := h1
      have gy : greatB y = false := h2
      have sx := great_Small gx
      have sy := great_Small gy
      refine X_skip ?_
      refine thenX_normal ?_
      refine X_seq ?_
      refine X_draw [blk b1 [.int .i64 x.res, .slice x.tasks.oad x.tasks.l.length x.tasks.c, .slice x.modes.oad x.modes.l.length x.modes.c, .slice x.edges.oad x.edges.l.length x.edges.c] 62, blk b2 [.int .i64 y.res, .slice y.tasks.oad y.tasks.l.length y.tasks.c, .slice y.modes.oad y.modes.l.length y.modes.c, .slice y.edges.oad y.edges.l.length y.edges.c] 62, K] mixed (by repeat first | with_reducible exact .nil _ | with_reducible exact .here _ _ | with_reducible exact Take.self _ | with_reducible apply Take.cons | with_reducible apply Out.there | with_reducible apply Take.skip | with_reducible exact Take.pre _ _ | with_reducible apply Out.app) ?_
      refine XA_det 0 rfl (by kernel_rfl) (by kernel_rfl) (by kernel_rfl) (by kernel_rfl) (fun _ _ _ _ h => h) .no (D_ldso (vs := [.int .i64 x.res, .slice x.tasks.oad x.tasks.l.length x.tasks.c, .slice x.modes.oad x.modes.l.length x.modes.c, .slice x.edges.oad x.edges.l.length x.edges.c]) rfl (by repeat first | with_reducible exact .here _ _ | with_reducible apply Out.there | with_reducible apply Out.app) tk_62 rfl (by rfl)) rfl ?_
      refine XA_det 1 rfl (by kernel_rfl) (by kernel_rfl) (by kernel_rfl) (by kernel_rfl) (fun _ _ _ _ h => h) .no (D_ldso (vs := [.int .i64 y.res, .slice y.tasks.oad y.tasks.l.length y.tasks.c, .slice y.modes.oad y.modes.l.length y.modes.c, .slice y.edges.oad y.edges.l.length y.edges.c]) rfl (by repeat first | with_reducible exact .here _ _ | with_reducible apply Out.there | with_reducible apply Out.app) tk_62 rfl (by rfl)) rfl ?_
      refine XA_det 3 rfl (by kernel_rfl) (by kernel_rfl) (by kernel_rfl) (by kernel_rfl) (fun _ _ _ _ h => h) .no (D_ldso (vs := [.int .i64 y.res, .slice y.tasks.oad y.tasks.l.length y.tasks.c, .slice y.modes.oad y.modes.l.length y.modes.c, .slice y.edges.oad y.edges.l.length y.edges.c]) rfl (by repeat first | with_reducible exact .here _ _ | with_reducible apply Out.there | with_reducible apply Out.app) tk_62 rfl (by rfl)) rfl ?_
      refine XA_det 4 rfl (by kernel_rfl) (by kernel_rfl) (by kernel_rfl) (by kernel_rfl) (fun _ _ _ _ h => h) .no (D_ldso (vs := [.int .i64 x.res, .slice x.tasks.oad x.tasks.l.length x.tasks.c, .slice x.modes.oad x.modes.l.length x.modes.c, .slice x.edges.oad x.edges.l.length x.edges.c]) rfl (by repeat first | with_reducible exact .here _ _ | with_reducible apply Out.there | with_reducible apply Out.app) tk_62 rfl (by rfl)) rfl ?_
      refine XA_one 2 (by kernel_rfl) ?_
      refine XO_callc rfl .no en_30 rfl (by repeat first | with_reducible exact .nil _ | with_reducible apply App.cons) (dOf x y hx hy sx sy) (by repeat first | with_reducible exact .nil _ | with_reducible exact .here _ _ | with_reducible exact Take.self _ | with_reducible apply Take.cons | with_reducible apply Out.there | with_reducible apply Take.skip | with_reducible exact Take.pre _ _ | with_reducible apply Out.app) rfl ?_
      rintro _ _ ⟨o1, ⟨ho1, ho1o⟩, rfl, rfl⟩
      simp only [List.cons_append, List.nil_append]
      refine ⟨[row (.slice o1.oad o1.l.length o1.c) 69 4 o1.l.length (o1.l.flatMap encN)], _, _, (by repeat first | with_reducible exact .nil _ | with_reducible apply App.cons), (by repeat first | with_reducible exact .nil _ | with_reducible exact .here _ _ | with_reducible exact Take.self _ | with_reducible apply Take.cons | with_reducible apply Out.there | with_reducible apply Take.skip | with_reducible exact Take.pre _ _ | with_reducible apply Out.app), ?_⟩
      refine XA_one 5 (by kernel_rfl) ?_
      refine XO_callc rfl .no en_30 rfl (by repeat first | with_reducible exact .nil _ | with_reducible apply App.cons) (dOf y x hy hx sy sx) (by repeat first | with_reducible exact .nil _ | with_reducible exact .here _ _ | with_reducible exact Take.self _ | with_reducible apply Take.cons | with_reducible apply Out.there | with_reducible apply Take.skip | with_reducible exact Take.pre _ _ | with_reducible apply Out.app) rfl ?_
      rintro _ _ ⟨o2, ⟨ho2, ho2o⟩, rfl, rfl⟩
      simp only [List.cons_append, List.nil_append]
      refine ⟨[row (.slice o2.oad o2.l.length o2.c) 69 4 o2.l.length (o2.l.flatMap encN), row (.slice o1.oad o1.l.length o1.c) 69 4 o1.l.length (o1.l.flatMap encN)], _, _, (by repeat first | with_reducible exact .nil _ | with_reducible apply App.cons), (by repeat first | with_reducible exact .nil _ | with_reducible exact .here _ _ | with_reducible exact Take.self _ | with_reducible apply Take.cons | with_reducible apply Out.there | with_reducible apply Take.skip | with_reducible exact Take.pre _ _ | with_reducible apply Out.app), ?_⟩
      refine XA_detp 6 rfl (by kernel_rfl) (by kernel_rfl) (by kernel_rfl) (fun _ _ _ _ h => h) .no (D_pureP rfl) rfl ?_
      refine XA_detp 7 rfl (by kernel_rfl) (by kernel_rfl) (by kernel_rfl) (fun _ _ _ _ h => h) .no (D_pureP rfl) rfl ?_
      refine XA_done (by kernel_rfl) ?_
      try simp only [List.cons_append, List.nil_append, List.append_nil]
      refine thenX_normal ?_
      refine X_seq ?_
      refine X_seq ?_
      refine X_region ?_
      refine XL_det .no (D_pure rfl) rfl ?_
      refine XL_det .no (D_len rfl rfl slc_64) rfl ?_
      refine XL_det .no (D_pure rfl) rfl ?_
      refine XL_det .no (D_len rfl rfl slc_64) rfl ?_
      refine XL_det .no (D_pure (v := .bool false) (neq_f (by rw [ho2, diffOf_flip x y, List.length_map, ho1]))) rfl ?_
      refine XL_det .no (D_pure rfl) rfl ?_
      refine XL_det (.yes 25 rfl rfl rfl) (D_pure rfl) rfl ?_
      refine XL_det (.yes 25 rfl rfl rfl) (D_len rfl rfl slc_64) rfl ?_
      refine XL_det (.yes 25 rfl rfl rfl) (D_pure (v := .bool (sameI x y)) (by rw [← same_len, ← ho1]; rfl)) rfl ?_
      refine XL_det (.yes 25 rfl rfl rfl) (D_ldso (vs := [.int .i64 x.res, .slice x.tasks.oad x.tasks.l.length x.tasks.c, .slice x.modes.oad x.modes.l.length x.modes.c, .slice x.edges.oad x.edges.l.length x.edges.c]) rfl (by repeat first | with_reducible exact .here _ _ | with_reducible apply Out.there | with_reducible apply Out.app) tk_62 rfl (by rfl)) rfl ?_
      refine XL_det (.yes 25 rfl rfl rfl) (D_ldso (vs := [.int .i64 y.res, .slice y.tasks.oad y.tasks.l.length y.tasks.c, .slice y.modes.oad y.modes.l.length y.modes.c, .slice y.edges.oad y.edges.l.length y.edges.c]) rfl (by repeat first | with_reducible exact .here _ _ | with_reducible apply Out.there | with_reducible apply Out.app) tk_62 rfl (by rfl)) rfl ?_
      refine XL_callk (.yes 25 rfl rfl rfl) en_31 rfl (rSame x y hx hy) (by repeat first | with_reducible exact .nil _ | with_reducible exact .here _ _ | with_reducible exact Take.self _ | with_reducible apply Take.cons | with_reducible apply Out.there | with_reducible apply Take.skip | with_reducible exact Take.pre _ _ | with_reducible apply Out.app) rfl ?_
      refine XL_det (.yes 25 rfl rfl rfl) (D_eqb (b := false) rfl rfl ub_4 (by show (_ != _) = false; simp)) rfl ?_
      refine XL_det .no (D_pure rfl) rfl ?_
      refine XL_det .no (D_pure rfl) rfl ?_
      refine XL_det (.yes 34 rfl rfl rfl) (D_ldso (vs := [.int .i64 x.res, .slice x.tasks.oad x.tasks.l.length x.tasks.c, .slice x.modes.oad x.modes.l.length x.modes.c, .slice x.edges.oad x.edges.l.length x.edges.c]) rfl (by repeat first | with_reducible exact .here _ _ | with_reducible apply Out.there | with_reducible apply Out.app) tk_62 rfl (by rfl)) rfl ?_
      refine XL_det (.yes 34 rfl rfl rfl) (D_ldso (vs := [.int .i64 x.res, .slice x.tasks.oad x.tasks.l.length x.tasks.c, .slice x.modes.oad x.modes.l.length x.modes.c, .slice x.edges.oad x.edges.l.length x.edges.c]) rfl (by repeat first | with_reducible exact .here _ _ | with_reducible apply Out.there | with_reducible apply Out.app) tk_62 rfl (by rfl)) rfl ?_
      refine XL_call (.yes 34 rfl rfl rfl) en_30 rfl (dOf x x hx hx sx sx) (by repeat first | with_reducible exact .nil _ | with_reducible exact .here _ _ | with_reducible exact Take.self _ | with_reducible apply Take.cons | with_reducible apply Out.there | with_reducible apply Take.skip | with_reducible exact Take.pre _ _ | with_reducible apply Out.app) rfl ?_
      rintro _ _ ⟨o3, ⟨ho3, ho3o⟩, rfl, rfl⟩
      simp only [List.cons_append, List.nil_append]
      rw [diffOf_self] at ho3
      refine XL_det (.yes 34 rfl rfl rfl) (D_len rfl rfl slc_64) rfl ?_
      refine XL_det (.yes 34 rfl rfl rfl) (D_pure (v := .bool false) (neq_f (by rw [ho3]; rfl))) rfl ?_
      refine XL_det .no (D_pure rfl) rfl ?_
      refine XL_then ?_
      refine X_cond_f rfl rfl ?_
      refine X_skip ?_
      refine thenX_normal ?_
      refine X_seq ?_
      refine X_seq ?_
      refine X_region ?_
      refine XL_det .no (D_pure rfl) rfl ?_
      refine XL_then ?_
      refine X_block ?_
      refine X_loop (α := Nat) (fun i => i ≤ o1.l.length) (fun i => [(7, .int .i64 (i : Int)), (5, .slice o1.oad o1.l.length o1.c), (6, .slice o2.oad o2.l.length o2.c)]) (fun i => [row (.slice o1.oad o1.l.length o1.c) 69 4 o1.l.length (o1.l.flatMap encN), row (.slice o2.oad o2.l.length o2.c) 69 4 o2.l.length (o2.l.flatMap encN), K]) (fun i => o1.l.length - i) 0 ?_ (by refine ⟨?_, ?_, ?_, trivial⟩ <;> rfl) (by repeat first | with_reducible exact .nil _ | with_reducible exact .here _ _ | with_reducible exact Take.self _ | with_reducible apply Take.cons | with_reducible apply Out.there | with_reducible apply Take.skip | with_reducible exact Take.pre _ _ | with_reducible apply Out.app) ?_
      · exact Nat.zero_le _
      · intro i hi
        have hsm := o1.small
        refine X_seq ?_
        refine X_seq ?_
        refine X_region ?_
        refine XL_det .no (D_pure rfl) rfl ?_
        refine XL_det .no (D_pure rfl) rfl ?_
        refine XL_det .no (D_len rfl rfl slc_64) rfl ?_
        refine XL_det .no (D_pure rfl) rfl ?_
        refine XL_then ?_
        refine X_cond rfl (fun h3 => ?_) (fun h3 => ?_)
        · try simp only [decide_eq_true_eq, decide_eq_false_iff_not, Bool.not_eq_true', Bool.not_eq_false', beq_iff_eq, bne_iff_ne, beq_eq_false_iff_ne, bne_eq_false_iff_eq, Int.not_lt, Int.not_le, gt_iff_lt, ge_iff_le, ne_eq] at h3
          obtain ⟨t, hg1⟩ : ∃ t, o1.l[i]? = some t := ⟨_, List.getElem?_eq_getElem (by omega)⟩
          have hg2 : o2.l[i]? = some (flipT t) := by rw [ho2, diffOf_flip x y, List.getElem?_map, ← ho1, hg1]; rfl
          have hok : okD t = true := diffOf_ok (by rw [← ho1]; exact List.mem_of_getElem? hg1)
          have hol : o2.l.length = o1.l.length := by rw [ho2, diffOf_flip x y, List.length_map, ho1]
          refine X_skip ?_
          refine thenX_normal ?_
          refine X_seq ?_
          refine X_block ?_
          refine X_seq ?_
          refine X_draw _ mixed (Take.self _) ?_
          refine XA_detp 0 rfl (by kernel_rfl) (by kernel_rfl) (by kernel_rfl) (fun _ _ _ _ h => h) .no (D_pureP rfl) rfl ?_
          refine XA_detp 1 rfl (by kernel_rfl) (by kernel_rfl) (by kernel_rfl) (fun _ _ _ _ h => h) .no (D_pureP rfl) rfl ?_
          refine XA_detp 2 rfl (by kernel_rfl) (by kernel_rfl) (by kernel_rfl) (fun _ _ _ _ h => h) .no (D_idxSoP rfl rfl slc_64 (o2).nil0 rfl (by omega) rfl) rfl ?_
          refine XA_det 3 rfl (by kernel_rfl) (by kernel_rfl) (by kernel_rfl) (by kernel_rfl) (fun _ _ _ _ h => h) .no (D_els (enc := encN) (sz := 4) (i := i) (fun _ => rfl) rfl (by repeat first | with_reducible exact .here _ _ | with_reducible apply Out.there | with_reducible apply Out.app) (Rd_own ho2o rfl) tk_69 hg2) rfl ?_
          refine XA_detp 4 rfl (by kernel_rfl) (by kernel_rfl) (by kernel_rfl) (fun _ _ _ _ h => h) .no (D_pureP rfl) rfl ?_
          refine XA_detp 5 rfl (by kernel_rfl) (by kernel_rfl) (by kernel_rfl) (fun _ _ _ _ h => h) .no (D_pureP rfl) rfl ?_
          refine XA_detp 6 rfl (by kernel_rfl) (by kernel_rfl) (by kernel_rfl) (fun _ _ _ _ h => h) .no (D_idxSoP rfl rfl slc_64 (o1).nil0 rfl (by omega) rfl) rfl ?_
          refine XA_detp 7 rfl (by kernel_rfl) (by kernel_rfl) (by kernel_rfl) (fun _ _ _ _ h => h) .no (D_fldAP rfl fld_69_0 rfl) rfl ?_
          refine XA_det 8 rfl (by kernel_rfl) (by kernel_rfl) (by kernel_rfl) (by kernel_rfl) (fun _ _ _ _ h => h) .no (D_ela (enc := encN) (sz := 4) (i := i) (k := 0) (fun _ => rfl) rfl (by repeat first | with_reducible exact .here _ _ | with_reducible apply Out.there | with_reducible apply Out.app) (Rd_own ho1o rfl) tk_67 hg1 rfl) rfl ?_
          refine XA_detp 9 rfl (by kernel_rfl) (by kernel_rfl) (by kernel_rfl) (fun _ _ _ _ h => h) .no (D_pureP rfl) rfl ?_
          refine XA_detp 10 rfl (by kernel_rfl) (by kernel_rfl) (by kernel_rfl) (fun _ _ _ _ h => h) .no (D_pureP rfl) rfl ?_
          refine XA_detp 11 rfl (by kernel_rfl) (by kernel_rfl) (by kernel_rfl) (fun _ _ _ _ h => h) .no (D_idxSoP rfl rfl slc_64 (o1).nil0 rfl (by omega) rfl) rfl ?_
          refine XA_detp 12 rfl (by kernel_rfl) (by kernel_rfl) (by kernel_rfl) (fun _ _ _ _ h => h) .no (D_fldAP rfl fld_69_1 rfl) rfl ?_
          refine XA_det 13 rfl (by kernel_rfl) (by kernel_rfl) (by kernel_rfl) (by kernel_rfl) (fun _ _ _ _ h => h) .no (D_ela (enc := encN) (sz := 4) (i := i) (k := 1) (fun _ => rfl) rfl (by repeat first | with_reducible exact .here _ _ | with_reducible apply Out.there | with_reducible apply Out.app) (Rd_own ho1o rfl) tk_3 hg1 rfl) rfl ?_
          refine XA_detp 14 rfl (by kernel_rfl) (by kernel_rfl) (by kernel_rfl) (fun _ _ _ _ h => h) .no (D_pureP rfl) rfl ?_
          refine XA_detp 15 rfl (by kernel_rfl) (by kernel_rfl) (by kernel_rfl) (fun _ _ _ _ h => h) .no (D_pureP rfl) rfl ?_
          refine XA_detp 16 rfl (by kernel_rfl) (by kernel_rfl) (by kernel_rfl) (fun _ _ _ _ h => h) .no (D_idxSoP rfl rfl slc_64 (o1).nil0 rfl (by omega) rfl) rfl ?_
          refine XA_detp 17 rfl (by kernel_rfl) (by kernel_rfl) (by kernel_rfl) (fun _ _ _ _ h => h) .no (D_fldAP rfl fld_69_3 rfl) rfl ?_
          refine XA_det 18 rfl (by kernel_rfl) (by kernel_rfl) (by kernel_rfl) (by kernel_rfl) (fun _ _ _ _ h => h) .no (D_ela (enc := encN) (sz := 4) (i := i) (k := 3) (fun _ => rfl) rfl (by repeat first | with_reducible exact .here _ _ | with_reducible apply Out.there | with_reducible apply Out.app) (Rd_own ho1o rfl) tk_4 hg1 rfl) rfl ?_
          refine XA_detp 19 rfl (by kernel_rfl) (by kernel_rfl) (by kernel_rfl) (fun _ _ _ _ h => h) .no (D_pureP rfl) rfl ?_
          refine XA_detp 20 rfl (by kernel_rfl) (by kernel_rfl) (by kernel_rfl) (fun _ _ _ _ h => h) .no (D_pureP rfl) rfl ?_
          refine XA_detp 21 rfl (by kernel_rfl) (by kernel_rfl) (by kernel_rfl) (fun _ _ _ _ h => h) .no (D_idxSoP rfl rfl slc_64 (o1).nil0 rfl (by omega) rfl) rfl ?_
          refine XA_detp 22 rfl (by kernel_rfl) (by kernel_rfl) (by kernel_rfl) (fun _ _ _ _ h => h) .no (D_fldAP rfl fld_69_2 rfl) rfl ?_
          refine XA_det 23 rfl (by kernel_rfl) (by kernel_rfl) (by kernel_rfl) (by kernel_rfl) (fun _ _ _ _ h => h) .no (D_ela (enc := encN) (sz := 4) (i := i) (k := 2) (fun _ => rfl) rfl (by repeat first | with_reducible exact .here _ _ | with_reducible apply Out.there | with_reducible apply Out.app) (Rd_own ho1o rfl) tk_4 hg1 rfl) rfl ?_
          refine XA_det 24 rfl (by kernel_rfl) (by kernel_rfl) (by kernel_rfl) (by kernel_rfl) (fun _ _ _ _ h => h) .no (D_build [_, _, _, _] rfl bld_69 (by rfl)) rfl ?_
          refine XA_det 25 rfl (by kernel_rfl) (by kernel_rfl) (by kernel_rfl) (by kernel_rfl) (fun _ _ _ _ h => h) .no (D_eqs (b := false) (xs := encN (flipT t)) (ys := encN (flipT t)) rfl rfl eqk_69 eqg_69 rfl rfl rfl (by show (!cellsEq _ _) = false; rw [tn_same]; rfl)) rfl ?_
          refine XA_detp 26 rfl (by kernel_rfl) (by kernel_rfl) (by kernel_rfl) (fun _ _ _ _ h => h) .no (D_pureP rfl) rfl ?_
          refine XA_detp 27 rfl (by kernel_rfl) (by kernel_rfl) (by kernel_rfl) (fun _ _ _ _ h => h) (.yes 73 rfl rfl rfl) (D_pureP rfl) rfl ?_
          refine XA_detp 28 rfl (by kernel_rfl) (by kernel_rfl) (by kernel_rfl) (fun _ _ _ _ h => h) (.yes 73 rfl rfl rfl) (D_pureP rfl) rfl ?_
          refine XA_detp 29 rfl (by kernel_rfl) (by kernel_rfl) (by kernel_rfl) (fun _ _ _ _ h => h) (.yes 73 rfl rfl rfl) (D_idxSoP rfl rfl slc_64 (o1).nil0 rfl (by omega) rfl) rfl ?_
          refine XA_det 30 rfl (by kernel_rfl) (by kernel_rfl) (by kernel_rfl) (by kernel_rfl) (fun _ _ _ _ h => h) (.yes 73 rfl rfl rfl) (D_els (enc := encN) (sz := 4) (i := i) (fun _ => rfl) rfl (by repeat first | with_reducible exact .here _ _ | with_reducible apply Out.there | with_reducible apply Out.app) (Rd_own ho1o rfl) tk_69 hg1) rfl ?_
          refine XA_one 31 (by kernel_rfl) ?_
          refine XO_callv rfl (.yes 73 rfl rfl rfl) en_32 rfl (dLine t) rfl ?_
          refine XA_det 32 rfl (by kernel_rfl) (by kernel_rfl) (by kernel_rfl) (by kernel_rfl) (fun _ _ _ _ h => h) (.yes 73 rfl rfl rfl) (D_seq (b := []) (q := false) rfl rfl (line_some hok)) rfl ?_
          refine XA_detp 33 rfl (by kernel_rfl) (by kernel_rfl) (by kernel_rfl) (fun _ _ _ _ h => h) .no (D_pureP rfl) rfl ?_
          refine XA_done (by kernel_rfl) ?_
          try simp only [List.cons_append, List.nil_append, List.append_nil]
          refine thenX_normal ?_
          refine X_cond_f rfl rfl ?_
          refine X_skip ?_
          refine inBlk_normal ?_
          refine thenX_normal ?_
          refine X_region ?_
          refine XL_det .no (D_pure rfl) rfl ?_
          refine XL_det .no (D_add rfl rfl (by omega) (by omega)) rfl ?_
          refine XL_det .no (D_pure rfl) rfl ?_
          refine XL_nil ?_
          refine loopQ_next (i + 1) ?_ ?_ ?_ ?_
          · omega
          · omega
          · refine ⟨?_, ?_, ?_, trivial⟩ <;> rfl
          · exact ⟨_, (by repeat first | with_reducible exact .nil _ | with_reducible exact .here _ _ | with_reducible exact Take.self _ | with_reducible apply Take.cons | with_reducible apply Out.there | with_reducible apply Take.skip | with_reducible exact Take.pre _ _ | with_reducible apply Out.app)⟩
        · try simp only [decide_eq_true_eq, decide_eq_false_iff_not, Bool.not_eq_true', Bool.not_eq_false', beq_iff_eq, bne_iff_ne, beq_eq_false_iff_ne, bne_eq_false_iff_eq, Int.not_lt, Int.not_le, gt_iff_lt, ge_iff_le, ne_eq] at h3
          refine X_exit ?_
          refine thenX_exit ?_
          refine loopQ_exit ?_
          refine inBlk_here ?_
          refine thenX_normal ?_
          refine X_seq ?_
          refine X_region ?_
          refine XL_callv .no en_33 rfl (alive42) rfl ?_
          refine XL_det .no (D_pure rfl) rfl ?_
          refine XL_then ?_
          refine X_ret ?_
          refine ret_ok (.nil _) (res_tmp rfl rfl) ?_
          exact ⟨_, ⟨rfl, rfl⟩, _, (by repeat first | with_reducible exact .nil _ | with_reducible exact .here _ _ | with_reducible exact Take.self _ | with_reducible apply Take.cons | with_reducible apply Out.there | with_reducible apply Take.skip | with_reducible exact Take.pre _ _ | with_reducible apply Out.app)⟩

end Go.Proofs.Ytjcpggoodbkedaa
end

section
namespace Go.Proofs.Ytjcpggoodbkedaa
open Go Go.Sl Go.ChangeShapes Go.WideShapes Go.ChangeAt Go.RowKit
set_option linter.unusedVariables false
set_option maxRecDepth 20000
theorem own : ownKnob Try.prog.godebug = none := by kernel_rfl
theorem laidOut : laidOutB Try.prog = true := by kernel_rfl


theorem sz_task : (Try.prog.info? 75).map (·.size) = some 11 := by kernel_rfl
theorem sz_edge : (Try.prog.info? 113).map (·.size) = some 23 := by kernel_rfl
theorem sz_q : (Try.prog.info? 116).map (·.size) = some 2 := by kernel_rfl
theorem sl_tasks : slcOf Try.prog 58 = some (75, 11) := by kernel_rfl
theorem sl_modes : slcOf Try.prog 59 = some (104, 2) := by kernel_rfl
theorem sl_edges : slcOf Try.prog 60 = some (113, 23) := by kernel_rfl
theorem sl_qs : slcOf Try.prog 102 = some (116, 2) := by kernel_rfl
theorem shp_img : shp Try.prog 62 = some [3, 58, 59, 60] := by kernel_rfl
theorem shp_mode : shp Try.prog 104 = some [76, 102] := by kernel_rfl
theorem ui_int : Try.prog.underlying 3 = some (.int .i64) := by kernel_rfl
theorem ui_u32 : Try.prog.underlying 76 = some (.int .u32) := by kernel_rfl
/-- The fields' bounds. -/
def okT (e : Nat → Int) : Prop := fitK e 0 [some .i64, some .i64, some .i64, some .i64, some .i64, some .i64, some .i64, some .i64, some .i64, some .i64, some .i64]
def okE (e : Nat → Int) : Prop := fitK e 0 [some .i64, some .i64, some .i64, some .i64, some .i64, some .i64, some .i64, some .i64, some .i64, some .i64, some .i64, some .i64, some .i64, some .i64, some .i64, some .i64, some .i64, some .i64, some .i64, some .i64, some .i64, some .i64, some .i64]
structure Img.Ok (x : Img) : Prop where
  tasks : ∀ e ∈ x.tasks.l, okT e
  edges : ∀ e ∈ x.edges.l, okE e
theorem openImg {W : World} {v : Value} (h : ArgOk Try.prog W 62 v) : ∃ x : Img, v = x.v ∧ x.In (old (B := W.heap.size) W) ∧ x.Ok := by
  obtain ⟨H, enc, cs, rfl, p0, q0, rfl, ⟨n0, x0, h0⟩, p1, q1, rfl, ⟨n1, x1, h1⟩, p2, q2, rfl, ⟨n2, x2, h2⟩, p3, q3, rfl, ⟨n3, x3, h3⟩, rfl⟩ := arg_struct shp_img h
  obtain ⟨res, rfl, _, _⟩ := DataW.trod_int ui_int h0
  obtain ⟨ta, rfl, t1, t2⟩ := Arr.of_trod (encA := encT) (ok := okT) sl_tasks (by decide) h1 (fun n cs x hx => flat_dec eqk_75 sz_task hx)
  obtain ⟨ed, rfl, e1, e2⟩ := Arr.of_trod (encA := encE) (ok := okE) sl_edges (by decide) h3 (fun n cs x hx => flat_dec eqk_113 sz_edge hx)
  obtain ⟨mo, rfl, m1, m2⟩ := Arr.of_trod (encA := encM) (ok := fun m => Rd (old (B := W.heap.size) W) m.q.ad (m.q.l.flatMap encQ)) sl_modes (by decide) h2 (fun n cs x hx => by
    obtain ⟨p0, q0, rfl, ⟨n0, x0, h0⟩, p1, q1, rfl, ⟨n1, x1, h1⟩, rfl⟩ := struct_parts shp_mode hx
    obtain ⟨b, rfl, _, hb⟩ := DataW.trod_int ui_u32 h0
    obtain ⟨b, rfl⟩ := u32_bv hb
    obtain ⟨q, rfl, _, q2⟩ := Arr.of_trod (encA := encQ) (ok := fun _ => True) sl_qs (by decide) h1 (fun n cs x hx => by
      obtain ⟨e, he, _⟩ := flat_dec eqk_116 sz_q hx
      exact ⟨e, he, trivial⟩)
    exact ⟨⟨b, q⟩, rfl, q2⟩)
  exact ⟨⟨res, ta, mo, ed⟩, rfl, ⟨t2, m2, e2, m1⟩, ⟨t1, e1⟩⟩

/-- The walk, at the arguments as the row reads them. -/
theorem walkDiffTurns (W : World) (args : Array Value) (h : ArgsOk Try.prog W Try.f7.params.toList args.toList) : Calls Try.prog 7 args W fun e w' => e = .returned (.bool true) ∧ Go.RowKit.Below W.heap.size W w' := by
  rw [show Try.f7.params.toList = [62, 62] from by kernel_rfl] at h
  obtain ⟨args⟩ := args
  match args, h with
  | [v0, v1], h =>
    obtain ⟨a0, a1, _⟩ := h
    obtain ⟨x, rfl, hx, _⟩ := openImg a0
    obtain ⟨y, rfl, hy, _⟩ := openImg a1
    exact calls_of (old_self W) ((diffTurns x y hx hy).mono fun _ _ h => h.1)

set_option maxRecDepth 100000 in
theorem liftedDiffTurns (os : Os) (started : os.Started) (H : Type) (enc : TypeId × Value → H) :
    ReturnsInHanded {} Try.checked os 7 .any (Rows.diffTurnsSpec.pre6 enc Try.prog Try.f7 Rows.diffTurnsRow.domain false) (Rows.diffTurnsSpec.post enc Try.prog Try.f7 false true false false) :=
  handed (C := Try.checked) (tb := 4) own started (by kernel_rfl) Try.func7 laidOut (by kernel_rfl) rfl
    (fun ds h => by
      have h : ds.length = 2 := h
      match ds, h with
      | [_, _], _ => exact ⟨rfl, rfl, rfl⟩) (by kernel_rfl) (by kernel_rfl)
    (ChangeSpec.witness6 (enc := enc) (C := Try.checked) false ⟨#[], #[.agg #[.int .i64 0, .slice none 0 0, .slice none 0 0, .slice none 0 0], .agg #[.int .i64 0, .slice none 0 0, .slice none 0 0, .slice none 0 0]], []⟩ 8 (by kernel_rfl) (by kernel_rfl) (by kernel_rfl) (by kernel_rfl))
    (fun W args h => walkDiffTurns W args h)

theorem overDiffTurns : Rows.diffTurnsRow.holds Try.pinned (OpenSpec.ofChange Rows.diffTurnsSpec) :=
  OpenClaim.holds_of_wide 7 Try.f7 rfl rfl rfl rfl rfl rfl rfl ⟨rfl, rfl, rfl, rfl, rfl⟩ rfl rfl rfl rfl rfl (by kernel_rfl) Try.func7 (by kernel_rfl)
    (of_decide_eq_true (by kernel_rfl)) (by unfold Func.isWrapper; first | (rw [if_pos (by decide +kernel)]; kernel_rfl) | (rw [if_neg (by decide +kernel)]; exact ⟨rfl, rfl⟩))
    (fun os started H enc _ => liftedDiffTurns os started H enc)

/-- The statement. -/
theorem provedDiffTurns : Rows.DiffTurnsSaid := overDiffTurns

#print axioms provedDiffTurns
end Go.Proofs.Ytjcpggoodbkedaa
end
