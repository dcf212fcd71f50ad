/- The given statement ClassEdgesSaid is proved: for every image and number, the program tells of that edge which tasks it leaves, brings and keeps, and nothing where there is no such edge. Conditions: images that are not too great (40 tasks, 20 modes, 60 edges), as the statement itself says them; none beside. -/
import Derived.Test.YtbejafkklbmaoaaSl
import Derived.KernelRfl
import Derived.Test.YtbejafkklbmaoaaProg
import Derived.Test.YtbejafkklbmaoaaRows
section
namespace Go.Proofs.Ytbejafkklbmaoaa
open Go Go.Sl
set_option linter.unusedVariables false
set_option linter.unusedSimpArgs false
variable {B : Nat} {K : Asrt B}
theorem bld_31 : bldOf Try.prog 31 = some ([.int .u32 0, .int .u32 0, .int .u32 0], [(0, 1), (1, 1), (2, 1)]) := by kernel_rfl
theorem en_10 : Go.Proofs.Enters Try.prog 10 := Go.Proofs.enters_of Try.func10 (by kernel_rfl) rfl
theorem en_11 : Go.Proofs.Enters Try.prog 11 := Go.Proofs.enters_of Try.func11 (by kernel_rfl) rfl
theorem en_32 : Go.Proofs.Enters Try.prog 32 := Go.Proofs.enters_of Try.func32 (by kernel_rfl) rfl
theorem en_8 : Go.Proofs.Enters Try.prog 8 := Go.Proofs.enters_of Try.func8 (by kernel_rfl) rfl
theorem en_9 : Go.Proofs.Enters Try.prog 9 := Go.Proofs.enters_of Try.func9 (by kernel_rfl) rfl
theorem eqg_31 : Try.prog.eqGuardType Try.prog.depth 31 = false := by kernel_rfl
theorem eqk_31 : eqKinds Try.prog 12 31 = some [some .u32, some .u32, some .u32] := by kernel_rfl
theorem fld_26_1 : fldOff Try.prog 26 1 = some 1 := by kernel_rfl
theorem fld_26_2 : fldOff Try.prog 26 2 = some 2 := by kernel_rfl
theorem fld_26_3 : fldOff Try.prog 26 3 = some 3 := by kernel_rfl
theorem fld_38_0 : fldOff Try.prog 38 0 = some 0 := by kernel_rfl
theorem fld_38_1 : fldOff Try.prog 38 1 = some 1 := by kernel_rfl
theorem fld_41_0 : fldOff Try.prog 41 0 = some 0 := by kernel_rfl
theorem fld_41_1 : fldOff Try.prog 41 1 = some 1 := by kernel_rfl
theorem mixed : Try.prog.follows .mixedOrders = true := by kernel_rfl
theorem slc_22 : slcOf Try.prog 22 = some (58, 11) := by kernel_rfl
theorem slc_23 : slcOf Try.prog 23 = some (41, 2) := by kernel_rfl
theorem slc_24 : slcOf Try.prog 24 = some (38, 23) := by kernel_rfl
theorem slc_39 : slcOf Try.prog 39 = some (104, 2) := by kernel_rfl
theorem tk_22 : tyK Try.prog 22 = some (false, 1) := by kernel_rfl
theorem tk_23 : tyK Try.prog 23 = some (false, 1) := by kernel_rfl
theorem tk_24 : tyK Try.prog 24 = some (false, 1) := by kernel_rfl
theorem tk_26 : tyK Try.prog 26 = some (true, 4) := by kernel_rfl
theorem tk_28 : tyK Try.prog 28 = some (false, 1) := by kernel_rfl
theorem tk_3 : tyK Try.prog 3 = some (false, 1) := by kernel_rfl
theorem tk_31 : tyK Try.prog 31 = some (true, 3) := by kernel_rfl
theorem tk_38 : tyK Try.prog 38 = some (true, 23) := by kernel_rfl
theorem tk_39 : tyK Try.prog 39 = some (false, 1) := by kernel_rfl
theorem zero_31 : zeroOf Try.prog 31 = some [.int .u32 0, .int .u32 0, .int .u32 0] := by kernel_rfl
theorem zero_38 : zeroOf Try.prog 38 = some [.int .i64 0, .int .i64 0, .int .i64 0, .int .i64 0, .int .i64 0, .int .i64 0, .int .i64 0, .int .i64 0, .int .i64 0, .int .i64 0, .int .i64 0, .int .i64 0, .int .i64 0, .int .i64 0, .int .i64 0, .int .i64 0, .int .i64 0, .int .i64 0, .int .i64 0, .int .i64 0, .int .i64 0, .int .i64 0, .int .i64 0] := by kernel_rfl
theorem zk_31 : (match Try.prog.underlying 31 with | some (.struct _) => (bldOf Try.prog 31).isSome | some (.array _ e) => (Try.prog.info? e).isSome | _ => false) = true := by kernel_rfl

abbrev encT (e : Nat → Int) : List Value := [.int .i64 (e 0), .int .i64 (e 1), .int .i64 (e 2), .int .i64 (e 3), .int .i64 (e 4), .int .i64 (e 5), .int .i64 (e 6), .int .i64 (e 7), .int .i64 (e 8), .int .i64 (e 9), .int .i64 (e 10)]
abbrev encE (e : Nat → Int) : List Value := [.int .i64 (e 0), .int .i64 (e 1), .int .i64 (e 2), .int .i64 (e 3), .int .i64 (e 4), .int .i64 (e 5), .int .i64 (e 6), .int .i64 (e 7), .int .i64 (e 8), .int .i64 (e 9), .int .i64 (e 10), .int .i64 (e 11), .int .i64 (e 12), .int .i64 (e 13), .int .i64 (e 14), .int .i64 (e 15), .int .i64 (e 16), .int .i64 (e 17), .int .i64 (e 18), .int .i64 (e 19), .int .i64 (e 20), .int .i64 (e 21), .int .i64 (e 22)]
abbrev encQ (e : Nat → Int) : List Value := [.int .i64 (e 0), .int .i64 (e 1)]
structure Mode where
  tasks : BitVec 32
  q : Arr (Nat → Int)
abbrev encM (m : Mode) : List Value := [.int .u32 m.tasks.toNat, .slice m.q.oad m.q.l.length m.q.c]
structure Img where
  res : Int
  tasks : Arr (Nat → Int)
  modes : Arr Mode
  edges : Arr (Nat → Int)
abbrev Img.v (x : Img) : Value := .agg #[.int .i64 x.res, .slice x.tasks.oad x.tasks.l.length x.tasks.c, .slice x.modes.oad x.modes.l.length x.modes.c, .slice x.edges.oad x.edges.l.length x.edges.c]
structure Img.In (K : Asrt B) (x : Img) : Prop where
  tasks : Rd K x.tasks.ad (x.tasks.l.flatMap encT)
  modes : Rd K x.modes.ad (x.modes.l.flatMap encM)
  edges : Rd K x.edges.ad (x.edges.l.flatMap encE)
  queues : ∀ m ∈ x.modes.l, Rd K m.q.ad (m.q.l.flatMap encQ)


abbrev clsV (c : BitVec 32 × BitVec 32 × BitVec 32) : Value := .agg #[.int .u32 c.1.toNat, .int .u32 c.2.1.toNat, .int .u32 c.2.2.toNat]
def ofC (a b : BitVec 32) : BitVec 32 × BitVec 32 × BitVec 32 := (a &&& ~~~b, b &&& ~~~a, a &&& b)
def tasksOf (x : Img) (m : Int) : BitVec 32 := if m < 0 then 0#32 else match x.modes.l[m.toNat]? with
  | some m => m.tasks
  | none => 0#32
theorem tasksOf_in {x : Img} {j : Nat} {m : Mode} (h : x.modes.l[j]? = some m) : tasksOf x (j : Int) = m.tasks := by simp [tasksOf, h]; omega
theorem tasksOf_out {x : Img} {m : Int} (h : m < 0 ∨ m ≥ (x.modes.l.length : Int)) : tasksOf x m = 0#32 := by
  unfold tasksOf
  split
  · rfl
  · rw [List.getElem?_eq_none (by omega)]
def edgeC (x : Img) (i : Int) : BitVec 32 × BitVec 32 × BitVec 32 := if i < 0 then (0#32, 0#32, 0#32) else match x.edges.l[i.toNat]? with
  | some e => ofC (tasksOf x (e 0)) (tasksOf x (e 1))
  | none => (0#32, 0#32, 0#32)
theorem edgeC_in {x : Img} {j : Nat} {e : Nat → Int} (h : x.edges.l[j]? = some e) : edgeC x (j : Int) = ofC (tasksOf x (e 0)) (tasksOf x (e 1)) := by simp [edgeC, h]; omega
theorem edgeC_out {x : Img} {i : Int} (h : i < 0 ∨ i ≥ (x.edges.l.length : Int)) : edgeC x i = (0#32, 0#32, 0#32) := by
  unfold edgeC
  split
  · rfl
  · rw [List.getElem?_eq_none (by omega)]
def manyQ (l : List Mode) : Bool := l.any fun m => decide (m.q.l.length > 20)
def greatB (x : Img) : Bool := decide (x.tasks.l.length > 40) || decide (x.modes.l.length > 20) || decide (x.edges.l.length > 60) || manyQ x.modes.l

theorem tof (a b : BitVec 32) : Ctr Try.prog B 11 [.int .u32 a.toNat, .int .u32 b.toNat] [] (fun v S => v = clsV (ofC a b) ∧ S = []) := by
  refine Ctr_of_X (N := 15) Try.func11 rfl (by simp) rfl ?_
  intro w0 D0
  refine X_seq ?_
  refine X_region ?_
  refine XL_alloc .no zero_31 rfl (fun b1 => ?_)
  refine XL_then ?_
  refine X_seq ?_
  refine X_region ?_
  refine XL_det .no (D_pure rfl) rfl ?_
  refine XL_det .no (D_pure rfl) rfl ?_
  refine XL_det .no (D_bv rfl rfl (bvo _) (bvo _) rfl) rfl ?_
  refine XL_det .no (D_pure rfl) rfl ?_
  refine XL_det .no (D_pure rfl) rfl ?_
  refine XL_det .no (D_bv rfl rfl (bvo _) (bvo _) rfl) rfl ?_
  refine XL_det .no (D_pure rfl) rfl ?_
  refine XL_det .no (D_pure rfl) rfl ?_
  refine XL_det .no (D_bv rfl rfl (bvo _) (bvo _) rfl) rfl ?_
  refine XL_det .no (D_build [_, _, _] rfl bld_31 (by rfl)) rfl ?_
  refine XL_efd .no (F_stw rfl rfl rfl (by repeat first | with_reducible exact .here _ _ | with_reducible apply Out.there) tk_31 rfl rfl) ?_
  refine XL_then ?_
  refine X_ret ?_
  refine ret_ok (.nil _) (res_cell rfl rfl (by repeat first | with_reducible exact .here _ _ | with_reducible apply Out.there) tk_31 (by rfl)) ?_
  exact ⟨_, ⟨rfl, rfl⟩, _, (by repeat first | with_reducible exact .nil _ | with_reducible exact .here _ _ | with_reducible apply Take.cons | with_reducible apply Out.there)⟩

theorem tasksT (x : Img) (hx : x.In K) (m : Int) : Ctr Try.prog B 32 [x.v, .int .i64 m] [K] (fun v S => v = .int .u32 (tasksOf x m).toNat ∧ S = [K]) := by
  refine Ctr_of_X (N := 20) Try.func32 rfl (by simp) rfl ?_
  intro w0 D0
  refine X_seq ?_
  refine X_region ?_
  refine XL_box .no rfl rfl rfl (fun b1 => ?_)
  refine XL_det .no (D_pure rfl) rfl ?_
  refine XL_then ?_
  refine X_seq ?_
  refine X_seq ?_
  refine X_region ?_
  refine XL_det .no (D_pure rfl) rfl ?_
  refine XL_det .no (D_pure rfl) rfl ?_
  refine XL_det .no (D_pure rfl) rfl ?_
  refine XL_split (t := 7) rfl (fun h1 => ?_) (fun h1 => ?_)
  · try simp only [decide_eq_true_eq, decide_eq_false_iff_not, Bool.not_eq_true', Bool.not_eq_false', beq_iff_eq, bne_iff_ne, beq_eq_false_iff_ne, bne_eq_false_iff_eq, Int.not_lt, Int.not_le, gt_iff_lt, ge_iff_le, ne_eq] at h1
    refine XL_skip 7 rfl rfl rfl rfl rfl ?_
    refine XL_skip 7 rfl rfl rfl rfl rfl ?_
    refine XL_skip 7 rfl rfl rfl rfl rfl ?_
    refine XL_skip 7 rfl rfl rfl rfl rfl ?_
    refine XL_skip 7 rfl rfl rfl rfl rfl ?_
    refine XL_det .no (D_pure rfl) rfl ?_
    refine XL_then ?_
    refine X_cond_t rfl rfl ?_
    refine X_seq ?_
    refine X_region ?_
    refine XL_det .no (D_pure rfl) rfl ?_
    refine XL_then ?_
    refine X_ret ?_
    refine thenX_ret ?_
    refine ret_ok (.nil _) (res_tmp rfl rfl) ?_
    exact ⟨_, ⟨by rw [tasksOf_out (by omega)]; rfl, rfl⟩, _, (by repeat first | with_reducible exact .nil _ | with_reducible exact .here _ _ | with_reducible apply Take.cons | with_reducible apply Out.there)⟩
  · try simp only [decide_eq_true_eq, decide_eq_false_iff_not, Bool.not_eq_true', Bool.not_eq_false', beq_iff_eq, bne_iff_ne, beq_eq_false_iff_ne, bne_eq_false_iff_eq, Int.not_lt, Int.not_le, gt_iff_lt, ge_iff_le, ne_eq] at h1
    refine XL_det (.yes 7 rfl rfl rfl) (D_pure rfl) rfl ?_
    refine XL_det (.yes 7 rfl rfl rfl) (D_fld rfl fld_26_2 (o' := 2) rfl) rfl ?_
    refine XL_det (.yes 7 rfl rfl rfl) (D_ldo rfl (by repeat first | with_reducible exact .here _ _ | with_reducible apply Out.there) tk_23 (by rfl)) rfl ?_
    refine XL_det (.yes 7 rfl rfl rfl) (D_len rfl rfl slc_23) rfl ?_
    refine XL_det (.yes 7 rfl rfl rfl) (D_pure rfl) rfl ?_
    refine XL_det .no (D_pure rfl) rfl ?_
    refine XL_then ?_
    refine X_cond rfl (fun h2 => ?_) (fun h2 => ?_)
    · try simp only [decide_eq_true_eq, decide_eq_false_iff_not, Bool.not_eq_true', Bool.not_eq_false', beq_iff_eq, bne_iff_ne, beq_eq_false_iff_ne, bne_eq_false_iff_eq, Int.not_lt, Int.not_le, gt_iff_lt, ge_iff_le, ne_eq] at h2
      refine X_seq ?_
      refine X_region ?_
      refine XL_det .no (D_pure rfl) rfl ?_
      refine XL_then ?_
      refine X_ret ?_
      refine thenX_ret ?_
      refine ret_ok (.nil _) (res_tmp rfl rfl) ?_
      exact ⟨_, ⟨by rw [tasksOf_out (by omega)]; rfl, rfl⟩, _, (by repeat first | with_reducible exact .nil _ | with_reducible exact .here _ _ | with_reducible apply Take.cons | with_reducible apply Out.there)⟩
    · try simp only [decide_eq_true_eq, decide_eq_false_iff_not, Bool.not_eq_true', Bool.not_eq_false', beq_iff_eq, bne_iff_ne, beq_eq_false_iff_ne, bne_eq_false_iff_eq, Int.not_lt, Int.not_le, gt_iff_lt, ge_iff_le, ne_eq] at h2
      obtain ⟨j, rfl⟩ := Int.eq_ofNat_of_zero_le (Int.not_lt.1 (by omega : ¬ m < 0))
      obtain ⟨md, hget⟩ : ∃ a, x.modes.l[j]? = some a := ⟨_, List.getElem?_eq_getElem (by omega)⟩
      refine X_skip ?_
      refine thenX_normal ?_
      refine X_seq ?_
      refine X_region ?_
      refine XL_det .no (D_fld rfl fld_26_2 (o' := 2) rfl) rfl ?_
      refine XL_det .no (D_ldo rfl (by repeat first | with_reducible exact .here _ _ | with_reducible apply Out.there) tk_23 (by rfl)) rfl ?_
      refine XL_det .no (D_pure rfl) rfl ?_
      refine XL_det .no (D_idxSo rfl rfl slc_23 (x.modes).nil0 rfl (by omega) rfl) rfl ?_
      refine XL_det .no (D_fldA rfl fld_41_0 rfl) rfl ?_
      refine XL_det .no (D_ela (enc := encM) (sz := 2) (i := j) (k := 0) (fun _ => rfl) rfl (by repeat first | with_reducible exact .here _ _ | with_reducible apply Out.there) hx.modes tk_28 hget rfl) rfl ?_
      refine XL_det .no (D_pure rfl) rfl ?_
      refine XL_then ?_
      refine X_ret ?_
      refine ret_ok (.nil _) (res_tmp rfl rfl) ?_
      exact ⟨_, ⟨by rw [tasksOf_in hget], rfl⟩, _, (by repeat first | with_reducible exact .nil _ | with_reducible exact .here _ _ | with_reducible apply Take.cons | with_reducible apply Out.there)⟩


theorem great_t {x : Img} (h : (x.tasks.l.length : Int) > 40 ∨ (x.modes.l.length : Int) > 20 ∨ (x.edges.l.length : Int) > 60 ∨ manyQ x.modes.l = true) : greatB x = true := by
  rcases h with h | h | h | h
  · simp [greatB, show x.tasks.l.length > 40 by omega]
  · simp [greatB, show x.modes.l.length > 20 by omega]
  · simp [greatB, show x.edges.l.length > 60 by omega]
  · simp [greatB, h]
theorem great_f {x : Img} (h1 : ¬ (x.tasks.l.length : Int) > 40) (h2 : ¬ (x.modes.l.length : Int) > 20) (h3 : ¬ (x.edges.l.length : Int) > 60) (h : manyQ x.modes.l = false) : greatB x = false := by
  simp [greatB, h]; omega
theorem manyQ_t {l : List Mode} {i : Nat} {m : Mode} (h : l[i]? = some m) (hm : (m.q.l.length : Int) > 20) : manyQ l = true := by
  unfold manyQ
  rw [List.any_eq_true]
  exact ⟨m, List.mem_of_getElem? h, by simp; omega⟩
theorem manyQ_s {l : List Mode} {i : Nat} {m : Mode} (h : l[i]? = some m) (hm : ¬ (m.q.l.length : Int) > 20) (ht : manyQ (l.take i) = false) : manyQ (l.take (i + 1)) = false := by
  unfold manyQ at *
  rw [List.take_add_one, h, List.any_append, ht]
  simp; omega

theorem great (x : Img) (hx : x.In K) : Ctr Try.prog B 8 [x.v] [K] (fun v S => v = .bool (greatB x) ∧ S = [K]) := by
  refine Ctr_of_X (N := 35) Try.func8 rfl (by simp) rfl ?_
  intro w0 D0
  refine X_seq ?_
  refine X_region ?_
  refine XL_box .no rfl rfl rfl (fun b1 => ?_)
  refine XL_det .no (D_pure rfl) rfl ?_
  refine XL_then ?_
  refine X_seq ?_
  refine X_seq ?_
  refine X_region ?_
  refine XL_det .no (D_fld rfl fld_26_1 (o' := 1) rfl) rfl ?_
  refine XL_det .no (D_ldo rfl (by repeat first | with_reducible exact .here _ _ | with_reducible apply Out.there) tk_22 (by rfl)) rfl ?_
  refine XL_det .no (D_len rfl rfl slc_22) rfl ?_
  refine XL_det .no (D_pure rfl) rfl ?_
  refine XL_det .no (D_pure rfl) rfl ?_
  refine XL_split (t := 8) rfl (fun h1 => ?_) (fun h1 => ?_)
  · try simp only [decide_eq_true_eq, decide_eq_false_iff_not, Bool.not_eq_true', Bool.not_eq_false', beq_iff_eq, bne_iff_ne, beq_eq_false_iff_ne, bne_eq_false_iff_eq, Int.not_lt, Int.not_le, gt_iff_lt, ge_iff_le, ne_eq] at h1
    refine XL_skip 8 rfl rfl rfl rfl rfl ?_
    refine XL_skip 8 rfl rfl rfl rfl rfl ?_
    refine XL_skip 8 rfl rfl rfl rfl rfl ?_
    refine XL_skip 8 rfl rfl rfl rfl rfl ?_
    refine XL_det .no (D_pure rfl) rfl ?_
    refine XL_det .no (D_pure rfl) rfl ?_
    refine XL_skip 14 rfl rfl rfl rfl rfl ?_
    refine XL_skip 14 rfl rfl rfl rfl rfl ?_
    refine XL_skip 14 rfl rfl rfl rfl rfl ?_
    refine XL_skip 14 rfl rfl rfl rfl rfl ?_
    refine XL_det .no (D_pure rfl) rfl ?_
    refine XL_then ?_
    refine X_cond_t rfl rfl ?_
    refine X_seq ?_
    refine X_region ?_
    refine XL_det .no (D_pure rfl) rfl ?_
    refine XL_then ?_
    refine X_ret ?_
    refine thenX_ret ?_
    refine ret_ok (.nil _) (res_tmp rfl rfl) ?_
    exact ⟨_, ⟨by rw [great_t (by omega)], rfl⟩, _, (by repeat first | with_reducible exact .nil _ | with_reducible exact .here _ _ | with_reducible apply Take.cons | with_reducible apply Out.there)⟩
  · try simp only [decide_eq_true_eq, decide_eq_false_iff_not, Bool.not_eq_true', Bool.not_eq_false', beq_iff_eq, bne_iff_ne, beq_eq_false_iff_ne, bne_eq_false_iff_eq, Int.not_lt, Int.not_le, gt_iff_lt, ge_iff_le, ne_eq] at h1
    refine XL_det (.yes 8 rfl rfl rfl) (D_fld rfl fld_26_2 (o' := 2) rfl) rfl ?_
    refine XL_det (.yes 8 rfl rfl rfl) (D_ldo rfl (by repeat first | with_reducible exact .here _ _ | with_reducible apply Out.there) tk_23 (by rfl)) rfl ?_
    refine XL_det (.yes 8 rfl rfl rfl) (D_len rfl rfl slc_23) rfl ?_
    refine XL_det (.yes 8 rfl rfl rfl) (D_pure rfl) rfl ?_
    refine XL_det .no (D_pure rfl) rfl ?_
    refine XL_det .no (D_pure rfl) rfl ?_
    refine XL_split (t := 14) rfl (fun h2 => ?_) (fun h2 => ?_)
    · try simp only [decide_eq_true_eq, decide_eq_false_iff_not, Bool.not_eq_true', Bool.not_eq_false', beq_iff_eq, bne_iff_ne, beq_eq_false_iff_ne, bne_eq_false_iff_eq, Int.not_lt, Int.not_le, gt_iff_lt, ge_iff_le, ne_eq] at h2
      refine XL_skip 14 rfl rfl rfl rfl rfl ?_
      refine XL_skip 14 rfl rfl rfl rfl rfl ?_
      refine XL_skip 14 rfl rfl rfl rfl rfl ?_
      refine XL_skip 14 rfl rfl rfl rfl rfl ?_
      refine XL_det .no (D_pure rfl) rfl ?_
      refine XL_then ?_
      refine X_cond_t rfl rfl ?_
      refine X_seq ?_
      refine X_region ?_
      refine XL_det .no (D_pure rfl) rfl ?_
      refine XL_then ?_
      refine X_ret ?_
      refine thenX_ret ?_
      refine ret_ok (.nil _) (res_tmp rfl rfl) ?_
      exact ⟨_, ⟨by rw [great_t (by omega)], rfl⟩, _, (by repeat first | with_reducible exact .nil _ | with_reducible exact .here _ _ | with_reducible apply Take.cons | with_reducible apply Out.there)⟩
    · try simp only [decide_eq_true_eq, decide_eq_false_iff_not, Bool.not_eq_true', Bool.not_eq_false', beq_iff_eq, bne_iff_ne, beq_eq_false_iff_ne, bne_eq_false_iff_eq, Int.not_lt, Int.not_le, gt_iff_lt, ge_iff_le, ne_eq] at h2
      refine XL_det (.yes 14 rfl rfl rfl) (D_fld rfl fld_26_3 (o' := 3) rfl) rfl ?_
      refine XL_det (.yes 14 rfl rfl rfl) (D_ldo rfl (by repeat first | with_reducible exact .here _ _ | with_reducible apply Out.there) tk_24 (by rfl)) rfl ?_
      refine XL_det (.yes 14 rfl rfl rfl) (D_len rfl rfl slc_24) rfl ?_
      refine XL_det (.yes 14 rfl rfl rfl) (D_pure rfl) rfl ?_
      refine XL_det .no (D_pure rfl) rfl ?_
      refine XL_then ?_
      refine X_cond rfl (fun h3 => ?_) (fun h3 => ?_)
      · try simp only [decide_eq_true_eq, decide_eq_false_iff_not, Bool.not_eq_true', Bool.not_eq_false', beq_iff_eq, bne_iff_ne, beq_eq_false_iff_ne, bne_eq_false_iff_eq, Int.not_lt, Int.not_le, gt_iff_lt, ge_iff_le, ne_eq] at h3
        refine X_seq ?_
        refine X_region ?_
        refine XL_det .no (D_pure rfl) rfl ?_
        refine XL_then ?_
        refine X_ret ?_
        refine thenX_ret ?_
        refine ret_ok (.nil _) (res_tmp rfl rfl) ?_
        exact ⟨_, ⟨by rw [great_t (by omega)], rfl⟩, _, (by repeat first | with_reducible exact .nil _ | with_reducible exact .here _ _ | with_reducible apply Take.cons | with_reducible apply Out.there)⟩
      · try simp only [decide_eq_true_eq, decide_eq_false_iff_not, Bool.not_eq_true', Bool.not_eq_false', beq_iff_eq, bne_iff_ne, beq_eq_false_iff_ne, bne_eq_false_iff_eq, Int.not_lt, Int.not_le, gt_iff_lt, ge_iff_le, ne_eq] at h3
        refine X_skip ?_
        refine thenX_normal ?_
        refine X_seq ?_
        refine X_seq ?_
        refine X_region ?_
        refine XL_det .no (D_pure rfl) rfl ?_
        refine XL_then ?_
        refine X_block ?_
        refine X_loop (α := Nat) (fun i => i ≤ x.modes.l.length ∧ manyQ (x.modes.l.take i) = false) (fun i => [(3, .int .i64 (i : Int)), (1, .pointer (some ⟨b1, 0, none⟩))]) (fun i => [blk b1 [.int .i64 x.res, .slice x.tasks.oad x.tasks.l.length x.tasks.c, .slice x.modes.oad x.modes.l.length x.modes.c, .slice x.edges.oad x.edges.l.length x.edges.c] 26, K]) (fun i => x.modes.l.length - i) 0 ?_ (by refine ⟨?_, ?_, trivial⟩ <;> rfl) (by repeat first | with_reducible exact .nil _ | with_reducible exact .here _ _ | with_reducible apply Take.cons | with_reducible apply Out.there) ?_
        · exact ⟨Nat.zero_le _, rfl⟩
        · rintro i ⟨hi, hq⟩
          refine X_seq ?_
          refine X_seq ?_
          refine X_region ?_
          refine XL_det .no (D_pure rfl) rfl ?_
          refine XL_det .no (D_fld rfl fld_26_2 (o' := 2) rfl) rfl ?_
          refine XL_det .no (D_ldo rfl (by repeat first | with_reducible exact .here _ _ | with_reducible apply Out.there) tk_23 (by rfl)) rfl ?_
          refine XL_det .no (D_len rfl rfl slc_23) rfl ?_
          refine XL_det .no (D_pure rfl) rfl ?_
          refine XL_then ?_
          refine X_cond rfl (fun h4 => ?_) (fun h4 => ?_)
          · try simp only [decide_eq_true_eq, decide_eq_false_iff_not, Bool.not_eq_true', Bool.not_eq_false', beq_iff_eq, bne_iff_ne, beq_eq_false_iff_ne, bne_eq_false_iff_eq, Int.not_lt, Int.not_le, gt_iff_lt, ge_iff_le, ne_eq] at h4
            obtain ⟨md, hget⟩ : ∃ a, x.modes.l[i]? = some a := ⟨_, List.getElem?_eq_getElem (by omega)⟩
            refine X_skip ?_
            refine thenX_normal ?_
            refine X_seq ?_
            refine X_block ?_
            refine X_seq ?_
            refine X_region ?_
            refine XL_det .no (D_fld rfl fld_26_2 (o' := 2) rfl) rfl ?_
            refine XL_det .no (D_ldo rfl (by repeat first | with_reducible exact .here _ _ | with_reducible apply Out.there) tk_23 (by rfl)) rfl ?_
            refine XL_det .no (D_pure rfl) rfl ?_
            refine XL_det .no (D_idxSo rfl rfl slc_23 (x.modes).nil0 rfl (by omega) rfl) rfl ?_
            refine XL_det .no (D_fldA rfl fld_41_1 rfl) rfl ?_
            refine XL_det .no (D_ela (enc := encM) (sz := 2) (i := i) (k := 1) (fun _ => rfl) rfl (by repeat first | with_reducible exact .here _ _ | with_reducible apply Out.there) hx.modes tk_39 hget rfl) rfl ?_
            refine XL_det .no (D_len rfl rfl slc_39) rfl ?_
            refine XL_det .no (D_pure rfl) rfl ?_
            refine XL_then ?_
            refine X_cond rfl (fun h5 => ?_) (fun h5 => ?_)
            · try simp only [decide_eq_true_eq, decide_eq_false_iff_not, Bool.not_eq_true', Bool.not_eq_false', beq_iff_eq, bne_iff_ne, beq_eq_false_iff_ne, bne_eq_false_iff_eq, Int.not_lt, Int.not_le, gt_iff_lt, ge_iff_le, ne_eq] at h5
              refine X_seq ?_
              refine X_region ?_
              refine XL_det .no (D_pure rfl) rfl ?_
              refine XL_then ?_
              refine X_ret ?_
              refine inBlk_ret ?_
              refine thenX_ret ?_
              refine loopQ_ret ?_
              refine inBlk_ret ?_
              refine thenX_ret ?_
              refine ret_ok (.nil _) (res_tmp rfl rfl) ?_
              exact ⟨_, ⟨by rw [great_t (.inr (.inr (.inr (manyQ_t hget (by omega)))))], rfl⟩, _, (by repeat first | with_reducible exact .nil _ | with_reducible exact .here _ _ | with_reducible apply Take.cons | with_reducible apply Out.there)⟩
            · try simp only [decide_eq_true_eq, decide_eq_false_iff_not, Bool.not_eq_true', Bool.not_eq_false', beq_iff_eq, bne_iff_ne, beq_eq_false_iff_ne, bne_eq_false_iff_eq, Int.not_lt, Int.not_le, gt_iff_lt, ge_iff_le, ne_eq] at h5
              refine X_skip ?_
              refine inBlk_normal ?_
              refine thenX_normal ?_
              refine X_region ?_
              refine XL_det .no (D_pure rfl) rfl ?_
              refine XL_det .no (D_add rfl rfl (by omega) (by omega)) rfl ?_
              refine XL_det .no (D_pure rfl) rfl ?_
              refine XL_nil ?_
              refine loopQ_next (i + 1) ?_ ?_ ?_ ?_
              · exact ⟨by omega, manyQ_s hget (by omega) hq⟩
              · omega
              · refine ⟨?_, ?_, trivial⟩ <;> rfl
              · exact ⟨_, (by repeat first | with_reducible exact .nil _ | with_reducible exact .here _ _ | with_reducible apply Take.cons | with_reducible apply Out.there)⟩
          · try simp only [decide_eq_true_eq, decide_eq_false_iff_not, Bool.not_eq_true', Bool.not_eq_false', beq_iff_eq, bne_iff_ne, beq_eq_false_iff_ne, bne_eq_false_iff_eq, Int.not_lt, Int.not_le, gt_iff_lt, ge_iff_le, ne_eq] at h4
            refine X_exit ?_
            refine thenX_exit ?_
            refine loopQ_exit ?_
            refine inBlk_here ?_
            refine thenX_normal ?_
            refine X_seq ?_
            refine X_region ?_
            refine XL_det .no (D_pure rfl) rfl ?_
            refine XL_then ?_
            refine X_ret ?_
            refine ret_ok (.nil _) (res_tmp rfl rfl) ?_
            exact ⟨_, ⟨by rw [great_f (by omega) (by omega) (by omega) (by rw [← hq, List.take_of_length_le (by omega)])], rfl⟩, _, (by repeat first | with_reducible exact .nil _ | with_reducible exact .here _ _ | with_reducible apply Take.cons | with_reducible apply Out.there)⟩

theorem edge (x : Img) (hx : x.In K) (i : Int) : Ctr Try.prog B 9 [x.v, .int .i64 i] [K] (fun v S => v = clsV (edgeC x i) ∧ S = [K]) := by
  refine Ctr_of_X (N := 32) Try.func9 rfl (by simp) rfl ?_
  intro w0 D0
  refine X_seq ?_
  refine X_region ?_
  refine XL_box .no rfl rfl rfl (fun b1 => ?_)
  refine XL_alloc .no zero_31 rfl (fun b2 => ?_)
  refine XL_then ?_
  refine X_seq ?_
  refine X_seq ?_
  refine X_region ?_
  refine XL_det .no (D_pure rfl) rfl ?_
  refine XL_det .no (D_pure rfl) rfl ?_
  refine XL_det .no (D_pure rfl) rfl ?_
  refine XL_split (t := 7) rfl (fun h1 => ?_) (fun h1 => ?_)
  · try simp only [decide_eq_true_eq, decide_eq_false_iff_not, Bool.not_eq_true', Bool.not_eq_false', beq_iff_eq, bne_iff_ne, beq_eq_false_iff_ne, bne_eq_false_iff_eq, Int.not_lt, Int.not_le, gt_iff_lt, ge_iff_le, ne_eq] at h1
    refine XL_skip 7 rfl rfl rfl rfl rfl ?_
    refine XL_skip 7 rfl rfl rfl rfl rfl ?_
    refine XL_skip 7 rfl rfl rfl rfl rfl ?_
    refine XL_skip 7 rfl rfl rfl rfl rfl ?_
    refine XL_skip 7 rfl rfl rfl rfl rfl ?_
    refine XL_det .no (D_pure rfl) rfl ?_
    refine XL_then ?_
    refine X_cond_t rfl rfl ?_
    refine X_seq ?_
    refine X_region ?_
    refine XL_det .no (D_zero zero_31 zk_31) rfl ?_
    refine XL_efd .no (F_stw rfl rfl rfl (by repeat first | with_reducible exact .here _ _ | with_reducible apply Out.there) tk_31 rfl rfl) ?_
    refine XL_then ?_
    refine X_ret ?_
    refine thenX_ret ?_
    refine ret_ok (.nil _) (res_cell rfl rfl (by repeat first | with_reducible exact .here _ _ | with_reducible apply Out.there) tk_31 (by rfl)) ?_
    exact ⟨_, ⟨by rw [edgeC_out (by omega)]; rfl, rfl⟩, _, (by repeat first | with_reducible exact .nil _ | with_reducible exact .here _ _ | with_reducible apply Take.cons | with_reducible apply Out.there)⟩
  · try simp only [decide_eq_true_eq, decide_eq_false_iff_not, Bool.not_eq_true', Bool.not_eq_false', beq_iff_eq, bne_iff_ne, beq_eq_false_iff_ne, bne_eq_false_iff_eq, Int.not_lt, Int.not_le, gt_iff_lt, ge_iff_le, ne_eq] at h1
    refine XL_det (.yes 7 rfl rfl rfl) (D_pure rfl) rfl ?_
    refine XL_det (.yes 7 rfl rfl rfl) (D_fld rfl fld_26_3 (o' := 3) rfl) rfl ?_
    refine XL_det (.yes 7 rfl rfl rfl) (D_ldo rfl (by repeat first | with_reducible exact .here _ _ | with_reducible apply Out.there) tk_24 (by rfl)) rfl ?_
    refine XL_det (.yes 7 rfl rfl rfl) (D_len rfl rfl slc_24) rfl ?_
    refine XL_det (.yes 7 rfl rfl rfl) (D_pure rfl) rfl ?_
    refine XL_det .no (D_pure rfl) rfl ?_
    refine XL_then ?_
    refine X_cond rfl (fun h2 => ?_) (fun h2 => ?_)
    · try simp only [decide_eq_true_eq, decide_eq_false_iff_not, Bool.not_eq_true', Bool.not_eq_false', beq_iff_eq, bne_iff_ne, beq_eq_false_iff_ne, bne_eq_false_iff_eq, Int.not_lt, Int.not_le, gt_iff_lt, ge_iff_le, ne_eq] at h2
      refine X_seq ?_
      refine X_region ?_
      refine XL_det .no (D_zero zero_31 zk_31) rfl ?_
      refine XL_efd .no (F_stw rfl rfl rfl (by repeat first | with_reducible exact .here _ _ | with_reducible apply Out.there) tk_31 rfl rfl) ?_
      refine XL_then ?_
      refine X_ret ?_
      refine thenX_ret ?_
      refine ret_ok (.nil _) (res_cell rfl rfl (by repeat first | with_reducible exact .here _ _ | with_reducible apply Out.there) tk_31 (by rfl)) ?_
      exact ⟨_, ⟨by rw [edgeC_out (by omega)]; rfl, rfl⟩, _, (by repeat first | with_reducible exact .nil _ | with_reducible exact .here _ _ | with_reducible apply Take.cons | with_reducible apply Out.there)⟩
    · try simp only [decide_eq_true_eq, decide_eq_false_iff_not, Bool.not_eq_true', Bool.not_eq_false', beq_iff_eq, bne_iff_ne, beq_eq_false_iff_ne, bne_eq_false_iff_eq, Int.not_lt, Int.not_le, gt_iff_lt, ge_iff_le, ne_eq] at h2
      obtain ⟨j, rfl⟩ := Int.eq_ofNat_of_zero_le (Int.not_lt.1 (by omega : ¬ i < 0))
      obtain ⟨ed, hget⟩ : ∃ a, x.edges.l[j]? = some a := ⟨_, List.getElem?_eq_getElem (by omega)⟩
      refine X_skip ?_
      refine thenX_normal ?_
      refine X_seq ?_
      refine X_draw _ mixed (Take.self _) ?_
      refine XA_det 0 rfl (by kernel_rfl) (by kernel_rfl) (by kernel_rfl) (by kernel_rfl) (by kernel_rfl) (fun _ _ _ _ h => h) .no (D_ldso rfl (by repeat first | with_reducible exact .here _ _ | with_reducible apply Out.there) tk_26 rfl (by rfl)) rfl ?_
      refine XA_det 1 rfl (by kernel_rfl) (by kernel_rfl) (by kernel_rfl) (by kernel_rfl) (by kernel_rfl) (fun _ _ _ _ h => h) .no (D_fld rfl fld_26_3 (o' := 3) rfl) rfl ?_
      refine XA_det 2 rfl (by kernel_rfl) (by kernel_rfl) (by kernel_rfl) (by kernel_rfl) (by kernel_rfl) (fun _ _ _ _ h => h) .no (D_ldo rfl (by repeat first | with_reducible exact .here _ _ | with_reducible apply Out.there) tk_24 (by rfl)) rfl ?_
      refine XA_det 3 rfl (by kernel_rfl) (by kernel_rfl) (by kernel_rfl) (by kernel_rfl) (by kernel_rfl) (fun _ _ _ _ h => h) .no (D_pure rfl) rfl ?_
      refine XA_det 4 rfl (by kernel_rfl) (by kernel_rfl) (by kernel_rfl) (by kernel_rfl) (by kernel_rfl) (fun _ _ _ _ h => h) .no (D_idxSo rfl rfl slc_24 (x.edges).nil0 rfl (by omega) rfl) rfl ?_
      refine XA_det 5 rfl (by kernel_rfl) (by kernel_rfl) (by kernel_rfl) (by kernel_rfl) (by kernel_rfl) (fun _ _ _ _ h => h) .no (D_fldA rfl fld_38_0 rfl) rfl ?_
      refine XA_det 6 rfl (by kernel_rfl) (by kernel_rfl) (by kernel_rfl) (by kernel_rfl) (by kernel_rfl) (fun _ _ _ _ h => h) .no (D_ela (enc := encE) (sz := 23) (i := j) (k := 0) (fun _ => rfl) rfl (by repeat first | with_reducible exact .here _ _ | with_reducible apply Out.there) hx.edges tk_3 hget rfl) rfl ?_
      refine XA_det 8 rfl (by kernel_rfl) (by kernel_rfl) (by kernel_rfl) (by kernel_rfl) (by kernel_rfl) (fun _ _ _ _ h => h) .no (D_ldso rfl (by repeat first | with_reducible exact .here _ _ | with_reducible apply Out.there) tk_26 rfl (by rfl)) rfl ?_
      refine XA_det 9 rfl (by kernel_rfl) (by kernel_rfl) (by kernel_rfl) (by kernel_rfl) (by kernel_rfl) (fun _ _ _ _ h => h) .no (D_fld rfl fld_26_3 (o' := 3) rfl) rfl ?_
      refine XA_det 10 rfl (by kernel_rfl) (by kernel_rfl) (by kernel_rfl) (by kernel_rfl) (by kernel_rfl) (fun _ _ _ _ h => h) .no (D_ldo rfl (by repeat first | with_reducible exact .here _ _ | with_reducible apply Out.there) tk_24 (by rfl)) rfl ?_
      refine XA_det 11 rfl (by kernel_rfl) (by kernel_rfl) (by kernel_rfl) (by kernel_rfl) (by kernel_rfl) (fun _ _ _ _ h => h) .no (D_pure rfl) rfl ?_
      refine XA_det 12 rfl (by kernel_rfl) (by kernel_rfl) (by kernel_rfl) (by kernel_rfl) (by kernel_rfl) (fun _ _ _ _ h => h) .no (D_idxSo rfl rfl slc_24 (x.edges).nil0 rfl (by omega) rfl) rfl ?_
      refine XA_det 13 rfl (by kernel_rfl) (by kernel_rfl) (by kernel_rfl) (by kernel_rfl) (by kernel_rfl) (fun _ _ _ _ h => h) .no (D_fldA rfl fld_38_1 rfl) rfl ?_
      refine XA_det 14 rfl (by kernel_rfl) (by kernel_rfl) (by kernel_rfl) (by kernel_rfl) (by kernel_rfl) (fun _ _ _ _ h => h) .no (D_ela (enc := encE) (sz := 23) (i := j) (k := 1) (fun _ => rfl) rfl (by repeat first | with_reducible exact .here _ _ | with_reducible apply Out.there) hx.edges tk_3 hget rfl) rfl ?_
      refine XA_one 7 (by kernel_rfl) ?_
      refine XO_callk rfl .no en_32 rfl (by repeat first | with_reducible exact .nil _ | with_reducible apply App.cons) (tasksT x hx _) (by repeat first | with_reducible exact .nil _ | with_reducible exact .here _ _ | with_reducible apply Take.cons | with_reducible apply Out.there) rfl ?_
      refine XA_one 15 (by kernel_rfl) ?_
      refine XO_callk rfl .no en_32 rfl (by repeat first | with_reducible exact .nil _ | with_reducible apply App.cons) (tasksT x hx _) (by repeat first | with_reducible exact .nil _ | with_reducible exact .here _ _ | with_reducible apply Take.cons | with_reducible apply Out.there) rfl ?_
      refine XA_one 16 (by kernel_rfl) ?_
      refine XO_callv rfl .no en_11 rfl (tof _ _) rfl ?_
      refine XA_one 17 (by kernel_rfl) ?_
      refine XO_efd rfl .no (by repeat first | with_reducible exact .nil _ | with_reducible apply App.cons) (F_stw rfl rfl rfl (by repeat first | with_reducible exact .here _ _ | with_reducible apply Out.there) tk_31 rfl rfl) (by kernel_rfl) ?_
      refine XA_done (by kernel_rfl) ?_
      try simp only [List.cons_append, List.nil_append, List.append_nil]
      refine thenX_normal ?_
      refine X_ret ?_
      refine ret_ok (.nil _) (res_cell rfl rfl (by repeat first | with_reducible exact .here _ _ | with_reducible apply Out.there) tk_31 (by rfl)) ?_
      exact ⟨_, ⟨by rw [edgeC_in hget], rfl⟩, _, (by repeat first | with_reducible exact .nil _ | with_reducible exact .here _ _ | with_reducible apply Take.cons | with_reducible apply Out.there)⟩


theorem cls_self {a b : BitVec 32 × BitVec 32 × BitVec 32} (h : a = b) : cellsEq [.int .u32 a.1.toNat, .int .u32 a.2.1.toNat, .int .u32 a.2.2.toNat] [.int .u32 b.1.toNat, .int .u32 b.2.1.toNat, .int .u32 b.2.2.toNat] = true := by
  subst h; simp [cellsEq, veq]

theorem alive14  : Ctr Try.prog B 10 [] [] (fun v S => v = .bool true ∧ S = []) := by
  refine Ctr_of_X (N := 6) Try.func10 rfl (by simp) rfl ?_
  intro w0 D0
  refine X_seq ?_
  refine X_region ?_
  refine XL_det .no (D_pure rfl) rfl ?_
  refine XL_then ?_
  refine X_seq ?_
  refine X_region ?_
  refine XL_callv .no en_11 rfl (tof 3#32 6#32) rfl ?_
  refine XL_det .no (D_build [_, _, _] rfl bld_31 (by rfl)) rfl ?_
  refine XL_det .no (D_eqs (b := true) rfl rfl eqk_31 eqg_31 rfl rfl rfl rfl) rfl ?_
  refine XL_det .no (D_pure rfl) rfl ?_
  refine XL_det .no (D_pure rfl) rfl ?_
  refine XL_det .no (D_pure rfl) rfl ?_
  refine XL_then ?_
  refine X_ret ?_
  refine ret_ok (.nil _) (res_tmp rfl rfl) ?_
  exact ⟨_, ⟨rfl, rfl⟩, _, (by repeat first | with_reducible exact .nil _ | with_reducible exact .here _ _ | with_reducible apply Take.cons | with_reducible apply Out.there)⟩

theorem classEdges (x : Img) (hx : x.In K) (i : Int) : Ctr Try.prog B 3 [x.v, .int .i64 i] [K] (fun v S => v = .bool true ∧ S = [K]) := by
  refine Ctr_of_X (N := 78) Try.func3 rfl (by simp) rfl ?_
  intro w0 D0
  refine X_seq ?_
  refine X_region ?_
  refine XL_box .no rfl rfl rfl (fun b1 => ?_)
  refine XL_det .no (D_pure rfl) rfl ?_
  refine XL_then ?_
  refine X_seq ?_
  refine X_seq ?_
  refine X_region ?_
  refine XL_det .no (D_ldso rfl (by repeat first | with_reducible exact .here _ _ | with_reducible apply Out.there) tk_26 rfl (by rfl)) rfl ?_
  refine XL_callk .no en_8 rfl (great x hx) (by repeat first | with_reducible exact .nil _ | with_reducible exact .here _ _ | with_reducible apply Take.cons | with_reducible apply Out.there) rfl ?_
  refine XL_then ?_
  refine X_cond rfl (fun h1 => ?_) (fun h1 => ?_)
  · try simp only [decide_eq_true_eq, decide_eq_false_iff_not, Bool.not_eq_true', Bool.not_eq_false', beq_iff_eq, bne_iff_ne, beq_eq_false_iff_ne, bne_eq_false_iff_eq, Int.not_lt, Int.not_le, gt_iff_lt, ge_iff_le, ne_eq] at h1
    refine X_seq ?_
    refine X_region ?_
    refine XL_det .no (D_pure rfl) rfl ?_
    refine XL_then ?_
    refine X_ret ?_
    refine thenX_ret ?_
    refine ret_ok (.nil _) (res_tmp rfl rfl) ?_
    exact ⟨_, ⟨rfl, rfl⟩, _, (by repeat first | with_reducible exact .nil _ | with_reducible exact .here _ _ | with_reducible apply Take.cons | with_reducible apply Out.there)⟩
  · try simp only [decide_eq_true_eq, decide_eq_false_iff_not, Bool.not_eq_true', Bool.not_eq_false', beq_iff_eq, bne_iff_ne, beq_eq_false_iff_ne, bne_eq_false_iff_eq, Int.not_lt, Int.not_le, gt_iff_lt, ge_iff_le, ne_eq] at h1
    refine X_skip ?_
    refine thenX_normal ?_
    refine X_seq ?_
    refine X_region ?_
    refine XL_det .no (D_ldso rfl (by repeat first | with_reducible exact .here _ _ | with_reducible apply Out.there) tk_26 rfl (by rfl)) rfl ?_
    refine XL_det .no (D_pure rfl) rfl ?_
    refine XL_callk .no en_9 rfl (edge x hx _) (by repeat first | with_reducible exact .nil _ | with_reducible exact .here _ _ | with_reducible apply Take.cons | with_reducible apply Out.there) rfl ?_
    refine XL_alloc .no zero_31 rfl (fun b2 => ?_)
    refine XL_efd .no (F_stw rfl rfl rfl (by repeat first | with_reducible exact .here _ _ | with_reducible apply Out.there) tk_31 rfl rfl) ?_
    refine XL_then ?_
    refine X_seq ?_
    refine X_seq ?_
    refine X_region ?_
    refine XL_det .no (D_pure rfl) rfl ?_
    refine XL_det .no (D_pure rfl) rfl ?_
    refine XL_det .no (D_pure rfl) rfl ?_
    refine XL_split (t := 16) rfl (fun h2 => ?_) (fun h2 => ?_)
    · try simp only [decide_eq_true_eq, decide_eq_false_iff_not, Bool.not_eq_true', Bool.not_eq_false', beq_iff_eq, bne_iff_ne, beq_eq_false_iff_ne, bne_eq_false_iff_eq, Int.not_lt, Int.not_le, gt_iff_lt, ge_iff_le, ne_eq] at h2
      refine XL_skip 16 rfl rfl rfl rfl rfl ?_
      refine XL_skip 16 rfl rfl rfl rfl rfl ?_
      refine XL_skip 16 rfl rfl rfl rfl rfl ?_
      refine XL_skip 16 rfl rfl rfl rfl rfl ?_
      refine XL_skip 16 rfl rfl rfl rfl rfl ?_
      refine XL_det .no (D_pure rfl) rfl ?_
      refine XL_then ?_
      refine X_cond_t rfl rfl ?_
      refine X_seq ?_
      refine X_region ?_
      refine XL_det .no (D_ldso rfl (by repeat first | with_reducible exact .here _ _ | with_reducible apply Out.there) tk_31 rfl (by rfl)) rfl ?_
      refine XL_det .no (D_zero zero_31 zk_31) rfl ?_
      refine XL_det .no (D_eqs (b := true) rfl rfl eqk_31 eqg_31 rfl rfl rfl (by rw [edgeC_out (by omega)]; rfl)) rfl ?_
      refine XL_det .no (D_pure rfl) rfl ?_
      refine XL_callv (.yes 26 rfl rfl rfl) en_10 rfl (alive14) rfl ?_
      refine XL_det .no (D_pure rfl) rfl ?_
      refine XL_det .no (D_pure rfl) rfl ?_
      refine XL_then ?_
      refine X_ret ?_
      refine thenX_ret ?_
      refine ret_ok (.nil _) (res_tmp rfl rfl) ?_
      exact ⟨_, ⟨rfl, rfl⟩, _, (by repeat first | with_reducible exact .nil _ | with_reducible exact .here _ _ | with_reducible apply Take.cons | with_reducible apply Out.there)⟩
    · try simp only [decide_eq_true_eq, decide_eq_false_iff_not, Bool.not_eq_true', Bool.not_eq_false', beq_iff_eq, bne_iff_ne, beq_eq_false_iff_ne, bne_eq_false_iff_eq, Int.not_lt, Int.not_le, gt_iff_lt, ge_iff_le, ne_eq] at h2
      refine XL_det (.yes 16 rfl rfl rfl) (D_pure rfl) rfl ?_
      refine XL_det (.yes 16 rfl rfl rfl) (D_fld rfl fld_26_3 (o' := 3) rfl) rfl ?_
      refine XL_det (.yes 16 rfl rfl rfl) (D_ldo rfl (by repeat first | with_reducible exact .here _ _ | with_reducible apply Out.there) tk_24 (by rfl)) rfl ?_
      refine XL_det (.yes 16 rfl rfl rfl) (D_len rfl rfl slc_24) rfl ?_
      refine XL_det (.yes 16 rfl rfl rfl) (D_pure rfl) rfl ?_
      refine XL_det .no (D_pure rfl) rfl ?_
      refine XL_then ?_
      refine X_cond rfl (fun h3 => ?_) (fun h3 => ?_)
      · try simp only [decide_eq_true_eq, decide_eq_false_iff_not, Bool.not_eq_true', Bool.not_eq_false', beq_iff_eq, bne_iff_ne, beq_eq_false_iff_ne, bne_eq_false_iff_eq, Int.not_lt, Int.not_le, gt_iff_lt, ge_iff_le, ne_eq] at h3
        refine X_seq ?_
        refine X_region ?_
        refine XL_det .no (D_ldso rfl (by repeat first | with_reducible exact .here _ _ | with_reducible apply Out.there) tk_31 rfl (by rfl)) rfl ?_
        refine XL_det .no (D_zero zero_31 zk_31) rfl ?_
        refine XL_det .no (D_eqs (b := true) rfl rfl eqk_31 eqg_31 rfl rfl rfl (by rw [edgeC_out (by omega)]; rfl)) rfl ?_
        refine XL_det .no (D_pure rfl) rfl ?_
        refine XL_callv (.yes 26 rfl rfl rfl) en_10 rfl (alive14) rfl ?_
        refine XL_det .no (D_pure rfl) rfl ?_
        refine XL_det .no (D_pure rfl) rfl ?_
        refine XL_then ?_
        refine X_ret ?_
        refine thenX_ret ?_
        refine ret_ok (.nil _) (res_tmp rfl rfl) ?_
        exact ⟨_, ⟨rfl, rfl⟩, _, (by repeat first | with_reducible exact .nil _ | with_reducible exact .here _ _ | with_reducible apply Take.cons | with_reducible apply Out.there)⟩
      · try simp only [decide_eq_true_eq, decide_eq_false_iff_not, Bool.not_eq_true', Bool.not_eq_false', beq_iff_eq, bne_iff_ne, beq_eq_false_iff_ne, bne_eq_false_iff_eq, Int.not_lt, Int.not_le, gt_iff_lt, ge_iff_le, ne_eq] at h3
        obtain ⟨j, rfl⟩ := Int.eq_ofNat_of_zero_le (Int.not_lt.1 (by omega : ¬ i < 0))
        obtain ⟨ed, hget⟩ : ∃ a, x.edges.l[j]? = some a := ⟨_, List.getElem?_eq_getElem (by omega)⟩
        refine X_skip ?_
        refine thenX_normal ?_
        refine X_seq ?_
        refine X_region ?_
        refine XL_det .no (D_pure rfl) rfl ?_
        refine XL_det .no (D_pure rfl) rfl ?_
        refine XL_then ?_
        refine X_seq ?_
        refine X_region ?_
        refine XL_det .no (D_fld rfl fld_26_3 (o' := 3) rfl) rfl ?_
        refine XL_det .no (D_ldo rfl (by repeat first | with_reducible exact .here _ _ | with_reducible apply Out.there) tk_24 (by rfl)) rfl ?_
        refine XL_det .no (D_pure rfl) rfl ?_
        refine XL_det .no (D_idxSo rfl rfl slc_24 (x.edges).nil0 rfl (by omega) rfl) rfl ?_
        refine XL_det .no (D_els (enc := encE) (sz := 23) (i := j) (fun _ => rfl) rfl (by repeat first | with_reducible exact .here _ _ | with_reducible apply Out.there) hx.edges tk_38 hget) rfl ?_
        refine XL_alloc .no zero_38 rfl (fun b3 => ?_)
        refine XL_efd .no (F_stw rfl rfl rfl (by repeat first | with_reducible exact .here _ _ | with_reducible apply Out.there) tk_38 rfl rfl) ?_
        refine XL_then ?_
        refine X_seq ?_
        refine X_seq ?_
        refine X_region ?_
        refine XL_det .no (D_fld rfl fld_38_0 (o' := 0) rfl) rfl ?_
        refine XL_det .no (D_ldo rfl (by repeat first | with_reducible exact .here _ _ | with_reducible apply Out.there) tk_3 (by rfl)) rfl ?_
        refine XL_det .no (D_pure rfl) rfl ?_
        refine XL_det .no (D_pure rfl) rfl ?_
        refine XL_split (t := 37) rfl (fun h4 => ?_) (fun h4 => ?_)
        · try simp only [decide_eq_true_eq, decide_eq_false_iff_not, Bool.not_eq_true', Bool.not_eq_false', beq_iff_eq, bne_iff_ne, beq_eq_false_iff_ne, bne_eq_false_iff_eq, Int.not_lt, Int.not_le, gt_iff_lt, ge_iff_le, ne_eq] at h4
          refine XL_det (.yes 37 rfl rfl rfl) (D_fld rfl fld_38_0 (o' := 0) rfl) rfl ?_
          refine XL_det (.yes 37 rfl rfl rfl) (D_ldo rfl (by repeat first | with_reducible exact .here _ _ | with_reducible apply Out.there) tk_3 (by rfl)) rfl ?_
          refine XL_det (.yes 37 rfl rfl rfl) (D_fld rfl fld_26_2 (o' := 2) rfl) rfl ?_
          refine XL_det (.yes 37 rfl rfl rfl) (D_ldo rfl (by repeat first | with_reducible exact .here _ _ | with_reducible apply Out.there) tk_23 (by rfl)) rfl ?_
          refine XL_det (.yes 37 rfl rfl rfl) (D_len rfl rfl slc_23) rfl ?_
          refine XL_det (.yes 37 rfl rfl rfl) (D_pure rfl) rfl ?_
          refine XL_det .no (D_pure rfl) rfl ?_
          refine XL_then ?_
          refine X_cond rfl (fun h5 => ?_) (fun h5 => ?_)
          · try simp only [decide_eq_true_eq, decide_eq_false_iff_not, Bool.not_eq_true', Bool.not_eq_false', beq_iff_eq, bne_iff_ne, beq_eq_false_iff_ne, bne_eq_false_iff_eq, Int.not_lt, Int.not_le, gt_iff_lt, ge_iff_le, ne_eq] at h5
            obtain ⟨ka, hka⟩ := Int.eq_ofNat_of_zero_le (a := ed 0) (by omega)
            obtain ⟨ma, hga⟩ : ∃ a, x.modes.l[ka]? = some a := ⟨_, List.getElem?_eq_getElem (by omega)⟩
            have hA : tasksOf x (ed 0) = ma.tasks := by rw [hka]; exact tasksOf_in hga
            refine X_region ?_
            refine XL_det .no (D_fld rfl fld_26_2 (o' := 2) rfl) rfl ?_
            refine XL_det .no (D_ldo rfl (by repeat first | with_reducible exact .here _ _ | with_reducible apply Out.there) tk_23 (by rfl)) rfl ?_
            refine XL_det .no (D_fld rfl fld_38_0 (o' := 0) rfl) rfl ?_
            refine XL_det .no (D_ldo rfl (by repeat first | with_reducible exact .here _ _ | with_reducible apply Out.there) tk_3 (by rfl)) rfl ?_
            refine XL_det .no (D_idxSo rfl rfl slc_23 (x.modes).nil0 hka (by omega) rfl) rfl ?_
            refine XL_det .no (D_fldA rfl fld_41_0 rfl) rfl ?_
            refine XL_det .no (D_ela (enc := encM) (sz := 2) (i := ka) (k := 0) (fun _ => rfl) rfl (by repeat first | with_reducible exact .here _ _ | with_reducible apply Out.there) hx.modes tk_28 hga rfl) rfl ?_
            refine XL_det .no (D_pure rfl) rfl ?_
            refine XL_then ?_
            refine X_seq ?_
            refine X_seq ?_
            refine X_region ?_
            refine XL_det .no (D_fld rfl fld_38_1 (o' := 1) rfl) rfl ?_
            refine XL_det .no (D_ldo rfl (by repeat first | with_reducible exact .here _ _ | with_reducible apply Out.there) tk_3 (by rfl)) rfl ?_
            refine XL_det .no (D_pure rfl) rfl ?_
            refine XL_det .no (D_pure rfl) rfl ?_
            refine XL_split (t := 55) rfl (fun h6 => ?_) (fun h6 => ?_)
            · try simp only [decide_eq_true_eq, decide_eq_false_iff_not, Bool.not_eq_true', Bool.not_eq_false', beq_iff_eq, bne_iff_ne, beq_eq_false_iff_ne, bne_eq_false_iff_eq, Int.not_lt, Int.not_le, gt_iff_lt, ge_iff_le, ne_eq] at h6
              refine XL_det (.yes 55 rfl rfl rfl) (D_fld rfl fld_38_1 (o' := 1) rfl) rfl ?_
              refine XL_det (.yes 55 rfl rfl rfl) (D_ldo rfl (by repeat first | with_reducible exact .here _ _ | with_reducible apply Out.there) tk_3 (by rfl)) rfl ?_
              refine XL_det (.yes 55 rfl rfl rfl) (D_fld rfl fld_26_2 (o' := 2) rfl) rfl ?_
              refine XL_det (.yes 55 rfl rfl rfl) (D_ldo rfl (by repeat first | with_reducible exact .here _ _ | with_reducible apply Out.there) tk_23 (by rfl)) rfl ?_
              refine XL_det (.yes 55 rfl rfl rfl) (D_len rfl rfl slc_23) rfl ?_
              refine XL_det (.yes 55 rfl rfl rfl) (D_pure rfl) rfl ?_
              refine XL_det .no (D_pure rfl) rfl ?_
              refine XL_then ?_
              refine X_cond rfl (fun h7 => ?_) (fun h7 => ?_)
              · try simp only [decide_eq_true_eq, decide_eq_false_iff_not, Bool.not_eq_true', Bool.not_eq_false', beq_iff_eq, bne_iff_ne, beq_eq_false_iff_ne, bne_eq_false_iff_eq, Int.not_lt, Int.not_le, gt_iff_lt, ge_iff_le, ne_eq] at h7
                obtain ⟨kb, hkb⟩ := Int.eq_ofNat_of_zero_le (a := ed 1) (by omega)
                obtain ⟨mb, hgb⟩ : ∃ a, x.modes.l[kb]? = some a := ⟨_, List.getElem?_eq_getElem (by omega)⟩
                have hB : tasksOf x (ed 1) = mb.tasks := by rw [hkb]; exact tasksOf_in hgb
                refine X_region ?_
                refine XL_det .no (D_fld rfl fld_26_2 (o' := 2) rfl) rfl ?_
                refine XL_det .no (D_ldo rfl (by repeat first | with_reducible exact .here _ _ | with_reducible apply Out.there) tk_23 (by rfl)) rfl ?_
                refine XL_det .no (D_fld rfl fld_38_1 (o' := 1) rfl) rfl ?_
                refine XL_det .no (D_ldo rfl (by repeat first | with_reducible exact .here _ _ | with_reducible apply Out.there) tk_3 (by rfl)) rfl ?_
                refine XL_det .no (D_idxSo rfl rfl slc_23 (x.modes).nil0 hkb (by omega) rfl) rfl ?_
                refine XL_det .no (D_fldA rfl fld_41_0 rfl) rfl ?_
                refine XL_det .no (D_ela (enc := encM) (sz := 2) (i := kb) (k := 0) (fun _ => rfl) rfl (by repeat first | with_reducible exact .here _ _ | with_reducible apply Out.there) hx.modes tk_28 hgb rfl) rfl ?_
                refine XL_det .no (D_pure rfl) rfl ?_
                refine XL_then ?_
                refine X_seq ?_
                refine X_draw _ mixed (Take.self _) ?_
                refine XA_det 0 rfl (by kernel_rfl) (by kernel_rfl) (by kernel_rfl) (by kernel_rfl) (by kernel_rfl) (fun _ _ _ _ h => h) .no (D_ldso rfl (by repeat first | with_reducible exact .here _ _ | with_reducible apply Out.there) tk_31 rfl (by rfl)) rfl ?_
                refine XA_det 1 rfl (by kernel_rfl) (by kernel_rfl) (by kernel_rfl) (by kernel_rfl) (by kernel_rfl) (fun _ _ _ _ h => h) .no (D_pure rfl) rfl ?_
                refine XA_det 2 rfl (by kernel_rfl) (by kernel_rfl) (by kernel_rfl) (by kernel_rfl) (by kernel_rfl) (fun _ _ _ _ h => h) .no (D_pure rfl) rfl ?_
                refine XA_one 3 (by kernel_rfl) ?_
                refine XO_callv rfl .no en_11 rfl (tof ma.tasks mb.tasks) rfl ?_
                refine XA_det 4 rfl (by kernel_rfl) (by kernel_rfl) (by kernel_rfl) (by kernel_rfl) (by kernel_rfl) (fun _ _ _ _ h => h) .no (D_eqs (b := true) rfl rfl eqk_31 eqg_31 rfl rfl rfl (cls_self (by rw [edgeC_in hget, hA, hB]))) rfl ?_
                refine XA_det 5 rfl (by kernel_rfl) (by kernel_rfl) (by kernel_rfl) (by kernel_rfl) (by kernel_rfl) (fun _ _ _ _ h => h) .no (D_pure rfl) rfl ?_
                refine XA_one 6 (by kernel_rfl) ?_
                refine XO_callv rfl (.yes 75 rfl rfl rfl) en_10 rfl (alive14) rfl ?_
                refine XA_det 7 rfl (by kernel_rfl) (by kernel_rfl) (by kernel_rfl) (by kernel_rfl) (by kernel_rfl) (fun _ _ _ _ h => h) .no (D_pure rfl) rfl ?_
                refine XA_det 8 rfl (by kernel_rfl) (by kernel_rfl) (by kernel_rfl) (by kernel_rfl) (by kernel_rfl) (fun _ _ _ _ h => h) .no (D_pure rfl) rfl ?_
                refine XA_done (by kernel_rfl) ?_
                try simp only [List.cons_append, List.nil_append, List.append_nil]
                refine thenX_normal ?_
                refine X_ret ?_
                refine ret_ok (.nil _) (res_tmp rfl rfl) ?_
                exact ⟨_, ⟨rfl, rfl⟩, _, (by repeat first | with_reducible exact .nil _ | with_reducible exact .here _ _ | with_reducible apply Take.cons | with_reducible apply Out.there)⟩
              · try simp only [decide_eq_true_eq, decide_eq_false_iff_not, Bool.not_eq_true', Bool.not_eq_false', beq_iff_eq, bne_iff_ne, beq_eq_false_iff_ne, bne_eq_false_iff_eq, Int.not_lt, Int.not_le, gt_iff_lt, ge_iff_le, ne_eq] at h7
                have hB : tasksOf x (ed 1) = 0#32 := tasksOf_out (by omega)
                refine X_skip ?_
                refine thenX_normal ?_
                refine X_seq ?_
                refine X_draw _ mixed (Take.self _) ?_
                refine XA_det 0 rfl (by kernel_rfl) (by kernel_rfl) (by kernel_rfl) (by kernel_rfl) (by kernel_rfl) (fun _ _ _ _ h => h) .no (D_ldso rfl (by repeat first | with_reducible exact .here _ _ | with_reducible apply Out.there) tk_31 rfl (by rfl)) rfl ?_
                refine XA_det 1 rfl (by kernel_rfl) (by kernel_rfl) (by kernel_rfl) (by kernel_rfl) (by kernel_rfl) (fun _ _ _ _ h => h) .no (D_pure rfl) rfl ?_
                refine XA_det 2 rfl (by kernel_rfl) (by kernel_rfl) (by kernel_rfl) (by kernel_rfl) (by kernel_rfl) (fun _ _ _ _ h => h) .no (D_pure rfl) rfl ?_
                refine XA_one 3 (by kernel_rfl) ?_
                refine XO_callv rfl .no en_11 rfl (tof ma.tasks 0#32) rfl ?_
                refine XA_det 4 rfl (by kernel_rfl) (by kernel_rfl) (by kernel_rfl) (by kernel_rfl) (by kernel_rfl) (fun _ _ _ _ h => h) .no (D_eqs (b := true) rfl rfl eqk_31 eqg_31 rfl rfl rfl (cls_self (by rw [edgeC_in hget, hA, hB]))) rfl ?_
                refine XA_det 5 rfl (by kernel_rfl) (by kernel_rfl) (by kernel_rfl) (by kernel_rfl) (by kernel_rfl) (fun _ _ _ _ h => h) .no (D_pure rfl) rfl ?_
                refine XA_one 6 (by kernel_rfl) ?_
                refine XO_callv rfl (.yes 75 rfl rfl rfl) en_10 rfl (alive14) rfl ?_
                refine XA_det 7 rfl (by kernel_rfl) (by kernel_rfl) (by kernel_rfl) (by kernel_rfl) (by kernel_rfl) (fun _ _ _ _ h => h) .no (D_pure rfl) rfl ?_
                refine XA_det 8 rfl (by kernel_rfl) (by kernel_rfl) (by kernel_rfl) (by kernel_rfl) (by kernel_rfl) (fun _ _ _ _ h => h) .no (D_pure rfl) rfl ?_
                refine XA_done (by kernel_rfl) ?_
                try simp only [List.cons_append, List.nil_append, List.append_nil]
                refine thenX_normal ?_
                refine X_ret ?_
                refine ret_ok (.nil _) (res_tmp rfl rfl) ?_
                exact ⟨_, ⟨rfl, rfl⟩, _, (by repeat first | with_reducible exact .nil _ | with_reducible exact .here _ _ | with_reducible apply Take.cons | with_reducible apply Out.there)⟩
            · try simp only [decide_eq_true_eq, decide_eq_false_iff_not, Bool.not_eq_true', Bool.not_eq_false', beq_iff_eq, bne_iff_ne, beq_eq_false_iff_ne, bne_eq_false_iff_eq, Int.not_lt, Int.not_le, gt_iff_lt, ge_iff_le, ne_eq] at h6
              have hB : tasksOf x (ed 1) = 0#32 := tasksOf_out (by omega)
              refine XL_skip 55 rfl rfl rfl rfl rfl ?_
              refine XL_skip 55 rfl rfl rfl rfl rfl ?_
              refine XL_skip 55 rfl rfl rfl rfl rfl ?_
              refine XL_skip 55 rfl rfl rfl rfl rfl ?_
              refine XL_skip 55 rfl rfl rfl rfl rfl ?_
              refine XL_skip 55 rfl rfl rfl rfl rfl ?_
              refine XL_det .no (D_pure rfl) rfl ?_
              refine XL_then ?_
              refine X_cond_f rfl rfl ?_
              refine X_skip ?_
              refine thenX_normal ?_
              refine X_seq ?_
              refine X_draw _ mixed (Take.self _) ?_
              refine XA_det 0 rfl (by kernel_rfl) (by kernel_rfl) (by kernel_rfl) (by kernel_rfl) (by kernel_rfl) (fun _ _ _ _ h => h) .no (D_ldso rfl (by repeat first | with_reducible exact .here _ _ | with_reducible apply Out.there) tk_31 rfl (by rfl)) rfl ?_
              refine XA_det 1 rfl (by kernel_rfl) (by kernel_rfl) (by kernel_rfl) (by kernel_rfl) (by kernel_rfl) (fun _ _ _ _ h => h) .no (D_pure rfl) rfl ?_
              refine XA_det 2 rfl (by kernel_rfl) (by kernel_rfl) (by kernel_rfl) (by kernel_rfl) (by kernel_rfl) (fun _ _ _ _ h => h) .no (D_pure rfl) rfl ?_
              refine XA_one 3 (by kernel_rfl) ?_
              refine XO_callv rfl .no en_11 rfl (tof ma.tasks 0#32) rfl ?_
              refine XA_det 4 rfl (by kernel_rfl) (by kernel_rfl) (by kernel_rfl) (by kernel_rfl) (by kernel_rfl) (fun _ _ _ _ h => h) .no (D_eqs (b := true) rfl rfl eqk_31 eqg_31 rfl rfl rfl (cls_self (by rw [edgeC_in hget, hA, hB]))) rfl ?_
              refine XA_det 5 rfl (by kernel_rfl) (by kernel_rfl) (by kernel_rfl) (by kernel_rfl) (by kernel_rfl) (fun _ _ _ _ h => h) .no (D_pure rfl) rfl ?_
              refine XA_one 6 (by kernel_rfl) ?_
              refine XO_callv rfl (.yes 75 rfl rfl rfl) en_10 rfl (alive14) rfl ?_
              refine XA_det 7 rfl (by kernel_rfl) (by kernel_rfl) (by kernel_rfl) (by kernel_rfl) (by kernel_rfl) (fun _ _ _ _ h => h) .no (D_pure rfl) rfl ?_
              refine XA_det 8 rfl (by kernel_rfl) (by kernel_rfl) (by kernel_rfl) (by kernel_rfl) (by kernel_rfl) (fun _ _ _ _ h => h) .no (D_pure rfl) rfl ?_
              refine XA_done (by kernel_rfl) ?_
              try simp only [List.cons_append, List.nil_append, List.append_nil]
              refine thenX_normal ?_
              refine X_ret ?_
              refine ret_ok (.nil _) (res_tmp rfl rfl) ?_
              exact ⟨_, ⟨rfl, rfl⟩, _, (by repeat first | with_reducible exact .nil _ | with_reducible exact .here _ _ | with_reducible apply Take.cons | with_reducible apply Out.there)⟩
          · try simp only [decide_eq_true_eq, decide_eq_false_iff_not, Bool.not_eq_true', Bool.not_eq_false', beq_iff_eq, bne_iff_ne, beq_eq_false_iff_ne, bne_eq_false_iff_eq, Int.not_lt, Int.not_le, gt_iff_lt, ge_iff_le, ne_eq] at h5
            have hA : tasksOf x (ed 0) = 0#32 := tasksOf_out (by omega)
            refine X_skip ?_
            refine thenX_normal ?_
            refine X_seq ?_
            refine X_seq ?_
            refine X_region ?_
            refine XL_det .no (D_fld rfl fld_38_1 (o' := 1) rfl) rfl ?_
            refine XL_det .no (D_ldo rfl (by repeat first | with_reducible exact .here _ _ | with_reducible apply Out.there) tk_3 (by rfl)) rfl ?_
            refine XL_det .no (D_pure rfl) rfl ?_
            refine XL_det .no (D_pure rfl) rfl ?_
            refine XL_split (t := 55) rfl (fun h8 => ?_) (fun h8 => ?_)
            · try simp only [decide_eq_true_eq, decide_eq_false_iff_not, Bool.not_eq_true', Bool.not_eq_false', beq_iff_eq, bne_iff_ne, beq_eq_false_iff_ne, bne_eq_false_iff_eq, Int.not_lt, Int.not_le, gt_iff_lt, ge_iff_le, ne_eq] at h8
              refine XL_det (.yes 55 rfl rfl rfl) (D_fld rfl fld_38_1 (o' := 1) rfl) rfl ?_
              refine XL_det (.yes 55 rfl rfl rfl) (D_ldo rfl (by repeat first | with_reducible exact .here _ _ | with_reducible apply Out.there) tk_3 (by rfl)) rfl ?_
              refine XL_det (.yes 55 rfl rfl rfl) (D_fld rfl fld_26_2 (o' := 2) rfl) rfl ?_
              refine XL_det (.yes 55 rfl rfl rfl) (D_ldo rfl (by repeat first | with_reducible exact .here _ _ | with_reducible apply Out.there) tk_23 (by rfl)) rfl ?_
              refine XL_det (.yes 55 rfl rfl rfl) (D_len rfl rfl slc_23) rfl ?_
              refine XL_det (.yes 55 rfl rfl rfl) (D_pure rfl) rfl ?_
              refine XL_det .no (D_pure rfl) rfl ?_
              refine XL_then ?_
              refine X_cond rfl (fun h9 => ?_) (fun h9 => ?_)
              · try simp only [decide_eq_true_eq, decide_eq_false_iff_not, Bool.not_eq_true', Bool.not_eq_false', beq_iff_eq, bne_iff_ne, beq_eq_false_iff_ne, bne_eq_false_iff_eq, Int.not_lt, Int.not_le, gt_iff_lt, ge_iff_le, ne_eq] at h9
                obtain ⟨kb, hkb⟩ := Int.eq_ofNat_of_zero_le (a := ed 1) (by omega)
                obtain ⟨mb, hgb⟩ : ∃ a, x.modes.l[kb]? = some a := ⟨_, List.getElem?_eq_getElem (by omega)⟩
                have hB : tasksOf x (ed 1) = mb.tasks := by rw [hkb]; exact tasksOf_in hgb
                refine X_region ?_
                refine XL_det .no (D_fld rfl fld_26_2 (o' := 2) rfl) rfl ?_
                refine XL_det .no (D_ldo rfl (by repeat first | with_reducible exact .here _ _ | with_reducible apply Out.there) tk_23 (by rfl)) rfl ?_
                refine XL_det .no (D_fld rfl fld_38_1 (o' := 1) rfl) rfl ?_
                refine XL_det .no (D_ldo rfl (by repeat first | with_reducible exact .here _ _ | with_reducible apply Out.there) tk_3 (by rfl)) rfl ?_
                refine XL_det .no (D_idxSo rfl rfl slc_23 (x.modes).nil0 hkb (by omega) rfl) rfl ?_
                refine XL_det .no (D_fldA rfl fld_41_0 rfl) rfl ?_
                refine XL_det .no (D_ela (enc := encM) (sz := 2) (i := kb) (k := 0) (fun _ => rfl) rfl (by repeat first | with_reducible exact .here _ _ | with_reducible apply Out.there) hx.modes tk_28 hgb rfl) rfl ?_
                refine XL_det .no (D_pure rfl) rfl ?_
                refine XL_then ?_
                refine X_seq ?_
                refine X_draw _ mixed (Take.self _) ?_
                refine XA_det 0 rfl (by kernel_rfl) (by kernel_rfl) (by kernel_rfl) (by kernel_rfl) (by kernel_rfl) (fun _ _ _ _ h => h) .no (D_ldso rfl (by repeat first | with_reducible exact .here _ _ | with_reducible apply Out.there) tk_31 rfl (by rfl)) rfl ?_
                refine XA_det 1 rfl (by kernel_rfl) (by kernel_rfl) (by kernel_rfl) (by kernel_rfl) (by kernel_rfl) (fun _ _ _ _ h => h) .no (D_pure rfl) rfl ?_
                refine XA_det 2 rfl (by kernel_rfl) (by kernel_rfl) (by kernel_rfl) (by kernel_rfl) (by kernel_rfl) (fun _ _ _ _ h => h) .no (D_pure rfl) rfl ?_
                refine XA_one 3 (by kernel_rfl) ?_
                refine XO_callv rfl .no en_11 rfl (tof 0#32 mb.tasks) rfl ?_
                refine XA_det 4 rfl (by kernel_rfl) (by kernel_rfl) (by kernel_rfl) (by kernel_rfl) (by kernel_rfl) (fun _ _ _ _ h => h) .no (D_eqs (b := true) rfl rfl eqk_31 eqg_31 rfl rfl rfl (cls_self (by rw [edgeC_in hget, hA, hB]))) rfl ?_
                refine XA_det 5 rfl (by kernel_rfl) (by kernel_rfl) (by kernel_rfl) (by kernel_rfl) (by kernel_rfl) (fun _ _ _ _ h => h) .no (D_pure rfl) rfl ?_
                refine XA_one 6 (by kernel_rfl) ?_
                refine XO_callv rfl (.yes 75 rfl rfl rfl) en_10 rfl (alive14) rfl ?_
                refine XA_det 7 rfl (by kernel_rfl) (by kernel_rfl) (by kernel_rfl) (by kernel_rfl) (by kernel_rfl) (fun _ _ _ _ h => h) .no (D_pure rfl) rfl ?_
                refine XA_det 8 rfl (by kernel_rfl) (by kernel_rfl) (by kernel_rfl) (by kernel_rfl) (by kernel_rfl) (fun _ _ _ _ h => h) .no (D_pure rfl) rfl ?_
                refine XA_done (by kernel_rfl) ?_
                try simp only [List.cons_append, List.nil_append, List.append_nil]
                refine thenX_normal ?_
                refine X_ret ?_
                refine ret_ok (.nil _) (res_tmp rfl rfl) ?_
                exact ⟨_, ⟨rfl, rfl⟩, _, (by repeat first | with_reducible exact .nil _ | with_reducible exact .here _ _ | with_reducible apply Take.cons | with_reducible apply Out.there)⟩
              · try simp only [decide_eq_true_eq, decide_eq_false_iff_not, Bool.not_eq_true', Bool.not_eq_false', beq_iff_eq, bne_iff_ne, beq_eq_false_iff_ne, bne_eq_false_iff_eq, Int.not_lt, Int.not_le, gt_iff_lt, ge_iff_le, ne_eq] at h9
                have hB : tasksOf x (ed 1) = 0#32 := tasksOf_out (by omega)
                refine X_skip ?_
                refine thenX_normal ?_
                refine X_seq ?_
                refine X_draw _ mixed (Take.self _) ?_
                refine XA_det 0 rfl (by kernel_rfl) (by kernel_rfl) (by kernel_rfl) (by kernel_rfl) (by kernel_rfl) (fun _ _ _ _ h => h) .no (D_ldso rfl (by repeat first | with_reducible exact .here _ _ | with_reducible apply Out.there) tk_31 rfl (by rfl)) rfl ?_
                refine XA_det 1 rfl (by kernel_rfl) (by kernel_rfl) (by kernel_rfl) (by kernel_rfl) (by kernel_rfl) (fun _ _ _ _ h => h) .no (D_pure rfl) rfl ?_
                refine XA_det 2 rfl (by kernel_rfl) (by kernel_rfl) (by kernel_rfl) (by kernel_rfl) (by kernel_rfl) (fun _ _ _ _ h => h) .no (D_pure rfl) rfl ?_
                refine XA_one 3 (by kernel_rfl) ?_
                refine XO_callv rfl .no en_11 rfl (tof 0#32 0#32) rfl ?_
                refine XA_det 4 rfl (by kernel_rfl) (by kernel_rfl) (by kernel_rfl) (by kernel_rfl) (by kernel_rfl) (fun _ _ _ _ h => h) .no (D_eqs (b := true) rfl rfl eqk_31 eqg_31 rfl rfl rfl (cls_self (by rw [edgeC_in hget, hA, hB]))) rfl ?_
                refine XA_det 5 rfl (by kernel_rfl) (by kernel_rfl) (by kernel_rfl) (by kernel_rfl) (by kernel_rfl) (fun _ _ _ _ h => h) .no (D_pure rfl) rfl ?_
                refine XA_one 6 (by kernel_rfl) ?_
                refine XO_callv rfl (.yes 75 rfl rfl rfl) en_10 rfl (alive14) rfl ?_
                refine XA_det 7 rfl (by kernel_rfl) (by kernel_rfl) (by kernel_rfl) (by kernel_rfl) (by kernel_rfl) (fun _ _ _ _ h => h) .no (D_pure rfl) rfl ?_
                refine XA_det 8 rfl (by kernel_rfl) (by kernel_rfl) (by kernel_rfl) (by kernel_rfl) (by kernel_rfl) (fun _ _ _ _ h => h) .no (D_pure rfl) rfl ?_
                refine XA_done (by kernel_rfl) ?_
                try simp only [List.cons_append, List.nil_append, List.append_nil]
                refine thenX_normal ?_
                refine X_ret ?_
                refine ret_ok (.nil _) (res_tmp rfl rfl) ?_
                exact ⟨_, ⟨rfl, rfl⟩, _, (by repeat first | with_reducible exact .nil _ | with_reducible exact .here _ _ | with_reducible apply Take.cons | with_reducible apply Out.there)⟩
            · try simp only [decide_eq_true_eq, decide_eq_false_iff_not, Bool.not_eq_true', Bool.not_eq_false', beq_iff_eq, bne_iff_ne, beq_eq_false_iff_ne, bne_eq_false_iff_eq, Int.not_lt, Int.not_le, gt_iff_lt, ge_iff_le, ne_eq] at h8
              have hB : tasksOf x (ed 1) = 0#32 := tasksOf_out (by omega)
              refine XL_skip 55 rfl rfl rfl rfl rfl ?_
              refine XL_skip 55 rfl rfl rfl rfl rfl ?_
              refine XL_skip 55 rfl rfl rfl rfl rfl ?_
              refine XL_skip 55 rfl rfl rfl rfl rfl ?_
              refine XL_skip 55 rfl rfl rfl rfl rfl ?_
              refine XL_skip 55 rfl rfl rfl rfl rfl ?_
              refine XL_det .no (D_pure rfl) rfl ?_
              refine XL_then ?_
              refine X_cond_f rfl rfl ?_
              refine X_skip ?_
              refine thenX_normal ?_
              refine X_seq ?_
              refine X_draw _ mixed (Take.self _) ?_
              refine XA_det 0 rfl (by kernel_rfl) (by kernel_rfl) (by kernel_rfl) (by kernel_rfl) (by kernel_rfl) (fun _ _ _ _ h => h) .no (D_ldso rfl (by repeat first | with_reducible exact .here _ _ | with_reducible apply Out.there) tk_31 rfl (by rfl)) rfl ?_
              refine XA_det 1 rfl (by kernel_rfl) (by kernel_rfl) (by kernel_rfl) (by kernel_rfl) (by kernel_rfl) (fun _ _ _ _ h => h) .no (D_pure rfl) rfl ?_
              refine XA_det 2 rfl (by kernel_rfl) (by kernel_rfl) (by kernel_rfl) (by kernel_rfl) (by kernel_rfl) (fun _ _ _ _ h => h) .no (D_pure rfl) rfl ?_
              refine XA_one 3 (by kernel_rfl) ?_
              refine XO_callv rfl .no en_11 rfl (tof 0#32 0#32) rfl ?_
              refine XA_det 4 rfl (by kernel_rfl) (by kernel_rfl) (by kernel_rfl) (by kernel_rfl) (by kernel_rfl) (fun _ _ _ _ h => h) .no (D_eqs (b := true) rfl rfl eqk_31 eqg_31 rfl rfl rfl (cls_self (by rw [edgeC_in hget, hA, hB]))) rfl ?_
              refine XA_det 5 rfl (by kernel_rfl) (by kernel_rfl) (by kernel_rfl) (by kernel_rfl) (by kernel_rfl) (fun _ _ _ _ h => h) .no (D_pure rfl) rfl ?_
              refine XA_one 6 (by kernel_rfl) ?_
              refine XO_callv rfl (.yes 75 rfl rfl rfl) en_10 rfl (alive14) rfl ?_
              refine XA_det 7 rfl (by kernel_rfl) (by kernel_rfl) (by kernel_rfl) (by kernel_rfl) (by kernel_rfl) (fun _ _ _ _ h => h) .no (D_pure rfl) rfl ?_
              refine XA_det 8 rfl (by kernel_rfl) (by kernel_rfl) (by kernel_rfl) (by kernel_rfl) (by kernel_rfl) (fun _ _ _ _ h => h) .no (D_pure rfl) rfl ?_
              refine XA_done (by kernel_rfl) ?_
              try simp only [List.cons_append, List.nil_append, List.append_nil]
              refine thenX_normal ?_
              refine X_ret ?_
              refine ret_ok (.nil _) (res_tmp rfl rfl) ?_
              exact ⟨_, ⟨rfl, rfl⟩, _, (by repeat first | with_reducible exact .nil _ | with_reducible exact .here _ _ | with_reducible apply Take.cons | with_reducible apply Out.there)⟩
        · try simp only [decide_eq_true_eq, decide_eq_false_iff_not, Bool.not_eq_true', Bool.not_eq_false', beq_iff_eq, bne_iff_ne, beq_eq_false_iff_ne, bne_eq_false_iff_eq, Int.not_lt, Int.not_le, gt_iff_lt, ge_iff_le, ne_eq] at h4
          have hA : tasksOf x (ed 0) = 0#32 := tasksOf_out (by omega)
          refine XL_skip 37 rfl rfl rfl rfl rfl ?_
          refine XL_skip 37 rfl rfl rfl rfl rfl ?_
          refine XL_skip 37 rfl rfl rfl rfl rfl ?_
          refine XL_skip 37 rfl rfl rfl rfl rfl ?_
          refine XL_skip 37 rfl rfl rfl rfl rfl ?_
          refine XL_skip 37 rfl rfl rfl rfl rfl ?_
          refine XL_det .no (D_pure rfl) rfl ?_
          refine XL_then ?_
          refine X_cond_f rfl rfl ?_
          refine X_skip ?_
          refine thenX_normal ?_
          refine X_seq ?_
          refine X_seq ?_
          refine X_region ?_
          refine XL_det .no (D_fld rfl fld_38_1 (o' := 1) rfl) rfl ?_
          refine XL_det .no (D_ldo rfl (by repeat first | with_reducible exact .here _ _ | with_reducible apply Out.there) tk_3 (by rfl)) rfl ?_
          refine XL_det .no (D_pure rfl) rfl ?_
          refine XL_det .no (D_pure rfl) rfl ?_
          refine XL_split (t := 55) rfl (fun h10 => ?_) (fun h10 => ?_)
          · try simp only [decide_eq_true_eq, decide_eq_false_iff_not, Bool.not_eq_true', Bool.not_eq_false', beq_iff_eq, bne_iff_ne, beq_eq_false_iff_ne, bne_eq_false_iff_eq, Int.not_lt, Int.not_le, gt_iff_lt, ge_iff_le, ne_eq] at h10
            refine XL_det (.yes 55 rfl rfl rfl) (D_fld rfl fld_38_1 (o' := 1) rfl) rfl ?_
            refine XL_det (.yes 55 rfl rfl rfl) (D_ldo rfl (by repeat first | with_reducible exact .here _ _ | with_reducible apply Out.there) tk_3 (by rfl)) rfl ?_
            refine XL_det (.yes 55 rfl rfl rfl) (D_fld rfl fld_26_2 (o' := 2) rfl) rfl ?_
            refine XL_det (.yes 55 rfl rfl rfl) (D_ldo rfl (by repeat first | with_reducible exact .here _ _ | with_reducible apply Out.there) tk_23 (by rfl)) rfl ?_
            refine XL_det (.yes 55 rfl rfl rfl) (D_len rfl rfl slc_23) rfl ?_
            refine XL_det (.yes 55 rfl rfl rfl) (D_pure rfl) rfl ?_
            refine XL_det .no (D_pure rfl) rfl ?_
            refine XL_then ?_
            refine X_cond rfl (fun h11 => ?_) (fun h11 => ?_)
            · try simp only [decide_eq_true_eq, decide_eq_false_iff_not, Bool.not_eq_true', Bool.not_eq_false', beq_iff_eq, bne_iff_ne, beq_eq_false_iff_ne, bne_eq_false_iff_eq, Int.not_lt, Int.not_le, gt_iff_lt, ge_iff_le, ne_eq] at h11
              obtain ⟨kb, hkb⟩ := Int.eq_ofNat_of_zero_le (a := ed 1) (by omega)
              obtain ⟨mb, hgb⟩ : ∃ a, x.modes.l[kb]? = some a := ⟨_, List.getElem?_eq_getElem (by omega)⟩
              have hB : tasksOf x (ed 1) = mb.tasks := by rw [hkb]; exact tasksOf_in hgb
              refine X_region ?_
              refine XL_det .no (D_fld rfl fld_26_2 (o' := 2) rfl) rfl ?_
              refine XL_det .no (D_ldo rfl (by repeat first | with_reducible exact .here _ _ | with_reducible apply Out.there) tk_23 (by rfl)) rfl ?_
              refine XL_det .no (D_fld rfl fld_38_1 (o' := 1) rfl) rfl ?_
              refine XL_det .no (D_ldo rfl (by repeat first | with_reducible exact .here _ _ | with_reducible apply Out.there) tk_3 (by rfl)) rfl ?_
              refine XL_det .no (D_idxSo rfl rfl slc_23 (x.modes).nil0 hkb (by omega) rfl) rfl ?_
              refine XL_det .no (D_fldA rfl fld_41_0 rfl) rfl ?_
              refine XL_det .no (D_ela (enc := encM) (sz := 2) (i := kb) (k := 0) (fun _ => rfl) rfl (by repeat first | with_reducible exact .here _ _ | with_reducible apply Out.there) hx.modes tk_28 hgb rfl) rfl ?_
              refine XL_det .no (D_pure rfl) rfl ?_
              refine XL_then ?_
              refine X_seq ?_
              refine X_draw _ mixed (Take.self _) ?_
              refine XA_det 0 rfl (by kernel_rfl) (by kernel_rfl) (by kernel_rfl) (by kernel_rfl) (by kernel_rfl) (fun _ _ _ _ h => h) .no (D_ldso rfl (by repeat first | with_reducible exact .here _ _ | with_reducible apply Out.there) tk_31 rfl (by rfl)) rfl ?_
              refine XA_det 1 rfl (by kernel_rfl) (by kernel_rfl) (by kernel_rfl) (by kernel_rfl) (by kernel_rfl) (fun _ _ _ _ h => h) .no (D_pure rfl) rfl ?_
              refine XA_det 2 rfl (by kernel_rfl) (by kernel_rfl) (by kernel_rfl) (by kernel_rfl) (by kernel_rfl) (fun _ _ _ _ h => h) .no (D_pure rfl) rfl ?_
              refine XA_one 3 (by kernel_rfl) ?_
              refine XO_callv rfl .no en_11 rfl (tof 0#32 mb.tasks) rfl ?_
              refine XA_det 4 rfl (by kernel_rfl) (by kernel_rfl) (by kernel_rfl) (by kernel_rfl) (by kernel_rfl) (fun _ _ _ _ h => h) .no (D_eqs (b := true) rfl rfl eqk_31 eqg_31 rfl rfl rfl (cls_self (by rw [edgeC_in hget, hA, hB]))) rfl ?_
              refine XA_det 5 rfl (by kernel_rfl) (by kernel_rfl) (by kernel_rfl) (by kernel_rfl) (by kernel_rfl) (fun _ _ _ _ h => h) .no (D_pure rfl) rfl ?_
              refine XA_one 6 (by kernel_rfl) ?_
              refine XO_callv rfl (.yes 75 rfl rfl rfl) en_10 rfl (alive14) rfl ?_
              refine XA_det 7 rfl (by kernel_rfl) (by kernel_rfl) (by kernel_rfl) (by kernel_rfl) (by kernel_rfl) (fun _ _ _ _ h => h) .no (D_pure rfl) rfl ?_
              refine XA_det 8 rfl (by kernel_rfl) (by kernel_rfl) (by kernel_rfl) (by kernel_rfl) (by kernel_rfl) (fun _ _ _ _ h => h) .no (D_pure rfl) rfl ?_
              refine XA_done (by kernel_rfl) ?_
              try simp only [List.cons_append, List.nil_append, List.append_nil]
              refine thenX_normal ?_
              refine X_ret ?_
              refine ret_ok (.nil _) (res_tmp rfl rfl) ?_
              exact ⟨_, ⟨rfl, rfl⟩, _, (by repeat first | with_reducible exact .nil _ | with_reducible exact .here _ _ | with_reducible apply Take.cons | with_reducible apply Out.there)⟩
            · try simp only [decide_eq_true_eq, decide_eq_false_iff_not, Bool.not_eq_true', Bool.not_eq_false', beq_iff_eq, bne_iff_ne, beq_eq_false_iff_ne, bne_eq_false_iff_eq, Int.not_lt, Int.not_le, gt_iff_lt, ge_iff_le, ne_eq] at h11
              have hB : tasksOf x (ed 1) = 0#32 := tasksOf_out (by omega)
              refine X_skip ?_
              refine thenX_normal ?_
              refine X_seq ?_
              refine X_draw _ mixed (Take.self _) ?_
              refine XA_det 0 rfl (by kernel_rfl) (by kernel_rfl) (by kernel_rfl) (by kernel_rfl) (by kernel_rfl) (fun _ _ _ _ h => h) .no (D_ldso rfl (by repeat first | with_reducible exact .here _ _ | with_reducible apply Out.there) tk_31 rfl (by rfl)) rfl ?_
              refine XA_det 1 rfl (by kernel_rfl) (by kernel_rfl) (by kernel_rfl) (by kernel_rfl) (by kernel_rfl) (fun _ _ _ _ h => h) .no (D_pure rfl) rfl ?_
              refine XA_det 2 rfl (by kernel_rfl) (by kernel_rfl) (by kernel_rfl) (by kernel_rfl) (by kernel_rfl) (fun _ _ _ _ h => h) .no (D_pure rfl) rfl ?_
              refine XA_one 3 (by kernel_rfl) ?_
              refine XO_callv rfl .no en_11 rfl (tof 0#32 0#32) rfl ?_
              refine XA_det 4 rfl (by kernel_rfl) (by kernel_rfl) (by kernel_rfl) (by kernel_rfl) (by kernel_rfl) (fun _ _ _ _ h => h) .no (D_eqs (b := true) rfl rfl eqk_31 eqg_31 rfl rfl rfl (cls_self (by rw [edgeC_in hget, hA, hB]))) rfl ?_
              refine XA_det 5 rfl (by kernel_rfl) (by kernel_rfl) (by kernel_rfl) (by kernel_rfl) (by kernel_rfl) (fun _ _ _ _ h => h) .no (D_pure rfl) rfl ?_
              refine XA_one 6 (by kernel_rfl) ?_
              refine XO_callv rfl (.yes 75 rfl rfl rfl) en_10 rfl (alive14) rfl ?_
              refine XA_det 7 rfl (by kernel_rfl) (by kernel_rfl) (by kernel_rfl) (by kernel_rfl) (by kernel_rfl) (fun _ _ _ _ h => h) .no (D_pure rfl) rfl ?_
              refine XA_det 8 rfl (by kernel_rfl) (by kernel_rfl) (by kernel_rfl) (by kernel_rfl) (by kernel_rfl) (fun _ _ _ _ h => h) .no (D_pure rfl) rfl ?_
              refine XA_done (by kernel_rfl) ?_
              try simp only [List.cons_append, List.nil_append, List.append_nil]
              refine thenX_normal ?_
              refine X_ret ?_
              refine ret_ok (.nil _) (res_tmp rfl rfl) ?_
              exact ⟨_, ⟨rfl, rfl⟩, _, (by repeat first | with_reducible exact .nil _ | with_reducible exact .here _ _ | with_reducible apply Take.cons | with_reducible apply Out.there)⟩
          · try simp only [decide_eq_true_eq, decide_eq_false_iff_not, Bool.not_eq_true', Bool.not_eq_false', beq_iff_eq, bne_iff_ne, beq_eq_false_iff_ne, bne_eq_false_iff_eq, Int.not_lt, Int.not_le, gt_iff_lt, ge_iff_le, ne_eq] at h10
            have hB : tasksOf x (ed 1) = 0#32 := tasksOf_out (by omega)
            refine XL_skip 55 rfl rfl rfl rfl rfl ?_
            refine XL_skip 55 rfl rfl rfl rfl rfl ?_
            refine XL_skip 55 rfl rfl rfl rfl rfl ?_
            refine XL_skip 55 rfl rfl rfl rfl rfl ?_
            refine XL_skip 55 rfl rfl rfl rfl rfl ?_
            refine XL_skip 55 rfl rfl rfl rfl rfl ?_
            refine XL_det .no (D_pure rfl) rfl ?_
            refine XL_then ?_
            refine X_cond_f rfl rfl ?_
            refine X_skip ?_
            refine thenX_normal ?_
            refine X_seq ?_
            refine X_draw _ mixed (Take.self _) ?_
            refine XA_det 0 rfl (by kernel_rfl) (by kernel_rfl) (by kernel_rfl) (by kernel_rfl) (by kernel_rfl) (fun _ _ _ _ h => h) .no (D_ldso rfl (by repeat first | with_reducible exact .here _ _ | with_reducible apply Out.there) tk_31 rfl (by rfl)) rfl ?_
            refine XA_det 1 rfl (by kernel_rfl) (by kernel_rfl) (by kernel_rfl) (by kernel_rfl) (by kernel_rfl) (fun _ _ _ _ h => h) .no (D_pure rfl) rfl ?_
            refine XA_det 2 rfl (by kernel_rfl) (by kernel_rfl) (by kernel_rfl) (by kernel_rfl) (by kernel_rfl) (fun _ _ _ _ h => h) .no (D_pure rfl) rfl ?_
            refine XA_one 3 (by kernel_rfl) ?_
            refine XO_callv rfl .no en_11 rfl (tof 0#32 0#32) rfl ?_
            refine XA_det 4 rfl (by kernel_rfl) (by kernel_rfl) (by kernel_rfl) (by kernel_rfl) (by kernel_rfl) (fun _ _ _ _ h => h) .no (D_eqs (b := true) rfl rfl eqk_31 eqg_31 rfl rfl rfl (cls_self (by rw [edgeC_in hget, hA, hB]))) rfl ?_
            refine XA_det 5 rfl (by kernel_rfl) (by kernel_rfl) (by kernel_rfl) (by kernel_rfl) (by kernel_rfl) (fun _ _ _ _ h => h) .no (D_pure rfl) rfl ?_
            refine XA_one 6 (by kernel_rfl) ?_
            refine XO_callv rfl (.yes 75 rfl rfl rfl) en_10 rfl (alive14) rfl ?_
            refine XA_det 7 rfl (by kernel_rfl) (by kernel_rfl) (by kernel_rfl) (by kernel_rfl) (by kernel_rfl) (fun _ _ _ _ h => h) .no (D_pure rfl) rfl ?_
            refine XA_det 8 rfl (by kernel_rfl) (by kernel_rfl) (by kernel_rfl) (by kernel_rfl) (by kernel_rfl) (fun _ _ _ _ h => h) .no (D_pure rfl) rfl ?_
            refine XA_done (by kernel_rfl) ?_
            try simp only [List.cons_append, List.nil_append, List.append_nil]
            refine thenX_normal ?_
            refine X_ret ?_
            refine ret_ok (.nil _) (res_tmp rfl rfl) ?_
            exact ⟨_, ⟨rfl, rfl⟩, _, (by repeat first | with_reducible exact .nil _ | with_reducible exact .here _ _ | with_reducible apply Take.cons | with_reducible apply Out.there)⟩

end Go.Proofs.Ytbejafkklbmaoaa
end

section
namespace Go.Proofs.Ytbejafkklbmaoaa
open Go Go.Sl Go.ChangeShapes Go.WideShapes Go.ChangeAt Go.RowKit
set_option linter.unusedVariables false
theorem own : ownKnob Try.prog.godebug = none := by kernel_rfl
theorem laidOut : laidOutB Try.prog = true := by kernel_rfl
theorem eqk_104 : eqKinds Try.prog 12 104 = some [some .i64, some .i64] := by kernel_rfl
theorem eqk_38 : eqKinds Try.prog 12 38 = some [some .i64, some .i64, some .i64, some .i64, some .i64, some .i64, some .i64, some .i64, some .i64, some .i64, some .i64, some .i64, some .i64, some .i64, some .i64, some .i64, some .i64, some .i64, some .i64, some .i64, some .i64, some .i64, some .i64] := by kernel_rfl
theorem eqk_58 : eqKinds Try.prog 12 58 = some [some .i64, some .i64, some .i64, some .i64, some .i64, some .i64, some .i64, some .i64, some .i64, some .i64, some .i64] := by kernel_rfl

theorem sz_task : (Try.prog.info? 58).map (·.size) = some 11 := by kernel_rfl
theorem sz_edge : (Try.prog.info? 38).map (·.size) = some 23 := by kernel_rfl
theorem sz_q : (Try.prog.info? 104).map (·.size) = some 2 := by kernel_rfl
theorem sl_tasks : slcOf Try.prog 22 = some (58, 11) := by kernel_rfl
theorem sl_modes : slcOf Try.prog 23 = some (41, 2) := by kernel_rfl
theorem sl_edges : slcOf Try.prog 24 = some (38, 23) := by kernel_rfl
theorem sl_qs : slcOf Try.prog 39 = some (104, 2) := by kernel_rfl
theorem shp_img : shp Try.prog 26 = some [3, 22, 23, 24] := by kernel_rfl
theorem shp_mode : shp Try.prog 41 = some [28, 39] := by kernel_rfl
theorem ui_int : Try.prog.underlying 3 = some (.int .i64) := by kernel_rfl
theorem ui_u32 : Try.prog.underlying 28 = some (.int .u32) := by kernel_rfl
/-- The fields' bounds. -/
def okT (e : Nat → Int) : Prop := fitK e 0 [some .i64, some .i64, some .i64, some .i64, some .i64, some .i64, some .i64, some .i64, some .i64, some .i64, some .i64]
def okE (e : Nat → Int) : Prop := fitK e 0 [some .i64, some .i64, some .i64, some .i64, some .i64, some .i64, some .i64, some .i64, some .i64, some .i64, some .i64, some .i64, some .i64, some .i64, some .i64, some .i64, some .i64, some .i64, some .i64, some .i64, some .i64, some .i64, some .i64]
structure Img.Ok (x : Img) : Prop where
  tasks : ∀ e ∈ x.tasks.l, okT e
  edges : ∀ e ∈ x.edges.l, okE e
theorem openImg {W : World} {v : Value} (h : ArgOk Try.prog W 26 v) : ∃ x : Img, v = x.v ∧ x.In (old (B := W.heap.size) W) ∧ x.Ok := by
  obtain ⟨H, enc, cs, rfl, p0, q0, rfl, ⟨n0, x0, h0⟩, p1, q1, rfl, ⟨n1, x1, h1⟩, p2, q2, rfl, ⟨n2, x2, h2⟩, p3, q3, rfl, ⟨n3, x3, h3⟩, rfl⟩ := arg_struct shp_img h
  obtain ⟨res, rfl, _, _⟩ := DataW.trod_int ui_int h0
  obtain ⟨ta, rfl, t1, t2⟩ := Arr.of_trod (encA := encT) (ok := okT) sl_tasks (by decide) h1 (fun n cs x hx => flat_dec eqk_58 sz_task hx)
  obtain ⟨ed, rfl, e1, e2⟩ := Arr.of_trod (encA := encE) (ok := okE) sl_edges (by decide) h3 (fun n cs x hx => flat_dec eqk_38 sz_edge hx)
  obtain ⟨mo, rfl, m1, m2⟩ := Arr.of_trod (encA := encM) (ok := fun m => Rd (old (B := W.heap.size) W) m.q.ad (m.q.l.flatMap encQ)) sl_modes (by decide) h2 (fun n cs x hx => by
    obtain ⟨p0, q0, rfl, ⟨n0, x0, h0⟩, p1, q1, rfl, ⟨n1, x1, h1⟩, rfl⟩ := struct_parts shp_mode hx
    obtain ⟨b, rfl, _, hb⟩ := DataW.trod_int ui_u32 h0
    obtain ⟨b, rfl⟩ := u32_bv hb
    obtain ⟨q, rfl, _, q2⟩ := Arr.of_trod (encA := encQ) (ok := fun _ => True) sl_qs (by decide) h1 (fun n cs x hx => by
      obtain ⟨e, he, _⟩ := flat_dec eqk_104 sz_q hx
      exact ⟨e, he, trivial⟩)
    exact ⟨⟨b, q⟩, rfl, q2⟩)
  exact ⟨⟨res, ta, mo, ed⟩, rfl, ⟨t2, m2, e2, m1⟩, ⟨t1, e1⟩⟩

/-- The walk, at the arguments as the row reads them. -/
theorem walkClassEdges (W : World) (args : Array Value) (h : ArgsOk Try.prog W Try.f3.params.toList args.toList) : Calls Try.prog 3 args W fun e w' => e = .returned (.bool true) ∧ Go.RowKit.Below W.heap.size W w' := by
  rw [show Try.f3.params.toList = [26, 3] from by kernel_rfl] at h
  obtain ⟨args⟩ := args
  match args, h with
  | [v0, v1], h =>
    obtain ⟨a0, a1, _⟩ := h
    obtain ⟨x, rfl, hx, _⟩ := openImg a0
    obtain ⟨i, rfl, _⟩ := arg_int ui_int a1
    exact calls_of (old_self W) ((classEdges x hx i).mono fun _ _ h => h.1)

set_option maxRecDepth 100000 in
theorem liftedClassEdges (os : Os) (started : os.Started) (H : Type) (enc : TypeId × Value → H) :
    ReturnsInHanded {} Try.checked os 3 .any (Rows.classEdgesSpec.pre6 enc Try.prog Try.f3 Rows.classEdgesRow.domain false) (Rows.classEdgesSpec.post enc Try.prog Try.f3 false true false false) :=
  handed (C := Try.checked) (tb := 4) own started (by kernel_rfl) Try.func3 laidOut (by kernel_rfl) rfl
    (fun ds h => by
      have h : ds.length = 2 := h
      match ds, h with
      | [_, _], _ => exact ⟨rfl, rfl, rfl⟩) (by kernel_rfl) (by kernel_rfl)
    (ChangeSpec.witness6 (enc := enc) (C := Try.checked) false ⟨#[], #[.agg #[.int .i64 0, .slice none 0 0, .slice none 0 0, .slice none 0 0], .int .i64 0], []⟩ 8 (by kernel_rfl) (by kernel_rfl) (by kernel_rfl) (by kernel_rfl))
    (fun W args h => walkClassEdges W args h)

theorem overClassEdges : Rows.classEdgesRow.holds Try.pinned (OpenSpec.ofChange Rows.classEdgesSpec) :=
  OpenClaim.holds_of_wide 3 Try.f3 rfl rfl rfl rfl rfl rfl rfl ⟨rfl, rfl, rfl, rfl, rfl⟩ rfl rfl rfl rfl rfl (by kernel_rfl) Try.func3 (by kernel_rfl)
    (of_decide_eq_true (by kernel_rfl)) (by unfold Func.isWrapper; first | (rw [if_pos (by decide +kernel)]; kernel_rfl) | (rw [if_neg (by decide +kernel)]; exact ⟨rfl, rfl⟩))
    (fun os started H enc _ => liftedClassEdges os started H enc)

/-- The statement. -/
theorem provedClassEdges : Rows.ClassEdgesSaid := overClassEdges

#print axioms provedClassEdges
end Go.Proofs.Ytbejafkklbmaoaa
end
