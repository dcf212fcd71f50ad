/- The given statement SimulTellsCardSaid is proved: whatever way the jobs of a set come, the simulation runs in each tick as the document does, and tells the longest jobs and the first tick in which nobody runs. Conditions: images that are right and not too great, at most 400 ticks, as the statement itself says them; none beside. -/
import Derived.Test.YtkkdchgnknpceaaDoorSimulTellsP4
import Derived.KernelRfl
import Derived.Test.YtkkdchgnknpceaaDoorProg
import Derived.Test.YtkkdchgnknpceaaDoorRows
import Derived.Test.YtkkdchgnknpceaaDoorTie
import Derived.Test.YtkkdchgnknpceaaDoorCards
import Derived.SevenTiedAt
import Derived.LaidMore
section
namespace Go.Proofs.YtkkdchgnknpceaaDoor
open Go Go.Sl
set_option linter.unusedVariables false
set_option linter.unusedSimpArgs false
set_option maxRecDepth 4000
variable {B : Nat} {K : Asrt B}
theorem en_29 : Go.Proofs.Enters Tryd.prog 29 := Go.Proofs.enters_of Tryd.func29 (by kernel_rfl) rfl
theorem en_38 : Go.Proofs.Enters Tryd.prog 38 := Go.Proofs.enters_of Tryd.func38 (by kernel_rfl) rfl
theorem en_39 : Go.Proofs.Enters Tryd.prog 39 := Go.Proofs.enters_of Tryd.func39 (by kernel_rfl) rfl
theorem en_40 : Go.Proofs.Enters Tryd.prog 40 := Go.Proofs.enters_of Tryd.func40 (by kernel_rfl) rfl
theorem en_41 : Go.Proofs.Enters Tryd.prog 41 := Go.Proofs.enters_of Tryd.func41 (by kernel_rfl) rfl
theorem en_42 : Go.Proofs.Enters Tryd.prog 42 := Go.Proofs.enters_of Tryd.func42 (by kernel_rfl) rfl
theorem en_43 : Go.Proofs.Enters Tryd.prog 43 := Go.Proofs.enters_of Tryd.func43 (by kernel_rfl) rfl
theorem eqg_53 : Tryd.prog.eqGuardType Tryd.prog.depth 53 = false := by kernel_rfl
theorem eqg_86 : Tryd.prog.eqGuardType Tryd.prog.depth 86 = false := by kernel_rfl
theorem eqk_53 : eqKinds Tryd.prog 12 53 = some [some .i64, some .i64, some .i64, none, some .i64, none] := by kernel_rfl
theorem eqk_86 : eqKinds Tryd.prog 12 86 = some [some .i64, some .i64, some .i64, some .i64, some .i64, some .i64, some .i64, some .i64, some .i64, some .i64, some .i64, some .i64, some .i64, some .i64, some .i64, some .i64, some .i64, none] := by kernel_rfl
theorem fld_76_0 : fldOff Tryd.prog 76 0 = some 0 := by kernel_rfl
theorem fld_83_0 : fldOff Tryd.prog 83 0 = some 0 := by kernel_rfl
theorem fld_83_1 : fldOff Tryd.prog 83 1 = some 17 := by kernel_rfl
theorem fnt_133 : isFuncT Tryd.prog 133 = true := by kernel_rfl
theorem slc_92 : slcOf Tryd.prog 92 = some (53, 6) := by kernel_rfl
theorem slt_92 : slT Tryd.prog 92 = some (53, 6, 48, [.int .i64 0, .int .i64 0, .int .i64 0, .bool false, .int .i64 0, .bool false]) := by kernel_rfl
theorem tk_38 : tyK Tryd.prog 38 = some (true, 16) := by kernel_rfl
theorem tk_92 : tyK Tryd.prog 92 = some (false, 1) := by kernel_rfl
theorem zero_92 : zeroOf Tryd.prog 92 = some [.slice none 0 0] := by kernel_rfl

abbrev encAsk (w : Way) (m : Int) : List Value := encWay w ++ [.int .i64 m]
theorem ask_m {w : Way} {m : Int} : (encAsk w m)[17]? = some (.int .i64 m) := app_get2 (n := 17) (k := 0) (by simp [rowF_len]) rfl
theorem ask_part {w : Way} {m : Int} : (encAsk w m)[16]? = some (.int .i64 w.part) := app_get1 way_part
theorem cells_refl : ∀ {xs : List Value}, (∀ x ∈ xs, veq x x = true) → cellsEq xs xs = true
  | [], _ => rfl
  | x :: xs, h => by
    show (veq x x && cellsEq xs xs) = true
    rw [h x (by simp), cells_refl fun y hy => h y (by simp [hy])]; rfl
theorem seen_eq (p : SeenS) : cellsEq (encSeen p) (encSeen p) = true := cells_refl fun x hx => by
  rcases List.mem_append.1 hx with h | h
  · obtain ⟨i, _, rfl⟩ := List.mem_map.1 h; simp [veq]
  · simp at h; rcases h with rfl | rfl <;> simp [veq]
theorem ranE (x : Ran) : cellsEq (encR x) (encR x) = true := by simp [cellsEq, veq]
theorem upd_self {f : Nat → Int} {k : Nat} : upd f k (f k) = f := by
  funext j; by_cases e : j = k
  · subst e; rw [upd_same]
  · rw [upd_ne _ _ e]
section
variable {ts : List (Nat → Int)} {w : Way} {s : BitVec 32}
theorem idle_s (n : Nat) : idleN ts w s (n + 1) = if (idleN ts w s n).2 = true then idleN ts w s n else if (ranC ts w s n).task < 0 then ((n : Int), true) else idleN ts w s n := by
  unfold idleN
  rw [List.range_succ, List.find?_append]
  cases hf : (List.range n).find? (fun u => decide ((ranC ts w s u).task < 0)) with
  | some v => simp
  | none =>
    by_cases h : (ranC ts w s n).task < 0
    · simp [h]
    · simp [h]
theorem idle_t {n : Nat} (h : (ranC ts w s n).task < 0) (g : (idleN ts w s n).2 = false) : idleN ts w s (n + 1) = ((n : Int), true) := by
  rw [idle_s, if_neg (by rw [g]; decide), if_pos h]
theorem idle_k {n : Nat} (h : ¬ ((ranC ts w s n).task < 0 ∧ (idleN ts w s n).2 = false)) : idleN ts w s (n + 1) = idleN ts w s n := by
  rw [idle_s]
  by_cases g : (idleN ts w s n).2 = true
  · rw [if_pos g]
  · rw [if_neg g, if_neg (fun q => h ⟨q, by simpa using g⟩)]
end
theorem tsok_of {x : Img} (h : RightP x) : TsOk x.tasks.l := ⟨h.nt.2, fun e he => ⟨(h.tasks e he).p, (h.tasks e he).d, (h.tasks e he).c, fun r hr => ⟨((h.tasks e he).l r hr).1, ((h.tasks e he).l r hr).2.1⟩⟩⟩
abbrev ranL (ts : List (Nat → Int)) (w : Way) (s : BitVec 32) (n : Nat) : List Ran := (List.range n).map (ranC ts w s)
theorem ranL_s {ts : List (Nat → Int)} {w : Way} {s : BitVec 32} {n : Nat} : ranL ts w s (n + 1) = ranL ts w s n ++ [ranC ts w s n] := by simp [ranL, List.range_succ]
theorem ranL_get {ts : List (Nat → Int)} {w : Way} {s : BitVec 32} {n i : Nat} (h : i < n) : (ranL ts w s n)[i]? = some (ranC ts w s i) := by simp [ranL, h]

theorem lticks {Ki : Asrt B} (x : Img) (hx : x.In Ki) (hT : TsOk x.tasks.l) (s : BitVec 32) (w : Way) (hw : WayOk w) (mny : Int) (most : Nat) (hm : 1 ≤ most ∧ most ≤ 1000) (hK : Rd K ⟨0, 0, none⟩ (tab32.map fun m => .int .u8 m)) (hd : Dup K) : Ctr Tryd.prog B 40 [x.v, .int .u32 s.toNat, .agg (encWay w).toArray, .int .i64 mny, .int .i64 (most : Int)] [K, Ki] (fun v S => ∃ a : Arr Ran, (a.l = (ranL x.tasks.l w s (min (nT mny) most)) ∧ a.Own) ∧ v = a.v ∧ S = [row (.slice a.oad a.l.length a.c) 53 6 a.l.length (a.l.flatMap encR), K, Ki]) := by
  refine Ctr_of_X (N := 38) Tryd.func40 rfl (by simp) rfl ?_
  intro w0 D0
  refine X_seq ?_
  refine X_region ?_
  refine XL_box (cs := [.int .i64 x.res, .slice x.tasks.oad x.tasks.l.length x.tasks.c, .slice x.modes.oad x.modes.l.length x.modes.c, .slice x.edges.oad x.edges.l.length x.edges.c]) .no rfl rfl rfl (fun b1 => ?_)
  refine XL_box (cs := encWay w) .no rfl rfl rfl (fun b2 => ?_)
  refine XL_box .no rfl rfl rfl (fun b3 => ?_)
  refine XL_alloc .no zero_92 rfl (fun b4 => ?_)
  refine XL_then ?_
  refine X_seq ?_
  refine X_region ?_
  refine XL_alloc .no zero_92 rfl (fun b5 => ?_)
  refine XL_then ?_
  refine X_seq ?_
  refine X_seq ?_
  refine X_region ?_
  refine XL_det .no (D_ldso (vs := [.int .i64 x.res, .slice x.tasks.oad x.tasks.l.length x.tasks.c, .slice x.modes.oad x.modes.l.length x.modes.c, .slice x.edges.oad x.edges.l.length x.edges.c]) rfl (by with_reducible repeat first | exact .here _ _ | apply Out.there | apply Out.app) tk_26 rfl (by rfl)) rfl ?_
  refine XL_det .no (D_pure rfl) rfl ?_
  refine XL_det .no (D_ldso (vs := encWay w) rfl (by with_reducible repeat first | exact .here _ _ | apply Out.there | apply Out.app) tk_81 rfl (by rfl)) rfl ?_
  refine XL_det .no (D_pure rfl) rfl ?_
  refine XL_call .no en_69 rfl (wTicks x s w mny) (by with_reducible repeat first | exact .nil _ | exact .here _ _ | exact Take.self _ | apply Take.cons | apply Out.there | apply Take.skip | exact Take.pre _ _ | apply Out.app) rfl ?_
  rintro _ _ ⟨bx, bs, bm, bw, rfl, rfl⟩
  simp only [List.cons_append, List.nil_append]
  refine XL_det .no (D_pure rfl) rfl ?_
  refine XL_then ?_
  refine X_seq ?_
  refine X_region ?_
  refine XL_det .no (D_pure rfl) rfl ?_
  refine XL_det .no (D_nef rfl rfl fnt_133) rfl ?_
  refine XL_then ?_
  refine X_cond_t rfl rfl ?_
  refine X_seq ?_
  refine X_region ?_
  refine XL_det .no (D_pure rfl) rfl ?_
  refine XL_then ?_
  refine X_block ?_
  refine X_rownil 53 6 ?_
  refine X_range (own := [blk bx [.int .i64 x.res, .slice x.tasks.oad x.tasks.l.length x.tasks.c, .slice x.modes.oad x.modes.l.length x.modes.c, .slice x.edges.oad x.edges.l.length x.edges.c] 26, blk bs [.int .u32 s.toNat] 37, blk bm [.int .i64 mny] 3, blk bw (encWay w) 81, K, Ki]) (S1 := [blk b3 [.int .i64 (most : Int)] 3, blk b5 [.slice none 0 0] 92, row (.slice none 0 0) 53 6 0 []]) rfl en_91 (ticksItr bx bs bm bw x hx hT s w hw mny hK hd) (fun n S => ∃ a : Arr Ran, (a.l = (ranL x.tasks.l w s n) ∧ a.Own ∧ n < most) ∧ S = [blk b3 [.int .i64 (most : Int)] 3, blk b5 [a.v] 92, row (.slice a.oad a.l.length a.c) 53 6 a.l.length (a.l.flatMap encR)]) (fun c n S => c = .exit 0 ∧ ∃ a : Arr Ran, (a.l = (ranL x.tasks.l w s most) ∧ a.Own ∧ most ≤ nT mny) ∧ S = [blk b3 [.int .i64 (most : Int)] 3, blk b5 [a.v] 92, row (.slice a.oad a.l.length a.c) 53 6 a.l.length (a.l.flatMap encR)]) (show Take ([blk bx [.int .i64 x.res, .slice x.tasks.oad x.tasks.l.length x.tasks.c, .slice x.modes.oad x.modes.l.length x.modes.c, .slice x.edges.oad x.edges.l.length x.edges.c] 26, blk bs [.int .u32 s.toNat] 37, blk bm [.int .i64 mny] 3, blk bw (encWay w) 81, K, Ki, blk b3 [.int .i64 (most : Int)] 3, blk b5 [.slice none 0 0] 92, row (.slice none 0 0) 53 6 0 []]) _ _ from (by with_reducible repeat first | exact .nil _ | exact .here _ _ | exact Take.self _ | apply Take.cons | apply Out.there | apply Take.skip | exact Take.pre _ _ | apply Out.app)) (⟨Arr.emp, ⟨rfl, Arr.emp_own, by omega⟩, rfl⟩) rfl (fun x hx => by obtain ⟨y, _, rfl⟩ := List.mem_map.1 hx; rfl) ?_ ?_ ?_
  · intro ly rec A2 n S2 hn hJ
    obtain ⟨a, ⟨ha, hao, hnm⟩, rfl⟩ := hJ
    rw [xsT_len] at hn
    have hal : a.l.length = n := by rw [ha]; simp [ranL]
    rw [xsT_get hn]
    refine X_seq ?_
    refine X_region ?_
    refine XL_det .no (D_pure rfl) rfl ?_
    refine XL_then ?_
    refine X_region ?_
    refine XL_alloc .no zero_53 rfl (fun b6 => ?_)
    refine XL_efd .no (F_stw rfl rfl rfl (by with_reducible repeat first | exact .here _ _ | apply Out.there | apply Out.app) tk_53 rfl rfl) ?_
    refine XL_nil ?_
    refine ⟨rfl, _, _, .cons (by with_reducible repeat first | exact .here _ _ | apply Out.there | apply Out.app) (Take.self _), fun rec2 => ?_⟩
    refine X_block ?_
    refine X_seq ?_
    refine X_seq ?_
    refine X_region ?_
    refine XL_det .no (D_pure rfl) rfl ?_
    refine XL_det .no (D_ldo rfl (by with_reducible repeat first | exact .here _ _ | apply Out.there | apply Out.app) tk_92 (by rfl)) rfl ?_
    refine XL_det .no (D_len rfl rfl slc_92) rfl ?_
    refine XL_det .no (D_pure rfl) rfl ?_
    refine XL_then ?_
    refine X_cond rfl (fun h1 => ?_) (fun h1 => ?_)
    · try simp only [decide_eq_true_eq, decide_eq_false_iff_not, Bool.not_eq_true', Bool.not_eq_false', beq_iff_eq, bne_iff_ne, beq_eq_false_iff_ne, bne_eq_false_iff_eq, Int.not_lt, Int.not_le, gt_iff_lt, ge_iff_le, ne_eq] at h1
      omega
    · try simp only [decide_eq_true_eq, decide_eq_false_iff_not, Bool.not_eq_true', Bool.not_eq_false', beq_iff_eq, bne_iff_ne, beq_eq_false_iff_ne, bne_eq_false_iff_eq, Int.not_lt, Int.not_le, gt_iff_lt, ge_iff_le, ne_eq] at h1
      refine X_skip ?_
      refine thenX_normal ?_
      refine X_seq ?_
      refine X_region ?_
      refine XL_det .no (D_ldo rfl (by with_reducible repeat first | exact .here _ _ | apply Out.there | apply Out.app) tk_92 (by rfl)) rfl ?_
      refine XL_det .no (D_ldso (vs := encR (ranC x.tasks.l w s n)) rfl (by with_reducible repeat first | exact .here _ _ | apply Out.there | apply Out.app) tk_53 rfl (by rfl)) rfl ?_
      refine XL_bslice (cs := ([(ranC x.tasks.l w s n)] : List Ran).flatMap encR) .no rfl slt_92 (by decide) (by decide) (by rfl) (by rfl) rfl rfl (fun b7 => ?_)
      refine XL_appl (enc := encR) (c := a) [(ranC x.tasks.l w s n)] (K := _) .no rfl rfl rfl slt_92 (by with_reducible repeat first | exact .here _ _ | apply Out.there | apply Out.app) (by with_reducible repeat first | exact .here _ _ | apply Out.there | apply Out.app) (Rd_blk0) (fun _ => rfl) (fun _ => rfl) (by omega) (by omega) rfl (fun a2 ha2 ha2o => ?_)
      refine XL_efd .no (F_stl rfl rfl rfl (by with_reducible repeat first | exact .here _ _ | apply Out.there | apply Out.app) tk_92 (by repeat first | exact .zero _ _ _ | apply SetL.succ)) ?_
      refine XL_then ?_
      refine X_seq ?_
      refine X_region ?_
      refine XL_det .no (D_ldo rfl (by with_reducible repeat first | exact .here _ _ | apply Out.there | apply Out.app) tk_92 (by rfl)) rfl ?_
      refine XL_det .no (D_len rfl rfl slc_92) rfl ?_
      refine XL_det .no (D_ldo rfl (by with_reducible repeat first | exact .here _ _ | apply Out.there | apply Out.app) tk_3 (by rfl)) rfl ?_
      refine XL_det .no (D_pure rfl) rfl ?_
      refine XL_then ?_
      refine X_cond rfl (fun h2 => ?_) (fun h2 => ?_)
      · try simp only [decide_eq_true_eq, decide_eq_false_iff_not, Bool.not_eq_true', Bool.not_eq_false', beq_iff_eq, bne_iff_ne, beq_eq_false_iff_ne, bne_eq_false_iff_eq, Int.not_lt, Int.not_le, gt_iff_lt, ge_iff_le, ne_eq] at h2
        refine X_exit ?_
        refine inBlk_out rfl ?_
        have hme : n + 1 = most := by have : a2.l.length = n + 1 := by { rw [ha2]; simp; exact hal }; omega
        exact ⟨[blk b3 [.int .i64 (most : Int)] 3, blk b5 [a2.v] 92, row (.slice a2.oad a2.l.length a2.c) 53 6 a2.l.length (a2.l.flatMap encR)], _, (by with_reducible repeat first | exact .nil _ | exact .here _ _ | exact Take.self _ | apply Take.cons | apply Out.there | apply Take.skip | exact Take.pre _ _ | apply Out.app), ⟨rfl, a2, ⟨by rw [ha2, ha, ← ranL_s, hme], ha2o, by omega⟩, rfl⟩⟩
      · try simp only [decide_eq_true_eq, decide_eq_false_iff_not, Bool.not_eq_true', Bool.not_eq_false', beq_iff_eq, bne_iff_ne, beq_eq_false_iff_ne, bne_eq_false_iff_eq, Int.not_lt, Int.not_le, gt_iff_lt, ge_iff_le, ne_eq] at h2
        refine X_skip ?_
        refine inBlk_normal ?_
        have ha3 : a2.l.length = n + 1 := by { rw [ha2]; simp; exact hal }
        exact ⟨[blk b3 [.int .i64 (most : Int)] 3, blk b5 [a2.v] 92, row (.slice a2.oad a2.l.length a2.c) 53 6 a2.l.length (a2.l.flatMap encR)], _, (by with_reducible repeat first | exact .nil _ | exact .here _ _ | exact Take.self _ | apply Take.cons | apply Out.there | apply Take.skip | exact Take.pre _ _ | apply Out.app), ⟨a2, ⟨by rw [ha2, ha, ranL_s], ha2o, by omega⟩, rfl⟩⟩
  · intro dd0 S2 hJ
    obtain ⟨a, ⟨ha, hao, hnm⟩, rfl⟩ := hJ
    rw [xsT_len] at ha hnm
    have hae : a.l = (ranL x.tasks.l w s (min (nT mny) most)) := by rw [ha, Nat.min_eq_left (by omega)]
    simp only [List.cons_append, List.nil_append]
    refine inBlk_normal ?_
    refine thenX_normal ?_
    refine X_seq ?_
    refine X_region ?_
    refine XL_det .no (D_ldo rfl (by with_reducible repeat first | exact .here _ _ | apply Out.there | apply Out.app) tk_92 (by rfl)) rfl ?_
    refine XL_efd .no (F_stl rfl rfl rfl (by with_reducible repeat first | exact .here _ _ | apply Out.there | apply Out.app) tk_92 (by repeat first | exact .zero _ _ _ | apply SetL.succ)) ?_
    refine XL_then ?_
    refine X_ret ?_
    refine ret_ok (show Take [dfr dd0] _ _ from (by with_reducible repeat first | exact .nil _ | exact .here _ _ | exact Take.self _ | apply Take.cons | apply Out.there | apply Take.skip | exact Take.pre _ _ | apply Out.app)) (res_cell1 rfl rfl (by with_reducible repeat first | exact .here _ _ | apply Out.there | apply Out.app) tk_92) ?_
    exact ⟨[row (.slice a.oad a.l.length a.c) 53 6 a.l.length (a.l.flatMap encR), K, Ki], ⟨a, ⟨hae, hao⟩, rfl, rfl⟩, _, (by repeat first | (with_reducible first | exact .nil _ | exact .here _ _) | exact .here _ _ | (with_reducible first | exact Take.self _ | apply Take.cons | apply Out.there | apply Take.skip | exact Take.pre _ _ | apply Out.app))⟩
  · intro dd0 c i S2 hi h
    obtain ⟨rfl, a, ⟨ha, hao, hnm⟩, rfl⟩ := h
    have hae : a.l = (ranL x.tasks.l w s (min (nT mny) most)) := by rw [ha, Nat.min_eq_right hnm]
    simp only [List.cons_append, List.nil_append]
    refine X_exit ?_
    refine inBlk_here ?_
    refine thenX_normal ?_
    refine X_seq ?_
    refine X_region ?_
    refine XL_det .no (D_ldo rfl (by with_reducible repeat first | exact .here _ _ | apply Out.there | apply Out.app) tk_92 (by rfl)) rfl ?_
    refine XL_efd .no (F_stl rfl rfl rfl (by with_reducible repeat first | exact .here _ _ | apply Out.there | apply Out.app) tk_92 (by repeat first | exact .zero _ _ _ | apply SetL.succ)) ?_
    refine XL_then ?_
    refine X_ret ?_
    refine ret_ok (show Take [dfr dd0] _ _ from (by with_reducible repeat first | exact .nil _ | exact .here _ _ | exact Take.self _ | apply Take.cons | apply Out.there | apply Take.skip | exact Take.pre _ _ | apply Out.app)) (res_cell1 rfl rfl (by with_reducible repeat first | exact .here _ _ | apply Out.there | apply Out.app) tk_92) ?_
    exact ⟨[row (.slice a.oad a.l.length a.c) 53 6 a.l.length (a.l.flatMap encR), K, Ki], ⟨a, ⟨hae, hao⟩, rfl, rfl⟩, _, (by repeat first | (with_reducible first | exact .nil _ | exact .here _ _) | exact .here _ _ | (with_reducible first | exact Take.self _ | apply Take.cons | apply Out.there | apply Take.skip | exact Take.pre _ _ | apply Out.app))⟩

theorem simulTells {Ki : Asrt B} (x : Img) (hx : x.In Ki) (s : BitVec 32) (w : Way) (hw : WayOk w) (mny : Int) (hK : Rd K ⟨0, 0, none⟩ (tab32.map fun m => .int .u8 m)) (hd : Dup K) : Ctr Tryd.prog B 7 [x.v, .int .u32 s.toNat, .agg (encAsk w mny).toArray] [K, Ki] (fun v S => v = .bool true ∧ S = [K, Ki]) := by
  refine Ctr_of_X (N := 182) Tryd.func7 rfl (by simp) rfl ?_
  intro w0 D0
  refine X_seq ?_
  refine X_region ?_
  refine XL_box (cs := [.int .i64 x.res, .slice x.tasks.oad x.tasks.l.length x.tasks.c, .slice x.modes.oad x.modes.l.length x.modes.c, .slice x.edges.oad x.edges.l.length x.edges.c]) .no rfl rfl rfl (fun b1 => ?_)
  refine XL_box (cs := encAsk w mny) .no rfl rfl rfl (fun b2 => ?_)
  refine XL_det .no (D_pure rfl) rfl ?_
  refine XL_then ?_
  refine X_seq ?_
  refine X_seq ?_
  refine X_region ?_
  refine XL_det .no (D_ldso (vs := [.int .i64 x.res, .slice x.tasks.oad x.tasks.l.length x.tasks.c, .slice x.modes.oad x.modes.l.length x.modes.c, .slice x.edges.oad x.edges.l.length x.edges.c]) rfl (by with_reducible repeat first | exact .here _ _ | apply Out.there | apply Out.app) tk_26 rfl (by rfl)) rfl ?_
  refine XL_callk .no en_9 rfl (rgreat x hx) (by with_reducible repeat first | exact .nil _ | exact .here _ _ | exact Take.self _ | apply Take.cons | apply Out.there | apply Take.skip | exact Take.pre _ _ | apply Out.app) rfl ?_
  refine XL_det .no (D_pure rfl) rfl ?_
  refine XL_split (t := 20) rfl (fun h1 => ?_) (fun h1 => ?_)
  · try simp only [decide_eq_true_eq, decide_eq_false_iff_not, Bool.not_eq_true', Bool.not_eq_false', beq_iff_eq, bne_iff_ne, beq_eq_false_iff_ne, bne_eq_false_iff_eq, Int.not_lt, Int.not_le, gt_iff_lt, ge_iff_le, ne_eq] at h1
    refine XL_skip 20 rfl rfl rfl rfl rfl ?_
    refine XL_skip 20 rfl rfl rfl rfl rfl ?_
    refine XL_skip 20 rfl rfl rfl rfl rfl ?_
    refine XL_det .no (D_pure rfl) rfl ?_
    refine XL_det .no (D_pure rfl) rfl ?_
    refine XL_skip 25 rfl rfl rfl rfl rfl ?_
    refine XL_skip 25 rfl rfl rfl rfl rfl ?_
    refine XL_skip 25 rfl rfl rfl rfl rfl ?_
    refine XL_det .no (D_pure rfl) rfl ?_
    refine XL_then ?_
    refine X_cond_t rfl rfl ?_
    refine X_seq ?_
    refine X_region ?_
    refine XL_det .no (D_pure rfl) rfl ?_
    refine XL_then ?_
    refine X_ret ?_
    refine thenX_ret ?_
    refine ret_ok (.nil _) (res_tmp rfl rfl) ?_
    exact ⟨[K, Ki], ⟨rfl, rfl⟩, _, (by repeat first | (with_reducible first | exact .nil _ | exact .here _ _) | exact .here _ _ | (with_reducible first | exact Take.self _ | apply Take.cons | apply Out.there | apply Take.skip | exact Take.pre _ _ | apply Out.app))⟩
  · try simp only [decide_eq_true_eq, decide_eq_false_iff_not, Bool.not_eq_true', Bool.not_eq_false', beq_iff_eq, bne_iff_ne, beq_eq_false_iff_ne, bne_eq_false_iff_eq, Int.not_lt, Int.not_le, gt_iff_lt, ge_iff_le, ne_eq] at h1
    refine XL_det (.yes 20 rfl rfl rfl) (D_ldso (vs := [.int .i64 x.res, .slice x.tasks.oad x.tasks.l.length x.tasks.c, .slice x.modes.oad x.modes.l.length x.modes.c, .slice x.edges.oad x.edges.l.length x.edges.c]) rfl (by with_reducible repeat first | exact .here _ _ | apply Out.there | apply Out.app) tk_26 rfl (by rfl)) rfl ?_
    refine XL_call (.yes 20 rfl rfl rfl) en_10 rfl (rright x hx h1) (by with_reducible repeat first | exact .nil _ | exact .here _ _ | exact Take.self _ | apply Take.cons | apply Out.there | apply Take.skip | exact Take.pre _ _ | apply Out.app) rfl ?_
    rintro _ _ ⟨br, rfl, hbr, rfl⟩
    simp only [List.cons_append, List.nil_append]
    refine XL_det (.yes 20 rfl rfl rfl) (D_pure rfl) rfl ?_
    refine XL_det .no (D_pure rfl) rfl ?_
    refine XL_det .no (D_pure rfl) rfl ?_
    refine XL_split (t := 25) rfl (fun h2 => ?_) (fun h2 => ?_)
    · try simp only [decide_eq_true_eq, decide_eq_false_iff_not, Bool.not_eq_true', Bool.not_eq_false', beq_iff_eq, bne_iff_ne, beq_eq_false_iff_ne, bne_eq_false_iff_eq, Int.not_lt, Int.not_le, gt_iff_lt, ge_iff_le, ne_eq] at h2
      refine XL_skip 25 rfl rfl rfl rfl rfl ?_
      refine XL_skip 25 rfl rfl rfl rfl rfl ?_
      refine XL_skip 25 rfl rfl rfl rfl rfl ?_
      refine XL_det .no (D_pure rfl) rfl ?_
      refine XL_then ?_
      refine X_cond_t rfl rfl ?_
      refine X_seq ?_
      refine X_region ?_
      refine XL_det .no (D_pure rfl) rfl ?_
      refine XL_then ?_
      refine X_ret ?_
      refine thenX_ret ?_
      refine ret_ok (.nil _) (res_tmp rfl rfl) ?_
      exact ⟨[K, Ki], ⟨rfl, rfl⟩, _, (by repeat first | (with_reducible first | exact .nil _ | exact .here _ _) | exact .here _ _ | (with_reducible first | exact Take.self _ | apply Take.cons | apply Out.there | apply Take.skip | exact Take.pre _ _ | apply Out.app))⟩
    · try simp only [decide_eq_true_eq, decide_eq_false_iff_not, Bool.not_eq_true', Bool.not_eq_false', beq_iff_eq, bne_iff_ne, beq_eq_false_iff_ne, bne_eq_false_iff_eq, Int.not_lt, Int.not_le, gt_iff_lt, ge_iff_le, ne_eq] at h2
      have hR := hbr h2
      have hT := tsok_of hR
      have hn16 := hT.n
      refine XL_det (.yes 25 rfl rfl rfl) (D_fld rfl fld_83_1 (o' := 17) rfl) rfl ?_
      refine XL_det (.yes 25 rfl rfl rfl) (D_ldo (v := .int .i64 mny) rfl (by with_reducible repeat first | exact .here _ _ | apply Out.there | apply Out.app) tk_3 (ask_m)) rfl ?_
      refine XL_det (.yes 25 rfl rfl rfl) (D_pure rfl) rfl ?_
      refine XL_det .no (D_pure rfl) rfl ?_
      refine XL_then ?_
      refine X_cond rfl (fun h3 => ?_) (fun h3 => ?_)
      · try simp only [decide_eq_true_eq, decide_eq_false_iff_not, Bool.not_eq_true', Bool.not_eq_false', beq_iff_eq, bne_iff_ne, beq_eq_false_iff_ne, bne_eq_false_iff_eq, Int.not_lt, Int.not_le, gt_iff_lt, ge_iff_le, ne_eq] at h3
        refine X_seq ?_
        refine X_region ?_
        refine XL_det .no (D_pure rfl) rfl ?_
        refine XL_then ?_
        refine X_ret ?_
        refine thenX_ret ?_
        refine ret_ok (.nil _) (res_tmp rfl rfl) ?_
        exact ⟨[K, Ki], ⟨rfl, rfl⟩, _, (by repeat first | (with_reducible first | exact .nil _ | exact .here _ _) | exact .here _ _ | (with_reducible first | exact Take.self _ | apply Take.cons | apply Out.there | apply Take.skip | exact Take.pre _ _ | apply Out.app))⟩
      · try simp only [decide_eq_true_eq, decide_eq_false_iff_not, Bool.not_eq_true', Bool.not_eq_false', beq_iff_eq, bne_iff_ne, beq_eq_false_iff_ne, bne_eq_false_iff_eq, Int.not_lt, Int.not_le, gt_iff_lt, ge_iff_le, ne_eq] at h3
        refine X_skip ?_
        refine thenX_normal ?_
        refine X_seq ?_
        refine X_region ?_
        refine XL_det .no (D_ldso (vs := [.int .i64 x.res, .slice x.tasks.oad x.tasks.l.length x.tasks.c, .slice x.modes.oad x.modes.l.length x.modes.c, .slice x.edges.oad x.edges.l.length x.edges.c]) rfl (by with_reducible repeat first | exact .here _ _ | apply Out.there | apply Out.app) tk_26 rfl (by rfl)) rfl ?_
        refine XL_det .no (D_pure rfl) rfl ?_
        refine XL_callk .no en_29 rfl (lwithin x hx hn16 s) (by with_reducible repeat first | exact .nil _ | exact .here _ _ | exact Take.self _ | apply Take.cons | apply Out.there | apply Take.skip | exact Take.pre _ _ | apply Out.app) rfl ?_
        refine XL_det .no (D_pure rfl) rfl ?_
        refine XL_then ?_
        refine X_seq ?_
        refine X_region ?_
        refine XL_det .no (D_ldso (vs := [.int .i64 x.res, .slice x.tasks.oad x.tasks.l.length x.tasks.c, .slice x.modes.oad x.modes.l.length x.modes.c, .slice x.edges.oad x.edges.l.length x.edges.c]) rfl (by with_reducible repeat first | exact .here _ _ | apply Out.there | apply Out.app) tk_26 rfl (by rfl)) rfl ?_
        refine XL_det .no (D_pure rfl) rfl ?_
        refine XL_call .no en_39 rfl (rbeg45 x hx hn16 (wN s x.tasks.l.length)) (by with_reducible repeat first | exact .nil _ | exact .here _ _ | exact Take.self _ | apply Take.cons | apply Out.there | apply Take.skip | exact Take.pre _ _ | apply Out.app) rfl ?_
        rintro _ _ ⟨rfl, rfl⟩
        simp only [List.cons_append, List.nil_append]
        refine XL_alloc (cs := srC sr0) .no zero_69 rfl (fun b3 => ?_)
        refine XL_efd .no (F_stw rfl rfl rfl (by with_reducible repeat first | exact .here _ _ | apply Out.there | apply Out.app) tk_69 rfl rfl) ?_
        refine XL_then ?_
        refine X_seq ?_
        refine X_region ?_
        refine XL_det .no (D_ldso (vs := [.int .i64 x.res, .slice x.tasks.oad x.tasks.l.length x.tasks.c, .slice x.modes.oad x.modes.l.length x.modes.c, .slice x.edges.oad x.edges.l.length x.edges.c]) rfl (by with_reducible repeat first | exact .here _ _ | apply Out.there | apply Out.app) tk_26 rfl (by rfl)) rfl ?_
        refine XL_det .no (D_pure rfl) rfl ?_
        refine XL_det .no (D_fld rfl fld_83_0 (o' := 0) rfl) rfl ?_
        refine XL_det .no (D_ldso (vs := encWay w) rfl (by with_reducible repeat first | exact .here _ _ | apply Out.there | apply Out.app) tk_81 rfl (by rfl)) rfl ?_
        refine XL_det .no (D_fld rfl fld_83_1 (o' := 17) rfl) rfl ?_
        refine XL_det .no (D_ldo (v := .int .i64 mny) rfl (by with_reducible repeat first | exact .here _ _ | apply Out.there | apply Out.app) tk_3 (ask_m)) rfl ?_
        refine XL_call .no en_40 rfl (lticks x hx hT s w hw mny 500 (by omega) hK hd) (by with_reducible repeat first | exact .nil _ | exact .here _ _ | exact Take.self _ | apply Take.cons | apply Out.there | apply Take.skip | exact Take.pre _ _ | apply Out.app) rfl ?_
        rintro _ _ ⟨a, ⟨ha, hao⟩, rfl, rfl⟩
        simp only [List.cons_append, List.nil_append]
        rw [Nat.min_eq_left (show nT mny ≤ 500 by unfold nT; omega)] at ha
        have hal : a.l.length = nT mny := by rw [ha]; simp [ranL]
        refine XL_det .no (D_pure rfl) rfl ?_
        refine XL_then ?_
        refine X_seq ?_
        refine X_region ?_
        refine XL_det .no (D_zero (cs := encSeen (seeN x.tasks.l w s 0)) zero_86 zk_86) rfl ?_
        refine XL_alloc .no zero_86 rfl (fun b4 => ?_)
        refine XL_efd .no (F_stw rfl rfl rfl (by with_reducible repeat first | exact .here _ _ | apply Out.there | apply Out.app) tk_86 rfl rfl) ?_
        refine XL_then ?_
        refine X_seq ?_
        refine X_region ?_
        refine XL_det .no (D_pure rfl) rfl ?_
        refine XL_det .no (D_pure rfl) rfl ?_
        refine XL_then ?_
        refine X_seq ?_
        refine X_seq ?_
        refine X_region ?_
        refine XL_det .no (D_pure rfl) rfl ?_
        refine XL_then ?_
        refine X_block ?_
        refine X_loop (α := Nat × Sr) (fun ⟨i, q⟩ => i ≤ nT mny ∧ Like (simC x.tasks.l w s i) q ∧ q.now = (i : Int)) (fun ⟨i, q⟩ => [(13, .int .i64 (i : Int)), (11, .int .i64 (idleN x.tasks.l w s i).1), (12, .bool (idleN x.tasks.l w s i).2), (1, .int .u32 s.toNat), (3, .pointer (some ⟨b1, 0, none⟩)), (5, .pointer (some ⟨b2, 0, none⟩)), (7, .int .u32 (wN s x.tasks.l.length).toNat), (8, .pointer (some ⟨b3, 0, none⟩)), (9, .slice a.oad a.l.length a.c), (10, .pointer (some ⟨b4, 0, none⟩))]) (fun ⟨i, q⟩ => [blk b1 [.int .i64 x.res, .slice x.tasks.oad x.tasks.l.length x.tasks.c, .slice x.modes.oad x.modes.l.length x.modes.c, .slice x.edges.oad x.edges.l.length x.edges.c] 26, blk b2 (encAsk w mny) 83, blk b3 (srC q) 69, blk b4 (encSeen (seeN x.tasks.l w s i)) 86, many 16 (rowS q.jf), row (.slice a.oad a.l.length a.c) 53 6 a.l.length (a.l.flatMap encR), K, Ki]) (fun ⟨i, q⟩ => nT mny - i) (0, sB x.tasks.l (wN s x.tasks.l.length) 8) ?_ (by refine ⟨?_, ?_, ?_, ?_, ?_, ?_, ?_, ?_, ?_, ?_, trivial⟩ <;> rfl) (by repeat first | (with_reducible first | exact .nil _ | exact .here _ _) | exact .here _ _ | (with_reducible first | exact Take.self _ | apply Take.cons | apply Out.there | apply Take.skip | exact Take.pre _ _ | apply Out.app)) ?_
        · exact ⟨Nat.zero_le _, like_begin hn16 w s, rfl⟩
        · rintro ⟨i, q⟩ ⟨hi, hL, hqn⟩
          dsimp only
          have hn6 := nT_in mny
          have hnt : (nT mny : Int) = max mny 0 := by unfold nT; omega
          refine X_seq ?_
          refine X_seq ?_
          refine X_region ?_
          refine XL_det .no (D_pure rfl) rfl ?_
          refine XL_det .no (D_fld rfl fld_83_1 (o' := 17) rfl) rfl ?_
          refine XL_det .no (D_ldo (v := .int .i64 mny) rfl (by with_reducible repeat first | exact .here _ _ | apply Out.there | apply Out.app) tk_3 (ask_m)) rfl ?_
          refine XL_det .no (D_pure rfl) rfl ?_
          refine XL_then ?_
          refine X_cond rfl (fun h4 => ?_) (fun h4 => ?_)
          · try simp only [decide_eq_true_eq, decide_eq_false_iff_not, Bool.not_eq_true', Bool.not_eq_false', beq_iff_eq, bne_iff_ne, beq_eq_false_iff_ne, bne_eq_false_iff_eq, Int.not_lt, Int.not_le, gt_iff_lt, ge_iff_le, ne_eq] at h4
            have hil : i < nT mny := by omega
            have hg : a.l[i]? = some (ranC x.tasks.l w s i) := by rw [ha]; exact ranL_get hil
            have hsn := seeN_in x.tasks.l w s i
            refine X_skip ?_
            refine thenX_normal ?_
            refine X_seq ?_
            refine X_block ?_
            refine X_seqj (α := Nat × Nat × Sr) (fun ⟨c4, c5, q3⟩ => Like (simC x.tasks.l w s (i + 1)) q3 ∧ q3.now = ((i + 1 : Nat) : Int)) (fun ⟨c4, c5, q3⟩ => [(14, .pointer (some ⟨c4, 0, none⟩)), (15, .pointer (some ⟨c5, 0, none⟩)), (1, .int .u32 s.toNat), (3, .pointer (some ⟨b1, 0, none⟩)), (5, .pointer (some ⟨b2, 0, none⟩)), (7, .int .u32 (wN s x.tasks.l.length).toNat), (8, .pointer (some ⟨b3, 0, none⟩)), (9, .slice a.oad a.l.length a.c), (10, .pointer (some ⟨b4, 0, none⟩)), (11, .int .i64 (idleN x.tasks.l w s i).1), (12, .bool (idleN x.tasks.l w s i).2), (13, .int .i64 (i : Int))]) (fun ⟨c4, c5, q3⟩ => [blk b1 [.int .i64 x.res, .slice x.tasks.oad x.tasks.l.length x.tasks.c, .slice x.modes.oad x.modes.l.length x.modes.c, .slice x.edges.oad x.edges.l.length x.edges.c] 26, blk b2 (encAsk w mny) 83, blk b3 (srC q) 69, blk b4 (encSeen (seeN x.tasks.l w s i)) 86, many 16 (rowS q3.jf), blk c4 (srC q3) 69, blk c5 (encRr (ranC x.tasks.l w s i)) 76, row (.slice a.oad a.l.length a.c) 53 6 a.l.length (a.l.flatMap encR), K, Ki]) ?_ ?_
            · skip
              refine X_draw [blk b1 [.int .i64 x.res, .slice x.tasks.oad x.tasks.l.length x.tasks.c, .slice x.modes.oad x.modes.l.length x.modes.c, .slice x.edges.oad x.edges.l.length x.edges.c] 26, blk b2 (encAsk w mny) 83, blk b3 (srC q) 69, Ki] mixed (by with_reducible repeat first | exact .nil _ | exact .here _ _ | exact Take.self _ | apply Take.cons | apply Out.there | apply Take.skip | exact Take.pre _ _ | apply Out.app) ?_
              refine XA_det 0 rfl (by kernel_rfl) (by kernel_rfl) (by kernel_rfl) (by kernel_rfl) (fun _ _ _ _ h => h) .no (D_ldso (vs := [.int .i64 x.res, .slice x.tasks.oad x.tasks.l.length x.tasks.c, .slice x.modes.oad x.modes.l.length x.modes.c, .slice x.edges.oad x.edges.l.length x.edges.c]) rfl (by with_reducible repeat first | exact .here _ _ | apply Out.there | apply Out.app) tk_26 rfl (by rfl)) rfl ?_
              refine XA_detp 1 rfl (by kernel_rfl) (by kernel_rfl) (by kernel_rfl) (fun _ _ _ _ h => h) .no (D_pureP rfl) rfl ?_
              refine XA_detp 2 rfl (by kernel_rfl) (by kernel_rfl) (by kernel_rfl) (fun _ _ _ _ h => h) .no (D_fldP rfl fld_83_0 (o' := 0) rfl) rfl ?_
              refine XA_detp 3 rfl (by kernel_rfl) (by kernel_rfl) (by kernel_rfl) (fun _ _ _ _ h => h) .no (D_fldP rfl fld_81_0 (o' := 0) rfl) rfl ?_
              refine XA_det 4 rfl (by kernel_rfl) (by kernel_rfl) (by kernel_rfl) (by kernel_rfl) (fun _ _ _ _ h => h) .no (D_ldso (vs := rowI 16 w.ph) rfl (by with_reducible repeat first | exact .here _ _ | apply Out.there | apply Out.app) tk_38 rfl (by rfl)) rfl ?_
              refine XA_detp 5 rfl (by kernel_rfl) (by kernel_rfl) (by kernel_rfl) (fun _ _ _ _ h => h) .no (D_fldP rfl fld_83_0 (o' := 0) rfl) rfl ?_
              refine XA_detp 6 rfl (by kernel_rfl) (by kernel_rfl) (by kernel_rfl) (fun _ _ _ _ h => h) .no (D_fldP rfl fld_81_1 (o' := 16) rfl) rfl ?_
              refine XA_det 7 rfl (by kernel_rfl) (by kernel_rfl) (by kernel_rfl) (by kernel_rfl) (fun _ _ _ _ h => h) .no (D_ldo (v := .int .i64 w.part) rfl (by with_reducible repeat first | exact .here _ _ | apply Out.there | apply Out.app) tk_3 (ask_part)) rfl ?_
              refine XA_det 9 rfl (by kernel_rfl) (by kernel_rfl) (by kernel_rfl) (by kernel_rfl) (fun _ _ _ _ h => h) .no (D_ldso (vs := srC q) rfl (by with_reducible repeat first | exact .here _ _ | apply Out.there | apply Out.app) tk_69 rfl (by rw [List.drop_zero, List.take_of_length_le (by rw [sr_len]; exact Nat.le_refl _)])) rfl ?_
              refine XA_three 8 14 15 (by kernel_rfl) ?_ ?_ ?_
              · skip
                refine XO_callv rfl .no en_42 rfl (lpart w.part) rfl ?_
                refine XA_three 10 14 15 (by kernel_rfl) ?_ ?_ ?_
                · skip
                  refine XO_callc rfl .no en_41 rfl (by with_reducible repeat first | exact .nil _ | apply App.cons) (rstep45 x hx hT (wN s x.tasks.l.length) w hw (simC x.tasks.l w s i) q hL (by omega)) (by with_reducible repeat first | exact .nil _ | exact .here _ _ | exact Take.self _ | apply Take.cons | apply Out.there | apply Take.skip | exact Take.pre _ _ | apply Out.app) rfl ?_
                  rintro _ _ ⟨q2, hL2, rfl, rfl⟩
                  simp only [List.cons_append, List.nil_append]
                  refine ⟨[many 16 (rowS (tickR q2).1.jf), blk b4 (encSeen (seeN x.tasks.l w s i)) 86, row (.slice a.oad a.l.length a.c) 53 6 a.l.length (a.l.flatMap encR), K], _, _, (by with_reducible repeat first | exact .nil _ | apply App.cons), (by with_reducible repeat first | exact .nil _ | exact .here _ _ | exact Take.self _ | apply Take.cons | apply Out.there | apply Take.skip | exact Take.pre _ _ | apply Out.app), ?_⟩
                  have hL4 : Like (relA x.tasks.l w s (simC x.tasks.l w s i)) q2 := by rw [relA_N hn16, ← relN_same (wN_eq x.tasks.l hn16 s) _ (Nat.le_refl _)]; exact hL2
                  obtain ⟨hL3, hrn⟩ := hL4.tick (by have := hL4.now; have := hL.now; have := (relA_sys (w := w) hT (sim_sys (w := w) (s := s) hT i (by omega)).1).2.now; omega)
                  have hrn : (tickR q2).2 = (ranC x.tasks.l w s i) := hrn
                  refine XA_detp 11 rfl (by kernel_rfl) (by kernel_rfl) (by kernel_rfl) (fun _ _ _ _ h => h) .no (D_pureP rfl) rfl ?_
                  refine XA_detp 12 rfl (by kernel_rfl) (by kernel_rfl) (by kernel_rfl) (fun _ _ _ _ h => h) .no (D_pureP (v := .agg (srC ((tickR q2).1)).toArray) rfl) rfl ?_
                  refine XA_detp 13 rfl (by kernel_rfl) (by kernel_rfl) (by kernel_rfl) (fun _ _ _ _ h => h) .no (D_pureP (v := .agg (encRr (tickR q2).2).toArray) rfl) rfl ?_
                  refine XA_two 14 15 (by kernel_rfl) ?_ ?_
                  · skip
                    refine XO_alloc (cs := srC sr0) rfl .no zero_69 rfl (fun bd14 => ?_)
                    refine XA_one 15 (by kernel_rfl) ?_
                    refine XO_alloc rfl .no zero_76 rfl (fun bd15 => ?_)
                    refine XA_one 16 (by kernel_rfl) ?_
                    refine XO_efd rfl .no (by with_reducible repeat first | exact .nil _ | apply App.cons) (F_stw rfl rfl rfl (by with_reducible repeat first | exact .here _ _ | apply Out.there | apply Out.app) tk_69 rfl rfl) (by kernel_rfl) ?_
                    refine XA_one 17 (by kernel_rfl) ?_
                    refine XO_efd rfl .no (by with_reducible repeat first | exact .nil _ | apply App.cons) (F_stw rfl rfl rfl (by with_reducible repeat first | exact .here _ _ | apply Out.there | apply Out.app) tk_76 rfl rfl) (by kernel_rfl) ?_
                    refine XA_done (by kernel_rfl) ?_
                    try simp only [List.cons_append, List.nil_append, List.append_nil]
                    rw [hrn]
                    refine joinQ_normal (bd14, bd15, (tickR q2).1) ?_ ?_ ?_
                    · exact ⟨hL3, by rw [hL3.now]; exact (sim_sys (w := w) (s := s) hT (i + 1) (by omega)).2.2⟩
                    · refine ⟨?_, ?_, ?_, ?_, ?_, ?_, ?_, ?_, ?_, ?_, ?_, ?_, trivial⟩ <;> rfl
                    · exact ⟨_, (by repeat first | (with_reducible first | exact .nil _ | exact .here _ _) | exact .here _ _ | (with_reducible first | exact Take.self _ | apply Take.cons | apply Out.there | apply Take.skip | exact Take.pre _ _ | apply Out.app))⟩
                  · skip
                    refine XO_alloc rfl .no zero_76 rfl (fun bd15 => ?_)
                    refine XA_one 14 (by kernel_rfl) ?_
                    refine XO_alloc (cs := srC sr0) rfl .no zero_69 rfl (fun bd14 => ?_)
                    refine XA_one 16 (by kernel_rfl) ?_
                    refine XO_efd rfl .no (by with_reducible repeat first | exact .nil _ | apply App.cons) (F_stw rfl rfl rfl (by with_reducible repeat first | exact .here _ _ | apply Out.there | apply Out.app) tk_69 rfl rfl) (by kernel_rfl) ?_
                    refine XA_one 17 (by kernel_rfl) ?_
                    refine XO_efd rfl .no (by with_reducible repeat first | exact .nil _ | apply App.cons) (F_stw rfl rfl rfl (by with_reducible repeat first | exact .here _ _ | apply Out.there | apply Out.app) tk_76 rfl rfl) (by kernel_rfl) ?_
                    refine XA_done (by kernel_rfl) ?_
                    try simp only [List.cons_append, List.nil_append, List.append_nil]
                    rw [hrn]
                    refine joinQ_normal (bd14, bd15, (tickR q2).1) ?_ ?_ ?_
                    · exact ⟨hL3, by rw [hL3.now]; exact (sim_sys (w := w) (s := s) hT (i + 1) (by omega)).2.2⟩
                    · refine ⟨?_, ?_, ?_, ?_, ?_, ?_, ?_, ?_, ?_, ?_, ?_, ?_, trivial⟩ <;> rfl
                    · exact ⟨_, (by repeat first | (with_reducible first | exact .nil _ | exact .here _ _) | exact .here _ _ | (with_reducible first | exact Take.self _ | apply Take.cons | apply Out.there | apply Take.skip | exact Take.pre _ _ | apply Out.app))⟩
                · skip
                  refine XO_alloc (cs := srC sr0) rfl .no zero_69 rfl (fun bd14 => ?_)
                  refine XA_two 10 15 (by kernel_rfl) ?_ ?_
                  · skip
                    refine XO_callc rfl .no en_41 rfl (by with_reducible repeat first | exact .nil _ | apply App.cons) (rstep45 x hx hT (wN s x.tasks.l.length) w hw (simC x.tasks.l w s i) q hL (by omega)) (by with_reducible repeat first | exact .nil _ | exact .here _ _ | exact Take.self _ | apply Take.cons | apply Out.there | apply Take.skip | exact Take.pre _ _ | apply Out.app) rfl ?_
                    rintro _ _ ⟨q2, hL2, rfl, rfl⟩
                    simp only [List.cons_append, List.nil_append]
                    refine ⟨[many 16 (rowS (tickR q2).1.jf), blk b4 (encSeen (seeN x.tasks.l w s i)) 86, row (.slice a.oad a.l.length a.c) 53 6 a.l.length (a.l.flatMap encR), K, blk bd14 (srC sr0) 69], _, _, (by with_reducible repeat first | exact .nil _ | apply App.cons), (by with_reducible repeat first | exact .nil _ | exact .here _ _ | exact Take.self _ | apply Take.cons | apply Out.there | apply Take.skip | exact Take.pre _ _ | apply Out.app), ?_⟩
                    have hL4 : Like (relA x.tasks.l w s (simC x.tasks.l w s i)) q2 := by rw [relA_N hn16, ← relN_same (wN_eq x.tasks.l hn16 s) _ (Nat.le_refl _)]; exact hL2
                    obtain ⟨hL3, hrn⟩ := hL4.tick (by have := hL4.now; have := hL.now; have := (relA_sys (w := w) hT (sim_sys (w := w) (s := s) hT i (by omega)).1).2.now; omega)
                    have hrn : (tickR q2).2 = (ranC x.tasks.l w s i) := hrn
                    refine XA_detp 11 rfl (by kernel_rfl) (by kernel_rfl) (by kernel_rfl) (fun _ _ _ _ h => h) .no (D_pureP rfl) rfl ?_
                    refine XA_detp 12 rfl (by kernel_rfl) (by kernel_rfl) (by kernel_rfl) (fun _ _ _ _ h => h) .no (D_pureP (v := .agg (srC ((tickR q2).1)).toArray) rfl) rfl ?_
                    refine XA_detp 13 rfl (by kernel_rfl) (by kernel_rfl) (by kernel_rfl) (fun _ _ _ _ h => h) .no (D_pureP (v := .agg (encRr (tickR q2).2).toArray) rfl) rfl ?_
                    refine XA_one 15 (by kernel_rfl) ?_
                    refine XO_alloc rfl .no zero_76 rfl (fun bd15 => ?_)
                    refine XA_one 16 (by kernel_rfl) ?_
                    refine XO_efd rfl .no (by with_reducible repeat first | exact .nil _ | apply App.cons) (F_stw rfl rfl rfl (by with_reducible repeat first | exact .here _ _ | apply Out.there | apply Out.app) tk_69 rfl rfl) (by kernel_rfl) ?_
                    refine XA_one 17 (by kernel_rfl) ?_
                    refine XO_efd rfl .no (by with_reducible repeat first | exact .nil _ | apply App.cons) (F_stw rfl rfl rfl (by with_reducible repeat first | exact .here _ _ | apply Out.there | apply Out.app) tk_76 rfl rfl) (by kernel_rfl) ?_
                    refine XA_done (by kernel_rfl) ?_
                    try simp only [List.cons_append, List.nil_append, List.append_nil]
                    rw [hrn]
                    refine joinQ_normal (bd14, bd15, (tickR q2).1) ?_ ?_ ?_
                    · exact ⟨hL3, by rw [hL3.now]; exact (sim_sys (w := w) (s := s) hT (i + 1) (by omega)).2.2⟩
                    · refine ⟨?_, ?_, ?_, ?_, ?_, ?_, ?_, ?_, ?_, ?_, ?_, ?_, trivial⟩ <;> rfl
                    · exact ⟨_, (by repeat first | (with_reducible first | exact .nil _ | exact .here _ _) | exact .here _ _ | (with_reducible first | exact Take.self _ | apply Take.cons | apply Out.there | apply Take.skip | exact Take.pre _ _ | apply Out.app))⟩
                  · skip
                    refine XO_alloc rfl .no zero_76 rfl (fun bd15 => ?_)
                    refine XA_one 10 (by kernel_rfl) ?_
                    refine XO_callc rfl .no en_41 rfl (by with_reducible repeat first | exact .nil _ | apply App.cons) (rstep45 x hx hT (wN s x.tasks.l.length) w hw (simC x.tasks.l w s i) q hL (by omega)) (by with_reducible repeat first | exact .nil _ | exact .here _ _ | exact Take.self _ | apply Take.cons | apply Out.there | apply Take.skip | exact Take.pre _ _ | apply Out.app) rfl ?_
                    rintro _ _ ⟨q2, hL2, rfl, rfl⟩
                    simp only [List.cons_append, List.nil_append]
                    refine ⟨[many 16 (rowS (tickR q2).1.jf), blk b4 (encSeen (seeN x.tasks.l w s i)) 86, row (.slice a.oad a.l.length a.c) 53 6 a.l.length (a.l.flatMap encR), K, blk bd14 (srC sr0) 69, blk bd15 [.int .i64 0, .int .i64 0, .int .i64 0, .int .i64 0, .bool false, .bool false] 76], _, _, (by with_reducible repeat first | exact .nil _ | apply App.cons), (by with_reducible repeat first | exact .nil _ | exact .here _ _ | exact Take.self _ | apply Take.cons | apply Out.there | apply Take.skip | exact Take.pre _ _ | apply Out.app), ?_⟩
                    have hL4 : Like (relA x.tasks.l w s (simC x.tasks.l w s i)) q2 := by rw [relA_N hn16, ← relN_same (wN_eq x.tasks.l hn16 s) _ (Nat.le_refl _)]; exact hL2
                    obtain ⟨hL3, hrn⟩ := hL4.tick (by have := hL4.now; have := hL.now; have := (relA_sys (w := w) hT (sim_sys (w := w) (s := s) hT i (by omega)).1).2.now; omega)
                    have hrn : (tickR q2).2 = (ranC x.tasks.l w s i) := hrn
                    refine XA_detp 11 rfl (by kernel_rfl) (by kernel_rfl) (by kernel_rfl) (fun _ _ _ _ h => h) .no (D_pureP rfl) rfl ?_
                    refine XA_detp 12 rfl (by kernel_rfl) (by kernel_rfl) (by kernel_rfl) (fun _ _ _ _ h => h) .no (D_pureP (v := .agg (srC ((tickR q2).1)).toArray) rfl) rfl ?_
                    refine XA_detp 13 rfl (by kernel_rfl) (by kernel_rfl) (by kernel_rfl) (fun _ _ _ _ h => h) .no (D_pureP (v := .agg (encRr (tickR q2).2).toArray) rfl) rfl ?_
                    refine XA_one 16 (by kernel_rfl) ?_
                    refine XO_efd rfl .no (by with_reducible repeat first | exact .nil _ | apply App.cons) (F_stw rfl rfl rfl (by with_reducible repeat first | exact .here _ _ | apply Out.there | apply Out.app) tk_69 rfl rfl) (by kernel_rfl) ?_
                    refine XA_one 17 (by kernel_rfl) ?_
                    refine XO_efd rfl .no (by with_reducible repeat first | exact .nil _ | apply App.cons) (F_stw rfl rfl rfl (by with_reducible repeat first | exact .here _ _ | apply Out.there | apply Out.app) tk_76 rfl rfl) (by kernel_rfl) ?_
                    refine XA_done (by kernel_rfl) ?_
                    try simp only [List.cons_append, List.nil_append, List.append_nil]
                    rw [hrn]
                    refine joinQ_normal (bd14, bd15, (tickR q2).1) ?_ ?_ ?_
                    · exact ⟨hL3, by rw [hL3.now]; exact (sim_sys (w := w) (s := s) hT (i + 1) (by omega)).2.2⟩
                    · refine ⟨?_, ?_, ?_, ?_, ?_, ?_, ?_, ?_, ?_, ?_, ?_, ?_, trivial⟩ <;> rfl
                    · exact ⟨_, (by repeat first | (with_reducible first | exact .nil _ | exact .here _ _) | exact .here _ _ | (with_reducible first | exact Take.self _ | apply Take.cons | apply Out.there | apply Take.skip | exact Take.pre _ _ | apply Out.app))⟩
                · skip
                  refine XO_alloc rfl .no zero_76 rfl (fun bd15 => ?_)
                  refine XA_two 10 14 (by kernel_rfl) ?_ ?_
                  · skip
                    refine XO_callc rfl .no en_41 rfl (by with_reducible repeat first | exact .nil _ | apply App.cons) (rstep45 x hx hT (wN s x.tasks.l.length) w hw (simC x.tasks.l w s i) q hL (by omega)) (by with_reducible repeat first | exact .nil _ | exact .here _ _ | exact Take.self _ | apply Take.cons | apply Out.there | apply Take.skip | exact Take.pre _ _ | apply Out.app) rfl ?_
                    rintro _ _ ⟨q2, hL2, rfl, rfl⟩
                    simp only [List.cons_append, List.nil_append]
                    refine ⟨[many 16 (rowS (tickR q2).1.jf), blk b4 (encSeen (seeN x.tasks.l w s i)) 86, row (.slice a.oad a.l.length a.c) 53 6 a.l.length (a.l.flatMap encR), K, blk bd15 [.int .i64 0, .int .i64 0, .int .i64 0, .int .i64 0, .bool false, .bool false] 76], _, _, (by with_reducible repeat first | exact .nil _ | apply App.cons), (by with_reducible repeat first | exact .nil _ | exact .here _ _ | exact Take.self _ | apply Take.cons | apply Out.there | apply Take.skip | exact Take.pre _ _ | apply Out.app), ?_⟩
                    have hL4 : Like (relA x.tasks.l w s (simC x.tasks.l w s i)) q2 := by rw [relA_N hn16, ← relN_same (wN_eq x.tasks.l hn16 s) _ (Nat.le_refl _)]; exact hL2
                    obtain ⟨hL3, hrn⟩ := hL4.tick (by have := hL4.now; have := hL.now; have := (relA_sys (w := w) hT (sim_sys (w := w) (s := s) hT i (by omega)).1).2.now; omega)
                    have hrn : (tickR q2).2 = (ranC x.tasks.l w s i) := hrn
                    refine XA_detp 11 rfl (by kernel_rfl) (by kernel_rfl) (by kernel_rfl) (fun _ _ _ _ h => h) .no (D_pureP rfl) rfl ?_
                    refine XA_detp 12 rfl (by kernel_rfl) (by kernel_rfl) (by kernel_rfl) (fun _ _ _ _ h => h) .no (D_pureP (v := .agg (srC ((tickR q2).1)).toArray) rfl) rfl ?_
                    refine XA_detp 13 rfl (by kernel_rfl) (by kernel_rfl) (by kernel_rfl) (fun _ _ _ _ h => h) .no (D_pureP (v := .agg (encRr (tickR q2).2).toArray) rfl) rfl ?_
                    refine XA_one 14 (by kernel_rfl) ?_
                    refine XO_alloc (cs := srC sr0) rfl .no zero_69 rfl (fun bd14 => ?_)
                    refine XA_one 16 (by kernel_rfl) ?_
                    refine XO_efd rfl .no (by with_reducible repeat first | exact .nil _ | apply App.cons) (F_stw rfl rfl rfl (by with_reducible repeat first | exact .here _ _ | apply Out.there | apply Out.app) tk_69 rfl rfl) (by kernel_rfl) ?_
                    refine XA_one 17 (by kernel_rfl) ?_
                    refine XO_efd rfl .no (by with_reducible repeat first | exact .nil _ | apply App.cons) (F_stw rfl rfl rfl (by with_reducible repeat first | exact .here _ _ | apply Out.there | apply Out.app) tk_76 rfl rfl) (by kernel_rfl) ?_
                    refine XA_done (by kernel_rfl) ?_
                    try simp only [List.cons_append, List.nil_append, List.append_nil]
                    rw [hrn]
                    refine joinQ_normal (bd14, bd15, (tickR q2).1) ?_ ?_ ?_
                    · exact ⟨hL3, by rw [hL3.now]; exact (sim_sys (w := w) (s := s) hT (i + 1) (by omega)).2.2⟩
                    · refine ⟨?_, ?_, ?_, ?_, ?_, ?_, ?_, ?_, ?_, ?_, ?_, ?_, trivial⟩ <;> rfl
                    · exact ⟨_, (by repeat first | (with_reducible first | exact .nil _ | exact .here _ _) | exact .here _ _ | (with_reducible first | exact Take.self _ | apply Take.cons | apply Out.there | apply Take.skip | exact Take.pre _ _ | apply Out.app))⟩
                  · skip
                    refine XO_alloc (cs := srC sr0) rfl .no zero_69 rfl (fun bd14 => ?_)
                    refine XA_one 10 (by kernel_rfl) ?_
                    refine XO_callc rfl .no en_41 rfl (by with_reducible repeat first | exact .nil _ | apply App.cons) (rstep45 x hx hT (wN s x.tasks.l.length) w hw (simC x.tasks.l w s i) q hL (by omega)) (by with_reducible repeat first | exact .nil _ | exact .here _ _ | exact Take.self _ | apply Take.cons | apply Out.there | apply Take.skip | exact Take.pre _ _ | apply Out.app) rfl ?_
                    rintro _ _ ⟨q2, hL2, rfl, rfl⟩
                    simp only [List.cons_append, List.nil_append]
                    refine ⟨[many 16 (rowS (tickR q2).1.jf), blk b4 (encSeen (seeN x.tasks.l w s i)) 86, row (.slice a.oad a.l.length a.c) 53 6 a.l.length (a.l.flatMap encR), K, blk bd14 (srC sr0) 69, blk bd15 [.int .i64 0, .int .i64 0, .int .i64 0, .int .i64 0, .bool false, .bool false] 76], _, _, (by with_reducible repeat first | exact .nil _ | apply App.cons), (by with_reducible repeat first | exact .nil _ | exact .here _ _ | exact Take.self _ | apply Take.cons | apply Out.there | apply Take.skip | exact Take.pre _ _ | apply Out.app), ?_⟩
                    have hL4 : Like (relA x.tasks.l w s (simC x.tasks.l w s i)) q2 := by rw [relA_N hn16, ← relN_same (wN_eq x.tasks.l hn16 s) _ (Nat.le_refl _)]; exact hL2
                    obtain ⟨hL3, hrn⟩ := hL4.tick (by have := hL4.now; have := hL.now; have := (relA_sys (w := w) hT (sim_sys (w := w) (s := s) hT i (by omega)).1).2.now; omega)
                    have hrn : (tickR q2).2 = (ranC x.tasks.l w s i) := hrn
                    refine XA_detp 11 rfl (by kernel_rfl) (by kernel_rfl) (by kernel_rfl) (fun _ _ _ _ h => h) .no (D_pureP rfl) rfl ?_
                    refine XA_detp 12 rfl (by kernel_rfl) (by kernel_rfl) (by kernel_rfl) (fun _ _ _ _ h => h) .no (D_pureP (v := .agg (srC ((tickR q2).1)).toArray) rfl) rfl ?_
                    refine XA_detp 13 rfl (by kernel_rfl) (by kernel_rfl) (by kernel_rfl) (fun _ _ _ _ h => h) .no (D_pureP (v := .agg (encRr (tickR q2).2).toArray) rfl) rfl ?_
                    refine XA_one 16 (by kernel_rfl) ?_
                    refine XO_efd rfl .no (by with_reducible repeat first | exact .nil _ | apply App.cons) (F_stw rfl rfl rfl (by with_reducible repeat first | exact .here _ _ | apply Out.there | apply Out.app) tk_69 rfl rfl) (by kernel_rfl) ?_
                    refine XA_one 17 (by kernel_rfl) ?_
                    refine XO_efd rfl .no (by with_reducible repeat first | exact .nil _ | apply App.cons) (F_stw rfl rfl rfl (by with_reducible repeat first | exact .here _ _ | apply Out.there | apply Out.app) tk_76 rfl rfl) (by kernel_rfl) ?_
                    refine XA_done (by kernel_rfl) ?_
                    try simp only [List.cons_append, List.nil_append, List.append_nil]
                    rw [hrn]
                    refine joinQ_normal (bd14, bd15, (tickR q2).1) ?_ ?_ ?_
                    · exact ⟨hL3, by rw [hL3.now]; exact (sim_sys (w := w) (s := s) hT (i + 1) (by omega)).2.2⟩
                    · refine ⟨?_, ?_, ?_, ?_, ?_, ?_, ?_, ?_, ?_, ?_, ?_, ?_, trivial⟩ <;> rfl
                    · exact ⟨_, (by repeat first | (with_reducible first | exact .nil _ | exact .here _ _) | exact .here _ _ | (with_reducible first | exact Take.self _ | apply Take.cons | apply Out.there | apply Take.skip | exact Take.pre _ _ | apply Out.app))⟩
              · skip
                refine XO_alloc (cs := srC sr0) rfl .no zero_69 rfl (fun bd14 => ?_)
                refine XA_two 8 15 (by kernel_rfl) ?_ ?_
                · skip
                  refine XO_callv rfl .no en_42 rfl (lpart w.part) rfl ?_
                  refine XA_two 10 15 (by kernel_rfl) ?_ ?_
                  · skip
                    refine XO_callc rfl .no en_41 rfl (by with_reducible repeat first | exact .nil _ | apply App.cons) (rstep45 x hx hT (wN s x.tasks.l.length) w hw (simC x.tasks.l w s i) q hL (by omega)) (by with_reducible repeat first | exact .nil _ | exact .here _ _ | exact Take.self _ | apply Take.cons | apply Out.there | apply Take.skip | exact Take.pre _ _ | apply Out.app) rfl ?_
                    rintro _ _ ⟨q2, hL2, rfl, rfl⟩
                    simp only [List.cons_append, List.nil_append]
                    refine ⟨[many 16 (rowS (tickR q2).1.jf), blk b4 (encSeen (seeN x.tasks.l w s i)) 86, row (.slice a.oad a.l.length a.c) 53 6 a.l.length (a.l.flatMap encR), K, blk bd14 (srC sr0) 69], _, _, (by with_reducible repeat first | exact .nil _ | apply App.cons), (by with_reducible repeat first | exact .nil _ | exact .here _ _ | exact Take.self _ | apply Take.cons | apply Out.there | apply Take.skip | exact Take.pre _ _ | apply Out.app), ?_⟩
                    have hL4 : Like (relA x.tasks.l w s (simC x.tasks.l w s i)) q2 := by rw [relA_N hn16, ← relN_same (wN_eq x.tasks.l hn16 s) _ (Nat.le_refl _)]; exact hL2
                    obtain ⟨hL3, hrn⟩ := hL4.tick (by have := hL4.now; have := hL.now; have := (relA_sys (w := w) hT (sim_sys (w := w) (s := s) hT i (by omega)).1).2.now; omega)
                    have hrn : (tickR q2).2 = (ranC x.tasks.l w s i) := hrn
                    refine XA_detp 11 rfl (by kernel_rfl) (by kernel_rfl) (by kernel_rfl) (fun _ _ _ _ h => h) .no (D_pureP rfl) rfl ?_
                    refine XA_detp 12 rfl (by kernel_rfl) (by kernel_rfl) (by kernel_rfl) (fun _ _ _ _ h => h) .no (D_pureP (v := .agg (srC ((tickR q2).1)).toArray) rfl) rfl ?_
                    refine XA_detp 13 rfl (by kernel_rfl) (by kernel_rfl) (by kernel_rfl) (fun _ _ _ _ h => h) .no (D_pureP (v := .agg (encRr (tickR q2).2).toArray) rfl) rfl ?_
                    refine XA_one 15 (by kernel_rfl) ?_
                    refine XO_alloc rfl .no zero_76 rfl (fun bd15 => ?_)
                    refine XA_one 16 (by kernel_rfl) ?_
                    refine XO_efd rfl .no (by with_reducible repeat first | exact .nil _ | apply App.cons) (F_stw rfl rfl rfl (by with_reducible repeat first | exact .here _ _ | apply Out.there | apply Out.app) tk_69 rfl rfl) (by kernel_rfl) ?_
                    refine XA_one 17 (by kernel_rfl) ?_
                    refine XO_efd rfl .no (by with_reducible repeat first | exact .nil _ | apply App.cons) (F_stw rfl rfl rfl (by with_reducible repeat first | exact .here _ _ | apply Out.there | apply Out.app) tk_76 rfl rfl) (by kernel_rfl) ?_
                    refine XA_done (by kernel_rfl) ?_
                    try simp only [List.cons_append, List.nil_append, List.append_nil]
                    rw [hrn]
                    refine joinQ_normal (bd14, bd15, (tickR q2).1) ?_ ?_ ?_
                    · exact ⟨hL3, by rw [hL3.now]; exact (sim_sys (w := w) (s := s) hT (i + 1) (by omega)).2.2⟩
                    · refine ⟨?_, ?_, ?_, ?_, ?_, ?_, ?_, ?_, ?_, ?_, ?_, ?_, trivial⟩ <;> rfl
                    · exact ⟨_, (by repeat first | (with_reducible first | exact .nil _ | exact .here _ _) | exact .here _ _ | (with_reducible first | exact Take.self _ | apply Take.cons | apply Out.there | apply Take.skip | exact Take.pre _ _ | apply Out.app))⟩
                  · skip
                    refine XO_alloc rfl .no zero_76 rfl (fun bd15 => ?_)
                    refine XA_one 10 (by kernel_rfl) ?_
                    refine XO_callc rfl .no en_41 rfl (by with_reducible repeat first | exact .nil _ | apply App.cons) (rstep45 x hx hT (wN s x.tasks.l.length) w hw (simC x.tasks.l w s i) q hL (by omega)) (by with_reducible repeat first | exact .nil _ | exact .here _ _ | exact Take.self _ | apply Take.cons | apply Out.there | apply Take.skip | exact Take.pre _ _ | apply Out.app) rfl ?_
                    rintro _ _ ⟨q2, hL2, rfl, rfl⟩
                    simp only [List.cons_append, List.nil_append]
                    refine ⟨[many 16 (rowS (tickR q2).1.jf), blk b4 (encSeen (seeN x.tasks.l w s i)) 86, row (.slice a.oad a.l.length a.c) 53 6 a.l.length (a.l.flatMap encR), K, blk bd14 (srC sr0) 69, blk bd15 [.int .i64 0, .int .i64 0, .int .i64 0, .int .i64 0, .bool false, .bool false] 76], _, _, (by with_reducible repeat first | exact .nil _ | apply App.cons), (by with_reducible repeat first | exact .nil _ | exact .here _ _ | exact Take.self _ | apply Take.cons | apply Out.there | apply Take.skip | exact Take.pre _ _ | apply Out.app), ?_⟩
                    have hL4 : Like (relA x.tasks.l w s (simC x.tasks.l w s i)) q2 := by rw [relA_N hn16, ← relN_same (wN_eq x.tasks.l hn16 s) _ (Nat.le_refl _)]; exact hL2
                    obtain ⟨hL3, hrn⟩ := hL4.tick (by have := hL4.now; have := hL.now; have := (relA_sys (w := w) hT (sim_sys (w := w) (s := s) hT i (by omega)).1).2.now; omega)
                    have hrn : (tickR q2).2 = (ranC x.tasks.l w s i) := hrn
                    refine XA_detp 11 rfl (by kernel_rfl) (by kernel_rfl) (by kernel_rfl) (fun _ _ _ _ h => h) .no (D_pureP rfl) rfl ?_
                    refine XA_detp 12 rfl (by kernel_rfl) (by kernel_rfl) (by kernel_rfl) (fun _ _ _ _ h => h) .no (D_pureP (v := .agg (srC ((tickR q2).1)).toArray) rfl) rfl ?_
                    refine XA_detp 13 rfl (by kernel_rfl) (by kernel_rfl) (by kernel_rfl) (fun _ _ _ _ h => h) .no (D_pureP (v := .agg (encRr (tickR q2).2).toArray) rfl) rfl ?_
                    refine XA_one 16 (by kernel_rfl) ?_
                    refine XO_efd rfl .no (by with_reducible repeat first | exact .nil _ | apply App.cons) (F_stw rfl rfl rfl (by with_reducible repeat first | exact .here _ _ | apply Out.there | apply Out.app) tk_69 rfl rfl) (by kernel_rfl) ?_
                    refine XA_one 17 (by kernel_rfl) ?_
                    refine XO_efd rfl .no (by with_reducible repeat first | exact .nil _ | apply App.cons) (F_stw rfl rfl rfl (by with_reducible repeat first | exact .here _ _ | apply Out.there | apply Out.app) tk_76 rfl rfl) (by kernel_rfl) ?_
                    refine XA_done (by kernel_rfl) ?_
                    try simp only [List.cons_append, List.nil_append, List.append_nil]
                    rw [hrn]
                    refine joinQ_normal (bd14, bd15, (tickR q2).1) ?_ ?_ ?_
                    · exact ⟨hL3, by rw [hL3.now]; exact (sim_sys (w := w) (s := s) hT (i + 1) (by omega)).2.2⟩
                    · refine ⟨?_, ?_, ?_, ?_, ?_, ?_, ?_, ?_, ?_, ?_, ?_, ?_, trivial⟩ <;> rfl
                    · exact ⟨_, (by repeat first | (with_reducible first | exact .nil _ | exact .here _ _) | exact .here _ _ | (with_reducible first | exact Take.self _ | apply Take.cons | apply Out.there | apply Take.skip | exact Take.pre _ _ | apply Out.app))⟩
                · skip
                  refine XO_alloc rfl .no zero_76 rfl (fun bd15 => ?_)
                  refine XA_one 8 (by kernel_rfl) ?_
                  refine XO_callv rfl .no en_42 rfl (lpart w.part) rfl ?_
                  refine XA_one 10 (by kernel_rfl) ?_
                  refine XO_callc rfl .no en_41 rfl (by with_reducible repeat first | exact .nil _ | apply App.cons) (rstep45 x hx hT (wN s x.tasks.l.length) w hw (simC x.tasks.l w s i) q hL (by omega)) (by with_reducible repeat first | exact .nil _ | exact .here _ _ | exact Take.self _ | apply Take.cons | apply Out.there | apply Take.skip | exact Take.pre _ _ | apply Out.app) rfl ?_
                  rintro _ _ ⟨q2, hL2, rfl, rfl⟩
                  simp only [List.cons_append, List.nil_append]
                  refine ⟨[many 16 (rowS (tickR q2).1.jf), blk b4 (encSeen (seeN x.tasks.l w s i)) 86, row (.slice a.oad a.l.length a.c) 53 6 a.l.length (a.l.flatMap encR), K, blk bd14 (srC sr0) 69, blk bd15 [.int .i64 0, .int .i64 0, .int .i64 0, .int .i64 0, .bool false, .bool false] 76], _, _, (by with_reducible repeat first | exact .nil _ | apply App.cons), (by with_reducible repeat first | exact .nil _ | exact .here _ _ | exact Take.self _ | apply Take.cons | apply Out.there | apply Take.skip | exact Take.pre _ _ | apply Out.app), ?_⟩
                  have hL4 : Like (relA x.tasks.l w s (simC x.tasks.l w s i)) q2 := by rw [relA_N hn16, ← relN_same (wN_eq x.tasks.l hn16 s) _ (Nat.le_refl _)]; exact hL2
                  obtain ⟨hL3, hrn⟩ := hL4.tick (by have := hL4.now; have := hL.now; have := (relA_sys (w := w) hT (sim_sys (w := w) (s := s) hT i (by omega)).1).2.now; omega)
                  have hrn : (tickR q2).2 = (ranC x.tasks.l w s i) := hrn
                  refine XA_detp 11 rfl (by kernel_rfl) (by kernel_rfl) (by kernel_rfl) (fun _ _ _ _ h => h) .no (D_pureP rfl) rfl ?_
                  refine XA_detp 12 rfl (by kernel_rfl) (by kernel_rfl) (by kernel_rfl) (fun _ _ _ _ h => h) .no (D_pureP (v := .agg (srC ((tickR q2).1)).toArray) rfl) rfl ?_
                  refine XA_detp 13 rfl (by kernel_rfl) (by kernel_rfl) (by kernel_rfl) (fun _ _ _ _ h => h) .no (D_pureP (v := .agg (encRr (tickR q2).2).toArray) rfl) rfl ?_
                  refine XA_one 16 (by kernel_rfl) ?_
                  refine XO_efd rfl .no (by with_reducible repeat first | exact .nil _ | apply App.cons) (F_stw rfl rfl rfl (by with_reducible repeat first | exact .here _ _ | apply Out.there | apply Out.app) tk_69 rfl rfl) (by kernel_rfl) ?_
                  refine XA_one 17 (by kernel_rfl) ?_
                  refine XO_efd rfl .no (by with_reducible repeat first | exact .nil _ | apply App.cons) (F_stw rfl rfl rfl (by with_reducible repeat first | exact .here _ _ | apply Out.there | apply Out.app) tk_76 rfl rfl) (by kernel_rfl) ?_
                  refine XA_done (by kernel_rfl) ?_
                  try simp only [List.cons_append, List.nil_append, List.append_nil]
                  rw [hrn]
                  refine joinQ_normal (bd14, bd15, (tickR q2).1) ?_ ?_ ?_
                  · exact ⟨hL3, by rw [hL3.now]; exact (sim_sys (w := w) (s := s) hT (i + 1) (by omega)).2.2⟩
                  · refine ⟨?_, ?_, ?_, ?_, ?_, ?_, ?_, ?_, ?_, ?_, ?_, ?_, trivial⟩ <;> rfl
                  · exact ⟨_, (by repeat first | (with_reducible first | exact .nil _ | exact .here _ _) | exact .here _ _ | (with_reducible first | exact Take.self _ | apply Take.cons | apply Out.there | apply Take.skip | exact Take.pre _ _ | apply Out.app))⟩
              · skip
                refine XO_alloc rfl .no zero_76 rfl (fun bd15 => ?_)
                refine XA_two 8 14 (by kernel_rfl) ?_ ?_
                · skip
                  refine XO_callv rfl .no en_42 rfl (lpart w.part) rfl ?_
                  refine XA_two 10 14 (by kernel_rfl) ?_ ?_
                  · skip
                    refine XO_callc rfl .no en_41 rfl (by with_reducible repeat first | exact .nil _ | apply App.cons) (rstep45 x hx hT (wN s x.tasks.l.length) w hw (simC x.tasks.l w s i) q hL (by omega)) (by with_reducible repeat first | exact .nil _ | exact .here _ _ | exact Take.self _ | apply Take.cons | apply Out.there | apply Take.skip | exact Take.pre _ _ | apply Out.app) rfl ?_
                    rintro _ _ ⟨q2, hL2, rfl, rfl⟩
                    simp only [List.cons_append, List.nil_append]
                    refine ⟨[many 16 (rowS (tickR q2).1.jf), blk b4 (encSeen (seeN x.tasks.l w s i)) 86, row (.slice a.oad a.l.length a.c) 53 6 a.l.length (a.l.flatMap encR), K, blk bd15 [.int .i64 0, .int .i64 0, .int .i64 0, .int .i64 0, .bool false, .bool false] 76], _, _, (by with_reducible repeat first | exact .nil _ | apply App.cons), (by with_reducible repeat first | exact .nil _ | exact .here _ _ | exact Take.self _ | apply Take.cons | apply Out.there | apply Take.skip | exact Take.pre _ _ | apply Out.app), ?_⟩
                    have hL4 : Like (relA x.tasks.l w s (simC x.tasks.l w s i)) q2 := by rw [relA_N hn16, ← relN_same (wN_eq x.tasks.l hn16 s) _ (Nat.le_refl _)]; exact hL2
                    obtain ⟨hL3, hrn⟩ := hL4.tick (by have := hL4.now; have := hL.now; have := (relA_sys (w := w) hT (sim_sys (w := w) (s := s) hT i (by omega)).1).2.now; omega)
                    have hrn : (tickR q2).2 = (ranC x.tasks.l w s i) := hrn
                    refine XA_detp 11 rfl (by kernel_rfl) (by kernel_rfl) (by kernel_rfl) (fun _ _ _ _ h => h) .no (D_pureP rfl) rfl ?_
                    refine XA_detp 12 rfl (by kernel_rfl) (by kernel_rfl) (by kernel_rfl) (fun _ _ _ _ h => h) .no (D_pureP (v := .agg (srC ((tickR q2).1)).toArray) rfl) rfl ?_
                    refine XA_detp 13 rfl (by kernel_rfl) (by kernel_rfl) (by kernel_rfl) (fun _ _ _ _ h => h) .no (D_pureP (v := .agg (encRr (tickR q2).2).toArray) rfl) rfl ?_
                    refine XA_one 14 (by kernel_rfl) ?_
                    refine XO_alloc (cs := srC sr0) rfl .no zero_69 rfl (fun bd14 => ?_)
                    refine XA_one 16 (by kernel_rfl) ?_
                    refine XO_efd rfl .no (by with_reducible repeat first | exact .nil _ | apply App.cons) (F_stw rfl rfl rfl (by with_reducible repeat first | exact .here _ _ | apply Out.there | apply Out.app) tk_69 rfl rfl) (by kernel_rfl) ?_
                    refine XA_one 17 (by kernel_rfl) ?_
                    refine XO_efd rfl .no (by with_reducible repeat first | exact .nil _ | apply App.cons) (F_stw rfl rfl rfl (by with_reducible repeat first | exact .here _ _ | apply Out.there | apply Out.app) tk_76 rfl rfl) (by kernel_rfl) ?_
                    refine XA_done (by kernel_rfl) ?_
                    try simp only [List.cons_append, List.nil_append, List.append_nil]
                    rw [hrn]
                    refine joinQ_normal (bd14, bd15, (tickR q2).1) ?_ ?_ ?_
                    · exact ⟨hL3, by rw [hL3.now]; exact (sim_sys (w := w) (s := s) hT (i + 1) (by omega)).2.2⟩
                    · refine ⟨?_, ?_, ?_, ?_, ?_, ?_, ?_, ?_, ?_, ?_, ?_, ?_, trivial⟩ <;> rfl
                    · exact ⟨_, (by repeat first | (with_reducible first | exact .nil _ | exact .here _ _) | exact .here _ _ | (with_reducible first | exact Take.self _ | apply Take.cons | apply Out.there | apply Take.skip | exact Take.pre _ _ | apply Out.app))⟩
                  · skip
                    refine XO_alloc (cs := srC sr0) rfl .no zero_69 rfl (fun bd14 => ?_)
                    refine XA_one 10 (by kernel_rfl) ?_
                    refine XO_callc rfl .no en_41 rfl (by with_reducible repeat first | exact .nil _ | apply App.cons) (rstep45 x hx hT (wN s x.tasks.l.length) w hw (simC x.tasks.l w s i) q hL (by omega)) (by with_reducible repeat first | exact .nil _ | exact .here _ _ | exact Take.self _ | apply Take.cons | apply Out.there | apply Take.skip | exact Take.pre _ _ | apply Out.app) rfl ?_
                    rintro _ _ ⟨q2, hL2, rfl, rfl⟩
                    simp only [List.cons_append, List.nil_append]
                    refine ⟨[many 16 (rowS (tickR q2).1.jf), blk b4 (encSeen (seeN x.tasks.l w s i)) 86, row (.slice a.oad a.l.length a.c) 53 6 a.l.length (a.l.flatMap encR), K, blk bd14 (srC sr0) 69, blk bd15 [.int .i64 0, .int .i64 0, .int .i64 0, .int .i64 0, .bool false, .bool false] 76], _, _, (by with_reducible repeat first | exact .nil _ | apply App.cons), (by with_reducible repeat first | exact .nil _ | exact .here _ _ | exact Take.self _ | apply Take.cons | apply Out.there | apply Take.skip | exact Take.pre _ _ | apply Out.app), ?_⟩
                    have hL4 : Like (relA x.tasks.l w s (simC x.tasks.l w s i)) q2 := by rw [relA_N hn16, ← relN_same (wN_eq x.tasks.l hn16 s) _ (Nat.le_refl _)]; exact hL2
                    obtain ⟨hL3, hrn⟩ := hL4.tick (by have := hL4.now; have := hL.now; have := (relA_sys (w := w) hT (sim_sys (w := w) (s := s) hT i (by omega)).1).2.now; omega)
                    have hrn : (tickR q2).2 = (ranC x.tasks.l w s i) := hrn
                    refine XA_detp 11 rfl (by kernel_rfl) (by kernel_rfl) (by kernel_rfl) (fun _ _ _ _ h => h) .no (D_pureP rfl) rfl ?_
                    refine XA_detp 12 rfl (by kernel_rfl) (by kernel_rfl) (by kernel_rfl) (fun _ _ _ _ h => h) .no (D_pureP (v := .agg (srC ((tickR q2).1)).toArray) rfl) rfl ?_
                    refine XA_detp 13 rfl (by kernel_rfl) (by kernel_rfl) (by kernel_rfl) (fun _ _ _ _ h => h) .no (D_pureP (v := .agg (encRr (tickR q2).2).toArray) rfl) rfl ?_
                    refine XA_one 16 (by kernel_rfl) ?_
                    refine XO_efd rfl .no (by with_reducible repeat first | exact .nil _ | apply App.cons) (F_stw rfl rfl rfl (by with_reducible repeat first | exact .here _ _ | apply Out.there | apply Out.app) tk_69 rfl rfl) (by kernel_rfl) ?_
                    refine XA_one 17 (by kernel_rfl) ?_
                    refine XO_efd rfl .no (by with_reducible repeat first | exact .nil _ | apply App.cons) (F_stw rfl rfl rfl (by with_reducible repeat first | exact .here _ _ | apply Out.there | apply Out.app) tk_76 rfl rfl) (by kernel_rfl) ?_
                    refine XA_done (by kernel_rfl) ?_
                    try simp only [List.cons_append, List.nil_append, List.append_nil]
                    rw [hrn]
                    refine joinQ_normal (bd14, bd15, (tickR q2).1) ?_ ?_ ?_
                    · exact ⟨hL3, by rw [hL3.now]; exact (sim_sys (w := w) (s := s) hT (i + 1) (by omega)).2.2⟩
                    · refine ⟨?_, ?_, ?_, ?_, ?_, ?_, ?_, ?_, ?_, ?_, ?_, ?_, trivial⟩ <;> rfl
                    · exact ⟨_, (by repeat first | (with_reducible first | exact .nil _ | exact .here _ _) | exact .here _ _ | (with_reducible first | exact Take.self _ | apply Take.cons | apply Out.there | apply Take.skip | exact Take.pre _ _ | apply Out.app))⟩
                · skip
                  refine XO_alloc (cs := srC sr0) rfl .no zero_69 rfl (fun bd14 => ?_)
                  refine XA_one 8 (by kernel_rfl) ?_
                  refine XO_callv rfl .no en_42 rfl (lpart w.part) rfl ?_
                  refine XA_one 10 (by kernel_rfl) ?_
                  refine XO_callc rfl .no en_41 rfl (by with_reducible repeat first | exact .nil _ | apply App.cons) (rstep45 x hx hT (wN s x.tasks.l.length) w hw (simC x.tasks.l w s i) q hL (by omega)) (by with_reducible repeat first | exact .nil _ | exact .here _ _ | exact Take.self _ | apply Take.cons | apply Out.there | apply Take.skip | exact Take.pre _ _ | apply Out.app) rfl ?_
                  rintro _ _ ⟨q2, hL2, rfl, rfl⟩
                  simp only [List.cons_append, List.nil_append]
                  refine ⟨[many 16 (rowS (tickR q2).1.jf), blk b4 (encSeen (seeN x.tasks.l w s i)) 86, row (.slice a.oad a.l.length a.c) 53 6 a.l.length (a.l.flatMap encR), K, blk bd14 (srC sr0) 69, blk bd15 [.int .i64 0, .int .i64 0, .int .i64 0, .int .i64 0, .bool false, .bool false] 76], _, _, (by with_reducible repeat first | exact .nil _ | apply App.cons), (by with_reducible repeat first | exact .nil _ | exact .here _ _ | exact Take.self _ | apply Take.cons | apply Out.there | apply Take.skip | exact Take.pre _ _ | apply Out.app), ?_⟩
                  have hL4 : Like (relA x.tasks.l w s (simC x.tasks.l w s i)) q2 := by rw [relA_N hn16, ← relN_same (wN_eq x.tasks.l hn16 s) _ (Nat.le_refl _)]; exact hL2
                  obtain ⟨hL3, hrn⟩ := hL4.tick (by have := hL4.now; have := hL.now; have := (relA_sys (w := w) hT (sim_sys (w := w) (s := s) hT i (by omega)).1).2.now; omega)
                  have hrn : (tickR q2).2 = (ranC x.tasks.l w s i) := hrn
                  refine XA_detp 11 rfl (by kernel_rfl) (by kernel_rfl) (by kernel_rfl) (fun _ _ _ _ h => h) .no (D_pureP rfl) rfl ?_
                  refine XA_detp 12 rfl (by kernel_rfl) (by kernel_rfl) (by kernel_rfl) (fun _ _ _ _ h => h) .no (D_pureP (v := .agg (srC ((tickR q2).1)).toArray) rfl) rfl ?_
                  refine XA_detp 13 rfl (by kernel_rfl) (by kernel_rfl) (by kernel_rfl) (fun _ _ _ _ h => h) .no (D_pureP (v := .agg (encRr (tickR q2).2).toArray) rfl) rfl ?_
                  refine XA_one 16 (by kernel_rfl) ?_
                  refine XO_efd rfl .no (by with_reducible repeat first | exact .nil _ | apply App.cons) (F_stw rfl rfl rfl (by with_reducible repeat first | exact .here _ _ | apply Out.there | apply Out.app) tk_69 rfl rfl) (by kernel_rfl) ?_
                  refine XA_one 17 (by kernel_rfl) ?_
                  refine XO_efd rfl .no (by with_reducible repeat first | exact .nil _ | apply App.cons) (F_stw rfl rfl rfl (by with_reducible repeat first | exact .here _ _ | apply Out.there | apply Out.app) tk_76 rfl rfl) (by kernel_rfl) ?_
                  refine XA_done (by kernel_rfl) ?_
                  try simp only [List.cons_append, List.nil_append, List.append_nil]
                  rw [hrn]
                  refine joinQ_normal (bd14, bd15, (tickR q2).1) ?_ ?_ ?_
                  · exact ⟨hL3, by rw [hL3.now]; exact (sim_sys (w := w) (s := s) hT (i + 1) (by omega)).2.2⟩
                  · refine ⟨?_, ?_, ?_, ?_, ?_, ?_, ?_, ?_, ?_, ?_, ?_, ?_, trivial⟩ <;> rfl
                  · exact ⟨_, (by repeat first | (with_reducible first | exact .nil _ | exact .here _ _) | exact .here _ _ | (with_reducible first | exact Take.self _ | apply Take.cons | apply Out.there | apply Take.skip | exact Take.pre _ _ | apply Out.app))⟩
            · rintro ⟨c4, c5, q3⟩ ⟨hL5, hq3⟩
              refine X_seq ?_
              refine X_region ?_
              refine XL_det .no (D_ldso (vs := srC q3) rfl (by with_reducible repeat first | exact .here _ _ | apply Out.there | apply Out.app) tk_69 rfl (by rw [List.drop_zero, List.take_of_length_le (by rw [sr_len]; exact Nat.le_refl _)])) rfl ?_
              refine XL_efd .no (F_stw rfl rfl rfl (by with_reducible repeat first | exact .here _ _ | apply Out.there | apply Out.app) tk_69 rfl rfl) ?_
              refine XL_then ?_
              refine X_seq ?_
              refine X_seq ?_
              refine X_draw [blk c5 (encRr (ranC x.tasks.l w s i)) 76, row (.slice a.oad a.l.length a.c) 53 6 a.l.length (a.l.flatMap encR)] mixed (by with_reducible repeat first | exact .nil _ | exact .here _ _ | exact Take.self _ | apply Take.cons | apply Out.there | apply Take.skip | exact Take.pre _ _ | apply Out.app) ?_
              refine XA_detp 0 rfl (by kernel_rfl) (by kernel_rfl) (by kernel_rfl) (fun _ _ _ _ h => h) .no (D_pureP rfl) rfl ?_
              refine XA_detp 1 rfl (by kernel_rfl) (by kernel_rfl) (by kernel_rfl) (fun _ _ _ _ h => h) .no (D_pureP rfl) rfl ?_
              refine XA_detp 2 rfl (by kernel_rfl) (by kernel_rfl) (by kernel_rfl) (fun _ _ _ _ h => h) .no (D_lenP rfl rfl slc_92) rfl ?_
              refine XA_detp 3 rfl (by kernel_rfl) (by kernel_rfl) (by kernel_rfl) (fun _ _ _ _ h => h) .no (D_pureP (v := .bool false) (congrArg (fun b => some (Value.bool b)) (decide_eq_false (by omega)))) rfl ?_
              refine XA_detp 4 rfl (by kernel_rfl) (by kernel_rfl) (by kernel_rfl) (fun _ _ _ _ h => h) .no (D_pureP rfl) rfl ?_
              refine XA_detp 5 rfl (by kernel_rfl) (by kernel_rfl) (by kernel_rfl) (fun _ _ _ _ h => h) (.yes 69 rfl rfl rfl) (D_pureP rfl) rfl ?_
              refine XA_detp 6 rfl (by kernel_rfl) (by kernel_rfl) (by kernel_rfl) (fun _ _ _ _ h => h) (.yes 69 rfl rfl rfl) (D_pureP rfl) rfl ?_
              refine XA_detp 7 rfl (by kernel_rfl) (by kernel_rfl) (by kernel_rfl) (fun _ _ _ _ h => h) (.yes 69 rfl rfl rfl) (D_idxSoP rfl rfl slc_92 (a).nil0 rfl (by omega) rfl) rfl ?_
              refine XA_det 8 rfl (by kernel_rfl) (by kernel_rfl) (by kernel_rfl) (by kernel_rfl) (fun _ _ _ _ h => h) (.yes 69 rfl rfl rfl) (D_els (enc := encR) (sz := 6) (i := i) (fun _ => rfl) rfl (by with_reducible repeat first | exact .here _ _ | apply Out.there | apply Out.app) (Rd_own hao rfl) tk_53 hg) rfl ?_
              refine XA_detp 9 rfl (by kernel_rfl) (by kernel_rfl) (by kernel_rfl) (fun _ _ _ _ h => h) (.yes 69 rfl rfl rfl) (D_fldP rfl fld_76_0 (o' := 0) rfl) rfl ?_
              refine XA_det 10 rfl (by kernel_rfl) (by kernel_rfl) (by kernel_rfl) (by kernel_rfl) (fun _ _ _ _ h => h) (.yes 69 rfl rfl rfl) (D_ldo (v := .int .i64 (ranC x.tasks.l w s i).task) rfl (by with_reducible repeat first | exact .here _ _ | apply Out.there | apply Out.app) tk_3 (by rfl)) rfl ?_
              refine XA_detp 11 rfl (by kernel_rfl) (by kernel_rfl) (by kernel_rfl) (fun _ _ _ _ h => h) (.yes 69 rfl rfl rfl) (D_fldP rfl fld_76_1 (o' := 1) rfl) rfl ?_
              refine XA_det 12 rfl (by kernel_rfl) (by kernel_rfl) (by kernel_rfl) (by kernel_rfl) (fun _ _ _ _ h => h) (.yes 69 rfl rfl rfl) (D_ldo (v := .int .i64 (ranC x.tasks.l w s i).took) rfl (by with_reducible repeat first | exact .here _ _ | apply Out.there | apply Out.app) tk_3 (by rfl)) rfl ?_
              refine XA_detp 13 rfl (by kernel_rfl) (by kernel_rfl) (by kernel_rfl) (fun _ _ _ _ h => h) (.yes 69 rfl rfl rfl) (D_fldP rfl fld_76_2 (o' := 2) rfl) rfl ?_
              refine XA_det 14 rfl (by kernel_rfl) (by kernel_rfl) (by kernel_rfl) (by kernel_rfl) (fun _ _ _ _ h => h) (.yes 69 rfl rfl rfl) (D_ldo (v := .int .i64 (ranC x.tasks.l w s i).gave) rfl (by with_reducible repeat first | exact .here _ _ | apply Out.there | apply Out.app) tk_3 (by rfl)) rfl ?_
              refine XA_detp 15 rfl (by kernel_rfl) (by kernel_rfl) (by kernel_rfl) (fun _ _ _ _ h => h) (.yes 69 rfl rfl rfl) (D_fldP rfl fld_76_4 (o' := 4) rfl) rfl ?_
              refine XA_det 16 rfl (by kernel_rfl) (by kernel_rfl) (by kernel_rfl) (by kernel_rfl) (fun _ _ _ _ h => h) (.yes 69 rfl rfl rfl) (D_ldo (v := .bool (ranC x.tasks.l w s i).over) rfl (by with_reducible repeat first | exact .here _ _ | apply Out.there | apply Out.app) tk_4 (by rfl)) rfl ?_
              refine XA_detp 17 rfl (by kernel_rfl) (by kernel_rfl) (by kernel_rfl) (fun _ _ _ _ h => h) (.yes 69 rfl rfl rfl) (D_fldP rfl fld_76_3 (o' := 3) rfl) rfl ?_
              refine XA_det 18 rfl (by kernel_rfl) (by kernel_rfl) (by kernel_rfl) (by kernel_rfl) (fun _ _ _ _ h => h) (.yes 69 rfl rfl rfl) (D_ldo (v := .int .i64 (ranC x.tasks.l w s i).within) rfl (by with_reducible repeat first | exact .here _ _ | apply Out.there | apply Out.app) tk_3 (by rfl)) rfl ?_
              refine XA_detp 19 rfl (by kernel_rfl) (by kernel_rfl) (by kernel_rfl) (fun _ _ _ _ h => h) (.yes 69 rfl rfl rfl) (D_fldP rfl fld_76_5 (o' := 5) rfl) rfl ?_
              refine XA_det 20 rfl (by kernel_rfl) (by kernel_rfl) (by kernel_rfl) (by kernel_rfl) (fun _ _ _ _ h => h) (.yes 69 rfl rfl rfl) (D_ldo (v := .bool (ranC x.tasks.l w s i).late) rfl (by with_reducible repeat first | exact .here _ _ | apply Out.there | apply Out.app) tk_4 (by rfl)) rfl ?_
              refine XA_det 21 rfl (by kernel_rfl) (by kernel_rfl) (by kernel_rfl) (by kernel_rfl) (fun _ _ _ _ h => h) (.yes 69 rfl rfl rfl) (D_build [_, _, _, _, _, _] rfl bld_53 (by rfl)) rfl ?_
              refine XA_det 22 rfl (by kernel_rfl) (by kernel_rfl) (by kernel_rfl) (by kernel_rfl) (fun _ _ _ _ h => h) (.yes 69 rfl rfl rfl) (D_eqs (b := false) rfl rfl eqk_53 eqg_53 rfl rfl rfl (by show (!cellsEq (encR (ranC x.tasks.l w s i)) (encR (ranC x.tasks.l w s i))) = false; rw [ranE]; rfl)) rfl ?_
              refine XA_detp 23 rfl (by kernel_rfl) (by kernel_rfl) (by kernel_rfl) (fun _ _ _ _ h => h) .no (D_pureP rfl) rfl ?_
              refine XA_done (by kernel_rfl) ?_
              try simp only [List.cons_append, List.nil_append, List.append_nil]
              refine thenX_normal ?_
              refine X_cond_f rfl rfl ?_
              refine X_skip ?_
              refine thenX_normal ?_
              refine X_seqj (α := Unit) (fun _ => True) (fun _ => [(11, .int .i64 (idleN x.tasks.l w s (i + 1)).1), (12, .bool (idleN x.tasks.l w s (i + 1)).2), (1, .int .u32 s.toNat), (3, .pointer (some ⟨b1, 0, none⟩)), (5, .pointer (some ⟨b2, 0, none⟩)), (7, .int .u32 (wN s x.tasks.l.length).toNat), (8, .pointer (some ⟨b3, 0, none⟩)), (9, .slice a.oad a.l.length a.c), (10, .pointer (some ⟨b4, 0, none⟩)), (13, .int .i64 (i : Int)), (14, .pointer (some ⟨c4, 0, none⟩)), (15, .pointer (some ⟨c5, 0, none⟩))]) (fun _ => [blk b1 [.int .i64 x.res, .slice x.tasks.oad x.tasks.l.length x.tasks.c, .slice x.modes.oad x.modes.l.length x.modes.c, .slice x.edges.oad x.edges.l.length x.edges.c] 26, blk b2 (encAsk w mny) 83, blk b3 (srC q3) 69, blk b4 (encSeen (seeN x.tasks.l w s i)) 86, many 16 (rowS q3.jf), blk c5 (encRr (ranC x.tasks.l w s i)) 76, row (.slice a.oad a.l.length a.c) 53 6 a.l.length (a.l.flatMap encR), K, Ki]) ?_ ?_
              · skip
                refine X_seq ?_
                refine X_region ?_
                refine XL_det .no (D_fld rfl fld_76_0 (o' := 0) rfl) rfl ?_
                refine XL_det .no (D_ldo (v := .int .i64 (ranC x.tasks.l w s i).task) rfl (by with_reducible repeat first | exact .here _ _ | apply Out.there | apply Out.app) tk_3 (by rfl)) rfl ?_
                refine XL_det .no (D_pure rfl) rfl ?_
                refine XL_det .no (D_pure rfl) rfl ?_
                refine XL_split (t := 92) rfl (fun h5 => ?_) (fun h5 => ?_)
                · try simp only [decide_eq_true_eq, decide_eq_false_iff_not, Bool.not_eq_true', Bool.not_eq_false', beq_iff_eq, bne_iff_ne, beq_eq_false_iff_ne, bne_eq_false_iff_eq, Int.not_lt, Int.not_le, gt_iff_lt, ge_iff_le, ne_eq] at h5
                  refine XL_det (.yes 92 rfl rfl rfl) (D_pure rfl) rfl ?_
                  refine XL_det (.yes 92 rfl rfl rfl) (D_pure rfl) rfl ?_
                  refine XL_det .no (D_pure rfl) rfl ?_
                  refine XL_then ?_
                  refine X_cond rfl (fun h6 => ?_) (fun h6 => ?_)
                  · try simp only [decide_eq_true_eq, decide_eq_false_iff_not, Bool.not_eq_true', Bool.not_eq_false', beq_iff_eq, bne_iff_ne, beq_eq_false_iff_ne, bne_eq_false_iff_eq, Int.not_lt, Int.not_le, gt_iff_lt, ge_iff_le, ne_eq] at h6
                    refine X_region ?_
                    refine XL_det .no (D_pure rfl) rfl ?_
                    refine XL_det .no (D_pure rfl) rfl ?_
                    refine XL_det .no (D_pure rfl) rfl ?_
                    refine XL_nil ?_
                    refine joinQ_normal () ?_ ?_ ?_
                    · trivial
                    · refine ⟨by rw [idle_t h5 h6]; rfl, by rw [idle_t h5 h6]; rfl, ?_, ?_, ?_, ?_, ?_, ?_, ?_, ?_, ?_, ?_, trivial⟩ <;> rfl
                    · exact ⟨_, (by with_reducible repeat first | exact .nil _ | exact .here _ _ | exact Take.self _ | apply Take.cons | apply Out.there | apply Take.skip | exact Take.pre _ _ | apply Out.app)⟩
                  · try simp only [decide_eq_true_eq, decide_eq_false_iff_not, Bool.not_eq_true', Bool.not_eq_false', beq_iff_eq, bne_iff_ne, beq_eq_false_iff_ne, bne_eq_false_iff_eq, Int.not_lt, Int.not_le, gt_iff_lt, ge_iff_le, ne_eq] at h6
                    refine X_skip ?_
                    refine joinQ_normal () ?_ ?_ ?_
                    · trivial
                    · refine ⟨by rw [idle_k (fun z => by rw [h6] at z; cases z.2)]; rfl, by rw [idle_k (fun z => by rw [h6] at z; cases z.2)]; rfl, ?_, ?_, ?_, ?_, ?_, ?_, ?_, ?_, ?_, ?_, trivial⟩ <;> rfl
                    · exact ⟨_, (by with_reducible repeat first | exact .nil _ | exact .here _ _ | exact Take.self _ | apply Take.cons | apply Out.there | apply Take.skip | exact Take.pre _ _ | apply Out.app)⟩
                · try simp only [decide_eq_true_eq, decide_eq_false_iff_not, Bool.not_eq_true', Bool.not_eq_false', beq_iff_eq, bne_iff_ne, beq_eq_false_iff_ne, bne_eq_false_iff_eq, Int.not_lt, Int.not_le, gt_iff_lt, ge_iff_le, ne_eq] at h5
                  refine XL_skip 92 rfl rfl rfl rfl rfl ?_
                  refine XL_skip 92 rfl rfl rfl rfl rfl ?_
                  refine XL_det .no (D_pure rfl) rfl ?_
                  refine XL_then ?_
                  refine X_cond_f rfl rfl ?_
                  refine X_skip ?_
                  refine joinQ_normal () ?_ ?_ ?_
                  · trivial
                  · refine ⟨by rw [idle_k (fun z => absurd z.1 (by omega))]; rfl, by rw [idle_k (fun z => absurd z.1 (by omega))]; rfl, ?_, ?_, ?_, ?_, ?_, ?_, ?_, ?_, ?_, ?_, trivial⟩ <;> rfl
                  · exact ⟨_, (by with_reducible repeat first | exact .nil _ | exact .here _ _ | exact Take.self _ | apply Take.cons | apply Out.there | apply Take.skip | exact Take.pre _ _ | apply Out.app)⟩
              · rintro _ _
                refine X_seq ?_
                refine X_region ?_
                refine XL_det .no (D_fld rfl fld_76_4 (o' := 4) rfl) rfl ?_
                refine XL_det .no (D_ldo (v := .bool (ranC x.tasks.l w s i).over) rfl (by with_reducible repeat first | exact .here _ _ | apply Out.there | apply Out.app) tk_4 (by rfl)) rfl ?_
                refine XL_then ?_
                refine X_cond rfl (fun h7 => ?_) (fun h7 => ?_)
                · try simp only [decide_eq_true_eq, decide_eq_false_iff_not, Bool.not_eq_true', Bool.not_eq_false', beq_iff_eq, bne_iff_ne, beq_eq_false_iff_ne, bne_eq_false_iff_eq, Int.not_lt, Int.not_le, gt_iff_lt, ge_iff_le, ne_eq] at h7
                  obtain ⟨k, hk, hk16, _⟩ := ran_over (w := w) (s := s) hT (n := i) (by omega) h7
                  refine X_seq ?_
                  refine X_region ?_
                  refine XL_det .no (D_fld rfl fld_86_1 (o' := 16) rfl) rfl ?_
                  refine XL_det .no (D_ldo (v := .int .i64 (seeN x.tasks.l w s i).dn) rfl (by with_reducible repeat first | exact .here _ _ | apply Out.there | apply Out.app) tk_3 (seen_dn)) rfl ?_
                  refine XL_det .no (D_add rfl rfl (by omega) (by omega)) rfl ?_
                  refine XL_det .no (D_fld rfl fld_86_1 (o' := 16) rfl) rfl ?_
                  refine XL_efd .no (F_st (k := 16) (cs' := encSeen (⟨(seeN x.tasks.l w s i).lg, (seeN x.tasks.l w s i).dn + 1, (seeN x.tasks.l w s i).lt⟩ : SeenS)) rfl rfl rfl (by with_reducible repeat first | exact .here _ _ | apply Out.there | apply Out.app) tk_3 (seen_blt (by omega)) (seen_setdn)) ?_
                  refine XL_then ?_
                  refine X_seq ?_
                  refine X_region ?_
                  refine XL_det .no (D_fld rfl fld_86_2 (o' := 17) rfl) rfl ?_
                  refine XL_det .no (D_ldo (v := .bool (seeN x.tasks.l w s i).lt) rfl (by with_reducible repeat first | exact .here _ _ | apply Out.there | apply Out.app) tk_4 (seen_lt (p := (⟨(seeN x.tasks.l w s i).lg, (seeN x.tasks.l w s i).dn + 1, (seeN x.tasks.l w s i).lt⟩ : SeenS)))) rfl ?_
                  refine XL_det .no (D_pure rfl) rfl ?_
                  refine XL_split (t := 105) rfl (fun h8 => ?_) (fun h8 => ?_)
                  · try simp only [decide_eq_true_eq, decide_eq_false_iff_not, Bool.not_eq_true', Bool.not_eq_false', beq_iff_eq, bne_iff_ne, beq_eq_false_iff_ne, bne_eq_false_iff_eq, Int.not_lt, Int.not_le, gt_iff_lt, ge_iff_le, ne_eq] at h8
                    refine XL_skip 105 rfl rfl rfl rfl rfl ?_
                    refine XL_skip 105 rfl rfl rfl rfl rfl ?_
                    refine XL_det .no (D_pure rfl) rfl ?_
                    refine XL_det .no (D_fld rfl fld_86_2 (o' := 17) rfl) rfl ?_
                    refine XL_efd .no (F_st (k := 17) (cs' := encSeen (⟨(seeN x.tasks.l w s i).lg, (seeN x.tasks.l w s i).dn + 1, (seeN x.tasks.l w s i).lt || (ranC x.tasks.l w s i).late⟩ : SeenS)) rfl rfl rfl (by with_reducible repeat first | exact .here _ _ | apply Out.there | apply Out.app) tk_4 (seen_blt (by omega)) ((seen_setlt (p := (⟨(seeN x.tasks.l w s i).lg, (seeN x.tasks.l w s i).dn + 1, (seeN x.tasks.l w s i).lt⟩ : SeenS))).trans (by rw [h8, Bool.true_or]))) ?_
                    refine XL_then ?_
                    refine X_seq ?_
                    refine X_draw [blk c5 (encRr (ranC x.tasks.l w s i)) 76, blk b4 (encSeen (⟨(seeN x.tasks.l w s i).lg, (seeN x.tasks.l w s i).dn + 1, (seeN x.tasks.l w s i).lt || (ranC x.tasks.l w s i).late⟩ : SeenS)) 86] mixed (by with_reducible repeat first | exact .nil _ | exact .here _ _ | exact Take.self _ | apply Take.cons | apply Out.there | apply Take.skip | exact Take.pre _ _ | apply Out.app) ?_
                    refine XA_detp 0 rfl (by kernel_rfl) (by kernel_rfl) (by kernel_rfl) (fun _ _ _ _ h => h) .no (D_fldP rfl fld_76_3 (o' := 3) rfl) rfl ?_
                    refine XA_det 1 rfl (by kernel_rfl) (by kernel_rfl) (by kernel_rfl) (by kernel_rfl) (fun _ _ _ _ h => h) .no (D_ldo (v := .int .i64 (ranC x.tasks.l w s i).within) rfl (by with_reducible repeat first | exact .here _ _ | apply Out.there | apply Out.app) tk_3 (by rfl)) rfl ?_
                    refine XA_detp 2 rfl (by kernel_rfl) (by kernel_rfl) (by kernel_rfl) (fun _ _ _ _ h => h) .no (D_fldP rfl fld_76_0 (o' := 0) rfl) rfl ?_
                    refine XA_det 3 rfl (by kernel_rfl) (by kernel_rfl) (by kernel_rfl) (by kernel_rfl) (fun _ _ _ _ h => h) .no (D_ldo (v := .int .i64 (k : Int)) rfl (by with_reducible repeat first | exact .here _ _ | apply Out.there | apply Out.app) tk_3 (by rw [← hk]; rfl)) rfl ?_
                    refine XA_detp 4 rfl (by kernel_rfl) (by kernel_rfl) (by kernel_rfl) (fun _ _ _ _ h => h) .no (D_fldP rfl fld_86_0 (o' := 0) rfl) rfl ?_
                    refine XA_detp 5 rfl (by kernel_rfl) (by kernel_rfl) (by kernel_rfl) (fun _ _ _ _ h => h) .no (D_idxAP rfl rfl arr_38 rfl (by omega) rfl) rfl ?_
                    refine XA_det 6 rfl (by kernel_rfl) (by kernel_rfl) (by kernel_rfl) (by kernel_rfl) (fun _ _ _ _ h => h) .no (D_ldo (v := .int .i64 ((seeN x.tasks.l w s i).lg k)) rfl (by with_reducible repeat first | exact .here _ _ | apply Out.there | apply Out.app) tk_3 (seen_lg (p := (⟨(seeN x.tasks.l w s i).lg, (seeN x.tasks.l w s i).dn + 1, (seeN x.tasks.l w s i).lt || (ranC x.tasks.l w s i).late⟩ : SeenS)) hk16)) rfl ?_
                    refine XA_detp 7 rfl (by kernel_rfl) (by kernel_rfl) (by kernel_rfl) (fun _ _ _ _ h => h) .no (D_pureP rfl) rfl ?_
                    refine XA_done (by kernel_rfl) ?_
                    try simp only [List.cons_append, List.nil_append, List.append_nil]
                    refine thenX_normal ?_
                    refine X_cond rfl (fun h9 => ?_) (fun h9 => ?_)
                    · try simp only [decide_eq_true_eq, decide_eq_false_iff_not, Bool.not_eq_true', Bool.not_eq_false', beq_iff_eq, bne_iff_ne, beq_eq_false_iff_ne, bne_eq_false_iff_eq, Int.not_lt, Int.not_le, gt_iff_lt, ge_iff_le, ne_eq] at h9
                      refine X_region ?_
                      refine XL_det .no (D_fld rfl fld_76_0 (o' := 0) rfl) rfl ?_
                      refine XL_det .no (D_ldo (v := .int .i64 (k : Int)) rfl (by with_reducible repeat first | exact .here _ _ | apply Out.there | apply Out.app) tk_3 (by rw [← hk]; rfl)) rfl ?_
                      refine XL_det .no (D_fld rfl fld_76_3 (o' := 3) rfl) rfl ?_
                      refine XL_det .no (D_ldo (v := .int .i64 (ranC x.tasks.l w s i).within) rfl (by with_reducible repeat first | exact .here _ _ | apply Out.there | apply Out.app) tk_3 (by rfl)) rfl ?_
                      refine XL_det .no (D_fld rfl fld_86_0 (o' := 0) rfl) rfl ?_
                      refine XL_det .no (D_idxA rfl rfl arr_38 rfl (by omega) rfl) rfl ?_
                      refine XL_efd .no (F_st (k := 0 + k * 1) (cs' := encSeen (⟨upd (seeN x.tasks.l w s i).lg k (ranC x.tasks.l w s i).within, (seeN x.tasks.l w s i).dn + 1, (seeN x.tasks.l w s i).lt || (ranC x.tasks.l w s i).late⟩ : SeenS)) rfl rfl rfl (by with_reducible repeat first | exact .here _ _ | apply Out.there | apply Out.app) tk_3 (seen_blt (by omega)) (seen_setlg (p := (⟨(seeN x.tasks.l w s i).lg, (seeN x.tasks.l w s i).dn + 1, (seeN x.tasks.l w s i).lt || (ranC x.tasks.l w s i).late⟩ : SeenS)) hk16)) ?_
                      refine XL_nil ?_
                      refine inBlk_normal ?_
                      refine thenX_normal ?_
                      refine X_region ?_
                      refine XL_det .no (D_pure rfl) rfl ?_
                      refine XL_det .no (D_add rfl rfl (by omega) (by omega)) rfl ?_
                      refine XL_det .no (D_pure rfl) rfl ?_
                      refine XL_nil ?_
                      rw [show encSeen (⟨upd (seeN x.tasks.l w s i).lg k (ranC x.tasks.l w s i).within, (seeN x.tasks.l w s i).dn + 1, (seeN x.tasks.l w s i).lt || (ranC x.tasks.l w s i).late⟩ : SeenS) = encSeen (seeN x.tasks.l w s (i + 1)) from by rw [seeN_t h7 hk]; show encSeen ⟨_, _, _⟩ = encSeen ⟨_, _, _⟩; rw [Int.max_eq_right (Int.le_of_lt h9)]]
                      refine loopQ_next (i + 1, q3) ?_ ?_ ?_ ?_
                      · (try dsimp only); exact ⟨by omega, hL5, hq3⟩
                      · (try dsimp only); omega
                      · refine ⟨?_, ?_, ?_, ?_, ?_, ?_, ?_, ?_, ?_, ?_, trivial⟩ <;> rfl
                      · (try dsimp only); exact ⟨_, (by repeat first | (with_reducible first | exact .nil _ | exact .here _ _) | exact .here _ _ | (with_reducible first | exact Take.self _ | apply Take.cons | apply Out.there | apply Take.skip | exact Take.pre _ _ | apply Out.app))⟩
                    · try simp only [decide_eq_true_eq, decide_eq_false_iff_not, Bool.not_eq_true', Bool.not_eq_false', beq_iff_eq, bne_iff_ne, beq_eq_false_iff_ne, bne_eq_false_iff_eq, Int.not_lt, Int.not_le, gt_iff_lt, ge_iff_le, ne_eq] at h9
                      refine X_skip ?_
                      refine inBlk_normal ?_
                      refine thenX_normal ?_
                      refine X_region ?_
                      refine XL_det .no (D_pure rfl) rfl ?_
                      refine XL_det .no (D_add rfl rfl (by omega) (by omega)) rfl ?_
                      refine XL_det .no (D_pure rfl) rfl ?_
                      refine XL_nil ?_
                      rw [show encSeen (⟨(seeN x.tasks.l w s i).lg, (seeN x.tasks.l w s i).dn + 1, (seeN x.tasks.l w s i).lt || (ranC x.tasks.l w s i).late⟩ : SeenS) = encSeen (seeN x.tasks.l w s (i + 1)) from by rw [seeN_t h7 hk]; show encSeen ⟨_, _, _⟩ = encSeen ⟨_, _, _⟩; rw [Int.max_eq_left h9, upd_self]]
                      refine loopQ_next (i + 1, q3) ?_ ?_ ?_ ?_
                      · (try dsimp only); exact ⟨by omega, hL5, hq3⟩
                      · (try dsimp only); omega
                      · refine ⟨?_, ?_, ?_, ?_, ?_, ?_, ?_, ?_, ?_, ?_, trivial⟩ <;> rfl
                      · (try dsimp only); exact ⟨_, (by repeat first | (with_reducible first | exact .nil _ | exact .here _ _) | exact .here _ _ | (with_reducible first | exact Take.self _ | apply Take.cons | apply Out.there | apply Take.skip | exact Take.pre _ _ | apply Out.app))⟩
                  · try simp only [decide_eq_true_eq, decide_eq_false_iff_not, Bool.not_eq_true', Bool.not_eq_false', beq_iff_eq, bne_iff_ne, beq_eq_false_iff_ne, bne_eq_false_iff_eq, Int.not_lt, Int.not_le, gt_iff_lt, ge_iff_le, ne_eq] at h8
                    refine XL_det (.yes 105 rfl rfl rfl) (D_fld rfl fld_76_5 (o' := 5) rfl) rfl ?_
                    refine XL_det (.yes 105 rfl rfl rfl) (D_ldo (v := .bool (ranC x.tasks.l w s i).late) rfl (by with_reducible repeat first | exact .here _ _ | apply Out.there | apply Out.app) tk_4 (by rfl)) rfl ?_
                    refine XL_det .no (D_pure rfl) rfl ?_
                    refine XL_det .no (D_fld rfl fld_86_2 (o' := 17) rfl) rfl ?_
                    refine XL_efd .no (F_st (k := 17) (cs' := encSeen (⟨(seeN x.tasks.l w s i).lg, (seeN x.tasks.l w s i).dn + 1, (seeN x.tasks.l w s i).lt || (ranC x.tasks.l w s i).late⟩ : SeenS)) rfl rfl rfl (by with_reducible repeat first | exact .here _ _ | apply Out.there | apply Out.app) tk_4 (seen_blt (by omega)) ((seen_setlt (p := (⟨(seeN x.tasks.l w s i).lg, (seeN x.tasks.l w s i).dn + 1, (seeN x.tasks.l w s i).lt⟩ : SeenS))).trans (by rw [h8, Bool.false_or]))) ?_
                    refine XL_then ?_
                    refine X_seq ?_
                    refine X_draw [blk c5 (encRr (ranC x.tasks.l w s i)) 76, blk b4 (encSeen (⟨(seeN x.tasks.l w s i).lg, (seeN x.tasks.l w s i).dn + 1, (seeN x.tasks.l w s i).lt || (ranC x.tasks.l w s i).late⟩ : SeenS)) 86] mixed (by with_reducible repeat first | exact .nil _ | exact .here _ _ | exact Take.self _ | apply Take.cons | apply Out.there | apply Take.skip | exact Take.pre _ _ | apply Out.app) ?_
                    refine XA_detp 0 rfl (by kernel_rfl) (by kernel_rfl) (by kernel_rfl) (fun _ _ _ _ h => h) .no (D_fldP rfl fld_76_3 (o' := 3) rfl) rfl ?_
                    refine XA_det 1 rfl (by kernel_rfl) (by kernel_rfl) (by kernel_rfl) (by kernel_rfl) (fun _ _ _ _ h => h) .no (D_ldo (v := .int .i64 (ranC x.tasks.l w s i).within) rfl (by with_reducible repeat first | exact .here _ _ | apply Out.there | apply Out.app) tk_3 (by rfl)) rfl ?_
                    refine XA_detp 2 rfl (by kernel_rfl) (by kernel_rfl) (by kernel_rfl) (fun _ _ _ _ h => h) .no (D_fldP rfl fld_76_0 (o' := 0) rfl) rfl ?_
                    refine XA_det 3 rfl (by kernel_rfl) (by kernel_rfl) (by kernel_rfl) (by kernel_rfl) (fun _ _ _ _ h => h) .no (D_ldo (v := .int .i64 (k : Int)) rfl (by with_reducible repeat first | exact .here _ _ | apply Out.there | apply Out.app) tk_3 (by rw [← hk]; rfl)) rfl ?_
                    refine XA_detp 4 rfl (by kernel_rfl) (by kernel_rfl) (by kernel_rfl) (fun _ _ _ _ h => h) .no (D_fldP rfl fld_86_0 (o' := 0) rfl) rfl ?_
                    refine XA_detp 5 rfl (by kernel_rfl) (by kernel_rfl) (by kernel_rfl) (fun _ _ _ _ h => h) .no (D_idxAP rfl rfl arr_38 rfl (by omega) rfl) rfl ?_
                    refine XA_det 6 rfl (by kernel_rfl) (by kernel_rfl) (by kernel_rfl) (by kernel_rfl) (fun _ _ _ _ h => h) .no (D_ldo (v := .int .i64 ((seeN x.tasks.l w s i).lg k)) rfl (by with_reducible repeat first | exact .here _ _ | apply Out.there | apply Out.app) tk_3 (seen_lg (p := (⟨(seeN x.tasks.l w s i).lg, (seeN x.tasks.l w s i).dn + 1, (seeN x.tasks.l w s i).lt || (ranC x.tasks.l w s i).late⟩ : SeenS)) hk16)) rfl ?_
                    refine XA_detp 7 rfl (by kernel_rfl) (by kernel_rfl) (by kernel_rfl) (fun _ _ _ _ h => h) .no (D_pureP rfl) rfl ?_
                    refine XA_done (by kernel_rfl) ?_
                    try simp only [List.cons_append, List.nil_append, List.append_nil]
                    refine thenX_normal ?_
                    refine X_cond rfl (fun h10 => ?_) (fun h10 => ?_)
                    · try simp only [decide_eq_true_eq, decide_eq_false_iff_not, Bool.not_eq_true', Bool.not_eq_false', beq_iff_eq, bne_iff_ne, beq_eq_false_iff_ne, bne_eq_false_iff_eq, Int.not_lt, Int.not_le, gt_iff_lt, ge_iff_le, ne_eq] at h10
                      refine X_region ?_
                      refine XL_det .no (D_fld rfl fld_76_0 (o' := 0) rfl) rfl ?_
                      refine XL_det .no (D_ldo (v := .int .i64 (k : Int)) rfl (by with_reducible repeat first | exact .here _ _ | apply Out.there | apply Out.app) tk_3 (by rw [← hk]; rfl)) rfl ?_
                      refine XL_det .no (D_fld rfl fld_76_3 (o' := 3) rfl) rfl ?_
                      refine XL_det .no (D_ldo (v := .int .i64 (ranC x.tasks.l w s i).within) rfl (by with_reducible repeat first | exact .here _ _ | apply Out.there | apply Out.app) tk_3 (by rfl)) rfl ?_
                      refine XL_det .no (D_fld rfl fld_86_0 (o' := 0) rfl) rfl ?_
                      refine XL_det .no (D_idxA rfl rfl arr_38 rfl (by omega) rfl) rfl ?_
                      refine XL_efd .no (F_st (k := 0 + k * 1) (cs' := encSeen (⟨upd (seeN x.tasks.l w s i).lg k (ranC x.tasks.l w s i).within, (seeN x.tasks.l w s i).dn + 1, (seeN x.tasks.l w s i).lt || (ranC x.tasks.l w s i).late⟩ : SeenS)) rfl rfl rfl (by with_reducible repeat first | exact .here _ _ | apply Out.there | apply Out.app) tk_3 (seen_blt (by omega)) (seen_setlg (p := (⟨(seeN x.tasks.l w s i).lg, (seeN x.tasks.l w s i).dn + 1, (seeN x.tasks.l w s i).lt || (ranC x.tasks.l w s i).late⟩ : SeenS)) hk16)) ?_
                      refine XL_nil ?_
                      refine inBlk_normal ?_
                      refine thenX_normal ?_
                      refine X_region ?_
                      refine XL_det .no (D_pure rfl) rfl ?_
                      refine XL_det .no (D_add rfl rfl (by omega) (by omega)) rfl ?_
                      refine XL_det .no (D_pure rfl) rfl ?_
                      refine XL_nil ?_
                      rw [show encSeen (⟨upd (seeN x.tasks.l w s i).lg k (ranC x.tasks.l w s i).within, (seeN x.tasks.l w s i).dn + 1, (seeN x.tasks.l w s i).lt || (ranC x.tasks.l w s i).late⟩ : SeenS) = encSeen (seeN x.tasks.l w s (i + 1)) from by rw [seeN_t h7 hk]; show encSeen ⟨_, _, _⟩ = encSeen ⟨_, _, _⟩; rw [Int.max_eq_right (Int.le_of_lt h10)]]
                      refine loopQ_next (i + 1, q3) ?_ ?_ ?_ ?_
                      · (try dsimp only); exact ⟨by omega, hL5, hq3⟩
                      · (try dsimp only); omega
                      · refine ⟨?_, ?_, ?_, ?_, ?_, ?_, ?_, ?_, ?_, ?_, trivial⟩ <;> rfl
                      · (try dsimp only); exact ⟨_, (by repeat first | (with_reducible first | exact .nil _ | exact .here _ _) | exact .here _ _ | (with_reducible first | exact Take.self _ | apply Take.cons | apply Out.there | apply Take.skip | exact Take.pre _ _ | apply Out.app))⟩
                    · try simp only [decide_eq_true_eq, decide_eq_false_iff_not, Bool.not_eq_true', Bool.not_eq_false', beq_iff_eq, bne_iff_ne, beq_eq_false_iff_ne, bne_eq_false_iff_eq, Int.not_lt, Int.not_le, gt_iff_lt, ge_iff_le, ne_eq] at h10
                      refine X_skip ?_
                      refine inBlk_normal ?_
                      refine thenX_normal ?_
                      refine X_region ?_
                      refine XL_det .no (D_pure rfl) rfl ?_
                      refine XL_det .no (D_add rfl rfl (by omega) (by omega)) rfl ?_
                      refine XL_det .no (D_pure rfl) rfl ?_
                      refine XL_nil ?_
                      rw [show encSeen (⟨(seeN x.tasks.l w s i).lg, (seeN x.tasks.l w s i).dn + 1, (seeN x.tasks.l w s i).lt || (ranC x.tasks.l w s i).late⟩ : SeenS) = encSeen (seeN x.tasks.l w s (i + 1)) from by rw [seeN_t h7 hk]; show encSeen ⟨_, _, _⟩ = encSeen ⟨_, _, _⟩; rw [Int.max_eq_left h10, upd_self]]
                      refine loopQ_next (i + 1, q3) ?_ ?_ ?_ ?_
                      · (try dsimp only); exact ⟨by omega, hL5, hq3⟩
                      · (try dsimp only); omega
                      · refine ⟨?_, ?_, ?_, ?_, ?_, ?_, ?_, ?_, ?_, ?_, trivial⟩ <;> rfl
                      · (try dsimp only); exact ⟨_, (by repeat first | (with_reducible first | exact .nil _ | exact .here _ _) | exact .here _ _ | (with_reducible first | exact Take.self _ | apply Take.cons | apply Out.there | apply Take.skip | exact Take.pre _ _ | apply Out.app))⟩
                · try simp only [decide_eq_true_eq, decide_eq_false_iff_not, Bool.not_eq_true', Bool.not_eq_false', beq_iff_eq, bne_iff_ne, beq_eq_false_iff_ne, bne_eq_false_iff_eq, Int.not_lt, Int.not_le, gt_iff_lt, ge_iff_le, ne_eq] at h7
                  refine X_skip ?_
                  refine inBlk_normal ?_
                  refine thenX_normal ?_
                  refine X_region ?_
                  refine XL_det .no (D_pure rfl) rfl ?_
                  refine XL_det .no (D_add rfl rfl (by omega) (by omega)) rfl ?_
                  refine XL_det .no (D_pure rfl) rfl ?_
                  refine XL_nil ?_
                  rw [show encSeen (seeN x.tasks.l w s i) = encSeen (seeN x.tasks.l w s (i + 1)) from by rw [seeN_f h7]]
                  refine loopQ_next (i + 1, q3) ?_ ?_ ?_ ?_
                  · (try dsimp only); exact ⟨by omega, hL5, hq3⟩
                  · (try dsimp only); omega
                  · refine ⟨?_, ?_, ?_, ?_, ?_, ?_, ?_, ?_, ?_, ?_, trivial⟩ <;> rfl
                  · (try dsimp only); exact ⟨_, (by repeat first | (with_reducible first | exact .nil _ | exact .here _ _) | exact .here _ _ | (with_reducible first | exact Take.self _ | apply Take.cons | apply Out.there | apply Take.skip | exact Take.pre _ _ | apply Out.app))⟩
          · try simp only [decide_eq_true_eq, decide_eq_false_iff_not, Bool.not_eq_true', Bool.not_eq_false', beq_iff_eq, bne_iff_ne, beq_eq_false_iff_ne, bne_eq_false_iff_eq, Int.not_lt, Int.not_le, gt_iff_lt, ge_iff_le, ne_eq] at h4
            obtain rfl : i = nT mny := by omega
            refine X_exit ?_
            refine thenX_exit ?_
            refine loopQ_exit ?_
            refine inBlk_here ?_
            refine thenX_normal ?_
            refine X_seqj (α := Unit) (fun _ => True) (fun _ => [(11, .int .i64 (idleN x.tasks.l w s (nT mny)).1), (12, .bool (idleN x.tasks.l w s (nT mny)).2), (1, .int .u32 s.toNat), (3, .pointer (some ⟨b1, 0, none⟩)), (5, .pointer (some ⟨b2, 0, none⟩)), (7, .int .u32 (wN s x.tasks.l.length).toNat), (8, .pointer (some ⟨b3, 0, none⟩)), (9, .slice a.oad a.l.length a.c), (10, .pointer (some ⟨b4, 0, none⟩))]) (fun _ => [blk b1 [.int .i64 x.res, .slice x.tasks.oad x.tasks.l.length x.tasks.c, .slice x.modes.oad x.modes.l.length x.modes.c, .slice x.edges.oad x.edges.l.length x.edges.c] 26, blk b2 (encAsk w mny) 83, blk b3 (srC q) 69, blk b4 (encSeen (seeN x.tasks.l w s (nT mny))) 86, many 16 (rowS q.jf), row (.slice a.oad a.l.length a.c) 53 6 a.l.length (a.l.flatMap encR), K, Ki]) ?_ ?_
            · skip
              refine X_seq ?_
              refine X_region ?_
              refine XL_det .no (D_pure rfl) rfl ?_
              refine XL_det .no (D_len rfl rfl slc_92) rfl ?_
              refine XL_det .no (D_pure rfl) rfl ?_
              refine XL_det .no (D_pure rfl) rfl ?_
              refine XL_split (t := 127) rfl (fun h11 => ?_) (fun h11 => ?_)
              · try simp only [decide_eq_true_eq, decide_eq_false_iff_not, Bool.not_eq_true', Bool.not_eq_false', beq_iff_eq, bne_iff_ne, beq_eq_false_iff_ne, bne_eq_false_iff_eq, Int.not_lt, Int.not_le, gt_iff_lt, ge_iff_le, ne_eq] at h11
                refine XL_det (.yes 127 rfl rfl rfl) (D_pure rfl) rfl ?_
                refine XL_det (.yes 127 rfl rfl rfl) (D_len rfl rfl slc_92) rfl ?_
                refine XL_det (.yes 127 rfl rfl rfl) (D_fld rfl fld_83_1 (o' := 17) rfl) rfl ?_
                refine XL_det (.yes 127 rfl rfl rfl) (D_ldo (v := .int .i64 mny) rfl (by with_reducible repeat first | exact .here _ _ | apply Out.there | apply Out.app) tk_3 (ask_m)) rfl ?_
                refine XL_det (.yes 127 rfl rfl rfl) (D_pure (v := .bool false) (bfn (by omega))) rfl ?_
                refine XL_det .no (D_pure rfl) rfl ?_
                refine XL_det .no (D_pure rfl) rfl ?_
                refine XL_det (.yes 134 rfl rfl rfl) (D_pure rfl) rfl ?_
                refine XL_det (.yes 134 rfl rfl rfl) (D_len rfl rfl slc_92) rfl ?_
                refine XL_det (.yes 134 rfl rfl rfl) (D_pure rfl) rfl ?_
                refine XL_det (.yes 134 rfl rfl rfl) (D_pure rfl) rfl ?_
                refine XL_split (t := 138) rfl (fun h12 => ?_) (fun h12 => ?_)
                · try simp only [decide_eq_true_eq, decide_eq_false_iff_not, Bool.not_eq_true', Bool.not_eq_false', beq_iff_eq, bne_iff_ne, beq_eq_false_iff_ne, bne_eq_false_iff_eq, Int.not_lt, Int.not_le, gt_iff_lt, ge_iff_le, ne_eq] at h12
                  refine XL_det (.yes 138 rfl rfl rfl) (D_ldso (vs := [.int .i64 x.res, .slice x.tasks.oad x.tasks.l.length x.tasks.c, .slice x.modes.oad x.modes.l.length x.modes.c, .slice x.edges.oad x.edges.l.length x.edges.c]) rfl (by with_reducible repeat first | exact .here _ _ | apply Out.there | apply Out.app) tk_26 rfl (by rfl)) rfl ?_
                  refine XL_det (.yes 138 rfl rfl rfl) (D_pure rfl) rfl ?_
                  refine XL_det (.yes 138 rfl rfl rfl) (D_fld rfl fld_83_0 (o' := 0) rfl) rfl ?_
                  refine XL_det (.yes 138 rfl rfl rfl) (D_ldso (vs := encWay w) rfl (by with_reducible repeat first | exact .here _ _ | apply Out.there | apply Out.app) tk_81 rfl (by rfl)) rfl ?_
                  refine XL_det (.yes 138 rfl rfl rfl) (D_fld rfl fld_83_1 (o' := 17) rfl) rfl ?_
                  refine XL_det (.yes 138 rfl rfl rfl) (D_ldo (v := .int .i64 mny) rfl (by with_reducible repeat first | exact .here _ _ | apply Out.there | apply Out.app) tk_3 (ask_m)) rfl ?_
                  refine XL_call (.yes 138 rfl rfl rfl) en_40 rfl (lticks x hx hT s w hw mny 1 (by omega) hK hd) (by with_reducible repeat first | exact .nil _ | exact .here _ _ | exact Take.self _ | apply Take.cons | apply Out.there | apply Take.skip | exact Take.pre _ _ | apply Out.app) rfl ?_
                  rintro _ _ ⟨a1, ⟨ha1, ha1o⟩, rfl, rfl⟩
                  simp only [List.cons_append, List.nil_append]
                  have hal1 : a1.l.length = 1 := by rw [ha1]; simp [ranL]; omega
                  refine XL_det (.yes 138 rfl rfl rfl) (D_len rfl rfl slc_92) rfl ?_
                  refine XL_det (.yes 138 rfl rfl rfl) (D_pure (v := .bool false) (bfn (by omega))) rfl ?_
                  refine XL_det (.yes 134 rfl rfl rfl) (D_pure rfl) rfl ?_
                  refine XL_det .no (D_pure rfl) rfl ?_
                  refine XL_then ?_
                  refine X_cond_f rfl rfl ?_
                  refine X_skip ?_
                  refine joinQ_normal () ?_ ?_ ?_
                  · trivial
                  · refine ⟨?_, ?_, ?_, ?_, ?_, ?_, ?_, ?_, ?_, trivial⟩ <;> rfl
                  · exact ⟨_, (by with_reducible repeat first | exact .nil _ | exact .here _ _ | exact Take.self _ | apply Take.cons | apply Out.there | apply Take.skip | exact Take.pre _ _ | apply Out.app)⟩
                · try simp only [decide_eq_true_eq, decide_eq_false_iff_not, Bool.not_eq_true', Bool.not_eq_false', beq_iff_eq, bne_iff_ne, beq_eq_false_iff_ne, bne_eq_false_iff_eq, Int.not_lt, Int.not_le, gt_iff_lt, ge_iff_le, ne_eq] at h12
                  refine XL_skip 138 rfl rfl rfl rfl rfl ?_
                  refine XL_skip 138 rfl rfl rfl rfl rfl ?_
                  refine XL_skip 138 rfl rfl rfl rfl rfl ?_
                  refine XL_skip 138 rfl rfl rfl rfl rfl ?_
                  refine XL_skip 138 rfl rfl rfl rfl rfl ?_
                  refine XL_skip 138 rfl rfl rfl rfl rfl ?_
                  refine XL_skip 138 rfl rfl rfl rfl rfl ?_
                  refine XL_skip 138 rfl rfl rfl rfl rfl ?_
                  refine XL_skip 138 rfl rfl rfl rfl rfl ?_
                  refine XL_det (.yes 134 rfl rfl rfl) (D_pure rfl) rfl ?_
                  refine XL_det .no (D_pure rfl) rfl ?_
                  refine XL_then ?_
                  refine X_cond_f rfl rfl ?_
                  refine X_skip ?_
                  refine joinQ_normal () ?_ ?_ ?_
                  · trivial
                  · refine ⟨?_, ?_, ?_, ?_, ?_, ?_, ?_, ?_, ?_, trivial⟩ <;> rfl
                  · exact ⟨_, (by with_reducible repeat first | exact .nil _ | exact .here _ _ | exact Take.self _ | apply Take.cons | apply Out.there | apply Take.skip | exact Take.pre _ _ | apply Out.app)⟩
              · try simp only [decide_eq_true_eq, decide_eq_false_iff_not, Bool.not_eq_true', Bool.not_eq_false', beq_iff_eq, bne_iff_ne, beq_eq_false_iff_ne, bne_eq_false_iff_eq, Int.not_lt, Int.not_le, gt_iff_lt, ge_iff_le, ne_eq] at h11
                refine XL_skip 127 rfl rfl rfl rfl rfl ?_
                refine XL_skip 127 rfl rfl rfl rfl rfl ?_
                refine XL_skip 127 rfl rfl rfl rfl rfl ?_
                refine XL_skip 127 rfl rfl rfl rfl rfl ?_
                refine XL_skip 127 rfl rfl rfl rfl rfl ?_
                refine XL_det .no (D_pure rfl) rfl ?_
                refine XL_det .no (D_pure rfl) rfl ?_
                refine XL_det (.yes 134 rfl rfl rfl) (D_pure rfl) rfl ?_
                refine XL_det (.yes 134 rfl rfl rfl) (D_len rfl rfl slc_92) rfl ?_
                refine XL_det (.yes 134 rfl rfl rfl) (D_pure rfl) rfl ?_
                refine XL_det (.yes 134 rfl rfl rfl) (D_pure rfl) rfl ?_
                refine XL_split (t := 138) rfl (fun h13 => ?_) (fun h13 => ?_)
                · try simp only [decide_eq_true_eq, decide_eq_false_iff_not, Bool.not_eq_true', Bool.not_eq_false', beq_iff_eq, bne_iff_ne, beq_eq_false_iff_ne, bne_eq_false_iff_eq, Int.not_lt, Int.not_le, gt_iff_lt, ge_iff_le, ne_eq] at h13
                  refine XL_det (.yes 138 rfl rfl rfl) (D_ldso (vs := [.int .i64 x.res, .slice x.tasks.oad x.tasks.l.length x.tasks.c, .slice x.modes.oad x.modes.l.length x.modes.c, .slice x.edges.oad x.edges.l.length x.edges.c]) rfl (by with_reducible repeat first | exact .here _ _ | apply Out.there | apply Out.app) tk_26 rfl (by rfl)) rfl ?_
                  refine XL_det (.yes 138 rfl rfl rfl) (D_pure rfl) rfl ?_
                  refine XL_det (.yes 138 rfl rfl rfl) (D_fld rfl fld_83_0 (o' := 0) rfl) rfl ?_
                  refine XL_det (.yes 138 rfl rfl rfl) (D_ldso (vs := encWay w) rfl (by with_reducible repeat first | exact .here _ _ | apply Out.there | apply Out.app) tk_81 rfl (by rfl)) rfl ?_
                  refine XL_det (.yes 138 rfl rfl rfl) (D_fld rfl fld_83_1 (o' := 17) rfl) rfl ?_
                  refine XL_det (.yes 138 rfl rfl rfl) (D_ldo (v := .int .i64 mny) rfl (by with_reducible repeat first | exact .here _ _ | apply Out.there | apply Out.app) tk_3 (ask_m)) rfl ?_
                  refine XL_call (.yes 138 rfl rfl rfl) en_40 rfl (lticks x hx hT s w hw mny 1 (by omega) hK hd) (by with_reducible repeat first | exact .nil _ | exact .here _ _ | exact Take.self _ | apply Take.cons | apply Out.there | apply Take.skip | exact Take.pre _ _ | apply Out.app) rfl ?_
                  rintro _ _ ⟨a1, ⟨ha1, ha1o⟩, rfl, rfl⟩
                  simp only [List.cons_append, List.nil_append]
                  have hal1 : a1.l.length = 1 := by rw [ha1]; simp [ranL]; omega
                  refine XL_det (.yes 138 rfl rfl rfl) (D_len rfl rfl slc_92) rfl ?_
                  refine XL_det (.yes 138 rfl rfl rfl) (D_pure (v := .bool false) (bfn (by omega))) rfl ?_
                  refine XL_det (.yes 134 rfl rfl rfl) (D_pure rfl) rfl ?_
                  refine XL_det .no (D_pure rfl) rfl ?_
                  refine XL_then ?_
                  refine X_cond_f rfl rfl ?_
                  refine X_skip ?_
                  refine joinQ_normal () ?_ ?_ ?_
                  · trivial
                  · refine ⟨?_, ?_, ?_, ?_, ?_, ?_, ?_, ?_, ?_, trivial⟩ <;> rfl
                  · exact ⟨_, (by with_reducible repeat first | exact .nil _ | exact .here _ _ | exact Take.self _ | apply Take.cons | apply Out.there | apply Take.skip | exact Take.pre _ _ | apply Out.app)⟩
                · try simp only [decide_eq_true_eq, decide_eq_false_iff_not, Bool.not_eq_true', Bool.not_eq_false', beq_iff_eq, bne_iff_ne, beq_eq_false_iff_ne, bne_eq_false_iff_eq, Int.not_lt, Int.not_le, gt_iff_lt, ge_iff_le, ne_eq] at h13
                  refine XL_skip 138 rfl rfl rfl rfl rfl ?_
                  refine XL_skip 138 rfl rfl rfl rfl rfl ?_
                  refine XL_skip 138 rfl rfl rfl rfl rfl ?_
                  refine XL_skip 138 rfl rfl rfl rfl rfl ?_
                  refine XL_skip 138 rfl rfl rfl rfl rfl ?_
                  refine XL_skip 138 rfl rfl rfl rfl rfl ?_
                  refine XL_skip 138 rfl rfl rfl rfl rfl ?_
                  refine XL_skip 138 rfl rfl rfl rfl rfl ?_
                  refine XL_skip 138 rfl rfl rfl rfl rfl ?_
                  refine XL_det (.yes 134 rfl rfl rfl) (D_pure rfl) rfl ?_
                  refine XL_det .no (D_pure rfl) rfl ?_
                  refine XL_then ?_
                  refine X_cond_f rfl rfl ?_
                  refine X_skip ?_
                  refine joinQ_normal () ?_ ?_ ?_
                  · trivial
                  · refine ⟨?_, ?_, ?_, ?_, ?_, ?_, ?_, ?_, ?_, trivial⟩ <;> rfl
                  · exact ⟨_, (by with_reducible repeat first | exact .nil _ | exact .here _ _ | exact Take.self _ | apply Take.cons | apply Out.there | apply Take.skip | exact Take.pre _ _ | apply Out.app)⟩
            · rintro _ _
              refine X_seq ?_
              refine X_region ?_
              refine XL_det .no (D_ldso (vs := [.int .i64 x.res, .slice x.tasks.oad x.tasks.l.length x.tasks.c, .slice x.modes.oad x.modes.l.length x.modes.c, .slice x.edges.oad x.edges.l.length x.edges.c]) rfl (by with_reducible repeat first | exact .here _ _ | apply Out.there | apply Out.app) tk_26 rfl (by rfl)) rfl ?_
              refine XL_det .no (D_pure rfl) rfl ?_
              refine XL_det .no (D_fld rfl fld_83_0 (o' := 0) rfl) rfl ?_
              refine XL_det .no (D_ldso (vs := encWay w) rfl (by with_reducible repeat first | exact .here _ _ | apply Out.there | apply Out.app) tk_81 rfl (by rfl)) rfl ?_
              refine XL_det .no (D_fld rfl fld_83_1 (o' := 17) rfl) rfl ?_
              refine XL_det .no (D_ldo (v := .int .i64 mny) rfl (by with_reducible repeat first | exact .here _ _ | apply Out.there | apply Out.app) tk_3 (ask_m)) rfl ?_
              refine XL_callk .no en_43 rfl (wIdle x hx hT s w hw mny hK hd) (by with_reducible repeat first | exact .nil _ | exact .here _ _ | exact Take.self _ | apply Take.cons | apply Out.there | apply Take.skip | exact Take.pre _ _ | apply Out.app) rfl ?_
              refine XL_det .no (D_pure rfl) rfl ?_
              refine XL_det .no (D_pure (v := .int .i64 (idleN x.tasks.l w s (nT mny)).1) rfl) rfl ?_
              refine XL_det .no (D_pure (v := .bool (idleN x.tasks.l w s (nT mny)).2) rfl) rfl ?_
              refine XL_det .no (D_pure rfl) rfl ?_
              refine XL_det .no (D_pure rfl) rfl ?_
              refine XL_then ?_
              refine X_seq ?_
              refine X_draw [blk b1 [.int .i64 x.res, .slice x.tasks.oad x.tasks.l.length x.tasks.c, .slice x.modes.oad x.modes.l.length x.modes.c, .slice x.edges.oad x.edges.l.length x.edges.c] 26, blk b2 (encAsk w mny) 83, blk b4 (encSeen (seeN x.tasks.l w s (nT mny))) 86] mixed (by with_reducible repeat first | exact .nil _ | exact .here _ _ | exact Take.self _ | apply Take.cons | apply Out.there | apply Take.skip | exact Take.pre _ _ | apply Out.app) ?_
              refine XA_det 0 rfl (by kernel_rfl) (by kernel_rfl) (by kernel_rfl) (by kernel_rfl) (fun _ _ _ _ h => h) .no (D_ldso (vs := [.int .i64 x.res, .slice x.tasks.oad x.tasks.l.length x.tasks.c, .slice x.modes.oad x.modes.l.length x.modes.c, .slice x.edges.oad x.edges.l.length x.edges.c]) rfl (by with_reducible repeat first | exact .here _ _ | apply Out.there | apply Out.app) tk_26 rfl (by rfl)) rfl ?_
              refine XA_detp 1 rfl (by kernel_rfl) (by kernel_rfl) (by kernel_rfl) (fun _ _ _ _ h => h) .no (D_pureP rfl) rfl ?_
              refine XA_detp 2 rfl (by kernel_rfl) (by kernel_rfl) (by kernel_rfl) (fun _ _ _ _ h => h) .no (D_fldP rfl fld_83_0 (o' := 0) rfl) rfl ?_
              refine XA_det 3 rfl (by kernel_rfl) (by kernel_rfl) (by kernel_rfl) (by kernel_rfl) (fun _ _ _ _ h => h) .no (D_ldso (vs := encWay w) rfl (by with_reducible repeat first | exact .here _ _ | apply Out.there | apply Out.app) tk_81 rfl (by rfl)) rfl ?_
              refine XA_detp 4 rfl (by kernel_rfl) (by kernel_rfl) (by kernel_rfl) (fun _ _ _ _ h => h) .no (D_fldP rfl fld_83_1 (o' := 17) rfl) rfl ?_
              refine XA_det 5 rfl (by kernel_rfl) (by kernel_rfl) (by kernel_rfl) (by kernel_rfl) (fun _ _ _ _ h => h) .no (D_ldo (v := .int .i64 mny) rfl (by with_reducible repeat first | exact .here _ _ | apply Out.there | apply Out.app) tk_3 (ask_m)) rfl ?_
              refine XA_det 7 rfl (by kernel_rfl) (by kernel_rfl) (by kernel_rfl) (by kernel_rfl) (fun _ _ _ _ h => h) .no (D_ldso rfl (by with_reducible repeat first | exact .here _ _ | apply Out.there | apply Out.app) tk_86 rfl (by rfl)) rfl ?_
              refine XA_one 6 (by kernel_rfl) ?_
              refine XO_callk rfl .no en_35 rfl (by with_reducible repeat first | exact .nil _ | apply App.cons) (wLook x hx hT s w hw mny hK hd) (by with_reducible repeat first | exact .nil _ | exact .here _ _ | exact Take.self _ | apply Take.cons | apply Out.there | apply Take.skip | exact Take.pre _ _ | apply Out.app) rfl ?_
              refine XA_det 8 rfl (by kernel_rfl) (by kernel_rfl) (by kernel_rfl) (by kernel_rfl) (fun _ _ _ _ h => h) .no (D_eqs (b := true) rfl rfl eqk_86 eqg_86 rfl rfl rfl (seen_eq _)) rfl ?_
              refine XA_detp 9 rfl (by kernel_rfl) (by kernel_rfl) (by kernel_rfl) (fun _ _ _ _ h => h) .no (D_pureP rfl) rfl ?_
              refine XA_detp 10 rfl (by kernel_rfl) (by kernel_rfl) (by kernel_rfl) (fun _ _ _ _ h => h) (.yes 169 rfl rfl rfl) (D_pureP rfl) rfl ?_
              refine XA_detp 11 rfl (by kernel_rfl) (by kernel_rfl) (by kernel_rfl) (fun _ _ _ _ h => h) (.yes 169 rfl rfl rfl) (D_pureP rfl) rfl ?_
              refine XA_detp 12 rfl (by kernel_rfl) (by kernel_rfl) (by kernel_rfl) (fun _ _ _ _ h => h) (.yes 169 rfl rfl rfl) (D_pureP (v := .bool true) (bt rfl)) rfl ?_
              refine XA_detp 13 rfl (by kernel_rfl) (by kernel_rfl) (by kernel_rfl) (fun _ _ _ _ h => h) .no (D_pureP rfl) rfl ?_
              refine XA_detp 14 rfl (by kernel_rfl) (by kernel_rfl) (by kernel_rfl) (fun _ _ _ _ h => h) .no (D_pureP rfl) rfl ?_
              refine XA_detp 15 rfl (by kernel_rfl) (by kernel_rfl) (by kernel_rfl) (fun _ _ _ _ h => h) (.yes 174 rfl rfl rfl) (D_pureP rfl) rfl ?_
              refine XA_detp 16 rfl (by kernel_rfl) (by kernel_rfl) (by kernel_rfl) (fun _ _ _ _ h => h) (.yes 174 rfl rfl rfl) (D_pureP rfl) rfl ?_
              refine XA_det 17 rfl (by kernel_rfl) (by kernel_rfl) (by kernel_rfl) (by kernel_rfl) (fun _ _ _ _ h => h) (.yes 174 rfl rfl rfl) (D_eqb (b := true) rfl rfl ub_4 (by simp)) rfl ?_
              refine XA_detp 18 rfl (by kernel_rfl) (by kernel_rfl) (by kernel_rfl) (fun _ _ _ _ h => h) .no (D_pureP rfl) rfl ?_
              refine XA_detp 19 rfl (by kernel_rfl) (by kernel_rfl) (by kernel_rfl) (fun _ _ _ _ h => h) .no (D_pureP rfl) rfl ?_
              refine XA_one 20 (by kernel_rfl) ?_
              refine XO_callk rfl (.yes 179 rfl rfl rfl) en_38 rfl (by with_reducible repeat first | exact .nil _ | apply App.cons) (alive45 hK hd) (by with_reducible repeat first | exact .nil _ | exact .here _ _ | exact Take.self _ | apply Take.cons | apply Out.there | apply Take.skip | exact Take.pre _ _ | apply Out.app) rfl ?_
              refine XA_detp 21 rfl (by kernel_rfl) (by kernel_rfl) (by kernel_rfl) (fun _ _ _ _ h => h) .no (D_pureP rfl) rfl ?_
              refine XA_detp 22 rfl (by kernel_rfl) (by kernel_rfl) (by kernel_rfl) (fun _ _ _ _ h => h) .no (D_pureP rfl) rfl ?_
              refine XA_done (by kernel_rfl) ?_
              try simp only [List.cons_append, List.nil_append, List.append_nil]
              refine thenX_normal ?_
              refine X_ret ?_
              refine ret_ok (.nil _) (res_tmp rfl rfl) ?_
              exact ⟨[K, Ki], ⟨rfl, rfl⟩, _, (by repeat first | (with_reducible first | exact .nil _ | exact .here _ _) | exact .here _ _ | (with_reducible first | exact Take.self _ | apply Take.cons | apply Out.there | apply Take.skip | exact Take.pre _ _ | apply Out.app))⟩

end Go.Proofs.YtkkdchgnknpceaaDoor
end

section
namespace Go.Proofs.YtkkdchgnknpceaaDoor
open Go Go.Sl Go.ChangeShapes Go.WideShapes Go.ChangeAt Go.RowKit
set_option linter.unusedVariables false
abbrev tabT : Nat := 154
theorem ui_int : Tryd.prog.underlying 3 = some (.int .i64) := by kernel_rfl
theorem eqk_164 : eqKinds Tryd.prog 12 164 = some [some .i64, some .i64] := by kernel_rfl
theorem eqk_168 : eqKinds Tryd.prog 12 168 = some [some .i64, some .i64, some .i64, some .i64, some .i64, some .i64, some .i64, some .i64, some .i64, some .i64, some .i64, some .i64, some .i64, some .i64, some .i64, some .i64, some .i64, some .i64, some .i64, some .i64, some .i64, some .i64, some .i64] := by kernel_rfl
theorem eqk_48 : eqKinds Tryd.prog 12 48 = some [some .i64, some .i64, some .i64, some .i64, some .i64, some .i64, some .i64, some .i64, some .i64, some .i64, some .i64] := by kernel_rfl
theorem eqk_81 : eqKinds Tryd.prog 12 81 = some [some .i64, some .i64, some .i64, some .i64, some .i64, some .i64, some .i64, some .i64, some .i64, some .i64, some .i64, some .i64, some .i64, some .i64, some .i64, some .i64, some .i64] := by kernel_rfl
theorem eqk_83 : eqKinds Tryd.prog 12 83 = some [some .i64, some .i64, some .i64, some .i64, some .i64, some .i64, some .i64, some .i64, some .i64, some .i64, some .i64, some .i64, some .i64, some .i64, some .i64, some .i64, some .i64, some .i64] := by kernel_rfl

theorem sz_task : (Tryd.prog.info? 48).map (·.size) = some 11 := by kernel_rfl
theorem sz_edge : (Tryd.prog.info? 168).map (·.size) = some 23 := by kernel_rfl
theorem sz_q : (Tryd.prog.info? 164).map (·.size) = some 2 := by kernel_rfl
theorem sl_tasks : slcOf Tryd.prog 22 = some (48, 11) := by kernel_rfl
theorem sl_modes : slcOf Tryd.prog 23 = some (101, 2) := by kernel_rfl
theorem sl_edges : slcOf Tryd.prog 24 = some (168, 23) := by kernel_rfl
theorem sl_qs : slcOf Tryd.prog 99 = some (164, 2) := by kernel_rfl
theorem shp_img : shp Tryd.prog 26 = some [3, 22, 23, 24] := by kernel_rfl
theorem shp_mode : shp Tryd.prog 101 = some [36, 99] := by kernel_rfl
theorem ui_u32 : Tryd.prog.underlying 36 = some (.int .u32) := by kernel_rfl
/-- The fields' bounds. -/
def okT (e : Nat → Int) : Prop := fitK e 0 [some .i64, some .i64, some .i64, some .i64, some .i64, some .i64, some .i64, some .i64, some .i64, some .i64, some .i64]
def okE (e : Nat → Int) : Prop := fitK e 0 [some .i64, some .i64, some .i64, some .i64, some .i64, some .i64, some .i64, some .i64, some .i64, some .i64, some .i64, some .i64, some .i64, some .i64, some .i64, some .i64, some .i64, some .i64, some .i64, some .i64, some .i64, some .i64, some .i64]
structure Img.Ok (x : Img) : Prop where
  tasks : ∀ e ∈ x.tasks.l, okT e
  edges : ∀ e ∈ x.edges.l, okE e
theorem openImg {W : World} {v : Value} (h : ArgOk Tryd.prog W 26 v) : ∃ x : Img, v = x.v ∧ x.In (old (B := W.heap.size) W) ∧ x.Ok := by
  obtain ⟨H, enc, cs, rfl, p0, q0, rfl, ⟨n0, x0, h0⟩, p1, q1, rfl, ⟨n1, x1, h1⟩, p2, q2, rfl, ⟨n2, x2, h2⟩, p3, q3, rfl, ⟨n3, x3, h3⟩, rfl⟩ := arg_struct shp_img h
  obtain ⟨res, rfl, _, _⟩ := DataW.trod_int ui_int h0
  obtain ⟨ta, rfl, t1, t2⟩ := Arr.of_trod (encA := encT) (ok := okT) sl_tasks (by decide) h1 (fun n cs x hx => flat_dec eqk_48 sz_task hx)
  obtain ⟨ed, rfl, e1, e2⟩ := Arr.of_trod (encA := encE) (ok := okE) sl_edges (by decide) h3 (fun n cs x hx => flat_dec eqk_168 sz_edge hx)
  obtain ⟨mo, rfl, m1, m2⟩ := Arr.of_trod (encA := encM) (ok := fun m => Rd (old (B := W.heap.size) W) m.q.ad (m.q.l.flatMap encQ)) sl_modes (by decide) h2 (fun n cs x hx => by
    obtain ⟨p0, q0, rfl, ⟨n0, x0, h0⟩, p1, q1, rfl, ⟨n1, x1, h1⟩, rfl⟩ := struct_parts shp_mode hx
    obtain ⟨b, rfl, _, hb⟩ := DataW.trod_int ui_u32 h0
    obtain ⟨b, rfl⟩ := u32_bv hb
    obtain ⟨q, rfl, _, q2⟩ := Arr.of_trod (encA := encQ) (ok := fun _ => True) sl_qs (by decide) h1 (fun n cs x hx => by
      obtain ⟨e, he, _⟩ := flat_dec eqk_164 sz_q hx
      exact ⟨e, he, trivial⟩)
    exact ⟨⟨b, q⟩, rfl, q2⟩)
  exact ⟨⟨res, ta, mo, ed⟩, rfl, ⟨t2, m2, e2, m1⟩, ⟨t1, e1⟩⟩
theorem sz_w : (Tryd.prog.info? 81).map (·.size) = some 17 := by kernel_rfl
theorem ag_w : isAggB Tryd.prog 81 = true := by kernel_rfl
theorem sz_ask : (Tryd.prog.info? 83).map (·.size) = some 18 := by kernel_rfl
theorem ag_ask : isAggB Tryd.prog 83 = true := by kernel_rfl
theorem ui_set : Tryd.prog.underlying 37 = some (.int .u32) := by kernel_rfl
theorem fit_at {e : Nat → Int} : ∀ {n i j : Nat}, fitK e i (List.replicate n (some .i64)) → j < n → -9223372036854775808 ≤ e (i + j) ∧ e (i + j) ≤ 9223372036854775807
  | 0, _, _, _, h => absurd h (by omega)
  | n + 1, i, 0, h, _ => i64_fit h.1
  | n + 1, i, j + 1, h, hj => by rw [show i + (j + 1) = (i + 1) + j by omega]; exact fit_at (n := n) h.2 (by omega)
theorem openWay {W : World} {v : Value} (h : ArgOk Tryd.prog W 81 v) : ∃ w : Way, v = .agg (encWay w).toArray ∧ WayOk w := by
  obtain ⟨e, rfl, hf⟩ := arg_flat eqk_81 sz_w ag_w h
  exact ⟨⟨fun k => e k, e 16⟩, rfl, ⟨fun k hk => by have := fit_at (n := 17) (i := 0) (j := k) hf (by omega); rwa [Nat.zero_add] at this⟩⟩
theorem openAsk {W : World} {v : Value} (h : ArgOk Tryd.prog W 83 v) : ∃ (w : Way) (m : Int), v = .agg (encAsk w m).toArray ∧ WayOk w := by
  obtain ⟨e, rfl, hf⟩ := arg_flat eqk_83 sz_ask ag_ask h
  exact ⟨⟨fun k => e k, e 16⟩, e 17, rfl, ⟨fun k hk => by have := fit_at (n := 18) (i := 0) (j := k) hf (by omega); rwa [Nat.zero_add] at this⟩⟩

theorem own : ownKnob Tryd.prog.godebug = none := by kernel_rfl
theorem laidOut : laidOutB Tryd.prog = true := by kernel_rfl
abbrev laidT : List (String × DataW Unit) := [("math/bits.deBruijn32tab", Rows.laid_math_bits_deBruijn32tab)]
set_option maxRecDepth 100000 in
theorem laidTab {W : World} (h : laidMetH Tryd.prog laidT W) : Rd (old (B := W.heap.size) W) ⟨0, 0, none⟩ (tab32.map fun m => .int .u8 m) := by
  rw [MakeChecks.laidMetH_plain _ _ _ (by kernel_rfl)] at h
  rw [show laidT = [("math/bits.deBruijn32tab", .agg (tab32.map fun m => .lit (.int .u8 m)))] from by kernel_rfl] at h
  exact laid_row (tab := tab32) (t := tabT) (len := 32) (e := 5) (k := .u8) (by kernel_rfl) (by kernel_rfl) (by kernel_rfl) (by kernel_rfl) (by kernel_rfl) (by decide) h
theorem door_met (os : Os) (args : Array Value) : laidMetH Tryd.prog laidT ((World.doorLaid Tryd.prog 400 os).forCall (fun _ _ => 0) ⟨#[], args, []⟩).memory :=
  laidMetH_of_parts3 (fuel := 8) (laidMet_of_run' 8 (by kernel_rfl) (by kernel_rfl)) (by kernel_rfl) (by kernel_rfl)


set_option maxRecDepth 100000 in
/-- The walk, at the arguments as the row reads them. -/
theorem walkSimulTells (W : World) (args : Array Value) (hL : laidMetH Tryd.prog laidT W) (h : ArgsOk Tryd.prog W Tryd.f7.params.toList args.toList) : Calls Tryd.prog 7 args W fun e w' => e = .returned (.bool true) ∧ Go.RowKit.Below W.heap.size W w' := by
  rw [show Tryd.f7.params.toList = [26, 37, 83] from by kernel_rfl] at h
  obtain ⟨args⟩ := args
  match args, h with
  | [v0, v1, v2], h =>
    have hK := laidTab hL
    obtain ⟨a0, a1, a2, _⟩ := h
    obtain ⟨x, rfl, hx, _⟩ := openImg a0
    obtain ⟨sm, rfl, hm⟩ := arg_int ui_set a1
    obtain ⟨s, rfl⟩ := u32_bv hm
    obtain ⟨w, m, rfl, hw⟩ := openAsk a2
    exact calls_of (old_self W) (((simulTells x hx s w hw m hK (old_dup W)).dup (.here _ _) (old_dup W)).mono fun _ _ h => h.1)

set_option maxRecDepth 100000 in
theorem liftedSimulTells (os : Os) (started : os.Started) (H : Type) (enc : TypeId × Value → H) :
    ReturnsInHanded {} Tryd.checked os 7 .any (fun w args => (Rows.simulTellsSpec.pre enc Tryd.prog Tryd.f7 [] false w args ∧ laidMetH Tryd.prog laidT w) ∧ sizedMet enc Tryd.prog Tryd.f7 (OpenSpec.ofChange Rows.simulTellsSpec) false w args) (Rows.simulTellsSpec.post enc Tryd.prog Tryd.f7 false true false false) :=
  handedL (C := Tryd.checked) (tb := 4) own started (by kernel_rfl) Tryd.func7 laidOut (by kernel_rfl) rfl
    (fun ds h => by
      have h : ds.length = 3 := h
      match ds, h with
      | [_, _, _], _ => exact ⟨rfl, rfl, rfl⟩) (by kernel_rfl) (by kernel_rfl)
    (ChangeSpec.witness_shaped (enc := enc) (C := Tryd.checked) (os := os) (X := fun w _ => laidMetH Tryd.prog laidT w) false (World.doorLaid Tryd.prog 400 os) #[.agg #[.int .i64 0, .slice none 0 0, .slice none 0 0, .slice none 0 0], .int .u32 0, .agg #[.int .i64 0, .int .i64 0, .int .i64 0, .int .i64 0, .int .i64 0, .int .i64 0, .int .i64 0, .int .i64 0, .int .i64 0, .int .i64 0, .int .i64 0, .int .i64 0, .int .i64 0, .int .i64 0, .int .i64 0, .int .i64 0, .int .i64 0, .int .i64 0]] 8 rfl (World.shaped_of_RefB (by kernel_rfl) (by kernel_rfl)) (by kernel_rfl) (by kernel_rfl) (by kernel_rfl) (door_met os _))
    (fun W args hL h => walkSimulTells W args hL h)

theorem overSimulTells : Rows.SimulTellsSaid :=
  OpenClaim.holds_of_wide 7 Tryd.f7 rfl rfl rfl rfl rfl rfl rfl ⟨rfl, rfl, rfl, rfl, rfl⟩ rfl rfl rfl rfl rfl (by kernel_rfl) Tryd.func7 (by kernel_rfl)
    (of_decide_eq_true (by kernel_rfl)) (by unfold Func.isWrapper; first | (rw [if_pos (by decide +kernel)]; kernel_rfl) | (rw [if_neg (by decide +kernel)]; exact ⟨rfl, rfl⟩))
    (fun os started H enc _ => liftedSimulTells os started H enc)

/-- The statement: the tied card. -/
theorem provedSimulTells : Rows.SimulTellsCardSaid :=
  Claim7.holds_tied_plain_at .later [] [.data] true (true, "44ef1e1e002b38ac2d72adeff89b3beb5f1b36ff56efcca0884e0dc2dba73968") false
    overSimulTells (fun _ h => by cases h) (by kernel_rfl) (fun _ h => by cases h) simulTells_row_tie rfl ⟨rfl, rfl⟩ (by kernel_rfl) rfl
    (fun f fn hf hfn => by
      obtain rfl : f = 7 := Option.some.inj ((show Tryd.prog.funcNamed "remontoir/remontoirlaw45.SimulTells" = some 7 by kernel_rfl).symm.trans hf) |>.symm
      obtain rfl : fn = Tryd.f7 := (Option.some.inj (Tryd.func7.symm.trans hfn)).symm
      exact ⟨by kernel_rfl, fun j t ht => by
        have ht : t ∈ Tryd.f7.params.toList := by simpa using Array.mem_of_getElem? ht
        rw [show Tryd.f7.params.toList = [26, 37, 83] from by kernel_rfl] at ht
        have hall : ([26, 37, 83].all fun u => !Tryd.prog.wantsStandIn u) = true := by kernel_rfl
        exact (show Tryd.prog.wantsStandIn t = false by simpa using List.all_eq_true.1 hall t ht)⟩)
    (by kernel_rfl)

#print axioms provedSimulTells
end Go.Proofs.YtkkdchgnknpceaaDoor
end
