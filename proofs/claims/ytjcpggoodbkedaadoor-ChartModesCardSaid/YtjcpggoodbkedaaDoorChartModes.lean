/- The given statement ChartModesCardSaid is proved: the row of modes shows the mode of each tick, and the load is the number of ticks in which somebody ran. Conditions: at most 500 events, ticks from 0 to 2^30, as the statement itself says them; none beside. -/
import Derived.Test.YtjcpggoodbkedaaDoorChartModesP1
import Derived.KernelRfl
import Derived.Test.YtjcpggoodbkedaaDoorProg
import Derived.Test.YtjcpggoodbkedaaDoorRows
import Derived.Test.YtjcpggoodbkedaaDoorTie
import Derived.Test.YtjcpggoodbkedaaDoorCards
import Derived.SevenTiedAt
import Derived.LaidMore
section
namespace Go.Proofs.YtjcpggoodbkedaaDoor
open Go Go.Sl
set_option linter.unusedVariables false
set_option linter.unusedSimpArgs false
set_option maxRecDepth 4000
variable {B : Nat} {K : Asrt B}
theorem en_12 : Go.Proofs.Enters Tryd.prog 12 := Go.Proofs.enters_of Tryd.func12 (by kernel_rfl) rfl
theorem en_14 : Go.Proofs.Enters Tryd.prog 14 := Go.Proofs.enters_of Tryd.func14 (by kernel_rfl) rfl
theorem en_5 : Go.Proofs.Enters Tryd.prog 5 := Go.Proofs.enters_of Tryd.func5 (by kernel_rfl) rfl
theorem en_7 : Go.Proofs.Enters Tryd.prog 7 := Go.Proofs.enters_of Tryd.func7 (by kernel_rfl) rfl

theorem rgs (n : Nat) (g : Nat → UInt8) : rg (n + 1) g = rg n g ++ [g n] := by unfold rg; rw [List.range_succ, List.map_append]; rfl
theorem bt41 {m n : Int} (h : m = n) : some (Value.bool (m == n)) = some (.bool true) := by simp [h]
theorem digB_max (m : Int) : digB (max m 0) = digB m := by unfold digB; rw [show max (max m 0) 0 = max m 0 by omega]
theorem modes_rg (m f t : Int) (l : List Ev) : rg (wid f t) (fun (j : Nat) => digB (modeAt m (f + (j : Int)) l)) = modesS m f t l := rfl
theorem rowS_rg (k f t : Int) (l : List Ev) : rg (wid f t) (fun (j : Nat) => signB k (f + (j : Int)) l) = rowS k f t l := rfl

theorem chartModes (m f t : Int) (l : Arr Ev) (hl : Rd K l.ad (l.l.flatMap encE)) (hK : Rd K ⟨0, 0, none⟩ (tab32.map fun m => .int .u8 m)) : Ctr Tryd.prog B 4 [.int .i64 m, .agg #[.int .i64 f, .int .i64 t], .slice l.oad l.l.length l.c] [K] (fun v S => v = .bool true ∧ S = [K]) := by
  refine Ctr_of_X (N := 114) Tryd.func4 rfl (by simp) rfl ?_
  intro w0 D0
  refine X_seq ?_
  refine X_region ?_
  refine XL_box (cs := [.int .i64 f, .int .i64 t]) .no rfl rfl rfl (fun b1 => ?_)
  refine XL_det .no (D_pure rfl) rfl ?_
  refine XL_then ?_
  refine X_seq ?_
  refine X_seq ?_
  refine X_region ?_
  refine XL_det .no (D_ldso (vs := [.int .i64 f, .int .i64 t]) rfl (by repeat first | with_reducible exact .here _ _ | with_reducible apply Out.there | with_reducible apply Out.app) tk_25 rfl (by rfl)) rfl ?_
  refine XL_det .no (D_pure rfl) rfl ?_
  refine XL_callk .no en_5 rfl (lright f t l hl) (by repeat first | with_reducible exact .nil _ | with_reducible exact .here _ _ | with_reducible exact Take.self _ | with_reducible apply Take.cons | with_reducible apply Out.there | with_reducible apply Take.skip | with_reducible exact Take.pre _ _ | with_reducible apply Out.app) rfl ?_
  refine XL_det .no (D_pure rfl) rfl ?_
  refine XL_then ?_
  refine X_cond rfl (fun h1 => ?_) (fun h1 => ?_)
  · try simp only [decide_eq_true_eq, decide_eq_false_iff_not, Bool.not_eq_true', Bool.not_eq_false', beq_iff_eq, bne_iff_ne, beq_eq_false_iff_ne, bne_eq_false_iff_eq, Int.not_lt, Int.not_le, gt_iff_lt, ge_iff_le, ne_eq] at h1
    refine X_seq ?_
    refine X_region ?_
    refine XL_det .no (D_pure rfl) rfl ?_
    refine XL_then ?_
    refine X_ret ?_
    refine thenX_ret ?_
    refine ret_ok (.nil _) (res_tmp rfl rfl) ?_
    exact ⟨_, ⟨rfl, rfl⟩, _, (by repeat first | with_reducible exact .nil _ | with_reducible exact .here _ _ | with_reducible exact Take.self _ | with_reducible apply Take.cons | with_reducible apply Out.there | with_reducible apply Take.skip | with_reducible exact Take.pre _ _ | with_reducible apply Out.app)⟩
  · try simp only [decide_eq_true_eq, decide_eq_false_iff_not, Bool.not_eq_true', Bool.not_eq_false', beq_iff_eq, bne_iff_ne, beq_eq_false_iff_ne, bne_eq_false_iff_eq, Int.not_lt, Int.not_le, gt_iff_lt, ge_iff_le, ne_eq] at h1
    have ht := okB_of h1
    refine X_skip ?_
    refine thenX_normal ?_
    refine X_seq ?_
    refine X_region ?_
    refine XL_bslicea encB .no slt_29 rfl (fun e17 he17 he17o => ?_)
    refine XL_det .no (D_pure rfl) rfl ?_
    refine XL_then ?_
    refine X_seq ?_
    refine X_seq ?_
    refine X_region ?_
    refine XL_det .no (D_pure rfl) rfl ?_
    refine XL_then ?_
    refine X_block ?_
    refine X_loop (α := Nat × Arr UInt8) (fun ⟨i, a⟩ => i ≤ wid f t ∧ a.l = rg i (fun (j : Nat) => digB (modeAt m (f + (j : Int)) l.l)) ∧ a.Own) (fun ⟨i, a⟩ => [(7, .slice a.oad a.l.length a.c), (8, .int .i64 (i : Int)), (0, .int .i64 m), (2, .slice l.oad l.l.length l.c), (4, .pointer (some ⟨b1, 0, none⟩))]) (fun ⟨i, a⟩ => [blk b1 [.int .i64 f, .int .i64 t] 25, row (.slice a.oad a.l.length a.c) 5 1 a.l.length (a.l.flatMap encB), K]) (fun ⟨i, a⟩ => wid f t - i) (0, e17) ?_ (by refine ⟨?_, ?_, ?_, ?_, ?_, trivial⟩ <;> rfl) (by repeat first | with_reducible exact .nil _ | with_reducible exact .here _ _ | with_reducible exact Take.self _ | with_reducible apply Take.cons | with_reducible apply Out.there | with_reducible apply Take.skip | with_reducible exact Take.pre _ _ | with_reducible apply Out.app) ?_
    · exact ⟨Nat.zero_le _, he17, he17o⟩
    · rintro ⟨i, a⟩ ⟨hi, ha, hao⟩
      dsimp only
      have hal : a.l.length = i := by rw [ha, rg_len]
      have hwl := wid_le f t
      refine X_seq ?_
      refine X_seq ?_
      refine X_region ?_
      refine XL_det .no (D_pure rfl) rfl ?_
      refine XL_det .no (D_ldso (vs := [.int .i64 f, .int .i64 t]) rfl (by repeat first | with_reducible exact .here _ _ | with_reducible apply Out.there | with_reducible apply Out.app) tk_25 rfl (by rfl)) rfl ?_
      refine XL_callv .no en_7 rfl (lwide f t ht.f0 ht.t0) rfl ?_
      refine XL_det .no (D_pure rfl) rfl ?_
      refine XL_then ?_
      refine X_cond rfl (fun h2 => ?_) (fun h2 => ?_)
      · try simp only [decide_eq_true_eq, decide_eq_false_iff_not, Bool.not_eq_true', Bool.not_eq_false', beq_iff_eq, bne_iff_ne, beq_eq_false_iff_ne, bne_eq_false_iff_eq, Int.not_lt, Int.not_le, gt_iff_lt, ge_iff_le, ne_eq] at h2
        refine X_skip ?_
        refine thenX_normal ?_
        refine X_seq ?_
        refine X_block ?_
        refine X_seq ?_
        refine X_region ?_
        refine XL_det .no (D_pure rfl) rfl ?_
        refine XL_det .no (D_pure rfl) rfl ?_
        refine XL_then ?_
        refine X_seq ?_
        refine X_seq ?_
        refine X_region ?_
        refine XL_det .no (D_pure rfl) rfl ?_
        refine XL_then ?_
        refine X_block ?_
        refine X_loop (α := Nat) (fun k => k ≤ l.l.length) (fun k => [(9, .int .i64 (modeAt m (f + (i : Int)) (l.l.take k))), (10, .int .i64 (k : Int)), (0, .int .i64 m), (2, .slice l.oad l.l.length l.c), (4, .pointer (some ⟨b1, 0, none⟩)), (7, .slice a.oad a.l.length a.c), (8, .int .i64 (i : Int))]) (fun k => [blk b1 [.int .i64 f, .int .i64 t] 25, row (.slice a.oad a.l.length a.c) 5 1 a.l.length (a.l.flatMap encB), K]) (fun k => l.l.length - k) 0 ?_ (by refine ⟨?_, ?_, ?_, ?_, ?_, ?_, ?_, trivial⟩ <;> rfl) (by repeat first | with_reducible exact .nil _ | with_reducible exact .here _ _ | with_reducible exact Take.self _ | with_reducible apply Take.cons | with_reducible apply Out.there | with_reducible apply Take.skip | with_reducible exact Take.pre _ _ | with_reducible apply Out.app) ?_
        · exact Nat.zero_le _
        · intro k hk
          have hll := ht.len
          have hff := ht.f0
          refine X_seq ?_
          refine X_seq ?_
          refine X_region ?_
          refine XL_det .no (D_pure rfl) rfl ?_
          refine XL_det .no (D_pure rfl) rfl ?_
          refine XL_det .no (D_len rfl rfl slc_26) rfl ?_
          refine XL_det .no (D_pure rfl) rfl ?_
          refine XL_then ?_
          refine X_cond rfl (fun h3 => ?_) (fun h3 => ?_)
          · try simp only [decide_eq_true_eq, decide_eq_false_iff_not, Bool.not_eq_true', Bool.not_eq_false', beq_iff_eq, bne_iff_ne, beq_eq_false_iff_ne, bne_eq_false_iff_eq, Int.not_lt, Int.not_le, gt_iff_lt, ge_iff_le, ne_eq] at h3
            obtain ⟨e, hg⟩ : ∃ e, l.l[k]? = some e := ⟨_, List.getElem?_eq_getElem (by omega)⟩
            have hev := ht.ev e (List.mem_of_getElem? hg)
            refine X_skip ?_
            refine thenX_normal ?_
            refine X_seq ?_
            refine X_block ?_
            refine X_seq ?_
            refine X_draw _ mixed (Take.self _) ?_
            refine XA_detp 0 rfl (by kernel_rfl) (by kernel_rfl) (by kernel_rfl) (fun _ _ _ _ h => h) .no (D_pureP rfl) rfl ?_
            refine XA_detp 1 rfl (by kernel_rfl) (by kernel_rfl) (by kernel_rfl) (fun _ _ _ _ h => h) .no (D_pureP rfl) rfl ?_
            refine XA_detp 2 rfl (by kernel_rfl) (by kernel_rfl) (by kernel_rfl) (fun _ _ _ _ h => h) .no (D_idxSoP rfl rfl slc_26 (l).nil0 rfl (by omega) rfl) rfl ?_
            refine XA_detp 3 rfl (by kernel_rfl) (by kernel_rfl) (by kernel_rfl) (fun _ _ _ _ h => h) .no (D_fldAP rfl fld_38_1 rfl) rfl ?_
            refine XA_det 4 rfl (by kernel_rfl) (by kernel_rfl) (by kernel_rfl) (by kernel_rfl) (fun _ _ _ _ h => h) .no (D_ela (enc := encE) (sz := 4) (i := k) (k := 1) (fun _ => rfl) rfl (by repeat first | with_reducible exact .here _ _ | with_reducible apply Out.there | with_reducible apply Out.app) hl tk_36 hg rfl) rfl ?_
            refine XA_detp 5 rfl (by kernel_rfl) (by kernel_rfl) (by kernel_rfl) (fun _ _ _ _ h => h) .no (D_pureP rfl) rfl ?_
            refine XA_detp 6 rfl (by kernel_rfl) (by kernel_rfl) (by kernel_rfl) (fun _ _ _ _ h => h) .no (D_pureP rfl) rfl ?_
            refine XA_split (t := 37) rfl (fun h4 => ?_) (fun h4 => ?_)
            · try simp only [decide_eq_true_eq, decide_eq_false_iff_not, Bool.not_eq_true', Bool.not_eq_false', beq_iff_eq, bne_iff_ne, beq_eq_false_iff_ne, bne_eq_false_iff_eq, Int.not_lt, Int.not_le, gt_iff_lt, ge_iff_le, ne_eq] at h4
              refine XA_detp 7 rfl (by kernel_rfl) (by kernel_rfl) (by kernel_rfl) (fun _ _ _ _ h => h) (.yes 37 rfl rfl rfl) (D_pureP rfl) rfl ?_
              refine XA_detp 8 rfl (by kernel_rfl) (by kernel_rfl) (by kernel_rfl) (fun _ _ _ _ h => h) (.yes 37 rfl rfl rfl) (D_pureP rfl) rfl ?_
              refine XA_detp 9 rfl (by kernel_rfl) (by kernel_rfl) (by kernel_rfl) (fun _ _ _ _ h => h) (.yes 37 rfl rfl rfl) (D_idxSoP rfl rfl slc_26 (l).nil0 rfl (by omega) rfl) rfl ?_
              refine XA_detp 10 rfl (by kernel_rfl) (by kernel_rfl) (by kernel_rfl) (fun _ _ _ _ h => h) (.yes 37 rfl rfl rfl) (D_fldAP rfl fld_38_0 rfl) rfl ?_
              refine XA_det 11 rfl (by kernel_rfl) (by kernel_rfl) (by kernel_rfl) (by kernel_rfl) (fun _ _ _ _ h => h) (.yes 37 rfl rfl rfl) (D_ela (enc := encE) (sz := 4) (i := k) (k := 0) (fun _ => rfl) rfl (by repeat first | with_reducible exact .here _ _ | with_reducible apply Out.there | with_reducible apply Out.app) hl tk_3 hg rfl) rfl ?_
              refine XA_detp 12 rfl (by kernel_rfl) (by kernel_rfl) (by kernel_rfl) (fun _ _ _ _ h => h) (.yes 37 rfl rfl rfl) (D_fldP rfl fld_25_0 (o' := 0) rfl) rfl ?_
              refine XA_det 13 rfl (by kernel_rfl) (by kernel_rfl) (by kernel_rfl) (by kernel_rfl) (fun _ _ _ _ h => h) (.yes 37 rfl rfl rfl) (D_ldo rfl (by repeat first | with_reducible exact .here _ _ | with_reducible apply Out.there | with_reducible apply Out.app) tk_3 (by rfl)) rfl ?_
              refine XA_detp 14 rfl (by kernel_rfl) (by kernel_rfl) (by kernel_rfl) (fun _ _ _ _ h => h) (.yes 37 rfl rfl rfl) (D_pureP rfl) rfl ?_
              refine XA_det 15 rfl (by kernel_rfl) (by kernel_rfl) (by kernel_rfl) (by kernel_rfl) (fun _ _ _ _ h => h) (.yes 37 rfl rfl rfl) (D_add rfl rfl (by omega) (by omega)) rfl ?_
              refine XA_detp 16 rfl (by kernel_rfl) (by kernel_rfl) (by kernel_rfl) (fun _ _ _ _ h => h) (.yes 37 rfl rfl rfl) (D_pureP rfl) rfl ?_
              refine XA_detp 17 rfl (by kernel_rfl) (by kernel_rfl) (by kernel_rfl) (fun _ _ _ _ h => h) .no (D_pureP rfl) rfl ?_
              refine XA_done (by kernel_rfl) ?_
              try simp only [List.cons_append, List.nil_append, List.append_nil]
              refine thenX_normal ?_
              refine X_cond rfl (fun h5 => ?_) (fun h5 => ?_)
              · try simp only [decide_eq_true_eq, decide_eq_false_iff_not, Bool.not_eq_true', Bool.not_eq_false', beq_iff_eq, bne_iff_ne, beq_eq_false_iff_ne, bne_eq_false_iff_eq, Int.not_lt, Int.not_le, gt_iff_lt, ge_iff_le, ne_eq] at h5
                refine X_region ?_
                refine XL_det .no (D_pure rfl) rfl ?_
                refine XL_det .no (D_pure rfl) rfl ?_
                refine XL_det .no (D_idxSo rfl rfl slc_26 (l).nil0 rfl (by omega) rfl) rfl ?_
                refine XL_det .no (D_fldA rfl fld_38_2 rfl) rfl ?_
                refine XL_det .no (D_ela (enc := encE) (sz := 4) (i := k) (k := 2) (fun _ => rfl) rfl (by repeat first | with_reducible exact .here _ _ | with_reducible apply Out.there | with_reducible apply Out.app) hl tk_3 hg rfl) rfl ?_
                refine XL_det .no (D_pure rfl) rfl ?_
                refine XL_nil ?_
                refine inBlk_normal ?_
                refine thenX_normal ?_
                refine X_region ?_
                refine XL_det .no (D_pure rfl) rfl ?_
                refine XL_det .no (D_add rfl rfl (by omega) (by omega)) rfl ?_
                refine XL_det .no (D_pure rfl) rfl ?_
                refine XL_nil ?_
                refine loopQ_next (k + 1) ?_ ?_ ?_ ?_
                · omega
                · omega
                · refine ⟨by rw [modeAt_s hg, if_pos ⟨h4, h5⟩]; rfl, ?_, ?_, ?_, ?_, ?_, ?_, trivial⟩ <;> rfl
                · exact ⟨_, (by repeat first | with_reducible exact .nil _ | with_reducible exact .here _ _ | with_reducible exact Take.self _ | with_reducible apply Take.cons | with_reducible apply Out.there | with_reducible apply Take.skip | with_reducible exact Take.pre _ _ | with_reducible apply Out.app)⟩
              · try simp only [decide_eq_true_eq, decide_eq_false_iff_not, Bool.not_eq_true', Bool.not_eq_false', beq_iff_eq, bne_iff_ne, beq_eq_false_iff_ne, bne_eq_false_iff_eq, Int.not_lt, Int.not_le, gt_iff_lt, ge_iff_le, ne_eq] at h5
                refine X_skip ?_
                refine inBlk_normal ?_
                refine thenX_normal ?_
                refine X_region ?_
                refine XL_det .no (D_pure rfl) rfl ?_
                refine XL_det .no (D_add rfl rfl (by omega) (by omega)) rfl ?_
                refine XL_det .no (D_pure rfl) rfl ?_
                refine XL_nil ?_
                refine loopQ_next (k + 1) ?_ ?_ ?_ ?_
                · omega
                · omega
                · refine ⟨by rw [modeAt_s hg, if_neg (fun c => by omega)]; rfl, ?_, ?_, ?_, ?_, ?_, ?_, trivial⟩ <;> rfl
                · exact ⟨_, (by repeat first | with_reducible exact .nil _ | with_reducible exact .here _ _ | with_reducible exact Take.self _ | with_reducible apply Take.cons | with_reducible apply Out.there | with_reducible apply Take.skip | with_reducible exact Take.pre _ _ | with_reducible apply Out.app)⟩
            · try simp only [decide_eq_true_eq, decide_eq_false_iff_not, Bool.not_eq_true', Bool.not_eq_false', beq_iff_eq, bne_iff_ne, beq_eq_false_iff_ne, bne_eq_false_iff_eq, Int.not_lt, Int.not_le, gt_iff_lt, ge_iff_le, ne_eq] at h4
              refine XA_skipp 7 37 rfl (by kernel_rfl) (by kernel_rfl) (by kernel_rfl) (fun _ _ _ _ h => h) rfl rfl rfl rfl rfl ?_
              refine XA_skipp 8 37 rfl (by kernel_rfl) (by kernel_rfl) (by kernel_rfl) (fun _ _ _ _ h => h) rfl rfl rfl rfl rfl ?_
              refine XA_skipp 9 37 rfl (by kernel_rfl) (by kernel_rfl) (by kernel_rfl) (fun _ _ _ _ h => h) rfl rfl rfl rfl rfl ?_
              refine XA_skipp 10 37 rfl (by kernel_rfl) (by kernel_rfl) (by kernel_rfl) (fun _ _ _ _ h => h) rfl rfl rfl rfl rfl ?_
              refine XA_skipp 11 37 rfl (by kernel_rfl) (by kernel_rfl) (by kernel_rfl) (fun _ _ _ _ h => h) rfl rfl rfl rfl rfl ?_
              refine XA_skipp 12 37 rfl (by kernel_rfl) (by kernel_rfl) (by kernel_rfl) (fun _ _ _ _ h => h) rfl rfl rfl rfl rfl ?_
              refine XA_skipp 13 37 rfl (by kernel_rfl) (by kernel_rfl) (by kernel_rfl) (fun _ _ _ _ h => h) rfl rfl rfl rfl rfl ?_
              refine XA_skipp 14 37 rfl (by kernel_rfl) (by kernel_rfl) (by kernel_rfl) (fun _ _ _ _ h => h) rfl rfl rfl rfl rfl ?_
              refine XA_skipp 15 37 rfl (by kernel_rfl) (by kernel_rfl) (by kernel_rfl) (fun _ _ _ _ h => h) rfl rfl rfl rfl rfl ?_
              refine XA_skipp 16 37 rfl (by kernel_rfl) (by kernel_rfl) (by kernel_rfl) (fun _ _ _ _ h => h) rfl rfl rfl rfl rfl ?_
              refine XA_detp 17 rfl (by kernel_rfl) (by kernel_rfl) (by kernel_rfl) (fun _ _ _ _ h => h) .no (D_pureP rfl) rfl ?_
              refine XA_done (by kernel_rfl) ?_
              try simp only [List.cons_append, List.nil_append, List.append_nil]
              refine thenX_normal ?_
              refine X_cond_f rfl rfl ?_
              refine X_skip ?_
              refine inBlk_normal ?_
              refine thenX_normal ?_
              refine X_region ?_
              refine XL_det .no (D_pure rfl) rfl ?_
              refine XL_det .no (D_add rfl rfl (by omega) (by omega)) rfl ?_
              refine XL_det .no (D_pure rfl) rfl ?_
              refine XL_nil ?_
              refine loopQ_next (k + 1) ?_ ?_ ?_ ?_
              · omega
              · omega
              · refine ⟨by rw [modeAt_s hg, if_neg (fun c => by omega)]; rfl, ?_, ?_, ?_, ?_, ?_, ?_, trivial⟩ <;> rfl
              · exact ⟨_, (by repeat first | with_reducible exact .nil _ | with_reducible exact .here _ _ | with_reducible exact Take.self _ | with_reducible apply Take.cons | with_reducible apply Out.there | with_reducible apply Take.skip | with_reducible exact Take.pre _ _ | with_reducible apply Out.app)⟩
          · try simp only [decide_eq_true_eq, decide_eq_false_iff_not, Bool.not_eq_true', Bool.not_eq_false', beq_iff_eq, bne_iff_ne, beq_eq_false_iff_ne, bne_eq_false_iff_eq, Int.not_lt, Int.not_le, gt_iff_lt, ge_iff_le, ne_eq] at h3
            rw [show l.l.take k = l.l from List.take_of_length_le (by omega)]
            refine X_exit ?_
            refine thenX_exit ?_
            refine loopQ_exit ?_
            refine inBlk_here ?_
            refine thenX_normal ?_
            refine X_seqj (α := Int) (fun mm => mm = max (modeAt m (f + (i : Int)) l.l) 0) (fun mm => [(9, .int .i64 mm), (0, .int .i64 m), (2, .slice l.oad l.l.length l.c), (4, .pointer (some ⟨b1, 0, none⟩)), (7, .slice a.oad a.l.length a.c), (8, .int .i64 (i : Int))]) (fun mm => [blk b1 [.int .i64 f, .int .i64 t] 25, row (.slice a.oad a.l.length a.c) 5 1 a.l.length (a.l.flatMap encB), K]) ?_ ?_
            · skip
              refine X_seq ?_
              refine X_region ?_
              refine XL_det .no (D_pure rfl) rfl ?_
              refine XL_det .no (D_pure rfl) rfl ?_
              refine XL_then ?_
              refine X_cond rfl (fun h6 => ?_) (fun h6 => ?_)
              · try simp only [decide_eq_true_eq, decide_eq_false_iff_not, Bool.not_eq_true', Bool.not_eq_false', beq_iff_eq, bne_iff_ne, beq_eq_false_iff_ne, bne_eq_false_iff_eq, Int.not_lt, Int.not_le, gt_iff_lt, ge_iff_le, ne_eq] at h6
                refine X_region ?_
                refine XL_det .no (D_pure rfl) rfl ?_
                refine XL_nil ?_
                refine joinQ_normal 0 ?_ ?_ ?_
                · omega
                · refine ⟨?_, ?_, ?_, ?_, ?_, ?_, trivial⟩ <;> rfl
                · exact ⟨_, (by repeat first | with_reducible exact .nil _ | with_reducible exact .here _ _ | with_reducible exact Take.self _ | with_reducible apply Take.cons | with_reducible apply Out.there | with_reducible apply Take.skip | with_reducible exact Take.pre _ _ | with_reducible apply Out.app)⟩
              · try simp only [decide_eq_true_eq, decide_eq_false_iff_not, Bool.not_eq_true', Bool.not_eq_false', beq_iff_eq, bne_iff_ne, beq_eq_false_iff_ne, bne_eq_false_iff_eq, Int.not_lt, Int.not_le, gt_iff_lt, ge_iff_le, ne_eq] at h6
                refine X_skip ?_
                refine joinQ_normal (modeAt m (f + (i : Int)) l.l) ?_ ?_ ?_
                · omega
                · refine ⟨?_, ?_, ?_, ?_, ?_, ?_, trivial⟩ <;> rfl
                · exact ⟨_, (by repeat first | with_reducible exact .nil _ | with_reducible exact .here _ _ | with_reducible exact Take.self _ | with_reducible apply Take.cons | with_reducible apply Out.there | with_reducible apply Take.skip | with_reducible exact Take.pre _ _ | with_reducible apply Out.app)⟩
            · rintro mm hmm
              refine X_region ?_
              refine XL_det .no (D_pure rfl) rfl ?_
              refine XL_det .no (D_pure rfl) rfl ?_
              refine XL_det .no (D_divmod (z := mm % 10) rfl rfl (by decide) (by rw [Int.tmod_eq_emod_of_nonneg (by omega)])) rfl ?_
              refine XL_det .no (D_add (m := 48) (n := mm % 10) rfl rfl (by omega) (by omega)) rfl ?_
              refine XL_det .no (D_cvt (z := ((digB (modeAt m (f + (i : Int)) l.l)).toNat : Int)) rfl cvt_3_5 (by rw [hmm]; exact digB_wrap _)) rfl ?_
              refine XL_bslice (cs := encB (digB (modeAt m (f + (i : Int)) l.l))) .no rfl slt_29 (by decide) (by decide) (by rfl) (by rfl) rfl rfl (fun b2 => ?_)
              refine XL_app1 (enc := encB) (c := a) (y := (digB (modeAt m (f + (i : Int)) l.l))) (K := _) .no rfl rfl slt_29 (by repeat first | with_reducible exact .here _ _ | with_reducible apply Out.there | with_reducible apply Out.app) (by repeat first | with_reducible exact .here _ _ | with_reducible apply Out.there | with_reducible apply Out.app) (Rd_blk0) rfl rfl (by omega) (by omega) rfl (fun a2 ha2 ha2o => ?_)
              refine XL_det .no (D_pure rfl) rfl ?_
              refine XL_nil ?_
              refine inBlk_normal ?_
              refine thenX_normal ?_
              refine X_region ?_
              refine XL_det .no (D_pure rfl) rfl ?_
              refine XL_det .no (D_add rfl rfl (by omega) (by omega)) rfl ?_
              refine XL_det .no (D_pure rfl) rfl ?_
              refine XL_nil ?_
              refine loopQ_next (i + 1, a2) ?_ ?_ ?_ ?_
              · (try dsimp only); exact ⟨by unfold wid; omega, by rw [ha2, ha, rgs], ha2o⟩
              · (try dsimp only); have hlt : i < wid f t := (by unfold wid; omega); omega
              · refine ⟨?_, ?_, ?_, ?_, ?_, trivial⟩ <;> rfl
              · (try dsimp only); exact ⟨_, (by repeat first | with_reducible exact .nil _ | with_reducible exact .here _ _ | with_reducible exact Take.self _ | with_reducible apply Take.cons | with_reducible apply Out.there | with_reducible apply Take.skip | with_reducible exact Take.pre _ _ | with_reducible apply Out.app)⟩
      · try simp only [decide_eq_true_eq, decide_eq_false_iff_not, Bool.not_eq_true', Bool.not_eq_false', beq_iff_eq, bne_iff_ne, beq_eq_false_iff_ne, bne_eq_false_iff_eq, Int.not_lt, Int.not_le, gt_iff_lt, ge_iff_le, ne_eq] at h2
        have hie : i = wid f t := by unfold wid at hi ⊢; omega
        refine X_exit ?_
        refine thenX_exit ?_
        refine loopQ_exit ?_
        refine inBlk_here ?_
        refine thenX_normal ?_
        refine X_seq ?_
        refine X_region ?_
        refine XL_det .no (D_pure rfl) rfl ?_
        refine XL_then ?_
        refine X_seq ?_
        refine X_seq ?_
        refine X_region ?_
        refine XL_det .no (D_pure rfl) rfl ?_
        refine XL_then ?_
        refine X_block ?_
        refine X_loop (α := Nat) (fun k => k ≤ l.l.length) (fun k => [(11, .int .i64 (loadL f t (l.l.take k) : Int)), (12, .int .i64 (k : Int)), (0, .int .i64 m), (2, .slice l.oad l.l.length l.c), (4, .pointer (some ⟨b1, 0, none⟩)), (7, .slice a.oad a.l.length a.c)]) (fun k => [blk b1 [.int .i64 f, .int .i64 t] 25, row (.slice a.oad a.l.length a.c) 5 1 a.l.length (a.l.flatMap encB), K]) (fun k => l.l.length - k) 0 ?_ (by refine ⟨?_, ?_, ?_, ?_, ?_, ?_, trivial⟩ <;> rfl) (by repeat first | with_reducible exact .nil _ | with_reducible exact .here _ _ | with_reducible exact Take.self _ | with_reducible apply Take.cons | with_reducible apply Out.there | with_reducible apply Take.skip | with_reducible exact Take.pre _ _ | with_reducible apply Out.app) ?_
        · exact Nat.zero_le _
        · intro k hk
          have hll := ht.len
          have hlo := load_le f t l.l k
          refine X_seq ?_
          refine X_seq ?_
          refine X_region ?_
          refine XL_det .no (D_pure rfl) rfl ?_
          refine XL_det .no (D_pure rfl) rfl ?_
          refine XL_det .no (D_len rfl rfl slc_26) rfl ?_
          refine XL_det .no (D_pure rfl) rfl ?_
          refine XL_then ?_
          refine X_cond rfl (fun h7 => ?_) (fun h7 => ?_)
          · try simp only [decide_eq_true_eq, decide_eq_false_iff_not, Bool.not_eq_true', Bool.not_eq_false', beq_iff_eq, bne_iff_ne, beq_eq_false_iff_ne, bne_eq_false_iff_eq, Int.not_lt, Int.not_le, gt_iff_lt, ge_iff_le, ne_eq] at h7
            obtain ⟨e, hg⟩ : ∃ e, l.l[k]? = some e := ⟨_, List.getElem?_eq_getElem (by omega)⟩
            refine X_skip ?_
            refine thenX_normal ?_
            refine X_seq ?_
            refine X_block ?_
            refine X_seq ?_
            refine X_draw _ mixed (Take.self _) ?_
            refine XA_detp 0 rfl (by kernel_rfl) (by kernel_rfl) (by kernel_rfl) (fun _ _ _ _ h => h) .no (D_pureP rfl) rfl ?_
            refine XA_detp 1 rfl (by kernel_rfl) (by kernel_rfl) (by kernel_rfl) (fun _ _ _ _ h => h) .no (D_pureP rfl) rfl ?_
            refine XA_detp 2 rfl (by kernel_rfl) (by kernel_rfl) (by kernel_rfl) (fun _ _ _ _ h => h) .no (D_idxSoP rfl rfl slc_26 (l).nil0 rfl (by omega) rfl) rfl ?_
            refine XA_detp 3 rfl (by kernel_rfl) (by kernel_rfl) (by kernel_rfl) (fun _ _ _ _ h => h) .no (D_fldAP rfl fld_38_1 rfl) rfl ?_
            refine XA_det 4 rfl (by kernel_rfl) (by kernel_rfl) (by kernel_rfl) (by kernel_rfl) (fun _ _ _ _ h => h) .no (D_ela (enc := encE) (sz := 4) (i := k) (k := 1) (fun _ => rfl) rfl (by repeat first | with_reducible exact .here _ _ | with_reducible apply Out.there | with_reducible apply Out.app) hl tk_36 hg rfl) rfl ?_
            refine XA_detp 5 rfl (by kernel_rfl) (by kernel_rfl) (by kernel_rfl) (fun _ _ _ _ h => h) .no (D_pureP rfl) rfl ?_
            refine XA_detp 6 rfl (by kernel_rfl) (by kernel_rfl) (by kernel_rfl) (fun _ _ _ _ h => h) .no (D_pureP rfl) rfl ?_
            refine XA_split (t := 75) rfl (fun h8 => ?_) (fun h8 => ?_)
            · try simp only [decide_eq_true_eq, decide_eq_false_iff_not, Bool.not_eq_true', Bool.not_eq_false', beq_iff_eq, bne_iff_ne, beq_eq_false_iff_ne, bne_eq_false_iff_eq, Int.not_lt, Int.not_le, gt_iff_lt, ge_iff_le, ne_eq] at h8
              refine XA_detp 7 rfl (by kernel_rfl) (by kernel_rfl) (by kernel_rfl) (fun _ _ _ _ h => h) (.yes 75 rfl rfl rfl) (D_pureP rfl) rfl ?_
              refine XA_detp 8 rfl (by kernel_rfl) (by kernel_rfl) (by kernel_rfl) (fun _ _ _ _ h => h) (.yes 75 rfl rfl rfl) (D_pureP rfl) rfl ?_
              refine XA_detp 9 rfl (by kernel_rfl) (by kernel_rfl) (by kernel_rfl) (fun _ _ _ _ h => h) (.yes 75 rfl rfl rfl) (D_idxSoP rfl rfl slc_26 (l).nil0 rfl (by omega) rfl) rfl ?_
              refine XA_detp 10 rfl (by kernel_rfl) (by kernel_rfl) (by kernel_rfl) (fun _ _ _ _ h => h) (.yes 75 rfl rfl rfl) (D_fldAP rfl fld_38_0 rfl) rfl ?_
              refine XA_det 11 rfl (by kernel_rfl) (by kernel_rfl) (by kernel_rfl) (by kernel_rfl) (fun _ _ _ _ h => h) (.yes 75 rfl rfl rfl) (D_ela (enc := encE) (sz := 4) (i := k) (k := 0) (fun _ => rfl) rfl (by repeat first | with_reducible exact .here _ _ | with_reducible apply Out.there | with_reducible apply Out.app) hl tk_3 hg rfl) rfl ?_
              refine XA_detp 12 rfl (by kernel_rfl) (by kernel_rfl) (by kernel_rfl) (fun _ _ _ _ h => h) (.yes 75 rfl rfl rfl) (D_fldP rfl fld_25_0 (o' := 0) rfl) rfl ?_
              refine XA_det 13 rfl (by kernel_rfl) (by kernel_rfl) (by kernel_rfl) (by kernel_rfl) (fun _ _ _ _ h => h) (.yes 75 rfl rfl rfl) (D_ldo rfl (by repeat first | with_reducible exact .here _ _ | with_reducible apply Out.there | with_reducible apply Out.app) tk_3 (by rfl)) rfl ?_
              refine XA_detp 14 rfl (by kernel_rfl) (by kernel_rfl) (by kernel_rfl) (fun _ _ _ _ h => h) (.yes 75 rfl rfl rfl) (D_pureP rfl) rfl ?_
              refine XA_detp 15 rfl (by kernel_rfl) (by kernel_rfl) (by kernel_rfl) (fun _ _ _ _ h => h) .no (D_pureP rfl) rfl ?_
              refine XA_detp 16 rfl (by kernel_rfl) (by kernel_rfl) (by kernel_rfl) (fun _ _ _ _ h => h) .no (D_pureP rfl) rfl ?_
              refine XA_split (t := 85) rfl (fun h9 => ?_) (fun h9 => ?_)
              · try simp only [decide_eq_true_eq, decide_eq_false_iff_not, Bool.not_eq_true', Bool.not_eq_false', beq_iff_eq, bne_iff_ne, beq_eq_false_iff_ne, bne_eq_false_iff_eq, Int.not_lt, Int.not_le, gt_iff_lt, ge_iff_le, ne_eq] at h9
                refine XA_detp 17 rfl (by kernel_rfl) (by kernel_rfl) (by kernel_rfl) (fun _ _ _ _ h => h) (.yes 85 rfl rfl rfl) (D_pureP rfl) rfl ?_
                refine XA_detp 18 rfl (by kernel_rfl) (by kernel_rfl) (by kernel_rfl) (fun _ _ _ _ h => h) (.yes 85 rfl rfl rfl) (D_pureP rfl) rfl ?_
                refine XA_detp 19 rfl (by kernel_rfl) (by kernel_rfl) (by kernel_rfl) (fun _ _ _ _ h => h) (.yes 85 rfl rfl rfl) (D_idxSoP rfl rfl slc_26 (l).nil0 rfl (by omega) rfl) rfl ?_
                refine XA_detp 20 rfl (by kernel_rfl) (by kernel_rfl) (by kernel_rfl) (fun _ _ _ _ h => h) (.yes 85 rfl rfl rfl) (D_fldAP rfl fld_38_0 rfl) rfl ?_
                refine XA_det 21 rfl (by kernel_rfl) (by kernel_rfl) (by kernel_rfl) (by kernel_rfl) (fun _ _ _ _ h => h) (.yes 85 rfl rfl rfl) (D_ela (enc := encE) (sz := 4) (i := k) (k := 0) (fun _ => rfl) rfl (by repeat first | with_reducible exact .here _ _ | with_reducible apply Out.there | with_reducible apply Out.app) hl tk_3 hg rfl) rfl ?_
                refine XA_detp 22 rfl (by kernel_rfl) (by kernel_rfl) (by kernel_rfl) (fun _ _ _ _ h => h) (.yes 85 rfl rfl rfl) (D_fldP rfl fld_25_1 (o' := 1) rfl) rfl ?_
                refine XA_det 23 rfl (by kernel_rfl) (by kernel_rfl) (by kernel_rfl) (by kernel_rfl) (fun _ _ _ _ h => h) (.yes 85 rfl rfl rfl) (D_ldo rfl (by repeat first | with_reducible exact .here _ _ | with_reducible apply Out.there | with_reducible apply Out.app) tk_3 (by rfl)) rfl ?_
                refine XA_detp 24 rfl (by kernel_rfl) (by kernel_rfl) (by kernel_rfl) (fun _ _ _ _ h => h) (.yes 85 rfl rfl rfl) (D_pureP rfl) rfl ?_
                refine XA_detp 25 rfl (by kernel_rfl) (by kernel_rfl) (by kernel_rfl) (fun _ _ _ _ h => h) .no (D_pureP rfl) rfl ?_
                refine XA_done (by kernel_rfl) ?_
                try simp only [List.cons_append, List.nil_append, List.append_nil]
                refine thenX_normal ?_
                refine X_cond rfl (fun h10 => ?_) (fun h10 => ?_)
                · try simp only [decide_eq_true_eq, decide_eq_false_iff_not, Bool.not_eq_true', Bool.not_eq_false', beq_iff_eq, bne_iff_ne, beq_eq_false_iff_ne, bne_eq_false_iff_eq, Int.not_lt, Int.not_le, gt_iff_lt, ge_iff_le, ne_eq] at h10
                  refine X_region ?_
                  refine XL_det .no (D_pure rfl) rfl ?_
                  refine XL_det .no (D_add rfl rfl (by omega) (by omega)) rfl ?_
                  refine XL_det .no (D_pure rfl) rfl ?_
                  refine XL_nil ?_
                  refine inBlk_normal ?_
                  refine thenX_normal ?_
                  refine X_region ?_
                  refine XL_det .no (D_pure rfl) rfl ?_
                  refine XL_det .no (D_add rfl rfl (by omega) (by omega)) rfl ?_
                  refine XL_det .no (D_pure rfl) rfl ?_
                  refine XL_nil ?_
                  refine loopQ_next (k + 1) ?_ ?_ ?_ ?_
                  · omega
                  · omega
                  · refine ⟨by rw [load_t hg ⟨by assumption, by assumption, by assumption⟩]; rfl, ?_, ?_, ?_, ?_, ?_, trivial⟩ <;> rfl
                  · exact ⟨_, (by repeat first | with_reducible exact .nil _ | with_reducible exact .here _ _ | with_reducible exact Take.self _ | with_reducible apply Take.cons | with_reducible apply Out.there | with_reducible apply Take.skip | with_reducible exact Take.pre _ _ | with_reducible apply Out.app)⟩
                · try simp only [decide_eq_true_eq, decide_eq_false_iff_not, Bool.not_eq_true', Bool.not_eq_false', beq_iff_eq, bne_iff_ne, beq_eq_false_iff_ne, bne_eq_false_iff_eq, Int.not_lt, Int.not_le, gt_iff_lt, ge_iff_le, ne_eq] at h10
                  refine X_skip ?_
                  refine inBlk_normal ?_
                  refine thenX_normal ?_
                  refine X_region ?_
                  refine XL_det .no (D_pure rfl) rfl ?_
                  refine XL_det .no (D_add rfl rfl (by omega) (by omega)) rfl ?_
                  refine XL_det .no (D_pure rfl) rfl ?_
                  refine XL_nil ?_
                  refine loopQ_next (k + 1) ?_ ?_ ?_ ?_
                  · omega
                  · omega
                  · refine ⟨by rw [load_f hg (fun c => by omega)]; rfl, ?_, ?_, ?_, ?_, ?_, trivial⟩ <;> rfl
                  · exact ⟨_, (by repeat first | with_reducible exact .nil _ | with_reducible exact .here _ _ | with_reducible exact Take.self _ | with_reducible apply Take.cons | with_reducible apply Out.there | with_reducible apply Take.skip | with_reducible exact Take.pre _ _ | with_reducible apply Out.app)⟩
              · try simp only [decide_eq_true_eq, decide_eq_false_iff_not, Bool.not_eq_true', Bool.not_eq_false', beq_iff_eq, bne_iff_ne, beq_eq_false_iff_ne, bne_eq_false_iff_eq, Int.not_lt, Int.not_le, gt_iff_lt, ge_iff_le, ne_eq] at h9
                refine XA_skipp 17 85 rfl (by kernel_rfl) (by kernel_rfl) (by kernel_rfl) (fun _ _ _ _ h => h) rfl rfl rfl rfl rfl ?_
                refine XA_skipp 18 85 rfl (by kernel_rfl) (by kernel_rfl) (by kernel_rfl) (fun _ _ _ _ h => h) rfl rfl rfl rfl rfl ?_
                refine XA_skipp 19 85 rfl (by kernel_rfl) (by kernel_rfl) (by kernel_rfl) (fun _ _ _ _ h => h) rfl rfl rfl rfl rfl ?_
                refine XA_skipp 20 85 rfl (by kernel_rfl) (by kernel_rfl) (by kernel_rfl) (fun _ _ _ _ h => h) rfl rfl rfl rfl rfl ?_
                refine XA_skipp 21 85 rfl (by kernel_rfl) (by kernel_rfl) (by kernel_rfl) (fun _ _ _ _ h => h) rfl rfl rfl rfl rfl ?_
                refine XA_skipp 22 85 rfl (by kernel_rfl) (by kernel_rfl) (by kernel_rfl) (fun _ _ _ _ h => h) rfl rfl rfl rfl rfl ?_
                refine XA_skipp 23 85 rfl (by kernel_rfl) (by kernel_rfl) (by kernel_rfl) (fun _ _ _ _ h => h) rfl rfl rfl rfl rfl ?_
                refine XA_skipp 24 85 rfl (by kernel_rfl) (by kernel_rfl) (by kernel_rfl) (fun _ _ _ _ h => h) rfl rfl rfl rfl rfl ?_
                refine XA_detp 25 rfl (by kernel_rfl) (by kernel_rfl) (by kernel_rfl) (fun _ _ _ _ h => h) .no (D_pureP rfl) rfl ?_
                refine XA_done (by kernel_rfl) ?_
                try simp only [List.cons_append, List.nil_append, List.append_nil]
                refine thenX_normal ?_
                refine X_cond_f rfl rfl ?_
                refine X_skip ?_
                refine inBlk_normal ?_
                refine thenX_normal ?_
                refine X_region ?_
                refine XL_det .no (D_pure rfl) rfl ?_
                refine XL_det .no (D_add rfl rfl (by omega) (by omega)) rfl ?_
                refine XL_det .no (D_pure rfl) rfl ?_
                refine XL_nil ?_
                refine loopQ_next (k + 1) ?_ ?_ ?_ ?_
                · omega
                · omega
                · refine ⟨by rw [load_f hg (fun c => by omega)]; rfl, ?_, ?_, ?_, ?_, ?_, trivial⟩ <;> rfl
                · exact ⟨_, (by repeat first | with_reducible exact .nil _ | with_reducible exact .here _ _ | with_reducible exact Take.self _ | with_reducible apply Take.cons | with_reducible apply Out.there | with_reducible apply Take.skip | with_reducible exact Take.pre _ _ | with_reducible apply Out.app)⟩
            · try simp only [decide_eq_true_eq, decide_eq_false_iff_not, Bool.not_eq_true', Bool.not_eq_false', beq_iff_eq, bne_iff_ne, beq_eq_false_iff_ne, bne_eq_false_iff_eq, Int.not_lt, Int.not_le, gt_iff_lt, ge_iff_le, ne_eq] at h8
              refine XA_skipp 7 75 rfl (by kernel_rfl) (by kernel_rfl) (by kernel_rfl) (fun _ _ _ _ h => h) rfl rfl rfl rfl rfl ?_
              refine XA_skipp 8 75 rfl (by kernel_rfl) (by kernel_rfl) (by kernel_rfl) (fun _ _ _ _ h => h) rfl rfl rfl rfl rfl ?_
              refine XA_skipp 9 75 rfl (by kernel_rfl) (by kernel_rfl) (by kernel_rfl) (fun _ _ _ _ h => h) rfl rfl rfl rfl rfl ?_
              refine XA_skipp 10 75 rfl (by kernel_rfl) (by kernel_rfl) (by kernel_rfl) (fun _ _ _ _ h => h) rfl rfl rfl rfl rfl ?_
              refine XA_skipp 11 75 rfl (by kernel_rfl) (by kernel_rfl) (by kernel_rfl) (fun _ _ _ _ h => h) rfl rfl rfl rfl rfl ?_
              refine XA_skipp 12 75 rfl (by kernel_rfl) (by kernel_rfl) (by kernel_rfl) (fun _ _ _ _ h => h) rfl rfl rfl rfl rfl ?_
              refine XA_skipp 13 75 rfl (by kernel_rfl) (by kernel_rfl) (by kernel_rfl) (fun _ _ _ _ h => h) rfl rfl rfl rfl rfl ?_
              refine XA_skipp 14 75 rfl (by kernel_rfl) (by kernel_rfl) (by kernel_rfl) (fun _ _ _ _ h => h) rfl rfl rfl rfl rfl ?_
              refine XA_detp 15 rfl (by kernel_rfl) (by kernel_rfl) (by kernel_rfl) (fun _ _ _ _ h => h) .no (D_pureP rfl) rfl ?_
              refine XA_detp 16 rfl (by kernel_rfl) (by kernel_rfl) (by kernel_rfl) (fun _ _ _ _ h => h) .no (D_pureP rfl) rfl ?_
              refine XA_skipp 17 85 rfl (by kernel_rfl) (by kernel_rfl) (by kernel_rfl) (fun _ _ _ _ h => h) rfl rfl rfl rfl rfl ?_
              refine XA_skipp 18 85 rfl (by kernel_rfl) (by kernel_rfl) (by kernel_rfl) (fun _ _ _ _ h => h) rfl rfl rfl rfl rfl ?_
              refine XA_skipp 19 85 rfl (by kernel_rfl) (by kernel_rfl) (by kernel_rfl) (fun _ _ _ _ h => h) rfl rfl rfl rfl rfl ?_
              refine XA_skipp 20 85 rfl (by kernel_rfl) (by kernel_rfl) (by kernel_rfl) (fun _ _ _ _ h => h) rfl rfl rfl rfl rfl ?_
              refine XA_skipp 21 85 rfl (by kernel_rfl) (by kernel_rfl) (by kernel_rfl) (fun _ _ _ _ h => h) rfl rfl rfl rfl rfl ?_
              refine XA_skipp 22 85 rfl (by kernel_rfl) (by kernel_rfl) (by kernel_rfl) (fun _ _ _ _ h => h) rfl rfl rfl rfl rfl ?_
              refine XA_skipp 23 85 rfl (by kernel_rfl) (by kernel_rfl) (by kernel_rfl) (fun _ _ _ _ h => h) rfl rfl rfl rfl rfl ?_
              refine XA_skipp 24 85 rfl (by kernel_rfl) (by kernel_rfl) (by kernel_rfl) (fun _ _ _ _ h => h) rfl rfl rfl rfl rfl ?_
              refine XA_detp 25 rfl (by kernel_rfl) (by kernel_rfl) (by kernel_rfl) (fun _ _ _ _ h => h) .no (D_pureP rfl) rfl ?_
              refine XA_done (by kernel_rfl) ?_
              try simp only [List.cons_append, List.nil_append, List.append_nil]
              refine thenX_normal ?_
              refine X_cond_f rfl rfl ?_
              refine X_skip ?_
              refine inBlk_normal ?_
              refine thenX_normal ?_
              refine X_region ?_
              refine XL_det .no (D_pure rfl) rfl ?_
              refine XL_det .no (D_add rfl rfl (by omega) (by omega)) rfl ?_
              refine XL_det .no (D_pure rfl) rfl ?_
              refine XL_nil ?_
              refine loopQ_next (k + 1) ?_ ?_ ?_ ?_
              · omega
              · omega
              · refine ⟨by rw [load_f hg (fun c => by omega)]; rfl, ?_, ?_, ?_, ?_, ?_, trivial⟩ <;> rfl
              · exact ⟨_, (by repeat first | with_reducible exact .nil _ | with_reducible exact .here _ _ | with_reducible exact Take.self _ | with_reducible apply Take.cons | with_reducible apply Out.there | with_reducible apply Take.skip | with_reducible exact Take.pre _ _ | with_reducible apply Out.app)⟩
          · try simp only [decide_eq_true_eq, decide_eq_false_iff_not, Bool.not_eq_true', Bool.not_eq_false', beq_iff_eq, bne_iff_ne, beq_eq_false_iff_ne, bne_eq_false_iff_eq, Int.not_lt, Int.not_le, gt_iff_lt, ge_iff_le, ne_eq] at h7
            have hke : l.l.take k = l.l := List.take_of_length_le (by omega)
            refine X_exit ?_
            refine thenX_exit ?_
            refine loopQ_exit ?_
            refine inBlk_here ?_
            refine thenX_normal ?_
            refine X_seq ?_
            refine X_draw _ mixed (Take.self _) ?_
            refine XA_detp 0 rfl (by kernel_rfl) (by kernel_rfl) (by kernel_rfl) (fun _ _ _ _ h => h) .no (D_pureP rfl) rfl ?_
            refine XA_det 1 rfl (by kernel_rfl) (by kernel_rfl) (by kernel_rfl) (by kernel_rfl) (fun _ _ _ _ h => h) .no (D_ldso (vs := [.int .i64 f, .int .i64 t]) rfl (by repeat first | with_reducible exact .here _ _ | with_reducible apply Out.there | with_reducible apply Out.app) tk_25 rfl (by rfl)) rfl ?_
            refine XA_detp 2 rfl (by kernel_rfl) (by kernel_rfl) (by kernel_rfl) (fun _ _ _ _ h => h) .no (D_pureP rfl) rfl ?_
            refine XA_detp 4 rfl (by kernel_rfl) (by kernel_rfl) (by kernel_rfl) (fun _ _ _ _ h => h) .no (D_pureP rfl) rfl ?_
            refine XA_det 5 rfl (by kernel_rfl) (by kernel_rfl) (by kernel_rfl) (by kernel_rfl) (fun _ _ _ _ h => h) .no (D_bstr (K := row (.slice a.oad a.l.length a.c) 5 1 a.l.length (a.l.flatMap encB)) (a := a) (l := modesS m f t l.l) rfl (by repeat first | with_reducible exact .here _ _ | with_reducible apply Out.there | with_reducible apply Out.app) (by rw [← modes_rg, ← hie, ← ha]; exact Rd_own hao rfl) (by rw [← modes_rg, ← hie, ← ha]) bstr_29_9) rfl ?_
            refine XA_one 3 (by kernel_rfl) ?_
            refine XO_callk rfl .no en_13 rfl (by repeat first | with_reducible exact .nil _ | with_reducible apply App.cons) (cmodes m f t l hl ht) (by repeat first | with_reducible exact .nil _ | with_reducible exact .here _ _ | with_reducible exact Take.self _ | with_reducible apply Take.cons | with_reducible apply Out.there | with_reducible apply Take.skip | with_reducible exact Take.pre _ _ | with_reducible apply Out.app) rfl ?_
            refine XA_det 6 rfl (by kernel_rfl) (by kernel_rfl) (by kernel_rfl) (by kernel_rfl) (fun _ _ _ _ h => h) .no (D_seq (q := true) rfl rfl (by show (_ == _) = true; exact beq_self_eq_true _)) rfl ?_
            refine XA_detp 7 rfl (by kernel_rfl) (by kernel_rfl) (by kernel_rfl) (fun _ _ _ _ h => h) .no (D_pureP rfl) rfl ?_
            refine XA_det 8 rfl (by kernel_rfl) (by kernel_rfl) (by kernel_rfl) (by kernel_rfl) (fun _ _ _ _ h => h) (.yes 104 rfl rfl rfl) (D_ldso (vs := [.int .i64 f, .int .i64 t]) rfl (by repeat first | with_reducible exact .here _ _ | with_reducible apply Out.there | with_reducible apply Out.app) tk_25 rfl (by rfl)) rfl ?_
            refine XA_detp 9 rfl (by kernel_rfl) (by kernel_rfl) (by kernel_rfl) (fun _ _ _ _ h => h) (.yes 104 rfl rfl rfl) (D_pureP rfl) rfl ?_
            refine XA_detp 11 rfl (by kernel_rfl) (by kernel_rfl) (by kernel_rfl) (fun _ _ _ _ h => h) (.yes 104 rfl rfl rfl) (D_pureP rfl) rfl ?_
            refine XA_one 10 (by kernel_rfl) ?_
            refine XO_callk rfl (.yes 104 rfl rfl rfl) en_14 rfl (by repeat first | with_reducible exact .nil _ | with_reducible apply App.cons) (cload f t l hl ht) (by repeat first | with_reducible exact .nil _ | with_reducible exact .here _ _ | with_reducible exact Take.self _ | with_reducible apply Take.cons | with_reducible apply Out.there | with_reducible apply Take.skip | with_reducible exact Take.pre _ _ | with_reducible apply Out.app) rfl ?_
            refine XA_detp 12 rfl (by kernel_rfl) (by kernel_rfl) (by kernel_rfl) (fun _ _ _ _ h => h) (.yes 104 rfl rfl rfl) (D_pureP (v := .bool true) (bt41 (by rw [hke]))) rfl ?_
            refine XA_detp 13 rfl (by kernel_rfl) (by kernel_rfl) (by kernel_rfl) (fun _ _ _ _ h => h) .no (D_pureP rfl) rfl ?_
            refine XA_detp 14 rfl (by kernel_rfl) (by kernel_rfl) (by kernel_rfl) (fun _ _ _ _ h => h) .no (D_pureP rfl) rfl ?_
            refine XA_one 15 (by kernel_rfl) ?_
            refine XO_callk rfl (.yes 111 rfl rfl rfl) en_12 rfl (by repeat first | with_reducible exact .nil _ | with_reducible apply App.cons) (alive41 hK) (by repeat first | with_reducible exact .nil _ | with_reducible exact .here _ _ | with_reducible exact Take.self _ | with_reducible apply Take.cons | with_reducible apply Out.there | with_reducible apply Take.skip | with_reducible exact Take.pre _ _ | with_reducible apply Out.app) rfl ?_
            refine XA_detp 16 rfl (by kernel_rfl) (by kernel_rfl) (by kernel_rfl) (fun _ _ _ _ h => h) .no (D_pureP rfl) rfl ?_
            refine XA_detp 17 rfl (by kernel_rfl) (by kernel_rfl) (by kernel_rfl) (fun _ _ _ _ h => h) .no (D_pureP rfl) rfl ?_
            refine XA_done (by kernel_rfl) ?_
            try simp only [List.cons_append, List.nil_append, List.append_nil]
            refine thenX_normal ?_
            refine X_ret ?_
            refine ret_ok (.nil _) (res_tmp rfl rfl) ?_
            exact ⟨_, ⟨rfl, rfl⟩, _, (by repeat first | with_reducible exact .nil _ | with_reducible exact .here _ _ | with_reducible exact Take.self _ | with_reducible apply Take.cons | with_reducible apply Out.there | with_reducible apply Take.skip | with_reducible exact Take.pre _ _ | with_reducible apply Out.app)⟩

end Go.Proofs.YtjcpggoodbkedaaDoor
end

section
namespace Go.Proofs.YtjcpggoodbkedaaDoor
open Go Go.Sl Go.ChangeShapes Go.WideShapes Go.ChangeAt Go.RowKit
set_option linter.unusedVariables false
abbrev tabT : Nat := 56
theorem ui_int : Tryd.prog.underlying 3 = some (.int .i64) := by kernel_rfl
theorem eqk_25 : eqKinds Tryd.prog 12 25 = some [some .i64, some .i64] := by kernel_rfl
theorem eqk_38 : eqKinds Tryd.prog 12 38 = some [some .i64, some .i64, some .i64, some .i64] := by kernel_rfl
theorem sl_ev : slcOf Tryd.prog 26 = some (38, 4) := by kernel_rfl
theorem sz_ev : (Tryd.prog.info? 38).map (·.size) = some 4 := by kernel_rfl
theorem open_ev {W : World} {n : Nat} {H : Type} {enc : TypeId × Value → H} {cs : List Value} {x : DataW H × List MemPlace} (hx : DataW.trod enc Tryd.prog W 0 (fun _ => true) true n 38 cs = some x) : ∃ o : Ev, cs = encE o ∧ True := by
  obtain ⟨e, h, hf⟩ := flat_dec eqk_38 sz_ev hx
  exact ⟨⟨e 0, e 1, e 2, e 3⟩, h, trivial⟩
theorem sz_t : (Tryd.prog.info? 25).map (·.size) = some 2 := by kernel_rfl

theorem own : ownKnob Tryd.prog.godebug = none := by kernel_rfl
theorem laidOut : laidOutB Tryd.prog = true := by kernel_rfl
abbrev laidT : List (String × DataW Unit) := [("math/bits.deBruijn32tab", Rows.laid_math_bits_deBruijn32tab)]
set_option maxRecDepth 100000 in
theorem laidTab {W : World} (h : laidMetH Tryd.prog laidT W) : Rd (old (B := W.heap.size) W) ⟨0, 0, none⟩ (tab32.map fun m => .int .u8 m) := by
  rw [MakeChecks.laidMetH_plain _ _ _ (by kernel_rfl)] at h
  rw [show laidT = [("math/bits.deBruijn32tab", .agg (tab32.map fun m => .lit (.int .u8 m)))] from by kernel_rfl] at h
  exact laid_row (tab := tab32) (t := tabT) (len := 32) (e := 5) (k := .u8) (by kernel_rfl) (by kernel_rfl) (by kernel_rfl) (by kernel_rfl) (by kernel_rfl) (by decide) h
theorem door_met (os : Os) (args : Array Value) : laidMetH Tryd.prog laidT ((World.doorLaid Tryd.prog 400 os).forCall (fun _ _ => 0) ⟨#[], args, []⟩).memory :=
  laidMetH_of_parts3 (fuel := 8) (laidMet_of_run' 8 (by kernel_rfl) (by kernel_rfl)) (by kernel_rfl) (by kernel_rfl)


set_option maxRecDepth 100000 in
/-- The walk, at the arguments as the row reads them. -/
theorem walkChartModes (W : World) (args : Array Value) (hL : laidMetH Tryd.prog laidT W) (h : ArgsOk Tryd.prog W Tryd.f4.params.toList args.toList) : Calls Tryd.prog 4 args W fun e w' => e = .returned (.bool true) ∧ Go.RowKit.Below W.heap.size W w' := by
  rw [show Tryd.f4.params.toList = [3, 25, 26] from by kernel_rfl] at h
  obtain ⟨args⟩ := args
  match args, h with
  | [v0, v1, v2], h =>
    have hK := laidTab hL
    obtain ⟨a0, a1, a2, _⟩ := h
    obtain ⟨m, rfl, _⟩ := arg_int ui_int a0
    obtain ⟨e, rfl, _⟩ := arg_flat eqk_25 sz_t (by kernel_rfl) a1
    obtain ⟨l, rfl, _, hl⟩ := arg_arr (encA := encE) (ok := fun _ => True) sl_ev (by decide) a2 (fun n cs x hx => open_ev hx)
    exact calls_of (old_self W) ((chartModes m (e 0) (e 1) l hl hK).mono fun _ _ h => h.1)

set_option maxRecDepth 100000 in
theorem liftedChartModes (os : Os) (started : os.Started) (H : Type) (enc : TypeId × Value → H) :
    ReturnsInHanded {} Tryd.checked os 4 .any (fun w args => (Rows.chartModesSpec.pre enc Tryd.prog Tryd.f4 [] false w args ∧ laidMetH Tryd.prog laidT w) ∧ sizedMet enc Tryd.prog Tryd.f4 (OpenSpec.ofChange Rows.chartModesSpec) false w args) (Rows.chartModesSpec.post enc Tryd.prog Tryd.f4 false true false false) :=
  handedL (C := Tryd.checked) (tb := 4) own started (by kernel_rfl) Tryd.func4 laidOut (by kernel_rfl) rfl
    (fun ds h => by
      have h : ds.length = 3 := h
      match ds, h with
      | [_, _, _], _ => exact ⟨rfl, rfl, rfl⟩) (by kernel_rfl) (by kernel_rfl)
    (ChangeSpec.witness_shaped (enc := enc) (C := Tryd.checked) (os := os) (X := fun w _ => laidMetH Tryd.prog laidT w) false (World.doorLaid Tryd.prog 400 os) #[.int .i64 0, .agg #[.int .i64 0, .int .i64 0], .slice none 0 0] 8 rfl (World.shaped_of_RefB (by kernel_rfl) (by kernel_rfl)) (by kernel_rfl) (by kernel_rfl) (by kernel_rfl) (door_met os _))
    (fun W args hL h => walkChartModes W args hL h)

theorem overChartModes : Rows.ChartModesSaid :=
  OpenClaim.holds_of_wide 4 Tryd.f4 rfl rfl rfl rfl rfl rfl rfl ⟨rfl, rfl, rfl, rfl, rfl⟩ rfl rfl rfl rfl rfl (by kernel_rfl) Tryd.func4 (by kernel_rfl)
    (of_decide_eq_true (by kernel_rfl)) (by unfold Func.isWrapper; first | (rw [if_pos (by decide +kernel)]; kernel_rfl) | (rw [if_neg (by decide +kernel)]; exact ⟨rfl, rfl⟩))
    (fun os started H enc _ => liftedChartModes os started H enc)

/-- The statement: the tied card. -/
theorem provedChartModes : Rows.ChartModesCardSaid :=
  Claim7.holds_tied_plain_at .later [] [.data] true (true, "852cdcec411acaec40e44d1cb702775f90eb5b6d08a741b07eab67960abb3190") false
    overChartModes (fun _ h => by cases h) (by kernel_rfl) (fun _ h => by cases h) chartModes_row_tie rfl ⟨rfl, rfl⟩ (by kernel_rfl) rfl
    (fun f fn hf hfn => by
      obtain rfl : f = 4 := Option.some.inj ((show Tryd.prog.funcNamed "remontoir/remontoirlaw41.ChartModes" = some 4 by kernel_rfl).symm.trans hf) |>.symm
      obtain rfl : fn = Tryd.f4 := (Option.some.inj (Tryd.func4.symm.trans hfn)).symm
      exact ⟨by kernel_rfl, fun j t ht => by
        have ht : t ∈ Tryd.f4.params.toList := by simpa using Array.mem_of_getElem? ht
        rw [show Tryd.f4.params.toList = [3, 25, 26] from by kernel_rfl] at ht
        have hall : ([3, 25, 26].all fun u => !Tryd.prog.wantsStandIn u) = true := by kernel_rfl
        exact (show Tryd.prog.wantsStandIn t = false by simpa using List.all_eq_true.1 hall t ht)⟩)
    (by kernel_rfl)

#print axioms provedChartModes
end Go.Proofs.YtjcpggoodbkedaaDoor
end
