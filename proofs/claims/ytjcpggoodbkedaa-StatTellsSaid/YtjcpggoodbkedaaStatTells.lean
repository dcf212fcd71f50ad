/- The given statement StatTellsSaid is proved: of any events the program tells of each task how many jobs were over, their least, greatest and sum, how many were late, and the text of it. Conditions: at most 500 events, as the statement itself says them; none beside. -/
import Derived.Test.YtjcpggoodbkedaaSl
import Derived.KernelRfl
import Derived.Test.YtjcpggoodbkedaaProg
import Derived.Test.YtjcpggoodbkedaaRows
section
namespace Go.Proofs.Ytjcpggoodbkedaa
open Go Go.Sl
set_option linter.unusedVariables false
set_option linter.unusedSimpArgs false
set_option maxRecDepth 4000
variable {B : Nat} {K : Asrt B}
theorem bstr_85_9 : bstr Try.prog 85 9 = true := by kernel_rfl
theorem cvt_3_5 : cvtK Try.prog 3 5 = some .u8 := by kernel_rfl
theorem mixed : Try.prog.follows .mixedOrders = true := by kernel_rfl
theorem slc_85 : slcOf Try.prog 85 = some (5, 1) := by kernel_rfl
theorem slt_85 : slT Try.prog 85 = some (5, 1, 1, [.int .u8 0]) := by kernel_rfl
theorem tk_5 : tyK Try.prog 5 = some (false, 1) := by kernel_rfl

def dg (m : Nat) : UInt8 := UInt8.ofNat (48 + m % 10)
theorem dg_nat (m : Nat) : (dg m).toNat = 48 + m % 10 := by
  unfold dg; rw [UInt8.toNat_ofNat']; omega
theorem dg_wrap (m : Nat) : IntKind.u8.wrap (48 + ((m % 10 : Nat) : Int)) = ((dg m).toNat : Int) := by
  rw [dg_nat]
  show (48 + ((m % 10 : Nat) : Int)) % 256 = _
  omega
theorem tmod10 (m : Nat) : Int.tmod (m : Int) 10 = ((m % 10 : Nat) : Int) := by rw [Int.tmod_eq_emod_of_nonneg (by omega)]; omega
theorem tdiv10 (m : Nat) : Int.tdiv (m : Int) 10 = ((m / 10 : Nat) : Int) := by rw [Int.tdiv_eq_ediv_of_nonneg (by omega)]; omega
/-- The figures of a number, the last one first. -/
def rdF : Nat → Nat → List UInt8
  | 0, _ => []
  | f + 1, n => if n = 0 then [] else dg n :: rdF f (n / 10)
def rd (m : Nat) : List UInt8 := dg m :: rdF 10 (m / 10)
theorem rdF_0 : ∀ f, rdF f 0 = []
  | 0 => rfl
  | f + 1 => rfl
theorem rdF_s {f m : Nat} (h0 : 0 < m) (h : m < 10 ^ f) : ∃ f2, f = f2 + 1 ∧ rdF f m = dg m :: rdF f2 (m / 10) ∧ m / 10 < 10 ^ f2 := by
  cases f with
  | zero => simp at h; omega
  | succ f => exact ⟨f, rfl, by rw [rdF, if_neg (by omega)], by rw [Nat.pow_succ] at h; omega⟩
def clamp (n : Int) : Nat := (min (max n 0) 2147483647).toNat
theorem clamp_le (n : Int) : clamp n ≤ 2147483647 := by unfold clamp; omega
theorem clamp_eq (n : Int) : min (max n 0) 2147483647 = (clamp n : Int) := by unfold clamp; omega
/-- A number's text. -/
def txt (n : Int) : List UInt8 := (rd (clamp n)).reverse
/-- So far turned about. -/
def Turned (o xs : List UInt8) (i : Nat) : Prop := xs.length = o.length ∧ ∀ j, j < o.length → xs[j]? = if j < i ∨ o.length - 1 - i < j then o[o.length - 1 - j]? else o[j]?
theorem turned_0 (o : List UInt8) (h : 0 < o.length) : Turned o o 0 := ⟨rfl, fun j hj => by rw [if_neg (by omega)]⟩
theorem turned_end {o xs : List UInt8} {i : Nat} (h : Turned o xs i) (hi : o.length ≤ 2 * i + 1) : xs = o.reverse := by
  apply List.ext_getElem?
  intro j
  by_cases hj : j < o.length
  · rw [h.2 j hj, List.getElem?_reverse hj]
    split
    · rfl
    · rw [show o.length - 1 - j = j by omega]
  · rw [List.getElem?_eq_none (by rw [h.1]; omega), List.getElem?_eq_none (by simp; omega)]
theorem turned_s {o xs : List UInt8} {i k : Nat} {a b : UInt8} (h : Turned o xs i) (hk : k = o.length - 1 - i) (hik : i < k) (ha : xs[i]? = some a) (hb : xs[k]? = some b) : Turned o ((xs.set i b).set k a) (i + 1) := by
  have hl := h.1
  refine ⟨by simp [hl], fun j hj => ?_⟩
  have h1 := h.2 i (by omega); rw [if_neg (by omega), ha] at h1
  have h2 := h.2 k (by omega); rw [if_neg (by omega), hb] at h2
  by_cases e1 : j = k
  · subst e1
    rw [List.getElem?_set_self (by simp; omega), if_pos (by omega), show o.length - 1 - j = i by omega]; exact h1
  · rw [List.getElem?_set_ne (by omega)]
    by_cases e2 : j = i
    · subst e2
      rw [List.getElem?_set_self (by omega), if_pos (by omega), show o.length - 1 - j = k by omega]; exact h2
    · rw [List.getElem?_set_ne (by omega), h.2 j hj]
      by_cases e3 : j < i ∨ o.length - 1 - i < j
      · rw [if_pos e3, if_pos (by omega)]
      · rw [if_neg e3, if_neg (by omega)]
theorem turned_s' {o xs : List UInt8} {i k : Nat} {a b : UInt8} (h : Turned o xs i) (hk : k = o.length - 1 - i) (hik : i < k) (ha : xs[i]? = some a) (hb : xs[k]? = some b) : Turned o ((xs.set k a).set i b) (i + 1) := by
  rw [List.set_comm _ _ (by omega)]; exact turned_s h hk hik ha hb

theorem dtext (n : Int) : Ctr Try.prog B 41 [.int .i64 n] [] (fun v S => v = str (txt n) ∧ S = []) := by
  refine Ctr_of_X (N := 53) Try.func41 rfl (by simp) rfl ?_
  intro w0 D0
  refine X_seq ?_
  refine X_region ?_
  refine XL_det .no (D_pure rfl) rfl ?_
  refine XL_then ?_
  refine X_seq ?_
  refine X_region ?_
  refine XL_det .no (D_pure rfl) rfl ?_
  refine XL_det .no (D_max rfl rfl) rfl ?_
  refine XL_det .no (D_min rfl rfl) rfl ?_
  rw [clamp_eq n]
  refine XL_det .no (D_pure rfl) rfl ?_
  refine XL_then ?_
  refine X_seq ?_
  refine X_region ?_
  refine XL_det .no (D_pure rfl) rfl ?_
  refine XL_det .no (D_divmod (z := (((clamp n) % 10 : Nat) : Int)) rfl rfl (by decide) (tmod10 (clamp n))) rfl ?_
  refine XL_det .no (D_add (m := 48) (n := (((clamp n) % 10 : Nat) : Int)) rfl rfl (by omega) (by omega)) rfl ?_
  refine XL_det .no (D_cvt (z := ((dg (clamp n)).toNat : Int)) rfl cvt_3_5 (dg_wrap (clamp n))) rfl ?_
  refine XL_bslice (cs := encB (dg (clamp n))) .no rfl slt_85 (by decide) (by decide) (by rfl) (by rfl) rfl rfl (fun b1 => ?_)
  refine XL_det .no (D_pure rfl) rfl ?_
  refine XL_then ?_
  refine X_seq ?_
  refine X_seq ?_
  refine X_region ?_
  refine XL_det .no (D_pure rfl) rfl ?_
  refine XL_det .no (D_divmod (z := (((clamp n) / 10 : Nat) : Int)) rfl rfl (by decide) (by show IntKind.i64.wrap _ = _; rw [tdiv10]; exact i64_in' (by omega) (by have := clamp_le n; omega))) rfl ?_
  refine XL_det .no (D_pure rfl) rfl ?_
  refine XL_then ?_
  refine X_block ?_
  refine X_blkrow (b := b1) (cs := encB (dg (clamp n))) encB [dg (clamp n)] (by simp) (fun _ => rfl) (by simp [maxLen]) rfl (by repeat first | with_reducible exact .here _ _ | with_reducible apply Out.there | with_reducible apply Out.app) ?_
  refine X_loop (α := Nat × Nat × Arr UInt8) (fun ⟨m, f, c⟩ => m ≤ 2147483647 ∧ m < 10 ^ f ∧ c.l ++ rdF f m = rd (clamp n) ∧ c.l.length + f ≤ 11 ∧ 0 < c.l.length ∧ c.Own) (fun ⟨m, f, c⟩ => [(0, .int .i64 (m : Int)), (3, .slice c.oad c.l.length c.c)]) (fun ⟨m, f, c⟩ => [row (.slice c.oad c.l.length c.c) 5 1 c.l.length (c.l.flatMap encB)]) (fun ⟨m, f, c⟩ => m) ((clamp n) / 10, 10, Arr.lit b1 [dg (clamp n)] (by simp)) ?_ (by refine ⟨?_, ?_, trivial⟩ <;> rfl) (by repeat first | with_reducible exact .nil _ | with_reducible exact .here _ _ | with_reducible exact Take.self _ | with_reducible apply Take.cons | with_reducible apply Out.there | with_reducible apply Take.skip | with_reducible exact Take.pre _ _ | with_reducible apply Out.app) ?_
  · have hcn := clamp_le n; exact ⟨by show clamp n / 10 ≤ _; omega, by show clamp n / 10 < 10 ^ 10; omega, rfl, by show 1 + 10 ≤ 11; decide, by show 0 < 1; decide, Arr.lit_own⟩
  · rintro ⟨m, f, c⟩ ⟨hmm, hm, hc, hcl, hc0, hown⟩
    dsimp only
    refine X_seq ?_
    refine X_seq ?_
    refine X_region ?_
    refine XL_det .no (D_pure rfl) rfl ?_
    refine XL_det .no (D_pure rfl) rfl ?_
    refine XL_then ?_
    refine X_cond rfl (fun h1 => ?_) (fun h1 => ?_)
    · try simp only [decide_eq_true_eq, decide_eq_false_iff_not, Bool.not_eq_true', Bool.not_eq_false', beq_iff_eq, bne_iff_ne, beq_eq_false_iff_ne, bne_eq_false_iff_eq, Int.not_lt, Int.not_le, gt_iff_lt, ge_iff_le, ne_eq] at h1
      obtain ⟨f2, rfl, hf1, hf2⟩ := rdF_s (by omega) hm
      refine X_skip ?_
      refine thenX_normal ?_
      refine X_seq ?_
      refine X_block ?_
      refine X_region ?_
      refine XL_det .no (D_pure rfl) rfl ?_
      refine XL_det .no (D_pure rfl) rfl ?_
      refine XL_det .no (D_divmod (z := ((m % 10 : Nat) : Int)) rfl rfl (by decide) (tmod10 m)) rfl ?_
      refine XL_det .no (D_add (m := 48) (n := ((m % 10 : Nat) : Int)) rfl rfl (by omega) (by omega)) rfl ?_
      refine XL_det .no (D_cvt (z := ((dg m).toNat : Int)) rfl cvt_3_5 (dg_wrap m)) rfl ?_
      refine XL_bslice (cs := encB (dg m)) .no rfl slt_85 (by decide) (by decide) (by rfl) (by rfl) rfl rfl (fun b2 => ?_)
      refine XL_app1 (enc := encB) (c := c) (y := (dg m)) (K := _) .no rfl rfl slt_85 (by repeat first | with_reducible exact .here _ _ | with_reducible apply Out.there | with_reducible apply Out.app) (by repeat first | with_reducible exact .here _ _ | with_reducible apply Out.there | with_reducible apply Out.app) (Rd_blk0) rfl rfl (by omega) (by omega) rfl (fun a2 ha2 ha2o => ?_)
      refine XL_det .no (D_pure rfl) rfl ?_
      refine XL_nil ?_
      refine inBlk_normal ?_
      refine thenX_normal ?_
      refine X_region ?_
      refine XL_det .no (D_pure rfl) rfl ?_
      refine XL_det .no (D_divmod (z := ((m / 10 : Nat) : Int)) rfl rfl (by decide) (by show IntKind.i64.wrap _ = _; rw [tdiv10]; exact i64_in' (by omega) (by omega))) rfl ?_
      refine XL_det .no (D_pure rfl) rfl ?_
      refine XL_nil ?_
      refine loopQ_next (m / 10, f2, a2) ?_ ?_ ?_ ?_
      · (try dsimp only); exact ⟨by omega, hf2, by rw [ha2, ← hc, hf1]; simp, by rw [ha2]; simp; omega, by rw [ha2]; simp, ha2o⟩
      · (try dsimp only); omega
      · refine ⟨?_, ?_, trivial⟩ <;> rfl
      · (try dsimp only); exact ⟨_, (by repeat first | with_reducible exact .nil _ | with_reducible exact .here _ _ | with_reducible exact Take.self _ | with_reducible apply Take.cons | with_reducible apply Out.there | with_reducible apply Take.skip | with_reducible exact Take.pre _ _ | with_reducible apply Out.app)⟩
    · try simp only [decide_eq_true_eq, decide_eq_false_iff_not, Bool.not_eq_true', Bool.not_eq_false', beq_iff_eq, bne_iff_ne, beq_eq_false_iff_ne, bne_eq_false_iff_eq, Int.not_lt, Int.not_le, gt_iff_lt, ge_iff_le, ne_eq] at h1
      obtain rfl : m = 0 := by omega
      rw [rdF_0, List.append_nil] at hc
      refine X_exit ?_
      refine thenX_exit ?_
      refine loopQ_exit ?_
      refine inBlk_here ?_
      refine thenX_normal ?_
      refine X_seq ?_
      refine X_seq ?_
      refine X_region ?_
      refine XL_det .no (D_pure rfl) rfl ?_
      refine XL_det .no (D_len rfl rfl slc_85) rfl ?_
      refine XL_det .no (D_sub rfl rfl (by omega) (by omega)) rfl ?_
      refine XL_det .no (D_pure rfl) rfl ?_
      refine XL_det .no (D_pure rfl) rfl ?_
      refine XL_then ?_
      refine X_block ?_
      refine X_loop (α := Nat × Int × List UInt8) (fun ⟨i, kk, xs⟩ => Turned c.l xs i ∧ i ≤ c.l.length ∧ kk = (c.l.length : Int) - 1 - (i : Int)) (fun ⟨i, kk, xs⟩ => [(4, .int .i64 (i : Int)), (5, .int .i64 kk), (3, .slice c.oad c.l.length c.c)]) (fun ⟨i, kk, xs⟩ => [row (.slice c.oad c.l.length c.c) 5 1 c.l.length (xs.flatMap encB)]) (fun ⟨i, kk, xs⟩ => c.l.length - i) (0, (c.l.length : Int) - 1, c.l) ?_ (by refine ⟨?_, ?_, ?_, trivial⟩ <;> rfl) (by repeat first | with_reducible exact .nil _ | with_reducible exact .here _ _ | with_reducible exact Take.self _ | with_reducible apply Take.cons | with_reducible apply Out.there | with_reducible apply Take.skip | with_reducible exact Take.pre _ _ | with_reducible apply Out.app) ?_
      · exact ⟨turned_0 _ hc0, Nat.zero_le _, by show _ = _ - ((0 : Nat) : Int); omega⟩
      · rintro ⟨i, kk, xs⟩ ⟨hx, hi, hkk⟩
        dsimp only
        have hxl := hx.1
        refine X_seq ?_
        refine X_seq ?_
        refine X_region ?_
        refine XL_det .no (D_pure rfl) rfl ?_
        refine XL_det .no (D_pure rfl) rfl ?_
        refine XL_det .no (D_pure rfl) rfl ?_
        refine XL_then ?_
        refine X_cond rfl (fun h2 => ?_) (fun h2 => ?_)
        · try simp only [decide_eq_true_eq, decide_eq_false_iff_not, Bool.not_eq_true', Bool.not_eq_false', beq_iff_eq, bne_iff_ne, beq_eq_false_iff_ne, bne_eq_false_iff_eq, Int.not_lt, Int.not_le, gt_iff_lt, ge_iff_le, ne_eq] at h2
          obtain ⟨k, hk⟩ : ∃ k : Nat, kk = (k : Int) := ⟨c.l.length - 1 - i, by omega⟩
          obtain ⟨y1, hg1⟩ : ∃ y, xs[i]? = some y := ⟨_, List.getElem?_eq_getElem (by omega)⟩
          obtain ⟨y2, hg2⟩ : ∃ y, xs[k]? = some y := ⟨_, List.getElem?_eq_getElem (by omega)⟩
          refine X_skip ?_
          refine thenX_normal ?_
          refine X_seq ?_
          refine X_block ?_
          refine X_draw _ mixed (Take.self _) ?_
          refine XA_detp 0 rfl (by kernel_rfl) (by kernel_rfl) (by kernel_rfl) (fun _ _ _ _ h => h) .no (D_pureP rfl) rfl ?_
          refine XA_detp 1 rfl (by kernel_rfl) (by kernel_rfl) (by kernel_rfl) (fun _ _ _ _ h => h) .no (D_pureP rfl) rfl ?_
          refine XA_detp 2 rfl (by kernel_rfl) (by kernel_rfl) (by kernel_rfl) (fun _ _ _ _ h => h) .no (D_pureP rfl) rfl ?_
          refine XA_detp 3 rfl (by kernel_rfl) (by kernel_rfl) (by kernel_rfl) (fun _ _ _ _ h => h) .no (D_pureP rfl) rfl ?_
          refine XA_detp 4 rfl (by kernel_rfl) (by kernel_rfl) (by kernel_rfl) (fun _ _ _ _ h => h) .no (D_pureP rfl) rfl ?_
          refine XA_detp 5 rfl (by kernel_rfl) (by kernel_rfl) (by kernel_rfl) (fun _ _ _ _ h => h) .no (D_pureP rfl) rfl ?_
          refine XA_detp 6 rfl (by kernel_rfl) (by kernel_rfl) (by kernel_rfl) (fun _ _ _ _ h => h) .no (D_idxSoP rfl rfl slc_85 (c).nil0 hk (by omega) rfl) rfl ?_
          refine XA_det 7 rfl (by kernel_rfl) (by kernel_rfl) (by kernel_rfl) (by kernel_rfl) (fun _ _ _ _ h => h) .no (D_ela (enc := encB) (sz := 1) (i := k) (k := 0) (fun _ => rfl) rfl (by repeat first | with_reducible exact .here _ _ | with_reducible apply Out.there | with_reducible apply Out.app) (Rd_rowx hown rfl hx.1) tk_5 hg2 rfl) rfl ?_
          refine XA_detp 8 rfl (by kernel_rfl) (by kernel_rfl) (by kernel_rfl) (fun _ _ _ _ h => h) .no (D_pureP rfl) rfl ?_
          refine XA_detp 9 rfl (by kernel_rfl) (by kernel_rfl) (by kernel_rfl) (fun _ _ _ _ h => h) .no (D_pureP rfl) rfl ?_
          refine XA_detp 10 rfl (by kernel_rfl) (by kernel_rfl) (by kernel_rfl) (fun _ _ _ _ h => h) .no (D_idxSoP rfl rfl slc_85 (c).nil0 rfl (by omega) rfl) rfl ?_
          refine XA_det 11 rfl (by kernel_rfl) (by kernel_rfl) (by kernel_rfl) (by kernel_rfl) (fun _ _ _ _ h => h) .no (D_ela (enc := encB) (sz := 1) (i := i) (k := 0) (fun _ => rfl) rfl (by repeat first | with_reducible exact .here _ _ | with_reducible apply Out.there | with_reducible apply Out.app) (Rd_rowx hown rfl hx.1) tk_5 hg1 rfl) rfl ?_
          refine XA_detp 12 rfl (by kernel_rfl) (by kernel_rfl) (by kernel_rfl) (fun _ _ _ _ h => h) .no (D_idxSoP rfl rfl slc_85 (c).nil0 rfl (by omega) rfl) rfl ?_
          refine XA_one 13 (by kernel_rfl) ?_
          refine XO_efd rfl .no (by repeat first | with_reducible exact .nil _ | with_reducible apply App.cons) (F_rst (enc := encB) (i := i) (y := y2) hown rfl rfl (fun _ => rfl) rfl rfl (by repeat first | with_reducible exact .here _ _ | with_reducible apply Out.there | with_reducible apply Out.app) tk_5 (by first | omega | (simp; omega)) rfl) (by kernel_rfl) ?_
          refine XA_detp 14 rfl (by kernel_rfl) (by kernel_rfl) (by kernel_rfl) (fun _ _ _ _ h => h) .no (D_idxSoP rfl rfl slc_85 (c).nil0 hk (by omega) rfl) rfl ?_
          refine XA_one 15 (by kernel_rfl) ?_
          refine XO_efd rfl .no (by repeat first | with_reducible exact .nil _ | with_reducible apply App.cons) (F_rst (enc := encB) (i := k) (y := y1) hown rfl rfl (fun _ => rfl) rfl rfl (by repeat first | with_reducible exact .here _ _ | with_reducible apply Out.there | with_reducible apply Out.app) tk_5 (by first | omega | (simp; omega)) rfl) (by kernel_rfl) ?_
          refine XA_done (by kernel_rfl) ?_
          try simp only [List.cons_append, List.nil_append, List.append_nil]
          refine inBlk_normal ?_
          refine thenX_normal ?_
          refine X_region ?_
          refine XL_det .no (D_pure rfl) rfl ?_
          refine XL_det .no (D_add rfl rfl (by omega) (by omega)) rfl ?_
          refine XL_det .no (D_pure rfl) rfl ?_
          refine XL_det .no (D_sub rfl rfl (by omega) (by omega)) rfl ?_
          refine XL_det .no (D_pure rfl) rfl ?_
          refine XL_det .no (D_pure rfl) rfl ?_
          refine XL_nil ?_
          refine loopQ_next (i + 1, kk - 1, (xs.set i y2).set k y1) ?_ ?_ ?_ ?_
          · (try dsimp only); exact ⟨turned_s hx (by omega) (by omega) hg1 hg2, by omega, by show kk - 1 = _ - ((i + 1 : Nat) : Int); omega⟩
          · (try dsimp only); omega
          · refine ⟨?_, ?_, ?_, trivial⟩ <;> rfl
          · (try dsimp only); exact ⟨_, (by repeat first | with_reducible exact .nil _ | with_reducible exact .here _ _ | with_reducible exact Take.self _ | with_reducible apply Take.cons | with_reducible apply Out.there | with_reducible apply Take.skip | with_reducible exact Take.pre _ _ | with_reducible apply Out.app)⟩
        · try simp only [decide_eq_true_eq, decide_eq_false_iff_not, Bool.not_eq_true', Bool.not_eq_false', beq_iff_eq, bne_iff_ne, beq_eq_false_iff_ne, bne_eq_false_iff_eq, Int.not_lt, Int.not_le, gt_iff_lt, ge_iff_le, ne_eq] at h2
          have hrev : xs = c.l.reverse := turned_end hx (by omega)
          refine X_exit ?_
          refine thenX_exit ?_
          refine loopQ_exit ?_
          refine inBlk_here ?_
          refine thenX_normal ?_
          refine X_seq ?_
          refine X_region ?_
          refine XL_det .no (D_pure rfl) rfl ?_
          refine XL_det .no (D_bstr (a := c) (l := xs) rfl (by repeat first | with_reducible exact .here _ _ | with_reducible apply Out.there | with_reducible apply Out.app) (Rd_rowx hown rfl hx.1) hx.1 bstr_85_9) rfl ?_
          refine XL_det .no (D_pure rfl) rfl ?_
          refine XL_then ?_
          refine X_ret ?_
          refine ret_ok (.nil _) (res_tmp rfl rfl) ?_
          exact ⟨_, ⟨by rw [hrev, hc]; rfl, rfl⟩, _, (by repeat first | with_reducible exact .nil _ | with_reducible exact .here _ _ | with_reducible exact Take.self _ | with_reducible apply Take.cons | with_reducible apply Out.there | with_reducible apply Take.skip | with_reducible exact Take.pre _ _ | with_reducible apply Out.app)⟩

end Go.Proofs.Ytjcpggoodbkedaa
end

section
namespace Go.Proofs.Ytjcpggoodbkedaa
open Go Go.Sl
set_option linter.unusedVariables false
set_option linter.unusedSimpArgs false
set_option maxRecDepth 4000
variable {B : Nat} {K : Asrt B}
theorem bld_24 : bldOf Try.prog 24 = some ([.int .i64 0, .int .i64 0, .int .i64 0, .int .i64 0, .int .i64 0], [(0, 1), (1, 1), (2, 1), (3, 1), (4, 1)]) := by kernel_rfl
theorem fld_24_0 : fldOff Try.prog 24 0 = some 0 := by kernel_rfl
theorem fld_24_1 : fldOff Try.prog 24 1 = some 1 := by kernel_rfl
theorem fld_24_2 : fldOff Try.prog 24 2 = some 2 := by kernel_rfl
theorem fld_24_3 : fldOff Try.prog 24 3 = some 3 := by kernel_rfl
theorem fld_24_4 : fldOff Try.prog 24 4 = some 4 := by kernel_rfl
theorem tk_24 : tyK Try.prog 24 = some (true, 5) := by kernel_rfl
theorem tk_3 : tyK Try.prog 3 = some (false, 1) := by kernel_rfl
theorem zero_24 : zeroOf Try.prog 24 = some [.int .i64 0, .int .i64 0, .int .i64 0, .int .i64 0, .int .i64 0] := by kernel_rfl

structure St5 where
  many : Int
  least : Int
  most : Int
  sum : Int
  late : Int
abbrev stc (s : St5) : List Value := [.int .i64 s.many, .int .i64 s.least, .int .i64 s.most, .int .i64 s.sum, .int .i64 s.late]
abbrev z5 : St5 := ⟨0, 0, 0, 0, 0⟩
abbrev lw (s : St5) (n : Int) : St5 := ⟨s.many, s.least, s.most, s.sum, n⟩
def wi (n : Int) : Int := min (max n 0) 65536
theorem wi_le (n : Int) : 0 ≤ wi n ∧ wi n ≤ 65536 := by unfold wi; omega
def addS (s : St5) (n : Int) : St5 := if s.many = 0 then ⟨1, wi n, wi n, wi n, s.late⟩ else ⟨s.many + 1, min s.least (wi n), max s.most (wi n), s.sum + wi n, s.late⟩
def meanS (s : St5) : Int := if s.many < 1 then 0 else s.sum / s.many
def joinS (s o : St5) : St5 := if o.many = 0 then lw s (s.late + o.late) else if s.many = 0 then lw o (o.late + s.late) else ⟨s.many + o.many, min s.least o.least, max s.most o.most, s.sum + o.sum, s.late + o.late⟩
/-- Jobs one behind the other. -/
def fs (l : List Int) : St5 := l.foldl addS z5
theorem fs_snoc (l : List Int) (x : Int) : fs (l ++ [x]) = addS (fs l) x := by unfold fs; rw [List.foldl_append]; rfl
structure Fits (s : St5) (n : Nat) : Prop where
  many : s.many = n
  least : 0 ≤ s.least ∧ s.least ≤ 65536
  most : 0 ≤ s.most ∧ s.most ≤ 65536
  sum : 0 ≤ s.sum ∧ s.sum ≤ 65536 * n
  late : s.late = 0
  zero : n = 0 → s.least = 0 ∧ s.most = 0
theorem fits_z : Fits z5 0 := ⟨rfl, by decide, by decide, by decide, rfl, fun _ => ⟨rfl, rfl⟩⟩
theorem addS_0 {s : St5} {x : Int} (h : s.many = 0) : addS s x = ⟨1, wi x, wi x, wi x, s.late⟩ := if_pos h
theorem addS_s {s : St5} {x : Int} (h : s.many ≠ 0) : addS s x = ⟨s.many + 1, min s.least (wi x), max s.most (wi x), s.sum + wi x, s.late⟩ := if_neg h
theorem Fits.add {s : St5} {n : Nat} (h : Fits s n) (x : Int) : Fits (addS s x) (n + 1) := by
  have hw := wi_le x
  obtain ⟨h1, h2, h3, h4, h5, h6⟩ := h
  by_cases hz : s.many = 0
  · rw [addS_0 hz]
    exact ⟨by show (1 : Int) = _; omega, hw, hw, ⟨hw.1, by show wi x ≤ _; omega⟩, h5, fun h => by omega⟩
  · rw [addS_s hz]
    exact ⟨by show s.many + 1 = _; omega, by show 0 ≤ min _ _ ∧ min _ _ ≤ _; omega, by show 0 ≤ max _ _ ∧ max _ _ ≤ _; omega, by show 0 ≤ s.sum + wi x ∧ s.sum + wi x ≤ _; omega, h5, fun h => by omega⟩
theorem fs_fits (l : List Int) : Fits (fs l) l.length := by
  induction h : l.reverse generalizing l with
  | nil => have : l = [] := by simpa using h
           subst this; exact fits_z
  | cons x r ih =>
    have : l = r.reverse ++ [x] := by rw [← List.reverse_reverse l, h]; simp
    subst this
    rw [fs_snoc, List.length_append]
    exact (ih r.reverse (by simp)).add x
theorem fs_take {l : List Int} {i : Nat} {x : Int} (h : l[i]? = some x) : fs (l.take (i + 1)) = addS (fs (l.take i)) x := by
  rw [List.take_add_one, h]; exact fs_snoc _ _
theorem st_ext {a b : St5} (h1 : a.many = b.many) (h2 : a.least = b.least) (h3 : a.most = b.most) (h4 : a.sum = b.sum) (h5 : a.late = b.late) : a = b := by
  cases a; cases b; simp at *; exact ⟨h1, h2, h3, h4, h5⟩
theorem join_fs (a : List Int) (m n : Int) : ∀ b : List Int, joinS (lw (fs a) m) (lw (fs b) n) = lw (fs (a ++ b)) (m + n) := by
  intro b
  have ha := fs_fits a
  induction h : b.reverse generalizing b with
  | nil => have : b = [] := by simpa using h
           subst this; rw [List.append_nil]; exact if_pos rfl
  | cons x r ih =>
    have : b = r.reverse ++ [x] := by rw [← List.reverse_reverse b, h]; simp
    subst this
    have ih := ih r.reverse (by simp)
    have hb := fs_fits r.reverse
    have hab := fs_fits (a ++ r.reverse)
    generalize r.reverse = b at *
    rw [← List.append_assoc, fs_snoc, fs_snoc]
    have hw := wi_le x
    by_cases hzb : (fs b).many = 0
    · have hb0 : b = [] := by
        have := hb.many; rw [hzb] at this; exact List.length_eq_zero_iff.1 (by omega)
      subst hb0
      rw [List.append_nil, addS_0 hzb]
      unfold joinS
      rw [if_neg (by show ¬ (1 : Int) = 0; decide)]
      by_cases hza : (fs a).many = 0
      · rw [if_pos hza, addS_0 hza]; exact st_ext rfl rfl rfl rfl (Int.add_comm _ _)
      · rw [if_neg hza, addS_s hza]
    · rw [addS_s hzb]
      have hzab : (fs (a ++ b)).many ≠ 0 := by have h1 := hab.many; have h2 := hb.many; rw [List.length_append] at h1; omega
      rw [addS_s hzab]
      unfold joinS at ih ⊢
      rw [if_neg (by show ¬ (fs b).many = 0; exact hzb)] at ih
      rw [if_neg (by show ¬ (fs b).many + 1 = 0; have := hb.many; omega)]
      by_cases hza : (fs a).many = 0
      · rw [if_pos (show (lw (fs a) m).many = 0 from hza)] at ih ⊢
        have i1 := congrArg St5.many ih; have i2 := congrArg St5.least ih; have i3 := congrArg St5.most ih; have i4 := congrArg St5.sum ih
        dsimp only [lw] at i1 i2 i3 i4
        exact st_ext (by show (fs b).many + 1 = _ + 1; omega) (by show min _ _ = min _ _; rw [i2]) (by show max _ _ = max _ _; rw [i3]) (by show _ + _ = _ + _; rw [i4]) (Int.add_comm _ _)
      · rw [if_neg (show ¬ (lw (fs a) m).many = 0 from hza)] at ih ⊢
        have i1 := congrArg St5.many ih; have i2 := congrArg St5.least ih; have i3 := congrArg St5.most ih; have i4 := congrArg St5.sum ih
        dsimp only [lw] at i1 i2 i3 i4
        exact st_ext (by show (fs a).many + ((fs b).many + 1) = (fs (a ++ b)).many + 1; omega) (by show min (fs a).least (min (fs b).least (wi x)) = min (fs (a ++ b)).least (wi x); omega) (by show max (fs a).most (max (fs b).most (wi x)) = max (fs (a ++ b)).most (wi x); omega) (by show (fs a).sum + ((fs b).sum + wi x) = (fs (a ++ b)).sum + wi x; omega) rfl

theorem swithin (n : Int) : Ctr Try.prog B 38 [.int .i64 n] [] (fun v S => v = .int .i64 (wi n) ∧ S = []) := by
  refine Ctr_of_X (N := 8) Try.func38 rfl (by simp) rfl ?_
  intro w0 D0
  refine X_seq ?_
  refine X_region ?_
  refine XL_det .no (D_pure rfl) rfl ?_
  refine XL_then ?_
  refine X_seq ?_
  refine X_seq ?_
  refine X_region ?_
  refine XL_det .no (D_pure rfl) rfl ?_
  refine XL_det .no (D_pure rfl) rfl ?_
  refine XL_then ?_
  refine X_cond rfl (fun h1 => ?_) (fun h1 => ?_)
  · try simp only [decide_eq_true_eq, decide_eq_false_iff_not, Bool.not_eq_true', Bool.not_eq_false', beq_iff_eq, bne_iff_ne, beq_eq_false_iff_ne, bne_eq_false_iff_eq, Int.not_lt, Int.not_le, gt_iff_lt, ge_iff_le, ne_eq] at h1
    refine X_seq ?_
    refine X_region ?_
    refine XL_det .no (D_pure rfl) rfl ?_
    refine XL_then ?_
    refine X_ret ?_
    refine thenX_ret ?_
    refine ret_ok (.nil _) (res_tmp rfl rfl) ?_
    exact ⟨_, ⟨by rw [show wi n = 0 by unfold wi; omega], rfl⟩, _, (by repeat first | with_reducible exact .nil _ | with_reducible exact .here _ _ | with_reducible exact Take.self _ | with_reducible apply Take.cons | with_reducible apply Out.there | with_reducible apply Take.skip | with_reducible exact Take.pre _ _ | with_reducible apply Out.app)⟩
  · try simp only [decide_eq_true_eq, decide_eq_false_iff_not, Bool.not_eq_true', Bool.not_eq_false', beq_iff_eq, bne_iff_ne, beq_eq_false_iff_ne, bne_eq_false_iff_eq, Int.not_lt, Int.not_le, gt_iff_lt, ge_iff_le, ne_eq] at h1
    refine X_skip ?_
    refine thenX_normal ?_
    refine X_seq ?_
    refine X_seq ?_
    refine X_region ?_
    refine XL_det .no (D_pure rfl) rfl ?_
    refine XL_det .no (D_pure rfl) rfl ?_
    refine XL_then ?_
    refine X_cond rfl (fun h2 => ?_) (fun h2 => ?_)
    · try simp only [decide_eq_true_eq, decide_eq_false_iff_not, Bool.not_eq_true', Bool.not_eq_false', beq_iff_eq, bne_iff_ne, beq_eq_false_iff_ne, bne_eq_false_iff_eq, Int.not_lt, Int.not_le, gt_iff_lt, ge_iff_le, ne_eq] at h2
      refine X_seq ?_
      refine X_region ?_
      refine XL_det .no (D_pure rfl) rfl ?_
      refine XL_then ?_
      refine X_ret ?_
      refine thenX_ret ?_
      refine ret_ok (.nil _) (res_tmp rfl rfl) ?_
      exact ⟨_, ⟨by rw [show wi n = 65536 by unfold wi; omega], rfl⟩, _, (by repeat first | with_reducible exact .nil _ | with_reducible exact .here _ _ | with_reducible exact Take.self _ | with_reducible apply Take.cons | with_reducible apply Out.there | with_reducible apply Take.skip | with_reducible exact Take.pre _ _ | with_reducible apply Out.app)⟩
    · try simp only [decide_eq_true_eq, decide_eq_false_iff_not, Bool.not_eq_true', Bool.not_eq_false', beq_iff_eq, bne_iff_ne, beq_eq_false_iff_ne, bne_eq_false_iff_eq, Int.not_lt, Int.not_le, gt_iff_lt, ge_iff_le, ne_eq] at h2
      refine X_skip ?_
      refine thenX_normal ?_
      refine X_seq ?_
      refine X_region ?_
      refine XL_det .no (D_pure rfl) rfl ?_
      refine XL_det .no (D_pure rfl) rfl ?_
      refine XL_then ?_
      refine X_ret ?_
      refine ret_ok (.nil _) (res_tmp rfl rfl) ?_
      exact ⟨_, ⟨by rw [show wi n = n by unfold wi; omega], rfl⟩, _, (by repeat first | with_reducible exact .nil _ | with_reducible exact .here _ _ | with_reducible exact Take.self _ | with_reducible apply Take.cons | with_reducible apply Out.there | with_reducible apply Take.skip | with_reducible exact Take.pre _ _ | with_reducible apply Out.app)⟩

theorem sadd (s : St5) (x : Int) (g1 : 0 ≤ s.many ∧ s.many ≤ 100000) (g2 : 0 ≤ s.sum ∧ s.sum ≤ 1000000000000) : Ctr Try.prog B 37 [.agg (stc s).toArray, .int .i64 x] [] (fun v S => v = .agg (stc (addS s x)).toArray ∧ S = []) := by
  refine Ctr_of_X (N := 35) Try.func37 rfl (by simp) rfl ?_
  intro w0 D0
  refine X_seq ?_
  refine X_region ?_
  refine XL_box (cs := stc s) .no rfl rfl rfl (fun b1 => ?_)
  refine XL_alloc .no zero_24 rfl (fun b2 => ?_)
  refine XL_then ?_
  refine X_seq ?_
  refine X_region ?_
  refine XL_det .no (D_pure rfl) rfl ?_
  refine XL_det .no (D_max rfl rfl) rfl ?_
  refine XL_det .no (D_min rfl rfl) rfl ?_
  rw [show min (max x 0) 65536 = wi x from rfl]
  have hw := wi_le x
  refine XL_det .no (D_pure rfl) rfl ?_
  refine XL_then ?_
  refine X_seq ?_
  refine X_seq ?_
  refine X_region ?_
  refine XL_det .no (D_fld rfl fld_24_0 (o' := 0) rfl) rfl ?_
  refine XL_det .no (D_ldo rfl (by repeat first | with_reducible exact .here _ _ | with_reducible apply Out.there | with_reducible apply Out.app) tk_3 (by rfl)) rfl ?_
  refine XL_det .no (D_pure rfl) rfl ?_
  refine XL_then ?_
  refine X_cond rfl (fun h1 => ?_) (fun h1 => ?_)
  · try simp only [decide_eq_true_eq, decide_eq_false_iff_not, Bool.not_eq_true', Bool.not_eq_false', beq_iff_eq, bne_iff_ne, beq_eq_false_iff_ne, bne_eq_false_iff_eq, Int.not_lt, Int.not_le, gt_iff_lt, ge_iff_le, ne_eq] at h1
    refine X_seq ?_
    refine X_region ?_
    refine XL_det .no (D_pure rfl) rfl ?_
    refine XL_det .no (D_pure rfl) rfl ?_
    refine XL_det .no (D_pure rfl) rfl ?_
    refine XL_det .no (D_fld rfl fld_24_4 (o' := 4) rfl) rfl ?_
    refine XL_det .no (D_ldo rfl (by repeat first | with_reducible exact .here _ _ | with_reducible apply Out.there | with_reducible apply Out.app) tk_3 (by rfl)) rfl ?_
    refine XL_det .no (D_build [_, _, _, _, _] rfl bld_24 (by rfl)) rfl ?_
    refine XL_efd .no (F_stw rfl rfl rfl (by repeat first | with_reducible exact .here _ _ | with_reducible apply Out.there | with_reducible apply Out.app) tk_24 rfl rfl) ?_
    refine XL_then ?_
    refine X_ret ?_
    refine thenX_ret ?_
    refine ret_ok (.nil _) (res_cell rfl rfl (by repeat first | with_reducible exact .here _ _ | with_reducible apply Out.there | with_reducible apply Out.app) tk_24 (by rfl)) ?_
    exact ⟨_, ⟨by rw [addS_0 h1], rfl⟩, _, (by repeat first | with_reducible exact .nil _ | with_reducible exact .here _ _ | with_reducible exact Take.self _ | with_reducible apply Take.cons | with_reducible apply Out.there | with_reducible apply Take.skip | with_reducible exact Take.pre _ _ | with_reducible apply Out.app)⟩
  · try simp only [decide_eq_true_eq, decide_eq_false_iff_not, Bool.not_eq_true', Bool.not_eq_false', beq_iff_eq, bne_iff_ne, beq_eq_false_iff_ne, bne_eq_false_iff_eq, Int.not_lt, Int.not_le, gt_iff_lt, ge_iff_le, ne_eq] at h1
    refine X_skip ?_
    refine thenX_normal ?_
    refine X_seq ?_
    refine X_region ?_
    refine XL_det .no (D_fld rfl fld_24_0 (o' := 0) rfl) rfl ?_
    refine XL_det .no (D_ldo rfl (by repeat first | with_reducible exact .here _ _ | with_reducible apply Out.there | with_reducible apply Out.app) tk_3 (by rfl)) rfl ?_
    refine XL_det .no (D_add rfl rfl (by omega) (by omega)) rfl ?_
    refine XL_det .no (D_fld rfl fld_24_1 (o' := 1) rfl) rfl ?_
    refine XL_det .no (D_ldo rfl (by repeat first | with_reducible exact .here _ _ | with_reducible apply Out.there | with_reducible apply Out.app) tk_3 (by rfl)) rfl ?_
    refine XL_det .no (D_pure rfl) rfl ?_
    refine XL_det .no (D_min rfl rfl) rfl ?_
    refine XL_det .no (D_fld rfl fld_24_2 (o' := 2) rfl) rfl ?_
    refine XL_det .no (D_ldo rfl (by repeat first | with_reducible exact .here _ _ | with_reducible apply Out.there | with_reducible apply Out.app) tk_3 (by rfl)) rfl ?_
    refine XL_det .no (D_pure rfl) rfl ?_
    refine XL_det .no (D_max rfl rfl) rfl ?_
    refine XL_det .no (D_fld rfl fld_24_3 (o' := 3) rfl) rfl ?_
    refine XL_det .no (D_ldo rfl (by repeat first | with_reducible exact .here _ _ | with_reducible apply Out.there | with_reducible apply Out.app) tk_3 (by rfl)) rfl ?_
    refine XL_det .no (D_pure rfl) rfl ?_
    refine XL_det .no (D_add rfl rfl (by omega) (by omega)) rfl ?_
    refine XL_det .no (D_fld rfl fld_24_4 (o' := 4) rfl) rfl ?_
    refine XL_det .no (D_ldo rfl (by repeat first | with_reducible exact .here _ _ | with_reducible apply Out.there | with_reducible apply Out.app) tk_3 (by rfl)) rfl ?_
    refine XL_det .no (D_build [_, _, _, _, _] rfl bld_24 (by rfl)) rfl ?_
    refine XL_efd .no (F_stw rfl rfl rfl (by repeat first | with_reducible exact .here _ _ | with_reducible apply Out.there | with_reducible apply Out.app) tk_24 rfl rfl) ?_
    refine XL_then ?_
    refine X_ret ?_
    refine ret_ok (.nil _) (res_cell rfl rfl (by repeat first | with_reducible exact .here _ _ | with_reducible apply Out.there | with_reducible apply Out.app) tk_24 (by rfl)) ?_
    exact ⟨_, ⟨by rw [addS_s h1], rfl⟩, _, (by repeat first | with_reducible exact .nil _ | with_reducible exact .here _ _ | with_reducible exact Take.self _ | with_reducible apply Take.cons | with_reducible apply Out.there | with_reducible apply Take.skip | with_reducible exact Take.pre _ _ | with_reducible apply Out.app)⟩

theorem smean (s : St5) (g2 : 0 ≤ s.sum ∧ s.sum ≤ 1000000000000) : Ctr Try.prog B 13 [.agg (stc s).toArray] [] (fun v S => v = .int .i64 (meanS s) ∧ S = []) := by
  refine Ctr_of_X (N := 11) Try.func13 rfl (by simp) rfl ?_
  intro w0 D0
  refine X_seq ?_
  refine X_region ?_
  refine XL_box (cs := stc s) .no rfl rfl rfl (fun b1 => ?_)
  refine XL_det .no (D_pure rfl) rfl ?_
  refine XL_then ?_
  refine X_seq ?_
  refine X_seq ?_
  refine X_region ?_
  refine XL_det .no (D_fld rfl fld_24_0 (o' := 0) rfl) rfl ?_
  refine XL_det .no (D_ldo rfl (by repeat first | with_reducible exact .here _ _ | with_reducible apply Out.there | with_reducible apply Out.app) tk_3 (by rfl)) rfl ?_
  refine XL_det .no (D_pure rfl) rfl ?_
  refine XL_then ?_
  refine X_cond rfl (fun h1 => ?_) (fun h1 => ?_)
  · try simp only [decide_eq_true_eq, decide_eq_false_iff_not, Bool.not_eq_true', Bool.not_eq_false', beq_iff_eq, bne_iff_ne, beq_eq_false_iff_ne, bne_eq_false_iff_eq, Int.not_lt, Int.not_le, gt_iff_lt, ge_iff_le, ne_eq] at h1
    refine X_seq ?_
    refine X_region ?_
    refine XL_det .no (D_pure rfl) rfl ?_
    refine XL_then ?_
    refine X_ret ?_
    refine thenX_ret ?_
    refine ret_ok (.nil _) (res_tmp rfl rfl) ?_
    exact ⟨_, ⟨by rw [meanS, if_pos h1], rfl⟩, _, (by repeat first | with_reducible exact .nil _ | with_reducible exact .here _ _ | with_reducible exact Take.self _ | with_reducible apply Take.cons | with_reducible apply Out.there | with_reducible apply Take.skip | with_reducible exact Take.pre _ _ | with_reducible apply Out.app)⟩
  · try simp only [decide_eq_true_eq, decide_eq_false_iff_not, Bool.not_eq_true', Bool.not_eq_false', beq_iff_eq, bne_iff_ne, beq_eq_false_iff_ne, bne_eq_false_iff_eq, Int.not_lt, Int.not_le, gt_iff_lt, ge_iff_le, ne_eq] at h1
    refine X_skip ?_
    refine thenX_normal ?_
    refine X_seq ?_
    refine X_region ?_
    refine XL_det .no (D_fld rfl fld_24_3 (o' := 3) rfl) rfl ?_
    refine XL_det .no (D_ldo rfl (by repeat first | with_reducible exact .here _ _ | with_reducible apply Out.there | with_reducible apply Out.app) tk_3 (by rfl)) rfl ?_
    refine XL_det .no (D_fld rfl fld_24_0 (o' := 0) rfl) rfl ?_
    refine XL_det .no (D_ldo rfl (by repeat first | with_reducible exact .here _ _ | with_reducible apply Out.there | with_reducible apply Out.app) tk_3 (by rfl)) rfl ?_
    refine XL_det .no (D_divmod (z := s.sum / s.many) rfl rfl (by omega) (by show IntKind.i64.wrap _ = _; rw [Int.tdiv_eq_ediv_of_nonneg g2.1]; have e1 := Int.ediv_nonneg g2.1 (show 0 ≤ s.many by omega); have e2 := Int.ediv_le_self s.many g2.1; exact i64_in' (by omega) (by omega))) rfl ?_
    refine XL_det .no (D_pure rfl) rfl ?_
    refine XL_then ?_
    refine X_ret ?_
    refine ret_ok (.nil _) (res_tmp rfl rfl) ?_
    exact ⟨_, ⟨by rw [meanS, if_neg (by omega)], rfl⟩, _, (by repeat first | with_reducible exact .nil _ | with_reducible exact .here _ _ | with_reducible exact Take.self _ | with_reducible apply Take.cons | with_reducible apply Out.there | with_reducible apply Take.skip | with_reducible exact Take.pre _ _ | with_reducible apply Out.app)⟩

theorem sjoin (s o : St5) (g1 : -1000000000000 ≤ s.many ∧ s.many ≤ 100000000000000) (g2 : -1000000000000 ≤ o.many ∧ o.many ≤ 100000000000000) (g3 : -1000000000000 ≤ s.sum ∧ s.sum ≤ 100000000000000) (g4 : -1000000000000 ≤ o.sum ∧ o.sum ≤ 100000000000000) (g5 : -1000000000000 ≤ s.late ∧ s.late ≤ 100000000000000) (g6 : -1000000000000 ≤ o.late ∧ o.late ≤ 100000000000000) : Ctr Try.prog B 12 [.agg (stc s).toArray, .agg (stc o).toArray] [] (fun v S => v = .agg (stc (joinS s o)).toArray ∧ S = []) := by
  refine Ctr_of_X (N := 53) Try.func12 rfl (by simp) rfl ?_
  intro w0 D0
  refine X_seq ?_
  refine X_region ?_
  refine XL_box (cs := stc s) .no rfl rfl rfl (fun b1 => ?_)
  refine XL_box (cs := stc o) .no rfl rfl rfl (fun b2 => ?_)
  refine XL_alloc .no zero_24 rfl (fun b3 => ?_)
  refine XL_then ?_
  refine X_seq ?_
  refine X_block ?_
  refine X_seq ?_
  refine X_region ?_
  refine XL_det .no (D_fld rfl fld_24_0 (o' := 0) rfl) rfl ?_
  refine XL_det .no (D_ldo rfl (by repeat first | with_reducible exact .here _ _ | with_reducible apply Out.there | with_reducible apply Out.app) tk_3 (by rfl)) rfl ?_
  refine XL_det .no (D_pure rfl) rfl ?_
  refine XL_det .no (D_pure rfl) rfl ?_
  refine XL_then ?_
  refine X_cond rfl (fun h1 => ?_) (fun h1 => ?_)
  · try simp only [decide_eq_true_eq, decide_eq_false_iff_not, Bool.not_eq_true', Bool.not_eq_false', beq_iff_eq, bne_iff_ne, beq_eq_false_iff_ne, bne_eq_false_iff_eq, Int.not_lt, Int.not_le, gt_iff_lt, ge_iff_le, ne_eq] at h1
    refine X_seq ?_
    refine X_region ?_
    refine XL_det .no (D_fld rfl fld_24_4 (o' := 4) rfl) rfl ?_
    refine XL_det .no (D_ldo rfl (by repeat first | with_reducible exact .here _ _ | with_reducible apply Out.there | with_reducible apply Out.app) tk_3 (by rfl)) rfl ?_
    refine XL_det .no (D_fld rfl fld_24_4 (o' := 4) rfl) rfl ?_
    refine XL_det .no (D_ldo rfl (by repeat first | with_reducible exact .here _ _ | with_reducible apply Out.there | with_reducible apply Out.app) tk_3 (by rfl)) rfl ?_
    refine XL_det .no (D_add rfl rfl (by omega) (by omega)) rfl ?_
    refine XL_det .no (D_fld rfl fld_24_4 (o' := 4) rfl) rfl ?_
    refine XL_efd .no (F_stl rfl rfl rfl (by repeat first | with_reducible exact .here _ _ | with_reducible apply Out.there | with_reducible apply Out.app) tk_3 (by repeat first | exact .zero _ _ _ | apply SetL.succ)) ?_
    refine XL_then ?_
    refine X_seq ?_
    refine X_region ?_
    refine XL_det .no (D_ldso rfl (by repeat first | with_reducible exact .here _ _ | with_reducible apply Out.there | with_reducible apply Out.app) tk_24 rfl (by rfl)) rfl ?_
    refine XL_efd .no (F_stw rfl rfl rfl (by repeat first | with_reducible exact .here _ _ | with_reducible apply Out.there | with_reducible apply Out.app) tk_24 rfl rfl) ?_
    refine XL_then ?_
    refine X_ret ?_
    refine inBlk_ret ?_
    refine thenX_ret ?_
    refine ret_ok (.nil _) (res_cell rfl rfl (by repeat first | with_reducible exact .here _ _ | with_reducible apply Out.there | with_reducible apply Out.app) tk_24 (by rfl)) ?_
    exact ⟨_, ⟨by rw [joinS, if_pos h1]; rfl, rfl⟩, _, (by repeat first | with_reducible exact .nil _ | with_reducible exact .here _ _ | with_reducible exact Take.self _ | with_reducible apply Take.cons | with_reducible apply Out.there | with_reducible apply Take.skip | with_reducible exact Take.pre _ _ | with_reducible apply Out.app)⟩
  · try simp only [decide_eq_true_eq, decide_eq_false_iff_not, Bool.not_eq_true', Bool.not_eq_false', beq_iff_eq, bne_iff_ne, beq_eq_false_iff_ne, bne_eq_false_iff_eq, Int.not_lt, Int.not_le, gt_iff_lt, ge_iff_le, ne_eq] at h1
    refine X_seq ?_
    refine X_region ?_
    refine XL_det .no (D_fld rfl fld_24_0 (o' := 0) rfl) rfl ?_
    refine XL_det .no (D_ldo rfl (by repeat first | with_reducible exact .here _ _ | with_reducible apply Out.there | with_reducible apply Out.app) tk_3 (by rfl)) rfl ?_
    refine XL_det .no (D_pure rfl) rfl ?_
    refine XL_det .no (D_pure rfl) rfl ?_
    refine XL_then ?_
    refine X_cond rfl (fun h2 => ?_) (fun h2 => ?_)
    · try simp only [decide_eq_true_eq, decide_eq_false_iff_not, Bool.not_eq_true', Bool.not_eq_false', beq_iff_eq, bne_iff_ne, beq_eq_false_iff_ne, bne_eq_false_iff_eq, Int.not_lt, Int.not_le, gt_iff_lt, ge_iff_le, ne_eq] at h2
      refine X_seq ?_
      refine X_region ?_
      refine XL_det .no (D_fld rfl fld_24_4 (o' := 4) rfl) rfl ?_
      refine XL_det .no (D_ldo rfl (by repeat first | with_reducible exact .here _ _ | with_reducible apply Out.there | with_reducible apply Out.app) tk_3 (by rfl)) rfl ?_
      refine XL_det .no (D_fld rfl fld_24_4 (o' := 4) rfl) rfl ?_
      refine XL_det .no (D_ldo rfl (by repeat first | with_reducible exact .here _ _ | with_reducible apply Out.there | with_reducible apply Out.app) tk_3 (by rfl)) rfl ?_
      refine XL_det .no (D_add rfl rfl (by omega) (by omega)) rfl ?_
      refine XL_det .no (D_fld rfl fld_24_4 (o' := 4) rfl) rfl ?_
      refine XL_efd .no (F_stl rfl rfl rfl (by repeat first | with_reducible exact .here _ _ | with_reducible apply Out.there | with_reducible apply Out.app) tk_3 (by repeat first | exact .zero _ _ _ | apply SetL.succ)) ?_
      refine XL_then ?_
      refine X_seq ?_
      refine X_region ?_
      refine XL_det .no (D_ldso rfl (by repeat first | with_reducible exact .here _ _ | with_reducible apply Out.there | with_reducible apply Out.app) tk_24 rfl (by rfl)) rfl ?_
      refine XL_efd .no (F_stw rfl rfl rfl (by repeat first | with_reducible exact .here _ _ | with_reducible apply Out.there | with_reducible apply Out.app) tk_24 rfl rfl) ?_
      refine XL_then ?_
      refine X_ret ?_
      refine inBlk_ret ?_
      refine thenX_ret ?_
      refine ret_ok (.nil _) (res_cell rfl rfl (by repeat first | with_reducible exact .here _ _ | with_reducible apply Out.there | with_reducible apply Out.app) tk_24 (by rfl)) ?_
      exact ⟨_, ⟨by rw [joinS, if_neg h1, if_pos h2]; rfl, rfl⟩, _, (by repeat first | with_reducible exact .nil _ | with_reducible exact .here _ _ | with_reducible exact Take.self _ | with_reducible apply Take.cons | with_reducible apply Out.there | with_reducible apply Take.skip | with_reducible exact Take.pre _ _ | with_reducible apply Out.app)⟩
    · try simp only [decide_eq_true_eq, decide_eq_false_iff_not, Bool.not_eq_true', Bool.not_eq_false', beq_iff_eq, bne_iff_ne, beq_eq_false_iff_ne, bne_eq_false_iff_eq, Int.not_lt, Int.not_le, gt_iff_lt, ge_iff_le, ne_eq] at h2
      refine X_skip ?_
      refine inBlk_normal ?_
      refine thenX_normal ?_
      refine X_seq ?_
      refine X_region ?_
      refine XL_det .no (D_fld rfl fld_24_0 (o' := 0) rfl) rfl ?_
      refine XL_det .no (D_ldo rfl (by repeat first | with_reducible exact .here _ _ | with_reducible apply Out.there | with_reducible apply Out.app) tk_3 (by rfl)) rfl ?_
      refine XL_det .no (D_fld rfl fld_24_0 (o' := 0) rfl) rfl ?_
      refine XL_det .no (D_ldo rfl (by repeat first | with_reducible exact .here _ _ | with_reducible apply Out.there | with_reducible apply Out.app) tk_3 (by rfl)) rfl ?_
      refine XL_det .no (D_add rfl rfl (by omega) (by omega)) rfl ?_
      refine XL_det .no (D_fld rfl fld_24_1 (o' := 1) rfl) rfl ?_
      refine XL_det .no (D_ldo rfl (by repeat first | with_reducible exact .here _ _ | with_reducible apply Out.there | with_reducible apply Out.app) tk_3 (by rfl)) rfl ?_
      refine XL_det .no (D_fld rfl fld_24_1 (o' := 1) rfl) rfl ?_
      refine XL_det .no (D_ldo rfl (by repeat first | with_reducible exact .here _ _ | with_reducible apply Out.there | with_reducible apply Out.app) tk_3 (by rfl)) rfl ?_
      refine XL_det .no (D_min rfl rfl) rfl ?_
      refine XL_det .no (D_fld rfl fld_24_2 (o' := 2) rfl) rfl ?_
      refine XL_det .no (D_ldo rfl (by repeat first | with_reducible exact .here _ _ | with_reducible apply Out.there | with_reducible apply Out.app) tk_3 (by rfl)) rfl ?_
      refine XL_det .no (D_fld rfl fld_24_2 (o' := 2) rfl) rfl ?_
      refine XL_det .no (D_ldo rfl (by repeat first | with_reducible exact .here _ _ | with_reducible apply Out.there | with_reducible apply Out.app) tk_3 (by rfl)) rfl ?_
      refine XL_det .no (D_max rfl rfl) rfl ?_
      refine XL_det .no (D_fld rfl fld_24_3 (o' := 3) rfl) rfl ?_
      refine XL_det .no (D_ldo rfl (by repeat first | with_reducible exact .here _ _ | with_reducible apply Out.there | with_reducible apply Out.app) tk_3 (by rfl)) rfl ?_
      refine XL_det .no (D_fld rfl fld_24_3 (o' := 3) rfl) rfl ?_
      refine XL_det .no (D_ldo rfl (by repeat first | with_reducible exact .here _ _ | with_reducible apply Out.there | with_reducible apply Out.app) tk_3 (by rfl)) rfl ?_
      refine XL_det .no (D_add rfl rfl (by omega) (by omega)) rfl ?_
      refine XL_det .no (D_fld rfl fld_24_4 (o' := 4) rfl) rfl ?_
      refine XL_det .no (D_ldo rfl (by repeat first | with_reducible exact .here _ _ | with_reducible apply Out.there | with_reducible apply Out.app) tk_3 (by rfl)) rfl ?_
      refine XL_det .no (D_fld rfl fld_24_4 (o' := 4) rfl) rfl ?_
      refine XL_det .no (D_ldo rfl (by repeat first | with_reducible exact .here _ _ | with_reducible apply Out.there | with_reducible apply Out.app) tk_3 (by rfl)) rfl ?_
      refine XL_det .no (D_add rfl rfl (by omega) (by omega)) rfl ?_
      refine XL_det .no (D_build [_, _, _, _, _] rfl bld_24 (by rfl)) rfl ?_
      refine XL_efd .no (F_stw rfl rfl rfl (by repeat first | with_reducible exact .here _ _ | with_reducible apply Out.there | with_reducible apply Out.app) tk_24 rfl rfl) ?_
      refine XL_then ?_
      refine X_ret ?_
      refine ret_ok (.nil _) (res_cell rfl rfl (by repeat first | with_reducible exact .here _ _ | with_reducible apply Out.there | with_reducible apply Out.app) tk_24 (by rfl)) ?_
      exact ⟨_, ⟨by rw [joinS, if_neg h1, if_neg h2], rfl⟩, _, (by repeat first | with_reducible exact .nil _ | with_reducible exact .here _ _ | with_reducible exact Take.self _ | with_reducible apply Take.cons | with_reducible apply Out.there | with_reducible apply Take.skip | with_reducible exact Take.pre _ _ | with_reducible apply Out.app)⟩

end Go.Proofs.Ytjcpggoodbkedaa
end

section
namespace Go.Proofs.Ytjcpggoodbkedaa
open Go Go.Sl
set_option linter.unusedVariables false
set_option linter.unusedSimpArgs false
set_option maxRecDepth 4000
variable {B : Nat} {K : Asrt B}
theorem en_37 : Go.Proofs.Enters Try.prog 37 := Go.Proofs.enters_of Try.func37 (by kernel_rfl) rfl
theorem en_38 : Go.Proofs.Enters Try.prog 38 := Go.Proofs.enters_of Try.func38 (by kernel_rfl) rfl
theorem slc_22 : slcOf Try.prog 22 = some (3, 1) := by kernel_rfl
theorem zk_24 : (match Try.prog.underlying 24 with | some (.struct _) => (bldOf Try.prog 24).isSome | some (.array _ e) => (Try.prog.info? e).isSome | _ => false) = true := by kernel_rfl

theorem most_t {s : St5} {n : Nat} {y : Int} (h : Fits s n) (hg : wi y > s.most) : wi y = (addS s y).most := by
  by_cases hz : s.many = 0
  · rw [addS_0 hz]
  · rw [addS_s hz]; show _ = max _ _; omega
theorem most_f {s : St5} {n : Nat} {y : Int} (h : Fits s n) (hg : ¬ wi y > s.most) : s.most = (addS s y).most := by
  by_cases hz : s.many = 0
  · rw [addS_0 hz]; have := (h.zero (by have := h.many; omega)).2; have := wi_le y; show s.most = wi y; omega
  · rw [addS_s hz]; show _ = max _ _; omega
theorem sum_s {s : St5} {n : Nat} {y : Int} (h : Fits s n) : s.sum + wi y = (addS s y).sum := by
  by_cases hz : s.many = 0
  · rw [addS_0 hz]; have := h.sum; have := h.many; show s.sum + wi y = wi y; omega
  · rw [addS_s hz]

theorem sadded (a : Arr Int) (ha : Rd K a.ad (a.l.flatMap encI)) (h1k : a.l.length ≤ 1000)  : Ctr Try.prog B 10 [.slice a.oad a.l.length a.c] [K] (fun v S => v = .agg (stc (fs a.l)).toArray ∧ S = [K]) := by
  refine Ctr_of_X (N := 19) Try.func10 rfl (by simp) rfl ?_
  intro w0 D0
  refine X_seq ?_
  refine X_region ?_
  refine XL_alloc (cs := stc z5) .no zero_24 rfl (fun b1 => ?_)
  refine XL_then ?_
  refine X_seq ?_
  refine X_region ?_
  refine XL_det .no (D_zero zero_24 zk_24) rfl ?_
  refine XL_alloc (cs := stc z5) .no zero_24 rfl (fun b2 => ?_)
  refine XL_efd .no (F_stw (vs := stc z5) rfl rfl (by rfl) (by repeat first | with_reducible exact .here _ _ | with_reducible apply Out.there | with_reducible apply Out.app) tk_24 rfl rfl) ?_
  refine XL_then ?_
  refine X_seq ?_
  refine X_seq ?_
  refine X_region ?_
  refine XL_det .no (D_pure rfl) rfl ?_
  refine XL_then ?_
  refine X_block ?_
  refine X_loop (α := Nat × St5) (fun ⟨i, t⟩ => i ≤ a.l.length ∧ t = (fs (a.l.take i))) (fun ⟨i, t⟩ => [(4, .int .i64 (i : Int)), (0, .slice a.oad a.l.length a.c), (2, .pointer (some ⟨b1, 0, none⟩)), (3, .pointer (some ⟨b2, 0, none⟩))]) (fun ⟨i, t⟩ => [blk b2 (stc t) 24, blk b1 (stc z5) 24, K]) (fun ⟨i, t⟩ => a.l.length - i) (0, z5) ?_ (by refine ⟨?_, ?_, ?_, ?_, trivial⟩ <;> rfl) (by repeat first | with_reducible exact .nil _ | with_reducible exact .here _ _ | with_reducible exact Take.self _ | with_reducible apply Take.cons | with_reducible apply Out.there | with_reducible apply Take.skip | with_reducible exact Take.pre _ _ | with_reducible apply Out.app) ?_
  · exact ⟨Nat.zero_le _, rfl⟩
  · rintro ⟨i, t⟩ ⟨hi, ht⟩
    dsimp only
    have hfi := fs_fits (a.l.take i)
    rw [List.length_take, Nat.min_eq_left hi, ← ht] at hfi
    have hfm := hfi.many
    have hfs := hfi.sum
    refine X_seq ?_
    refine X_seq ?_
    refine X_region ?_
    refine XL_det .no (D_pure rfl) rfl ?_
    refine XL_det .no (D_pure rfl) rfl ?_
    refine XL_det .no (D_len rfl rfl slc_22) rfl ?_
    refine XL_det .no (D_pure rfl) rfl ?_
    refine XL_then ?_
    refine X_cond rfl (fun h1 => ?_) (fun h1 => ?_)
    · try simp only [decide_eq_true_eq, decide_eq_false_iff_not, Bool.not_eq_true', Bool.not_eq_false', beq_iff_eq, bne_iff_ne, beq_eq_false_iff_ne, bne_eq_false_iff_eq, Int.not_lt, Int.not_le, gt_iff_lt, ge_iff_le, ne_eq] at h1
      obtain ⟨y, hg⟩ : ∃ y, a.l[i]? = some y := ⟨_, List.getElem?_eq_getElem (by omega)⟩
      refine X_skip ?_
      refine thenX_normal ?_
      refine X_seq ?_
      refine X_block ?_
      refine X_draw _ mixed (Take.self _) ?_
      refine XA_det 0 rfl (by kernel_rfl) (by kernel_rfl) (by kernel_rfl) (by kernel_rfl) (fun _ _ _ _ h => h) .no (D_ldso (vs := stc t) rfl (by repeat first | with_reducible exact .here _ _ | with_reducible apply Out.there | with_reducible apply Out.app) tk_24 rfl (by rfl)) rfl ?_
      refine XA_detp 1 rfl (by kernel_rfl) (by kernel_rfl) (by kernel_rfl) (fun _ _ _ _ h => h) .no (D_pureP rfl) rfl ?_
      refine XA_detp 2 rfl (by kernel_rfl) (by kernel_rfl) (by kernel_rfl) (fun _ _ _ _ h => h) .no (D_pureP rfl) rfl ?_
      refine XA_detp 3 rfl (by kernel_rfl) (by kernel_rfl) (by kernel_rfl) (fun _ _ _ _ h => h) .no (D_idxSoP rfl rfl slc_22 (a).nil0 rfl (by omega) rfl) rfl ?_
      refine XA_det 4 rfl (by kernel_rfl) (by kernel_rfl) (by kernel_rfl) (by kernel_rfl) (fun _ _ _ _ h => h) .no (D_ela (enc := encI) (sz := 1) (i := i) (k := 0) (fun _ => rfl) rfl (by repeat first | with_reducible exact .here _ _ | with_reducible apply Out.there | with_reducible apply Out.app) ha tk_3 hg rfl) rfl ?_
      refine XA_one 5 (by kernel_rfl) ?_
      refine XO_callv rfl .no en_37 rfl (sadd t y ⟨by omega, by omega⟩ ⟨hfs.1, by omega⟩) rfl ?_
      refine XA_one 6 (by kernel_rfl) ?_
      refine XO_efd rfl .no (by repeat first | with_reducible exact .nil _ | with_reducible apply App.cons) (F_stw (vs := stc (addS t y)) rfl rfl (by rfl) (by repeat first | with_reducible exact .here _ _ | with_reducible apply Out.there | with_reducible apply Out.app) tk_24 rfl rfl) (by kernel_rfl) ?_
      refine XA_done (by kernel_rfl) ?_
      try simp only [List.cons_append, List.nil_append, List.append_nil]
      refine inBlk_normal ?_
      refine thenX_normal ?_
      refine X_region ?_
      refine XL_det .no (D_pure rfl) rfl ?_
      refine XL_det .no (D_add rfl rfl (by omega) (by omega)) rfl ?_
      refine XL_det .no (D_pure rfl) rfl ?_
      refine XL_nil ?_
      refine loopQ_next (i + 1, addS t y) ?_ ?_ ?_ ?_
      · (try dsimp only); exact ⟨by omega, by rw [ht, fs_take hg]⟩
      · (try dsimp only); omega
      · refine ⟨?_, ?_, ?_, ?_, trivial⟩ <;> rfl
      · (try dsimp only); exact ⟨_, (by repeat first | with_reducible exact .nil _ | with_reducible exact .here _ _ | with_reducible exact Take.self _ | with_reducible apply Take.cons | with_reducible apply Out.there | with_reducible apply Take.skip | with_reducible exact Take.pre _ _ | with_reducible apply Out.app)⟩
    · try simp only [decide_eq_true_eq, decide_eq_false_iff_not, Bool.not_eq_true', Bool.not_eq_false', beq_iff_eq, bne_iff_ne, beq_eq_false_iff_ne, bne_eq_false_iff_eq, Int.not_lt, Int.not_le, gt_iff_lt, ge_iff_le, ne_eq] at h1
      refine X_exit ?_
      refine thenX_exit ?_
      refine loopQ_exit ?_
      refine inBlk_here ?_
      refine thenX_normal ?_
      refine X_seq ?_
      refine X_region ?_
      refine XL_det .no (D_ldso (vs := stc t) rfl (by repeat first | with_reducible exact .here _ _ | with_reducible apply Out.there | with_reducible apply Out.app) tk_24 rfl (by rfl)) rfl ?_
      refine XL_efd .no (F_stw rfl rfl rfl (by repeat first | with_reducible exact .here _ _ | with_reducible apply Out.there | with_reducible apply Out.app) tk_24 rfl rfl) ?_
      refine XL_then ?_
      refine X_ret ?_
      refine ret_ok (.nil _) (res_cell rfl rfl (by repeat first | with_reducible exact .here _ _ | with_reducible apply Out.there | with_reducible apply Out.app) tk_24 (by rfl)) ?_
      exact ⟨_, ⟨by rw [ht, show i = a.l.length by omega, List.take_length], rfl⟩, _, (by repeat first | with_reducible exact .nil _ | with_reducible exact .here _ _ | with_reducible exact Take.self _ | with_reducible apply Take.cons | with_reducible apply Out.there | with_reducible apply Take.skip | with_reducible exact Take.pre _ _ | with_reducible apply Out.app)⟩

theorem sof (a : Arr Int) (ha : Rd K a.ad (a.l.flatMap encI)) (h1k : a.l.length ≤ 1000) (late : Int)  : Ctr Try.prog B 11 [.slice a.oad a.l.length a.c, .int .i64 late] [K] (fun v S => v = .agg (stc (lw (fs a.l) late)).toArray ∧ S = [K]) := by
  refine Ctr_of_X (N := 45) Try.func11 rfl (by simp) rfl ?_
  intro w0 D0
  refine X_seq ?_
  refine X_region ?_
  refine XL_alloc (cs := stc z5) .no zero_24 rfl (fun b1 => ?_)
  refine XL_then ?_
  refine X_seq ?_
  refine X_region ?_
  refine XL_det .no (D_pure rfl) rfl ?_
  refine XL_det .no (D_len rfl rfl slc_22) rfl ?_
  refine XL_det .no (D_pure rfl) rfl ?_
  refine XL_det .no (D_build [_, _, _, _, _] rfl bld_24 (by rfl)) rfl ?_
  refine XL_alloc (cs := stc z5) .no zero_24 rfl (fun b2 => ?_)
  refine XL_efd .no (F_stw (vs := stc ⟨(a.l.length : Int), 0, 0, 0, late⟩) rfl rfl (by rfl) (by repeat first | with_reducible exact .here _ _ | with_reducible apply Out.there | with_reducible apply Out.app) tk_24 rfl rfl) ?_
  refine XL_then ?_
  refine X_seq ?_
  refine X_seq ?_
  refine X_region ?_
  refine XL_det .no (D_pure rfl) rfl ?_
  refine XL_then ?_
  refine X_block ?_
  refine X_loop (α := Nat × Int × Int × Int) (fun ⟨i, le, mo, su⟩ => i ≤ a.l.length ∧ le = (fs (a.l.take i)).least ∧ mo = (fs (a.l.take i)).most ∧ su = (fs (a.l.take i)).sum) (fun ⟨i, le, mo, su⟩ => [(6, .int .i64 (i : Int)), (0, .slice a.oad a.l.length a.c), (1, .int .i64 late), (4, .pointer (some ⟨b1, 0, none⟩)), (5, .pointer (some ⟨b2, 0, none⟩))]) (fun ⟨i, le, mo, su⟩ => [blk b2 (stc ⟨(a.l.length : Int), le, mo, su, late⟩) 24, blk b1 (stc z5) 24, K]) (fun ⟨i, le, mo, su⟩ => a.l.length - i) (0, 0, 0, 0) ?_ (by refine ⟨?_, ?_, ?_, ?_, ?_, trivial⟩ <;> rfl) (by repeat first | with_reducible exact .nil _ | with_reducible exact .here _ _ | with_reducible exact Take.self _ | with_reducible apply Take.cons | with_reducible apply Out.there | with_reducible apply Take.skip | with_reducible exact Take.pre _ _ | with_reducible apply Out.app) ?_
  · exact ⟨Nat.zero_le _, rfl, rfl, rfl⟩
  · rintro ⟨i, le, mo, su⟩ ⟨hi, hle, hmo, hsu⟩
    dsimp only
    have hfi := fs_fits (a.l.take i)
    rw [List.length_take, Nat.min_eq_left hi] at hfi
    have hfm := hfi.many
    have hfs := hfi.sum
    refine X_seq ?_
    refine X_seq ?_
    refine X_region ?_
    refine XL_det .no (D_pure rfl) rfl ?_
    refine XL_det .no (D_pure rfl) rfl ?_
    refine XL_det .no (D_len rfl rfl slc_22) rfl ?_
    refine XL_det .no (D_pure rfl) rfl ?_
    refine XL_then ?_
    refine X_cond rfl (fun h1 => ?_) (fun h1 => ?_)
    · try simp only [decide_eq_true_eq, decide_eq_false_iff_not, Bool.not_eq_true', Bool.not_eq_false', beq_iff_eq, bne_iff_ne, beq_eq_false_iff_ne, bne_eq_false_iff_eq, Int.not_lt, Int.not_le, gt_iff_lt, ge_iff_le, ne_eq] at h1
      obtain ⟨y, hg⟩ : ∃ y, a.l[i]? = some y := ⟨_, List.getElem?_eq_getElem (by omega)⟩
      have hwy := wi_le y
      refine X_skip ?_
      refine thenX_normal ?_
      refine X_seq ?_
      refine X_block ?_
      refine X_seq ?_
      refine X_region ?_
      refine XL_det .no (D_pure rfl) rfl ?_
      refine XL_det .no (D_pure rfl) rfl ?_
      refine XL_det .no (D_idxSo rfl rfl slc_22 (a).nil0 rfl (by omega) rfl) rfl ?_
      refine XL_det .no (D_ela (enc := encI) (sz := 1) (i := i) (k := 0) (fun _ => rfl) rfl (by repeat first | with_reducible exact .here _ _ | with_reducible apply Out.there | with_reducible apply Out.app) ha tk_3 hg rfl) rfl ?_
      refine XL_callv .no en_38 rfl (swithin y) rfl ?_
      refine XL_det .no (D_pure rfl) rfl ?_
      refine XL_then ?_
      refine X_seqj (α := Int) (fun le2 => le2 = (addS (fs (a.l.take i)) y).least) (fun le2 => [(0, .slice a.oad a.l.length a.c), (1, .int .i64 late), (4, .pointer (some ⟨b1, 0, none⟩)), (5, .pointer (some ⟨b2, 0, none⟩)), (6, .int .i64 (i : Int)), (7, .int .i64 (wi y))]) (fun le2 => [blk b2 (stc ⟨(a.l.length : Int), le2, mo, su, late⟩) 24, blk b1 (stc z5) 24, K]) ?_ ?_
      · skip
        refine X_seq ?_
        refine X_region ?_
        refine XL_det .no (D_pure rfl) rfl ?_
        refine XL_det .no (D_pure rfl) rfl ?_
        refine XL_det .no (D_pure rfl) rfl ?_
        refine XL_split (t := 25) rfl (fun h2 => ?_) (fun h2 => ?_)
        · try simp only [decide_eq_true_eq, decide_eq_false_iff_not, Bool.not_eq_true', Bool.not_eq_false', beq_iff_eq, bne_iff_ne, beq_eq_false_iff_ne, bne_eq_false_iff_eq, Int.not_lt, Int.not_le, gt_iff_lt, ge_iff_le, ne_eq] at h2
          refine XL_skip 25 rfl rfl rfl rfl rfl ?_
          refine XL_skip 25 rfl rfl rfl rfl rfl ?_
          refine XL_skip 25 rfl rfl rfl rfl rfl ?_
          refine XL_skip 25 rfl rfl rfl rfl rfl ?_
          refine XL_det .no (D_pure rfl) rfl ?_
          refine XL_then ?_
          refine X_cond_t rfl rfl ?_
          refine X_region ?_
          refine XL_det .no (D_pure rfl) rfl ?_
          refine XL_det .no (D_fld rfl fld_24_1 (o' := 1) rfl) rfl ?_
          refine XL_efd .no (F_stl rfl rfl rfl (by repeat first | with_reducible exact .here _ _ | with_reducible apply Out.there | with_reducible apply Out.app) tk_3 (by repeat first | exact .zero _ _ _ | apply SetL.succ)) ?_
          refine XL_nil ?_
          refine joinQ_normal (wi y) ?_ ?_ ?_
          · rw [addS_0 (by omega)]
          · refine ⟨?_, ?_, ?_, ?_, ?_, ?_, trivial⟩ <;> rfl
          · exact ⟨_, (by repeat first | with_reducible exact .nil _ | with_reducible exact .here _ _ | with_reducible exact Take.self _ | with_reducible apply Take.cons | with_reducible apply Out.there | with_reducible apply Take.skip | with_reducible exact Take.pre _ _ | with_reducible apply Out.app)⟩
        · try simp only [decide_eq_true_eq, decide_eq_false_iff_not, Bool.not_eq_true', Bool.not_eq_false', beq_iff_eq, bne_iff_ne, beq_eq_false_iff_ne, bne_eq_false_iff_eq, Int.not_lt, Int.not_le, gt_iff_lt, ge_iff_le, ne_eq] at h2
          refine XL_det (.yes 25 rfl rfl rfl) (D_pure rfl) rfl ?_
          refine XL_det (.yes 25 rfl rfl rfl) (D_fld rfl fld_24_1 (o' := 1) rfl) rfl ?_
          refine XL_det (.yes 25 rfl rfl rfl) (D_ldo rfl (by repeat first | with_reducible exact .here _ _ | with_reducible apply Out.there | with_reducible apply Out.app) tk_3 (by rfl)) rfl ?_
          refine XL_det (.yes 25 rfl rfl rfl) (D_pure rfl) rfl ?_
          refine XL_det .no (D_pure rfl) rfl ?_
          refine XL_then ?_
          refine X_cond rfl (fun h3 => ?_) (fun h3 => ?_)
          · try simp only [decide_eq_true_eq, decide_eq_false_iff_not, Bool.not_eq_true', Bool.not_eq_false', beq_iff_eq, bne_iff_ne, beq_eq_false_iff_ne, bne_eq_false_iff_eq, Int.not_lt, Int.not_le, gt_iff_lt, ge_iff_le, ne_eq] at h3
            refine X_region ?_
            refine XL_det .no (D_pure rfl) rfl ?_
            refine XL_det .no (D_fld rfl fld_24_1 (o' := 1) rfl) rfl ?_
            refine XL_efd .no (F_stl rfl rfl rfl (by repeat first | with_reducible exact .here _ _ | with_reducible apply Out.there | with_reducible apply Out.app) tk_3 (by repeat first | exact .zero _ _ _ | apply SetL.succ)) ?_
            refine XL_nil ?_
            refine joinQ_normal (wi y) ?_ ?_ ?_
            · rw [addS_s (by omega)]; show wi y = min _ _; omega
            · refine ⟨?_, ?_, ?_, ?_, ?_, ?_, trivial⟩ <;> rfl
            · exact ⟨_, (by repeat first | with_reducible exact .nil _ | with_reducible exact .here _ _ | with_reducible exact Take.self _ | with_reducible apply Take.cons | with_reducible apply Out.there | with_reducible apply Take.skip | with_reducible exact Take.pre _ _ | with_reducible apply Out.app)⟩
          · try simp only [decide_eq_true_eq, decide_eq_false_iff_not, Bool.not_eq_true', Bool.not_eq_false', beq_iff_eq, bne_iff_ne, beq_eq_false_iff_ne, bne_eq_false_iff_eq, Int.not_lt, Int.not_le, gt_iff_lt, ge_iff_le, ne_eq] at h3
            refine X_skip ?_
            refine joinQ_normal le ?_ ?_ ?_
            · rw [addS_s (by omega)]; show le = min _ _; omega
            · refine ⟨?_, ?_, ?_, ?_, ?_, ?_, trivial⟩ <;> rfl
            · exact ⟨_, (by repeat first | with_reducible exact .nil _ | with_reducible exact .here _ _ | with_reducible exact Take.self _ | with_reducible apply Take.cons | with_reducible apply Out.there | with_reducible apply Take.skip | with_reducible exact Take.pre _ _ | with_reducible apply Out.app)⟩
      · intro le2 hle2
        refine X_seqj (α := Int) (fun mo2 => mo2 = (addS (fs (a.l.take i)) y).most) (fun mo2 => [(0, .slice a.oad a.l.length a.c), (1, .int .i64 late), (4, .pointer (some ⟨b1, 0, none⟩)), (5, .pointer (some ⟨b2, 0, none⟩)), (6, .int .i64 (i : Int)), (7, .int .i64 (wi y))]) (fun mo2 => [blk b2 (stc ⟨(a.l.length : Int), le2, mo2, su, late⟩) 24, blk b1 (stc z5) 24, K]) ?_ ?_
        · skip
          refine X_seq ?_
          refine X_region ?_
          refine XL_det .no (D_pure rfl) rfl ?_
          refine XL_det .no (D_fld rfl fld_24_2 (o' := 2) rfl) rfl ?_
          refine XL_det .no (D_ldo rfl (by repeat first | with_reducible exact .here _ _ | with_reducible apply Out.there | with_reducible apply Out.app) tk_3 (by rfl)) rfl ?_
          refine XL_det .no (D_pure rfl) rfl ?_
          refine XL_then ?_
          refine X_cond rfl (fun h4 => ?_) (fun h4 => ?_)
          · try simp only [decide_eq_true_eq, decide_eq_false_iff_not, Bool.not_eq_true', Bool.not_eq_false', beq_iff_eq, bne_iff_ne, beq_eq_false_iff_ne, bne_eq_false_iff_eq, Int.not_lt, Int.not_le, gt_iff_lt, ge_iff_le, ne_eq] at h4
            refine X_region ?_
            refine XL_det .no (D_pure rfl) rfl ?_
            refine XL_det .no (D_fld rfl fld_24_2 (o' := 2) rfl) rfl ?_
            refine XL_efd .no (F_stl rfl rfl rfl (by repeat first | with_reducible exact .here _ _ | with_reducible apply Out.there | with_reducible apply Out.app) tk_3 (by repeat first | exact .zero _ _ _ | apply SetL.succ)) ?_
            refine XL_nil ?_
            refine joinQ_normal (wi y) ?_ ?_ ?_
            · rw [hmo] at *; exact most_t hfi (by assumption)
            · refine ⟨?_, ?_, ?_, ?_, ?_, ?_, trivial⟩ <;> rfl
            · exact ⟨_, (by repeat first | with_reducible exact .nil _ | with_reducible exact .here _ _ | with_reducible exact Take.self _ | with_reducible apply Take.cons | with_reducible apply Out.there | with_reducible apply Take.skip | with_reducible exact Take.pre _ _ | with_reducible apply Out.app)⟩
          · try simp only [decide_eq_true_eq, decide_eq_false_iff_not, Bool.not_eq_true', Bool.not_eq_false', beq_iff_eq, bne_iff_ne, beq_eq_false_iff_ne, bne_eq_false_iff_eq, Int.not_lt, Int.not_le, gt_iff_lt, ge_iff_le, ne_eq] at h4
            refine X_skip ?_
            refine joinQ_normal mo ?_ ?_ ?_
            · rw [hmo] at *; exact most_f hfi (by omega)
            · refine ⟨?_, ?_, ?_, ?_, ?_, ?_, trivial⟩ <;> rfl
            · exact ⟨_, (by repeat first | with_reducible exact .nil _ | with_reducible exact .here _ _ | with_reducible exact Take.self _ | with_reducible apply Take.cons | with_reducible apply Out.there | with_reducible apply Take.skip | with_reducible exact Take.pre _ _ | with_reducible apply Out.app)⟩
        · intro mo2 hmo2
          refine X_region ?_
          refine XL_det .no (D_fld rfl fld_24_3 (o' := 3) rfl) rfl ?_
          refine XL_det .no (D_ldo rfl (by repeat first | with_reducible exact .here _ _ | with_reducible apply Out.there | with_reducible apply Out.app) tk_3 (by rfl)) rfl ?_
          refine XL_det .no (D_pure rfl) rfl ?_
          refine XL_det .no (D_add (m := su) (n := wi y) rfl rfl (by omega) (by omega)) rfl ?_
          refine XL_det .no (D_fld rfl fld_24_3 (o' := 3) rfl) rfl ?_
          refine XL_efd .no (F_stl rfl rfl rfl (by repeat first | with_reducible exact .here _ _ | with_reducible apply Out.there | with_reducible apply Out.app) tk_3 (by repeat first | exact .zero _ _ _ | apply SetL.succ)) ?_
          refine XL_nil ?_
          refine inBlk_normal ?_
          refine thenX_normal ?_
          refine X_region ?_
          refine XL_det .no (D_pure rfl) rfl ?_
          refine XL_det .no (D_add rfl rfl (by omega) (by omega)) rfl ?_
          refine XL_det .no (D_pure rfl) rfl ?_
          refine XL_nil ?_
          refine loopQ_next (i + 1, le2, mo2, su + wi y) ?_ ?_ ?_ ?_
          · (try dsimp only); exact ⟨by omega, by rw [fs_take hg]; exact hle2, by rw [fs_take hg]; exact hmo2, by rw [fs_take hg, hsu]; exact sum_s hfi⟩
          · (try dsimp only); omega
          · refine ⟨?_, ?_, ?_, ?_, ?_, trivial⟩ <;> rfl
          · (try dsimp only); exact ⟨_, (by repeat first | with_reducible exact .nil _ | with_reducible exact .here _ _ | with_reducible exact Take.self _ | with_reducible apply Take.cons | with_reducible apply Out.there | with_reducible apply Take.skip | with_reducible exact Take.pre _ _ | with_reducible apply Out.app)⟩
    · try simp only [decide_eq_true_eq, decide_eq_false_iff_not, Bool.not_eq_true', Bool.not_eq_false', beq_iff_eq, bne_iff_ne, beq_eq_false_iff_ne, bne_eq_false_iff_eq, Int.not_lt, Int.not_le, gt_iff_lt, ge_iff_le, ne_eq] at h1
      refine X_exit ?_
      refine thenX_exit ?_
      refine loopQ_exit ?_
      refine inBlk_here ?_
      refine thenX_normal ?_
      refine X_seq ?_
      refine X_region ?_
      refine XL_det .no (D_ldso (vs := stc ⟨(a.l.length : Int), le, mo, su, late⟩) rfl (by repeat first | with_reducible exact .here _ _ | with_reducible apply Out.there | with_reducible apply Out.app) tk_24 rfl (by rfl)) rfl ?_
      refine XL_efd .no (F_stw rfl rfl rfl (by repeat first | with_reducible exact .here _ _ | with_reducible apply Out.there | with_reducible apply Out.app) tk_24 rfl rfl) ?_
      refine XL_then ?_
      refine X_ret ?_
      refine ret_ok (.nil _) (res_cell rfl rfl (by repeat first | with_reducible exact .here _ _ | with_reducible apply Out.there | with_reducible apply Out.app) tk_24 (by rfl)) ?_
      exact ⟨_, ⟨by rw [hle, hmo, hsu, show i = a.l.length by omega, List.take_length, ← (fs_fits a.l).many], rfl⟩, _, (by repeat first | with_reducible exact .nil _ | with_reducible exact .here _ _ | with_reducible exact Take.self _ | with_reducible apply Take.cons | with_reducible apply Out.there | with_reducible apply Take.skip | with_reducible exact Take.pre _ _ | with_reducible apply Out.app)⟩

end Go.Proofs.Ytjcpggoodbkedaa
end

section
namespace Go.Proofs.Ytjcpggoodbkedaa
open Go Go.Sl
set_option linter.unusedVariables false
set_option linter.unusedSimpArgs false
set_option maxRecDepth 4000
variable {B : Nat} {K : Asrt B}
theorem arrN_32 : arrN Try.prog 32 = some (16, 5) := by kernel_rfl
theorem tk_32 : tyK Try.prog 32 = some (true, 80) := by kernel_rfl

theorem l16_len {L : List St5} (h : L.length = 16) : (L.flatMap stc).length = 80 := by rw [flat_len (sz := 5) (fun _ => rfl), h]
theorem l16_take {L : List St5} (h : L.length = 16) : ((L.flatMap stc).drop 0).take 80 = L.flatMap stc := by rw [List.drop_zero, List.take_of_length_le (by rw [l16_len h]; exact Nat.le_refl _)]
def smF (i : Nat) : Option St5 → List (Nat × St5)
  | some s => if s.many > 0 then [(i, s)] else []
  | none => []
/-- The tasks of which there were jobs. -/
def smL (L : List St5) : Nat → List (Nat × St5)
  | 0 => []
  | n + 1 => smL L n ++ smF n L[n]?
theorem smL_t {L : List St5} {i : Nat} {q : St5} (h : L[i]? = some q) (hq : q.many > 0) : smL L (i + 1) = smL L i ++ [(i, q)] := by rw [smL, h, smF, if_pos hq]
theorem smL_f {L : List St5} {i : Nat} {q : St5} (h : L[i]? = some q) (hq : ¬ q.many > 0) : smL L (i + 1) = smL L i := by rw [smL, h, smF, if_neg hq, List.append_nil]
theorem smL_le (L : List St5) (n : Nat) : ∀ m, n ≤ m → ∃ r, smL L m = smL L n ++ r
  | 0, h => by have : n = 0 := by omega
               subst this; exact ⟨[], rfl⟩
  | m + 1, h => by
    rcases Nat.lt_or_ge n (m + 1) with h' | h'
    · obtain ⟨r, hr⟩ := smL_le L n m (by omega)
      exact ⟨r ++ smF m L[m]?, by rw [smL, hr, List.append_assoc]⟩
    · have : n = m + 1 := by omega
      subst this; exact ⟨[], by simp⟩
theorem smL_len (L : List St5) : ∀ n, (smL L n).length ≤ n
  | 0 => Nat.le_refl _
  | n + 1 => by
    have := smL_len L n
    rw [smL, List.length_append]
    have : (smF n L[n]?).length ≤ 1 := by
      cases L[n]? with
      | none => exact Nat.zero_le _
      | some s => show (if s.many > 0 then [(n, s)] else []).length ≤ 1; split <;> simp
    omega
theorem smL_get {L : List St5} {i : Nat} {q : St5} (hi : i < 16) (h : L[i]? = some q) (hq : q.many > 0) : (smL L i).length < (smL L 16).length ∧ (smL L 16)[(smL L i).length]? = some (i, q) := by
  obtain ⟨r, hr⟩ := smL_le L (i + 1) 16 (by omega)
  rw [hr, smL_t h hq]
  refine ⟨by simp, ?_⟩
  rw [List.append_assoc, List.getElem?_append_right (Nat.le_refl _)]; simp
theorem rdF_len : ∀ f n, (rdF f n).length ≤ f
  | 0, n => Nat.le_refl _
  | f + 1, n => by
    rw [rdF]; split
    · simp
    · have := rdF_len f (n / 10); simp; exact this
theorem txt_len (n : Int) : (txt n).length ≤ 11 := by
  unfold txt rd; have := rdF_len 10 (clamp n / 10); simp; exact this
abbrev nums (s : St5) : List Int := [s.many, s.least, meanS s, s.most, s.late]
def numT (l : List Int) : List UInt8 := l.flatMap fun n => 32 :: txt n
def lineS (p : Nat × St5) : List UInt8 := txt p.1 ++ numT (nums p.2) ++ [10]
def linesS (l : List (Nat × St5)) : List UInt8 := l.flatMap lineS
theorem numT_len : ∀ l : List Int, (numT l).length ≤ 12 * l.length
  | [] => Nat.le_refl _
  | n :: l => by have h1 := numT_len l; have h2 := txt_len n; unfold numT at *; simp; simp at h1; omega
theorem lineS_len (p : Nat × St5) : (lineS p).length ≤ 72 := by
  have h1 := numT_len (nums p.2); have h2 := txt_len p.1; unfold lineS; simp at *; omega
theorem linesS_len : ∀ l : List (Nat × St5), (linesS l).length ≤ 72 * l.length
  | [] => Nat.le_refl _
  | p :: l => by have h1 := linesS_len l; have h2 := lineS_len p; unfold linesS at *; simp; simp at h1; omega
theorem numT_s {l : List Int} {j : Nat} {n : Int} (h : l[j]? = some n) : numT (l.take (j + 1)) = numT (l.take j) ++ ([32] ++ txt n) := by
  unfold numT; rw [List.take_add_one, h, List.flatMap_append]; simp
theorem linesS_s {l : List (Nat × St5)} {j : Nat} {p : Nat × St5} (h : l[j]? = some p) : linesS (l.take (j + 1)) = linesS (l.take j) ++ lineS p := by
  unfold linesS; rw [List.take_add_one, h, List.flatMap_append]; simp
abbrev pV (p : Nat × St5) : List Value := [.int .i64 (p.1 : Int), .agg (stc p.2).toArray]
theorem smV_get {L : List St5} {i : Nat} {p : Nat × St5} (h : (smL L 16)[i]? = some p) : ((smL L 16).map pV).getD i [] = pV p := by simp [List.getD, h]
theorem mem_smL {L : List St5} {p : Nat × St5} : ∀ n, p ∈ smL L n → p.1 < n ∧ L[p.1]? = some p.2
  | 0, h => by cases h
  | n + 1, h => by
    rw [smL, List.mem_append] at h
    rcases h with h | h
    · have := mem_smL n h; exact ⟨by omega, this.2⟩
    · cases hq : L[n]? with
      | none => rw [hq] at h; cases h
      | some q =>
        rw [hq] at h
        have h : p ∈ (if q.many > 0 then [(n, q)] else []) := h
        split at h
        · have : p = (n, q) := by simpa using h
          subst this; exact ⟨Nat.lt_succ_self _, hq⟩
        · cases h

theorem sSome (L : List St5) (hL : L.length = 16) : Ctr Try.prog B 40 [.agg (L.flatMap stc).toArray] [] (fun v S => ∃ b, v = .func (.func 57) #[] #[.pointer (some ⟨b, 0, none⟩)] ∧ S = [blk b (L.flatMap stc) 32]) := by
  refine Ctr_of_X (N := 4) Try.func40 rfl (by simp) rfl ?_
  intro w0 D0
  refine X_seq ?_
  refine X_region ?_
  refine XL_box (cs := (L.flatMap stc)) .no rfl rfl rfl (fun b1 => ?_)
  refine XL_det .no (D_pure rfl) rfl ?_
  refine XL_then ?_
  refine X_seq ?_
  refine X_region ?_
  refine XL_det .no (D_pure rfl) rfl ?_
  refine XL_det .no (D_pure rfl) rfl ?_
  refine XL_then ?_
  refine X_ret ?_
  refine ret_ok (.nil _) (res_tmp rfl rfl) ?_
  exact ⟨[blk b1 (L.flatMap stc) 32], ⟨b1, rfl, rfl⟩, _, (by repeat first | with_reducible exact .nil _ | with_reducible exact .here _ _ | with_reducible exact Take.self _ | with_reducible apply Take.cons | with_reducible apply Out.there | with_reducible apply Take.skip | with_reducible exact Take.pre _ _ | with_reducible apply Out.app)⟩

theorem someItr (b : Nat) (L : List St5) (hL : L.length = 16) :
    Itr Try.prog B 57 [.pointer (some ⟨b, 0, none⟩)] [blk b (L.flatMap stc) 32] ((smL L 16).map pV) := by
  intro ly J Jx S0 hJ0 hy
  change Ctr _ _ _ _ (blk b (L.flatMap stc) 32 :: S0) _
  refine Ctr_of_X (N := 21) Try.func57 rfl (by simp) rfl ?_
  intro w0 D0
  refine X_seq ?_
  refine X_region ?_
  refine XL_det .no (D_ldso (vs := (L.flatMap stc)) rfl (by repeat first | with_reducible exact .here _ _ | with_reducible apply Out.there | with_reducible apply Out.app) tk_32 (by rw [l16_len hL]; rfl) (l16_take hL)) rfl ?_
  refine XL_det .no (D_pure rfl) rfl ?_
  refine XL_then ?_
  refine X_block ?_
  refine X_loop (α := Nat × List (Asrt B)) (fun ⟨i, S1⟩ => i ≤ 16 ∧ J (smL L i).length S1) (fun ⟨i, S1⟩ => [(6, .int .i64 (i : Int)), (0, .func (.yield ly) #[] #[]), (1, .pointer (some ⟨b, 0, none⟩)), (5, .agg (L.flatMap stc).toArray)]) (fun ⟨i, S1⟩ => blk b (L.flatMap stc) 32 :: S1) (fun ⟨i, S1⟩ => 16 - i) (0, S0) ?_ (by refine ⟨?_, ?_, ?_, ?_, trivial⟩ <;> rfl) (by repeat first | with_reducible exact .nil _ | with_reducible exact .here _ _ | with_reducible exact Take.self _ | with_reducible apply Take.cons | with_reducible apply Out.there | with_reducible apply Take.skip | with_reducible exact Take.pre _ _ | with_reducible apply Out.app) ?_
  · exact ⟨Nat.zero_le _, hJ0⟩
  · rintro ⟨i, S1⟩ ⟨hi, hJ⟩
    dsimp only
    refine X_seq ?_
    refine X_region ?_
    refine XL_det .no (D_pure rfl) rfl ?_
    refine XL_then ?_
    refine X_seq ?_
    refine X_cond rfl (fun h1 => ?_) (fun h1 => ?_)
    · try simp only [decide_eq_true_eq, decide_eq_false_iff_not, Bool.not_eq_true', Bool.not_eq_false', beq_iff_eq, bne_iff_ne, beq_eq_false_iff_ne, bne_eq_false_iff_eq, Int.not_lt, Int.not_le, gt_iff_lt, ge_iff_le, ne_eq] at h1
      obtain ⟨q, hg⟩ : ∃ q, L[i]? = some q := ⟨_, List.getElem?_eq_getElem (by omega)⟩
      refine X_skip ?_
      refine thenX_normal ?_
      refine X_seq ?_
      refine X_block ?_
      refine X_seq ?_
      refine X_region ?_
      refine XL_det .no (D_pure rfl) rfl ?_
      refine XL_det .no (D_idxaggl (enc := stc) (sz := 5) (fun _ => rfl) rfl rfl arrN_32 rfl (by omega) hg) rfl ?_
      refine XL_alloc (cs := stc z5) .no zero_24 rfl (fun b1 => ?_)
      refine XL_det .no (D_pure rfl) rfl ?_
      refine XL_efd .no (F_stw (vs := stc q) rfl rfl (by rfl) (by repeat first | with_reducible exact .here _ _ | with_reducible apply Out.there | with_reducible apply Out.app) tk_24 rfl rfl) ?_
      refine XL_then ?_
      refine X_seq ?_
      refine X_region ?_
      refine XL_det .no (D_fld rfl fld_24_0 (o' := 0) rfl) rfl ?_
      refine XL_det .no (D_ldo rfl (by repeat first | with_reducible exact .here _ _ | with_reducible apply Out.there | with_reducible apply Out.app) tk_3 (by rfl)) rfl ?_
      refine XL_det .no (D_pure rfl) rfl ?_
      refine XL_det .no (D_pure rfl) rfl ?_
      refine XL_split (t := 13) rfl (fun h2 => ?_) (fun h2 => ?_)
      · try simp only [decide_eq_true_eq, decide_eq_false_iff_not, Bool.not_eq_true', Bool.not_eq_false', beq_iff_eq, bne_iff_ne, beq_eq_false_iff_ne, bne_eq_false_iff_eq, Int.not_lt, Int.not_le, gt_iff_lt, ge_iff_le, ne_eq] at h2
        obtain ⟨hlt, hget⟩ := smL_get (by omega) hg h2
        have hyy := hy _ S1 (by rw [List.length_map]; exact hlt) hJ
        rw [smV_get hget] at hyy
        refine XL_det (.yes 13 rfl rfl rfl) (D_pure rfl) rfl ?_
        refine XL_det (.yes 13 rfl rfl rfl) (D_pure rfl) rfl ?_
        refine XL_det (.yes 13 rfl rfl rfl) (D_ldso (vs := stc q) rfl (by repeat first | with_reducible exact .here _ _ | with_reducible apply Out.there | with_reducible apply Out.app) tk_24 rfl (by rfl)) rfl ?_
        refine XL_yield (own := [blk b1 (stc q) 24, blk b (L.flatMap stc) 32]) (Si := S1) (.yes 13 rfl rfl rfl) rfl rfl hyy rfl ?_
        rintro bb S2 hp
        simp only [List.cons_append, List.nil_append]
        refine XL_det (.yes 13 rfl rfl rfl) (D_pure rfl) rfl ?_
        refine XL_det .no (D_pure rfl) rfl ?_
        refine XL_then ?_
        refine X_cond rfl (fun h3 => ?_) (fun h3 => ?_)
        · try simp only [decide_eq_true_eq, decide_eq_false_iff_not, Bool.not_eq_true', Bool.not_eq_false', beq_iff_eq, bne_iff_ne, beq_eq_false_iff_ne, bne_eq_false_iff_eq, Int.not_lt, Int.not_le, gt_iff_lt, ge_iff_le, ne_eq] at h3
          refine X_ret ?_
          refine inBlk_ret ?_
          refine thenX_ret ?_
          refine loopQ_ret ?_
          refine inBlk_ret ?_
          refine ret_ok (.nil _) (res_none rfl) ?_
          obtain ⟨h, _⟩ | ⟨_, hp⟩ := hp
          · rw [h] at h3; cases h3
          exact ⟨blk b (L.flatMap stc) 32 :: S2, ⟨S2, rfl, .inr ⟨_, by rw [List.length_map]; exact hlt, hp⟩⟩, _, (by repeat first | with_reducible exact .nil _ | with_reducible exact .here _ _ | with_reducible exact Take.self _ | with_reducible apply Take.cons | with_reducible apply Out.there | with_reducible apply Take.skip | with_reducible exact Take.pre _ _ | with_reducible apply Out.app)⟩
        · try simp only [decide_eq_true_eq, decide_eq_false_iff_not, Bool.not_eq_true', Bool.not_eq_false', beq_iff_eq, bne_iff_ne, beq_eq_false_iff_ne, bne_eq_false_iff_eq, Int.not_lt, Int.not_le, gt_iff_lt, ge_iff_le, ne_eq] at h3
          obtain ⟨_, hp⟩ | ⟨h, _⟩ := hp
          rotate_left
          · rw [h] at h3; cases h3
          refine X_skip ?_
          refine inBlk_normal ?_
          refine thenX_normal ?_
          refine X_region ?_
          refine XL_det .no (D_add rfl rfl (by omega) (by omega)) rfl ?_
          refine XL_det .no (D_pure rfl) rfl ?_
          refine XL_nil ?_
          refine loopQ_next (i + 1, S2) ?_ ?_ ?_ ?_
          · (try dsimp only); exact ⟨by omega, by rw [smL_t hg h2, List.length_append]; exact hp⟩
          · (try dsimp only); omega
          · refine ⟨?_, ?_, ?_, ?_, trivial⟩ <;> rfl
          · (try dsimp only); exact ⟨_, (by repeat first | with_reducible exact .nil _ | with_reducible exact .here _ _ | with_reducible exact Take.self _ | with_reducible apply Take.cons | with_reducible apply Out.there | with_reducible apply Take.skip | with_reducible exact Take.pre _ _ | with_reducible apply Out.app)⟩
      · try simp only [decide_eq_true_eq, decide_eq_false_iff_not, Bool.not_eq_true', Bool.not_eq_false', beq_iff_eq, bne_iff_ne, beq_eq_false_iff_ne, bne_eq_false_iff_eq, Int.not_lt, Int.not_le, gt_iff_lt, ge_iff_le, ne_eq] at h2
        refine XL_skip 13 rfl rfl rfl rfl rfl ?_
        refine XL_skip 13 rfl rfl rfl rfl rfl ?_
        refine XL_skip 13 rfl rfl rfl rfl rfl ?_
        refine XL_skip 13 rfl rfl rfl rfl rfl ?_
        refine XL_skip 13 rfl rfl rfl rfl rfl ?_
        refine XL_det .no (D_pure rfl) rfl ?_
        refine XL_then ?_
        refine X_cond_f rfl rfl ?_
        refine X_skip ?_
        refine inBlk_normal ?_
        refine thenX_normal ?_
        refine X_region ?_
        refine XL_det .no (D_add rfl rfl (by omega) (by omega)) rfl ?_
        refine XL_det .no (D_pure rfl) rfl ?_
        refine XL_nil ?_
        refine loopQ_next (i + 1, S1) ?_ ?_ ?_ ?_
        · (try dsimp only); exact ⟨by omega, by rw [smL_f hg (by omega)]; exact hJ⟩
        · (try dsimp only); omega
        · refine ⟨?_, ?_, ?_, ?_, trivial⟩ <;> rfl
        · (try dsimp only); exact ⟨_, (by repeat first | with_reducible exact .nil _ | with_reducible exact .here _ _ | with_reducible exact Take.self _ | with_reducible apply Take.cons | with_reducible apply Out.there | with_reducible apply Take.skip | with_reducible exact Take.pre _ _ | with_reducible apply Out.app)⟩
    · try simp only [decide_eq_true_eq, decide_eq_false_iff_not, Bool.not_eq_true', Bool.not_eq_false', beq_iff_eq, bne_iff_ne, beq_eq_false_iff_ne, bne_eq_false_iff_eq, Int.not_lt, Int.not_le, gt_iff_lt, ge_iff_le, ne_eq] at h1
      refine X_exit ?_
      refine thenX_exit ?_
      refine loopQ_exit ?_
      refine inBlk_here ?_
      refine ret_okn (.nil _) (res_none rfl) ?_
      obtain rfl : i = 16 := by omega
      exact ⟨blk b (L.flatMap stc) 32 :: S1, ⟨S1, rfl, .inl (by rw [List.length_map]; exact hJ)⟩, _, (by repeat first | with_reducible exact .nil _ | with_reducible exact .here _ _ | with_reducible exact Take.self _ | with_reducible apply Take.cons | with_reducible apply Out.there | with_reducible apply Take.skip | with_reducible exact Take.pre _ _ | with_reducible apply Out.app)⟩

end Go.Proofs.Ytjcpggoodbkedaa
end

section
namespace Go.Proofs.Ytjcpggoodbkedaa
open Go Go.Sl
set_option linter.unusedVariables false
set_option linter.unusedSimpArgs false
set_option maxRecDepth 4000
variable {B : Nat} {K : Asrt B}
theorem arr1_89 : arr1 Try.prog 89 = some 5 := by kernel_rfl
theorem bldA_89 : bldA Try.prog 89 = some ([.int .i64 0, .int .i64 0, .int .i64 0, .int .i64 0, .int .i64 0], 5, 1) := by kernel_rfl
theorem en_13 : Go.Proofs.Enters Try.prog 13 := Go.Proofs.enters_of Try.func13 (by kernel_rfl) rfl
theorem en_40 : Go.Proofs.Enters Try.prog 40 := Go.Proofs.enters_of Try.func40 (by kernel_rfl) rfl
theorem en_41 : Go.Proofs.Enters Try.prog 41 := Go.Proofs.enters_of Try.func41 (by kernel_rfl) rfl
theorem en_57 : Go.Proofs.Enters Try.prog 57 := Go.Proofs.enters_of Try.func57 (by kernel_rfl) rfl
theorem tk_9 : tyK Try.prog 9 = some (false, 1) := by kernel_rfl
theorem zero_9 : zeroOf Try.prog 9 = some [.string ByteArray.empty] := by kernel_rfl

theorem num_get {s : St5} {j : Nat} {n : Int} (h : (nums s)[j]? = some n) : [Value.int .i64 s.many, .int .i64 s.least, .int .i64 (meanS s), .int .i64 s.most, .int .i64 s.late][j]? = some (.int .i64 n) := by
  have : [Value.int .i64 s.many, .int .i64 s.least, .int .i64 (meanS s), .int .i64 s.most, .int .i64 s.late] = (nums s).map (Value.int .i64) := rfl
  rw [this, List.getElem?_map, h]; rfl


def sumOk (s : St5) : Prop := 0 ≤ s.sum ∧ s.sum ≤ 1000000000000
theorem acc_len {L : List St5} {i : Nat} : (linesS ((smL L 16).take i)).length ≤ 1152 := by
  have h1 := linesS_len ((smL L 16).take i); have h2 := smL_len L 16
  rw [List.length_take] at h1; omega
theorem num5_len (p : St5) (j : Nat) : (numT ((nums p).take j)).length ≤ 60 := by
  have h1 := numT_len ((nums p).take j); rw [List.length_take] at h1
  have : (nums p).length = 5 := rfl
  omega
def textS (L : List St5) : List UInt8 := linesS (smL L 16)

theorem sText (L : List St5) (hL : L.length = 16) (hs : ∀ q ∈ L, sumOk q) : Ctr Try.prog B 18 [.agg (L.flatMap stc).toArray] [] (fun v S => v = str (textS L) ∧ S = []) := by
  refine Ctr_of_X (N := 39) Try.func18 rfl (by simp) rfl ?_
  intro w0 D0
  refine X_seq ?_
  refine X_region ?_
  refine XL_box (cs := (L.flatMap stc)) .no rfl rfl rfl (fun b1 => ?_)
  refine XL_det .no (D_pure rfl) rfl ?_
  refine XL_then ?_
  refine X_seq ?_
  refine X_region ?_
  refine XL_alloc .no zero_9 rfl (fun b2 => ?_)
  refine XL_efd .no (F_stl rfl rfl rfl (by repeat first | with_reducible exact .here _ _ | with_reducible apply Out.there | with_reducible apply Out.app) tk_9 (by repeat first | exact .zero _ _ _ | apply SetL.succ)) ?_
  refine XL_then ?_
  refine X_seq ?_
  refine X_seq ?_
  refine X_region ?_
  refine XL_det .no (D_ldso (vs := (L.flatMap stc)) rfl (by repeat first | with_reducible exact .here _ _ | with_reducible apply Out.there | with_reducible apply Out.app) tk_32 (by rw [l16_len hL]; rfl) (l16_take hL)) rfl ?_
  refine XL_call .no en_40 rfl (sSome L hL) (by repeat first | with_reducible exact .nil _ | with_reducible exact .here _ _ | with_reducible exact Take.self _ | with_reducible apply Take.cons | with_reducible apply Out.there | with_reducible apply Take.skip | with_reducible exact Take.pre _ _ | with_reducible apply Out.app) rfl ?_
  rintro _ _ ⟨bs, rfl, rfl⟩
  simp only [List.cons_append, List.nil_append]
  refine XL_then ?_
  refine X_block ?_
  refine X_range (own := [blk bs (L.flatMap stc) 32]) (S1 := [blk b2 [str ([])] 9]) rfl en_57 (someItr bs L hL) (fun i S => True ∧ S = [blk b2 [str (linesS ((smL L 16).take i))] 9]) (fun c i S => False) (show Take ([blk bs (L.flatMap stc) 32, blk b2 [str ([])] 9]) _ _ from (by repeat first | with_reducible exact .nil _ | with_reducible exact .here _ _ | with_reducible exact Take.self _ | with_reducible apply Take.cons | with_reducible apply Out.there | with_reducible apply Take.skip | with_reducible exact Take.pre _ _ | with_reducible apply Out.app)) (⟨trivial, rfl⟩) rfl (fun x hx => by obtain ⟨y, _, rfl⟩ := List.mem_map.1 hx; rfl) ?_ ?_ ?_
  · intro ly rec A2 i S2 hi hJ
    obtain ⟨_, rfl⟩ := hJ
    rw [List.length_map] at hi
    obtain ⟨p, hp⟩ : ∃ p, (smL L 16)[i]? = some p := ⟨_, List.getElem?_eq_getElem hi⟩
    rw [smV_get hp]
    have hps := hs p.2 (List.mem_of_getElem? (mem_smL 16 (List.mem_of_getElem? hp)).2)
    have hac := acc_len (L := L) (i := i)
    have htl := txt_len (p.1 : Int)
    refine X_seq ?_
    refine X_region ?_
    refine XL_det .no (D_pure rfl) rfl ?_
    refine XL_then ?_
    refine X_region ?_
    refine XL_alloc (cs := stc z5) .no zero_24 rfl (fun b3 => ?_)
    refine XL_efd .no (F_stw (vs := stc p.2) rfl rfl (by rfl) (by repeat first | with_reducible exact .here _ _ | with_reducible apply Out.there | with_reducible apply Out.app) tk_24 rfl rfl) ?_
    refine XL_nil ?_
    refine ⟨rfl, _, _, .cons (by repeat first | with_reducible exact .here _ _ | with_reducible apply Out.there | with_reducible apply Out.app) (Take.self _), fun rec2 => ?_⟩
    refine X_block ?_
    refine X_seq ?_
    refine X_draw _ mixed (Take.self _) ?_
    refine XA_det 0 rfl (by kernel_rfl) (by kernel_rfl) (by kernel_rfl) (by kernel_rfl) (fun _ _ _ _ h => h) .no (D_ldo rfl (by repeat first | with_reducible exact .here _ _ | with_reducible apply Out.there | with_reducible apply Out.app) tk_9 (by rfl)) rfl ?_
    refine XA_detp 1 rfl (by kernel_rfl) (by kernel_rfl) (by kernel_rfl) (fun _ _ _ _ h => h) .no (D_pureP rfl) rfl ?_
    refine XA_one 2 (by kernel_rfl) ?_
    refine XO_callv rfl .no en_41 rfl (dtext (p.1 : Int)) rfl ?_
    refine XA_det 3 rfl (by kernel_rfl) (by kernel_rfl) (by kernel_rfl) (by kernel_rfl) (fun _ _ _ _ h => h) .no (D_scat rfl rfl (by omega)) rfl ?_
    refine XA_one 4 (by kernel_rfl) ?_
    refine XO_efd rfl .no (by repeat first | with_reducible exact .nil _ | with_reducible apply App.cons) (F_st (k := 0) (cs' := [str (linesS ((smL L 16).take i) ++ txt (p.1 : Int))]) rfl rfl rfl (by repeat first | with_reducible exact .here _ _ | with_reducible apply Out.there | with_reducible apply Out.app) tk_9 rfl (rfl)) (by kernel_rfl) ?_
    refine XA_done (by kernel_rfl) ?_
    try simp only [List.cons_append, List.nil_append, List.append_nil]
    refine thenX_normal ?_
    refine X_seq ?_
    refine X_seq ?_
    refine X_draw _ mixed (Take.self _) ?_
    refine XA_det 0 rfl (by kernel_rfl) (by kernel_rfl) (by kernel_rfl) (by kernel_rfl) (fun _ _ _ _ h => h) .no (D_fld rfl fld_24_0 (o' := 0) rfl) rfl ?_
    refine XA_det 1 rfl (by kernel_rfl) (by kernel_rfl) (by kernel_rfl) (by kernel_rfl) (fun _ _ _ _ h => h) .no (D_ldo rfl (by repeat first | with_reducible exact .here _ _ | with_reducible apply Out.there | with_reducible apply Out.app) tk_3 (by rfl)) rfl ?_
    refine XA_det 2 rfl (by kernel_rfl) (by kernel_rfl) (by kernel_rfl) (by kernel_rfl) (fun _ _ _ _ h => h) .no (D_fld rfl fld_24_1 (o' := 1) rfl) rfl ?_
    refine XA_det 3 rfl (by kernel_rfl) (by kernel_rfl) (by kernel_rfl) (by kernel_rfl) (fun _ _ _ _ h => h) .no (D_ldo rfl (by repeat first | with_reducible exact .here _ _ | with_reducible apply Out.there | with_reducible apply Out.app) tk_3 (by rfl)) rfl ?_
    refine XA_det 4 rfl (by kernel_rfl) (by kernel_rfl) (by kernel_rfl) (by kernel_rfl) (fun _ _ _ _ h => h) .no (D_ldso (vs := stc p.2) rfl (by repeat first | with_reducible exact .here _ _ | with_reducible apply Out.there | with_reducible apply Out.app) tk_24 rfl (by rfl)) rfl ?_
    refine XA_det 6 rfl (by kernel_rfl) (by kernel_rfl) (by kernel_rfl) (by kernel_rfl) (fun _ _ _ _ h => h) .no (D_fld rfl fld_24_2 (o' := 2) rfl) rfl ?_
    refine XA_det 7 rfl (by kernel_rfl) (by kernel_rfl) (by kernel_rfl) (by kernel_rfl) (fun _ _ _ _ h => h) .no (D_ldo rfl (by repeat first | with_reducible exact .here _ _ | with_reducible apply Out.there | with_reducible apply Out.app) tk_3 (by rfl)) rfl ?_
    refine XA_det 8 rfl (by kernel_rfl) (by kernel_rfl) (by kernel_rfl) (by kernel_rfl) (fun _ _ _ _ h => h) .no (D_fld rfl fld_24_4 (o' := 4) rfl) rfl ?_
    refine XA_det 9 rfl (by kernel_rfl) (by kernel_rfl) (by kernel_rfl) (by kernel_rfl) (fun _ _ _ _ h => h) .no (D_ldo rfl (by repeat first | with_reducible exact .here _ _ | with_reducible apply Out.there | with_reducible apply Out.app) tk_3 (by rfl)) rfl ?_
    refine XA_detp 11 rfl (by kernel_rfl) (by kernel_rfl) (by kernel_rfl) (fun _ _ _ _ h => h) .no (D_pureP rfl) rfl ?_
    refine XA_one 5 (by kernel_rfl) ?_
    refine XO_callv rfl .no en_13 rfl (smean p.2 hps) rfl ?_
    refine XA_det 10 rfl (by kernel_rfl) (by kernel_rfl) (by kernel_rfl) (by kernel_rfl) (fun _ _ _ _ h => h) .no (D_buildA (cs := [Value.int .i64 p.2.many, .int .i64 p.2.least, .int .i64 (meanS p.2), .int .i64 p.2.most, .int .i64 p.2.late]) rfl bldA_89 rfl (by rfl)) rfl ?_
    refine XA_done (by kernel_rfl) ?_
    try simp only [List.cons_append, List.nil_append, List.append_nil]
    refine thenX_normal ?_
    refine X_block ?_
    rw [show (linesS ((smL L 16).take i) ++ txt (p.1 : Int)) = linesS ((smL L 16).take i) ++ txt (p.1 : Int) ++ numT ((nums p.2).take 0) from (List.append_nil _).symm]
    refine X_loop (α := Nat) (fun j => j ≤ 5) (fun j => [(27, .int .i64 (j : Int)), (1, .pointer (some ⟨b1, 0, none⟩)), (3, .pointer (some ⟨b2, 0, none⟩)), (5, .pointer (some ⟨b3, 0, none⟩)), (26, .agg ([Value.int .i64 p.2.many, .int .i64 p.2.least, .int .i64 (meanS p.2), .int .i64 p.2.most, .int .i64 p.2.late]).toArray)]) (fun j => [obj ly (.loop rec2), blk b2 [str (linesS ((smL L 16).take i) ++ txt (p.1 : Int) ++ numT ((nums p.2).take j))] 9, blk b3 (stc p.2) 24]) (fun j => 5 - j) 0 ?_ (by refine ⟨?_, ?_, ?_, ?_, ?_, trivial⟩ <;> rfl) (by repeat first | with_reducible exact .nil _ | with_reducible exact .here _ _ | with_reducible exact Take.self _ | with_reducible apply Take.cons | with_reducible apply Out.there | with_reducible apply Take.skip | with_reducible exact Take.pre _ _ | with_reducible apply Out.app) ?_
    · exact Nat.zero_le _
    · intro j hj
      refine X_seq ?_
      refine X_region ?_
      refine XL_det .no (D_pure rfl) rfl ?_
      refine XL_then ?_
      refine X_seq ?_
      refine X_cond rfl (fun h1 => ?_) (fun h1 => ?_)
      · try simp only [decide_eq_true_eq, decide_eq_false_iff_not, Bool.not_eq_true', Bool.not_eq_false', beq_iff_eq, bne_iff_ne, beq_eq_false_iff_ne, bne_eq_false_iff_eq, Int.not_lt, Int.not_le, gt_iff_lt, ge_iff_le, ne_eq] at h1
        obtain ⟨n, hn⟩ : ∃ n, (nums p.2)[j]? = some n := ⟨_, List.getElem?_eq_getElem (by show j < 5; omega)⟩
        have hnl := num5_len p.2 j
        have htn := txt_len n
        refine X_skip ?_
        refine thenX_normal ?_
        refine X_seq ?_
        refine X_block ?_
        refine X_seq ?_
        refine X_region ?_
        refine XL_det .no (D_idxagg rfl rfl arr1_89 rfl (by omega) (num_get hn)) rfl ?_
        refine XL_det .no (D_pure rfl) rfl ?_
        refine XL_then ?_
        refine X_draw _ mixed (Take.self _) ?_
        refine XA_det 0 rfl (by kernel_rfl) (by kernel_rfl) (by kernel_rfl) (by kernel_rfl) (fun _ _ _ _ h => h) .no (D_ldo rfl (by repeat first | with_reducible exact .here _ _ | with_reducible apply Out.there | with_reducible apply Out.app) tk_9 (by rfl)) rfl ?_
        refine XA_detp 1 rfl (by kernel_rfl) (by kernel_rfl) (by kernel_rfl) (fun _ _ _ _ h => h) .no (D_pureP rfl) rfl ?_
        refine XA_one 2 (by kernel_rfl) ?_
        refine XO_callv rfl .no en_41 rfl (dtext n) rfl ?_
        refine XA_det 3 rfl (by kernel_rfl) (by kernel_rfl) (by kernel_rfl) (by kernel_rfl) (fun _ _ _ _ h => h) .no (D_scat (a := [32]) rfl rfl (by simp; omega)) rfl ?_
        refine XA_det 4 rfl (by kernel_rfl) (by kernel_rfl) (by kernel_rfl) (by kernel_rfl) (fun _ _ _ _ h => h) .no (D_scat rfl rfl (by simp; omega)) rfl ?_
        refine XA_one 5 (by kernel_rfl) ?_
        refine XO_efd rfl .no (by repeat first | with_reducible exact .nil _ | with_reducible apply App.cons) (F_st (k := 0) (cs' := [str (linesS ((smL L 16).take i) ++ txt (p.1 : Int) ++ numT ((nums p.2).take (j + 1)))]) rfl rfl rfl (by repeat first | with_reducible exact .here _ _ | with_reducible apply Out.there | with_reducible apply Out.app) tk_9 rfl (by show [str _] = _; rw [numT_s hn]; simp only [List.append_assoc])) (by kernel_rfl) ?_
        refine XA_done (by kernel_rfl) ?_
        try simp only [List.cons_append, List.nil_append, List.append_nil]
        refine inBlk_normal ?_
        refine thenX_normal ?_
        refine X_region ?_
        refine XL_det .no (D_add rfl rfl (by omega) (by omega)) rfl ?_
        refine XL_det .no (D_pure rfl) rfl ?_
        refine XL_nil ?_
        refine loopQ_next (j + 1) ?_ ?_ ?_ ?_
        · omega
        · omega
        · refine ⟨?_, ?_, ?_, ?_, ?_, trivial⟩ <;> rfl
        · exact ⟨_, (by repeat first | with_reducible exact .nil _ | with_reducible exact .here _ _ | with_reducible exact Take.self _ | with_reducible apply Take.cons | with_reducible apply Out.there | with_reducible apply Take.skip | with_reducible exact Take.pre _ _ | with_reducible apply Out.app)⟩
      · try simp only [decide_eq_true_eq, decide_eq_false_iff_not, Bool.not_eq_true', Bool.not_eq_false', beq_iff_eq, bne_iff_ne, beq_eq_false_iff_ne, bne_eq_false_iff_eq, Int.not_lt, Int.not_le, gt_iff_lt, ge_iff_le, ne_eq] at h1
        obtain rfl : j = 5 := by omega
        refine X_exit ?_
        refine thenX_exit ?_
        refine loopQ_exit ?_
        refine inBlk_here ?_
        refine thenX_normal ?_
        refine X_region ?_
        refine XL_det .no (D_ldo rfl (by repeat first | with_reducible exact .here _ _ | with_reducible apply Out.there | with_reducible apply Out.app) tk_9 (by rfl)) rfl ?_
        refine XL_det .no (D_scat (b := [10]) rfl rfl (by have := num5_len p.2 5; simp at *; omega)) rfl ?_
        refine XL_efd .no (F_st (k := 0) (cs' := [str (linesS ((smL L 16).take (i + 1)))]) rfl rfl rfl (by repeat first | with_reducible exact .here _ _ | with_reducible apply Out.there | with_reducible apply Out.app) tk_9 rfl (by show [str _] = _; rw [linesS_s hp]; unfold lineS; simp only [List.append_assoc]; rfl)) ?_
        refine XL_nil ?_
        refine inBlk_normal ?_
        exact ⟨[blk b2 [str (linesS ((smL L 16).take (i + 1)))] 9], _, (by repeat first | with_reducible exact .nil _ | with_reducible exact .here _ _ | with_reducible exact Take.self _ | with_reducible apply Take.cons | with_reducible apply Out.there | with_reducible apply Take.skip | with_reducible exact Take.pre _ _ | with_reducible apply Out.app), ⟨trivial, rfl⟩⟩
  · intro dd0 S2 hJ
    obtain ⟨_, rfl⟩ := hJ
    rw [List.length_map, List.take_length]
    simp only [List.cons_append, List.nil_append]
    refine inBlk_normal ?_
    refine thenX_normal ?_
    refine X_seq ?_
    refine X_region ?_
    refine XL_det .no (D_ldo rfl (by repeat first | with_reducible exact .here _ _ | with_reducible apply Out.there | with_reducible apply Out.app) tk_9 (by rfl)) rfl ?_
    refine XL_det .no (D_pure rfl) rfl ?_
    refine XL_then ?_
    refine X_ret ?_
    refine ret_ok (show Take [dfr dd0] _ _ from (by repeat first | with_reducible exact .nil _ | with_reducible exact .here _ _ | with_reducible exact Take.self _ | with_reducible apply Take.cons | with_reducible apply Out.there | with_reducible apply Take.skip | with_reducible exact Take.pre _ _ | with_reducible apply Out.app)) (res_tmp rfl rfl) ?_
    exact ⟨_, ⟨rfl, rfl⟩, _, (by repeat first | with_reducible exact .nil _ | with_reducible exact .here _ _ | with_reducible exact Take.self _ | with_reducible apply Take.cons | with_reducible apply Out.there | with_reducible apply Take.skip | with_reducible exact Take.pre _ _ | with_reducible apply Out.app)⟩
  · intro dd0 c i S2 hi h
    exact h.elim

end Go.Proofs.Ytjcpggoodbkedaa
end

section
namespace Go.Proofs.Ytjcpggoodbkedaa
open Go Go.Sl
set_option linter.unusedVariables false
set_option linter.unusedSimpArgs false
set_option maxRecDepth 4000
variable {B : Nat} {K : Asrt B}
theorem bldA_32 : bldA Try.prog 32 = some ([.int .i64 0, .int .i64 0, .int .i64 0, .int .i64 0, .int .i64 0, .int .i64 0, .int .i64 0, .int .i64 0, .int .i64 0, .int .i64 0, .int .i64 0, .int .i64 0, .int .i64 0, .int .i64 0, .int .i64 0, .int .i64 0, .int .i64 0, .int .i64 0, .int .i64 0, .int .i64 0, .int .i64 0, .int .i64 0, .int .i64 0, .int .i64 0, .int .i64 0, .int .i64 0, .int .i64 0, .int .i64 0, .int .i64 0, .int .i64 0, .int .i64 0, .int .i64 0, .int .i64 0, .int .i64 0, .int .i64 0, .int .i64 0, .int .i64 0, .int .i64 0, .int .i64 0, .int .i64 0, .int .i64 0, .int .i64 0, .int .i64 0, .int .i64 0, .int .i64 0, .int .i64 0, .int .i64 0, .int .i64 0, .int .i64 0, .int .i64 0, .int .i64 0, .int .i64 0, .int .i64 0, .int .i64 0, .int .i64 0, .int .i64 0, .int .i64 0, .int .i64 0, .int .i64 0, .int .i64 0, .int .i64 0, .int .i64 0, .int .i64 0, .int .i64 0, .int .i64 0, .int .i64 0, .int .i64 0, .int .i64 0, .int .i64 0, .int .i64 0, .int .i64 0, .int .i64 0, .int .i64 0, .int .i64 0, .int .i64 0, .int .i64 0, .int .i64 0, .int .i64 0, .int .i64 0, .int .i64 0], 16, 5) := by kernel_rfl
theorem en_10 : Go.Proofs.Enters Try.prog 10 := Go.Proofs.enters_of Try.func10 (by kernel_rfl) rfl
theorem en_11 : Go.Proofs.Enters Try.prog 11 := Go.Proofs.enters_of Try.func11 (by kernel_rfl) rfl
theorem en_12 : Go.Proofs.Enters Try.prog 12 := Go.Proofs.enters_of Try.func12 (by kernel_rfl) rfl
theorem en_14 : Go.Proofs.Enters Try.prog 14 := Go.Proofs.enters_of Try.func14 (by kernel_rfl) rfl
theorem en_18 : Go.Proofs.Enters Try.prog 18 := Go.Proofs.enters_of Try.func18 (by kernel_rfl) rfl
theorem eqg_24 : Try.prog.eqGuardType Try.prog.depth 24 = false := by kernel_rfl
theorem eqk_24 : eqKinds Try.prog 12 24 = some [some .i64, some .i64, some .i64, some .i64, some .i64] := by kernel_rfl
theorem fld1_24_3 : fld1 Try.prog 24 3 = some 3 := by kernel_rfl
theorem slt_22 : slT Try.prog 22 = some (3, 1, 8, [.int .i64 0]) := by kernel_rfl

theorem bt {m n : Int} (h : m = n) : some (Value.bool (m == n)) = some (.bool true) := by simp [h]
theorem st_same (x : St5) : cellsEq (stc x) (stc x) = true := by simp [cellsEq, veq]
abbrev s40 : St5 := addS (addS z5 3) 6
abbrev l40 : List St5 := [s40, z5, z5, z5, z5, z5, z5, z5, z5, z5, z5, z5, z5, z5, z5, z5]
theorem mean40 : meanS s40 = 4 := by kernel_rfl
theorem text40 : textS l40 = [48, 32, 50, 32, 51, 32, 52, 32, 54, 32, 48, 10] := by kernel_rfl
theorem ok40 : ∀ q ∈ l40, sumOk q := by
  intro q hq
  simp only [List.mem_cons, List.not_mem_nil, or_false] at hq
  rcases hq with rfl | rfl | rfl | rfl | rfl | rfl | rfl | rfl | rfl | rfl | rfl | rfl | rfl | rfl | rfl | rfl <;> exact ⟨by decide, by decide⟩
theorem mean_fs (a : List Int) (late : Int) : meanS (lw (fs a) late) = if a = [] then 0 else (fs a).sum / a.length := by
  have h := (fs_fits a).many
  unfold meanS
  by_cases ha : a = []
  · subst ha; rfl
  · have : a.length ≠ 0 := fun e => ha (List.length_eq_zero_iff.1 e)
    rw [if_neg ha, if_neg (by show ¬ (fs a).many < 1; omega)]
    show (fs a).sum / (fs a).many = _
    rw [h]

theorem alive40  : Ctr Try.prog B 14 [] [] (fun v S => v = .bool true ∧ S = []) := by
  refine Ctr_of_X (N := 14) Try.func14 rfl (by simp) rfl ?_
  intro w0 D0
  refine X_seq ?_
  refine X_region ?_
  refine XL_det .no (D_pure rfl) rfl ?_
  refine XL_then ?_
  refine X_seq ?_
  refine X_region ?_
  refine XL_det .no (D_zero zero_24 zk_24) rfl ?_
  refine XL_callv .no en_37 rfl (sadd z5 3 (by decide) (by decide)) rfl ?_
  refine XL_callv .no en_37 rfl (sadd (addS z5 3) 6 (by decide) (by decide)) rfl ?_
  refine XL_alloc (cs := stc z5) .no zero_24 rfl (fun b1 => ?_)
  refine XL_efd .no (F_stw (vs := stc s40) rfl rfl (by rfl) (by repeat first | with_reducible exact .here _ _ | with_reducible apply Out.there | with_reducible apply Out.app) tk_24 rfl rfl) ?_
  refine XL_then ?_
  refine X_seq ?_
  refine X_region ?_
  refine XL_det .no (D_ldso (vs := stc s40) rfl (by repeat first | with_reducible exact .here _ _ | with_reducible apply Out.there | with_reducible apply Out.app) tk_24 rfl (by rfl)) rfl ?_
  refine XL_callv .no en_13 rfl (smean s40 (by decide)) rfl ?_
  rw [mean40]
  refine XL_det .no (D_pure (v := .bool true) rfl) rfl ?_
  refine XL_det .no (D_pure rfl) rfl ?_
  refine XL_det (.yes 8 rfl rfl rfl) (D_ldso (vs := stc s40) rfl (by repeat first | with_reducible exact .here _ _ | with_reducible apply Out.there | with_reducible apply Out.app) tk_24 rfl (by rfl)) rfl ?_
  refine XL_det (.yes 8 rfl rfl rfl) (D_buildA (cs := l40.flatMap stc) rfl bldA_32 rfl (by rfl)) rfl ?_
  refine XL_callv (.yes 8 rfl rfl rfl) en_18 rfl (sText l40 rfl ok40) rfl ?_
  rw [text40]
  refine XL_det (.yes 8 rfl rfl rfl) (D_seq (q := true) rfl rfl rfl) rfl ?_
  refine XL_det .no (D_pure rfl) rfl ?_
  refine XL_det .no (D_pure rfl) rfl ?_
  refine XL_then ?_
  refine X_ret ?_
  refine ret_ok (.nil _) (res_tmp rfl rfl) ?_
  exact ⟨_, ⟨rfl, rfl⟩, _, (by repeat first | with_reducible exact .nil _ | with_reducible exact .here _ _ | with_reducible exact Take.self _ | with_reducible apply Take.cons | with_reducible apply Out.there | with_reducible apply Take.skip | with_reducible exact Take.pre _ _ | with_reducible apply Out.app)⟩

theorem statAdds (a b : Arr Int) (ha : Rd K a.ad (a.l.flatMap encI)) (hb : Rd K b.ad (b.l.flatMap encI)) (late : Int) : Ctr Try.prog B 3 [.slice a.oad a.l.length a.c, .slice b.oad b.l.length b.c, .int .i64 late] [K] (fun v S => v = .bool true ∧ S = [K]) := by
  refine Ctr_of_X (N := 75) Try.func3 rfl (by simp) rfl ?_
  intro w0 D0
  refine X_seq ?_
  refine X_region ?_
  refine XL_det .no (D_pure rfl) rfl ?_
  refine XL_then ?_
  refine X_seq ?_
  refine X_seq ?_
  refine X_region ?_
  refine XL_det .no (D_pure rfl) rfl ?_
  refine XL_det .no (D_len rfl rfl slc_22) rfl ?_
  refine XL_det .no (D_pure rfl) rfl ?_
  refine XL_det .no (D_pure rfl) rfl ?_
  refine XL_split (t := 13) rfl (fun h1 => ?_) (fun h1 => ?_)
  · try simp only [decide_eq_true_eq, decide_eq_false_iff_not, Bool.not_eq_true', Bool.not_eq_false', beq_iff_eq, bne_iff_ne, beq_eq_false_iff_ne, bne_eq_false_iff_eq, Int.not_lt, Int.not_le, gt_iff_lt, ge_iff_le, ne_eq] at h1
    refine XL_skip 13 rfl rfl rfl rfl rfl ?_
    refine XL_skip 13 rfl rfl rfl rfl rfl ?_
    refine XL_skip 13 rfl rfl rfl rfl rfl ?_
    refine XL_det .no (D_pure rfl) rfl ?_
    refine XL_det .no (D_pure rfl) rfl ?_
    refine XL_skip 18 rfl rfl rfl rfl rfl ?_
    refine XL_skip 18 rfl rfl rfl rfl rfl ?_
    refine XL_det .no (D_pure rfl) rfl ?_
    refine XL_det .no (D_pure rfl) rfl ?_
    refine XL_skip 22 rfl rfl rfl rfl rfl ?_
    refine XL_skip 22 rfl rfl rfl rfl rfl ?_
    refine XL_det .no (D_pure rfl) rfl ?_
    refine XL_then ?_
    refine X_cond_t rfl rfl ?_
    refine X_seq ?_
    refine X_region ?_
    refine XL_det .no (D_pure rfl) rfl ?_
    refine XL_then ?_
    refine X_ret ?_
    refine thenX_ret ?_
    refine ret_ok (.nil _) (res_tmp rfl rfl) ?_
    exact ⟨_, ⟨rfl, rfl⟩, _, (by repeat first | with_reducible exact .nil _ | with_reducible exact .here _ _ | with_reducible exact Take.self _ | with_reducible apply Take.cons | with_reducible apply Out.there | with_reducible apply Take.skip | with_reducible exact Take.pre _ _ | with_reducible apply Out.app)⟩
  · try simp only [decide_eq_true_eq, decide_eq_false_iff_not, Bool.not_eq_true', Bool.not_eq_false', beq_iff_eq, bne_iff_ne, beq_eq_false_iff_ne, bne_eq_false_iff_eq, Int.not_lt, Int.not_le, gt_iff_lt, ge_iff_le, ne_eq] at h1
    refine XL_det (.yes 13 rfl rfl rfl) (D_pure rfl) rfl ?_
    refine XL_det (.yes 13 rfl rfl rfl) (D_len rfl rfl slc_22) rfl ?_
    refine XL_det (.yes 13 rfl rfl rfl) (D_pure rfl) rfl ?_
    refine XL_det .no (D_pure rfl) rfl ?_
    refine XL_det .no (D_pure rfl) rfl ?_
    refine XL_split (t := 18) rfl (fun h2 => ?_) (fun h2 => ?_)
    · try simp only [decide_eq_true_eq, decide_eq_false_iff_not, Bool.not_eq_true', Bool.not_eq_false', beq_iff_eq, bne_iff_ne, beq_eq_false_iff_ne, bne_eq_false_iff_eq, Int.not_lt, Int.not_le, gt_iff_lt, ge_iff_le, ne_eq] at h2
      refine XL_skip 18 rfl rfl rfl rfl rfl ?_
      refine XL_skip 18 rfl rfl rfl rfl rfl ?_
      refine XL_det .no (D_pure rfl) rfl ?_
      refine XL_det .no (D_pure rfl) rfl ?_
      refine XL_skip 22 rfl rfl rfl rfl rfl ?_
      refine XL_skip 22 rfl rfl rfl rfl rfl ?_
      refine XL_det .no (D_pure rfl) rfl ?_
      refine XL_then ?_
      refine X_cond_t rfl rfl ?_
      refine X_seq ?_
      refine X_region ?_
      refine XL_det .no (D_pure rfl) rfl ?_
      refine XL_then ?_
      refine X_ret ?_
      refine thenX_ret ?_
      refine ret_ok (.nil _) (res_tmp rfl rfl) ?_
      exact ⟨_, ⟨rfl, rfl⟩, _, (by repeat first | with_reducible exact .nil _ | with_reducible exact .here _ _ | with_reducible exact Take.self _ | with_reducible apply Take.cons | with_reducible apply Out.there | with_reducible apply Take.skip | with_reducible exact Take.pre _ _ | with_reducible apply Out.app)⟩
    · try simp only [decide_eq_true_eq, decide_eq_false_iff_not, Bool.not_eq_true', Bool.not_eq_false', beq_iff_eq, bne_iff_ne, beq_eq_false_iff_ne, bne_eq_false_iff_eq, Int.not_lt, Int.not_le, gt_iff_lt, ge_iff_le, ne_eq] at h2
      refine XL_det (.yes 18 rfl rfl rfl) (D_pure rfl) rfl ?_
      refine XL_det (.yes 18 rfl rfl rfl) (D_pure rfl) rfl ?_
      refine XL_det .no (D_pure rfl) rfl ?_
      refine XL_det .no (D_pure rfl) rfl ?_
      refine XL_split (t := 22) rfl (fun h3 => ?_) (fun h3 => ?_)
      · try simp only [decide_eq_true_eq, decide_eq_false_iff_not, Bool.not_eq_true', Bool.not_eq_false', beq_iff_eq, bne_iff_ne, beq_eq_false_iff_ne, bne_eq_false_iff_eq, Int.not_lt, Int.not_le, gt_iff_lt, ge_iff_le, ne_eq] at h3
        refine XL_skip 22 rfl rfl rfl rfl rfl ?_
        refine XL_skip 22 rfl rfl rfl rfl rfl ?_
        refine XL_det .no (D_pure rfl) rfl ?_
        refine XL_then ?_
        refine X_cond_t rfl rfl ?_
        refine X_seq ?_
        refine X_region ?_
        refine XL_det .no (D_pure rfl) rfl ?_
        refine XL_then ?_
        refine X_ret ?_
        refine thenX_ret ?_
        refine ret_ok (.nil _) (res_tmp rfl rfl) ?_
        exact ⟨_, ⟨rfl, rfl⟩, _, (by repeat first | with_reducible exact .nil _ | with_reducible exact .here _ _ | with_reducible exact Take.self _ | with_reducible apply Take.cons | with_reducible apply Out.there | with_reducible apply Take.skip | with_reducible exact Take.pre _ _ | with_reducible apply Out.app)⟩
      · try simp only [decide_eq_true_eq, decide_eq_false_iff_not, Bool.not_eq_true', Bool.not_eq_false', beq_iff_eq, bne_iff_ne, beq_eq_false_iff_ne, bne_eq_false_iff_eq, Int.not_lt, Int.not_le, gt_iff_lt, ge_iff_le, ne_eq] at h3
        refine XL_det (.yes 22 rfl rfl rfl) (D_pure rfl) rfl ?_
        refine XL_det (.yes 22 rfl rfl rfl) (D_pure rfl) rfl ?_
        refine XL_det .no (D_pure rfl) rfl ?_
        refine XL_then ?_
        refine X_cond rfl (fun h4 => ?_) (fun h4 => ?_)
        · try simp only [decide_eq_true_eq, decide_eq_false_iff_not, Bool.not_eq_true', Bool.not_eq_false', beq_iff_eq, bne_iff_ne, beq_eq_false_iff_ne, bne_eq_false_iff_eq, Int.not_lt, Int.not_le, gt_iff_lt, ge_iff_le, ne_eq] at h4
          refine X_seq ?_
          refine X_region ?_
          refine XL_det .no (D_pure rfl) rfl ?_
          refine XL_then ?_
          refine X_ret ?_
          refine thenX_ret ?_
          refine ret_ok (.nil _) (res_tmp rfl rfl) ?_
          exact ⟨_, ⟨rfl, rfl⟩, _, (by repeat first | with_reducible exact .nil _ | with_reducible exact .here _ _ | with_reducible exact Take.self _ | with_reducible apply Take.cons | with_reducible apply Out.there | with_reducible apply Take.skip | with_reducible exact Take.pre _ _ | with_reducible apply Out.app)⟩
        · try simp only [decide_eq_true_eq, decide_eq_false_iff_not, Bool.not_eq_true', Bool.not_eq_false', beq_iff_eq, bne_iff_ne, beq_eq_false_iff_ne, bne_eq_false_iff_eq, Int.not_lt, Int.not_le, gt_iff_lt, ge_iff_le, ne_eq] at h4
          have hfa := fs_fits a.l
          have hfb := fs_fits b.l
          have ga := hfa.sum
          have gb := hfb.sum
          have gm := hfa.many
          have gn := hfb.many
          have hx1 : -1000000000000 ≤ (lw (fs a.l) late).many ∧ (lw (fs a.l) late).many ≤ 100000000000000 := by show _ ≤ (fs a.l).many ∧ (fs a.l).many ≤ _; omega
          have hy1 : -1000000000000 ≤ (lw (fs b.l) 1).many ∧ (lw (fs b.l) 1).many ≤ 100000000000000 := by show _ ≤ (fs b.l).many ∧ (fs b.l).many ≤ _; omega
          have hx2 : -1000000000000 ≤ (lw (fs a.l) late).sum ∧ (lw (fs a.l) late).sum ≤ 100000000000000 := by show _ ≤ (fs a.l).sum ∧ (fs a.l).sum ≤ _; omega
          have hy2 : -1000000000000 ≤ (lw (fs b.l) 1).sum ∧ (lw (fs b.l) 1).sum ≤ 100000000000000 := by show _ ≤ (fs b.l).sum ∧ (fs b.l).sum ≤ _; omega
          have hx3 : -1000000000000 ≤ (lw (fs a.l) late).late ∧ (lw (fs a.l) late).late ≤ 100000000000000 := by show _ ≤ late ∧ late ≤ _; omega
          have hx4 : 0 ≤ (lw (fs a.l) late).sum ∧ (lw (fs a.l) late).sum ≤ 1000000000000 := by show _ ≤ (fs a.l).sum ∧ (fs a.l).sum ≤ _; omega
          refine X_skip ?_
          refine thenX_normal ?_
          refine X_seq ?_
          refine X_region ?_
          refine XL_det .no (D_pure rfl) rfl ?_
          refine XL_callk .no en_10 rfl (sadded a ha (by omega)) (by repeat first | with_reducible exact .nil _ | with_reducible exact .here _ _ | with_reducible exact Take.self _ | with_reducible apply Take.cons | with_reducible apply Out.there | with_reducible apply Take.skip | with_reducible exact Take.pre _ _ | with_reducible apply Out.app) rfl ?_
          refine XL_det .no (D_pure rfl) rfl ?_
          refine XL_callk .no en_10 rfl (sadded b hb (by omega)) (by repeat first | with_reducible exact .nil _ | with_reducible exact .here _ _ | with_reducible exact Take.self _ | with_reducible apply Take.cons | with_reducible apply Out.there | with_reducible apply Take.skip | with_reducible exact Take.pre _ _ | with_reducible apply Out.app) rfl ?_
          refine XL_alloc (cs := stc z5) .no zero_24 rfl (fun b1 => ?_)
          refine XL_alloc (cs := stc z5) .no zero_24 rfl (fun b2 => ?_)
          refine XL_efd .no (F_stw (vs := stc (fs a.l)) rfl rfl (by rfl) (by repeat first | with_reducible exact .here _ _ | with_reducible apply Out.there | with_reducible apply Out.app) tk_24 rfl rfl) ?_
          refine XL_efd .no (F_stw (vs := stc (fs b.l)) rfl rfl (by rfl) (by repeat first | with_reducible exact .here _ _ | with_reducible apply Out.there | with_reducible apply Out.app) tk_24 rfl rfl) ?_
          refine XL_then ?_
          refine X_seq ?_
          refine X_region ?_
          refine XL_det .no (D_pure rfl) rfl ?_
          refine XL_then ?_
          refine X_seqj (α := Int) (fun mn => mn = meanS (lw (fs a.l) late)) (fun mn => [(9, .int .i64 mn), (0, .slice a.oad a.l.length a.c), (1, .slice b.oad b.l.length b.c), (2, .int .i64 late), (7, .pointer (some ⟨b1, 0, none⟩)), (8, .pointer (some ⟨b2, 0, none⟩))]) (fun mn => [blk b2 (stc (fs b.l)) 24, blk b1 (stc (fs a.l)) 24, K]) ?_ ?_
          · skip
            refine X_seq ?_
            refine X_region ?_
            refine XL_det .no (D_pure rfl) rfl ?_
            refine XL_det .no (D_len rfl rfl slc_22) rfl ?_
            refine XL_det .no (D_pure rfl) rfl ?_
            refine XL_then ?_
            refine X_cond rfl (fun h5 => ?_) (fun h5 => ?_)
            · try simp only [decide_eq_true_eq, decide_eq_false_iff_not, Bool.not_eq_true', Bool.not_eq_false', beq_iff_eq, bne_iff_ne, beq_eq_false_iff_ne, bne_eq_false_iff_eq, Int.not_lt, Int.not_le, gt_iff_lt, ge_iff_le, ne_eq] at h5
              refine X_region ?_
              refine XL_det .no (D_pure rfl) rfl ?_
              refine XL_callk .no en_11 rfl (sof a ha (by omega) 0) (by repeat first | with_reducible exact .nil _ | with_reducible exact .here _ _ | with_reducible exact Take.self _ | with_reducible apply Take.cons | with_reducible apply Out.there | with_reducible apply Take.skip | with_reducible exact Take.pre _ _ | with_reducible apply Out.app) rfl ?_
              refine XL_det .no (D_field1 rfl fld1_24_3 rfl) rfl ?_
              refine XL_det .no (D_pure rfl) rfl ?_
              refine XL_det .no (D_len rfl rfl slc_22) rfl ?_
              refine XL_det .no (D_divmod (z := (fs a.l).sum / (a.l.length : Int)) rfl rfl (by omega) (by show IntKind.i64.wrap (Int.tdiv (fs a.l).sum (a.l.length : Int)) = _; rw [Int.tdiv_eq_ediv_of_nonneg ga.1]; have e1 := Int.ediv_nonneg ga.1 (show 0 ≤ (a.l.length : Int) by omega); have e2 := Int.ediv_le_self (a.l.length : Int) ga.1; exact i64_in' (by omega) (by omega))) rfl ?_
              refine XL_det .no (D_pure rfl) rfl ?_
              refine XL_nil ?_
              refine joinQ_normal ((fs a.l).sum / (a.l.length : Int)) ?_ ?_ ?_
              · rw [mean_fs, if_neg (fun e => by have h := congrArg List.length e; rw [List.length_nil] at h; omega)]
              · refine ⟨?_, ?_, ?_, ?_, ?_, ?_, trivial⟩ <;> rfl
              · exact ⟨_, (by repeat first | with_reducible exact .nil _ | with_reducible exact .here _ _ | with_reducible exact Take.self _ | with_reducible apply Take.cons | with_reducible apply Out.there | with_reducible apply Take.skip | with_reducible exact Take.pre _ _ | with_reducible apply Out.app)⟩
            · try simp only [decide_eq_true_eq, decide_eq_false_iff_not, Bool.not_eq_true', Bool.not_eq_false', beq_iff_eq, bne_iff_ne, beq_eq_false_iff_ne, bne_eq_false_iff_eq, Int.not_lt, Int.not_le, gt_iff_lt, ge_iff_le, ne_eq] at h5
              refine X_skip ?_
              refine joinQ_normal 0 ?_ ?_ ?_
              · rw [mean_fs, if_pos (List.length_eq_zero_iff.1 (by omega))]
              · refine ⟨?_, ?_, ?_, ?_, ?_, ?_, trivial⟩ <;> rfl
              · exact ⟨_, (by repeat first | with_reducible exact .nil _ | with_reducible exact .here _ _ | with_reducible exact Take.self _ | with_reducible apply Take.cons | with_reducible apply Out.there | with_reducible apply Take.skip | with_reducible exact Take.pre _ _ | with_reducible apply Out.app)⟩
          · intro mn hmn
            refine X_seq ?_
            refine X_region ?_
            refine XL_det .no (D_pure rfl) rfl ?_
            refine XL_det .no (D_fld rfl fld_24_4 (o' := 4) rfl) rfl ?_
            refine XL_efd .no (F_st (k := 4) (cs' := stc (lw (fs a.l) late)) rfl rfl rfl (by repeat first | with_reducible exact .here _ _ | with_reducible apply Out.there | with_reducible apply Out.app) tk_3 rfl rfl) ?_
            refine XL_det .no (D_fld rfl fld_24_4 (o' := 4) rfl) rfl ?_
            refine XL_efd .no (F_st (k := 4) (cs' := stc (lw (fs b.l) 1)) rfl rfl rfl (by repeat first | with_reducible exact .here _ _ | with_reducible apply Out.there | with_reducible apply Out.app) tk_3 rfl rfl) ?_
            refine XL_then ?_
            refine X_seq ?_
            refine X_draw _ mixed (Take.self _) ?_
            refine XA_det 0 rfl (by kernel_rfl) (by kernel_rfl) (by kernel_rfl) (by kernel_rfl) (fun _ _ _ _ h => h) .no (D_ldso (vs := stc (lw (fs a.l) late)) rfl (by repeat first | with_reducible exact .here _ _ | with_reducible apply Out.there | with_reducible apply Out.app) tk_24 rfl (by rfl)) rfl ?_
            refine XA_detp 1 rfl (by kernel_rfl) (by kernel_rfl) (by kernel_rfl) (fun _ _ _ _ h => h) .no (D_pureP rfl) rfl ?_
            refine XA_detp 2 rfl (by kernel_rfl) (by kernel_rfl) (by kernel_rfl) (fun _ _ _ _ h => h) .no (D_pureP rfl) rfl ?_
            refine XA_one 3 (by kernel_rfl) ?_
            refine XO_callk rfl .no en_11 rfl (by repeat first | with_reducible exact .nil _ | with_reducible apply App.cons) (sof a ha (by omega) late) (by repeat first | with_reducible exact .nil _ | with_reducible exact .here _ _ | with_reducible exact Take.self _ | with_reducible apply Take.cons | with_reducible apply Out.there | with_reducible apply Take.skip | with_reducible exact Take.pre _ _ | with_reducible apply Out.app) rfl ?_
            refine XA_det 4 rfl (by kernel_rfl) (by kernel_rfl) (by kernel_rfl) (by kernel_rfl) (fun _ _ _ _ h => h) .no (D_eqs (b := true) rfl rfl eqk_24 eqg_24 rfl rfl rfl (st_same (lw (fs a.l) late))) rfl ?_
            refine XA_detp 5 rfl (by kernel_rfl) (by kernel_rfl) (by kernel_rfl) (fun _ _ _ _ h => h) .no (D_pureP rfl) rfl ?_
            refine XA_det 6 rfl (by kernel_rfl) (by kernel_rfl) (by kernel_rfl) (by kernel_rfl) (fun _ _ _ _ h => h) (.yes 47 rfl rfl rfl) (D_ldso (vs := stc (lw (fs a.l) late)) rfl (by repeat first | with_reducible exact .here _ _ | with_reducible apply Out.there | with_reducible apply Out.app) tk_24 rfl (by rfl)) rfl ?_
            refine XA_det 7 rfl (by kernel_rfl) (by kernel_rfl) (by kernel_rfl) (by kernel_rfl) (fun _ _ _ _ h => h) (.yes 47 rfl rfl rfl) (D_ldso (vs := stc (lw (fs b.l) 1)) rfl (by repeat first | with_reducible exact .here _ _ | with_reducible apply Out.there | with_reducible apply Out.app) tk_24 rfl (by rfl)) rfl ?_
            refine XA_detp 10 rfl (by kernel_rfl) (by kernel_rfl) (by kernel_rfl) (fun _ _ _ _ h => h) (.yes 47 rfl rfl rfl) (D_pureP rfl) rfl ?_
            refine XA_detp 12 rfl (by kernel_rfl) (by kernel_rfl) (by kernel_rfl) (fun _ _ _ _ h => h) (.yes 47 rfl rfl rfl) (D_pureP rfl) rfl ?_
            refine XA_detp 14 rfl (by kernel_rfl) (by kernel_rfl) (by kernel_rfl) (fun _ _ _ _ h => h) (.yes 47 rfl rfl rfl) (D_pureP rfl) rfl ?_
            refine XA_det 15 rfl (by kernel_rfl) (by kernel_rfl) (by kernel_rfl) (by kernel_rfl) (fun _ _ _ _ h => h) (.yes 47 rfl rfl rfl) (D_add rfl rfl (by omega) (by omega)) rfl ?_
            refine XA_two 8 9 (by kernel_rfl) ?_ ?_
            · skip
              refine XO_callv rfl (.yes 47 rfl rfl rfl) en_12 rfl (sjoin (lw (fs a.l) late) (lw (fs b.l) 1) hx1 hy1 hx2 hy2 hx3 ⟨by show _ ≤ (1 : Int); decide, by show (1 : Int) ≤ _; decide⟩) rfl ?_
              rw [join_fs]
              refine XA_one 9 (by kernel_rfl) ?_
              refine XO_bslicea encI rfl (.yes 47 rfl rfl rfl) slt_22 rfl (fun e51 he51 he51o => ?_)
              refine XA_one 11 (by kernel_rfl) ?_
              refine XO_appa (enc := encI) (c := e51) (b := a) rfl (.yes 47 rfl rfl rfl) rfl rfl slt_22 (by repeat first | with_reducible exact .here _ _ | with_reducible apply Out.there | with_reducible apply Out.app) (by repeat first | exact .nil _ | apply App.cons) (by repeat first | with_reducible exact .here _ _ | with_reducible apply Out.there | with_reducible apply Out.app) ha (fun _ => rfl) (fun _ => rfl) (by rw [he51]; simp; omega) (by rw [he51]; simp; omega) rfl (fun c1 hc1 hc1o => ?_)
              refine XA_one 13 (by kernel_rfl) ?_
              refine XO_appa (enc := encI) (c := c1) (b := b) rfl (.yes 47 rfl rfl rfl) rfl rfl slt_22 (by repeat first | with_reducible exact .here _ _ | with_reducible apply Out.there | with_reducible apply Out.app) (by repeat first | exact .nil _ | apply App.cons) (by repeat first | with_reducible exact .here _ _ | with_reducible apply Out.there | with_reducible apply Out.app) hb (fun _ => rfl) (fun _ => rfl) (by rw [hc1, he51]; simp; omega) (by rw [hc1, he51]; simp; omega) rfl (fun c2 hc2 hc2o => ?_)
              refine XA_one 16 (by kernel_rfl) ?_
              refine XO_callk rfl (.yes 47 rfl rfl rfl) en_11 rfl (by repeat first | with_reducible exact .nil _ | with_reducible apply App.cons) (sof c2 (Rd_own hc2o rfl) (by rw [hc2, hc1, he51]; simp; omega) (late + 1)) (by repeat first | with_reducible exact .nil _ | with_reducible exact .here _ _ | with_reducible exact Take.self _ | with_reducible apply Take.cons | with_reducible apply Out.there | with_reducible apply Take.skip | with_reducible exact Take.pre _ _ | with_reducible apply Out.app) rfl ?_
              rw [hc2, hc1, he51, List.nil_append]
              refine XA_det 17 rfl (by kernel_rfl) (by kernel_rfl) (by kernel_rfl) (by kernel_rfl) (fun _ _ _ _ h => h) (.yes 47 rfl rfl rfl) (D_eqs (b := true) rfl rfl eqk_24 eqg_24 rfl rfl rfl (st_same (lw (fs (a.l ++ b.l)) (late + 1)))) rfl ?_
              refine XA_detp 18 rfl (by kernel_rfl) (by kernel_rfl) (by kernel_rfl) (fun _ _ _ _ h => h) .no (D_pureP rfl) rfl ?_
              refine XA_detp 19 rfl (by kernel_rfl) (by kernel_rfl) (by kernel_rfl) (fun _ _ _ _ h => h) .no (D_pureP rfl) rfl ?_
              refine XA_det 20 rfl (by kernel_rfl) (by kernel_rfl) (by kernel_rfl) (by kernel_rfl) (fun _ _ _ _ h => h) (.yes 61 rfl rfl rfl) (D_ldso (vs := stc (lw (fs a.l) late)) rfl (by repeat first | with_reducible exact .here _ _ | with_reducible apply Out.there | with_reducible apply Out.app) tk_24 rfl (by rfl)) rfl ?_
              refine XA_detp 22 rfl (by kernel_rfl) (by kernel_rfl) (by kernel_rfl) (fun _ _ _ _ h => h) (.yes 61 rfl rfl rfl) (D_pureP rfl) rfl ?_
              refine XA_one 21 (by kernel_rfl) ?_
              refine XO_callv rfl (.yes 61 rfl rfl rfl) en_13 rfl (smean (lw (fs a.l) late) hx4) rfl ?_
              refine XA_detp 23 rfl (by kernel_rfl) (by kernel_rfl) (by kernel_rfl) (fun _ _ _ _ h => h) (.yes 61 rfl rfl rfl) (D_pureP (v := .bool true) (bt (by rw [hmn]))) rfl ?_
              refine XA_detp 24 rfl (by kernel_rfl) (by kernel_rfl) (by kernel_rfl) (fun _ _ _ _ h => h) .no (D_pureP rfl) rfl ?_
              refine XA_detp 25 rfl (by kernel_rfl) (by kernel_rfl) (by kernel_rfl) (fun _ _ _ _ h => h) .no (D_pureP rfl) rfl ?_
              refine XA_det 26 rfl (by kernel_rfl) (by kernel_rfl) (by kernel_rfl) (by kernel_rfl) (fun _ _ _ _ h => h) (.yes 67 rfl rfl rfl) (D_build [_, _, _, _, _] rfl bld_24 (by rfl)) rfl ?_
              refine XA_one 27 (by kernel_rfl) ?_
              refine XO_callv rfl (.yes 67 rfl rfl rfl) en_13 rfl (smean ⟨-1, 0, 0, 5, 0⟩ (by decide)) rfl ?_
              rw [show meanS ⟨-1, 0, 0, 5, 0⟩ = 0 from rfl]
              refine XA_detp 28 rfl (by kernel_rfl) (by kernel_rfl) (by kernel_rfl) (fun _ _ _ _ h => h) (.yes 67 rfl rfl rfl) (D_pureP (v := .bool true) rfl) rfl ?_
              refine XA_detp 29 rfl (by kernel_rfl) (by kernel_rfl) (by kernel_rfl) (fun _ _ _ _ h => h) .no (D_pureP rfl) rfl ?_
              refine XA_detp 30 rfl (by kernel_rfl) (by kernel_rfl) (by kernel_rfl) (fun _ _ _ _ h => h) .no (D_pureP rfl) rfl ?_
              refine XA_one 31 (by kernel_rfl) ?_
              refine XO_callv rfl (.yes 72 rfl rfl rfl) en_14 rfl (alive40) rfl ?_
              refine XA_detp 32 rfl (by kernel_rfl) (by kernel_rfl) (by kernel_rfl) (fun _ _ _ _ h => h) .no (D_pureP rfl) rfl ?_
              refine XA_detp 33 rfl (by kernel_rfl) (by kernel_rfl) (by kernel_rfl) (fun _ _ _ _ h => h) .no (D_pureP rfl) rfl ?_
              refine XA_done (by kernel_rfl) ?_
              try simp only [List.cons_append, List.nil_append, List.append_nil]
              refine thenX_normal ?_
              refine X_ret ?_
              refine ret_ok (.nil _) (res_tmp rfl rfl) ?_
              exact ⟨_, ⟨rfl, rfl⟩, _, (by repeat first | with_reducible exact .nil _ | with_reducible exact .here _ _ | with_reducible exact Take.self _ | with_reducible apply Take.cons | with_reducible apply Out.there | with_reducible apply Take.skip | with_reducible exact Take.pre _ _ | with_reducible apply Out.app)⟩
            · skip
              refine XO_bslicea encI rfl (.yes 47 rfl rfl rfl) slt_22 rfl (fun e51 he51 he51o => ?_)
              refine XA_one 8 (by kernel_rfl) ?_
              refine XO_callv rfl (.yes 47 rfl rfl rfl) en_12 rfl (sjoin (lw (fs a.l) late) (lw (fs b.l) 1) hx1 hy1 hx2 hy2 hx3 ⟨by show _ ≤ (1 : Int); decide, by show (1 : Int) ≤ _; decide⟩) rfl ?_
              rw [join_fs]
              refine XA_one 11 (by kernel_rfl) ?_
              refine XO_appa (enc := encI) (c := e51) (b := a) rfl (.yes 47 rfl rfl rfl) rfl rfl slt_22 (by repeat first | with_reducible exact .here _ _ | with_reducible apply Out.there | with_reducible apply Out.app) (by repeat first | exact .nil _ | apply App.cons) (by repeat first | with_reducible exact .here _ _ | with_reducible apply Out.there | with_reducible apply Out.app) ha (fun _ => rfl) (fun _ => rfl) (by rw [he51]; simp; omega) (by rw [he51]; simp; omega) rfl (fun c1 hc1 hc1o => ?_)
              refine XA_one 13 (by kernel_rfl) ?_
              refine XO_appa (enc := encI) (c := c1) (b := b) rfl (.yes 47 rfl rfl rfl) rfl rfl slt_22 (by repeat first | with_reducible exact .here _ _ | with_reducible apply Out.there | with_reducible apply Out.app) (by repeat first | exact .nil _ | apply App.cons) (by repeat first | with_reducible exact .here _ _ | with_reducible apply Out.there | with_reducible apply Out.app) hb (fun _ => rfl) (fun _ => rfl) (by rw [hc1, he51]; simp; omega) (by rw [hc1, he51]; simp; omega) rfl (fun c2 hc2 hc2o => ?_)
              refine XA_one 16 (by kernel_rfl) ?_
              refine XO_callk rfl (.yes 47 rfl rfl rfl) en_11 rfl (by repeat first | with_reducible exact .nil _ | with_reducible apply App.cons) (sof c2 (Rd_own hc2o rfl) (by rw [hc2, hc1, he51]; simp; omega) (late + 1)) (by repeat first | with_reducible exact .nil _ | with_reducible exact .here _ _ | with_reducible exact Take.self _ | with_reducible apply Take.cons | with_reducible apply Out.there | with_reducible apply Take.skip | with_reducible exact Take.pre _ _ | with_reducible apply Out.app) rfl ?_
              rw [hc2, hc1, he51, List.nil_append]
              refine XA_det 17 rfl (by kernel_rfl) (by kernel_rfl) (by kernel_rfl) (by kernel_rfl) (fun _ _ _ _ h => h) (.yes 47 rfl rfl rfl) (D_eqs (b := true) rfl rfl eqk_24 eqg_24 rfl rfl rfl (st_same (lw (fs (a.l ++ b.l)) (late + 1)))) rfl ?_
              refine XA_detp 18 rfl (by kernel_rfl) (by kernel_rfl) (by kernel_rfl) (fun _ _ _ _ h => h) .no (D_pureP rfl) rfl ?_
              refine XA_detp 19 rfl (by kernel_rfl) (by kernel_rfl) (by kernel_rfl) (fun _ _ _ _ h => h) .no (D_pureP rfl) rfl ?_
              refine XA_det 20 rfl (by kernel_rfl) (by kernel_rfl) (by kernel_rfl) (by kernel_rfl) (fun _ _ _ _ h => h) (.yes 61 rfl rfl rfl) (D_ldso (vs := stc (lw (fs a.l) late)) rfl (by repeat first | with_reducible exact .here _ _ | with_reducible apply Out.there | with_reducible apply Out.app) tk_24 rfl (by rfl)) rfl ?_
              refine XA_detp 22 rfl (by kernel_rfl) (by kernel_rfl) (by kernel_rfl) (fun _ _ _ _ h => h) (.yes 61 rfl rfl rfl) (D_pureP rfl) rfl ?_
              refine XA_one 21 (by kernel_rfl) ?_
              refine XO_callv rfl (.yes 61 rfl rfl rfl) en_13 rfl (smean (lw (fs a.l) late) hx4) rfl ?_
              refine XA_detp 23 rfl (by kernel_rfl) (by kernel_rfl) (by kernel_rfl) (fun _ _ _ _ h => h) (.yes 61 rfl rfl rfl) (D_pureP (v := .bool true) (bt (by rw [hmn]))) rfl ?_
              refine XA_detp 24 rfl (by kernel_rfl) (by kernel_rfl) (by kernel_rfl) (fun _ _ _ _ h => h) .no (D_pureP rfl) rfl ?_
              refine XA_detp 25 rfl (by kernel_rfl) (by kernel_rfl) (by kernel_rfl) (fun _ _ _ _ h => h) .no (D_pureP rfl) rfl ?_
              refine XA_det 26 rfl (by kernel_rfl) (by kernel_rfl) (by kernel_rfl) (by kernel_rfl) (fun _ _ _ _ h => h) (.yes 67 rfl rfl rfl) (D_build [_, _, _, _, _] rfl bld_24 (by rfl)) rfl ?_
              refine XA_one 27 (by kernel_rfl) ?_
              refine XO_callv rfl (.yes 67 rfl rfl rfl) en_13 rfl (smean ⟨-1, 0, 0, 5, 0⟩ (by decide)) rfl ?_
              rw [show meanS ⟨-1, 0, 0, 5, 0⟩ = 0 from rfl]
              refine XA_detp 28 rfl (by kernel_rfl) (by kernel_rfl) (by kernel_rfl) (fun _ _ _ _ h => h) (.yes 67 rfl rfl rfl) (D_pureP (v := .bool true) rfl) rfl ?_
              refine XA_detp 29 rfl (by kernel_rfl) (by kernel_rfl) (by kernel_rfl) (fun _ _ _ _ h => h) .no (D_pureP rfl) rfl ?_
              refine XA_detp 30 rfl (by kernel_rfl) (by kernel_rfl) (by kernel_rfl) (fun _ _ _ _ h => h) .no (D_pureP rfl) rfl ?_
              refine XA_one 31 (by kernel_rfl) ?_
              refine XO_callv rfl (.yes 72 rfl rfl rfl) en_14 rfl (alive40) rfl ?_
              refine XA_detp 32 rfl (by kernel_rfl) (by kernel_rfl) (by kernel_rfl) (fun _ _ _ _ h => h) .no (D_pureP rfl) rfl ?_
              refine XA_detp 33 rfl (by kernel_rfl) (by kernel_rfl) (by kernel_rfl) (fun _ _ _ _ h => h) .no (D_pureP rfl) rfl ?_
              refine XA_done (by kernel_rfl) ?_
              try simp only [List.cons_append, List.nil_append, List.append_nil]
              refine thenX_normal ?_
              refine X_ret ?_
              refine ret_ok (.nil _) (res_tmp rfl rfl) ?_
              exact ⟨_, ⟨rfl, rfl⟩, _, (by repeat first | with_reducible exact .nil _ | with_reducible exact .here _ _ | with_reducible exact Take.self _ | with_reducible apply Take.cons | with_reducible apply Out.there | with_reducible apply Take.skip | with_reducible exact Take.pre _ _ | with_reducible apply Out.app)⟩

end Go.Proofs.Ytjcpggoodbkedaa
end

section
namespace Go.Proofs.Ytjcpggoodbkedaa
open Go Go.Sl
set_option linter.unusedVariables false
set_option linter.unusedSimpArgs false
set_option maxRecDepth 4000
variable {B : Nat} {K : Asrt B}

theorem rtext (n : Int) : Ctr Try.prog B 16 [.int .i64 n] [] (fun v S => v = str (txt n) ∧ S = []) := by
  refine Ctr_of_X (N := 29) Try.func16 rfl (by simp) rfl ?_
  intro w0 D0
  refine X_seq ?_
  refine X_region ?_
  refine XL_det .no (D_pure rfl) rfl ?_
  refine XL_then ?_
  refine X_seqj (α := Int) (fun n1 => n1 = max n 0) (fun n1 => [(0, .int .i64 n1)]) (fun n1 => []) ?_ ?_
  · skip
    refine X_seq ?_
    refine X_region ?_
    refine XL_det .no (D_pure rfl) rfl ?_
    refine XL_det .no (D_pure rfl) rfl ?_
    refine XL_then ?_
    refine X_cond rfl (fun h1 => ?_) (fun h1 => ?_)
    · try simp only [decide_eq_true_eq, decide_eq_false_iff_not, Bool.not_eq_true', Bool.not_eq_false', beq_iff_eq, bne_iff_ne, beq_eq_false_iff_ne, bne_eq_false_iff_eq, Int.not_lt, Int.not_le, gt_iff_lt, ge_iff_le, ne_eq] at h1
      refine X_region ?_
      refine XL_det .no (D_pure rfl) rfl ?_
      refine XL_nil ?_
      refine joinQ_normal 0 ?_ ?_ ?_
      · omega
      · refine ⟨?_, trivial⟩ <;> rfl
      · exact ⟨_, (by repeat first | with_reducible exact .nil _ | with_reducible exact .here _ _ | with_reducible exact Take.self _ | with_reducible apply Take.cons | with_reducible apply Out.there | with_reducible apply Take.skip | with_reducible exact Take.pre _ _ | with_reducible apply Out.app)⟩
    · try simp only [decide_eq_true_eq, decide_eq_false_iff_not, Bool.not_eq_true', Bool.not_eq_false', beq_iff_eq, bne_iff_ne, beq_eq_false_iff_ne, bne_eq_false_iff_eq, Int.not_lt, Int.not_le, gt_iff_lt, ge_iff_le, ne_eq] at h1
      refine X_skip ?_
      refine joinQ_normal n ?_ ?_ ?_
      · omega
      · refine ⟨?_, trivial⟩ <;> rfl
      · exact ⟨_, (by repeat first | with_reducible exact .nil _ | with_reducible exact .here _ _ | with_reducible exact Take.self _ | with_reducible apply Take.cons | with_reducible apply Out.there | with_reducible apply Take.skip | with_reducible exact Take.pre _ _ | with_reducible apply Out.app)⟩
  · intro n1 hn1
    refine X_seqj (α := Int) (fun n2 => n2 = (clamp n : Int)) (fun n2 => [(0, .int .i64 n2)]) (fun n2 => []) ?_ ?_
    · skip
      refine X_seq ?_
      refine X_region ?_
      refine XL_det .no (D_pure rfl) rfl ?_
      refine XL_det .no (D_pure rfl) rfl ?_
      refine XL_then ?_
      refine X_cond rfl (fun h2 => ?_) (fun h2 => ?_)
      · try simp only [decide_eq_true_eq, decide_eq_false_iff_not, Bool.not_eq_true', Bool.not_eq_false', beq_iff_eq, bne_iff_ne, beq_eq_false_iff_ne, bne_eq_false_iff_eq, Int.not_lt, Int.not_le, gt_iff_lt, ge_iff_le, ne_eq] at h2
        refine X_region ?_
        refine XL_det .no (D_pure rfl) rfl ?_
        refine XL_nil ?_
        refine joinQ_normal 2147483647 ?_ ?_ ?_
        · unfold clamp; omega
        · refine ⟨?_, trivial⟩ <;> rfl
        · exact ⟨_, (by repeat first | with_reducible exact .nil _ | with_reducible exact .here _ _ | with_reducible exact Take.self _ | with_reducible apply Take.cons | with_reducible apply Out.there | with_reducible apply Take.skip | with_reducible exact Take.pre _ _ | with_reducible apply Out.app)⟩
      · try simp only [decide_eq_true_eq, decide_eq_false_iff_not, Bool.not_eq_true', Bool.not_eq_false', beq_iff_eq, bne_iff_ne, beq_eq_false_iff_ne, bne_eq_false_iff_eq, Int.not_lt, Int.not_le, gt_iff_lt, ge_iff_le, ne_eq] at h2
        refine X_skip ?_
        refine joinQ_normal n1 ?_ ?_ ?_
        · unfold clamp; omega
        · refine ⟨?_, trivial⟩ <;> rfl
        · exact ⟨_, (by repeat first | with_reducible exact .nil _ | with_reducible exact .here _ _ | with_reducible exact Take.self _ | with_reducible apply Take.cons | with_reducible apply Out.there | with_reducible apply Take.skip | with_reducible exact Take.pre _ _ | with_reducible apply Out.app)⟩
    · rintro n2 rfl
      refine X_seq ?_
      refine X_region ?_
      refine XL_det .no (D_pure rfl) rfl ?_
      refine XL_det .no (D_divmod (z := (((clamp n) % 10 : Nat) : Int)) rfl rfl (by decide) (tmod10 (clamp n))) rfl ?_
      refine XL_det .no (D_add (m := 48) (n := (((clamp n) % 10 : Nat) : Int)) rfl rfl (by omega) (by omega)) rfl ?_
      refine XL_det .no (D_cvt (z := ((dg (clamp n)).toNat : Int)) rfl cvt_3_5 (dg_wrap (clamp n))) rfl ?_
      refine XL_bslice (cs := encB (dg (clamp n))) .no rfl slt_85 (by decide) (by decide) (by rfl) (by rfl) rfl rfl (fun b1 => ?_)
      refine XL_det .no (D_bstr (a := Arr.lit b1 [dg (clamp n)] (by simp)) (l := [dg (clamp n)]) rfl (by repeat first | with_reducible exact .here _ _ | with_reducible apply Out.there | with_reducible apply Out.app) (Rd_obj (cs := encB (dg (clamp n)))) rfl bstr_85_9) rfl ?_
      refine XL_det .no (D_pure rfl) rfl ?_
      refine XL_then ?_
      refine X_seq ?_
      refine X_seq ?_
      refine X_region ?_
      refine XL_det .no (D_pure rfl) rfl ?_
      refine XL_det .no (D_divmod (z := (((clamp n) / 10 : Nat) : Int)) rfl rfl (by decide) (by show IntKind.i64.wrap _ = _; rw [tdiv10]; have := clamp_le n; exact i64_in' (by omega) (by omega))) rfl ?_
      refine XL_det .no (D_pure rfl) rfl ?_
      refine XL_then ?_
      refine X_block ?_
      refine X_loop (α := Nat × Nat × List UInt8) (fun ⟨m, f, acc⟩ => m ≤ 2147483647 ∧ m < 10 ^ f ∧ (rdF f m).reverse ++ acc = (rd (clamp n)).reverse ∧ acc.length + f ≤ 11) (fun ⟨m, f, acc⟩ => [(0, .int .i64 (m : Int)), (3, str acc)]) (fun ⟨m, f, acc⟩ => []) (fun ⟨m, f, acc⟩ => m) ((clamp n) / 10, 10, [dg (clamp n)]) ?_ (by refine ⟨?_, ?_, trivial⟩ <;> rfl) (by repeat first | with_reducible exact .nil _ | with_reducible exact .here _ _ | with_reducible exact Take.self _ | with_reducible apply Take.cons | with_reducible apply Out.there | with_reducible apply Take.skip | with_reducible exact Take.pre _ _ | with_reducible apply Out.app) ?_
      · have hcn := clamp_le n; exact ⟨by show clamp n / 10 ≤ _; omega, by show clamp n / 10 < 10 ^ 10; omega, by show _ = List.reverse (dg _ :: _); rw [List.reverse_cons], by show 1 + 10 ≤ 11; decide⟩
      · rintro ⟨m, f, acc⟩ ⟨hmm, hm, hc, hcl⟩
        dsimp only
        refine X_seq ?_
        refine X_seq ?_
        refine X_region ?_
        refine XL_det .no (D_pure rfl) rfl ?_
        refine XL_det .no (D_pure rfl) rfl ?_
        refine XL_then ?_
        refine X_cond rfl (fun h3 => ?_) (fun h3 => ?_)
        · try simp only [decide_eq_true_eq, decide_eq_false_iff_not, Bool.not_eq_true', Bool.not_eq_false', beq_iff_eq, bne_iff_ne, beq_eq_false_iff_ne, bne_eq_false_iff_eq, Int.not_lt, Int.not_le, gt_iff_lt, ge_iff_le, ne_eq] at h3
          obtain ⟨f2, rfl, hf1, hf2⟩ := rdF_s (by omega) hm
          refine X_skip ?_
          refine thenX_normal ?_
          refine X_seq ?_
          refine X_block ?_
          refine X_region ?_
          refine XL_det .no (D_pure rfl) rfl ?_
          refine XL_det .no (D_divmod (z := ((m % 10 : Nat) : Int)) rfl rfl (by decide) (tmod10 m)) rfl ?_
          refine XL_det .no (D_add (m := 48) (n := ((m % 10 : Nat) : Int)) rfl rfl (by omega) (by omega)) rfl ?_
          refine XL_det .no (D_cvt (z := ((dg m).toNat : Int)) rfl cvt_3_5 (dg_wrap m)) rfl ?_
          refine XL_bslice (cs := encB (dg m)) .no rfl slt_85 (by decide) (by decide) (by rfl) (by rfl) rfl rfl (fun b2 => ?_)
          refine XL_det .no (D_bstr (a := Arr.lit b2 [dg m] (by simp)) (l := [dg m]) rfl (by repeat first | with_reducible exact .here _ _ | with_reducible apply Out.there | with_reducible apply Out.app) (Rd_obj (cs := encB (dg m))) rfl bstr_85_9) rfl ?_
          refine XL_det .no (D_pure rfl) rfl ?_
          refine XL_det .no (D_scat rfl rfl (by simp; omega)) rfl ?_
          refine XL_det .no (D_pure rfl) rfl ?_
          refine XL_nil ?_
          refine inBlk_normal ?_
          refine thenX_normal ?_
          refine X_region ?_
          refine XL_det .no (D_pure rfl) rfl ?_
          refine XL_det .no (D_divmod (z := ((m / 10 : Nat) : Int)) rfl rfl (by decide) (by show IntKind.i64.wrap _ = _; rw [tdiv10]; have := clamp_le n; exact i64_in' (by omega) (by omega))) rfl ?_
          refine XL_det .no (D_pure rfl) rfl ?_
          refine XL_nil ?_
          refine loopQ_next (m / 10, f2, [dg m] ++ acc) ?_ ?_ ?_ ?_
          · (try dsimp only); exact ⟨by omega, hf2, by rw [← hc, hf1, List.reverse_cons, List.append_assoc], by simp; omega⟩
          · (try dsimp only); omega
          · refine ⟨?_, ?_, trivial⟩ <;> rfl
          · (try dsimp only); exact ⟨_, (by repeat first | with_reducible exact .nil _ | with_reducible exact .here _ _ | with_reducible exact Take.self _ | with_reducible apply Take.cons | with_reducible apply Out.there | with_reducible apply Take.skip | with_reducible exact Take.pre _ _ | with_reducible apply Out.app)⟩
        · try simp only [decide_eq_true_eq, decide_eq_false_iff_not, Bool.not_eq_true', Bool.not_eq_false', beq_iff_eq, bne_iff_ne, beq_eq_false_iff_ne, bne_eq_false_iff_eq, Int.not_lt, Int.not_le, gt_iff_lt, ge_iff_le, ne_eq] at h3
          obtain rfl : m = 0 := by omega
          rw [rdF_0, List.reverse_nil, List.nil_append] at hc
          refine X_exit ?_
          refine thenX_exit ?_
          refine loopQ_exit ?_
          refine inBlk_here ?_
          refine thenX_normal ?_
          refine X_seq ?_
          refine X_region ?_
          refine XL_det .no (D_pure rfl) rfl ?_
          refine XL_det .no (D_pure rfl) rfl ?_
          refine XL_then ?_
          refine X_ret ?_
          refine ret_ok (.nil _) (res_tmp rfl rfl) ?_
          exact ⟨_, ⟨by rw [hc]; rfl, rfl⟩, _, (by repeat first | with_reducible exact .nil _ | with_reducible exact .here _ _ | with_reducible exact Take.self _ | with_reducible apply Take.cons | with_reducible apply Out.there | with_reducible apply Take.skip | with_reducible exact Take.pre _ _ | with_reducible apply Out.app)⟩

end Go.Proofs.Ytjcpggoodbkedaa
end

section
namespace Go.Proofs.Ytjcpggoodbkedaa
open Go Go.Sl
set_option linter.unusedVariables false
set_option linter.unusedSimpArgs false
set_option maxRecDepth 4000
variable {B : Nat} {K : Asrt B}
theorem fld_36_1 : fldOff Try.prog 36 1 = some 1 := by kernel_rfl
theorem slc_31 : slcOf Try.prog 31 = some (36, 4) := by kernel_rfl
theorem tk_31 : tyK Try.prog 31 = some (false, 1) := by kernel_rfl
theorem tk_34 : tyK Try.prog 34 = some (false, 1) := by kernel_rfl
theorem tk_36 : tyK Try.prog 36 = some (true, 4) := by kernel_rfl
theorem zero_36 : zeroOf Try.prog 36 = some [.int .i64 0, .int .i64 0, .int .i64 0, .int .i64 0] := by kernel_rfl

structure Ev where
  tick : Int
  kind : Int
  a : Int
  b : Int
abbrev encE (e : Ev) : List Value := [.int .i64 e.tick, .int .i64 e.kind, .int .i64 e.a, .int .i64 e.b]
abbrev zE : Ev := ⟨0, 0, 0, 0⟩
def evF (i : Nat) (k : Int) : Option Ev → List (Nat × Ev)
  | some e => if e.kind = k then [(i, e)] else []
  | none => []
/-- The events of a kind, numbered. -/
def evL (l : List Ev) (k : Int) : Nat → List (Nat × Ev)
  | 0 => []
  | n + 1 => evL l k n ++ evF n k l[n]?
theorem evL_t {l : List Ev} {k : Int} {i : Nat} {q : Ev} (h : l[i]? = some q) (hq : q.kind = k) : evL l k (i + 1) = evL l k i ++ [(i, q)] := by rw [evL, h, evF, if_pos hq]
theorem evL_f {l : List Ev} {k : Int} {i : Nat} {q : Ev} (h : l[i]? = some q) (hq : ¬ q.kind = k) : evL l k (i + 1) = evL l k i := by rw [evL, h, evF, if_neg hq, List.append_nil]
theorem evL_le (l : List Ev) (k : Int) (n : Nat) : ∀ m, n ≤ m → ∃ r, evL l k m = evL l k n ++ r
  | 0, h => by have : n = 0 := by omega
               subst this; exact ⟨[], rfl⟩
  | m + 1, h => by
    rcases Nat.lt_or_ge n (m + 1) with h' | h'
    · obtain ⟨r, hr⟩ := evL_le l k n m (by omega)
      exact ⟨r ++ evF m k l[m]?, by rw [evL, hr, List.append_assoc]⟩
    · have : n = m + 1 := by omega
      subst this; exact ⟨[], by simp⟩
theorem evL_len (l : List Ev) (k : Int) : ∀ n, (evL l k n).length ≤ n
  | 0 => Nat.le_refl _
  | n + 1 => by
    have := evL_len l k n
    rw [evL, List.length_append]
    have : (evF n k l[n]?).length ≤ 1 := by
      cases l[n]? with
      | none => exact Nat.zero_le _
      | some s => show (if s.kind = k then [(n, s)] else []).length ≤ 1; split <;> simp
    omega
theorem evL_get {l : List Ev} {k : Int} {i : Nat} {q : Ev} (hi : i < l.length) (h : l[i]? = some q) (hq : q.kind = k) : (evL l k i).length < (evL l k l.length).length ∧ (evL l k l.length)[(evL l k i).length]? = some (i, q) := by
  obtain ⟨r, hr⟩ := evL_le l k (i + 1) l.length (by omega)
  rw [hr, evL_t h hq]
  refine ⟨by simp, ?_⟩
  rw [List.append_assoc, List.getElem?_append_right (Nat.le_refl _)]; simp
abbrev eV (p : Nat × Ev) : List Value := [.int .i64 (p.1 : Int), .agg (encE p.2).toArray]
theorem evV_get {l : List (Nat × Ev)} {i : Nat} {p : Nat × Ev} (h : l[i]? = some p) : (l.map eV).getD i [] = eV p := by simp [List.getD, h]

theorem trOf (k : Int) (l : Arr Ev) : Ctr Try.prog B 39 [.int .i64 k, .slice l.oad l.l.length l.c] [] (fun v S => ∃ bl bk, v = .func (.func 56) #[] #[.pointer (some ⟨bl, 0, none⟩), .pointer (some ⟨bk, 0, none⟩)] ∧ S = [blk bl [.slice l.oad l.l.length l.c] 31, blk bk [.int .i64 k] 34]) := by
  refine Ctr_of_X (N := 6) Try.func39 rfl (by simp) rfl ?_
  intro w0 D0
  refine X_seq ?_
  refine X_region ?_
  refine XL_box .no rfl rfl rfl (fun b1 => ?_)
  refine XL_box .no rfl rfl rfl (fun b2 => ?_)
  refine XL_det .no (D_pure rfl) rfl ?_
  refine XL_then ?_
  refine X_seq ?_
  refine X_region ?_
  refine XL_det .no (D_pure rfl) rfl ?_
  refine XL_det .no (D_pure rfl) rfl ?_
  refine XL_then ?_
  refine X_ret ?_
  refine ret_ok (.nil _) (res_tmp rfl rfl) ?_
  exact ⟨[blk b2 [.slice l.oad l.l.length l.c] 31, blk b1 [.int .i64 k] 34], ⟨b2, b1, rfl, rfl⟩, _, (by repeat first | with_reducible exact .nil _ | with_reducible exact .here _ _ | with_reducible exact Take.self _ | with_reducible apply Take.cons | with_reducible apply Out.there | with_reducible apply Take.skip | with_reducible exact Take.pre _ _ | with_reducible apply Out.app)⟩

theorem trItr (bl bk : Nat) (k : Int) (l : Arr Ev) (hl : Rd K l.ad (l.l.flatMap encE)) :
    Itr Try.prog B 56 [.pointer (some ⟨bl, 0, none⟩), .pointer (some ⟨bk, 0, none⟩)] [blk bl [.slice l.oad l.l.length l.c] 31, blk bk [.int .i64 k] 34, K] ((evL l.l k l.l.length).map eV) := by
  intro ly J Jx S0 hJ0 hy
  change Ctr _ _ _ _ (blk bl [.slice l.oad l.l.length l.c] 31 :: blk bk [.int .i64 k] 34 :: K :: S0) _
  refine Ctr_of_X (N := 25) Try.func56 rfl (by simp) rfl ?_
  intro w0 D0
  refine X_seq ?_
  refine X_region ?_
  refine XL_det .no (D_ldo rfl (by repeat first | with_reducible exact .here _ _ | with_reducible apply Out.there | with_reducible apply Out.app) tk_31 (by rfl)) rfl ?_
  refine XL_det .no (D_len rfl rfl slc_31) rfl ?_
  refine XL_det .no (D_pure rfl) rfl ?_
  refine XL_then ?_
  refine X_block ?_
  refine X_loop (α := Nat × List (Asrt B)) (fun ⟨i, S1⟩ => i ≤ l.l.length ∧ J (evL l.l k i).length S1) (fun ⟨i, S1⟩ => [(8, .int .i64 (i : Int)), (0, .func (.yield ly) #[] #[]), (1, .pointer (some ⟨bl, 0, none⟩)), (2, .pointer (some ⟨bk, 0, none⟩)), (6, .slice l.oad l.l.length l.c), (7, .int .i64 (l.l.length : Int))]) (fun ⟨i, S1⟩ => blk bl [.slice l.oad l.l.length l.c] 31 :: blk bk [.int .i64 k] 34 :: K :: S1) (fun ⟨i, S1⟩ => l.l.length - i) (0, S0) ?_ (by refine ⟨?_, ?_, ?_, ?_, ?_, ?_, trivial⟩ <;> rfl) (by repeat first | with_reducible exact .nil _ | with_reducible exact .here _ _ | with_reducible exact Take.self _ | with_reducible apply Take.cons | with_reducible apply Out.there | with_reducible apply Take.skip | with_reducible exact Take.pre _ _ | with_reducible apply Out.app) ?_
  · exact ⟨Nat.zero_le _, hJ0⟩
  · rintro ⟨i, S1⟩ ⟨hi, hJ⟩
    dsimp only
    have hsm := l.small
    refine X_seq ?_
    refine X_region ?_
    refine XL_det .no (D_pure rfl) rfl ?_
    refine XL_then ?_
    refine X_seq ?_
    refine X_cond rfl (fun h1 => ?_) (fun h1 => ?_)
    · try simp only [decide_eq_true_eq, decide_eq_false_iff_not, Bool.not_eq_true', Bool.not_eq_false', beq_iff_eq, bne_iff_ne, beq_eq_false_iff_ne, bne_eq_false_iff_eq, Int.not_lt, Int.not_le, gt_iff_lt, ge_iff_le, ne_eq] at h1
      obtain ⟨q, hg⟩ : ∃ q, l.l[i]? = some q := ⟨_, List.getElem?_eq_getElem (by omega)⟩
      refine X_skip ?_
      refine thenX_normal ?_
      refine X_seq ?_
      refine X_block ?_
      refine X_seq ?_
      refine X_region ?_
      refine XL_det .no (D_pure rfl) rfl ?_
      refine XL_det .no (D_idxSo rfl rfl slc_31 (l).nil0 rfl (by omega) rfl) rfl ?_
      refine XL_det .no (D_els (enc := encE) (sz := 4) (i := i) (fun _ => rfl) rfl (by repeat first | with_reducible exact .here _ _ | with_reducible apply Out.there | with_reducible apply Out.app) hl tk_36 hg) rfl ?_
      refine XL_alloc (cs := encE zE) .no zero_36 rfl (fun b1 => ?_)
      refine XL_det .no (D_pure rfl) rfl ?_
      refine XL_efd .no (F_stw (vs := encE q) rfl rfl (by rfl) (by repeat first | with_reducible exact .here _ _ | with_reducible apply Out.there | with_reducible apply Out.app) tk_36 rfl rfl) ?_
      refine XL_then ?_
      refine X_seq ?_
      refine X_region ?_
      refine XL_det .no (D_fld rfl fld_36_1 (o' := 1) rfl) rfl ?_
      refine XL_det .no (D_ldo rfl (by repeat first | with_reducible exact .here _ _ | with_reducible apply Out.there | with_reducible apply Out.app) tk_34 (by rfl)) rfl ?_
      refine XL_det .no (D_ldo rfl (by repeat first | with_reducible exact .here _ _ | with_reducible apply Out.there | with_reducible apply Out.app) tk_34 (by rfl)) rfl ?_
      refine XL_det .no (D_pure rfl) rfl ?_
      refine XL_det .no (D_pure rfl) rfl ?_
      refine XL_split (t := 17) rfl (fun h2 => ?_) (fun h2 => ?_)
      · try simp only [decide_eq_true_eq, decide_eq_false_iff_not, Bool.not_eq_true', Bool.not_eq_false', beq_iff_eq, bne_iff_ne, beq_eq_false_iff_ne, bne_eq_false_iff_eq, Int.not_lt, Int.not_le, gt_iff_lt, ge_iff_le, ne_eq] at h2
        obtain ⟨hlt, hget⟩ := evL_get (by omega) hg h2
        have hyy := hy _ S1 (by rw [List.length_map]; exact hlt) hJ
        rw [evV_get hget] at hyy
        refine XL_det (.yes 17 rfl rfl rfl) (D_pure rfl) rfl ?_
        refine XL_det (.yes 17 rfl rfl rfl) (D_pure rfl) rfl ?_
        refine XL_det (.yes 17 rfl rfl rfl) (D_ldso (vs := encE q) rfl (by repeat first | with_reducible exact .here _ _ | with_reducible apply Out.there | with_reducible apply Out.app) tk_36 rfl (by rfl)) rfl ?_
        refine XL_yield (own := [blk b1 (encE q) 36, blk bl [.slice l.oad l.l.length l.c] 31, blk bk [.int .i64 k] 34, K]) (Si := S1) (.yes 17 rfl rfl rfl) rfl rfl hyy rfl ?_
        rintro bb S2 hp
        simp only [List.cons_append, List.nil_append]
        refine XL_det (.yes 17 rfl rfl rfl) (D_pure rfl) rfl ?_
        refine XL_det .no (D_pure rfl) rfl ?_
        refine XL_then ?_
        refine X_cond rfl (fun h3 => ?_) (fun h3 => ?_)
        · try simp only [decide_eq_true_eq, decide_eq_false_iff_not, Bool.not_eq_true', Bool.not_eq_false', beq_iff_eq, bne_iff_ne, beq_eq_false_iff_ne, bne_eq_false_iff_eq, Int.not_lt, Int.not_le, gt_iff_lt, ge_iff_le, ne_eq] at h3
          refine X_ret ?_
          refine inBlk_ret ?_
          refine thenX_ret ?_
          refine loopQ_ret ?_
          refine inBlk_ret ?_
          refine ret_ok (.nil _) (res_none rfl) ?_
          obtain ⟨h, _⟩ | ⟨_, hp⟩ := hp
          · rw [h] at h3; cases h3
          exact ⟨blk bl [.slice l.oad l.l.length l.c] 31 :: blk bk [.int .i64 k] 34 :: K :: S2, ⟨S2, rfl, .inr ⟨_, by rw [List.length_map]; exact hlt, hp⟩⟩, _, (by repeat first | with_reducible exact .nil _ | with_reducible exact .here _ _ | with_reducible exact Take.self _ | with_reducible apply Take.cons | with_reducible apply Out.there | with_reducible apply Take.skip | with_reducible exact Take.pre _ _ | with_reducible apply Out.app)⟩
        · try simp only [decide_eq_true_eq, decide_eq_false_iff_not, Bool.not_eq_true', Bool.not_eq_false', beq_iff_eq, bne_iff_ne, beq_eq_false_iff_ne, bne_eq_false_iff_eq, Int.not_lt, Int.not_le, gt_iff_lt, ge_iff_le, ne_eq] at h3
          obtain ⟨_, hp⟩ | ⟨h, _⟩ := hp
          rotate_left
          · rw [h] at h3; cases h3
          refine X_skip ?_
          refine inBlk_normal ?_
          refine thenX_normal ?_
          refine X_region ?_
          refine XL_det .no (D_add rfl rfl (by omega) (by omega)) rfl ?_
          refine XL_det .no (D_pure rfl) rfl ?_
          refine XL_nil ?_
          refine loopQ_next (i + 1, S2) ?_ ?_ ?_ ?_
          · (try dsimp only); exact ⟨by omega, by rw [evL_t hg h2, List.length_append]; exact hp⟩
          · (try dsimp only); omega
          · refine ⟨?_, ?_, ?_, ?_, ?_, ?_, trivial⟩ <;> rfl
          · (try dsimp only); exact ⟨_, (by repeat first | with_reducible exact .nil _ | with_reducible exact .here _ _ | with_reducible exact Take.self _ | with_reducible apply Take.cons | with_reducible apply Out.there | with_reducible apply Take.skip | with_reducible exact Take.pre _ _ | with_reducible apply Out.app)⟩
      · try simp only [decide_eq_true_eq, decide_eq_false_iff_not, Bool.not_eq_true', Bool.not_eq_false', beq_iff_eq, bne_iff_ne, beq_eq_false_iff_ne, bne_eq_false_iff_eq, Int.not_lt, Int.not_le, gt_iff_lt, ge_iff_le, ne_eq] at h2
        refine XL_skip 17 rfl rfl rfl rfl rfl ?_
        refine XL_skip 17 rfl rfl rfl rfl rfl ?_
        refine XL_skip 17 rfl rfl rfl rfl rfl ?_
        refine XL_skip 17 rfl rfl rfl rfl rfl ?_
        refine XL_skip 17 rfl rfl rfl rfl rfl ?_
        refine XL_det .no (D_pure rfl) rfl ?_
        refine XL_then ?_
        refine X_cond_f rfl rfl ?_
        refine X_skip ?_
        refine inBlk_normal ?_
        refine thenX_normal ?_
        refine X_region ?_
        refine XL_det .no (D_add rfl rfl (by omega) (by omega)) rfl ?_
        refine XL_det .no (D_pure rfl) rfl ?_
        refine XL_nil ?_
        refine loopQ_next (i + 1, S1) ?_ ?_ ?_ ?_
        · (try dsimp only); exact ⟨by omega, by rw [evL_f hg h2]; exact hJ⟩
        · (try dsimp only); omega
        · refine ⟨?_, ?_, ?_, ?_, ?_, ?_, trivial⟩ <;> rfl
        · (try dsimp only); exact ⟨_, (by repeat first | with_reducible exact .nil _ | with_reducible exact .here _ _ | with_reducible exact Take.self _ | with_reducible apply Take.cons | with_reducible apply Out.there | with_reducible apply Take.skip | with_reducible exact Take.pre _ _ | with_reducible apply Out.app)⟩
    · try simp only [decide_eq_true_eq, decide_eq_false_iff_not, Bool.not_eq_true', Bool.not_eq_false', beq_iff_eq, bne_iff_ne, beq_eq_false_iff_ne, bne_eq_false_iff_eq, Int.not_lt, Int.not_le, gt_iff_lt, ge_iff_le, ne_eq] at h1
      refine X_exit ?_
      refine thenX_exit ?_
      refine loopQ_exit ?_
      refine inBlk_here ?_
      refine ret_okn (.nil _) (res_none rfl) ?_
      obtain rfl : i = l.l.length := by omega
      exact ⟨blk bl [.slice l.oad l.l.length l.c] 31 :: blk bk [.int .i64 k] 34 :: K :: S1, ⟨S1, rfl, .inl (by rw [List.length_map]; exact hJ)⟩, _, (by repeat first | with_reducible exact .nil _ | with_reducible exact .here _ _ | with_reducible exact Take.self _ | with_reducible apply Take.cons | with_reducible apply Out.there | with_reducible apply Take.skip | with_reducible exact Take.pre _ _ | with_reducible apply Out.app)⟩

end Go.Proofs.Ytjcpggoodbkedaa
end

section
namespace Go.Proofs.Ytjcpggoodbkedaa
open Go Go.Sl
set_option linter.unusedVariables false
set_option linter.unusedSimpArgs false
set_option maxRecDepth 4000
variable {B : Nat} {K : Asrt B}


theorem flat_set {l : List St5} {j : Nat} {y : St5} (h : j < l.length) : (l.flatMap stc).take (0 + j * 5) ++ stc y ++ (l.flatMap stc).drop (0 + j * 5 + 5) = (l.set j y).flatMap stc := by
  rw [Nat.zero_add]
  induction l generalizing j with
  | nil => simp at h
  | cons a l ih =>
    cases j with
    | zero => rfl
    | succ j =>
      have := ih (j := j) (by simpa using h)
      rw [List.set_cons_succ, List.flatMap_cons, List.flatMap_cons, ← this, show (j + 1) * 5 = 5 + j * 5 by omega, show 5 + j * 5 + 5 = 5 + (j * 5 + 5) by omega]
      rw [List.take_append, List.drop_append, List.take_of_length_le (by show 5 ≤ _; omega), List.drop_eq_nil_of_le (by show 5 ≤ _; omega)]
      simp [List.append_assoc]
abbrev z16 : List St5 := List.replicate 16 z5
def updS (L : List St5) (e : Ev) : List St5 := if 0 ≤ e.a ∧ e.a < 16 then (match L[e.a.toNat]? with | some s => L.set e.a.toNat (addS s e.b) | none => L) else L
def updL (L : List St5) (e : Ev) : List St5 := if 0 ≤ e.a ∧ e.a < 16 then (match L[e.a.toNat]? with | some s => L.set e.a.toNat (lw s (s.late + 1)) | none => L) else L
theorem updS_in {L : List St5} {e : Ev} {j : Nat} {q : St5} (hj : e.a = (j : Int)) (h16 : j < 16) (hq : L[j]? = some q) : updS L e = L.set j (addS q e.b) := by
  unfold updS; rw [if_pos (by omega), hj, Int.toNat_natCast, hq]
theorem updL_in {L : List St5} {e : Ev} {j : Nat} {q : St5} (hj : e.a = (j : Int)) (h16 : j < 16) (hq : L[j]? = some q) : updL L e = L.set j (lw q (q.late + 1)) := by
  unfold updL; rw [if_pos (by omega), hj, Int.toNat_natCast, hq]
theorem updS_out {L : List St5} {e : Ev} (h : ¬ (0 ≤ e.a ∧ e.a < 16)) : updS L e = L := if_neg h
theorem updL_out {L : List St5} {e : Ev} (h : ¬ (0 ≤ e.a ∧ e.a < 16)) : updL L e = L := if_neg h
structure Bd (L : List St5) (n m : Nat) : Prop where
  len : L.length = 16
  all : ∀ s ∈ L, (0 ≤ s.many ∧ s.many ≤ n) ∧ (0 ≤ s.sum ∧ s.sum ≤ 65536 * (n : Int)) ∧ 0 ≤ s.late ∧ s.late ≤ m
theorem Bd.z : Bd z16 0 0 := ⟨rfl, fun s hs => by have := (List.mem_replicate.1 hs).2; subst this; decide⟩
theorem Bd.add {L : List St5} {n m : Nat} (h : Bd L n m) (e : Ev) : Bd (updS L e) (n + 1) m := by
  have up : Bd L (n + 1) m := ⟨h.len, fun s hs => by have := h.all s hs; omega⟩
  unfold updS; split
  · split
    · rename_i q hq
      refine ⟨by rw [List.length_set]; exact h.len, fun s hs => ?_⟩
      rcases List.mem_or_eq_of_mem_set hs with hs | rfl
      · exact up.all s hs
      · have h1 := h.all q (List.mem_of_getElem? hq); have hw := wi_le e.b
        by_cases hz : q.many = 0
        · rw [addS_0 hz]; exact ⟨by show 0 ≤ (1 : Int) ∧ (1 : Int) ≤ _; omega, by show 0 ≤ wi e.b ∧ wi e.b ≤ _; omega, h1.2.2⟩
        · rw [addS_s hz]; exact ⟨by show 0 ≤ q.many + 1 ∧ q.many + 1 ≤ _; omega, by show 0 ≤ q.sum + wi e.b ∧ q.sum + wi e.b ≤ _; omega, h1.2.2⟩
    · exact up
  · exact up
theorem Bd.late {L : List St5} {n m : Nat} (h : Bd L n m) (e : Ev) : Bd (updL L e) n (m + 1) := by
  have up : Bd L n (m + 1) := ⟨h.len, fun s hs => by have := h.all s hs; omega⟩
  unfold updL; split
  · split
    · rename_i q hq
      refine ⟨by rw [List.length_set]; exact h.len, fun s hs => ?_⟩
      rcases List.mem_or_eq_of_mem_set hs with hs | rfl
      · exact up.all s hs
      · have h1 := h.all q (List.mem_of_getElem? hq)
        exact ⟨h1.1, h1.2.1, by show 0 ≤ q.late + 1 ∧ q.late + 1 ≤ _; omega⟩
    · exact up
  · exact up
def runS (L : List St5) (l : List (Nat × Ev)) : List St5 := l.foldl (fun L p => updS L p.2) L
def runL (L : List St5) (l : List (Nat × Ev)) : List St5 := l.foldl (fun L p => updL L p.2) L
theorem runS_s {L : List St5} {l : List (Nat × Ev)} {i : Nat} {p : Nat × Ev} (h : l[i]? = some p) : runS L (l.take (i + 1)) = updS (runS L (l.take i)) p.2 := by
  unfold runS; rw [List.take_add_one, h, List.foldl_append]; rfl
theorem runL_s {L : List St5} {l : List (Nat × Ev)} {i : Nat} {p : Nat × Ev} (h : l[i]? = some p) : runL L (l.take (i + 1)) = updL (runL L (l.take i)) p.2 := by
  unfold runL; rw [List.take_add_one, h, List.foldl_append]; rfl
theorem Bd.runS {m : Nat} : ∀ (l : List (Nat × Ev)) (L : List St5) (n : Nat), Bd L n m → Bd (runS L l) (n + l.length) m
  | [], L, n, h => h
  | p :: l, L, n, h => by have := Bd.runS l _ _ (h.add p.2); rw [List.length_cons, show n + (l.length + 1) = n + 1 + l.length by omega]; exact this
theorem Bd.runL {n : Nat} : ∀ (l : List (Nat × Ev)) (L : List St5) (m : Nat), Bd L n m → Bd (runL L l) n (m + l.length)
  | [], L, m, h => h
  | p :: l, L, m, h => by have := Bd.runL l _ _ (h.late p.2); rw [List.length_cons, show m + (l.length + 1) = m + 1 + l.length by omega]; exact this
/-- What is told of each task. -/
def allS (l : List Ev) : List St5 := runL (runS z16 (evL l 3 l.length)) (evL l 4 l.length)

end Go.Proofs.Ytjcpggoodbkedaa
end

section
namespace Go.Proofs.Ytjcpggoodbkedaa
open Go Go.Sl
set_option linter.unusedVariables false
set_option linter.unusedSimpArgs false
set_option maxRecDepth 4000
variable {B : Nat} {K : Asrt B}
theorem arr_32 : arrOf Try.prog 32 = some (16, 5) := by kernel_rfl
theorem en_39 : Go.Proofs.Enters Try.prog 39 := Go.Proofs.enters_of Try.func39 (by kernel_rfl) rfl
theorem en_56 : Go.Proofs.Enters Try.prog 56 := Go.Proofs.enters_of Try.func56 (by kernel_rfl) rfl
theorem fld_36_2 : fldOff Try.prog 36 2 = some 2 := by kernel_rfl
theorem fld_36_3 : fldOff Try.prog 36 3 = some 3 := by kernel_rfl
theorem zero_32 : zeroOf Try.prog 32 = some [.int .i64 0, .int .i64 0, .int .i64 0, .int .i64 0, .int .i64 0, .int .i64 0, .int .i64 0, .int .i64 0, .int .i64 0, .int .i64 0, .int .i64 0, .int .i64 0, .int .i64 0, .int .i64 0, .int .i64 0, .int .i64 0, .int .i64 0, .int .i64 0, .int .i64 0, .int .i64 0, .int .i64 0, .int .i64 0, .int .i64 0, .int .i64 0, .int .i64 0, .int .i64 0, .int .i64 0, .int .i64 0, .int .i64 0, .int .i64 0, .int .i64 0, .int .i64 0, .int .i64 0, .int .i64 0, .int .i64 0, .int .i64 0, .int .i64 0, .int .i64 0, .int .i64 0, .int .i64 0, .int .i64 0, .int .i64 0, .int .i64 0, .int .i64 0, .int .i64 0, .int .i64 0, .int .i64 0, .int .i64 0, .int .i64 0, .int .i64 0, .int .i64 0, .int .i64 0, .int .i64 0, .int .i64 0, .int .i64 0, .int .i64 0, .int .i64 0, .int .i64 0, .int .i64 0, .int .i64 0, .int .i64 0, .int .i64 0, .int .i64 0, .int .i64 0, .int .i64 0, .int .i64 0, .int .i64 0, .int .i64 0, .int .i64 0, .int .i64 0, .int .i64 0, .int .i64 0, .int .i64 0, .int .i64 0, .int .i64 0, .int .i64 0, .int .i64 0, .int .i64 0, .int .i64 0, .int .i64 0] := by kernel_rfl

theorem st_all : ∀ L : List St5, (L.flatMap stc).all (·.oneCell') = true
  | [] => rfl
  | s :: L => by rw [List.flatMap_cons, List.all_append, st_all L]; rfl
theorem late_get {L : List St5} {j : Nat} {q : St5} (h : L[j]? = some q) : (L.flatMap stc)[0 + j * 5 + 4]? = some (.int .i64 q.late) := by
  rw [Nat.zero_add]; exact flat_get (sz := 5) (fun _ => rfl) L j 4 q h (by decide)
theorem late_set {L : List St5} {j : Nat} {q : St5} {n : Int} (h : L[j]? = some q) : (L.flatMap stc).set (0 + j * 5 + 4) (.int .i64 n) = (L.set j (lw q n)).flatMap stc := by
  rw [Nat.zero_add]
  induction L generalizing j with
  | nil => simp at h
  | cons a L ih =>
    cases j with
    | zero => have : a = q := by simpa using h
              subst this; rfl
    | succ j =>
      rw [List.set_cons_succ, List.flatMap_cons, List.flatMap_cons, ← ih (j := j) (by simpa using h), show (j + 1) * 5 + 4 = 5 + (j * 5 + 4) by omega]
      exact app_set2 rfl
theorem late_lt {L : List St5} {j : Nat} (h : L.length = 16) (hj : j < 16) : Nat.blt (0 + j * 5 + 4) (L.flatMap stc).length = true := by
  rw [l16_len h]; simp; omega
theorem len_at {L : List St5} {j : Nat} (h : L.length = 16) (hj : j < 16) : Nat.ble (0 + j * 5 + 5) (L.flatMap stc).length = true := by
  rw [l16_len h]; exact Nat.ble_eq_true_of_le (by omega)
theorem allS_len (l : List Ev) : (allS l).length = 16 := (Bd.runL _ _ _ (Bd.runS _ _ _ Bd.z)).len

theorem statOf (l : Arr Ev) (hl : Rd K l.ad (l.l.flatMap encE)) (h5 : l.l.length ≤ 500) : Ctr Try.prog B 15 [.slice l.oad l.l.length l.c] [K] (fun v S => v = .agg ((allS l.l).flatMap stc).toArray ∧ S = [K]) := by
  refine Ctr_of_X (N := 51) Try.func15 rfl (by simp) rfl ?_
  intro w0 D0
  refine X_seq ?_
  refine X_region ?_
  refine XL_alloc (cs := z16.flatMap stc) .no zero_32 rfl (fun b1 => ?_)
  refine XL_then ?_
  refine X_seq ?_
  refine X_region ?_
  refine XL_alloc (cs := z16.flatMap stc) .no zero_32 rfl (fun b2 => ?_)
  refine XL_then ?_
  refine X_seq ?_
  refine X_seq ?_
  refine X_region ?_
  refine XL_det .no (D_pure rfl) rfl ?_
  refine XL_call .no en_39 rfl (trOf 3 l) (by repeat first | with_reducible exact .nil _ | with_reducible exact .here _ _ | with_reducible exact Take.self _ | with_reducible apply Take.cons | with_reducible apply Out.there | with_reducible apply Take.skip | with_reducible exact Take.pre _ _ | with_reducible apply Out.app) rfl ?_
  rintro _ _ ⟨bl, bk, rfl, rfl⟩
  simp only [List.cons_append, List.nil_append]
  refine XL_then ?_
  refine X_block ?_
  refine X_range (own := [blk bl [.slice l.oad l.l.length l.c] 31, blk bk [.int .i64 3] 34, K]) (S1 := [blk b2 (z16.flatMap stc) 32]) rfl en_56 (trItr bl bk 3 l hl) (fun i S => True ∧ S = [blk b2 ((runS z16 ((evL l.l 3 l.l.length).take i)).flatMap stc) 32]) (fun c i S => False) (show Take ([blk bl [.slice l.oad l.l.length l.c] 31, blk bk [.int .i64 3] 34, K, blk b2 (z16.flatMap stc) 32]) _ _ from (by repeat first | with_reducible exact .nil _ | with_reducible exact .here _ _ | with_reducible exact Take.self _ | with_reducible apply Take.cons | with_reducible apply Out.there | with_reducible apply Take.skip | with_reducible exact Take.pre _ _ | with_reducible apply Out.app)) (⟨trivial, rfl⟩) rfl (fun x hx => by obtain ⟨y, _, rfl⟩ := List.mem_map.1 hx; rfl) ?_ ?_ ?_
  · intro ly rec A2 i S2 hi hJ
    obtain ⟨_, rfl⟩ := hJ
    rw [List.length_map] at hi
    obtain ⟨p, hp⟩ : ∃ p, (evL l.l 3 l.l.length)[i]? = some p := ⟨_, List.getElem?_eq_getElem hi⟩
    rw [evV_get hp]
    have hel := evL_len l.l 3 l.l.length
    have hbd := Bd.runS ((evL l.l 3 l.l.length).take i) _ _ Bd.z
    rw [List.length_take, Nat.zero_add] at hbd
    refine X_region ?_
    refine XL_alloc (cs := encE zE) .no zero_36 rfl (fun b3 => ?_)
    refine XL_efd .no (F_stw (vs := encE p.2) rfl rfl (by rfl) (by repeat first | with_reducible exact .here _ _ | with_reducible apply Out.there | with_reducible apply Out.app) tk_36 rfl rfl) ?_
    refine XL_nil ?_
    refine ⟨rfl, _, _, .cons (by repeat first | with_reducible exact .here _ _ | with_reducible apply Out.there | with_reducible apply Out.app) (Take.self _), fun rec2 => ?_⟩
    refine X_block ?_
    refine X_seq ?_
    refine X_region ?_
    refine XL_det .no (D_fld rfl fld_36_2 (o' := 2) rfl) rfl ?_
    refine XL_det .no (D_ldo rfl (by repeat first | with_reducible exact .here _ _ | with_reducible apply Out.there | with_reducible apply Out.app) tk_3 (by rfl)) rfl ?_
    refine XL_det .no (D_pure rfl) rfl ?_
    refine XL_det .no (D_pure rfl) rfl ?_
    refine XL_split (t := 15) rfl (fun h1 => ?_) (fun h1 => ?_)
    · try simp only [decide_eq_true_eq, decide_eq_false_iff_not, Bool.not_eq_true', Bool.not_eq_false', beq_iff_eq, bne_iff_ne, beq_eq_false_iff_ne, bne_eq_false_iff_eq, Int.not_lt, Int.not_le, gt_iff_lt, ge_iff_le, ne_eq] at h1
      refine XL_det (.yes 15 rfl rfl rfl) (D_fld rfl fld_36_2 (o' := 2) rfl) rfl ?_
      refine XL_det (.yes 15 rfl rfl rfl) (D_ldo rfl (by repeat first | with_reducible exact .here _ _ | with_reducible apply Out.there | with_reducible apply Out.app) tk_3 (by rfl)) rfl ?_
      refine XL_det (.yes 15 rfl rfl rfl) (D_pure rfl) rfl ?_
      refine XL_det .no (D_pure rfl) rfl ?_
      refine XL_then ?_
      refine X_cond rfl (fun h2 => ?_) (fun h2 => ?_)
      · try simp only [decide_eq_true_eq, decide_eq_false_iff_not, Bool.not_eq_true', Bool.not_eq_false', beq_iff_eq, bne_iff_ne, beq_eq_false_iff_ne, bne_eq_false_iff_eq, Int.not_lt, Int.not_le, gt_iff_lt, ge_iff_le, ne_eq] at h2
        obtain ⟨j, hj⟩ := Int.eq_ofNat_of_zero_le (a := p.2.a) (by omega)
        have hj16 : j < 16 := by omega
        obtain ⟨q, hq⟩ : ∃ q, (runS z16 ((evL l.l 3 l.l.length).take i))[j]? = some q := ⟨_, List.getElem?_eq_getElem (by rw [hbd.len]; omega)⟩
        have hqb := hbd.all q (List.mem_of_getElem? hq)
        refine X_draw _ mixed (Take.self _) ?_
        refine XA_det 0 rfl (by kernel_rfl) (by kernel_rfl) (by kernel_rfl) (by kernel_rfl) (fun _ _ _ _ h => h) .no (D_fld rfl fld_36_2 (o' := 2) rfl) rfl ?_
        refine XA_det 1 rfl (by kernel_rfl) (by kernel_rfl) (by kernel_rfl) (by kernel_rfl) (fun _ _ _ _ h => h) .no (D_ldo rfl (by repeat first | with_reducible exact .here _ _ | with_reducible apply Out.there | with_reducible apply Out.app) tk_3 (by rfl)) rfl ?_
        refine XA_det 2 rfl (by kernel_rfl) (by kernel_rfl) (by kernel_rfl) (by kernel_rfl) (fun _ _ _ _ h => h) .no (D_fld rfl fld_36_2 (o' := 2) rfl) rfl ?_
        refine XA_det 3 rfl (by kernel_rfl) (by kernel_rfl) (by kernel_rfl) (by kernel_rfl) (fun _ _ _ _ h => h) .no (D_ldo rfl (by repeat first | with_reducible exact .here _ _ | with_reducible apply Out.there | with_reducible apply Out.app) tk_3 (by rfl)) rfl ?_
        refine XA_det 4 rfl (by kernel_rfl) (by kernel_rfl) (by kernel_rfl) (by kernel_rfl) (fun _ _ _ _ h => h) .no (D_idxA rfl rfl arr_32 hj hj16 rfl) rfl ?_
        refine XA_det 5 rfl (by kernel_rfl) (by kernel_rfl) (by kernel_rfl) (by kernel_rfl) (fun _ _ _ _ h => h) .no (D_els (enc := stc) (sz := 5) (i := j) (fun _ => rfl) (by rw [add_off]; rfl) (by repeat first | with_reducible exact .here _ _ | with_reducible apply Out.there | with_reducible apply Out.app) Rd_obj tk_24 hq) rfl ?_
        refine XA_det 6 rfl (by kernel_rfl) (by kernel_rfl) (by kernel_rfl) (by kernel_rfl) (fun _ _ _ _ h => h) .no (D_fld rfl fld_36_3 (o' := 3) rfl) rfl ?_
        refine XA_det 7 rfl (by kernel_rfl) (by kernel_rfl) (by kernel_rfl) (by kernel_rfl) (fun _ _ _ _ h => h) .no (D_ldo rfl (by repeat first | with_reducible exact .here _ _ | with_reducible apply Out.there | with_reducible apply Out.app) tk_3 (by rfl)) rfl ?_
        refine XA_one 8 (by kernel_rfl) ?_
        refine XO_callv rfl .no en_37 rfl (sadd q p.2.b (by omega) (by omega)) rfl ?_
        refine XA_det 9 rfl (by kernel_rfl) (by kernel_rfl) (by kernel_rfl) (by kernel_rfl) (fun _ _ _ _ h => h) .no (D_idxA rfl rfl arr_32 hj hj16 rfl) rfl ?_
        refine XA_one 10 (by kernel_rfl) ?_
        refine XO_efd rfl .no (by repeat first | with_reducible exact .nil _ | with_reducible apply App.cons) (F_sts (k := 0 + j * 5) (cs' := (runS z16 ((evL l.l 3 l.l.length).take (i + 1))).flatMap stc) rfl rfl (by simp [Value.oneCell']) (by repeat first | with_reducible exact .here _ _ | with_reducible apply Out.there | with_reducible apply Out.app) tk_24 rfl (len_at hbd.len hj16) (by rw [runS_s hp, updS_in hj hj16 hq]; exact flat_set (by rw [hbd.len]; omega))) (by kernel_rfl) ?_
        refine XA_done (by kernel_rfl) ?_
        try simp only [List.cons_append, List.nil_append, List.append_nil]
        refine inBlk_normal ?_
        exact ⟨[blk b2 ((runS z16 ((evL l.l 3 l.l.length).take (i + 1))).flatMap stc) 32], _, (by repeat first | with_reducible exact .nil _ | with_reducible exact .here _ _ | with_reducible exact Take.self _ | with_reducible apply Take.cons | with_reducible apply Out.there | with_reducible apply Take.skip | with_reducible exact Take.pre _ _ | with_reducible apply Out.app), ⟨trivial, rfl⟩⟩
      · try simp only [decide_eq_true_eq, decide_eq_false_iff_not, Bool.not_eq_true', Bool.not_eq_false', beq_iff_eq, bne_iff_ne, beq_eq_false_iff_ne, bne_eq_false_iff_eq, Int.not_lt, Int.not_le, gt_iff_lt, ge_iff_le, ne_eq] at h2
        rw [show (runS z16 ((evL l.l 3 l.l.length).take i)) = (runS z16 ((evL l.l 3 l.l.length).take (i + 1))) from by rw [runS_s hp, updS_out (by omega)]]
        refine X_skip ?_
        refine inBlk_normal ?_
        exact ⟨[blk b2 ((runS z16 ((evL l.l 3 l.l.length).take (i + 1))).flatMap stc) 32], _, (by repeat first | with_reducible exact .nil _ | with_reducible exact .here _ _ | with_reducible exact Take.self _ | with_reducible apply Take.cons | with_reducible apply Out.there | with_reducible apply Take.skip | with_reducible exact Take.pre _ _ | with_reducible apply Out.app), ⟨trivial, rfl⟩⟩
    · try simp only [decide_eq_true_eq, decide_eq_false_iff_not, Bool.not_eq_true', Bool.not_eq_false', beq_iff_eq, bne_iff_ne, beq_eq_false_iff_ne, bne_eq_false_iff_eq, Int.not_lt, Int.not_le, gt_iff_lt, ge_iff_le, ne_eq] at h1
      rw [show (runS z16 ((evL l.l 3 l.l.length).take i)) = (runS z16 ((evL l.l 3 l.l.length).take (i + 1))) from by rw [runS_s hp, updS_out (by omega)]]
      refine XL_skip 15 rfl rfl rfl rfl rfl ?_
      refine XL_skip 15 rfl rfl rfl rfl rfl ?_
      refine XL_skip 15 rfl rfl rfl rfl rfl ?_
      refine XL_det .no (D_pure rfl) rfl ?_
      refine XL_then ?_
      refine X_cond_f rfl rfl ?_
      refine X_skip ?_
      refine inBlk_normal ?_
      exact ⟨[blk b2 ((runS z16 ((evL l.l 3 l.l.length).take (i + 1))).flatMap stc) 32], _, (by repeat first | with_reducible exact .nil _ | with_reducible exact .here _ _ | with_reducible exact Take.self _ | with_reducible apply Take.cons | with_reducible apply Out.there | with_reducible apply Take.skip | with_reducible exact Take.pre _ _ | with_reducible apply Out.app), ⟨trivial, rfl⟩⟩
  · intro dd0 S2 hJ
    have hall : (runL (runS z16 (evL l.l 3 l.l.length)) (evL l.l 4 l.l.length)).length = 16 := allS_len l.l
    obtain ⟨_, rfl⟩ := hJ
    rw [List.length_map, List.take_length]
    simp only [List.cons_append, List.nil_append]
    refine inBlk_normal ?_
    refine thenX_normal ?_
    refine X_seq ?_
    refine X_seq ?_
    refine X_region ?_
    refine XL_det .no (D_pure rfl) rfl ?_
    refine XL_call .no en_39 rfl (trOf 4 l) (by repeat first | with_reducible exact .nil _ | with_reducible exact .here _ _ | with_reducible exact Take.self _ | with_reducible apply Take.cons | with_reducible apply Out.there | with_reducible apply Take.skip | with_reducible exact Take.pre _ _ | with_reducible apply Out.app) rfl ?_
    rintro _ _ ⟨bm, bn, rfl, rfl⟩
    simp only [List.cons_append, List.nil_append]
    refine XL_then ?_
    refine X_block ?_
    refine X_range (own := [blk bm [.slice l.oad l.l.length l.c] 31, blk bn [.int .i64 4] 34, K]) (S1 := [blk b2 ((runS z16 (evL l.l 3 l.l.length)).flatMap stc) 32]) rfl en_56 (trItr bm bn 4 l hl) (fun i S => True ∧ S = [blk b2 ((runL (runS z16 (evL l.l 3 l.l.length)) ((evL l.l 4 l.l.length).take i)).flatMap stc) 32]) (fun c i S => False) (show Take ([blk bm [.slice l.oad l.l.length l.c] 31, blk bn [.int .i64 4] 34, K, blk b2 ((runS z16 (evL l.l 3 l.l.length)).flatMap stc) 32]) _ _ from (by repeat first | with_reducible exact .nil _ | with_reducible exact .here _ _ | with_reducible exact Take.self _ | with_reducible apply Take.cons | with_reducible apply Out.there | with_reducible apply Take.skip | with_reducible exact Take.pre _ _ | with_reducible apply Out.app)) (⟨trivial, rfl⟩) rfl (fun x hx => by obtain ⟨y, _, rfl⟩ := List.mem_map.1 hx; rfl) ?_ ?_ ?_
    · intro ly rec A2 i S2 hi hJ
      obtain ⟨_, rfl⟩ := hJ
      rw [List.length_map] at hi
      obtain ⟨p, hp⟩ : ∃ p, (evL l.l 4 l.l.length)[i]? = some p := ⟨_, List.getElem?_eq_getElem hi⟩
      rw [evV_get hp]
      have hel := evL_len l.l 3 l.l.length
      have hel4 := evL_len l.l 4 l.l.length
      have hbd := Bd.runL ((evL l.l 4 l.l.length).take i) _ _ (Bd.runS (evL l.l 3 l.l.length) _ _ Bd.z)
      rw [List.length_take, Nat.zero_add, Nat.zero_add] at hbd
      refine X_region ?_
      refine XL_alloc (cs := encE zE) .no zero_36 rfl (fun b4 => ?_)
      refine XL_efd .no (F_stw (vs := encE p.2) rfl rfl (by rfl) (by repeat first | with_reducible exact .here _ _ | with_reducible apply Out.there | with_reducible apply Out.app) tk_36 rfl rfl) ?_
      refine XL_nil ?_
      refine ⟨rfl, _, _, .cons (by repeat first | with_reducible exact .here _ _ | with_reducible apply Out.there | with_reducible apply Out.app) (Take.self _), fun rec2 => ?_⟩
      refine X_block ?_
      refine X_seq ?_
      refine X_region ?_
      refine XL_det .no (D_fld rfl fld_36_2 (o' := 2) rfl) rfl ?_
      refine XL_det .no (D_ldo rfl (by repeat first | with_reducible exact .here _ _ | with_reducible apply Out.there | with_reducible apply Out.app) tk_3 (by rfl)) rfl ?_
      refine XL_det .no (D_pure rfl) rfl ?_
      refine XL_det .no (D_pure rfl) rfl ?_
      refine XL_split (t := 37) rfl (fun h3 => ?_) (fun h3 => ?_)
      · try simp only [decide_eq_true_eq, decide_eq_false_iff_not, Bool.not_eq_true', Bool.not_eq_false', beq_iff_eq, bne_iff_ne, beq_eq_false_iff_ne, bne_eq_false_iff_eq, Int.not_lt, Int.not_le, gt_iff_lt, ge_iff_le, ne_eq] at h3
        refine XL_det (.yes 37 rfl rfl rfl) (D_fld rfl fld_36_2 (o' := 2) rfl) rfl ?_
        refine XL_det (.yes 37 rfl rfl rfl) (D_ldo rfl (by repeat first | with_reducible exact .here _ _ | with_reducible apply Out.there | with_reducible apply Out.app) tk_3 (by rfl)) rfl ?_
        refine XL_det (.yes 37 rfl rfl rfl) (D_pure rfl) rfl ?_
        refine XL_det .no (D_pure rfl) rfl ?_
        refine XL_then ?_
        refine X_cond rfl (fun h4 => ?_) (fun h4 => ?_)
        · try simp only [decide_eq_true_eq, decide_eq_false_iff_not, Bool.not_eq_true', Bool.not_eq_false', beq_iff_eq, bne_iff_ne, beq_eq_false_iff_ne, bne_eq_false_iff_eq, Int.not_lt, Int.not_le, gt_iff_lt, ge_iff_le, ne_eq] at h4
          obtain ⟨j, hj⟩ := Int.eq_ofNat_of_zero_le (a := p.2.a) (by omega)
          have hj16 : j < 16 := by omega
          obtain ⟨q, hq⟩ : ∃ q, (runL (runS z16 (evL l.l 3 l.l.length)) ((evL l.l 4 l.l.length).take i))[j]? = some q := ⟨_, List.getElem?_eq_getElem (by rw [hbd.len]; omega)⟩
          have hqb := hbd.all q (List.mem_of_getElem? hq)
          refine X_region ?_
          refine XL_det .no (D_fld rfl fld_36_2 (o' := 2) rfl) rfl ?_
          refine XL_det .no (D_ldo rfl (by repeat first | with_reducible exact .here _ _ | with_reducible apply Out.there | with_reducible apply Out.app) tk_3 (by rfl)) rfl ?_
          refine XL_det .no (D_idxA rfl rfl arr_32 hj hj16 rfl) rfl ?_
          refine XL_det .no (D_fld rfl fld_24_4 (o' := 0 + j * 5 + 4) rfl) rfl ?_
          refine XL_det .no (D_ldo rfl (by repeat first | with_reducible exact .here _ _ | with_reducible apply Out.there | with_reducible apply Out.app) tk_3 (late_get hq)) rfl ?_
          refine XL_det .no (D_add (m := q.late) (n := 1) rfl rfl (by omega) (by omega)) rfl ?_
          refine XL_det .no (D_idxA rfl rfl arr_32 hj hj16 rfl) rfl ?_
          refine XL_det .no (D_fld rfl fld_24_4 (o' := 0 + j * 5 + 4) rfl) rfl ?_
          refine XL_efd .no (F_st (k := 0 + j * 5 + 4) (cs' := (runL (runS z16 (evL l.l 3 l.l.length)) ((evL l.l 4 l.l.length).take (i + 1))).flatMap stc) rfl rfl rfl (by repeat first | with_reducible exact .here _ _ | with_reducible apply Out.there | with_reducible apply Out.app) tk_3 (late_lt hbd.len hj16) (by rw [runL_s hp, updL_in hj hj16 hq]; exact late_set hq)) ?_
          refine XL_nil ?_
          refine inBlk_normal ?_
          exact ⟨[blk b2 ((runL (runS z16 (evL l.l 3 l.l.length)) ((evL l.l 4 l.l.length).take (i + 1))).flatMap stc) 32], _, (by repeat first | with_reducible exact .nil _ | with_reducible exact .here _ _ | with_reducible exact Take.self _ | with_reducible apply Take.cons | with_reducible apply Out.there | with_reducible apply Take.skip | with_reducible exact Take.pre _ _ | with_reducible apply Out.app), ⟨trivial, rfl⟩⟩
        · try simp only [decide_eq_true_eq, decide_eq_false_iff_not, Bool.not_eq_true', Bool.not_eq_false', beq_iff_eq, bne_iff_ne, beq_eq_false_iff_ne, bne_eq_false_iff_eq, Int.not_lt, Int.not_le, gt_iff_lt, ge_iff_le, ne_eq] at h4
          rw [show (runL (runS z16 (evL l.l 3 l.l.length)) ((evL l.l 4 l.l.length).take i)) = (runL (runS z16 (evL l.l 3 l.l.length)) ((evL l.l 4 l.l.length).take (i + 1))) from by rw [runL_s hp, updL_out (by omega)]]
          refine X_skip ?_
          refine inBlk_normal ?_
          exact ⟨[blk b2 ((runL (runS z16 (evL l.l 3 l.l.length)) ((evL l.l 4 l.l.length).take (i + 1))).flatMap stc) 32], _, (by repeat first | with_reducible exact .nil _ | with_reducible exact .here _ _ | with_reducible exact Take.self _ | with_reducible apply Take.cons | with_reducible apply Out.there | with_reducible apply Take.skip | with_reducible exact Take.pre _ _ | with_reducible apply Out.app), ⟨trivial, rfl⟩⟩
      · try simp only [decide_eq_true_eq, decide_eq_false_iff_not, Bool.not_eq_true', Bool.not_eq_false', beq_iff_eq, bne_iff_ne, beq_eq_false_iff_ne, bne_eq_false_iff_eq, Int.not_lt, Int.not_le, gt_iff_lt, ge_iff_le, ne_eq] at h3
        rw [show (runL (runS z16 (evL l.l 3 l.l.length)) ((evL l.l 4 l.l.length).take i)) = (runL (runS z16 (evL l.l 3 l.l.length)) ((evL l.l 4 l.l.length).take (i + 1))) from by rw [runL_s hp, updL_out (by omega)]]
        refine XL_skip 37 rfl rfl rfl rfl rfl ?_
        refine XL_skip 37 rfl rfl rfl rfl rfl ?_
        refine XL_skip 37 rfl rfl rfl rfl rfl ?_
        refine XL_det .no (D_pure rfl) rfl ?_
        refine XL_then ?_
        refine X_cond_f rfl rfl ?_
        refine X_skip ?_
        refine inBlk_normal ?_
        exact ⟨[blk b2 ((runL (runS z16 (evL l.l 3 l.l.length)) ((evL l.l 4 l.l.length).take (i + 1))).flatMap stc) 32], _, (by repeat first | with_reducible exact .nil _ | with_reducible exact .here _ _ | with_reducible exact Take.self _ | with_reducible apply Take.cons | with_reducible apply Out.there | with_reducible apply Take.skip | with_reducible exact Take.pre _ _ | with_reducible apply Out.app), ⟨trivial, rfl⟩⟩
    · intro dd1 S2 hJ
      have hall : (runL (runS z16 (evL l.l 3 l.l.length)) (evL l.l 4 l.l.length)).length = 16 := allS_len l.l
      obtain ⟨_, rfl⟩ := hJ
      rw [List.length_map, List.take_length]
      simp only [List.cons_append, List.nil_append]
      refine inBlk_normal ?_
      refine thenX_normal ?_
      refine X_seq ?_
      refine X_region ?_
      refine XL_det .no (D_ldso (vs := (runL (runS z16 (evL l.l 3 l.l.length)) (evL l.l 4 l.l.length)).flatMap stc) rfl (by repeat first | with_reducible exact .here _ _ | with_reducible apply Out.there | with_reducible apply Out.app) tk_32 (by rw [l16_len hall]; rfl) (l16_take hall)) rfl ?_
      refine XL_efd .no (F_stw (vs := (runL (runS z16 (evL l.l 3 l.l.length)) (evL l.l 4 l.l.length)).flatMap stc) rfl rfl (st_all _) (by repeat first | with_reducible exact .here _ _ | with_reducible apply Out.there | with_reducible apply Out.app) tk_32 (by rw [l16_len hall]; rfl) rfl) ?_
      refine XL_then ?_
      refine X_ret ?_
      refine ret_ok (show Take [dfr dd1, dfr dd0] _ _ from (by repeat first | with_reducible exact .nil _ | with_reducible exact .here _ _ | with_reducible exact Take.self _ | with_reducible apply Take.cons | with_reducible apply Out.there | with_reducible apply Take.skip | with_reducible exact Take.pre _ _ | with_reducible apply Out.app)) (res_cell rfl rfl (by repeat first | with_reducible exact .here _ _ | with_reducible apply Out.there | with_reducible apply Out.app) tk_32 (l16_len hall)) ?_
      exact ⟨_, ⟨rfl, rfl⟩, _, (by repeat first | with_reducible exact .nil _ | with_reducible exact .here _ _ | with_reducible exact Take.self _ | with_reducible apply Take.cons | with_reducible apply Out.there | with_reducible apply Take.skip | with_reducible exact Take.pre _ _ | with_reducible apply Out.app)⟩
    · intro dd1 c i S2 hi h
      exact h.elim
  · intro dd0 c i S2 hi h
    exact h.elim

end Go.Proofs.Ytjcpggoodbkedaa
end

section
namespace Go.Proofs.Ytjcpggoodbkedaa
open Go Go.Sl
set_option linter.unusedVariables false
set_option linter.unusedSimpArgs false
set_option maxRecDepth 4000
variable {B : Nat} {K : Asrt B}
theorem tk_22 : tyK Try.prog 22 = some (false, 1) := by kernel_rfl
theorem uf_87 : isFuncT Try.prog 87 = true := by kernel_rfl
theorem zero_22 : zeroOf Try.prog 22 = some [.slice none 0 0] := by kernel_rfl
theorem lsome (L : List St5) (hL : L.length = 16) : Ctr Try.prog B 17 [.agg (L.flatMap stc).toArray] [] (fun v S => ∃ x : Arr Int, (x.l = (smL L 16).map (fun p => (p.1 : Int)) ∧ x.Own) ∧ v = x.v ∧ S = [row (.slice x.oad x.l.length x.c) 3 1 x.l.length (x.l.flatMap encI)] ++ []) := by
  refine Ctr_of_X (N := 24) Try.func17 rfl (by simp) rfl ?_
  intro w0 D0
  refine X_seq ?_
  refine X_region ?_
  refine XL_box (cs := (L.flatMap stc)) .no rfl rfl rfl (fun b1 => ?_)
  refine XL_alloc .no zero_22 rfl (fun b2 => ?_)
  refine XL_then ?_
  refine X_seq ?_
  refine X_region ?_
  refine XL_alloc .no zero_22 rfl (fun b3 => ?_)
  refine XL_then ?_
  refine X_seq ?_
  refine X_seq ?_
  refine X_region ?_
  refine XL_det .no (D_ldso (vs := (L.flatMap stc)) rfl (by repeat first | with_reducible exact .here _ _ | with_reducible apply Out.there | with_reducible apply Out.app) tk_32 (by rw [l16_len hL]; rfl) (l16_take hL)) rfl ?_
  refine XL_call .no en_40 rfl (sSome L hL) (by repeat first | with_reducible exact .nil _ | with_reducible exact .here _ _ | with_reducible exact Take.self _ | with_reducible apply Take.cons | with_reducible apply Out.there | with_reducible apply Take.skip | with_reducible exact Take.pre _ _ | with_reducible apply Out.app) rfl ?_
  rintro _ _ ⟨bs, rfl, rfl⟩
  simp only [List.cons_append, List.nil_append]
  refine XL_det .no (D_pure rfl) rfl ?_
  refine XL_then ?_
  refine X_seq ?_
  refine X_region ?_
  refine XL_det .no (D_pure rfl) rfl ?_
  refine XL_det .no (D_nef rfl rfl uf_87) rfl ?_
  refine XL_then ?_
  refine X_cond_t rfl rfl ?_
  refine X_seq ?_
  refine X_region ?_
  refine XL_det .no (D_pure rfl) rfl ?_
  refine XL_then ?_
  refine X_block ?_
  refine X_rowa encI 3 1 ?_
  refine X_range (own := [blk bs (L.flatMap stc) 32]) (S1 := [blk b3 [.slice none 0 0] 22, row (.slice (Arr.emp : Arr Int).oad (Arr.emp : Arr Int).l.length (Arr.emp : Arr Int).c) 3 1 (Arr.emp : Arr Int).l.length ((Arr.emp : Arr Int).l.flatMap encI), blk b1 (L.flatMap stc) 32, blk b2 [.slice none 0 0] 22]) rfl en_57 (someItr bs L hL) (fun i S => ∃ a : Arr Int, a.l = ((smL L 16).take i).map (fun p => (p.1 : Int)) ∧ a.Own ∧ S = [blk b3 [a.v] 22, row (.slice a.oad a.l.length a.c) 3 1 a.l.length (a.l.flatMap encI), blk b1 (L.flatMap stc) 32, blk b2 [.slice none 0 0] 22]) (fun c i S => False) (show Take ([blk bs (L.flatMap stc) 32, blk b3 [.slice none 0 0] 22, row (.slice (Arr.emp : Arr Int).oad (Arr.emp : Arr Int).l.length (Arr.emp : Arr Int).c) 3 1 (Arr.emp : Arr Int).l.length ((Arr.emp : Arr Int).l.flatMap encI), blk b1 (L.flatMap stc) 32, blk b2 [.slice none 0 0] 22]) _ _ from (by repeat first | with_reducible exact .nil _ | with_reducible exact .here _ _ | with_reducible exact Take.self _ | with_reducible apply Take.cons | with_reducible apply Out.there | with_reducible apply Take.skip | with_reducible exact Take.pre _ _ | with_reducible apply Out.app)) (⟨Arr.emp, rfl, Arr.emp_own, rfl⟩) rfl (fun x hx => by obtain ⟨y, _, rfl⟩ := List.mem_map.1 hx; rfl) ?_ ?_ ?_
  · intro ly rec A2 i S2 hi hJ
    obtain ⟨a, ha, hown, rfl⟩ := hJ
    rw [List.length_map] at hi
    obtain ⟨p, hp⟩ : ∃ p, (smL L 16)[i]? = some p := ⟨_, List.getElem?_eq_getElem hi⟩
    have hsl := smL_len L 16
    have hal : a.l.length = i := by rw [ha, List.length_map, List.length_take]; omega
    have hpm := mem_smL 16 (List.mem_of_getElem? hp)
    rw [smV_get hp]
    refine X_seq ?_
    refine X_region ?_
    refine XL_det .no (D_pure rfl) rfl ?_
    refine XL_then ?_
    refine X_region ?_
    refine XL_alloc (cs := stc z5) .no zero_24 rfl (fun b4 => ?_)
    refine XL_efd .no (F_stw (vs := stc p.2) rfl rfl (by rfl) (by repeat first | with_reducible exact .here _ _ | with_reducible apply Out.there | with_reducible apply Out.app) tk_24 rfl rfl) ?_
    refine XL_nil ?_
    refine ⟨rfl, _, _, .cons (by repeat first | with_reducible exact .here _ _ | with_reducible apply Out.there | with_reducible apply Out.app) (Take.self _), fun rec2 => ?_⟩
    refine X_block ?_
    refine X_seq ?_
    refine X_seq ?_
    refine X_draw _ mixed (Take.self _) ?_
    refine XA_det 0 rfl (by kernel_rfl) (by kernel_rfl) (by kernel_rfl) (by kernel_rfl) (fun _ _ _ _ h => h) .no (D_ldso (vs := stc p.2) rfl (by repeat first | with_reducible exact .here _ _ | with_reducible apply Out.there | with_reducible apply Out.app) tk_24 rfl (by rfl)) rfl ?_
    refine XA_detp 1 rfl (by kernel_rfl) (by kernel_rfl) (by kernel_rfl) (fun _ _ _ _ h => h) .no (D_pureP rfl) rfl ?_
    refine XA_det 2 rfl (by kernel_rfl) (by kernel_rfl) (by kernel_rfl) (by kernel_rfl) (fun _ _ _ _ h => h) .no (D_idxA rfl rfl arr_32 rfl (by omega) rfl) rfl ?_
    refine XA_det 3 rfl (by kernel_rfl) (by kernel_rfl) (by kernel_rfl) (by kernel_rfl) (fun _ _ _ _ h => h) .no (D_els (enc := stc) (sz := 5) (i := p.1) (fun _ => rfl) (by rw [add_off]; rfl) (by repeat first | with_reducible exact .here _ _ | with_reducible apply Out.there | with_reducible apply Out.app) Rd_obj tk_24 hpm.2) rfl ?_
    refine XA_det 4 rfl (by kernel_rfl) (by kernel_rfl) (by kernel_rfl) (by kernel_rfl) (fun _ _ _ _ h => h) .no (D_eqs (b := false) rfl rfl eqk_24 eqg_24 rfl rfl rfl (by show (!cellsEq _ _) = false; rw [st_same]; rfl)) rfl ?_
    refine XA_done (by kernel_rfl) ?_
    try simp only [List.cons_append, List.nil_append, List.append_nil]
    refine thenX_normal ?_
    refine X_cond_f rfl rfl ?_
    refine X_skip ?_
    refine thenX_normal ?_
    refine X_region ?_
    refine XL_det .no (D_ldo rfl (by repeat first | with_reducible exact .here _ _ | with_reducible apply Out.there | with_reducible apply Out.app) tk_22 (by rfl)) rfl ?_
    refine XL_det .no (D_pure rfl) rfl ?_
    refine XL_bslice (cs := encI (p.1 : Int)) .no rfl slt_22 (by decide) (by decide) (by rfl) (by rfl) rfl rfl (fun b5 => ?_)
    refine XL_app1 (enc := encI) (c := a) (y := (p.1 : Int)) (K := _) .no rfl rfl slt_22 (by repeat first | with_reducible exact .here _ _ | with_reducible apply Out.there | with_reducible apply Out.app) (by repeat first | with_reducible exact .here _ _ | with_reducible apply Out.there | with_reducible apply Out.app) (Rd_blk0) rfl rfl (by omega) (by omega) rfl (fun a2 ha2 ha2o => ?_)
    refine XL_efd .no (F_stl rfl rfl rfl (by repeat first | with_reducible exact .here _ _ | with_reducible apply Out.there | with_reducible apply Out.app) tk_22 (by repeat first | exact .zero _ _ _ | apply SetL.succ)) ?_
    refine XL_nil ?_
    refine inBlk_normal ?_
    exact ⟨[blk b3 [a2.v] 22, row (.slice a2.oad a2.l.length a2.c) 3 1 a2.l.length (a2.l.flatMap encI), blk b1 (L.flatMap stc) 32, blk b2 [.slice none 0 0] 22], _, (by repeat first | with_reducible exact .nil _ | with_reducible exact .here _ _ | with_reducible exact Take.self _ | with_reducible apply Take.cons | with_reducible apply Out.there | with_reducible apply Take.skip | with_reducible exact Take.pre _ _ | with_reducible apply Out.app), ⟨a2, by rw [ha2, ha, List.take_add_one, hp, List.map_append]; rfl, ha2o, rfl⟩⟩
  · intro dd0 S2 hJ
    obtain ⟨a, ha, hown, rfl⟩ := hJ
    rw [List.length_map, List.take_length] at ha
    simp only [List.cons_append, List.nil_append]
    refine inBlk_normal ?_
    refine thenX_normal ?_
    refine X_seq ?_
    refine X_region ?_
    refine XL_det .no (D_ldo rfl (by repeat first | with_reducible exact .here _ _ | with_reducible apply Out.there | with_reducible apply Out.app) tk_22 (by rfl)) rfl ?_
    refine XL_efd .no (F_stl rfl rfl rfl (by repeat first | with_reducible exact .here _ _ | with_reducible apply Out.there | with_reducible apply Out.app) tk_22 (by repeat first | exact .zero _ _ _ | apply SetL.succ)) ?_
    refine XL_then ?_
    refine X_ret ?_
    refine ret_ok (show Take [dfr dd0] _ _ from (by repeat first | with_reducible exact .nil _ | with_reducible exact .here _ _ | with_reducible exact Take.self _ | with_reducible apply Take.cons | with_reducible apply Out.there | with_reducible apply Take.skip | with_reducible exact Take.pre _ _ | with_reducible apply Out.app)) (res_cell1 rfl rfl (by repeat first | with_reducible exact .here _ _ | with_reducible apply Out.there | with_reducible apply Out.app) tk_22) ?_
    exact ⟨[row (.slice a.oad a.l.length a.c) 3 1 a.l.length (a.l.flatMap encI)], ⟨a, ⟨ha, hown⟩, rfl, rfl⟩, _, (by repeat first | with_reducible exact .nil _ | with_reducible exact .here _ _ | with_reducible exact Take.self _ | with_reducible apply Take.cons | with_reducible apply Out.there | with_reducible apply Take.skip | with_reducible exact Take.pre _ _ | with_reducible apply Out.app)⟩
  · intro dd0 c i S2 hi h
    exact h.elim

end Go.Proofs.Ytjcpggoodbkedaa
end

section
namespace Go.Proofs.Ytjcpggoodbkedaa
open Go Go.Sl
set_option linter.unusedVariables false
/-- The jobs of a task that are over; how many of its jobs were late. -/
def jobsOf (l : List Ev) (t : Nat) : Nat → List Int
  | 0 => []
  | n + 1 => jobsOf l t n ++ (match l[n]? with | some e => if e.a = (t : Int) ∧ e.kind = 3 then [e.b] else [] | none => [])
def lateOf (l : List Ev) (t : Nat) : Nat → Nat
  | 0 => 0
  | n + 1 => lateOf l t n + (match l[n]? with | some e => if e.a = (t : Int) ∧ e.kind = 4 then 1 else 0 | none => 0)
theorem runS_app (L : List St5) (a b : List (Nat × Ev)) : runS L (a ++ b) = runS (runS L a) b := List.foldl_append
theorem runL_app (L : List St5) (a b : List (Nat × Ev)) : runL L (a ++ b) = runL (runL L a) b := List.foldl_append
theorem updS_get {L : List St5} {e : Ev} {t : Nat} {q : St5} (h : L.length = 16) (ht : t < 16) (hq : L[t]? = some q) : (updS L e)[t]? = some (if e.a = (t : Int) then addS q e.b else q) := by
  by_cases hc : 0 ≤ e.a ∧ e.a < 16
  · obtain ⟨j, hj⟩ := Int.eq_ofNat_of_zero_le hc.1
    obtain ⟨q2, hq2⟩ : ∃ q2, L[j]? = some q2 := ⟨_, List.getElem?_eq_getElem (by omega)⟩
    rw [updS_in hj (by omega) hq2]
    by_cases e1 : j = t
    · subst e1; rw [List.getElem?_set_self (by omega), if_pos hj]; rw [hq] at hq2; cases hq2; rfl
    · rw [List.getElem?_set_ne e1, hq, if_neg (by omega)]
  · rw [updS_out hc, hq, if_neg (by omega)]
theorem updL_get {L : List St5} {e : Ev} {t : Nat} {q : St5} (h : L.length = 16) (ht : t < 16) (hq : L[t]? = some q) : (updL L e)[t]? = some (if e.a = (t : Int) then lw q (q.late + 1) else q) := by
  by_cases hc : 0 ≤ e.a ∧ e.a < 16
  · obtain ⟨j, hj⟩ := Int.eq_ofNat_of_zero_le hc.1
    obtain ⟨q2, hq2⟩ : ∃ q2, L[j]? = some q2 := ⟨_, List.getElem?_eq_getElem (by omega)⟩
    rw [updL_in hj (by omega) hq2]
    by_cases e1 : j = t
    · subst e1; rw [List.getElem?_set_self (by omega), if_pos hj]; rw [hq] at hq2; cases hq2; rfl
    · rw [List.getElem?_set_ne e1, hq, if_neg (by omega)]
  · rw [updL_out hc, hq, if_neg (by omega)]
theorem runS_get (l : List Ev) {t : Nat} (ht : t < 16) : ∀ n, (runS z16 (evL l 3 n))[t]? = some (fs (jobsOf l t n))
  | 0 => by show (List.replicate 16 z5)[t]? = _; rw [List.getElem?_replicate, if_pos ht]; rfl
  | n + 1 => by
    have ih := runS_get l ht n
    rw [evL, runS_app, jobsOf]
    cases hq : l[n]? with
    | none => show (runS z16 (evL l 3 n ))[t]? = some (fs (jobsOf l t n ++ [])); rw [List.append_nil]; exact ih
    | some e =>
      have hlen := (Bd.runS (evL l 3 n) _ _ Bd.z).len
      by_cases hk : e.kind = 3
      · rw [show evF n 3 (some e) = [(n, e)] from if_pos hk]
        show (updS (runS z16 (evL l 3 n)) e)[t]? = _
        rw [updS_get hlen ht ih]
        by_cases ha : e.a = (t : Int)
        · simp only [ha, hk, if_true, and_self]; rw [fs_snoc]
        · simp [ha]
      · rw [show evF n 3 (some e) = [] from if_neg hk]
        show (runS z16 (evL l 3 n))[t]? = _
        rw [ih]; simp [hk]
theorem runL_get (l : List Ev) {L : List St5} {N M : Nat} (hL : Bd L N M) {t : Nat} {q : St5} (ht : t < 16) (hq : L[t]? = some q) : ∀ n, (runL L (evL l 4 n))[t]? = some (lw q (q.late + lateOf l t n))
  | 0 => by show L[t]? = _; rw [hq]; show some q = some (lw q (q.late + 0)); rw [Int.add_zero]
  | n + 1 => by
    have ih := runL_get l hL ht hq n
    rw [evL, runL_app, lateOf]
    cases hq2 : l[n]? with
    | none => exact ih
    | some e =>
      have hlen := (Bd.runL (evL l 4 n) _ _ hL).len
      by_cases hk : e.kind = 4
      · rw [show evF n 4 (some e) = [(n, e)] from if_pos hk]
        show (updL (runL L (evL l 4 n)) e)[t]? = _
        rw [updL_get hlen ht ih]
        by_cases ha : e.a = (t : Int)
        · rw [if_pos ha]
          show _ = some (lw q (q.late + ((lateOf l t n + (if e.a = (t : Int) ∧ e.kind = 4 then 1 else 0) : Nat) : Int)))
          rw [if_pos ⟨ha, hk⟩]
          show some (lw q (q.late + (lateOf l t n : Int) + 1)) = some (lw q (q.late + ((lateOf l t n + 1 : Nat) : Int)))
          rw [Int.natCast_add, ← Int.add_assoc]; rfl
        · simp [ha]
      · rw [show evF n 4 (some e) = [] from if_neg hk]
        show (runL L (evL l 4 n))[t]? = _
        rw [ih]; simp [hk]
theorem allS_get (l : List Ev) {t : Nat} (ht : t < 16) : (allS l)[t]? = some (lw (fs (jobsOf l t l.length)) (lateOf l t l.length)) := by
  have h := runL_get l (Bd.runS (evL l 3 l.length) _ _ Bd.z) ht (runS_get l ht l.length) l.length
  rw [allS, h]
  have := (fs_fits (jobsOf l t l.length)).late
  rw [this, Int.zero_add]
theorem law_line {t : Nat} {q : St5} (hq : ¬ q.many < 1) : txt (t : Int) ++ [32] ++ txt q.many ++ [32] ++ txt q.least ++ [32] ++ txt (q.sum / q.many) ++ [32] ++ txt q.most ++ [32] ++ txt q.late ++ [10] = lineS (t, q) := by
  have hm : meanS q = q.sum / q.many := if_neg hq
  unfold lineS numT nums
  simp [List.append_assoc, hm]
theorem jobs_len (l : List Ev) (t : Nat) : ∀ n, (jobsOf l t n).length ≤ n
  | 0 => Nat.le_refl _
  | n + 1 => by
    have := jobs_len l t n
    rw [jobsOf, List.length_append]
    have : (match l[n]? with | some e => if e.a = (t : Int) ∧ e.kind = 3 then [e.b] else [] | none => []).length ≤ 1 := by
      cases l[n]? with
      | none => exact Nat.zero_le _
      | some e => show (if e.a = (t : Int) ∧ e.kind = 3 then [e.b] else []).length ≤ 1; split <;> simp
    omega
theorem jobs_t {l : List Ev} {t i : Nat} {e : Ev} (h : l[i]? = some e) (hc : e.a = (t : Int) ∧ e.kind = 3) : jobsOf l t (i + 1) = jobsOf l t i ++ [e.b] := by
  rw [jobsOf, h]; show _ ++ (if e.a = (t : Int) ∧ e.kind = 3 then [e.b] else []) = _; rw [if_pos hc]
theorem jobs_f {l : List Ev} {t i : Nat} {e : Ev} (h : l[i]? = some e) (hc : ¬ (e.a = (t : Int) ∧ e.kind = 3)) : jobsOf l t (i + 1) = jobsOf l t i := by
  rw [jobsOf, h]; show _ ++ (if e.a = (t : Int) ∧ e.kind = 3 then [e.b] else []) = _; rw [if_neg hc, List.append_nil]
theorem late_t {l : List Ev} {t i : Nat} {e : Ev} (h : l[i]? = some e) (hc : e.a = (t : Int) ∧ e.kind = 4) : lateOf l t (i + 1) = lateOf l t i + 1 := by
  rw [lateOf, h]; show _ + (if e.a = (t : Int) ∧ e.kind = 4 then 1 else 0) = _; rw [if_pos hc]
theorem late_f {l : List Ev} {t i : Nat} {e : Ev} (h : l[i]? = some e) (hc : ¬ (e.a = (t : Int) ∧ e.kind = 4)) : lateOf l t (i + 1) = lateOf l t i := by
  rw [lateOf, h]; show _ + (if e.a = (t : Int) ∧ e.kind = 4 then 1 else 0) = _; rw [if_neg hc, Nat.add_zero]
end Go.Proofs.Ytjcpggoodbkedaa
end

section
namespace Go.Proofs.Ytjcpggoodbkedaa
open Go Go.Sl
set_option linter.unusedVariables false
set_option linter.unusedSimpArgs false
set_option maxRecDepth 4000
variable {B : Nat} {K : Asrt B}
theorem en_15 : Go.Proofs.Enters Try.prog 15 := Go.Proofs.enters_of Try.func15 (by kernel_rfl) rfl
theorem en_16 : Go.Proofs.Enters Try.prog 16 := Go.Proofs.enters_of Try.func16 (by kernel_rfl) rfl
theorem en_17 : Go.Proofs.Enters Try.prog 17 := Go.Proofs.enters_of Try.func17 (by kernel_rfl) rfl

theorem linesS_0 (L : List St5) : linesS (smL L 0) = [] := rfl
theorem linesS_app (a : List (Nat × St5)) (p : Nat × St5) : linesS (a ++ [p]) = linesS a ++ lineS p := by unfold linesS; rw [List.flatMap_append, List.flatMap_cons, List.flatMap_nil, List.append_nil]
theorem smap_t {L : List St5} {t : Nat} {q : St5} (h : L[t]? = some q) (hq : q.many > 0) : (smL L (t + 1)).map (fun p => (p.1 : Int)) = (smL L t).map (fun p => (p.1 : Int)) ++ [(t : Int)] := by rw [smL_t h hq, List.map_append]; rfl
theorem acc_le {L : List St5} {t : Nat} (h : t ≤ 16) : (linesS (smL L t)).length ≤ 1152 := by
  have h1 := linesS_len (smL L t); have h2 := smL_len L t; omega
theorem allS_ok (l : List Ev) (hl : l.length ≤ 500) : ∀ q ∈ allS l, sumOk q := by
  intro q hq
  have h := (Bd.runL (evL l 4 l.length) _ _ (Bd.runS (evL l 3 l.length) _ _ Bd.z)).all q hq
  have h3 := evL_len l 3 l.length
  have := h.2.1
  exact ⟨this.1, by have := this.2; omega⟩
theorem late_len (l : List Ev) (t : Nat) : ∀ n, lateOf l t n ≤ n
  | 0 => Nat.le_refl _
  | n + 1 => by
    have := late_len l t n
    rw [lateOf]
    refine Nat.add_le_add this ?_
    cases l[n]? with
    | none => exact Nat.zero_le _
    | some e => show (if e.a = (t : Int) ∧ e.kind = 4 then 1 else 0) ≤ 1; split <;> simp
theorem rows_ne {x w : List Int} {n : Nat} {p q : Int} (h : x = w) (h1 : x[n]? = some p) (h2 : w[n]? = some q) : p = q := by subst h; rw [h1] at h2; exact Option.some.inj h2

theorem statTells (l : Arr Ev) (hl : Rd K l.ad (l.l.flatMap encE)) : Ctr Try.prog B 4 [.slice l.oad l.l.length l.c] [K] (fun v S => v = .bool true ∧ S = [K]) := by
  refine Ctr_of_X (N := 145) Try.func4 rfl (by simp) rfl ?_
  intro w0 D0
  refine X_seq ?_
  refine X_region ?_
  refine XL_det .no (D_pure rfl) rfl ?_
  refine XL_then ?_
  refine X_seq ?_
  refine X_seq ?_
  refine X_region ?_
  refine XL_det .no (D_pure rfl) rfl ?_
  refine XL_det .no (D_len rfl rfl slc_31) rfl ?_
  refine XL_det .no (D_pure rfl) rfl ?_
  refine XL_then ?_
  refine X_cond rfl (fun h1 => ?_) (fun h1 => ?_)
  · try simp only [decide_eq_true_eq, decide_eq_false_iff_not, Bool.not_eq_true', Bool.not_eq_false', beq_iff_eq, bne_iff_ne, beq_eq_false_iff_ne, bne_eq_false_iff_eq, Int.not_lt, Int.not_le, gt_iff_lt, ge_iff_le, ne_eq] at h1
    refine X_seq ?_
    refine X_region ?_
    refine XL_det .no (D_pure rfl) rfl ?_
    refine XL_then ?_
    refine X_ret ?_
    refine thenX_ret ?_
    refine ret_ok (.nil _) (res_tmp rfl rfl) ?_
    exact ⟨_, ⟨rfl, rfl⟩, _, (by repeat first | with_reducible exact .nil _ | with_reducible exact .here _ _ | with_reducible exact Take.self _ | with_reducible apply Take.cons | with_reducible apply Out.there | with_reducible apply Take.skip | with_reducible exact Take.pre _ _ | with_reducible apply Out.app)⟩
  · try simp only [decide_eq_true_eq, decide_eq_false_iff_not, Bool.not_eq_true', Bool.not_eq_false', beq_iff_eq, bne_iff_ne, beq_eq_false_iff_ne, bne_eq_false_iff_eq, Int.not_lt, Int.not_le, gt_iff_lt, ge_iff_le, ne_eq] at h1
    refine X_skip ?_
    refine thenX_normal ?_
    refine X_seq ?_
    refine X_region ?_
    refine XL_det .no (D_pure rfl) rfl ?_
    refine XL_callk .no en_15 rfl (statOf l hl (by omega)) (by repeat first | with_reducible exact .nil _ | with_reducible exact .here _ _ | with_reducible exact Take.self _ | with_reducible apply Take.cons | with_reducible apply Out.there | with_reducible apply Take.skip | with_reducible exact Take.pre _ _ | with_reducible apply Out.app) rfl ?_
    refine XL_alloc .no zero_32 rfl (fun b1 => ?_)
    refine XL_efd .no (F_stw (vs := ((allS l.l).flatMap stc)) rfl rfl (st_all _) (by repeat first | with_reducible exact .here _ _ | with_reducible apply Out.there | with_reducible apply Out.app) tk_32 (by rw [l16_len (allS_len _)]; rfl) rfl) ?_
    refine XL_then ?_
    refine X_seq ?_
    refine X_region ?_
    refine XL_det .no (D_pure rfl) rfl ?_
    refine XL_then ?_
    refine X_seq ?_
    refine X_region ?_
    refine XL_det .no (D_pure rfl) rfl ?_
    refine XL_then ?_
    refine X_seq ?_
    refine X_seq ?_
    refine X_region ?_
    refine XL_det .no (D_pure rfl) rfl ?_
    refine XL_then ?_
    refine X_block ?_
    refine X_rowa encI 3 1 ?_
    refine X_loop (α := Nat × Arr Int) (fun ⟨t, w⟩ => t ≤ 16 ∧ w.l = (smL (allS l.l) t).map (fun p => (p.1 : Int)) ∧ w.Own) (fun ⟨t, w⟩ => [(4, str (linesS (smL (allS l.l) t))), (5, .slice w.oad w.l.length w.c), (6, .int .i64 (t : Int)), (0, .slice l.oad l.l.length l.c), (3, .pointer (some ⟨b1, 0, none⟩))]) (fun ⟨t, w⟩ => [blk b1 ((allS l.l).flatMap stc) 32, row (.slice w.oad w.l.length w.c) 3 1 w.l.length (w.l.flatMap encI), K]) (fun ⟨t, w⟩ => 16 - t) (0, Arr.emp) ?_ (by refine ⟨?_, ?_, ?_, ?_, ?_, trivial⟩ <;> rfl) (by repeat first | with_reducible exact .nil _ | with_reducible exact .here _ _ | with_reducible exact Take.self _ | with_reducible apply Take.cons | with_reducible apply Out.there | with_reducible apply Take.skip | with_reducible exact Take.pre _ _ | with_reducible apply Out.app) ?_
    · exact ⟨Nat.zero_le _, rfl, Arr.emp_own⟩
    · rintro ⟨t, w⟩ ⟨ht, hw, hwo⟩
      dsimp only
      have hwl : w.l.length ≤ 16 := by rw [hw, List.length_map]; have := smL_len (allS l.l) t; omega
      refine X_seq ?_
      refine X_seq ?_
      refine X_region ?_
      refine XL_det .no (D_pure rfl) rfl ?_
      refine XL_det .no (D_pure rfl) rfl ?_
      refine XL_then ?_
      refine X_cond rfl (fun h2 => ?_) (fun h2 => ?_)
      · try simp only [decide_eq_true_eq, decide_eq_false_iff_not, Bool.not_eq_true', Bool.not_eq_false', beq_iff_eq, bne_iff_ne, beq_eq_false_iff_ne, bne_eq_false_iff_eq, Int.not_lt, Int.not_le, gt_iff_lt, ge_iff_le, ne_eq] at h2
        refine X_skip ?_
        refine thenX_normal ?_
        refine X_seq ?_
        refine X_block ?_
        refine X_seq ?_
        refine X_region ?_
        refine XL_det .no (D_pure rfl) rfl ?_
        refine XL_then ?_
        refine X_seq ?_
        refine X_region ?_
        refine XL_det .no (D_pure rfl) rfl ?_
        refine XL_then ?_
        refine X_seq ?_
        refine X_seq ?_
        refine X_region ?_
        refine XL_det .no (D_pure rfl) rfl ?_
        refine XL_then ?_
        refine X_block ?_
        refine X_rowa encI 3 1 ?_
        refine X_loop (α := Nat × Arr Int) (fun ⟨i, a⟩ => i ≤ l.l.length ∧ a.l = jobsOf l.l t i ∧ a.Own) (fun ⟨i, a⟩ => [(7, .slice a.oad a.l.length a.c), (8, .int .i64 (lateOf l.l t i : Int)), (9, .int .i64 (i : Int)), (0, .slice l.oad l.l.length l.c), (3, .pointer (some ⟨b1, 0, none⟩)), (4, str (linesS (smL (allS l.l) t))), (5, .slice w.oad w.l.length w.c), (6, .int .i64 (t : Int))]) (fun ⟨i, a⟩ => [row (.slice a.oad a.l.length a.c) 3 1 a.l.length (a.l.flatMap encI), blk b1 ((allS l.l).flatMap stc) 32, row (.slice w.oad w.l.length w.c) 3 1 w.l.length (w.l.flatMap encI), K]) (fun ⟨i, a⟩ => l.l.length - i) (0, Arr.emp) ?_ (by refine ⟨?_, ?_, ?_, ?_, ?_, ?_, ?_, ?_, trivial⟩ <;> rfl) (by repeat first | with_reducible exact .nil _ | with_reducible exact .here _ _ | with_reducible exact Take.self _ | with_reducible apply Take.cons | with_reducible apply Out.there | with_reducible apply Take.skip | with_reducible exact Take.pre _ _ | with_reducible apply Out.app) ?_
        · exact ⟨Nat.zero_le _, rfl, Arr.emp_own⟩
        · rintro ⟨i, a⟩ ⟨hi, ha, hao⟩
          dsimp only
          have hjl := jobs_len l.l t i
          have hll := late_len l.l t i
          have hal : a.l.length ≤ i := by rw [ha]; exact hjl
          refine X_seq ?_
          refine X_seq ?_
          refine X_region ?_
          refine XL_det .no (D_pure rfl) rfl ?_
          refine XL_det .no (D_pure rfl) rfl ?_
          refine XL_det .no (D_len rfl rfl slc_31) rfl ?_
          refine XL_det .no (D_pure rfl) rfl ?_
          refine XL_then ?_
          refine X_cond rfl (fun h3 => ?_) (fun h3 => ?_)
          · try simp only [decide_eq_true_eq, decide_eq_false_iff_not, Bool.not_eq_true', Bool.not_eq_false', beq_iff_eq, bne_iff_ne, beq_eq_false_iff_ne, bne_eq_false_iff_eq, Int.not_lt, Int.not_le, gt_iff_lt, ge_iff_le, ne_eq] at h3
            obtain ⟨e, hg⟩ : ∃ e, l.l[i]? = some e := ⟨_, List.getElem?_eq_getElem (by omega)⟩
            refine X_skip ?_
            refine thenX_normal ?_
            refine X_seq ?_
            refine X_block ?_
            refine X_seqj (α := Arr Int) (fun c => c.l = jobsOf l.l t (i + 1) ∧ c.Own) (fun c => [(7, .slice c.oad c.l.length c.c), (0, .slice l.oad l.l.length l.c), (3, .pointer (some ⟨b1, 0, none⟩)), (4, str (linesS (smL (allS l.l) t))), (5, .slice w.oad w.l.length w.c), (6, .int .i64 (t : Int)), (8, .int .i64 (lateOf l.l t i : Int)), (9, .int .i64 (i : Int))]) (fun c => [row (.slice c.oad c.l.length c.c) 3 1 c.l.length (c.l.flatMap encI), blk b1 ((allS l.l).flatMap stc) 32, row (.slice w.oad w.l.length w.c) 3 1 w.l.length (w.l.flatMap encI), K]) ?_ ?_
            · skip
              refine X_seq ?_
              refine X_region ?_
              refine XL_det .no (D_pure rfl) rfl ?_
              refine XL_det .no (D_pure rfl) rfl ?_
              refine XL_det .no (D_idxSo rfl rfl slc_31 (l).nil0 rfl (by omega) rfl) rfl ?_
              refine XL_det .no (D_fldA rfl fld_36_2 rfl) rfl ?_
              refine XL_det .no (D_ela (enc := encE) (sz := 4) (i := i) (k := 2) (fun _ => rfl) rfl (by repeat first | with_reducible exact .here _ _ | with_reducible apply Out.there | with_reducible apply Out.app) hl tk_3 hg rfl) rfl ?_
              refine XL_det .no (D_pure rfl) rfl ?_
              refine XL_det .no (D_pure rfl) rfl ?_
              refine XL_det .no (D_pure rfl) rfl ?_
              refine XL_split (t := 35) rfl (fun h4 => ?_) (fun h4 => ?_)
              · try simp only [decide_eq_true_eq, decide_eq_false_iff_not, Bool.not_eq_true', Bool.not_eq_false', beq_iff_eq, bne_iff_ne, beq_eq_false_iff_ne, bne_eq_false_iff_eq, Int.not_lt, Int.not_le, gt_iff_lt, ge_iff_le, ne_eq] at h4
                refine XL_det (.yes 35 rfl rfl rfl) (D_pure rfl) rfl ?_
                refine XL_det (.yes 35 rfl rfl rfl) (D_pure rfl) rfl ?_
                refine XL_det (.yes 35 rfl rfl rfl) (D_idxSo rfl rfl slc_31 (l).nil0 rfl (by omega) rfl) rfl ?_
                refine XL_det (.yes 35 rfl rfl rfl) (D_fldA rfl fld_36_1 rfl) rfl ?_
                refine XL_det (.yes 35 rfl rfl rfl) (D_ela (enc := encE) (sz := 4) (i := i) (k := 1) (fun _ => rfl) rfl (by repeat first | with_reducible exact .here _ _ | with_reducible apply Out.there | with_reducible apply Out.app) hl tk_34 hg rfl) rfl ?_
                refine XL_det (.yes 35 rfl rfl rfl) (D_pure rfl) rfl ?_
                refine XL_det .no (D_pure rfl) rfl ?_
                refine XL_then ?_
                refine X_cond rfl (fun h5 => ?_) (fun h5 => ?_)
                · try simp only [decide_eq_true_eq, decide_eq_false_iff_not, Bool.not_eq_true', Bool.not_eq_false', beq_iff_eq, bne_iff_ne, beq_eq_false_iff_ne, bne_eq_false_iff_eq, Int.not_lt, Int.not_le, gt_iff_lt, ge_iff_le, ne_eq] at h5
                  refine X_region ?_
                  refine XL_det .no (D_pure rfl) rfl ?_
                  refine XL_det .no (D_pure rfl) rfl ?_
                  refine XL_det .no (D_pure rfl) rfl ?_
                  refine XL_det .no (D_idxSo rfl rfl slc_31 (l).nil0 rfl (by omega) rfl) rfl ?_
                  refine XL_det .no (D_fldA rfl fld_36_3 rfl) rfl ?_
                  refine XL_det .no (D_ela (enc := encE) (sz := 4) (i := i) (k := 3) (fun _ => rfl) rfl (by repeat first | with_reducible exact .here _ _ | with_reducible apply Out.there | with_reducible apply Out.app) hl tk_3 hg rfl) rfl ?_
                  refine XL_bslice (cs := encI e.b) .no rfl slt_22 (by decide) (by decide) (by rfl) (by rfl) rfl rfl (fun b2 => ?_)
                  refine XL_app1 (enc := encI) (c := a) (y := e.b) (K := _) .no rfl rfl slt_22 (by repeat first | with_reducible exact .here _ _ | with_reducible apply Out.there | with_reducible apply Out.app) (by repeat first | with_reducible exact .here _ _ | with_reducible apply Out.there | with_reducible apply Out.app) (Rd_blk0) rfl rfl (by omega) (by omega) rfl (fun a2 ha2 ha2o => ?_)
                  refine XL_det .no (D_pure rfl) rfl ?_
                  refine XL_nil ?_
                  refine joinQ_normal a2 ?_ ?_ ?_
                  · exact ⟨by rw [ha2, ha, jobs_t hg ⟨h4, h5⟩], ha2o⟩
                  · refine ⟨?_, ?_, ?_, ?_, ?_, ?_, ?_, ?_, trivial⟩ <;> rfl
                  · exact ⟨_, (by repeat first | with_reducible exact .nil _ | with_reducible exact .here _ _ | with_reducible exact Take.self _ | with_reducible apply Take.cons | with_reducible apply Out.there | with_reducible apply Take.skip | with_reducible exact Take.pre _ _ | with_reducible apply Out.app)⟩
                · try simp only [decide_eq_true_eq, decide_eq_false_iff_not, Bool.not_eq_true', Bool.not_eq_false', beq_iff_eq, bne_iff_ne, beq_eq_false_iff_ne, bne_eq_false_iff_eq, Int.not_lt, Int.not_le, gt_iff_lt, ge_iff_le, ne_eq] at h5
                  refine X_skip ?_
                  refine joinQ_normal a ?_ ?_ ?_
                  · exact ⟨by rw [ha, jobs_f hg (fun e => h5 e.2)], hao⟩
                  · refine ⟨?_, ?_, ?_, ?_, ?_, ?_, ?_, ?_, trivial⟩ <;> rfl
                  · exact ⟨_, (by repeat first | with_reducible exact .nil _ | with_reducible exact .here _ _ | with_reducible exact Take.self _ | with_reducible apply Take.cons | with_reducible apply Out.there | with_reducible apply Take.skip | with_reducible exact Take.pre _ _ | with_reducible apply Out.app)⟩
              · try simp only [decide_eq_true_eq, decide_eq_false_iff_not, Bool.not_eq_true', Bool.not_eq_false', beq_iff_eq, bne_iff_ne, beq_eq_false_iff_ne, bne_eq_false_iff_eq, Int.not_lt, Int.not_le, gt_iff_lt, ge_iff_le, ne_eq] at h4
                refine XL_skip 35 rfl rfl rfl rfl rfl ?_
                refine XL_skip 35 rfl rfl rfl rfl rfl ?_
                refine XL_skip 35 rfl rfl rfl rfl rfl ?_
                refine XL_skip 35 rfl rfl rfl rfl rfl ?_
                refine XL_skip 35 rfl rfl rfl rfl rfl ?_
                refine XL_skip 35 rfl rfl rfl rfl rfl ?_
                refine XL_det .no (D_pure rfl) rfl ?_
                refine XL_then ?_
                refine X_cond_f rfl rfl ?_
                refine X_skip ?_
                refine joinQ_normal a ?_ ?_ ?_
                · exact ⟨by rw [ha, jobs_f hg (fun e => h4 e.1)], hao⟩
                · refine ⟨?_, ?_, ?_, ?_, ?_, ?_, ?_, ?_, trivial⟩ <;> rfl
                · exact ⟨_, (by repeat first | with_reducible exact .nil _ | with_reducible exact .here _ _ | with_reducible exact Take.self _ | with_reducible apply Take.cons | with_reducible apply Out.there | with_reducible apply Take.skip | with_reducible exact Take.pre _ _ | with_reducible apply Out.app)⟩
            · intro c ⟨hc, hco⟩
              refine X_seq ?_
              refine X_region ?_
              refine XL_det .no (D_pure rfl) rfl ?_
              refine XL_det .no (D_pure rfl) rfl ?_
              refine XL_det .no (D_idxSo rfl rfl slc_31 (l).nil0 rfl (by omega) rfl) rfl ?_
              refine XL_det .no (D_fldA rfl fld_36_2 rfl) rfl ?_
              refine XL_det .no (D_ela (enc := encE) (sz := 4) (i := i) (k := 2) (fun _ => rfl) rfl (by repeat first | with_reducible exact .here _ _ | with_reducible apply Out.there | with_reducible apply Out.app) hl tk_3 hg rfl) rfl ?_
              refine XL_det .no (D_pure rfl) rfl ?_
              refine XL_det .no (D_pure rfl) rfl ?_
              refine XL_det .no (D_pure rfl) rfl ?_
              refine XL_split (t := 58) rfl (fun h6 => ?_) (fun h6 => ?_)
              · try simp only [decide_eq_true_eq, decide_eq_false_iff_not, Bool.not_eq_true', Bool.not_eq_false', beq_iff_eq, bne_iff_ne, beq_eq_false_iff_ne, bne_eq_false_iff_eq, Int.not_lt, Int.not_le, gt_iff_lt, ge_iff_le, ne_eq] at h6
                refine XL_det (.yes 58 rfl rfl rfl) (D_pure rfl) rfl ?_
                refine XL_det (.yes 58 rfl rfl rfl) (D_pure rfl) rfl ?_
                refine XL_det (.yes 58 rfl rfl rfl) (D_idxSo rfl rfl slc_31 (l).nil0 rfl (by omega) rfl) rfl ?_
                refine XL_det (.yes 58 rfl rfl rfl) (D_fldA rfl fld_36_1 rfl) rfl ?_
                refine XL_det (.yes 58 rfl rfl rfl) (D_ela (enc := encE) (sz := 4) (i := i) (k := 1) (fun _ => rfl) rfl (by repeat first | with_reducible exact .here _ _ | with_reducible apply Out.there | with_reducible apply Out.app) hl tk_34 hg rfl) rfl ?_
                refine XL_det (.yes 58 rfl rfl rfl) (D_pure rfl) rfl ?_
                refine XL_det .no (D_pure rfl) rfl ?_
                refine XL_then ?_
                refine X_cond rfl (fun h7 => ?_) (fun h7 => ?_)
                · try simp only [decide_eq_true_eq, decide_eq_false_iff_not, Bool.not_eq_true', Bool.not_eq_false', beq_iff_eq, bne_iff_ne, beq_eq_false_iff_ne, bne_eq_false_iff_eq, Int.not_lt, Int.not_le, gt_iff_lt, ge_iff_le, ne_eq] at h7
                  refine X_region ?_
                  refine XL_det .no (D_pure rfl) rfl ?_
                  refine XL_det .no (D_add rfl rfl (by omega) (by omega)) rfl ?_
                  refine XL_det .no (D_pure rfl) rfl ?_
                  refine XL_nil ?_
                  refine inBlk_normal ?_
                  refine thenX_normal ?_
                  refine X_region ?_
                  refine XL_det .no (D_pure rfl) rfl ?_
                  refine XL_det .no (D_add rfl rfl (by omega) (by omega)) rfl ?_
                  refine XL_det .no (D_pure rfl) rfl ?_
                  refine XL_nil ?_
                  refine loopQ_next (i + 1, c) ?_ ?_ ?_ ?_
                  · (try dsimp only); exact ⟨by omega, hc, hco⟩
                  · (try dsimp only); omega
                  · refine ⟨?_, by rw [late_t hg ⟨h6, h7⟩]; rfl, ?_, ?_, ?_, ?_, ?_, ?_, trivial⟩ <;> rfl
                  · (try dsimp only); exact ⟨_, (by repeat first | with_reducible exact .nil _ | with_reducible exact .here _ _ | with_reducible exact Take.self _ | with_reducible apply Take.cons | with_reducible apply Out.there | with_reducible apply Take.skip | with_reducible exact Take.pre _ _ | with_reducible apply Out.app)⟩
                · try simp only [decide_eq_true_eq, decide_eq_false_iff_not, Bool.not_eq_true', Bool.not_eq_false', beq_iff_eq, bne_iff_ne, beq_eq_false_iff_ne, bne_eq_false_iff_eq, Int.not_lt, Int.not_le, gt_iff_lt, ge_iff_le, ne_eq] at h7
                  refine X_skip ?_
                  refine inBlk_normal ?_
                  refine thenX_normal ?_
                  refine X_region ?_
                  refine XL_det .no (D_pure rfl) rfl ?_
                  refine XL_det .no (D_add rfl rfl (by omega) (by omega)) rfl ?_
                  refine XL_det .no (D_pure rfl) rfl ?_
                  refine XL_nil ?_
                  refine loopQ_next (i + 1, c) ?_ ?_ ?_ ?_
                  · (try dsimp only); exact ⟨by omega, hc, hco⟩
                  · (try dsimp only); omega
                  · refine ⟨?_, by rw [late_f hg (fun e => h7 e.2)]; rfl, ?_, ?_, ?_, ?_, ?_, ?_, trivial⟩ <;> rfl
                  · (try dsimp only); exact ⟨_, (by repeat first | with_reducible exact .nil _ | with_reducible exact .here _ _ | with_reducible exact Take.self _ | with_reducible apply Take.cons | with_reducible apply Out.there | with_reducible apply Take.skip | with_reducible exact Take.pre _ _ | with_reducible apply Out.app)⟩
              · try simp only [decide_eq_true_eq, decide_eq_false_iff_not, Bool.not_eq_true', Bool.not_eq_false', beq_iff_eq, bne_iff_ne, beq_eq_false_iff_ne, bne_eq_false_iff_eq, Int.not_lt, Int.not_le, gt_iff_lt, ge_iff_le, ne_eq] at h6
                refine XL_skip 58 rfl rfl rfl rfl rfl ?_
                refine XL_skip 58 rfl rfl rfl rfl rfl ?_
                refine XL_skip 58 rfl rfl rfl rfl rfl ?_
                refine XL_skip 58 rfl rfl rfl rfl rfl ?_
                refine XL_skip 58 rfl rfl rfl rfl rfl ?_
                refine XL_skip 58 rfl rfl rfl rfl rfl ?_
                refine XL_det .no (D_pure rfl) rfl ?_
                refine XL_then ?_
                refine X_cond_f rfl rfl ?_
                refine X_skip ?_
                refine inBlk_normal ?_
                refine thenX_normal ?_
                refine X_region ?_
                refine XL_det .no (D_pure rfl) rfl ?_
                refine XL_det .no (D_add rfl rfl (by omega) (by omega)) rfl ?_
                refine XL_det .no (D_pure rfl) rfl ?_
                refine XL_nil ?_
                refine loopQ_next (i + 1, c) ?_ ?_ ?_ ?_
                · (try dsimp only); exact ⟨by omega, hc, hco⟩
                · (try dsimp only); omega
                · refine ⟨?_, by rw [late_f hg (fun e => h6 e.1)]; rfl, ?_, ?_, ?_, ?_, ?_, ?_, trivial⟩ <;> rfl
                · (try dsimp only); exact ⟨_, (by repeat first | with_reducible exact .nil _ | with_reducible exact .here _ _ | with_reducible exact Take.self _ | with_reducible apply Take.cons | with_reducible apply Out.there | with_reducible apply Take.skip | with_reducible exact Take.pre _ _ | with_reducible apply Out.app)⟩
          · try simp only [decide_eq_true_eq, decide_eq_false_iff_not, Bool.not_eq_true', Bool.not_eq_false', beq_iff_eq, bne_iff_ne, beq_eq_false_iff_ne, bne_eq_false_iff_eq, Int.not_lt, Int.not_le, gt_iff_lt, ge_iff_le, ne_eq] at h3
            obtain rfl : i = l.l.length := by omega
            have hq := allS_get l.l (t := t) (by omega)
            rw [← ha] at hq
            have hfm := (fs_fits a.l).many
            have hfs := (fs_fits a.l).sum
            refine X_exit ?_
            refine thenX_exit ?_
            refine loopQ_exit ?_
            refine inBlk_here ?_
            refine thenX_normal ?_
            refine X_seq ?_
            refine X_region ?_
            refine XL_det .no (D_pure rfl) rfl ?_
            refine XL_det .no (D_pure rfl) rfl ?_
            refine XL_callk .no en_11 rfl (sof a (Rd_own hao rfl) (by omega) (lateOf l.l t l.l.length : Int)) (by repeat first | with_reducible exact .nil _ | with_reducible exact .here _ _ | with_reducible exact Take.self _ | with_reducible apply Take.cons | with_reducible apply Out.there | with_reducible apply Take.skip | with_reducible exact Take.pre _ _ | with_reducible apply Out.app) rfl ?_
            refine XL_alloc .no zero_24 rfl (fun b3 => ?_)
            refine XL_efd .no (F_stw (vs := stc (lw (fs a.l) (lateOf l.l t l.l.length))) rfl rfl (by rfl) (by repeat first | with_reducible exact .here _ _ | with_reducible apply Out.there | with_reducible apply Out.app) tk_24 rfl rfl) ?_
            refine XL_then ?_
            refine X_seq ?_
            refine X_seq ?_
            refine X_draw _ mixed (Take.self _) ?_
            refine XA_detp 0 rfl (by kernel_rfl) (by kernel_rfl) (by kernel_rfl) (fun _ _ _ _ h => h) .no (D_pureP rfl) rfl ?_
            refine XA_det 1 rfl (by kernel_rfl) (by kernel_rfl) (by kernel_rfl) (by kernel_rfl) (fun _ _ _ _ h => h) .no (D_idxA rfl rfl arr_32 rfl (by omega) rfl) rfl ?_
            refine XA_det 2 rfl (by kernel_rfl) (by kernel_rfl) (by kernel_rfl) (by kernel_rfl) (fun _ _ _ _ h => h) .no (D_els (enc := stc) (sz := 5) (i := t) (fun _ => rfl) (by rw [add_off]; rfl) (by repeat first | with_reducible exact .here _ _ | with_reducible apply Out.there | with_reducible apply Out.app) Rd_obj tk_24 hq) rfl ?_
            refine XA_det 3 rfl (by kernel_rfl) (by kernel_rfl) (by kernel_rfl) (by kernel_rfl) (fun _ _ _ _ h => h) .no (D_ldso (vs := stc (lw (fs a.l) (lateOf l.l t l.l.length))) rfl (by repeat first | with_reducible exact .here _ _ | with_reducible apply Out.there | with_reducible apply Out.app) tk_24 rfl (by rfl)) rfl ?_
            refine XA_det 4 rfl (by kernel_rfl) (by kernel_rfl) (by kernel_rfl) (by kernel_rfl) (fun _ _ _ _ h => h) .no (D_eqs (b := false) rfl rfl eqk_24 eqg_24 rfl rfl rfl (by show (!cellsEq _ _) = false; rw [st_same]; rfl)) rfl ?_
            refine XA_done (by kernel_rfl) ?_
            try simp only [List.cons_append, List.nil_append, List.append_nil]
            refine thenX_normal ?_
            refine X_cond_f rfl rfl ?_
            refine X_skip ?_
            refine thenX_normal ?_
            refine X_seq ?_
            refine X_seq ?_
            refine X_region ?_
            refine XL_det .no (D_pure rfl) rfl ?_
            refine XL_det .no (D_len rfl rfl slc_22) rfl ?_
            refine XL_det .no (D_pure rfl) rfl ?_
            refine XL_then ?_
            refine X_cond rfl (fun h8 => ?_) (fun h8 => ?_)
            · try simp only [decide_eq_true_eq, decide_eq_false_iff_not, Bool.not_eq_true', Bool.not_eq_false', beq_iff_eq, bne_iff_ne, beq_eq_false_iff_ne, bne_eq_false_iff_eq, Int.not_lt, Int.not_le, gt_iff_lt, ge_iff_le, ne_eq] at h8
              have hq0 : ¬ (lw (fs a.l) (lateOf l.l t l.l.length)).many > 0 := by show ¬ (fs a.l).many > 0; omega
              refine X_exit ?_
              refine thenX_exit ?_
              refine inBlk_here ?_
              refine thenX_normal ?_
              refine X_region ?_
              refine XL_det .no (D_pure rfl) rfl ?_
              refine XL_det .no (D_add rfl rfl (by omega) (by omega)) rfl ?_
              refine XL_det .no (D_pure rfl) rfl ?_
              refine XL_nil ?_
              refine loopQ_next (t + 1, w) ?_ ?_ ?_ ?_
              · (try dsimp only); exact ⟨by omega, by rw [hw, smL_f hq hq0], hwo⟩
              · (try dsimp only); omega
              · refine ⟨by rw [smL_f hq hq0]; rfl, ?_, ?_, ?_, ?_, trivial⟩ <;> rfl
              · (try dsimp only); exact ⟨_, (by repeat first | with_reducible exact .nil _ | with_reducible exact .here _ _ | with_reducible exact Take.self _ | with_reducible apply Take.cons | with_reducible apply Out.there | with_reducible apply Take.skip | with_reducible exact Take.pre _ _ | with_reducible apply Out.app)⟩
            · try simp only [decide_eq_true_eq, decide_eq_false_iff_not, Bool.not_eq_true', Bool.not_eq_false', beq_iff_eq, bne_iff_ne, beq_eq_false_iff_ne, bne_eq_false_iff_eq, Int.not_lt, Int.not_le, gt_iff_lt, ge_iff_le, ne_eq] at h8
              have hq1 : (lw (fs a.l) (lateOf l.l t l.l.length)).many > 0 := by show (fs a.l).many > 0; omega
              have hac := acc_le (L := (allS l.l)) (t := t) ht
              have g1 := txt_len (t : Int)
              have g2 := txt_len (lw (fs a.l) (lateOf l.l t l.l.length)).many
              have g3 := txt_len (lw (fs a.l) (lateOf l.l t l.l.length)).least
              have g4 := txt_len ((lw (fs a.l) (lateOf l.l t l.l.length)).sum / (lw (fs a.l) (lateOf l.l t l.l.length)).many)
              have g5 := txt_len (lw (fs a.l) (lateOf l.l t l.l.length)).most
              have g6 := txt_len (lw (fs a.l) (lateOf l.l t l.l.length)).late
              have k2 := txt_len (fs a.l).many
              have k3 := txt_len (fs a.l).least
              have k4 := txt_len ((fs a.l).sum / (fs a.l).many)
              have k5 := txt_len (fs a.l).most
              have k6 := txt_len (lateOf l.l t l.l.length : Int)
              have hdiv : IntKind.i64.wrap (Int.tdiv (lw (fs a.l) (lateOf l.l t l.l.length)).sum (lw (fs a.l) (lateOf l.l t l.l.length)).many) = (lw (fs a.l) (lateOf l.l t l.l.length)).sum / (lw (fs a.l) (lateOf l.l t l.l.length)).many := by rw [Int.tdiv_eq_ediv_of_nonneg (by show 0 ≤ (fs a.l).sum; omega)]; have e1 := Int.ediv_nonneg (show 0 ≤ (lw (fs a.l) (lateOf l.l t l.l.length)).sum by show 0 ≤ (fs a.l).sum; omega) (show 0 ≤ (lw (fs a.l) (lateOf l.l t l.l.length)).many by omega); have e2 := Int.ediv_le_self (lw (fs a.l) (lateOf l.l t l.l.length)).many (show 0 ≤ (lw (fs a.l) (lateOf l.l t l.l.length)).sum by show 0 ≤ (fs a.l).sum; omega); have e3 : (lw (fs a.l) (lateOf l.l t l.l.length)).sum ≤ 65536000 := (by show (fs a.l).sum ≤ _; omega); exact i64_in' (by omega) (by omega)
              refine X_skip ?_
              refine thenX_normal ?_
              refine X_seq ?_
              refine X_region ?_
              refine XL_det .no (D_pure rfl) rfl ?_
              refine XL_det .no (D_pure rfl) rfl ?_
              refine XL_bslice (cs := encI (t : Int)) .no rfl slt_22 (by decide) (by decide) (by rfl) (by rfl) rfl rfl (fun b4 => ?_)
              refine XL_app1 (enc := encI) (c := w) (y := (t : Int)) (K := _) .no rfl rfl slt_22 (by repeat first | with_reducible exact .here _ _ | with_reducible apply Out.there | with_reducible apply Out.app) (by repeat first | with_reducible exact .here _ _ | with_reducible apply Out.there | with_reducible apply Out.app) (Rd_blk0) rfl rfl (by omega) (by omega) rfl (fun a2 ha2 ha2o => ?_)
              refine XL_det .no (D_pure rfl) rfl ?_
              refine XL_then ?_
              refine X_draw _ mixed (Take.self _) ?_
              refine XA_detp 0 rfl (by kernel_rfl) (by kernel_rfl) (by kernel_rfl) (fun _ _ _ _ h => h) .no (D_pureP rfl) rfl ?_
              refine XA_detp 1 rfl (by kernel_rfl) (by kernel_rfl) (by kernel_rfl) (fun _ _ _ _ h => h) .no (D_pureP rfl) rfl ?_
              refine XA_det 4 rfl (by kernel_rfl) (by kernel_rfl) (by kernel_rfl) (by kernel_rfl) (fun _ _ _ _ h => h) .no (D_fld rfl fld_24_0 (o' := 0) rfl) rfl ?_
              refine XA_det 5 rfl (by kernel_rfl) (by kernel_rfl) (by kernel_rfl) (by kernel_rfl) (fun _ _ _ _ h => h) .no (D_ldo rfl (by repeat first | with_reducible exact .here _ _ | with_reducible apply Out.there | with_reducible apply Out.app) tk_3 (by rfl)) rfl ?_
              refine XA_det 9 rfl (by kernel_rfl) (by kernel_rfl) (by kernel_rfl) (by kernel_rfl) (fun _ _ _ _ h => h) .no (D_fld rfl fld_24_1 (o' := 1) rfl) rfl ?_
              refine XA_det 10 rfl (by kernel_rfl) (by kernel_rfl) (by kernel_rfl) (by kernel_rfl) (fun _ _ _ _ h => h) .no (D_ldo rfl (by repeat first | with_reducible exact .here _ _ | with_reducible apply Out.there | with_reducible apply Out.app) tk_3 (by rfl)) rfl ?_
              refine XA_det 14 rfl (by kernel_rfl) (by kernel_rfl) (by kernel_rfl) (by kernel_rfl) (fun _ _ _ _ h => h) .no (D_fld rfl fld_24_3 (o' := 3) rfl) rfl ?_
              refine XA_det 15 rfl (by kernel_rfl) (by kernel_rfl) (by kernel_rfl) (by kernel_rfl) (fun _ _ _ _ h => h) .no (D_ldo rfl (by repeat first | with_reducible exact .here _ _ | with_reducible apply Out.there | with_reducible apply Out.app) tk_3 (by rfl)) rfl ?_
              refine XA_det 16 rfl (by kernel_rfl) (by kernel_rfl) (by kernel_rfl) (by kernel_rfl) (fun _ _ _ _ h => h) .no (D_fld rfl fld_24_0 (o' := 0) rfl) rfl ?_
              refine XA_det 17 rfl (by kernel_rfl) (by kernel_rfl) (by kernel_rfl) (by kernel_rfl) (fun _ _ _ _ h => h) .no (D_ldo rfl (by repeat first | with_reducible exact .here _ _ | with_reducible apply Out.there | with_reducible apply Out.app) tk_3 (by rfl)) rfl ?_
              refine XA_det 18 rfl (by kernel_rfl) (by kernel_rfl) (by kernel_rfl) (by kernel_rfl) (fun _ _ _ _ h => h) .no (D_divmod (z := (lw (fs a.l) (lateOf l.l t l.l.length)).sum / (lw (fs a.l) (lateOf l.l t l.l.length)).many) rfl rfl (by omega) hdiv) rfl ?_
              refine XA_det 22 rfl (by kernel_rfl) (by kernel_rfl) (by kernel_rfl) (by kernel_rfl) (fun _ _ _ _ h => h) .no (D_fld rfl fld_24_2 (o' := 2) rfl) rfl ?_
              refine XA_det 23 rfl (by kernel_rfl) (by kernel_rfl) (by kernel_rfl) (by kernel_rfl) (fun _ _ _ _ h => h) .no (D_ldo rfl (by repeat first | with_reducible exact .here _ _ | with_reducible apply Out.there | with_reducible apply Out.app) tk_3 (by rfl)) rfl ?_
              refine XA_det 27 rfl (by kernel_rfl) (by kernel_rfl) (by kernel_rfl) (by kernel_rfl) (fun _ _ _ _ h => h) .no (D_fld rfl fld_24_4 (o' := 4) rfl) rfl ?_
              refine XA_det 28 rfl (by kernel_rfl) (by kernel_rfl) (by kernel_rfl) (by kernel_rfl) (fun _ _ _ _ h => h) .no (D_ldo rfl (by repeat first | with_reducible exact .here _ _ | with_reducible apply Out.there | with_reducible apply Out.app) tk_3 (by rfl)) rfl ?_
              refine XA_one 2 (by kernel_rfl) ?_
              refine XO_callv rfl .no en_16 rfl (rtext (t : Int)) rfl ?_
              refine XA_det 3 rfl (by kernel_rfl) (by kernel_rfl) (by kernel_rfl) (by kernel_rfl) (fun _ _ _ _ h => h) .no (D_scat rfl rfl (by simp only [List.length_append, List.length_cons, List.length_nil]; omega)) rfl ?_
              refine XA_one 6 (by kernel_rfl) ?_
              refine XO_callv rfl .no en_16 rfl (rtext (lw (fs a.l) (lateOf l.l t l.l.length)).many) rfl ?_
              refine XA_det 7 rfl (by kernel_rfl) (by kernel_rfl) (by kernel_rfl) (by kernel_rfl) (fun _ _ _ _ h => h) .no (D_scat rfl rfl (by simp only [List.length_append, List.length_cons, List.length_nil]; omega)) rfl ?_
              refine XA_det 8 rfl (by kernel_rfl) (by kernel_rfl) (by kernel_rfl) (by kernel_rfl) (fun _ _ _ _ h => h) .no (D_scat rfl rfl (by simp only [List.length_append, List.length_cons, List.length_nil]; omega)) rfl ?_
              refine XA_one 11 (by kernel_rfl) ?_
              refine XO_callv rfl .no en_16 rfl (rtext (lw (fs a.l) (lateOf l.l t l.l.length)).least) rfl ?_
              refine XA_det 12 rfl (by kernel_rfl) (by kernel_rfl) (by kernel_rfl) (by kernel_rfl) (fun _ _ _ _ h => h) .no (D_scat rfl rfl (by simp only [List.length_append, List.length_cons, List.length_nil]; omega)) rfl ?_
              refine XA_det 13 rfl (by kernel_rfl) (by kernel_rfl) (by kernel_rfl) (by kernel_rfl) (fun _ _ _ _ h => h) .no (D_scat rfl rfl (by simp only [List.length_append, List.length_cons, List.length_nil]; omega)) rfl ?_
              refine XA_one 19 (by kernel_rfl) ?_
              refine XO_callv rfl .no en_16 rfl (rtext ((lw (fs a.l) (lateOf l.l t l.l.length)).sum / (lw (fs a.l) (lateOf l.l t l.l.length)).many)) rfl ?_
              refine XA_det 20 rfl (by kernel_rfl) (by kernel_rfl) (by kernel_rfl) (by kernel_rfl) (fun _ _ _ _ h => h) .no (D_scat rfl rfl (by simp only [List.length_append, List.length_cons, List.length_nil]; omega)) rfl ?_
              refine XA_det 21 rfl (by kernel_rfl) (by kernel_rfl) (by kernel_rfl) (by kernel_rfl) (fun _ _ _ _ h => h) .no (D_scat rfl rfl (by simp only [List.length_append, List.length_cons, List.length_nil]; omega)) rfl ?_
              refine XA_one 24 (by kernel_rfl) ?_
              refine XO_callv rfl .no en_16 rfl (rtext (lw (fs a.l) (lateOf l.l t l.l.length)).most) rfl ?_
              refine XA_det 25 rfl (by kernel_rfl) (by kernel_rfl) (by kernel_rfl) (by kernel_rfl) (fun _ _ _ _ h => h) .no (D_scat rfl rfl (by simp only [List.length_append, List.length_cons, List.length_nil]; omega)) rfl ?_
              refine XA_det 26 rfl (by kernel_rfl) (by kernel_rfl) (by kernel_rfl) (by kernel_rfl) (fun _ _ _ _ h => h) .no (D_scat rfl rfl (by simp only [List.length_append, List.length_cons, List.length_nil]; omega)) rfl ?_
              refine XA_one 29 (by kernel_rfl) ?_
              refine XO_callv rfl .no en_16 rfl (rtext (lw (fs a.l) (lateOf l.l t l.l.length)).late) rfl ?_
              refine XA_det 30 rfl (by kernel_rfl) (by kernel_rfl) (by kernel_rfl) (by kernel_rfl) (fun _ _ _ _ h => h) .no (D_scat rfl rfl (by simp only [List.length_append, List.length_cons, List.length_nil]; omega)) rfl ?_
              refine XA_det 31 rfl (by kernel_rfl) (by kernel_rfl) (by kernel_rfl) (by kernel_rfl) (fun _ _ _ _ h => h) .no (D_scat rfl rfl (by simp only [List.length_append, List.length_cons, List.length_nil]; omega)) rfl ?_
              refine XA_det 32 rfl (by kernel_rfl) (by kernel_rfl) (by kernel_rfl) (by kernel_rfl) (fun _ _ _ _ h => h) .no (D_scat rfl rfl (by simp only [List.length_append, List.length_cons, List.length_nil]; omega)) rfl ?_
              refine XA_detp 33 rfl (by kernel_rfl) (by kernel_rfl) (by kernel_rfl) (fun _ _ _ _ h => h) .no (D_pureP rfl) rfl ?_
              refine XA_done (by kernel_rfl) ?_
              try simp only [List.cons_append, List.nil_append, List.append_nil]
              refine inBlk_normal ?_
              refine thenX_normal ?_
              refine X_region ?_
              refine XL_det .no (D_pure rfl) rfl ?_
              refine XL_det .no (D_add rfl rfl (by omega) (by omega)) rfl ?_
              refine XL_det .no (D_pure rfl) rfl ?_
              refine XL_nil ?_
              refine loopQ_next (t + 1, a2) ?_ ?_ ?_ ?_
              · (try dsimp only); exact ⟨by omega, by rw [ha2, hw, smap_t hq hq1], ha2o⟩
              · (try dsimp only); omega
              · refine ⟨by rw [smL_t hq hq1, linesS_app, ← law_line (q := (lw (fs a.l) (lateOf l.l t l.l.length))) (by omega)]; simp only [List.append_assoc]; rfl, ?_, ?_, ?_, ?_, trivial⟩ <;> rfl
              · (try dsimp only); exact ⟨_, (by repeat first | with_reducible exact .nil _ | with_reducible exact .here _ _ | with_reducible exact Take.self _ | with_reducible apply Take.cons | with_reducible apply Out.there | with_reducible apply Take.skip | with_reducible exact Take.pre _ _ | with_reducible apply Out.app)⟩
      · try simp only [decide_eq_true_eq, decide_eq_false_iff_not, Bool.not_eq_true', Bool.not_eq_false', beq_iff_eq, bne_iff_ne, beq_eq_false_iff_ne, bne_eq_false_iff_eq, Int.not_lt, Int.not_le, gt_iff_lt, ge_iff_le, ne_eq] at h2
        have ht16 : t = 16 := by omega
        have htx : textS (allS l.l) = linesS (smL (allS l.l) t) := by rw [ht16]; rfl
        rw [ht16] at hw
        refine X_exit ?_
        refine thenX_exit ?_
        refine loopQ_exit ?_
        refine inBlk_here ?_
        refine thenX_normal ?_
        refine X_seq ?_
        refine X_region ?_
        refine XL_det .no (D_ldso (vs := ((allS l.l).flatMap stc)) rfl (by repeat first | with_reducible exact .here _ _ | with_reducible apply Out.there | with_reducible apply Out.app) tk_32 (by rw [l16_len (allS_len _)]; rfl) (l16_take (allS_len _))) rfl ?_
        refine XL_call .no en_17 rfl (lsome (allS l.l) (allS_len _)) (by repeat first | with_reducible exact .nil _ | with_reducible exact .here _ _ | with_reducible exact Take.self _ | with_reducible apply Take.cons | with_reducible apply Out.there | with_reducible apply Take.skip | with_reducible exact Take.pre _ _ | with_reducible apply Out.app) rfl ?_
        rintro _ _ ⟨x, ⟨hx, hxo⟩, rfl, rfl⟩
        simp only [List.cons_append, List.nil_append]
        refine XL_det .no (D_pure rfl) rfl ?_
        refine XL_then ?_
        refine X_seq ?_
        refine X_seq ?_
        refine X_region ?_
        refine XL_det .no (D_pure rfl) rfl ?_
        refine XL_det .no (D_len rfl rfl slc_22) rfl ?_
        refine XL_det .no (D_pure rfl) rfl ?_
        refine XL_det .no (D_len rfl rfl slc_22) rfl ?_
        refine XL_det .no (D_pure rfl) rfl ?_
        refine XL_then ?_
        refine X_cond rfl (fun h9 => ?_) (fun h9 => ?_)
        · try simp only [decide_eq_true_eq, decide_eq_false_iff_not, Bool.not_eq_true', Bool.not_eq_false', beq_iff_eq, bne_iff_ne, beq_eq_false_iff_ne, bne_eq_false_iff_eq, Int.not_lt, Int.not_le, gt_iff_lt, ge_iff_le, ne_eq] at h9
          exact absurd (by rw [hx, hw]) h9
        · try simp only [decide_eq_true_eq, decide_eq_false_iff_not, Bool.not_eq_true', Bool.not_eq_false', beq_iff_eq, bne_iff_ne, beq_eq_false_iff_ne, bne_eq_false_iff_eq, Int.not_lt, Int.not_le, gt_iff_lt, ge_iff_le, ne_eq] at h9
          refine X_skip ?_
          refine thenX_normal ?_
          refine X_seq ?_
          refine X_seq ?_
          refine X_region ?_
          refine XL_det .no (D_pure rfl) rfl ?_
          refine XL_then ?_
          refine X_block ?_
          refine X_loop (α := Nat) (fun n => n ≤ x.l.length) (fun n => [(12, .int .i64 (n : Int)), (0, .slice l.oad l.l.length l.c), (3, .pointer (some ⟨b1, 0, none⟩)), (4, str (linesS (smL (allS l.l) t))), (5, .slice w.oad w.l.length w.c), (11, .slice x.oad x.l.length x.c)]) (fun n => [row (.slice x.oad x.l.length x.c) 3 1 x.l.length (x.l.flatMap encI), blk b1 ((allS l.l).flatMap stc) 32, row (.slice w.oad w.l.length w.c) 3 1 w.l.length (w.l.flatMap encI), K]) (fun n => x.l.length - n) 0 ?_ (by refine ⟨?_, ?_, ?_, ?_, ?_, ?_, trivial⟩ <;> rfl) (by repeat first | with_reducible exact .nil _ | with_reducible exact .here _ _ | with_reducible exact Take.self _ | with_reducible apply Take.cons | with_reducible apply Out.there | with_reducible apply Take.skip | with_reducible exact Take.pre _ _ | with_reducible apply Out.app) ?_
          · exact Nat.zero_le _
          · intro n hn
            refine X_seq ?_
            refine X_seq ?_
            refine X_region ?_
            refine XL_det .no (D_pure rfl) rfl ?_
            refine XL_det .no (D_pure rfl) rfl ?_
            refine XL_det .no (D_len rfl rfl slc_22) rfl ?_
            refine XL_det .no (D_pure rfl) rfl ?_
            refine XL_then ?_
            refine X_cond rfl (fun h10 => ?_) (fun h10 => ?_)
            · try simp only [decide_eq_true_eq, decide_eq_false_iff_not, Bool.not_eq_true', Bool.not_eq_false', beq_iff_eq, bne_iff_ne, beq_eq_false_iff_ne, bne_eq_false_iff_eq, Int.not_lt, Int.not_le, gt_iff_lt, ge_iff_le, ne_eq] at h10
              obtain ⟨p1, hgx⟩ : ∃ p, x.l[n]? = some p := ⟨_, List.getElem?_eq_getElem (by omega)⟩
              obtain ⟨p2, hgw⟩ : ∃ p, w.l[n]? = some p := ⟨_, List.getElem?_eq_getElem (by omega)⟩
              refine X_skip ?_
              refine thenX_normal ?_
              refine X_seq ?_
              refine X_block ?_
              refine X_seq ?_
              refine X_draw _ mixed (Take.self _) ?_
              refine XA_detp 0 rfl (by kernel_rfl) (by kernel_rfl) (by kernel_rfl) (fun _ _ _ _ h => h) .no (D_pureP rfl) rfl ?_
              refine XA_detp 1 rfl (by kernel_rfl) (by kernel_rfl) (by kernel_rfl) (fun _ _ _ _ h => h) .no (D_pureP rfl) rfl ?_
              refine XA_detp 2 rfl (by kernel_rfl) (by kernel_rfl) (by kernel_rfl) (fun _ _ _ _ h => h) .no (D_idxSoP rfl rfl slc_22 (x).nil0 rfl (by omega) rfl) rfl ?_
              refine XA_det 3 rfl (by kernel_rfl) (by kernel_rfl) (by kernel_rfl) (by kernel_rfl) (fun _ _ _ _ h => h) .no (D_ela (enc := encI) (sz := 1) (i := n) (k := 0) (fun _ => rfl) rfl (by repeat first | with_reducible exact .here _ _ | with_reducible apply Out.there | with_reducible apply Out.app) (Rd_own hxo rfl) tk_3 hgx rfl) rfl ?_
              refine XA_detp 4 rfl (by kernel_rfl) (by kernel_rfl) (by kernel_rfl) (fun _ _ _ _ h => h) .no (D_pureP rfl) rfl ?_
              refine XA_detp 5 rfl (by kernel_rfl) (by kernel_rfl) (by kernel_rfl) (fun _ _ _ _ h => h) .no (D_pureP rfl) rfl ?_
              refine XA_detp 6 rfl (by kernel_rfl) (by kernel_rfl) (by kernel_rfl) (fun _ _ _ _ h => h) .no (D_idxSoP rfl rfl slc_22 (w).nil0 rfl (by omega) rfl) rfl ?_
              refine XA_det 7 rfl (by kernel_rfl) (by kernel_rfl) (by kernel_rfl) (by kernel_rfl) (fun _ _ _ _ h => h) .no (D_ela (enc := encI) (sz := 1) (i := n) (k := 0) (fun _ => rfl) rfl (by repeat first | with_reducible exact .here _ _ | with_reducible apply Out.there | with_reducible apply Out.app) (Rd_own hwo rfl) tk_3 hgw rfl) rfl ?_
              refine XA_detp 8 rfl (by kernel_rfl) (by kernel_rfl) (by kernel_rfl) (fun _ _ _ _ h => h) .no (D_pureP rfl) rfl ?_
              refine XA_done (by kernel_rfl) ?_
              try simp only [List.cons_append, List.nil_append, List.append_nil]
              refine thenX_normal ?_
              refine X_cond rfl (fun h11 => ?_) (fun h11 => ?_)
              · try simp only [decide_eq_true_eq, decide_eq_false_iff_not, Bool.not_eq_true', Bool.not_eq_false', beq_iff_eq, bne_iff_ne, beq_eq_false_iff_ne, bne_eq_false_iff_eq, Int.not_lt, Int.not_le, gt_iff_lt, ge_iff_le, ne_eq] at h11
                exact absurd (rows_ne (hx.trans hw.symm) hgx hgw) h11
              · try simp only [decide_eq_true_eq, decide_eq_false_iff_not, Bool.not_eq_true', Bool.not_eq_false', beq_iff_eq, bne_iff_ne, beq_eq_false_iff_ne, bne_eq_false_iff_eq, Int.not_lt, Int.not_le, gt_iff_lt, ge_iff_le, ne_eq] at h11
                refine X_skip ?_
                refine inBlk_normal ?_
                refine thenX_normal ?_
                refine X_region ?_
                refine XL_det .no (D_pure rfl) rfl ?_
                refine XL_det .no (D_add rfl rfl (by omega) (by omega)) rfl ?_
                refine XL_det .no (D_pure rfl) rfl ?_
                refine XL_nil ?_
                refine loopQ_next (n + 1) ?_ ?_ ?_ ?_
                · omega
                · omega
                · refine ⟨?_, ?_, ?_, ?_, ?_, ?_, trivial⟩ <;> rfl
                · exact ⟨_, (by repeat first | with_reducible exact .nil _ | with_reducible exact .here _ _ | with_reducible exact Take.self _ | with_reducible apply Take.cons | with_reducible apply Out.there | with_reducible apply Take.skip | with_reducible exact Take.pre _ _ | with_reducible apply Out.app)⟩
            · try simp only [decide_eq_true_eq, decide_eq_false_iff_not, Bool.not_eq_true', Bool.not_eq_false', beq_iff_eq, bne_iff_ne, beq_eq_false_iff_ne, bne_eq_false_iff_eq, Int.not_lt, Int.not_le, gt_iff_lt, ge_iff_le, ne_eq] at h10
              refine X_exit ?_
              refine thenX_exit ?_
              refine loopQ_exit ?_
              refine inBlk_here ?_
              refine thenX_normal ?_
              refine X_seq ?_
              refine X_region ?_
              refine XL_det .no (D_ldso (vs := ((allS l.l).flatMap stc)) rfl (by repeat first | with_reducible exact .here _ _ | with_reducible apply Out.there | with_reducible apply Out.app) tk_32 (by rw [l16_len (allS_len _)]; rfl) (l16_take (allS_len _))) rfl ?_
              refine XL_callv .no en_18 rfl (sText (allS l.l) (allS_len _) (allS_ok _ (by omega))) rfl ?_
              refine XL_det .no (D_pure rfl) rfl ?_
              refine XL_det .no (D_seq (q := true) rfl rfl (by show (_ == _) = true; rw [htx]; exact beq_self_eq_true _)) rfl ?_
              refine XL_det .no (D_pure rfl) rfl ?_
              refine XL_callv (.yes 142 rfl rfl rfl) en_14 rfl (alive40) rfl ?_
              refine XL_det .no (D_pure rfl) rfl ?_
              refine XL_det .no (D_pure rfl) rfl ?_
              refine XL_then ?_
              refine X_ret ?_
              refine ret_ok (.nil _) (res_tmp rfl rfl) ?_
              exact ⟨_, ⟨rfl, rfl⟩, _, (by repeat first | with_reducible exact .nil _ | with_reducible exact .here _ _ | with_reducible exact Take.self _ | with_reducible apply Take.cons | with_reducible apply Out.there | with_reducible apply Take.skip | with_reducible exact Take.pre _ _ | with_reducible apply Out.app)⟩

end Go.Proofs.Ytjcpggoodbkedaa
end

section
namespace Go.Proofs.Ytjcpggoodbkedaa
open Go Go.Sl Go.ChangeShapes Go.WideShapes Go.ChangeAt Go.RowKit
set_option linter.unusedVariables false
set_option maxRecDepth 20000
theorem own : ownKnob Try.prog.godebug = none := by kernel_rfl
theorem laidOut : laidOutB Try.prog = true := by kernel_rfl
theorem eqk_36 : eqKinds Try.prog 12 36 = some [some .i64, some .i64, some .i64, some .i64] := by kernel_rfl
theorem sl_ev : slcOf Try.prog 31 = some (36, 4) := by kernel_rfl
theorem sz_ev : (Try.prog.info? 36).map (·.size) = some 4 := by kernel_rfl
theorem open_ev {W : World} {n : Nat} {H : Type} {enc : TypeId × Value → H} {cs : List Value} {x : DataW H × List MemPlace} (hx : DataW.trod enc Try.prog W 0 (fun _ => true) true n 36 cs = some x) : ∃ o : Ev, cs = encE o ∧ True := by
  obtain ⟨e, h, hf⟩ := flat_dec eqk_36 sz_ev hx
  exact ⟨⟨e 0, e 1, e 2, e 3⟩, h, trivial⟩

/-- The walk, at the arguments as the row reads them. -/
theorem walkStatTells (W : World) (args : Array Value) (h : ArgsOk Try.prog W Try.f4.params.toList args.toList) : Calls Try.prog 4 args W fun e w' => e = .returned (.bool true) ∧ Go.RowKit.Below W.heap.size W w' := by
  rw [show Try.f4.params.toList = [31] from by kernel_rfl] at h
  obtain ⟨args⟩ := args
  match args, h with
  | [v0], h =>
    obtain ⟨a0, _⟩ := h
    obtain ⟨l, rfl, _, hl⟩ := arg_arr (encA := encE) (ok := fun _ => True) sl_ev (by decide) a0 (fun n cs x hx => open_ev hx)
    exact calls_of (old_self W) ((statTells l hl).mono fun _ _ h => h.1)

set_option maxRecDepth 100000 in
theorem liftedStatTells (os : Os) (started : os.Started) (H : Type) (enc : TypeId × Value → H) :
    ReturnsInHanded {} Try.checked os 4 .any (Rows.statTellsSpec.pre6 enc Try.prog Try.f4 Rows.statTellsRow.domain false) (Rows.statTellsSpec.post enc Try.prog Try.f4 false true false false) :=
  handed (C := Try.checked) (tb := 4) own started (by kernel_rfl) Try.func4 laidOut (by kernel_rfl) rfl
    (fun ds h => by
      have h : ds.length = 1 := h
      match ds, h with
      | [_], _ => exact ⟨rfl, rfl, rfl⟩) (by kernel_rfl) (by kernel_rfl)
    (ChangeSpec.witness6 (enc := enc) (C := Try.checked) false ⟨#[], #[.slice none 0 0], []⟩ 8 (by kernel_rfl) (by kernel_rfl) (by kernel_rfl) (by kernel_rfl))
    (fun W args h => walkStatTells W args h)

theorem overStatTells : Rows.statTellsRow.holds Try.pinned (OpenSpec.ofChange Rows.statTellsSpec) :=
  OpenClaim.holds_of_wide 4 Try.f4 rfl rfl rfl rfl rfl rfl rfl ⟨rfl, rfl, rfl, rfl, rfl⟩ rfl rfl rfl rfl rfl (by kernel_rfl) Try.func4 (by kernel_rfl)
    (of_decide_eq_true (by kernel_rfl)) (by unfold Func.isWrapper; first | (rw [if_pos (by decide +kernel)]; kernel_rfl) | (rw [if_neg (by decide +kernel)]; exact ⟨rfl, rfl⟩))
    (fun os started H enc _ => liftedStatTells os started H enc)

/-- The statement. -/
theorem provedStatTells : Rows.StatTellsSaid := overStatTells

#print axioms provedStatTells
end Go.Proofs.Ytjcpggoodbkedaa
end
