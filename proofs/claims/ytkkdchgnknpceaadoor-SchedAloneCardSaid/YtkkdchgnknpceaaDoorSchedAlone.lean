/- The given statement SchedAloneCardSaid is proved: with the ceilings of all tasks, a resource is taken only while nobody holds it, and the task that runs is the least one that is there or one that holds something. Conditions: images that are right and not too great, at most 60 calls, 2,000 ticks, as the statement itself says them; none beside. -/
import Derived.Test.YtkkdchgnknpceaaDoorSchedAloneP3
import Derived.KernelRfl
import Derived.Test.YtkkdchgnknpceaaDoorProg
import Derived.Test.YtkkdchgnknpceaaDoorRows
import Derived.Test.YtkkdchgnknpceaaDoorTie
import Derived.Test.YtkkdchgnknpceaaDoorCards
import Derived.SevenTiedAt
import Derived.LaidMore
section
namespace Go.Proofs.YtkkdchgnknpceaaDoor
open Go Go.Sl
set_option linter.unusedVariables false
set_option linter.unusedSimpArgs false
set_option maxRecDepth 4000
variable {B : Nat} {K : Asrt B}
theorem arr_59 : arrOf Tryd.prog 59 = some (8, 1) := by kernel_rfl
theorem en_24 : Go.Proofs.Enters Tryd.prog 24 := Go.Proofs.enters_of Tryd.func24 (by kernel_rfl) rfl
theorem en_26 : Go.Proofs.Enters Tryd.prog 26 := Go.Proofs.enters_of Tryd.func26 (by kernel_rfl) rfl
theorem ub_4 : Tryd.prog.underlying 4 = some .bool := by kernel_rfl
theorem zero_59 : zeroOf Tryd.prog 59 = some [.bool false, .bool false, .bool false, .bool false, .bool false, .bool false, .bool false, .bool false] := by kernel_rfl

/-! ### Nobody else -/
section
variable {ts : List (Nat → Int)} {A : Nat → Prop} {s : Cr}
theorem Sys.held_ne (h : Sys ts A s) {p q : Nat} (hp : s.L p) (hq : s.L q) (hn : p ≠ q) (p1 : 0 ≤ s.H p) (q1 : 0 ≤ s.H q) : s.H p ≠ s.H q := by
  intro e
  obtain ⟨_, r, _, _, r1, _, _, r2, r3⟩ := h.held hp p1
  obtain ⟨_, t, _, _, t1, _, _, t2, t3⟩ := h.held hq q1
  have : r = t := by omega
  subst this
  rcases h.apart p q hp hq hn p1 q1 with g | g <;> omega
theorem Sys.took_free (h : Sys ts A s) {k q : Nat} (g : Goes s k) (hk : 0 ≤ tookC (s.jf k)) (hq : s.L q) (q1 : 0 ≤ s.H q) : s.H q ≠ tookC (s.jf k) := by
  intro e
  unfold tookC at hk e
  split at hk
  · rename_i c
    rw [if_pos c] at e
    have hf : s.H k < 0 := c.2
    have g1 := (g.free h.ok hf hq).1 q1
    obtain ⟨ek, he, hok, _⟩ := h.task g.l
    obtain ⟨r, h8, r1, r2⟩ := take_le hok c.1
    have ht := h.tab k ek (h.al k g.l).1 he r h8 (by omega)
    obtain ⟨_, t, _, _, t1, _, _, t2, _⟩ := h.held hq q1
    have : t = r := by omega
    subst this
    omega
  · omega
theorem took_in (h : Sys ts A s) {k : Nat} (hl : s.L k) : tookC (s.jf k) < 8 := by
  unfold tookC
  split
  · rename_i c
    obtain ⟨ek, _, hok, _⟩ := h.task hl
    obtain ⟨r, h8, r1, _⟩ := take_le hok c.1
    omega
  · omega
theorem held_pw (h : Sys ts A s) : ∀ {l : List Int}, l.Pairwise (· < ·) → (∀ i ∈ l, 0 ≤ i ∧ s.L i.toNat) → (heldT s l).Pairwise fun p q => p.1 ≠ q.1
  | [], _, _ => List.Pairwise.nil
  | a :: l, hp, hm => by
    obtain ⟨g1, g2⟩ := List.pairwise_cons.1 hp
    have e : heldT s (a :: l) = (if 0 ≤ s.H a.toNat then [(s.H a.toNat, a)] else []) ++ heldT s l := by unfold heldT; rw [List.flatMap_cons]
    rw [e]
    refine List.pairwise_append.2 ⟨by split <;> simp, held_pw h g2 (fun i hi => hm i (List.mem_cons_of_mem _ hi)), fun x hx y hy => ?_⟩
    split at hx
    · rename_i ha
      simp at hx; subst hx
      unfold heldT at hy
      obtain ⟨i, hi, hy⟩ := List.mem_flatMap.1 hy
      split at hy
      · rename_i hb
        simp at hy; subst hy
        obtain ⟨a0, al⟩ := hm a (List.mem_cons_self ..)
        obtain ⟨i0, il⟩ := hm i (List.mem_cons_of_mem _ hi)
        have := g1 i hi
        exact h.held_ne al il (by omega) ha hb
      · cases hy
    · cases hx
theorem listN_lt (b : BitVec 32) (n : Nat) : (listN b n).Pairwise (· < ·) := by
  unfold listN
  rw [List.pairwise_map]
  refine (List.Pairwise.filter _ (List.pairwise_lt_range (n := n))).imp fun h => ?_
  exact Int.ofNat_lt.2 h
theorem Sys.held_pw (h : Sys ts A s) : (heldL s).Pairwise fun p q => p.1 ≠ q.1 :=
  Go.Proofs.YtkkdchgnknpceaaDoor.held_pw h (listN_lt _ _) fun i hi => by
    obtain ⟨g1, _, g3⟩ := mem_listN.1 hi
    exact ⟨g1, by show hasB s.live ((i.toNat : Nat) : Int) = true; rw [show ((i.toNat : Nat) : Int) = i by omega]; exact g3⟩
theorem Sys.held_in (h : Sys ts A s) {p : Int × Int} (hp : p ∈ heldL s) : ∃ r : Nat, r < 8 ∧ p.1 = r := by
  obtain ⟨k, h1, h2, rfl⟩ := mem_held.1 hp
  obtain ⟨_, r, _, h8, r1, _⟩ := h.held h1 h2
  exact ⟨r, h8, r1⟩
/-- By whom something is held. -/
def byF (l : List (Int × Int)) : Nat → Bool := fun r => l.any fun p => decide (p.1 = (r : Int))
theorem byF_0 : byF [] = fun _ => false := rfl
theorem byF_s {l : List (Int × Int)} {i r : Nat} {p : Int × Int} (h : l[i]? = some p) (hr : p.1 = r) : upd (byF (l.take i)) r true = byF (l.take (i + 1)) := by
  funext j
  unfold byF
  rw [List.take_add_one, h, List.any_append]
  by_cases c : j = r
  · subst c; rw [upd_same]; simp [hr]
  · rw [upd_ne _ _ c]
    have : ¬ (r : Int) = j := by omega
    simp [hr, this]
theorem Sys.by_no (h : Sys ts A s) {i r : Nat} {p : Int × Int} (hi : (heldL s)[i]? = some p) (hr : p.1 = r) : byF ((heldL s).take i) r = false := by
  cases hb : byF ((heldL s).take i) r with
  | false => rfl
  | true =>
    exfalso
    unfold byF at hb
    obtain ⟨q, hq, e⟩ := List.any_eq_true.1 hb
    obtain ⟨j, hj⟩ := List.mem_iff_getElem?.1 hq
    have hji : j < i := by
      have := (List.getElem?_eq_some_iff.1 hj).1
      rw [List.length_take] at this; omega
    rw [List.getElem?_take_of_lt hji] at hj
    have := List.pairwise_iff_getElem.1 h.held_pw j i (List.getElem?_eq_some_iff.1 hj).1 (List.getElem?_eq_some_iff.1 hi).1 hji
    rw [(List.getElem?_eq_some_iff.1 hj).2, (List.getElem?_eq_some_iff.1 hi).2] at this
    simp at e; omega
/-- What is said of a tick. -/
structure AloneP (s : Cr) (x : Ran) : Prop where
  t8 : x.took < 8
  by_ : ∀ r : Nat, x.took = r → byF (heldL s) r = false
  any_ : decide (s.live ≠ 0#32) = decide (0 ≤ x.task)
  least : s.live ≠ 0#32 → x.task ≠ (leastN s.live : Int) → ∃ j : Nat, 2 * j + 1 < (flatP (heldL s)).length ∧ (flatP (heldL s))[2 * j + 1]? = some x.task
theorem Sys.alone (h : Sys ts A s) (hn : s.now < 1000000000) : AloneP s (tickC s).2 := by
  obtain ⟨_, ⟨k, t, o⟩ | ⟨q, qe⟩⟩ := h.tick_or hn
  · have hl0 : s.live ≠ 0#32 := fun c => by
      have := t.g.l; unfold Cr.L at this; rw [c] at this; simp [hasB] at this
    refine ⟨by rw [o.took]; exact took_in h t.g.l, fun r hr => ?_, by rw [o.task, decide_eq_true hl0]; simp, fun _ hk => ?_⟩
    · rw [o.took] at hr
      cases hb : byF (heldL s) r with
      | false => rfl
      | true =>
        unfold byF at hb
        obtain ⟨p, hp, e⟩ := List.any_eq_true.1 hb
        obtain ⟨q, q1, q2, rfl⟩ := mem_held.1 hp
        have := h.took_free t.g (by omega) q1 q2
        simp at e; omega
    · rw [o.task] at hk ⊢
      obtain ⟨l1, l2, l3⟩ := least_spec hl0
      have hlk : leastN s.live < k := by
        rcases Nat.lt_trichotomy (leastN s.live) k with c | c | c
        · exact c
        · exact absurd (by rw [c]) hk
        · have := l3 k c; have h2 := t.g.l; unfold Cr.L at h2; rw [this] at h2; cases h2
      have hh := (t.g.over h.ok l2 hlk).1
      have hm : (s.H k, (k : Int)) ∈ heldL s := mem_held.2 ⟨k, t.g.l, hh, rfl⟩
      obtain ⟨j, hj⟩ := List.mem_iff_getElem?.1 hm
      have hlt := (List.getElem?_eq_some_iff.1 hj).1
      exact ⟨j, by rw [flatP_len]; omega, (flatP_get hj).2⟩
  · have hl0 : s.live = 0#32 := hasB_ext fun i hi => by
      cases hb : hasB s.live (i : Int) with
      | true => exact absurd hb (q i)
      | false => simp [hasB]
    rw [qe]
    exact ⟨by show (-1 : Int) < 8; omega, fun r hr => by have hr : (-1 : Int) = r := hr; omega, by rw [hl0]; rfl, fun c => absurd hl0 c⟩
end
theorem b8_get {f : Nat → Bool} {j : Nat} (h : j < 8) : (rowB 8 f)[0 + j * 1]? = some (.bool (f j)) := by rw [Nat.zero_add, Nat.mul_one]; exact rowF_get h
theorem b8_set {f : Nat → Bool} {j : Nat} {v : Bool} : (rowB 8 f).set (0 + j * 1) (.bool v) = rowB 8 (upd f j v) := by rw [Nat.zero_add, Nat.mul_one]; exact rowF_set (c := fun m => Value.bool m) (v := v)
theorem b8_lt {f : Nat → Bool} {k : Nat} (h : k < 8) : Nat.blt (0 + k * 1) (rowB 8 f).length = true := by simp [rowF_len]; omega

theorem schedAlone {Ki : Asrt B} (x : Img) (hx : x.In Ki) (l : Arr OpS) (hl : OpsIn Ki l) (hK : Rd K ⟨0, 0, none⟩ (tab32.map fun m => .int .u8 m)) (hd : Dup K) : Ctr Tryd.prog B 4 [x.v, .slice l.oad l.l.length l.c] [K, Ki] (fun v S => v = .bool true ∧ S = [K, Ki]) := by
  refine Ctr_of_X (N := 148) Tryd.func4 rfl (by simp) rfl ?_
  intro w0 D0
  refine X_seq ?_
  refine X_region ?_
  refine XL_box (cs := [.int .i64 x.res, .slice x.tasks.oad x.tasks.l.length x.tasks.c, .slice x.modes.oad x.modes.l.length x.modes.c, .slice x.edges.oad x.edges.l.length x.edges.c]) .no rfl rfl rfl (fun b1 => ?_)
  refine XL_det .no (D_pure rfl) rfl ?_
  refine XL_then ?_
  refine X_seq ?_
  refine X_seq ?_
  refine X_region ?_
  refine XL_det .no (D_ldso (vs := [.int .i64 x.res, .slice x.tasks.oad x.tasks.l.length x.tasks.c, .slice x.modes.oad x.modes.l.length x.modes.c, .slice x.edges.oad x.edges.l.length x.edges.c]) rfl (by repeat first | with_reducible exact .here _ _ | with_reducible apply Out.there | with_reducible apply Out.app) tk_26 rfl (by rfl)) rfl ?_
  refine XL_callk .no en_9 rfl (rgreat x hx) (by repeat first | with_reducible exact .nil _ | with_reducible exact .here _ _ | with_reducible exact Take.self _ | with_reducible apply Take.cons | with_reducible apply Out.there | with_reducible apply Take.skip | with_reducible exact Take.pre _ _ | with_reducible apply Out.app) rfl ?_
  refine XL_det .no (D_pure rfl) rfl ?_
  refine XL_split (t := 18) rfl (fun h1 => ?_) (fun h1 => ?_)
  · try simp only [decide_eq_true_eq, decide_eq_false_iff_not, Bool.not_eq_true', Bool.not_eq_false', beq_iff_eq, bne_iff_ne, beq_eq_false_iff_ne, bne_eq_false_iff_eq, Int.not_lt, Int.not_le, gt_iff_lt, ge_iff_le, ne_eq] at h1
    refine XL_skip 18 rfl rfl rfl rfl rfl ?_
    refine XL_skip 18 rfl rfl rfl rfl rfl ?_
    refine XL_skip 18 rfl rfl rfl rfl rfl ?_
    refine XL_det .no (D_pure rfl) rfl ?_
    refine XL_det .no (D_pure rfl) rfl ?_
    refine XL_skip 23 rfl rfl rfl rfl rfl ?_
    refine XL_skip 23 rfl rfl rfl rfl rfl ?_
    refine XL_det .no (D_pure rfl) rfl ?_
    refine XL_then ?_
    refine X_cond_t rfl rfl ?_
    refine X_seq ?_
    refine X_region ?_
    refine XL_det .no (D_pure rfl) rfl ?_
    refine XL_then ?_
    refine X_ret ?_
    refine thenX_ret ?_
    refine ret_ok (.nil _) (res_tmp rfl rfl) ?_
    exact ⟨[K, Ki], ⟨rfl, rfl⟩, _, (by repeat first | with_reducible exact .nil _ | with_reducible exact .here _ _ | exact .here _ _ | with_reducible exact Take.self _ | with_reducible apply Take.cons | with_reducible apply Out.there | with_reducible apply Take.skip | with_reducible exact Take.pre _ _ | with_reducible apply Out.app)⟩
  · try simp only [decide_eq_true_eq, decide_eq_false_iff_not, Bool.not_eq_true', Bool.not_eq_false', beq_iff_eq, bne_iff_ne, beq_eq_false_iff_ne, bne_eq_false_iff_eq, Int.not_lt, Int.not_le, gt_iff_lt, ge_iff_le, ne_eq] at h1
    refine XL_det (.yes 18 rfl rfl rfl) (D_ldso (vs := [.int .i64 x.res, .slice x.tasks.oad x.tasks.l.length x.tasks.c, .slice x.modes.oad x.modes.l.length x.modes.c, .slice x.edges.oad x.edges.l.length x.edges.c]) rfl (by repeat first | with_reducible exact .here _ _ | with_reducible apply Out.there | with_reducible apply Out.app) tk_26 rfl (by rfl)) rfl ?_
    refine XL_call (.yes 18 rfl rfl rfl) en_10 rfl (rright x hx h1) (by repeat first | with_reducible exact .nil _ | with_reducible exact .here _ _ | with_reducible exact Take.self _ | with_reducible apply Take.cons | with_reducible apply Out.there | with_reducible apply Take.skip | with_reducible exact Take.pre _ _ | with_reducible apply Out.app) rfl ?_
    rintro _ _ ⟨br, rfl, hbr, rfl⟩
    simp only [List.cons_append, List.nil_append]
    refine XL_det (.yes 18 rfl rfl rfl) (D_pure rfl) rfl ?_
    refine XL_det .no (D_pure rfl) rfl ?_
    refine XL_det .no (D_pure rfl) rfl ?_
    refine XL_split (t := 23) rfl (fun h2 => ?_) (fun h2 => ?_)
    · try simp only [decide_eq_true_eq, decide_eq_false_iff_not, Bool.not_eq_true', Bool.not_eq_false', beq_iff_eq, bne_iff_ne, beq_eq_false_iff_ne, bne_eq_false_iff_eq, Int.not_lt, Int.not_le, gt_iff_lt, ge_iff_le, ne_eq] at h2
      refine XL_skip 23 rfl rfl rfl rfl rfl ?_
      refine XL_skip 23 rfl rfl rfl rfl rfl ?_
      refine XL_det .no (D_pure rfl) rfl ?_
      refine XL_then ?_
      refine X_cond_t rfl rfl ?_
      refine X_seq ?_
      refine X_region ?_
      refine XL_det .no (D_pure rfl) rfl ?_
      refine XL_then ?_
      refine X_ret ?_
      refine thenX_ret ?_
      refine ret_ok (.nil _) (res_tmp rfl rfl) ?_
      exact ⟨[K, Ki], ⟨rfl, rfl⟩, _, (by repeat first | with_reducible exact .nil _ | with_reducible exact .here _ _ | exact .here _ _ | with_reducible exact Take.self _ | with_reducible apply Take.cons | with_reducible apply Out.there | with_reducible apply Take.skip | with_reducible exact Take.pre _ _ | with_reducible apply Out.app)⟩
    · try simp only [decide_eq_true_eq, decide_eq_false_iff_not, Bool.not_eq_true', Bool.not_eq_false', beq_iff_eq, bne_iff_ne, beq_eq_false_iff_ne, bne_eq_false_iff_eq, Int.not_lt, Int.not_le, gt_iff_lt, ge_iff_le, ne_eq] at h2
      have hR := hbr h2
      have hT := hR.long
      have hnt := hR.nt
      have hZ := (Waits.zero hnt.2 hT).sys
      refine XL_det (.yes 23 rfl rfl rfl) (D_pure rfl) rfl ?_
      refine XL_call (.yes 23 rfl rfl rfl) en_11 rfl (ogreat l hl) (by repeat first | with_reducible exact .nil _ | with_reducible exact .here _ _ | with_reducible exact Take.self _ | with_reducible apply Take.cons | with_reducible apply Out.there | with_reducible apply Take.skip | with_reducible exact Take.pre _ _ | with_reducible apply Out.app) rfl ?_
      rintro _ _ ⟨bg, rfl, hbg, rfl⟩
      simp only [List.cons_append, List.nil_append]
      refine XL_det .no (D_pure rfl) rfl ?_
      refine XL_then ?_
      refine X_cond rfl (fun h3 => ?_) (fun h3 => ?_)
      · try simp only [decide_eq_true_eq, decide_eq_false_iff_not, Bool.not_eq_true', Bool.not_eq_false', beq_iff_eq, bne_iff_ne, beq_eq_false_iff_ne, bne_eq_false_iff_eq, Int.not_lt, Int.not_le, gt_iff_lt, ge_iff_le, ne_eq] at h3
        refine X_seq ?_
        refine X_region ?_
        refine XL_det .no (D_pure rfl) rfl ?_
        refine XL_then ?_
        refine X_ret ?_
        refine thenX_ret ?_
        refine ret_ok (.nil _) (res_tmp rfl rfl) ?_
        exact ⟨[K, Ki], ⟨rfl, rfl⟩, _, (by repeat first | with_reducible exact .nil _ | with_reducible exact .here _ _ | exact .here _ _ | with_reducible exact Take.self _ | with_reducible apply Take.cons | with_reducible apply Out.there | with_reducible apply Take.skip | with_reducible exact Take.pre _ _ | with_reducible apply Out.app)⟩
      · try simp only [decide_eq_true_eq, decide_eq_false_iff_not, Bool.not_eq_true', Bool.not_eq_false', beq_iff_eq, bne_iff_ne, beq_eq_false_iff_ne, bne_eq_false_iff_eq, Int.not_lt, Int.not_le, gt_iff_lt, ge_iff_le, ne_eq] at h3
        have hL := hbg h3
        have hnl := hL.n
        refine X_skip ?_
        refine thenX_normal ?_
        refine X_seq ?_
        refine X_region ?_
        refine XL_call .no en_12 rfl (snew) (by repeat first | with_reducible exact .nil _ | with_reducible exact .here _ _ | with_reducible exact Take.self _ | with_reducible apply Take.cons | with_reducible apply Out.there | with_reducible apply Take.skip | with_reducible exact Take.pre _ _ | with_reducible apply Out.app) rfl ?_
        rintro _ _ ⟨c, rfl, rfl⟩
        simp only [List.cons_append, List.nil_append]
        refine XL_det .no (D_pure rfl) rfl ?_
        refine XL_then ?_
        refine X_seq ?_
        refine X_seq ?_
        refine X_region ?_
        refine XL_det .no (D_pure rfl) rfl ?_
        refine XL_det .no (D_ptrnil rfl rfl ptr_30 rfl) rfl ?_
        refine XL_then ?_
        refine X_cond_f rfl rfl ?_
        refine X_skip ?_
        refine thenX_normal ?_
        refine X_seq ?_
        refine X_region ?_
        refine XL_det .no (D_pure rfl) rfl ?_
        refine XL_det .no (D_ldso (vs := [.int .i64 x.res, .slice x.tasks.oad x.tasks.l.length x.tasks.c, .slice x.modes.oad x.modes.l.length x.modes.c, .slice x.edges.oad x.edges.l.length x.edges.c]) rfl (by repeat first | with_reducible exact .here _ _ | with_reducible apply Out.there | with_reducible apply Out.app) tk_26 rfl (by rfl)) rfl ?_
        refine XL_callk .no en_14 rfl (cof x hx allS hK) (by repeat first | with_reducible exact .nil _ | with_reducible exact .here _ _ | with_reducible exact Take.self _ | with_reducible apply Take.cons | with_reducible apply Out.there | with_reducible apply Take.skip | with_reducible exact Take.pre _ _ | with_reducible apply Out.app) rfl ?_
        refine XL_call .no en_13 rfl (sceil c cr0 (ceilF x.tasks.l allS) cr0_ok hZ.ok.tab hK hd) (by repeat first | with_reducible exact .nil _ | with_reducible exact .here _ _ | with_reducible exact Take.self _ | with_reducible apply Take.cons | with_reducible apply Out.there | with_reducible apply Take.skip | with_reducible exact Take.pre _ _ | with_reducible apply Out.app) rfl ?_
        rintro _ _ ⟨rfl, rfl⟩
        simp only [List.cons_append, List.nil_append]
        rw [show (rowS cr0.jf : Nat → Asrt B) = rowS (ceilC cr0 (ceilF x.tasks.l allS)).jf from rfl]
        refine XL_then ?_
        refine X_seq ?_
        refine X_seq ?_
        refine X_region ?_
        refine XL_det .no (D_pure rfl) rfl ?_
        refine XL_then ?_
        refine X_block ?_
        refine X_loop (α := Nat × Cr) (fun ⟨i, s⟩ => i ≤ l.l.length ∧ Sys x.tasks.l (fun _ => True) s ∧ s.now ≤ 50 * i) (fun ⟨i, s⟩ => [(6, .int .i64 (i : Int)), (1, .slice l.oad l.l.length l.c), (2, .pointer (some ⟨b1, 0, none⟩)), (5, .pointer (some ⟨c, 0, none⟩))]) (fun ⟨i, s⟩ => [blk b1 [.int .i64 x.res, .slice x.tasks.oad x.tasks.l.length x.tasks.c, .slice x.modes.oad x.modes.l.length x.modes.c, .slice x.edges.oad x.edges.l.length x.edges.c] 26, blk c (crC s) 110, many 16 (rowS s.jf), K, Ki]) (fun ⟨i, s⟩ => l.l.length - i) (0, ceilC cr0 (ceilF x.tasks.l allS)) ?_ (by refine ⟨?_, ?_, ?_, ?_, trivial⟩ <;> rfl) (by repeat first | with_reducible exact .nil _ | with_reducible exact .here _ _ | with_reducible exact Take.self _ | with_reducible apply Take.cons | with_reducible apply Out.there | with_reducible apply Take.skip | with_reducible exact Take.pre _ _ | with_reducible apply Out.app) ?_
        · exact ⟨by omega, hZ, by show (0 : Int) ≤ _; omega⟩
        · rintro ⟨i, s⟩ ⟨hi, hW, hnow⟩
          dsimp only
          refine X_seq ?_
          refine X_seq ?_
          refine X_region ?_
          refine XL_det .no (D_pure rfl) rfl ?_
          refine XL_det .no (D_pure rfl) rfl ?_
          refine XL_det .no (D_len rfl rfl slc_27) rfl ?_
          refine XL_det .no (D_pure rfl) rfl ?_
          refine XL_then ?_
          refine X_cond rfl (fun h4 => ?_) (fun h4 => ?_)
          · try simp only [decide_eq_true_eq, decide_eq_false_iff_not, Bool.not_eq_true', Bool.not_eq_false', beq_iff_eq, bne_iff_ne, beq_eq_false_iff_ne, bne_eq_false_iff_eq, Int.not_lt, Int.not_le, gt_iff_lt, ge_iff_le, ne_eq] at h4
            have h0n := hW.ok.now
            obtain ⟨o, ho⟩ : ∃ o, l.l[i]? = some o := ⟨_, List.getElem?_eq_getElem (by omega)⟩
            have hto := ticks_in o
            obtain ⟨kq, hq1, hq2, hq3, hq4⟩ := idx_of o.kind (n := 6) (by decide)
            have hq2 : Int.tmod (Int.tmod o.kind 6 + 6) 6 = kq := hq2
            have hq3 : -6 < Int.tmod o.kind 6 := hq3
            have hq4 : Int.tmod o.kind 6 < 6 := hq4
            obtain ⟨k, hk1, hk2, hk3, hk4⟩ := idx_of o.task (n := x.tasks.l.length) (by omega)
            obtain ⟨e, he⟩ : ∃ e, x.tasks.l[k]? = some e := ⟨_, List.getElem?_eq_getElem hk1⟩
            have hE := hR.tasks e (List.mem_of_getElem? he)
            have hE0 := hE.p
            have hE1 := hE.d
            have hE2 := hE.c
            refine X_skip ?_
            refine thenX_normal ?_
            refine X_seq ?_
            refine X_block ?_
            refine X_seq ?_
            refine X_region ?_
            refine XL_det .no (D_pure rfl) rfl ?_
            refine XL_det .no (D_pure rfl) rfl ?_
            refine XL_det .no (D_idxSo rfl rfl slc_27 (l).nil0 rfl (by omega) rfl) rfl ?_
            refine XL_det .no (D_els (enc := encOp) (sz := 5) (i := i) (fun _ => rfl) rfl (by repeat first | with_reducible exact .here _ _ | with_reducible apply Out.there | with_reducible apply Out.app) hl.ops tk_41 ho) rfl ?_
            refine XL_alloc .no zero_41 rfl (fun b2 => ?_)
            refine XL_efd .no (F_stw rfl rfl rfl (by repeat first | with_reducible exact .here _ _ | with_reducible apply Out.there | with_reducible apply Out.app) tk_41 rfl rfl) ?_
            refine XL_then ?_
            refine X_seq ?_
            refine X_draw [blk b2 (encOp o) 41, blk b1 [.int .i64 x.res, .slice x.tasks.oad x.tasks.l.length x.tasks.c, .slice x.modes.oad x.modes.l.length x.modes.c, .slice x.edges.oad x.edges.l.length x.edges.c] 26] mixed (by repeat first | with_reducible exact .nil _ | with_reducible exact .here _ _ | with_reducible exact Take.self _ | with_reducible apply Take.cons | with_reducible apply Out.there | with_reducible apply Take.skip | with_reducible exact Take.pre _ _ | with_reducible apply Out.app) ?_
            refine XA_detp 0 rfl (by kernel_rfl) (by kernel_rfl) (by kernel_rfl) (fun _ _ _ _ h => h) .no (D_fldP rfl fld_41_1 (o' := 1) rfl) rfl ?_
            refine XA_det 1 rfl (by kernel_rfl) (by kernel_rfl) (by kernel_rfl) (by kernel_rfl) (fun _ _ _ _ h => h) .no (D_ldo rfl (by repeat first | with_reducible exact .here _ _ | with_reducible apply Out.there | with_reducible apply Out.app) tk_3 (by rfl)) rfl ?_
            refine XA_detp 2 rfl (by kernel_rfl) (by kernel_rfl) (by kernel_rfl) (fun _ _ _ _ h => h) .no (D_fldP rfl fld_26_1 (o' := 1) rfl) rfl ?_
            refine XA_det 3 rfl (by kernel_rfl) (by kernel_rfl) (by kernel_rfl) (by kernel_rfl) (fun _ _ _ _ h => h) .no (D_ldo rfl (by repeat first | with_reducible exact .here _ _ | with_reducible apply Out.there | with_reducible apply Out.app) tk_22 (by rfl)) rfl ?_
            refine XA_detp 4 rfl (by kernel_rfl) (by kernel_rfl) (by kernel_rfl) (fun _ _ _ _ h => h) .no (D_lenP rfl rfl slc_22) rfl ?_
            refine XA_det 5 rfl (by kernel_rfl) (by kernel_rfl) (by kernel_rfl) (by kernel_rfl) (fun _ _ _ _ h => h) .no (D_divmod rfl rfl (by omega) rfl) rfl ?_
            refine XA_detp 6 rfl (by kernel_rfl) (by kernel_rfl) (by kernel_rfl) (fun _ _ _ _ h => h) .no (D_fldP rfl fld_26_1 (o' := 1) rfl) rfl ?_
            refine XA_det 7 rfl (by kernel_rfl) (by kernel_rfl) (by kernel_rfl) (by kernel_rfl) (fun _ _ _ _ h => h) .no (D_ldo rfl (by repeat first | with_reducible exact .here _ _ | with_reducible apply Out.there | with_reducible apply Out.app) tk_22 (by rfl)) rfl ?_
            refine XA_detp 8 rfl (by kernel_rfl) (by kernel_rfl) (by kernel_rfl) (fun _ _ _ _ h => h) .no (D_lenP rfl rfl slc_22) rfl ?_
            refine XA_det 9 rfl (by kernel_rfl) (by kernel_rfl) (by kernel_rfl) (by kernel_rfl) (fun _ _ _ _ h => h) .no (D_add rfl rfl (by omega) (by omega)) rfl ?_
            refine XA_detp 10 rfl (by kernel_rfl) (by kernel_rfl) (by kernel_rfl) (fun _ _ _ _ h => h) .no (D_fldP rfl fld_26_1 (o' := 1) rfl) rfl ?_
            refine XA_det 11 rfl (by kernel_rfl) (by kernel_rfl) (by kernel_rfl) (by kernel_rfl) (fun _ _ _ _ h => h) .no (D_ldo rfl (by repeat first | with_reducible exact .here _ _ | with_reducible apply Out.there | with_reducible apply Out.app) tk_22 (by rfl)) rfl ?_
            refine XA_detp 12 rfl (by kernel_rfl) (by kernel_rfl) (by kernel_rfl) (fun _ _ _ _ h => h) .no (D_lenP rfl rfl slc_22) rfl ?_
            refine XA_det 13 rfl (by kernel_rfl) (by kernel_rfl) (by kernel_rfl) (by kernel_rfl) (fun _ _ _ _ h => h) .no (D_divmod (z := ((k : Nat) : Int)) rfl rfl (by omega) hk2) rfl ?_
            refine XA_detp 14 rfl (by kernel_rfl) (by kernel_rfl) (by kernel_rfl) (fun _ _ _ _ h => h) .no (D_pureP rfl) rfl ?_
            refine XA_done (by kernel_rfl) ?_
            try simp only [List.cons_append, List.nil_append, List.append_nil]
            refine thenX_normal ?_
            refine X_seq ?_
            refine X_seq ?_
            refine X_region ?_
            refine XL_det .no (D_fld rfl fld_41_0 (o' := 0) rfl) rfl ?_
            refine XL_det .no (D_ldo rfl (by repeat first | with_reducible exact .here _ _ | with_reducible apply Out.there | with_reducible apply Out.app) tk_3 (by rfl)) rfl ?_
            refine XL_det .no (D_divmod rfl rfl (by omega) rfl) rfl ?_
            refine XL_det .no (D_add rfl rfl (by omega) (by omega)) rfl ?_
            refine XL_det .no (D_divmod rfl rfl (by omega) rfl) rfl ?_
            refine XL_det .no (D_pure rfl) rfl ?_
            refine XL_then ?_
            refine X_cond rfl (fun h5 => ?_) (fun h5 => ?_)
            · try simp only [decide_eq_true_eq, decide_eq_false_iff_not, Bool.not_eq_true', Bool.not_eq_false', beq_iff_eq, bne_iff_ne, beq_eq_false_iff_ne, bne_eq_false_iff_eq, Int.not_lt, Int.not_le, gt_iff_lt, ge_iff_le, ne_eq] at h5
              refine X_seq ?_
              refine X_draw [blk b2 (encOp o) 41, blk b1 [.int .i64 x.res, .slice x.tasks.oad x.tasks.l.length x.tasks.c, .slice x.modes.oad x.modes.l.length x.modes.c, .slice x.edges.oad x.edges.l.length x.edges.c] 26, Ki] mixed (by repeat first | with_reducible exact .nil _ | with_reducible exact .here _ _ | with_reducible exact Take.self _ | with_reducible apply Take.cons | with_reducible apply Out.there | with_reducible apply Take.skip | with_reducible exact Take.pre _ _ | with_reducible apply Out.app) ?_
              refine XA_detp 0 rfl (by kernel_rfl) (by kernel_rfl) (by kernel_rfl) (fun _ _ _ _ h => h) .no (D_pureP rfl) rfl ?_
              refine XA_detp 1 rfl (by kernel_rfl) (by kernel_rfl) (by kernel_rfl) (fun _ _ _ _ h => h) .no (D_pureP rfl) rfl ?_
              refine XA_detp 2 rfl (by kernel_rfl) (by kernel_rfl) (by kernel_rfl) (fun _ _ _ _ h => h) .no (D_fldP rfl fld_26_1 (o' := 1) rfl) rfl ?_
              refine XA_det 3 rfl (by kernel_rfl) (by kernel_rfl) (by kernel_rfl) (by kernel_rfl) (fun _ _ _ _ h => h) .no (D_ldo rfl (by repeat first | with_reducible exact .here _ _ | with_reducible apply Out.there | with_reducible apply Out.app) tk_22 (by rfl)) rfl ?_
              refine XA_detp 4 rfl (by kernel_rfl) (by kernel_rfl) (by kernel_rfl) (fun _ _ _ _ h => h) .no (D_pureP rfl) rfl ?_
              refine XA_detp 5 rfl (by kernel_rfl) (by kernel_rfl) (by kernel_rfl) (fun _ _ _ _ h => h) .no (D_idxSoP rfl rfl slc_22 (x.tasks).nil0 rfl (by omega) rfl) rfl ?_
              refine XA_det 6 rfl (by kernel_rfl) (by kernel_rfl) (by kernel_rfl) (by kernel_rfl) (fun _ _ _ _ h => h) .no (D_els (enc := encT) (sz := 11) (i := k) (fun _ => rfl) rfl (by repeat first | with_reducible exact .here _ _ | with_reducible apply Out.there | with_reducible apply Out.app) hx.tasks tk_48 he) rfl ?_
              refine XA_detp 7 rfl (by kernel_rfl) (by kernel_rfl) (by kernel_rfl) (fun _ _ _ _ h => h) .no (D_pureP rfl) rfl ?_
              refine XA_detp 9 rfl (by kernel_rfl) (by kernel_rfl) (by kernel_rfl) (fun _ _ _ _ h => h) .no (D_fldP rfl fld_41_2 (o' := 2) rfl) rfl ?_
              refine XA_det 10 rfl (by kernel_rfl) (by kernel_rfl) (by kernel_rfl) (by kernel_rfl) (fun _ _ _ _ h => h) .no (D_ldo rfl (by repeat first | with_reducible exact .here _ _ | with_reducible apply Out.there | with_reducible apply Out.app) tk_3 (by rfl)) rfl ?_
              refine XA_detp 11 rfl (by kernel_rfl) (by kernel_rfl) (by kernel_rfl) (fun _ _ _ _ h => h) .no (D_fldP rfl fld_41_4 (o' := 4) rfl) rfl ?_
              refine XA_det 12 rfl (by kernel_rfl) (by kernel_rfl) (by kernel_rfl) (by kernel_rfl) (fun _ _ _ _ h => h) .no (D_ldo rfl (by repeat first | with_reducible exact .here _ _ | with_reducible apply Out.there | with_reducible apply Out.app) tk_39 (by rfl)) rfl ?_
              refine XA_one 8 (by kernel_rfl) ?_
              refine XO_callk rfl .no en_17 rfl (by repeat first | with_reducible exact .nil _ | with_reducible apply App.cons) (snow c s) (by repeat first | with_reducible exact .nil _ | with_reducible exact .here _ _ | with_reducible exact Take.self _ | with_reducible apply Take.cons | with_reducible apply Out.there | with_reducible apply Take.skip | with_reducible exact Take.pre _ _ | with_reducible apply Out.app) rfl ?_
              refine XA_one 13 (by kernel_rfl) ?_
              refine XO_callc rfl .no en_16 rfl (by repeat first | with_reducible exact .nil _ | with_reducible apply App.cons) (jnew (k : Int) s.now e o.cost o.secs (hl.secs o (List.mem_of_getElem? ho)) (fun j hj => (hE.l j hj).1) (by omega) (by omega) (by omega)) (by repeat first | with_reducible exact .nil _ | with_reducible exact .here _ _ | with_reducible exact Take.self _ | with_reducible apply Take.cons | with_reducible apply Out.there | with_reducible apply Take.skip | with_reducible exact Take.pre _ _ | with_reducible apply Out.app) rfl ?_
              rintro _ _ ⟨x1, ⟨hx1, hx1o⟩, rfl, rfl⟩
              simp only [List.cons_append, List.nil_append]
              refine ⟨[row (.slice x1.oad x1.l.length x1.c) 123 3 x1.l.length (x1.l.flatMap encS), blk c (crC s) 110, many 16 (rowS s.jf), K], _, _, (by repeat first | with_reducible exact .nil _ | with_reducible apply App.cons), (by repeat first | with_reducible exact .nil _ | with_reducible exact .here _ _ | with_reducible exact Take.self _ | with_reducible apply Take.cons | with_reducible apply Out.there | with_reducible apply Take.skip | with_reducible exact Take.pre _ _ | with_reducible apply Out.app), ?_⟩
              refine XA_one 14 (by kernel_rfl) ?_
              refine XO_callc rfl .no en_15 rfl (by repeat first | with_reducible exact .nil _ | with_reducible apply App.cons) (srelease c s (Kj := row (.slice x1.oad x1.l.length x1.c) 123 3 x1.l.length (x1.l.flatMap encS)) (JN k s e (min (max o.cost 1) (e 2)) x1) (Rd_own hx1o rfl) hx1o (by show x1.l.length ≤ 1000; rw [hx1]; have := secs_len (T := e) (cost := min (max o.cost 1) (e 2)) o.secs.l 0 0 (by decide); omega) hW.ok hK) (by repeat first | with_reducible exact .nil _ | with_reducible exact .here _ _ | with_reducible exact Take.self _ | with_reducible apply Take.cons | with_reducible apply Out.there | with_reducible apply Take.skip | with_reducible exact Take.pre _ _ | with_reducible apply Out.app) rfl ?_
              rintro _ _ ⟨a, ⟨ha, hao, rfl⟩, rfl⟩
              simp only [List.cons_append, List.nil_append]
              refine ⟨[blk c (crC ((relC s (JN k s e (min (max o.cost 1) (e 2)) x1) a))) 110, many 16 (rowS (relC s (JN k s e (min (max o.cost 1) (e 2)) x1) a).jf), K], _, _, (by repeat first | with_reducible exact .nil _ | with_reducible apply App.cons), (by repeat first | with_reducible exact .nil _ | with_reducible exact .here _ _ | with_reducible exact Take.self _ | with_reducible apply Take.cons | with_reducible apply Out.there | with_reducible apply Take.skip | with_reducible exact Take.pre _ _ | with_reducible apply Out.app), ?_⟩
              have hrl := (hW : Sys x.tasks.l (fun _ => True) s).release (k := k) (c := min (max o.cost 1) (e 2)) (x := x1) (a := a) trivial he (by omega) (by omega) (by rw [hx1]; exact secs_ok (fun j hj => (hE.l j hj).1) _ _ _) ha hao
              refine XA_done (by kernel_rfl) ?_
              try simp only [List.cons_append, List.nil_append, List.append_nil]
              refine thenX_normal ?_
              refine X_exit ?_
              refine thenX_exit ?_
              refine inBlk_here ?_
              refine thenX_normal ?_
              refine X_region ?_
              refine XL_det .no (D_pure rfl) rfl ?_
              refine XL_det .no (D_add rfl rfl (by omega) (by omega)) rfl ?_
              refine XL_det .no (D_pure rfl) rfl ?_
              refine XL_nil ?_
              refine loopQ_next (i + 1, (relC s (JN k s e (min (max o.cost 1) (e 2)) x1) a)) ?_ ?_ ?_ ?_
              · (try dsimp only); exact ⟨by omega, by by_cases q : relErr s (JN k s e (min (max o.cost 1) (e 2)) x1) = 0; exact (hrl.2.2.1 q).1; rw [hrl.2.2.2.1 q]; exact hW, by rw [hrl.2.1]; omega⟩
              · (try dsimp only); omega
              · refine ⟨?_, ?_, ?_, ?_, trivial⟩ <;> rfl
              · (try dsimp only); exact ⟨_, (by repeat first | with_reducible exact .nil _ | with_reducible exact .here _ _ | with_reducible exact Take.self _ | with_reducible apply Take.cons | with_reducible apply Out.there | with_reducible apply Take.skip | with_reducible exact Take.pre _ _ | with_reducible apply Out.app)⟩
            · try simp only [decide_eq_true_eq, decide_eq_false_iff_not, Bool.not_eq_true', Bool.not_eq_false', beq_iff_eq, bne_iff_ne, beq_eq_false_iff_ne, bne_eq_false_iff_eq, Int.not_lt, Int.not_le, gt_iff_lt, ge_iff_le, ne_eq] at h5
              refine X_skip ?_
              refine thenX_normal ?_
              refine X_seq ?_
              refine X_region ?_
              refine XL_det .no (D_pure rfl) rfl ?_
              refine XL_then ?_
              refine X_block ?_
              refine X_loop (α := Nat × Cr) (fun ⟨n, s2⟩ => (n : Int) ≤ ticksO o ∧ Sys x.tasks.l (fun _ => True) s2 ∧ s2.now ≤ 50 * i + n) (fun ⟨n, s2⟩ => [(9, .int .i64 (n : Int)), (1, .slice l.oad l.l.length l.c), (2, .pointer (some ⟨b1, 0, none⟩)), (5, .pointer (some ⟨c, 0, none⟩)), (6, .int .i64 (i : Int)), (7, .pointer (some ⟨b2, 0, none⟩))]) (fun ⟨n, s2⟩ => [blk b1 [.int .i64 x.res, .slice x.tasks.oad x.tasks.l.length x.tasks.c, .slice x.modes.oad x.modes.l.length x.modes.c, .slice x.edges.oad x.edges.l.length x.edges.c] 26, blk c (crC (s2)) 110, many 16 (rowS s2.jf), blk b2 (encOp o) 41, K, Ki]) (fun ⟨n, s2⟩ => (ticksO o).toNat - n) (0, s) ?_ (by refine ⟨?_, ?_, ?_, ?_, ?_, ?_, trivial⟩ <;> rfl) (by repeat first | with_reducible exact .nil _ | with_reducible exact .here _ _ | with_reducible exact Take.self _ | with_reducible apply Take.cons | with_reducible apply Out.there | with_reducible apply Take.skip | with_reducible exact Take.pre _ _ | with_reducible apply Out.app) ?_
              · exact ⟨by omega, hW, by omega⟩
              · rintro ⟨n, s2⟩ ⟨hn, hW2, hnow2⟩
                dsimp only
                refine X_seq ?_
                refine X_seq ?_
                refine X_region ?_
                refine XL_det .no (D_pure rfl) rfl ?_
                refine XL_det .no (D_ldso (vs := encOp o) rfl (by repeat first | with_reducible exact .here _ _ | with_reducible apply Out.there | with_reducible apply Out.app) tk_41 rfl (by rfl)) rfl ?_
                refine XL_callv .no en_18 rfl (oticks o) rfl ?_
                refine XL_det .no (D_pure rfl) rfl ?_
                refine XL_then ?_
                refine X_cond rfl (fun h6 => ?_) (fun h6 => ?_)
                · try simp only [decide_eq_true_eq, decide_eq_false_iff_not, Bool.not_eq_true', Bool.not_eq_false', beq_iff_eq, bne_iff_ne, beq_eq_false_iff_ne, bne_eq_false_iff_eq, Int.not_lt, Int.not_le, gt_iff_lt, ge_iff_le, ne_eq] at h6
                  have hWt := (hW2.tick_or (by omega)).1
                  have hal := hW2.alone (by omega)
                  refine X_skip ?_
                  refine thenX_normal ?_
                  refine X_seq ?_
                  refine X_block ?_
                  refine X_seq ?_
                  refine X_region ?_
                  refine XL_alloc (cs := rowB 8 (fun _ => false)) .no zero_59 rfl (fun b3 => ?_)
                  refine XL_then ?_
                  refine X_seq ?_
                  refine X_region ?_
                  refine XL_det .no (D_pure rfl) rfl ?_
                  refine XL_call .no en_24 rfl (srow c s2 hW2.ok hK hd) (by repeat first | with_reducible exact .nil _ | with_reducible exact .here _ _ | with_reducible exact Take.self _ | with_reducible apply Take.cons | with_reducible apply Out.there | with_reducible apply Take.skip | with_reducible exact Take.pre _ _ | with_reducible apply Out.app) rfl ?_
                  rintro _ _ ⟨a, ⟨ha, hao⟩, rfl, rfl⟩
                  simp only [List.cons_append, List.nil_append]
                  have hlen : a.l.length = 2 * (heldL s2).length := by rw [ha, flatP_len]
                  have hl32 := held_len s2
                  refine XL_det .no (D_pure rfl) rfl ?_
                  refine XL_then ?_
                  refine X_seq ?_
                  refine X_seq ?_
                  refine X_region ?_
                  refine XL_det .no (D_pure rfl) rfl ?_
                  refine XL_then ?_
                  refine X_block ?_
                  rw [show rowB 8 (fun _ => false) = rowB 8 (byF ((heldL s2).take 0)) from rfl]
                  refine X_loop (α := Nat) (fun q => q ≤ (heldL s2).length) (fun q => [(12, .int .i64 ((2 * q : Nat) : Int)), (1, .slice l.oad l.l.length l.c), (2, .pointer (some ⟨b1, 0, none⟩)), (5, .pointer (some ⟨c, 0, none⟩)), (6, .int .i64 (i : Int)), (7, .pointer (some ⟨b2, 0, none⟩)), (9, .int .i64 (n : Int)), (10, .pointer (some ⟨b3, 0, none⟩)), (11, .slice a.oad a.l.length a.c)]) (fun q => [blk b1 [.int .i64 x.res, .slice x.tasks.oad x.tasks.l.length x.tasks.c, .slice x.modes.oad x.modes.l.length x.modes.c, .slice x.edges.oad x.edges.l.length x.edges.c] 26, blk c (crC (s2)) 110, many 16 (rowS s2.jf), blk b3 (rowB 8 (byF ((heldL s2).take q))) 59, blk b2 (encOp o) 41, row (.slice a.oad a.l.length a.c) 3 1 a.l.length (a.l.flatMap encI), K, Ki]) (fun q => (heldL s2).length - q) 0 ?_ (by refine ⟨?_, ?_, ?_, ?_, ?_, ?_, ?_, ?_, ?_, trivial⟩ <;> rfl) (by repeat first | with_reducible exact .nil _ | with_reducible exact .here _ _ | with_reducible exact Take.self _ | with_reducible apply Take.cons | with_reducible apply Out.there | with_reducible apply Take.skip | with_reducible exact Take.pre _ _ | with_reducible apply Out.app) ?_
                  · omega
                  · rintro q hq
                    refine X_seq ?_
                    refine X_seq ?_
                    refine X_region ?_
                    refine XL_det .no (D_pure rfl) rfl ?_
                    refine XL_det .no (D_pure rfl) rfl ?_
                    refine XL_det .no (D_len rfl rfl slc_60) rfl ?_
                    refine XL_det .no (D_pure rfl) rfl ?_
                    refine XL_then ?_
                    refine X_cond rfl (fun h7 => ?_) (fun h7 => ?_)
                    · try simp only [decide_eq_true_eq, decide_eq_false_iff_not, Bool.not_eq_true', Bool.not_eq_false', beq_iff_eq, bne_iff_ne, beq_eq_false_iff_ne, bne_eq_false_iff_eq, Int.not_lt, Int.not_le, gt_iff_lt, ge_iff_le, ne_eq] at h7
                      obtain ⟨p, hp⟩ : ∃ p, (heldL s2)[q]? = some p := ⟨_, List.getElem?_eq_getElem (by omega)⟩
                      obtain ⟨r, hr8, hpr⟩ := hW2.held_in (List.mem_of_getElem? hp)
                      have hgq : a.l[2 * q]? = some p.1 := by rw [ha]; exact (flatP_get hp).1
                      have hbn := hW2.by_no hp hpr
                      refine X_skip ?_
                      refine thenX_normal ?_
                      refine X_seq ?_
                      refine X_block ?_
                      refine X_seq ?_
                      refine X_seq ?_
                      refine X_region ?_
                      refine XL_det .no (D_pure rfl) rfl ?_
                      refine XL_det .no (D_pure rfl) rfl ?_
                      refine XL_det .no (D_idxSo (j := (2 * q)) rfl rfl slc_60 (a).nil0 rfl (by omega) rfl) rfl ?_
                      refine XL_det .no (D_ela (enc := encI) (sz := 1) (i := (2 * q)) (k := 0) (fun _ => rfl) rfl (by repeat first | with_reducible exact .here _ _ | with_reducible apply Out.there | with_reducible apply Out.app) (Rd_own hao rfl) tk_3 hgq rfl) rfl ?_
                      refine XL_det .no (D_idxA rfl rfl arr_59 hpr (by omega) rfl) rfl ?_
                      refine XL_det .no (D_ldo (v := .bool false) rfl (by repeat first | with_reducible exact .here _ _ | with_reducible apply Out.there | with_reducible apply Out.app) tk_4 ((b8_get hr8).trans (by rw [hbn]))) rfl ?_
                      refine XL_then ?_
                      refine X_cond_f rfl rfl ?_
                      refine X_skip ?_
                      refine thenX_normal ?_
                      refine X_region ?_
                      refine XL_det .no (D_pure rfl) rfl ?_
                      refine XL_det .no (D_pure rfl) rfl ?_
                      refine XL_det .no (D_idxSo (j := (2 * q)) rfl rfl slc_60 (a).nil0 rfl (by omega) rfl) rfl ?_
                      refine XL_det .no (D_ela (enc := encI) (sz := 1) (i := (2 * q)) (k := 0) (fun _ => rfl) rfl (by repeat first | with_reducible exact .here _ _ | with_reducible apply Out.there | with_reducible apply Out.app) (Rd_own hao rfl) tk_3 hgq rfl) rfl ?_
                      refine XL_det .no (D_idxA rfl rfl arr_59 hpr (by omega) rfl) rfl ?_
                      refine XL_efd .no (F_st (k := 0 + r * 1) (cs' := rowB 8 (byF ((heldL s2).take (q + 1)))) rfl rfl rfl (by repeat first | with_reducible exact .here _ _ | with_reducible apply Out.there | with_reducible apply Out.app) tk_4 (b8_lt hr8) (b8_set.trans (by rw [byF_s hp hpr]))) ?_
                      refine XL_nil ?_
                      refine inBlk_normal ?_
                      refine thenX_normal ?_
                      refine X_region ?_
                      refine XL_det .no (D_pure rfl) rfl ?_
                      refine XL_det .no (D_add rfl rfl (by omega) (by omega)) rfl ?_
                      refine XL_det .no (D_pure rfl) rfl ?_
                      refine XL_nil ?_
                      refine loopQ_next (q + 1) ?_ ?_ ?_ ?_
                      · omega
                      · omega
                      · refine ⟨?_, ?_, ?_, ?_, ?_, ?_, ?_, ?_, ?_, trivial⟩ <;> rfl
                      · exact ⟨_, (by repeat first | with_reducible exact .nil _ | with_reducible exact .here _ _ | with_reducible exact Take.self _ | with_reducible apply Take.cons | with_reducible apply Out.there | with_reducible apply Take.skip | with_reducible exact Take.pre _ _ | with_reducible apply Out.app)⟩
                    · try simp only [decide_eq_true_eq, decide_eq_false_iff_not, Bool.not_eq_true', Bool.not_eq_false', beq_iff_eq, bne_iff_ne, beq_eq_false_iff_ne, bne_eq_false_iff_eq, Int.not_lt, Int.not_le, gt_iff_lt, ge_iff_le, ne_eq] at h7
                      obtain rfl : q = (heldL s2).length := by omega
                      rw [List.take_length]
                      refine X_exit ?_
                      refine thenX_exit ?_
                      refine loopQ_exit ?_
                      refine inBlk_here ?_
                      refine thenX_normal ?_
                      refine X_seq ?_
                      refine X_region ?_
                      refine XL_det .no (D_pure rfl) rfl ?_
                      refine XL_callk .no en_19 rfl (slive c s2) (by repeat first | with_reducible exact .nil _ | with_reducible exact .here _ _ | with_reducible exact Take.self _ | with_reducible apply Take.cons | with_reducible apply Out.there | with_reducible apply Take.skip | with_reducible exact Take.pre _ _ | with_reducible apply Out.app) rfl ?_
                      refine XL_callk .no en_25 rfl (mFirst s2.live hK) (by repeat first | with_reducible exact .nil _ | with_reducible exact .here _ _ | with_reducible exact Take.self _ | with_reducible apply Take.cons | with_reducible apply Out.there | with_reducible apply Take.skip | with_reducible exact Take.pre _ _ | with_reducible apply Out.app) rfl ?_
                      refine XL_det .no (D_pure rfl) rfl ?_
                      refine XL_det .no (D_pure (v := .int .i64 (if s2.live = 0#32 then 0 else (leastN s2.live : Int))) rfl) rfl ?_
                      refine XL_det .no (D_pure (v := .bool (decide (s2.live ≠ 0#32))) rfl) rfl ?_
                      refine XL_det .no (D_pure rfl) rfl ?_
                      refine XL_det .no (D_pure rfl) rfl ?_
                      refine XL_then ?_
                      refine X_seq ?_
                      refine X_region ?_
                      refine XL_det .no (D_pure rfl) rfl ?_
                      refine XL_call .no en_20 rfl (stick c s2 hW2.ok hK) (by repeat first | with_reducible exact .nil _ | with_reducible exact .here _ _ | with_reducible exact Take.self _ | with_reducible apply Take.cons | with_reducible apply Out.there | with_reducible apply Take.skip | with_reducible exact Take.pre _ _ | with_reducible apply Out.app) rfl ?_
                      rintro _ _ ⟨rfl, rfl⟩
                      simp only [List.cons_append, List.nil_append]
                      refine XL_alloc .no zero_53 rfl (fun b4 => ?_)
                      refine XL_efd .no (F_stw rfl rfl rfl (by repeat first | with_reducible exact .here _ _ | with_reducible apply Out.there | with_reducible apply Out.app) tk_53 rfl rfl) ?_
                      refine XL_then ?_
                      refine X_seq ?_
                      refine X_seq ?_
                      refine X_region ?_
                      refine XL_det .no (D_fld rfl fld_53_1 (o' := 1) rfl) rfl ?_
                      refine XL_det .no (D_ldo rfl (by repeat first | with_reducible exact .here _ _ | with_reducible apply Out.there | with_reducible apply Out.app) tk_3 (by rfl)) rfl ?_
                      refine XL_det .no (D_pure rfl) rfl ?_
                      refine XL_det .no (D_pure rfl) rfl ?_
                      refine XL_split (t := 115) rfl (fun h8 => ?_) (fun h8 => ?_)
                      · try simp only [decide_eq_true_eq, decide_eq_false_iff_not, Bool.not_eq_true', Bool.not_eq_false', beq_iff_eq, bne_iff_ne, beq_eq_false_iff_ne, bne_eq_false_iff_eq, Int.not_lt, Int.not_le, gt_iff_lt, ge_iff_le, ne_eq] at h8
                        obtain ⟨r, htr⟩ := Int.eq_ofNat_of_zero_le (show 0 ≤ (tickC s2).2.took from h8)
                        have hr8 := hal.t8
                        have hbr2 := hal.by_ r htr
                        refine XL_det (.yes 115 rfl rfl rfl) (D_fld rfl fld_53_1 (o' := 1) rfl) rfl ?_
                        refine XL_det (.yes 115 rfl rfl rfl) (D_ldo rfl (by repeat first | with_reducible exact .here _ _ | with_reducible apply Out.there | with_reducible apply Out.app) tk_3 (by rfl)) rfl ?_
                        refine XL_det (.yes 115 rfl rfl rfl) (D_idxA rfl rfl arr_59 htr (by omega) rfl) rfl ?_
                        refine XL_det (.yes 115 rfl rfl rfl) (D_ldo (v := .bool false) rfl (by repeat first | with_reducible exact .here _ _ | with_reducible apply Out.there | with_reducible apply Out.app) tk_4 ((b8_get (by omega)).trans (by rw [hbr2]))) rfl ?_
                        refine XL_det .no (D_pure rfl) rfl ?_
                        refine XL_det .no (D_pure rfl) rfl ?_
                        refine XL_det (.yes 121 rfl rfl rfl) (D_pure rfl) rfl ?_
                        refine XL_det (.yes 121 rfl rfl rfl) (D_fld rfl fld_53_0 (o' := 0) rfl) rfl ?_
                        refine XL_det (.yes 121 rfl rfl rfl) (D_ldo rfl (by repeat first | with_reducible exact .here _ _ | with_reducible apply Out.there | with_reducible apply Out.app) tk_3 (by rfl)) rfl ?_
                        refine XL_det (.yes 121 rfl rfl rfl) (D_pure rfl) rfl ?_
                        refine XL_det (.yes 121 rfl rfl rfl) (D_eqb (b := false) rfl rfl ub_4 (by show (decide (s2.live ≠ 0#32) != decide (0 ≤ (tickC s2).2.task)) = false; rw [hal.any_]; simp)) rfl ?_
                        refine XL_det .no (D_pure rfl) rfl ?_
                        refine XL_then ?_
                        refine X_cond_f rfl rfl ?_
                        refine X_skip ?_
                        refine thenX_normal ?_
                        refine X_seq ?_
                        refine X_region ?_
                        refine XL_det .no (D_pure rfl) rfl ?_
                        refine XL_det .no (D_pure rfl) rfl ?_
                        refine XL_split (t := 129) rfl (fun h9 => ?_) (fun h9 => ?_)
                        · try simp only [decide_eq_true_eq, decide_eq_false_iff_not, Bool.not_eq_true', Bool.not_eq_false', beq_iff_eq, bne_iff_ne, beq_eq_false_iff_ne, bne_eq_false_iff_eq, Int.not_lt, Int.not_le, gt_iff_lt, ge_iff_le, ne_eq] at h9
                          have hlv : s2.live ≠ 0#32 := h9
                          refine XL_det (.yes 129 rfl rfl rfl) (D_fld rfl fld_53_0 (o' := 0) rfl) rfl ?_
                          refine XL_det (.yes 129 rfl rfl rfl) (D_ldo rfl (by repeat first | with_reducible exact .here _ _ | with_reducible apply Out.there | with_reducible apply Out.app) tk_3 (by rfl)) rfl ?_
                          refine XL_det (.yes 129 rfl rfl rfl) (D_pure rfl) rfl ?_
                          refine XL_det (.yes 129 rfl rfl rfl) (D_pure rfl) rfl ?_
                          refine XL_det .no (D_pure rfl) rfl ?_
                          refine XL_det .no (D_pure rfl) rfl ?_
                          refine XL_split (t := 135) rfl (fun h10 => ?_) (fun h10 => ?_)
                          · try simp only [decide_eq_true_eq, decide_eq_false_iff_not, Bool.not_eq_true', Bool.not_eq_false', beq_iff_eq, bne_iff_ne, beq_eq_false_iff_ne, bne_eq_false_iff_eq, Int.not_lt, Int.not_le, gt_iff_lt, ge_iff_le, ne_eq] at h10
                            have hls : (tickC s2).2.task ≠ (leastN s2.live : Int) := by have z := h10; rw [if_neg hlv] at z; exact z
                            refine XL_det (.yes 135 rfl rfl rfl) (D_pure rfl) rfl ?_
                            refine XL_det (.yes 135 rfl rfl rfl) (D_len rfl rfl slc_60) rfl ?_
                            refine XL_det (.yes 135 rfl rfl rfl) (D_pure rfl) rfl ?_
                            refine XL_det (.yes 135 rfl rfl rfl) (D_pure rfl) rfl ?_
                            refine XL_split (t := 139) rfl (fun h11 => ?_) (fun h11 => ?_)
                            · try simp only [decide_eq_true_eq, decide_eq_false_iff_not, Bool.not_eq_true', Bool.not_eq_false', beq_iff_eq, bne_iff_ne, beq_eq_false_iff_ne, bne_eq_false_iff_eq, Int.not_lt, Int.not_le, gt_iff_lt, ge_iff_le, ne_eq] at h11
                              exfalso; obtain ⟨j, hj, _⟩ := hal.least hlv hls; rw [← ha] at hj; omega
                            · try simp only [decide_eq_true_eq, decide_eq_false_iff_not, Bool.not_eq_true', Bool.not_eq_false', beq_iff_eq, bne_iff_ne, beq_eq_false_iff_ne, bne_eq_false_iff_eq, Int.not_lt, Int.not_le, gt_iff_lt, ge_iff_le, ne_eq] at h11
                              refine XL_det (.yes 139 rfl rfl rfl) (D_pure rfl) rfl ?_
                              refine XL_det (.yes 139 rfl rfl rfl) (D_fld rfl fld_53_0 (o' := 0) rfl) rfl ?_
                              refine XL_det (.yes 139 rfl rfl rfl) (D_ldo rfl (by repeat first | with_reducible exact .here _ _ | with_reducible apply Out.there | with_reducible apply Out.app) tk_3 (by rfl)) rfl ?_
                              refine XL_call (.yes 139 rfl rfl rfl) en_26 rfl (lholds a (Rd_own hao rfl) (tickC s2).2.task) (by repeat first | with_reducible exact .nil _ | with_reducible exact .here _ _ | with_reducible exact Take.self _ | with_reducible apply Take.cons | with_reducible apply Out.there | with_reducible apply Take.skip | with_reducible exact Take.pre _ _ | with_reducible apply Out.app) rfl ?_
                              rintro _ _ ⟨bh, rfl, hbh, rfl⟩
                              simp only [List.cons_append, List.nil_append]
                              obtain rfl : bh = true := hbh (by rw [ha]; exact hal.least hlv hls)
                              refine XL_det (.yes 139 rfl rfl rfl) (D_pure rfl) rfl ?_
                              refine XL_det (.yes 135 rfl rfl rfl) (D_pure rfl) rfl ?_
                              refine XL_det .no (D_pure rfl) rfl ?_
                              refine XL_then ?_
                              refine X_cond_f rfl rfl ?_
                              refine X_skip ?_
                              refine inBlk_normal ?_
                              refine thenX_normal ?_
                              refine X_region ?_
                              refine XL_det .no (D_pure rfl) rfl ?_
                              refine XL_det .no (D_add rfl rfl (by omega) (by omega)) rfl ?_
                              refine XL_det .no (D_pure rfl) rfl ?_
                              refine XL_nil ?_
                              refine loopQ_next (n + 1, (tickC s2).1) ?_ ?_ ?_ ?_
                              · (try dsimp only); exact ⟨by omega, hWt, by rw [tick_now]; omega⟩
                              · (try dsimp only); omega
                              · refine ⟨?_, ?_, ?_, ?_, ?_, ?_, trivial⟩ <;> rfl
                              · (try dsimp only); exact ⟨_, (by repeat first | with_reducible exact .nil _ | with_reducible exact .here _ _ | with_reducible exact Take.self _ | with_reducible apply Take.cons | with_reducible apply Out.there | with_reducible apply Take.skip | with_reducible exact Take.pre _ _ | with_reducible apply Out.app)⟩
                          · try simp only [decide_eq_true_eq, decide_eq_false_iff_not, Bool.not_eq_true', Bool.not_eq_false', beq_iff_eq, bne_iff_ne, beq_eq_false_iff_ne, bne_eq_false_iff_eq, Int.not_lt, Int.not_le, gt_iff_lt, ge_iff_le, ne_eq] at h10
                            refine XL_skip 135 rfl rfl rfl rfl rfl ?_
                            refine XL_skip 135 rfl rfl rfl rfl rfl ?_
                            refine XL_skip 135 rfl rfl rfl rfl rfl ?_
                            refine XL_skip 135 rfl rfl rfl rfl rfl ?_
                            refine XL_skipu 139 rfl rfl rfl rfl ?_
                            refine XL_skipu 139 rfl rfl rfl rfl ?_
                            refine XL_skipu 139 rfl rfl rfl rfl ?_
                            refine XL_skipu 139 rfl rfl rfl rfl ?_
                            refine XL_skipu 139 rfl rfl rfl rfl ?_
                            refine XL_skip 135 rfl rfl rfl rfl rfl ?_
                            refine XL_det .no (D_pure rfl) rfl ?_
                            refine XL_then ?_
                            refine X_cond_f rfl rfl ?_
                            refine X_skip ?_
                            refine inBlk_normal ?_
                            refine thenX_normal ?_
                            refine X_region ?_
                            refine XL_det .no (D_pure rfl) rfl ?_
                            refine XL_det .no (D_add rfl rfl (by omega) (by omega)) rfl ?_
                            refine XL_det .no (D_pure rfl) rfl ?_
                            refine XL_nil ?_
                            refine loopQ_next (n + 1, (tickC s2).1) ?_ ?_ ?_ ?_
                            · (try dsimp only); exact ⟨by omega, hWt, by rw [tick_now]; omega⟩
                            · (try dsimp only); omega
                            · refine ⟨?_, ?_, ?_, ?_, ?_, ?_, trivial⟩ <;> rfl
                            · (try dsimp only); exact ⟨_, (by repeat first | with_reducible exact .nil _ | with_reducible exact .here _ _ | with_reducible exact Take.self _ | with_reducible apply Take.cons | with_reducible apply Out.there | with_reducible apply Take.skip | with_reducible exact Take.pre _ _ | with_reducible apply Out.app)⟩
                        · try simp only [decide_eq_true_eq, decide_eq_false_iff_not, Bool.not_eq_true', Bool.not_eq_false', beq_iff_eq, bne_iff_ne, beq_eq_false_iff_ne, bne_eq_false_iff_eq, Int.not_lt, Int.not_le, gt_iff_lt, ge_iff_le, ne_eq] at h9
                          refine XL_skip 129 rfl rfl rfl rfl rfl ?_
                          refine XL_skip 129 rfl rfl rfl rfl rfl ?_
                          refine XL_skip 129 rfl rfl rfl rfl rfl ?_
                          refine XL_skip 129 rfl rfl rfl rfl rfl ?_
                          refine XL_det .no (D_pure rfl) rfl ?_
                          refine XL_det .no (D_pure rfl) rfl ?_
                          refine XL_skip 135 rfl rfl rfl rfl rfl ?_
                          refine XL_skip 135 rfl rfl rfl rfl rfl ?_
                          refine XL_skip 135 rfl rfl rfl rfl rfl ?_
                          refine XL_skip 135 rfl rfl rfl rfl rfl ?_
                          refine XL_skipu 139 rfl rfl rfl rfl ?_
                          refine XL_skipu 139 rfl rfl rfl rfl ?_
                          refine XL_skipu 139 rfl rfl rfl rfl ?_
                          refine XL_skipu 139 rfl rfl rfl rfl ?_
                          refine XL_skipu 139 rfl rfl rfl rfl ?_
                          refine XL_skip 135 rfl rfl rfl rfl rfl ?_
                          refine XL_det .no (D_pure rfl) rfl ?_
                          refine XL_then ?_
                          refine X_cond_f rfl rfl ?_
                          refine X_skip ?_
                          refine inBlk_normal ?_
                          refine thenX_normal ?_
                          refine X_region ?_
                          refine XL_det .no (D_pure rfl) rfl ?_
                          refine XL_det .no (D_add rfl rfl (by omega) (by omega)) rfl ?_
                          refine XL_det .no (D_pure rfl) rfl ?_
                          refine XL_nil ?_
                          refine loopQ_next (n + 1, (tickC s2).1) ?_ ?_ ?_ ?_
                          · (try dsimp only); exact ⟨by omega, hWt, by rw [tick_now]; omega⟩
                          · (try dsimp only); omega
                          · refine ⟨?_, ?_, ?_, ?_, ?_, ?_, trivial⟩ <;> rfl
                          · (try dsimp only); exact ⟨_, (by repeat first | with_reducible exact .nil _ | with_reducible exact .here _ _ | with_reducible exact Take.self _ | with_reducible apply Take.cons | with_reducible apply Out.there | with_reducible apply Take.skip | with_reducible exact Take.pre _ _ | with_reducible apply Out.app)⟩
                      · try simp only [decide_eq_true_eq, decide_eq_false_iff_not, Bool.not_eq_true', Bool.not_eq_false', beq_iff_eq, bne_iff_ne, beq_eq_false_iff_ne, bne_eq_false_iff_eq, Int.not_lt, Int.not_le, gt_iff_lt, ge_iff_le, ne_eq] at h8
                        refine XL_skip 115 rfl rfl rfl rfl rfl ?_
                        refine XL_skip 115 rfl rfl rfl rfl rfl ?_
                        refine XL_skip 115 rfl rfl rfl rfl rfl ?_
                        refine XL_skip 115 rfl rfl rfl rfl rfl ?_
                        refine XL_det .no (D_pure rfl) rfl ?_
                        refine XL_det .no (D_pure rfl) rfl ?_
                        refine XL_det (.yes 121 rfl rfl rfl) (D_pure rfl) rfl ?_
                        refine XL_det (.yes 121 rfl rfl rfl) (D_fld rfl fld_53_0 (o' := 0) rfl) rfl ?_
                        refine XL_det (.yes 121 rfl rfl rfl) (D_ldo rfl (by repeat first | with_reducible exact .here _ _ | with_reducible apply Out.there | with_reducible apply Out.app) tk_3 (by rfl)) rfl ?_
                        refine XL_det (.yes 121 rfl rfl rfl) (D_pure rfl) rfl ?_
                        refine XL_det (.yes 121 rfl rfl rfl) (D_eqb (b := false) rfl rfl ub_4 (by show (decide (s2.live ≠ 0#32) != decide (0 ≤ (tickC s2).2.task)) = false; rw [hal.any_]; simp)) rfl ?_
                        refine XL_det .no (D_pure rfl) rfl ?_
                        refine XL_then ?_
                        refine X_cond_f rfl rfl ?_
                        refine X_skip ?_
                        refine thenX_normal ?_
                        refine X_seq ?_
                        refine X_region ?_
                        refine XL_det .no (D_pure rfl) rfl ?_
                        refine XL_det .no (D_pure rfl) rfl ?_
                        refine XL_split (t := 129) rfl (fun h12 => ?_) (fun h12 => ?_)
                        · try simp only [decide_eq_true_eq, decide_eq_false_iff_not, Bool.not_eq_true', Bool.not_eq_false', beq_iff_eq, bne_iff_ne, beq_eq_false_iff_ne, bne_eq_false_iff_eq, Int.not_lt, Int.not_le, gt_iff_lt, ge_iff_le, ne_eq] at h12
                          have hlv : s2.live ≠ 0#32 := h12
                          refine XL_det (.yes 129 rfl rfl rfl) (D_fld rfl fld_53_0 (o' := 0) rfl) rfl ?_
                          refine XL_det (.yes 129 rfl rfl rfl) (D_ldo rfl (by repeat first | with_reducible exact .here _ _ | with_reducible apply Out.there | with_reducible apply Out.app) tk_3 (by rfl)) rfl ?_
                          refine XL_det (.yes 129 rfl rfl rfl) (D_pure rfl) rfl ?_
                          refine XL_det (.yes 129 rfl rfl rfl) (D_pure rfl) rfl ?_
                          refine XL_det .no (D_pure rfl) rfl ?_
                          refine XL_det .no (D_pure rfl) rfl ?_
                          refine XL_split (t := 135) rfl (fun h13 => ?_) (fun h13 => ?_)
                          · try simp only [decide_eq_true_eq, decide_eq_false_iff_not, Bool.not_eq_true', Bool.not_eq_false', beq_iff_eq, bne_iff_ne, beq_eq_false_iff_ne, bne_eq_false_iff_eq, Int.not_lt, Int.not_le, gt_iff_lt, ge_iff_le, ne_eq] at h13
                            have hls : (tickC s2).2.task ≠ (leastN s2.live : Int) := by have z := h13; rw [if_neg hlv] at z; exact z
                            refine XL_det (.yes 135 rfl rfl rfl) (D_pure rfl) rfl ?_
                            refine XL_det (.yes 135 rfl rfl rfl) (D_len rfl rfl slc_60) rfl ?_
                            refine XL_det (.yes 135 rfl rfl rfl) (D_pure rfl) rfl ?_
                            refine XL_det (.yes 135 rfl rfl rfl) (D_pure rfl) rfl ?_
                            refine XL_split (t := 139) rfl (fun h14 => ?_) (fun h14 => ?_)
                            · try simp only [decide_eq_true_eq, decide_eq_false_iff_not, Bool.not_eq_true', Bool.not_eq_false', beq_iff_eq, bne_iff_ne, beq_eq_false_iff_ne, bne_eq_false_iff_eq, Int.not_lt, Int.not_le, gt_iff_lt, ge_iff_le, ne_eq] at h14
                              exfalso; obtain ⟨j, hj, _⟩ := hal.least hlv hls; rw [← ha] at hj; omega
                            · try simp only [decide_eq_true_eq, decide_eq_false_iff_not, Bool.not_eq_true', Bool.not_eq_false', beq_iff_eq, bne_iff_ne, beq_eq_false_iff_ne, bne_eq_false_iff_eq, Int.not_lt, Int.not_le, gt_iff_lt, ge_iff_le, ne_eq] at h14
                              refine XL_det (.yes 139 rfl rfl rfl) (D_pure rfl) rfl ?_
                              refine XL_det (.yes 139 rfl rfl rfl) (D_fld rfl fld_53_0 (o' := 0) rfl) rfl ?_
                              refine XL_det (.yes 139 rfl rfl rfl) (D_ldo rfl (by repeat first | with_reducible exact .here _ _ | with_reducible apply Out.there | with_reducible apply Out.app) tk_3 (by rfl)) rfl ?_
                              refine XL_call (.yes 139 rfl rfl rfl) en_26 rfl (lholds a (Rd_own hao rfl) (tickC s2).2.task) (by repeat first | with_reducible exact .nil _ | with_reducible exact .here _ _ | with_reducible exact Take.self _ | with_reducible apply Take.cons | with_reducible apply Out.there | with_reducible apply Take.skip | with_reducible exact Take.pre _ _ | with_reducible apply Out.app) rfl ?_
                              rintro _ _ ⟨bh, rfl, hbh, rfl⟩
                              simp only [List.cons_append, List.nil_append]
                              obtain rfl : bh = true := hbh (by rw [ha]; exact hal.least hlv hls)
                              refine XL_det (.yes 139 rfl rfl rfl) (D_pure rfl) rfl ?_
                              refine XL_det (.yes 135 rfl rfl rfl) (D_pure rfl) rfl ?_
                              refine XL_det .no (D_pure rfl) rfl ?_
                              refine XL_then ?_
                              refine X_cond_f rfl rfl ?_
                              refine X_skip ?_
                              refine inBlk_normal ?_
                              refine thenX_normal ?_
                              refine X_region ?_
                              refine XL_det .no (D_pure rfl) rfl ?_
                              refine XL_det .no (D_add rfl rfl (by omega) (by omega)) rfl ?_
                              refine XL_det .no (D_pure rfl) rfl ?_
                              refine XL_nil ?_
                              refine loopQ_next (n + 1, (tickC s2).1) ?_ ?_ ?_ ?_
                              · (try dsimp only); exact ⟨by omega, hWt, by rw [tick_now]; omega⟩
                              · (try dsimp only); omega
                              · refine ⟨?_, ?_, ?_, ?_, ?_, ?_, trivial⟩ <;> rfl
                              · (try dsimp only); exact ⟨_, (by repeat first | with_reducible exact .nil _ | with_reducible exact .here _ _ | with_reducible exact Take.self _ | with_reducible apply Take.cons | with_reducible apply Out.there | with_reducible apply Take.skip | with_reducible exact Take.pre _ _ | with_reducible apply Out.app)⟩
                          · try simp only [decide_eq_true_eq, decide_eq_false_iff_not, Bool.not_eq_true', Bool.not_eq_false', beq_iff_eq, bne_iff_ne, beq_eq_false_iff_ne, bne_eq_false_iff_eq, Int.not_lt, Int.not_le, gt_iff_lt, ge_iff_le, ne_eq] at h13
                            refine XL_skip 135 rfl rfl rfl rfl rfl ?_
                            refine XL_skip 135 rfl rfl rfl rfl rfl ?_
                            refine XL_skip 135 rfl rfl rfl rfl rfl ?_
                            refine XL_skip 135 rfl rfl rfl rfl rfl ?_
                            refine XL_skipu 139 rfl rfl rfl rfl ?_
                            refine XL_skipu 139 rfl rfl rfl rfl ?_
                            refine XL_skipu 139 rfl rfl rfl rfl ?_
                            refine XL_skipu 139 rfl rfl rfl rfl ?_
                            refine XL_skipu 139 rfl rfl rfl rfl ?_
                            refine XL_skip 135 rfl rfl rfl rfl rfl ?_
                            refine XL_det .no (D_pure rfl) rfl ?_
                            refine XL_then ?_
                            refine X_cond_f rfl rfl ?_
                            refine X_skip ?_
                            refine inBlk_normal ?_
                            refine thenX_normal ?_
                            refine X_region ?_
                            refine XL_det .no (D_pure rfl) rfl ?_
                            refine XL_det .no (D_add rfl rfl (by omega) (by omega)) rfl ?_
                            refine XL_det .no (D_pure rfl) rfl ?_
                            refine XL_nil ?_
                            refine loopQ_next (n + 1, (tickC s2).1) ?_ ?_ ?_ ?_
                            · (try dsimp only); exact ⟨by omega, hWt, by rw [tick_now]; omega⟩
                            · (try dsimp only); omega
                            · refine ⟨?_, ?_, ?_, ?_, ?_, ?_, trivial⟩ <;> rfl
                            · (try dsimp only); exact ⟨_, (by repeat first | with_reducible exact .nil _ | with_reducible exact .here _ _ | with_reducible exact Take.self _ | with_reducible apply Take.cons | with_reducible apply Out.there | with_reducible apply Take.skip | with_reducible exact Take.pre _ _ | with_reducible apply Out.app)⟩
                        · try simp only [decide_eq_true_eq, decide_eq_false_iff_not, Bool.not_eq_true', Bool.not_eq_false', beq_iff_eq, bne_iff_ne, beq_eq_false_iff_ne, bne_eq_false_iff_eq, Int.not_lt, Int.not_le, gt_iff_lt, ge_iff_le, ne_eq] at h12
                          refine XL_skip 129 rfl rfl rfl rfl rfl ?_
                          refine XL_skip 129 rfl rfl rfl rfl rfl ?_
                          refine XL_skip 129 rfl rfl rfl rfl rfl ?_
                          refine XL_skip 129 rfl rfl rfl rfl rfl ?_
                          refine XL_det .no (D_pure rfl) rfl ?_
                          refine XL_det .no (D_pure rfl) rfl ?_
                          refine XL_skip 135 rfl rfl rfl rfl rfl ?_
                          refine XL_skip 135 rfl rfl rfl rfl rfl ?_
                          refine XL_skip 135 rfl rfl rfl rfl rfl ?_
                          refine XL_skip 135 rfl rfl rfl rfl rfl ?_
                          refine XL_skipu 139 rfl rfl rfl rfl ?_
                          refine XL_skipu 139 rfl rfl rfl rfl ?_
                          refine XL_skipu 139 rfl rfl rfl rfl ?_
                          refine XL_skipu 139 rfl rfl rfl rfl ?_
                          refine XL_skipu 139 rfl rfl rfl rfl ?_
                          refine XL_skip 135 rfl rfl rfl rfl rfl ?_
                          refine XL_det .no (D_pure rfl) rfl ?_
                          refine XL_then ?_
                          refine X_cond_f rfl rfl ?_
                          refine X_skip ?_
                          refine inBlk_normal ?_
                          refine thenX_normal ?_
                          refine X_region ?_
                          refine XL_det .no (D_pure rfl) rfl ?_
                          refine XL_det .no (D_add rfl rfl (by omega) (by omega)) rfl ?_
                          refine XL_det .no (D_pure rfl) rfl ?_
                          refine XL_nil ?_
                          refine loopQ_next (n + 1, (tickC s2).1) ?_ ?_ ?_ ?_
                          · (try dsimp only); exact ⟨by omega, hWt, by rw [tick_now]; omega⟩
                          · (try dsimp only); omega
                          · refine ⟨?_, ?_, ?_, ?_, ?_, ?_, trivial⟩ <;> rfl
                          · (try dsimp only); exact ⟨_, (by repeat first | with_reducible exact .nil _ | with_reducible exact .here _ _ | with_reducible exact Take.self _ | with_reducible apply Take.cons | with_reducible apply Out.there | with_reducible apply Take.skip | with_reducible exact Take.pre _ _ | with_reducible apply Out.app)⟩
                · try simp only [decide_eq_true_eq, decide_eq_false_iff_not, Bool.not_eq_true', Bool.not_eq_false', beq_iff_eq, bne_iff_ne, beq_eq_false_iff_ne, bne_eq_false_iff_eq, Int.not_lt, Int.not_le, gt_iff_lt, ge_iff_le, ne_eq] at h6
                  refine X_exit ?_
                  refine thenX_exit ?_
                  refine loopQ_exit ?_
                  refine inBlk_here ?_
                  refine inBlk_normal ?_
                  refine thenX_normal ?_
                  refine X_region ?_
                  refine XL_det .no (D_pure rfl) rfl ?_
                  refine XL_det .no (D_add rfl rfl (by omega) (by omega)) rfl ?_
                  refine XL_det .no (D_pure rfl) rfl ?_
                  refine XL_nil ?_
                  refine loopQ_next (i + 1, s2) ?_ ?_ ?_ ?_
                  · (try dsimp only); exact ⟨by omega, hW2, by omega⟩
                  · (try dsimp only); omega
                  · refine ⟨?_, ?_, ?_, ?_, trivial⟩ <;> rfl
                  · (try dsimp only); exact ⟨_, (by repeat first | with_reducible exact .nil _ | with_reducible exact .here _ _ | with_reducible exact Take.self _ | with_reducible apply Take.cons | with_reducible apply Out.there | with_reducible apply Take.skip | with_reducible exact Take.pre _ _ | with_reducible apply Out.app)⟩
          · try simp only [decide_eq_true_eq, decide_eq_false_iff_not, Bool.not_eq_true', Bool.not_eq_false', beq_iff_eq, bne_iff_ne, beq_eq_false_iff_ne, bne_eq_false_iff_eq, Int.not_lt, Int.not_le, gt_iff_lt, ge_iff_le, ne_eq] at h4
            refine X_exit ?_
            refine thenX_exit ?_
            refine loopQ_exit ?_
            refine inBlk_here ?_
            refine thenX_normal ?_
            refine X_seq ?_
            refine X_region ?_
            refine XL_callk .no en_23 rfl (alive26 hK) (by repeat first | with_reducible exact .nil _ | with_reducible exact .here _ _ | with_reducible exact Take.self _ | with_reducible apply Take.cons | with_reducible apply Out.there | with_reducible apply Take.skip | with_reducible exact Take.pre _ _ | with_reducible apply Out.app) rfl ?_
            refine XL_det .no (D_pure rfl) rfl ?_
            refine XL_then ?_
            refine X_ret ?_
            refine ret_ok (.nil _) (res_tmp rfl rfl) ?_
            exact ⟨[K, Ki], ⟨rfl, rfl⟩, _, (by repeat first | with_reducible exact .nil _ | with_reducible exact .here _ _ | exact .here _ _ | with_reducible exact Take.self _ | with_reducible apply Take.cons | with_reducible apply Out.there | with_reducible apply Take.skip | with_reducible exact Take.pre _ _ | with_reducible apply Out.app)⟩

end Go.Proofs.YtkkdchgnknpceaaDoor
end

section
namespace Go.Proofs.YtkkdchgnknpceaaDoor
open Go Go.Sl Go.ChangeShapes Go.WideShapes Go.ChangeAt Go.RowKit
set_option linter.unusedVariables false
abbrev tabT : Nat := 154
theorem ui_int : Tryd.prog.underlying 3 = some (.int .i64) := by kernel_rfl
theorem eqk_164 : eqKinds Tryd.prog 12 164 = some [some .i64, some .i64] := by kernel_rfl
theorem eqk_168 : eqKinds Tryd.prog 12 168 = some [some .i64, some .i64, some .i64, some .i64, some .i64, some .i64, some .i64, some .i64, some .i64, some .i64, some .i64, some .i64, some .i64, some .i64, some .i64, some .i64, some .i64, some .i64, some .i64, some .i64, some .i64, some .i64, some .i64] := by kernel_rfl
theorem eqk_48 : eqKinds Tryd.prog 12 48 = some [some .i64, some .i64, some .i64, some .i64, some .i64, some .i64, some .i64, some .i64, some .i64, some .i64, some .i64] := by kernel_rfl

theorem sz_task : (Tryd.prog.info? 48).map (·.size) = some 11 := by kernel_rfl
theorem sz_edge : (Tryd.prog.info? 168).map (·.size) = some 23 := by kernel_rfl
theorem sz_q : (Tryd.prog.info? 164).map (·.size) = some 2 := by kernel_rfl
theorem sl_tasks : slcOf Tryd.prog 22 = some (48, 11) := by kernel_rfl
theorem sl_modes : slcOf Tryd.prog 23 = some (101, 2) := by kernel_rfl
theorem sl_edges : slcOf Tryd.prog 24 = some (168, 23) := by kernel_rfl
theorem sl_qs : slcOf Tryd.prog 99 = some (164, 2) := by kernel_rfl
theorem shp_img : shp Tryd.prog 26 = some [3, 22, 23, 24] := by kernel_rfl
theorem shp_mode : shp Tryd.prog 101 = some [36, 99] := by kernel_rfl
theorem ui_u32 : Tryd.prog.underlying 36 = some (.int .u32) := by kernel_rfl
/-- The fields' bounds. -/
def okT (e : Nat → Int) : Prop := fitK e 0 [some .i64, some .i64, some .i64, some .i64, some .i64, some .i64, some .i64, some .i64, some .i64, some .i64, some .i64]
def okE (e : Nat → Int) : Prop := fitK e 0 [some .i64, some .i64, some .i64, some .i64, some .i64, some .i64, some .i64, some .i64, some .i64, some .i64, some .i64, some .i64, some .i64, some .i64, some .i64, some .i64, some .i64, some .i64, some .i64, some .i64, some .i64, some .i64, some .i64]
structure Img.Ok (x : Img) : Prop where
  tasks : ∀ e ∈ x.tasks.l, okT e
  edges : ∀ e ∈ x.edges.l, okE e
theorem openImg {W : World} {v : Value} (h : ArgOk Tryd.prog W 26 v) : ∃ x : Img, v = x.v ∧ x.In (old (B := W.heap.size) W) ∧ x.Ok := by
  obtain ⟨H, enc, cs, rfl, p0, q0, rfl, ⟨n0, x0, h0⟩, p1, q1, rfl, ⟨n1, x1, h1⟩, p2, q2, rfl, ⟨n2, x2, h2⟩, p3, q3, rfl, ⟨n3, x3, h3⟩, rfl⟩ := arg_struct shp_img h
  obtain ⟨res, rfl, _, _⟩ := DataW.trod_int ui_int h0
  obtain ⟨ta, rfl, t1, t2⟩ := Arr.of_trod (encA := encT) (ok := okT) sl_tasks (by decide) h1 (fun n cs x hx => flat_dec eqk_48 sz_task hx)
  obtain ⟨ed, rfl, e1, e2⟩ := Arr.of_trod (encA := encE) (ok := okE) sl_edges (by decide) h3 (fun n cs x hx => flat_dec eqk_168 sz_edge hx)
  obtain ⟨mo, rfl, m1, m2⟩ := Arr.of_trod (encA := encM) (ok := fun m => Rd (old (B := W.heap.size) W) m.q.ad (m.q.l.flatMap encQ)) sl_modes (by decide) h2 (fun n cs x hx => by
    obtain ⟨p0, q0, rfl, ⟨n0, x0, h0⟩, p1, q1, rfl, ⟨n1, x1, h1⟩, rfl⟩ := struct_parts shp_mode hx
    obtain ⟨b, rfl, _, hb⟩ := DataW.trod_int ui_u32 h0
    obtain ⟨b, rfl⟩ := u32_bv hb
    obtain ⟨q, rfl, _, q2⟩ := Arr.of_trod (encA := encQ) (ok := fun _ => True) sl_qs (by decide) h1 (fun n cs x hx => by
      obtain ⟨e, he, _⟩ := flat_dec eqk_164 sz_q hx
      exact ⟨e, he, trivial⟩)
    exact ⟨⟨b, q⟩, rfl, q2⟩)
  exact ⟨⟨res, ta, mo, ed⟩, rfl, ⟨t2, m2, e2, m1⟩, ⟨t1, e1⟩⟩
theorem sz_sec : (Tryd.prog.info? 123).map (·.size) = some 3 := by kernel_rfl
theorem sl_secs : slcOf Tryd.prog 39 = some (123, 3) := by kernel_rfl
theorem sl_ops : slcOf Tryd.prog 27 = some (41, 5) := by kernel_rfl
theorem shp_op : shp Tryd.prog 41 = some [3, 3, 3, 37, 39] := by kernel_rfl
theorem ui_set : Tryd.prog.underlying 37 = some (.int .u32) := by kernel_rfl
theorem openOps {W : World} {v : Value} (h : ArgOk Tryd.prog W 27 v) : ∃ l : Arr OpS, v = .slice l.oad l.l.length l.c ∧ OpsIn (old (B := W.heap.size) W) l := by
  obtain ⟨l, rfl, h1, h2⟩ := arg_arr (encA := encOp) (ok := fun o => Rd (old (B := W.heap.size) W) o.secs.ad (o.secs.l.flatMap encS)) sl_ops (by decide) h (fun n cs x hx => by
    obtain ⟨p0, q0, rfl, ⟨n0, x0, h0⟩, p1, q1, rfl, ⟨n1, x1, h1⟩, p2, q2, rfl, ⟨n2, x2, h2⟩, p3, q3, rfl, ⟨n3, x3, h3⟩, p4, q4, rfl, ⟨n4, x4, h4⟩, rfl⟩ := struct_parts shp_op hx
    obtain ⟨a, rfl, _, _⟩ := DataW.trod_int ui_int h0
    obtain ⟨b, rfl, _, _⟩ := DataW.trod_int ui_int h1
    obtain ⟨c, rfl, _, _⟩ := DataW.trod_int ui_int h2
    obtain ⟨z, rfl, _, hz⟩ := DataW.trod_int ui_set h3
    obtain ⟨z, rfl⟩ := u32_bv hz
    obtain ⟨q, rfl, _, q2⟩ := Arr.of_trod (encA := encS) (ok := fun _ => True) sl_secs (by decide) h4 (fun n cs x hx => by
      obtain ⟨e, he, _⟩ := flat_dec eqk_123 sz_sec hx
      exact ⟨(e 0, e 1, e 2), he, trivial⟩)
    exact ⟨⟨a, b, c, z, q⟩, rfl, q2⟩)
  exact ⟨l, rfl, h2, h1⟩

theorem own : ownKnob Tryd.prog.godebug = none := by kernel_rfl
theorem laidOut : laidOutB Tryd.prog = true := by kernel_rfl
abbrev laidT : List (String × DataW Unit) := [("math/bits.deBruijn32tab", Rows.laid_math_bits_deBruijn32tab)]
set_option maxRecDepth 100000 in
theorem laidTab {W : World} (h : laidMetH Tryd.prog laidT W) : Rd (old (B := W.heap.size) W) ⟨0, 0, none⟩ (tab32.map fun m => .int .u8 m) := by
  rw [MakeChecks.laidMetH_plain _ _ _ (by kernel_rfl)] at h
  rw [show laidT = [("math/bits.deBruijn32tab", .agg (tab32.map fun m => .lit (.int .u8 m)))] from by kernel_rfl] at h
  exact laid_row (tab := tab32) (t := tabT) (len := 32) (e := 5) (k := .u8) (by kernel_rfl) (by kernel_rfl) (by kernel_rfl) (by kernel_rfl) (by kernel_rfl) (by decide) h
theorem door_met (os : Os) (args : Array Value) : laidMetH Tryd.prog laidT ((World.doorLaid Tryd.prog 400 os).forCall (fun _ _ => 0) ⟨#[], args, []⟩).memory :=
  laidMetH_of_parts3 (fuel := 8) (laidMet_of_run' 8 (by kernel_rfl) (by kernel_rfl)) (by kernel_rfl) (by kernel_rfl)


set_option maxRecDepth 100000 in
/-- The walk, at the arguments as the row reads them. -/
theorem walkSchedAlone (W : World) (args : Array Value) (hL : laidMetH Tryd.prog laidT W) (h : ArgsOk Tryd.prog W Tryd.f4.params.toList args.toList) : Calls Tryd.prog 4 args W fun e w' => e = .returned (.bool true) ∧ Go.RowKit.Below W.heap.size W w' := by
  rw [show Tryd.f4.params.toList = [26, 27] from by kernel_rfl] at h
  obtain ⟨args⟩ := args
  match args, h with
  | [v0, v1], h =>
    have hK := laidTab hL
    obtain ⟨a0, a1, _⟩ := h
    obtain ⟨x, rfl, hx, _⟩ := openImg a0
    obtain ⟨l, rfl, hl⟩ := openOps a1
    exact calls_of (old_self W) (((schedAlone x hx l hl hK (old_dup W)).dup (.here _ _) (old_dup W)).mono fun _ _ h => h.1)

set_option maxRecDepth 100000 in
theorem liftedSchedAlone (os : Os) (started : os.Started) (H : Type) (enc : TypeId × Value → H) :
    ReturnsInHanded {} Tryd.checked os 4 .any (fun w args => (Rows.schedAloneSpec.pre enc Tryd.prog Tryd.f4 [] false w args ∧ laidMetH Tryd.prog laidT w) ∧ sizedMet enc Tryd.prog Tryd.f4 (OpenSpec.ofChange Rows.schedAloneSpec) false w args) (Rows.schedAloneSpec.post enc Tryd.prog Tryd.f4 false true false false) :=
  handedL (C := Tryd.checked) (tb := 4) own started (by kernel_rfl) Tryd.func4 laidOut (by kernel_rfl) rfl
    (fun ds h => by
      have h : ds.length = 2 := h
      match ds, h with
      | [_, _], _ => exact ⟨rfl, rfl, rfl⟩) (by kernel_rfl) (by kernel_rfl)
    (ChangeSpec.witness_shaped (enc := enc) (C := Tryd.checked) (os := os) (X := fun w _ => laidMetH Tryd.prog laidT w) false (World.doorLaid Tryd.prog 400 os) #[.agg #[.int .i64 0, .slice none 0 0, .slice none 0 0, .slice none 0 0], .slice none 0 0] 8 rfl (World.shaped_of_RefB (by kernel_rfl) (by kernel_rfl)) (by kernel_rfl) (by kernel_rfl) (by kernel_rfl) (door_met os _))
    (fun W args hL h => walkSchedAlone W args hL h)

theorem overSchedAlone : Rows.SchedAloneSaid :=
  OpenClaim.holds_of_wide 4 Tryd.f4 rfl rfl rfl rfl rfl rfl rfl ⟨rfl, rfl, rfl, rfl, rfl⟩ rfl rfl rfl rfl rfl (by kernel_rfl) Tryd.func4 (by kernel_rfl)
    (of_decide_eq_true (by kernel_rfl)) (by unfold Func.isWrapper; first | (rw [if_pos (by decide +kernel)]; kernel_rfl) | (rw [if_neg (by decide +kernel)]; exact ⟨rfl, rfl⟩))
    (fun os started H enc _ => liftedSchedAlone os started H enc)

/-- The statement: the tied card. -/
theorem provedSchedAlone : Rows.SchedAloneCardSaid :=
  Claim7.holds_tied_plain_at .later [] [.data] true (true, "44ef1e1e002b38ac2d72adeff89b3beb5f1b36ff56efcca0884e0dc2dba73968") false
    overSchedAlone (fun _ h => by cases h) (by kernel_rfl) (fun _ h => by cases h) schedAlone_row_tie rfl ⟨rfl, rfl⟩ (by kernel_rfl) rfl
    (fun f fn hf hfn => by
      obtain rfl : f = 4 := Option.some.inj ((show Tryd.prog.funcNamed "remontoir/remontoirlaw26.SchedAlone" = some 4 by kernel_rfl).symm.trans hf) |>.symm
      obtain rfl : fn = Tryd.f4 := (Option.some.inj (Tryd.func4.symm.trans hfn)).symm
      exact ⟨by kernel_rfl, fun j t ht => by
        have ht : t ∈ Tryd.f4.params.toList := by simpa using Array.mem_of_getElem? ht
        rw [show Tryd.f4.params.toList = [26, 27] from by kernel_rfl] at ht
        have hall : ([26, 27].all fun u => !Tryd.prog.wantsStandIn u) = true := by kernel_rfl
        exact (show Tryd.prog.wantsStandIn t = false by simpa using List.all_eq_true.1 hall t ht)⟩)
    (by kernel_rfl)

#print axioms provedSchedAlone
end Go.Proofs.YtkkdchgnknpceaaDoor
end
