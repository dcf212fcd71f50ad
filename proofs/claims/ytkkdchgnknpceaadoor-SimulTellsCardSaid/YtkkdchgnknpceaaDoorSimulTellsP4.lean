/- SimulTells: a part of the functions that it reaches, walked one by one. Walks written by a program of mine. -/
import Derived.Test.YtkkdchgnknpceaaDoorSimulTellsP3
import Derived.KernelRfl
import Derived.Test.YtkkdchgnknpceaaDoorProg
import Derived.Test.YtkkdchgnknpceaaDoorRows
import Derived.Test.YtkkdchgnknpceaaDoorTie
import Derived.Test.YtkkdchgnknpceaaDoorCards
import Derived.SevenTiedAt
import Derived.LaidMore
section
/- The jobs of a set of tasks come, tick by tick. Plain. -/
namespace Go.Proofs.YtkkdchgnknpceaaDoor
open Go Go.Sl
set_option linter.unusedVariables false
set_option linter.unusedSimpArgs false
/-! ### What a job holds -/
def stepW (cost : Int) (p : List Sec × Int) (q : Nat × Int) : List Sec × Int := if p.2 ≥ cost then p else (p.1 ++ [((q.1 : Int), p.2, min (p.2 + q.2) cost)], min (p.2 + q.2) cost)
def stepX (cost : Int) (p : List Sec × Int) (q : Nat × Int) : List Sec × Int := if p.2 < cost then (p.1 ++ [((q.1 : Int), p.2, p.2 + q.2)], p.2 + q.2) else p
def secW (e : Nat → Int) (cost : Int) (n : Nat) : List Sec × Int := ((usesL e 8).take n).foldl (stepW cost) ([], 0)
def secX (e : Nat → Int) (cost : Int) (r : Nat) : List Sec × Int := (usesL e r).foldl (stepX cost) ([], 0)
abbrev secWl (e : Nat → Int) (cost : Int) : List Sec := (secW e cost (usesL e 8).length).1
theorem secW_s {e : Nat → Int} {cost : Int} {n : Nat} {q : Nat × Int} (h : (usesL e 8)[n]? = some q) : secW e cost (n + 1) = stepW cost (secW e cost n) q := by
  unfold secW; rw [List.take_add_one, h]; simp [List.foldl_append]
theorem secW_stop {e : Nat → Int} {cost : Int} {n : Nat} (h : (secW e cost n).2 ≥ cost) : ∀ m, secW e cost (n + m) = secW e cost n
  | 0 => rfl
  | m + 1 => by
    have ih := secW_stop h m
    cases hq : (usesL e 8)[n + m]? with
    | none =>
      show secW e cost (n + m + 1) = _
      unfold secW at ih ⊢
      have := List.getElem?_eq_none_iff.1 hq
      rw [List.take_of_length_le (by omega)]; rw [List.take_of_length_le (by omega)] at ih; exact ih
    | some q => show secW e cost (n + m + 1) = _; rw [secW_s hq, ih]; unfold stepW; rw [if_pos h]
theorem secX_t {e : Nat → Int} {cost : Int} {r : Nat} (h : 0 < e (3 + r)) (g : (secX e cost r).2 < cost) : secX e cost (r + 1) = ((secX e cost r).1 ++ [((r : Int), (secX e cost r).2, (secX e cost r).2 + e (3 + r))], (secX e cost r).2 + e (3 + r)) := by
  have hu : usesT e r = true := by unfold usesT; simpa using h
  show (usesL e (r + 1)).foldl _ _ = _
  rw [usesL_s, hu, List.foldl_append]
  show stepX cost (secX e cost r) (r, e (3 + r)) = _
  unfold stepX; rw [if_pos g]
theorem secX_f {e : Nat → Int} {cost : Int} {r : Nat} (h : ¬ (0 < e (3 + r) ∧ (secX e cost r).2 < cost)) : secX e cost (r + 1) = secX e cost r := by
  show (usesL e (r + 1)).foldl _ _ = _
  rw [usesL_s, List.foldl_append]
  show (if usesT e r = true then [(r, e (3 + r))] else []).foldl (stepX cost) (secX e cost r) = _
  by_cases hu : 0 < e (3 + r)
  · rw [if_pos (show usesT e r = true by unfold usesT; simpa using hu)]
    show stepX cost (secX e cost r) (r, e (3 + r)) = _
    unfold stepX; rw [if_neg (fun q => h ⟨hu, q⟩)]
  · rw [if_neg (show ¬ usesT e r = true by unfold usesT; simpa using hu)]; rfl
def clipS (cost : Int) (s : Sec) : Sec := (s.1, s.2.1, min s.2.2 cost)
theorem clip_fold {cost : Int} : ∀ (l : List (Nat × Int)) (a : List Sec) (f : Int), l.foldl (stepW cost) (a.map (clipS cost), min f cost) = ((l.foldl (stepX cost) (a, f)).1.map (clipS cost), min (l.foldl (stepX cost) (a, f)).2 cost)
  | [], a, f => rfl
  | q :: l, a, f => by
    rw [List.foldl_cons, List.foldl_cons]
    by_cases h : f < cost
    · have e1 : stepX cost (a, f) q = (a ++ [((q.1 : Int), f, f + q.2)], f + q.2) := by unfold stepX; rw [if_pos h]
      have e2 : stepW cost (a.map (clipS cost), min f cost) q = ((a ++ [((q.1 : Int), f, f + q.2)]).map (clipS cost), min (f + q.2) cost) := by
        unfold stepW; rw [if_neg (by show ¬ min f cost ≥ cost; omega), show min f cost = f by omega, List.map_append]; rfl
      rw [e1, e2]; exact clip_fold l _ _
    · have e1 : stepX cost (a, f) q = (a, f) := by unfold stepX; rw [if_neg h]
      have e2 : stepW cost (a.map (clipS cost), min f cost) q = (a.map (clipS cost), min f cost) := by
        unfold stepW; rw [if_pos (by show min f cost ≥ cost; omega)]
      rw [e1, e2]; exact clip_fold l _ _
theorem cutS_clip {T : Nat → Int} {cost f : Int} {s : Sec} : cutS T cost f (clipS cost s) = cutS T cost f s := by
  unfold cutS clipS
  dsimp only
  by_cases h : s.1 < 0 ∨ s.1 ≥ 8 ∨ T (3 + s.1.toNat) = 0 ∨ s.2.1 < f ∨ s.2.1 ≥ cost ∨ s.2.2 ≤ s.2.1
  · rw [if_pos h, if_pos (by omega)]
  · rw [if_neg h, if_neg (by omega), show min (min s.2.2 cost) cost = min s.2.2 cost by omega]
theorem secs_clip {T : Nat → Int} {cost : Int} : ∀ (l : List Sec) (f : Int) (m : Nat), secs T cost f m (l.map (clipS cost)) = secs T cost f m l
  | [], f, m => rfl
  | s :: l, f, m => by
    rw [List.map_cons, secs, secs, cutS_clip]
    by_cases h : m = 8
    · rw [if_pos h, if_pos h]
    · rw [if_neg h, if_neg h]
      cases hc : cutS T cost f s with
      | none => exact secs_clip l f m
      | some c => dsimp only; rw [secs_clip l c.2.2 (m + 1)]
/-- The document's list, which isn't cut, and the program's: of both the same fits. -/
theorem secs_same {e : Nat → Int} {cost : Int} (h : 0 ≤ cost) : secs e cost 0 0 (secWl e cost) = secs e cost 0 0 (secX e cost 8).1 := by
  have := clip_fold (cost := cost) (usesL e 8) [] 0
  rw [show min 0 cost = 0 by omega] at this
  have e1 : secWl e cost = (secX e cost 8).1.map (clipS cost) := by
    show (((usesL e 8).take (usesL e 8).length).foldl (stepW cost) ([], 0)).1 = _
    rw [List.take_length]
    show ((usesL e 8).foldl (stepW cost) (List.map (clipS cost) [], 0)).1 = _
    rw [this]; rfl
  rw [e1, secs_clip]
theorem secW_len {e : Nat → Int} {cost : Int} : ∀ n, n ≤ (usesL e 8).length → (secW e cost n).1.length ≤ n
  | 0, _ => by unfold secW; simp
  | n + 1, h => by
    have ih := secW_len (e := e) (cost := cost) n (by omega)
    rw [secW_s (List.getElem?_eq_getElem (by omega))]
    unfold stepW; split
    · omega
    · simp; omega
theorem secX_len {e : Nat → Int} {cost : Int} : ∀ r, (secX e cost r).1.length ≤ r
  | 0 => by unfold secX usesL; simp
  | r + 1 => by
    have ih := secX_len (e := e) (cost := cost) r
    by_cases h : 0 < e (3 + r) ∧ (secX e cost r).2 < cost
    · rw [secX_t h.1 h.2]; simp; omega
    · rw [secX_f h]; omega
/-! ### When jobs come, and how long they are -/
structure Way where
  ph : Nat → Int
  part : Int
abbrev Way.cl (w : Way) : Int := min (max w.part 0) 1000
def costW (w : Way) (e : Nat → Int) : Int := max (Int.tdiv (e 2 * w.cl + 999) 1000) 1
theorem costW_in {w : Way} {e : Nat → Int} (h : 1 ≤ e 2 ∧ e 2 ≤ 4096) : 1 ≤ costW w e ∧ costW w e ≤ e 2 ∧ 0 ≤ e 2 * w.cl ∧ e 2 * w.cl ≤ 4096000 := by
  have h1 : 0 ≤ w.cl ∧ w.cl ≤ 1000 := by show 0 ≤ min (max w.part 0) 1000 ∧ min (max w.part 0) 1000 ≤ 1000; omega
  have h2 : 0 ≤ e 2 * w.cl := Int.mul_nonneg (by omega) h1.1
  have h3 : e 2 * w.cl ≤ e 2 * 1000 := Int.mul_le_mul_of_nonneg_left h1.2 (by omega)
  unfold costW
  rw [Int.tdiv_eq_ediv_of_nonneg (by omega)]
  omega
def dueW (w : Way) (i : Nat) (now p : Int) : Bool := decide (0 ≤ now - max (w.ph i) 0) && decide (Int.tmod (now - max (w.ph i) 0) p = 0)
/-- As often as a period begins in so many ticks. -/
def cd (u T : Nat) : Nat := (u + T - 1) / T
theorem cd_0 {T : Nat} (h : 1 ≤ T) : cd 0 T = 0 := by unfold cd; rw [Nat.zero_add]; exact Nat.div_eq_of_lt (by omega)
theorem cd_s {u T : Nat} (h : 1 ≤ T) : cd (u + 1) T = cd u T + if u % T = 0 then 1 else 0 := by
  unfold cd
  have hd := Nat.div_add_mod u T
  have hm := Nat.mod_lt u (show T > 0 by omega)
  generalize u / T = q at hd
  generalize hr : u % T = r at hd hm
  subst hd
  have e1 : (T * q + r + 1 + T - 1) / T = q + 1 := by
    rw [show T * q + r + 1 + T - 1 = r + T * (q + 1) by rw [Nat.mul_add]; omega, Nat.add_mul_div_left _ _ (by omega), Nat.div_eq_of_lt hm]; omega
  rw [e1]
  by_cases hz : r = 0
  · subst hz
    rw [if_pos rfl, show T * q + 0 + T - 1 = (T - 1) + T * q by omega, Nat.add_mul_div_left _ _ (by omega), Nat.div_eq_of_lt (by omega)]; omega
  · rw [if_neg hz, show T * q + r + T - 1 = (r - 1) + T * (q + 1) by rw [Nat.mul_add]; omega, Nat.add_mul_div_left _ _ (by omega), Nat.div_eq_of_lt (by omega)]; omega
theorem cd_mono {u v T : Nat} (h : u ≤ v) : cd u T ≤ cd v T := Nat.div_le_div_right (by omega)
theorem cd_add {u v T : Nat} (h : 1 ≤ T) : cd (u + v) T ≤ cd u T + cd v T := by
  have hv : v ≤ cd v T * T := by
    unfold cd
    have h1 := Nat.div_add_mod (v + T - 1) T
    have h2 := Nat.mod_lt (v + T - 1) (show T > 0 by omega)
    rw [Nat.mul_comm] at h1; omega
  unfold cd at hv ⊢
  generalize (v + T - 1) / T = c at hv ⊢
  calc (u + v + T - 1) / T ≤ (u + T - 1 + c * T) / T := Nat.div_le_div_right (by omega)
    _ = (u + T - 1) / T + c := Nat.add_mul_div_right _ _ (by omega)
theorem cd_one {u T : Nat} (h : 1 ≤ u) (h2 : u ≤ T) : cd u T = 1 := by
  unfold cd; rw [show u + T - 1 = (u - 1) + T by omega, Nat.add_div_right _ (by omega), Nat.div_eq_of_lt (by omega)]
/-- How many jobs of a task are due ahead of a tick. -/
def dueN (w : Way) (i : Nat) (p : Int) (t : Nat) : Nat := cd (t - (max (w.ph i) 0).toNat) p.toNat
theorem dueN_s {w : Way} {i : Nat} {p : Int} (hp : 1 ≤ p) (t : Nat) : dueN w i p (t + 1) = dueN w i p t + if dueW w i (t : Int) p = true then 1 else 0 := by
  unfold dueN dueW
  obtain ⟨f, hf⟩ := Int.eq_ofNat_of_zero_le (show 0 ≤ max (w.ph i) 0 by omega)
  obtain ⟨T, hT⟩ := Int.eq_ofNat_of_zero_le (show 0 ≤ p by omega)
  subst hT
  rw [hf, Int.toNat_natCast, Int.toNat_natCast]
  by_cases h : f ≤ t
  · rw [show t + 1 - f = (t - f) + 1 by omega, cd_s (by omega)]
    have e1 : ((t : Int) - (f : Int)) = ((t - f : Nat) : Int) := by omega
    have e2 : Int.tmod ((t - f : Nat) : Int) (T : Int) = (((t - f) % T : Nat) : Int) := by rw [Int.tmod_eq_emod_of_nonneg (by omega)]; rfl
    rw [e1, e2]
    by_cases g : (t - f) % T = 0
    · rw [if_pos g, if_pos (by simp; exact_mod_cast g)]
    · rw [if_neg g, if_neg (by simp; intro q; exact g (by exact_mod_cast q))]
  · rw [show t + 1 - f = t - f by omega, if_neg (by simp; omega)]; rfl
theorem dueN_0 {w : Way} {i : Nat} {p : Int} (hp : 1 ≤ p) : dueN w i p 0 = 0 := by unfold dueN; rw [Nat.zero_sub]; exact cd_0 (by omega)
theorem dueN_add {w : Way} {i : Nat} {p : Int} (hp : 1 ≤ p) (b r : Nat) : dueN w i p (b + r) ≤ dueN w i p b + cd r p.toNat :=
  Nat.le_trans (cd_mono (by omega)) (cd_add (u := b - (max (w.ph i) 0).toNat) (v := r) (by omega))
theorem dueN_le {w : Way} {i : Nat} {p : Int} (hp : 1 ≤ p) (r : Nat) : dueN w i p r ≤ cd r p.toNat := cd_mono (by omega)
/-! ### The jobs come -/
/-- An array with what a list has. -/
def arrS (l : List Sec) : Arr Sec := if h : l.length ≤ 9223372036854775807 then Arr.lit 0 l h else Arr.emp
theorem arrS_l {l : List Sec} (h : l.length ≤ 8) : (arrS l).l = l := by unfold arrS; rw [dif_pos (by omega)]; rfl
theorem arrS_own {l : List Sec} : (arrS l).Own := by
  unfold arrS; split
  · exact Arr.lit_own
  · exact Arr.emp_own
/-- How much work a task's job has, cut to what it may. -/
abbrev costJ (w : Way) (e : Nat → Int) : Int := min (max (costW w e) 1) (e 2)
abbrev secJ (w : Way) (e : Nat → Int) : List Sec := secs e (costJ w e) 0 0 (secWl e (costW w e))
def rel1 (ts : List (Nat → Int)) (w : Way) (z : Cr) (i : Int) : Cr := match ts[i.toNat]? with
  | none => z
  | some e => if dueW w i.toNat z.now (e 0) = true then relC z (JN i.toNat z e (costJ w e) (arrS (secJ w e))) (arrS (secJ w e)) else z
def relL (ts : List (Nat → Int)) (w : Way) (l : List Int) (z : Cr) : Cr := l.foldl (rel1 ts w) z
abbrev relA (ts : List (Nat → Int)) (w : Way) (s : BitVec 32) (z : Cr) : Cr := relL ts w (listI s) z
def simC (ts : List (Nat → Int)) (w : Way) (s : BitVec 32) : Nat → Cr
  | 0 => ceilC cr0 (ceilF ts s)
  | n + 1 => (tickC (relA ts w s (simC ts w s n))).1
def ranC (ts : List (Nat → Int)) (w : Way) (s : BitVec 32) (n : Nat) : Ran := (tickC (relA ts w s (simC ts w s n))).2
structure TsOk (ts : List (Nat → Int)) : Prop where
  n : ts.length ≤ 16
  ok : ∀ e ∈ ts, (1 ≤ e 0 ∧ e 0 ≤ 4096) ∧ (1 ≤ e 1 ∧ e 1 ≤ e 0) ∧ (1 ≤ e 2 ∧ e 2 ≤ e 1) ∧ ∀ r : Nat, r < 8 → 0 ≤ e (3 + r) ∧ e (3 + r) ≤ e 2
theorem TsOk.at_ {ts : List (Nat → Int)} (h : TsOk ts) {k : Nat} {e : Nat → Int} (he : ts[k]? = some e) : k < 16 ∧ (1 ≤ e 0 ∧ e 0 ≤ 4096) ∧ (1 ≤ e 1 ∧ e 1 ≤ e 0) ∧ (1 ≤ e 2 ∧ e 2 ≤ e 1) ∧ ∀ r : Nat, r < 8 → 0 ≤ e (3 + r) ∧ e (3 + r) ≤ e 2 := by
  have := (List.getElem?_eq_some_iff.1 he).1
  have := h.n
  exact ⟨by omega, h.ok e (List.mem_of_getElem? he)⟩
/-! ### Alike, but for where the sections lie -/
def Lk (z c : Cr) : Prop := ∃ s, Like z s ∧ Like c s
theorem Lk.now {z c : Cr} (h : Lk z c) : z.now = c.now := by obtain ⟨s, h1, h2⟩ := h; rw [← h1.now, h2.now]
theorem Lk.ok {z c : Cr} (h : Lk z c) : COk z := by obtain ⟨s, h1, h2⟩ := h; exact h1.ok
theorem Lk.tick {z c : Cr} (h : Lk z c) (hn : z.now < 1000000000) : Lk (tickC z).1 (tickC c).1 ∧ (tickC z).2 = (tickC c).2 := by
  have hnow := h.now
  obtain ⟨s, h1, h2⟩ := h
  obtain ⟨a1, a2⟩ := h1.tick hn
  obtain ⟨b1, b2⟩ := h2.tick (by omega)
  exact ⟨⟨_, a1, b1⟩, a2.symm.trans b2⟩
theorem like_rel {ts : List (Nat → Int)} (hT : TsOk ts) {w : Way} {z c : Cr} {k : Nat} {e : Nat → Int} (he : ts[k]? = some e) {s : Sr} (h2 : Like c s) {y : Arr Sec} (hd : dueW w k c.now (e 0) = true) (hy : s.lv k = false → y.l = secJ w e ∧ y.Own) : Like (rel1 ts w c k) (relR s k e (costJ w e) y) := by
  obtain ⟨hk, _, _, hc, hr⟩ := hT.at_ he
  obtain ⟨_, g2, g3, _⟩ := hT.at_ he
  have hlen : (secJ w e).length ≤ 8 := secs_len (T := e) (cost := costJ w e) _ 0 0 (by decide)
  unfold rel1
  rw [Int.toNat_natCast, he]; dsimp only
  rw [if_pos hd]
  have := h2.rel (k := k) (e := e) (cost := costW w e) (l := secWl e (costW w e)) (x := arrS (secJ w e)) (a := arrS (secJ w e)) (y := y) hk ⟨hc.1, by omega⟩ (fun j hj => (hr j hj).1) (arrS_l hlen) rfl arrS_own (fun q => by rw [show max (min (costW w e) (e 2)) 1 = costJ w e from by show _ = min (max _ _) _; omega]; exact hy q)
  rw [show max (min (costW w e) (e 2)) 1 = costJ w e from by show _ = min (max _ _) _; omega] at this
  exact this.1
theorem Lk.rel {ts : List (Nat → Int)} (hT : TsOk ts) {w : Way} {z c : Cr} (h : Lk z c) {k : Nat} {e : Nat → Int} (he : ts[k]? = some e) (hd : dueW w k c.now (e 0) = true) {x a : Arr Sec} (hx : x.l = secJ w e) (ha : a.l = x.l) (hao : a.Own) : Lk (relC z (JN k z e (costJ w e) x) a) (rel1 ts w c k) := by
  obtain ⟨s, h1, h2⟩ := h
  obtain ⟨hk, g2, g3, hc, hr⟩ := hT.at_ he
  have hlen : (secJ w e).length ≤ 8 := secs_len (T := e) (cost := costJ w e) _ 0 0 (by decide)
  have hm : max (min (costW w e) (e 2)) 1 = costJ w e := by show _ = min (max _ _) _; omega
  have := h1.rel (k := k) (e := e) (cost := costW w e) (l := secWl e (costW w e)) (x := x) (a := a) (y := arrS (secJ w e)) hk ⟨hc.1, by omega⟩ (fun j hj => (hr j hj).1) hx ha hao (fun q => by rw [hm]; exact ⟨arrS_l hlen, arrS_own⟩)
  rw [hm] at this
  exact ⟨_, this.1, like_rel (z := c) hT he h2 hd (fun _ => ⟨arrS_l hlen, arrS_own⟩)⟩
theorem rel1_no {ts : List (Nat → Int)} {w : Way} {z : Cr} {i : Int} (h : ∀ e, ts[i.toNat]? = some e → dueW w i.toNat z.now (e 0) = false) : rel1 ts w z i = z := by
  unfold rel1
  cases he : ts[i.toNat]? with
  | none => rfl
  | some e => dsimp only; rw [if_neg (by rw [h e he]; decide)]
theorem relL_s {ts : List (Nat → Int)} {w : Way} {l : List Int} {z : Cr} {i : Nat} {m : Int} (h : l[i]? = some m) : relL ts w (l.take (i + 1)) z = rel1 ts w (relL ts w (l.take i) z) m := by
  unfold relL; rw [List.take_add_one, h]; simp [List.foldl_append]
/-- The same, task by task. -/
def relN (ts : List (Nat → Int)) (w : Way) (s : BitVec 32) (z : Cr) : Nat → Cr
  | 0 => z
  | n + 1 => if hasB s (n : Int) = true then rel1 ts w (relN ts w s z n) n else relN ts w s z n
theorem relN_eq {ts : List (Nat → Int)} {w : Way} {s : BitVec 32} {z : Cr} : ∀ n, relL ts w (listN s n) z = relN ts w s z n
  | 0 => rfl
  | n + 1 => by
    have ih := relN_eq (ts := ts) (w := w) (s := s) (z := z) n
    unfold listN relL at ih ⊢
    rw [List.range_succ, List.filter_append, List.map_append, List.foldl_append, ih]
    show _ = if hasB s (n : Int) = true then rel1 ts w (relN ts w s z n) n else relN ts w s z n
    by_cases h : hasB s (n : Int) = true
    · rw [if_pos h]; simp [List.filter, h]
    · rw [if_neg h]; simp [List.filter, h]
theorem relN_end {ts : List (Nat → Int)} {w : Way} {s : BitVec 32} {z : Cr} : ∀ d, relN ts w s z (ts.length + d) = relN ts w s z ts.length
  | 0 => rfl
  | d + 1 => by
    show relN ts w s z (ts.length + d + 1) = _
    rw [← relN_end d, relN]
    split
    · refine rel1_no fun e he => ?_
      rw [Int.toNat_natCast] at he
      have := (List.getElem?_eq_some_iff.1 he).1; omega
    · rfl
theorem relA_N {ts : List (Nat → Int)} {w : Way} {s : BitVec 32} {z : Cr} (h : ts.length ≤ 16) : relA ts w s z = relN ts w s z ts.length := by
  have := relN_end (ts := ts) (w := w) (s := s) (z := z) (32 - ts.length)
  rw [show ts.length + (32 - ts.length) = 32 by omega] at this
  rw [← this, ← relN_eq]; rfl
end Go.Proofs.YtkkdchgnknpceaaDoor
end

section
/- How long jobs take: the busy period, as an invariant per tick. Plain. -/
namespace Go.Proofs.YtkkdchgnknpceaaDoor
open Go Go.Sl
set_option linter.unusedVariables false
set_option linter.unusedSimpArgs false
/-! ### Sums -/
def sumI (f : Nat → Int) : Nat → Int
  | 0 => 0
  | n + 1 => sumI f n + f n
theorem sumI_le {f g : Nat → Int} : ∀ n, (∀ j, j < n → f j ≤ g j) → sumI f n ≤ sumI g n
  | 0, _ => Int.le_refl _
  | n + 1, h => by
    have ih := sumI_le n (fun j hj => h j (by omega))
    have := h n (by omega)
    show sumI f n + f n ≤ sumI g n + g n; omega
theorem sumI_ext {f g : Nat → Int} (n : Nat) (h : ∀ j, j < n → f j = g j) : sumI f n = sumI g n := by
  have h1 := sumI_le (f := f) (g := g) n (fun j hj => by rw [h j hj]; exact Int.le_refl _)
  have h2 := sumI_le (f := g) (g := f) n (fun j hj => by rw [h j hj]; exact Int.le_refl _)
  omega
theorem sumI_add {f g : Nat → Int} : ∀ n, sumI (fun j => f j + g j) n = sumI f n + sumI g n
  | 0 => rfl
  | n + 1 => by
    have ih := sumI_add (f := f) (g := g) n
    show sumI _ n + (f n + g n) = sumI f n + f n + (sumI g n + g n); omega
theorem sumI_zero {f : Nat → Int} : ∀ n, (∀ j, j < n → f j = 0) → sumI f n = 0
  | 0, _ => rfl
  | n + 1, h => by
    have ih := sumI_zero n (fun j hj => h j (by omega))
    have := h n (by omega)
    show sumI f n + f n = 0; omega
theorem sumI_ge {f : Nat → Int} : ∀ n, (∀ j, j < n → 0 ≤ f j) → 0 ≤ sumI f n ∧ ∀ j, j < n → f j ≤ sumI f n
  | 0, _ => ⟨Int.le_refl _, fun j hj => by omega⟩
  | n + 1, h => by
    have ih := sumI_ge n (fun j hj => h j (by omega))
    have h0 := h n (by omega)
    have e : sumI f (n + 1) = sumI f n + f n := rfl
    refine ⟨by omega, fun j hj => ?_⟩
    by_cases q : j = n
    · subst q; omega
    · have := ih.2 j (by omega); omega
theorem sumI_one {f g : Nat → Int} {k : Nat} {d : Int} : ∀ n, (∀ j, j < n → j ≠ k → g j = f j) → g k = f k - d → sumI g n = sumI f n - if k < n then d else 0
  | 0, _, _ => by rw [if_neg (by omega)]; show (0 : Int) = 0 - 0; omega
  | n + 1, h, hk => by
    have ih := sumI_one (d := d) n (fun j hj hn => h j (by omega) hn) hk
    show sumI g n + g n = sumI f n + f n - _
    rw [ih]
    by_cases q : n = k
    · subst q; rw [if_neg (by omega), if_pos (by omega), hk]; omega
    · rw [h n (by omega) q]
      by_cases q2 : k < n
      · rw [if_pos q2, if_pos (by omega)]; omega
      · rw [if_neg q2, if_neg (by omega)]; omega
/-! ### Jobs that have come -/
section
variable {ts : List (Nat → Int)} {w : Way} {s : BitVec 32}
abbrev inS (ts : List (Nat → Int)) (s : BitVec 32) (k : Nat) : Prop := hasB s (k : Int) = true ∧ k < ts.length
abbrev tk (ts : List (Nat → Int)) (j : Nat) : Nat → Int := ts.getD j fun _ => 0
theorem tk_at {k : Nat} {e : Nat → Int} (h : ts[k]? = some e) : tk ts k = e := by simp [tk, List.getD, h]
theorem at_tk {k : Nat} (h : k < ts.length) : ts[k]? = some (tk ts k) := by simp [tk, List.getD, h]
structure NewJ (ts : List (Nat → Int)) (w : Way) (P : Nat → Prop) (z z' : Cr) : Prop where
  now : z'.now = z.now
  tab : z'.tab = z.tab
  old : ∀ m, z.L m → z'.L m ∧ z'.jf m = z.jf m
  new : ∀ m, z'.L m → z.L m ∨ (P m ∧ m < ts.length ∧ dueW w m z.now (tk ts m 0) = true ∧ (z'.jf m).rel = z.now ∧ (z'.jf m).done = 0 ∧ 1 ≤ (z'.jf m).cost ∧ (z'.jf m).cost ≤ tk ts m 2 ∧ z'.H m = -1)
theorem NewJ.refl {P : Nat → Prop} {z : Cr} : NewJ ts w P z z := ⟨rfl, rfl, fun m h => ⟨h, rfl⟩, fun m h => .inl h⟩
theorem NewJ.trans {P : Nat → Prop} {z z1 z2 : Cr} (h : NewJ ts w P z z1) (g : NewJ ts w P z1 z2) : NewJ ts w P z z2 := by
  refine ⟨g.now.trans h.now, g.tab.trans h.tab, fun m hm => ?_, fun m hm => ?_⟩
  · have h1 := h.old m hm
    have h2 := g.old m h1.1
    exact ⟨h2.1, h2.2.trans h1.2⟩
  · rcases g.new m hm with q | q
    · rcases h.new m q with p | p
      · exact .inl p
      · have e := (g.old m q).2
        have eh : z2.H m = z1.H m := by show hold _ _ = hold _ _; rw [e]
        rw [e, eh]; exact .inr p
    · rw [h.now] at q; exact .inr q
theorem rel1_sys (hT : TsOk ts) {z : Cr} (h : Sys ts (inS ts s) z) {i : Nat} (hi : hasB s (i : Int) = true) : Sys ts (inS ts s) (rel1 ts w z i) ∧ NewJ ts w (fun m => m = i) z (rel1 ts w z i) := by
  cases he : ts[i]? with
  | none => rw [rel1_no (fun e q => by rw [Int.toNat_natCast, he] at q; cases q)]; exact ⟨h, .refl⟩
  | some e =>
    by_cases hd : dueW w i z.now (e 0) = true
    · obtain ⟨hk, g2, g3, hc, hr⟩ := hT.at_ he
      have hlen : (secJ w e).length ≤ 8 := secs_len (T := e) (cost := costJ w e) _ 0 0 (by decide)
      have hci := costW_in (w := w) (e := e) ⟨hc.1, by omega⟩
      have hcj : 1 ≤ costJ w e ∧ costJ w e ≤ e 2 := by show 1 ≤ min (max _ _) _ ∧ min (max _ _) _ ≤ _; omega
      have e1 : rel1 ts w z i = relC z (JN i z e (costJ w e) (arrS (secJ w e))) (arrS (secJ w e)) := by
        unfold rel1; rw [Int.toNat_natCast, he]; dsimp only; rw [if_pos hd]
      rw [e1]
      have ho : okL e (costJ w e) 0 (arrS (secJ w e)).l := by rw [arrS_l hlen]; exact secs_ok (fun j hj => (hr j hj).1) _ _ _
      obtain ⟨r1, r2, r3, r4, r5⟩ := h.release (k := i) (e := e) (c := costJ w e) (x := arrS (secJ w e)) (a := arrS (secJ w e)) ⟨hi, (List.getElem?_eq_some_iff.1 he).1⟩ he hk ⟨hcj.1, hcj.2, by omega⟩ ho rfl arrS_own
      by_cases q : relErr z (JN i z e (costJ w e) (arrS (secJ w e))) = 0
      · obtain ⟨p1, p2⟩ := r3 q
        refine ⟨p1, p2.now, p2.tab, fun m hm => ⟨(p2.live m).2 (.inl hm), p2.jne (fun c => by subst c; exact p2.no hm)⟩, fun m hm => ?_⟩
        rcases (p2.live m).1 hm with c | rfl
        · exact .inl c
        · right
          have hj := p2.jf
          have hjm : (relC z (JN m z e (costJ w e) (arrS (secJ w e))) (arrS (secJ w e))).jf m = JN m z e (costJ w e) (arrS (secJ w e)) := by rw [hj, upd_same]
          refine ⟨rfl, (List.getElem?_eq_some_iff.1 he).1, by rw [tk_at he]; exact hd, by rw [hjm], by rw [hjm], by rw [hjm]; exact hcj.1, by rw [hjm, tk_at he]; exact hcj.2, ?_⟩
          rw [p2.hk]; exact hold_0 ho
      · rw [r4 q]; exact ⟨h, .refl⟩
    · rw [rel1_no (fun e' q => by rw [Int.toNat_natCast, he] at q; cases q; rw [Int.toNat_natCast]; simpa using hd)]; exact ⟨h, .refl⟩
theorem NewJ.mono {P P' : Nat → Prop} {z z' : Cr} (h : NewJ ts w P z z') (hp : ∀ m, P m → P' m) : NewJ ts w P' z z' :=
  ⟨h.now, h.tab, h.old, fun m hm => (h.new m hm).imp id fun q => ⟨hp m q.1, q.2⟩⟩
theorem relN_sys (hT : TsOk ts) {z : Cr} (h : Sys ts (inS ts s) z) : ∀ n, Sys ts (inS ts s) (relN ts w s z n) ∧ NewJ ts w (fun m => hasB s (m : Int) = true) z (relN ts w s z n)
  | 0 => ⟨h, .refl⟩
  | n + 1 => by
    have ih := relN_sys hT h n
    unfold relN
    by_cases q : hasB s (n : Int) = true
    · rw [if_pos q]
      obtain ⟨a, b⟩ := rel1_sys (w := w) hT ih.1 q
      exact ⟨a, ih.2.trans (b.mono fun m hm => by rw [hm]; exact q)⟩
    · rw [if_neg q]; exact ih
theorem relA_sys (hT : TsOk ts) {z : Cr} (h : Sys ts (inS ts s) z) : Sys ts (inS ts s) (relA ts w s z) ∧ NewJ ts w (fun m => hasB s (m : Int) = true) z (relA ts w s z) := by
  rw [relA_N hT.n]; exact relN_sys hT h _
/-! ### Work that is left, work that may come -/
def wk (z : Cr) (j : Nat) : Int := if z.L j then (z.jf j).cost - (z.jf j).done else 0
abbrev wkS (z : Cr) (n : Nat) : Int := sumI (wk z) n
def dm (ts : List (Nat → Int)) (w : Way) (s : BitVec 32) (b t : Nat) (j : Nat) : Int := if inS ts s j then tk ts j 2 * ((dueN w j (tk ts j 0) t : Int) - (dueN w j (tk ts j 0) b : Int)) else 0
abbrev dmS (ts : List (Nat → Int)) (w : Way) (s : BitVec 32) (b t n : Nat) : Int := sumI (dm ts w s b t) n
theorem wk_nn {z : Cr} (h : Sys ts (inS ts s) z) (j : Nat) : 0 ≤ wk z j ∧ (z.L j → 1 ≤ wk z j) := by
  unfold wk
  by_cases q : z.L j
  · obtain ⟨e, _, _, hd, _⟩ := h.task q
    rw [if_pos q]; exact ⟨by omega, fun _ => by omega⟩
  · rw [if_neg q]; exact ⟨by omega, fun c => absurd c q⟩
/-- Nobody of the first, if there is no work. -/
theorem wk_no {z : Cr} (h : Sys ts (inS ts s) z) {n : Nat} (hw : wkS z n ≤ 0) : ∀ j, j < n → ¬ z.L j := fun j hj q => by
  have h1 := (sumI_ge n (fun j _ => (wk_nn h j).1)).2 j hj
  have h2 := (wk_nn h j).2 q
  have hw : sumI (wk z) n ≤ 0 := hw
  omega
theorem wk_zero {z : Cr} {n : Nat} (h : ∀ j, j < n → ¬ z.L j) : wkS z n = 0 := sumI_zero n fun j hj => by unfold wk; rw [if_neg (h j hj)]
theorem work_rel (hT : TsOk ts) {z z' : Cr} {t b : Nat} (hn : z.now = t) (h : NewJ ts w (fun m => hasB s (m : Int) = true) z z') (n : Nat) : wkS z' n + dmS ts w s b t n ≤ wkS z n + dmS ts w s b (t + 1) n := by
  rw [← sumI_add, ← sumI_add]
  refine sumI_le n fun j hj => ?_
  have hdm : dm ts w s b t j ≤ dm ts w s b (t + 1) j ∧ (inS ts s j → dueW w j t (tk ts j 0) = true → dm ts w s b (t + 1) j = dm ts w s b t j + tk ts j 2) := by
    unfold dm
    by_cases q : inS ts s j
    · obtain ⟨_, g2, _, hc, _⟩ := hT.at_ (at_tk q.2)
      rw [if_pos q, if_pos q, dueN_s g2.1]
      by_cases d : dueW w j t (tk ts j 0) = true
      · rw [if_pos d, show ((dueN w j (tk ts j 0) t + 1 : Nat) : Int) - (dueN w j (tk ts j 0) b : Int) = ((dueN w j (tk ts j 0) t : Int) - (dueN w j (tk ts j 0) b : Int)) + 1 by omega, Int.mul_add, Int.mul_one]
        exact ⟨by omega, fun _ _ => rfl⟩
      · rw [if_neg d]; exact ⟨Int.le_refl _, fun _ c => absurd c d⟩
    · rw [if_neg q, if_neg q]; exact ⟨Int.le_refl _, fun c => absurd c q⟩
  by_cases q : z.L j
  · obtain ⟨o1, o2⟩ := h.old j q
    have : wk z' j = wk z j := by unfold wk; rw [if_pos q, if_pos o1, o2]
    omega
  · by_cases q' : z'.L j
    · obtain ⟨p1, p2, p3, p4, p5, p6, p7, _⟩ := (h.new j q').resolve_left q
      rw [hn] at p3
      have := hdm.2 ⟨p1, p2⟩ p3
      have e1 : wk z j = 0 := by unfold wk; rw [if_neg q]
      have e2 : wk z' j = (z'.jf j).cost := by unfold wk; rw [if_pos q', p5]; omega
      omega
    · have e1 : wk z j = 0 := by unfold wk; rw [if_neg q]
      have e2 : wk z' j = 0 := by unfold wk; rw [if_neg q']
      omega
theorem work_tick {z z' : Cr} {k : Nat} (h : Sys ts (inS ts s) z) (t : Ticked z z' k) (n : Nat) : wkS z' n = wkS z n - if k < n then 1 else 0 := by
  refine sumI_one n (fun j hj hn => ?_) ?_
  · unfold wk
    by_cases q : z.L j
    · rw [if_pos q, if_pos ((t.live j).2 ⟨q, fun c => absurd c hn⟩), t.jne hn]
    · rw [if_neg q, if_neg (fun c => q ((t.live j).1 c).1)]
  · obtain ⟨e, _, _, hd, _⟩ := h.task t.g.l
    unfold wk
    rw [if_pos t.g.l]
    by_cases q : (z.jf k).done + 1 < (z.jf k).cost
    · rw [if_pos ((t.live k).2 ⟨t.g.l, fun _ => q⟩), t.jk]; show (z.jf k).cost - ((z.jf k).done + 1) = _; omega
    · rw [if_neg (fun c => q (((t.live k).1 c).2 rfl))]; omega
/-! ### The busy period of a task and those ahead of it -/
structure BusyP (ts : List (Nat → Int)) (w : Way) (s : BitVec 32) (i R : Nat) (z : Cr) (t b : Nat) (blk : Int) : Prop where
  now : z.now = t
  le : b ≤ t
  lt : t < b + R
  work : wkS z (i + 1) + ((t : Int) - b) ≤ dmS ts w s b t (i + 1) + blk
  blk0 : 0 ≤ blk
  blkB : blk ≤ blkV ts s s i
  held : ∀ k, i < k → z.L k → 0 ≤ z.H k → z.eff k ≤ (i : Int) → blk + remL (z.jf k).secs.l (z.jf k).done ≤ blkV ts s s i
  rel : ∀ j, j ≤ i → z.L j → (b : Int) ≤ (z.jf j).rel
theorem TsOk.small (hT : TsOk ts) : ∀ e ∈ ts, ∀ r : Nat, r < 8 → e (3 + r) ≤ 4096 := fun e he r hr => by
  obtain ⟨g1, g2, g3, g4⟩ := hT.ok e he; have := g4 r hr; omega
theorem rem_blk (hT : TsOk ts) {z : Cr} (h : Sys ts (inS ts s) z) (tb : z.tab = ceilF ts s) {i k : Nat} (hw : i < k) (hk : z.L k) (hh : 0 ≤ z.H k) (he : z.eff k ≤ (i : Int)) : remL (z.jf k).secs.l (z.jf k).done ≤ blkV ts s s i := by
  obtain ⟨e, r, h1, h8, h3, h4, h5, h6, h7⟩ := h.held hk hh
  have hc : ceilV ts s r ≤ (i : Int) := by
    have : z.tab r ≤ (i : Int) := by rw [← h6]; exact he
    rw [tb] at this; exact this
  have := blk_ge (h := s) (c := s) hT.small h1 hw (h.al k hk).1.1 hc (n := 8) (Nat.le_refl _) h8
  show _ ≤ blkN ts s s i 8
  omega
theorem busy_reset (hT : TsOk ts) {z : Cr} (h : Sys ts (inS ts s) z) (tb : z.tab = ceilF ts s) {i R t : Nat} (hR : 1 ≤ R) (hn : z.now = t) (hl : ∀ j, j < i + 1 → ¬ z.L j) : BusyP ts w s i R z t t 0 := by
  have hb := (blkN_in (h := s) (c := s) (w := i) hT.small 8 (Nat.le_refl _)).1
  refine ⟨hn, Nat.le_refl _, by omega, ?_, Int.le_refl _, hb, fun k hk hl hh he => by rw [Int.zero_add]; exact rem_blk hT h tb hk hl hh he, fun j hj hj' => absurd hj' (hl j (by omega))⟩
  rw [wk_zero hl, show dmS ts w s t t (i + 1) = 0 from sumI_zero _ fun j _ => by unfold dm; split <;> simp]
  omega
/-- What a response is. -/
structure RespP (ts : List (Nat → Int)) (s : BitVec 32) (i R : Nat) : Prop where
  one : 1 ≤ R
  per : (R : Int) ≤ tk ts i 1
  fix : tk ts i 2 + blkV ts s s i + sumI (fun j => if inS ts s j then tk ts j 2 * (cd R (tk ts j 0).toNat : Int) else 0) i ≤ R
theorem dm_R (hT : TsOk ts) {i R b : Nat} (hi : inS ts s i) (hR : RespP ts s i R) : dmS ts w s b (b + R) (i + 1) + blkV ts s s i ≤ R := by
  have h1 : dmS ts w s b (b + R) i ≤ sumI (fun j => if inS ts s j then tk ts j 2 * (cd R (tk ts j 0).toNat : Int) else 0) i := sumI_le i fun j hj => by
    unfold dm
    by_cases q : inS ts s j
    · obtain ⟨_, g2, _, hc, _⟩ := hT.at_ (at_tk q.2)
      rw [if_pos q, if_pos q]
      have := dueN_add (w := w) (i := j) (p := tk ts j 0) g2.1 b R
      exact Int.mul_le_mul_of_nonneg_left (by omega) (by omega)
    · rw [if_neg q, if_neg q]; exact Int.le_refl _
  have h2 : dm ts w s b (b + R) i ≤ tk ts i 2 := by
    obtain ⟨_, g2, g3, hc, _⟩ := hT.at_ (at_tk hi.2)
    unfold dm
    rw [if_pos hi]
    have h1 := dueN_add (w := w) (i := i) (p := tk ts i 0) g2.1 b R
    have h3 : cd R (tk ts i 0).toNat = 1 := cd_one hR.one (by have := hR.per; omega)
    rw [h3] at h1
    have := Int.mul_le_mul_of_nonneg_left (show (dueN w i (tk ts i 0) (b + R) : Int) - (dueN w i (tk ts i 0) b : Int) ≤ 1 by omega) (show 0 ≤ tk ts i 2 by omega)
    omega
  have := hR.fix
  show sumI _ i + dm ts w s b (b + R) i + _ ≤ _
  have h1 : sumI (dm ts w s b (b + R)) i ≤ _ := h1
  omega
theorem busy_step (hT : TsOk ts) {z : Cr} (h : Sys ts (inS ts s) z) (tb : z.tab = ceilF ts s) {i R t b : Nat} {blk : Int} (hi : inS ts s i) (hR : RespP ts s i R) (hb : BusyP ts w s i R z t b blk) (ht : t < 1000000000) :
    (∃ b' blk', BusyP ts w s i R (tickC (relA ts w s z)).1 (t + 1) b' blk') ∧ ((tickC (relA ts w s z)).2.task = i → (tickC (relA ts w s z)).2.over = true → (tickC (relA ts w s z)).2.within ≤ R ∧ (tickC (relA ts w s z)).2.late = false) := by
  obtain ⟨h1, hnw⟩ := relA_sys (w := w) hT h
  have hwr := work_rel (b := b) hT hb.now hnw (i + 1)
  generalize relA ts w s z = z1 at h1 hnw hwr
  have hnow1 : z1.now = t := by rw [hnw.now, hb.now]
  have tb1 : z1.tab = ceilF ts s := by rw [hnw.tab]; exact tb
  -- behind the releases
  have hheld : ∀ k, i < k → z1.L k → 0 ≤ z1.H k → z1.eff k ≤ (i : Int) → blk + remL (z1.jf k).secs.l (z1.jf k).done ≤ blkV ts s s i := fun k hk hl hh he => by
    rcases hnw.new k hl with q | q
    · have e := (hnw.old k q).2
      have eh : z1.H k = z.H k := by show hold _ _ = hold _ _; rw [e]
      have ee : z1.eff k = z.eff k := by show levelV _ _ _ = levelV _ _ _; rw [hnw.tab, eh]
      rw [e]; exact hb.held k hk q (by omega) (by omega)
    · have := q.2.2.2.2.2.2.2; omega
  have hrel : ∀ j, j ≤ i → z1.L j → (b : Int) ≤ (z1.jf j).rel := fun j hj hl => by
    rcases hnw.new j hl with q | q
    · rw [(hnw.old j q).2]; exact hb.rel j hj q
    · have := q.2.2.2.1; have := hb.now; have := hb.le; omega
  obtain ⟨h2, hor⟩ := h1.tick_or (by omega)
  have hreset : (∀ j, j < i + 1 → ¬ (tickC z1).1.L j) → (tickC z1).1.now = ((t + 1 : Nat) : Int) → (tickC z1).1.tab = ceilF ts s → ∃ b' blk', BusyP ts w s i R (tickC z1).1 (t + 1) b' blk' := fun q n tb2 => ⟨_, _, busy_reset hT h2 tb2 hR.one n q⟩
  rcases hor with ⟨k, tt, told⟩ | ⟨hno, htk⟩
  · have n2 : (tickC z1).1.now = ((t + 1 : Nat) : Int) := by rw [tt.now, hnow1]; omega
    have tb2 : (tickC z1).1.tab = ceilF ts s := by rw [tt.tab]; exact tb1
    have hwt := work_tick h1 tt (i + 1)
    refine ⟨?_, fun q1 q2 => ?_⟩
    · by_cases hl : ∃ j, j < i + 1 ∧ z1.L j
      · obtain ⟨j, hj, hjl⟩ := hl
        -- somebody of the first is there: what runs counts
        have key : ∃ blk', 0 ≤ blk' ∧ blk' ≤ blkV ts s s i ∧ wkS (tickC z1).1 (i + 1) + (((t + 1 : Nat) : Int) - b) ≤ dmS ts w s b (t + 1) (i + 1) + blk' ∧ ∀ k, i < k → (tickC z1).1.L k → 0 ≤ (tickC z1).1.H k → (tickC z1).1.eff k ≤ (i : Int) → blk' + remL ((tickC z1).1.jf k).secs.l ((tickC z1).1.jf k).done ≤ blkV ts s s i := by
          by_cases hk : k < i + 1
          · rw [if_pos hk] at hwt
            refine ⟨blk, hb.blk0, hb.blkB, by have := hb.work; omega, fun m hm hl hh he => ?_⟩
            have hne : m ≠ k := by omega
            have e := tt.hne hne
            rw [tt.jne hne]
            exact hheld m hm ((tt.live m).1 hl).1 (by omega) (by omega)
          · rw [if_neg hk] at hwt
            obtain ⟨o1, o2⟩ := tt.g.over h1.ok hjl (by omega)
            have g1 := hheld k (by omega) tt.g.l o1 (by omega)
            have g2 := rem_pos o1
            refine ⟨blk + 1, by have := hb.blk0; omega, by omega, by have := hb.work; omega, fun m hm hl hh he => ?_⟩
            have hmk : m = k := by
              refine Classical.byContradiction fun hne => ?_
              have e := tt.hne hne
              exact hne (h1.one (w := i) (p := m) (q := k) ((tt.live m).1 hl).1 tt.g.l hm (by omega) (by omega) o1 (by omega) (by omega))
            subst hmk
            obtain ⟨e, _, hok, _⟩ := h1.task tt.g.l
            rw [tt.hk] at hh
            have g3 := rem_step hok hh o1
            rw [tt.jk]
            show blk + 1 + remL (z1.jf m).secs.l ((z1.jf m).done + 1) ≤ _
            rw [g3]
            have : z1.H m = hold (z1.jf m).secs.l (z1.jf m).done := rfl
            omega
        obtain ⟨blk', k0, k1, k2, k3⟩ := key
        by_cases hlt : t + 1 < b + R
        · refine ⟨b, blk', n2, by have := hb.le; omega, hlt, k2, k0, k1, k3, fun m hm hl => ?_⟩
          have hl' := ((tt.live m).1 hl).1
          by_cases hne : m = k
          · subst hne; rw [tt.jk]; exact hrel m hm hl'
          · rw [tt.jne hne]; exact hrel m hm hl'
        · have e : t + 1 = b + R := by have := hb.lt; omega
          have hd := dm_R (w := w) (b := b) hT hi hR
          rw [← e] at hd
          exact hreset (wk_no h2 (by omega)) n2 tb2
      · have hz := wk_zero (z := z1) (n := i + 1) (fun j hj q => hl ⟨j, hj, q⟩)
        exact hreset (fun j hj q => hl ⟨j, hj, ((tt.live j).1 q).1⟩) n2 tb2
    · have hki : k = i := by have := told.task; omega
      subst hki
      have hr := hrel k (Nat.le_refl _) tt.g.l
      have hw := told.within
      rw [if_pos q2] at hw
      have hlt := hb.lt
      have hdl := told.late
      rw [q2, Bool.true_and] at hdl
      obtain ⟨e, he, _, _, _, hd, _⟩ := h1.task tt.g.l
      have hper := hR.per
      rw [tk_at he] at hper
      exact ⟨by omega, by rw [hdl]; exact decide_eq_false (by omega)⟩
  · have e1 : (tickC z1).1 = { z1 with now := z1.now + 1 } := by rw [htk]
    have e2 : (tickC z1).2.task = -1 := by rw [htk]
    refine ⟨hreset (fun j _ q => hno j (by rw [e1] at q; exact q)) (by rw [e1]; show z1.now + 1 = _; omega) (by rw [e1]; exact tb1), fun q => by rw [e2] at q; omega⟩
/-! ### From the beginning -/
theorem sim_sys (hT : TsOk ts) : ∀ n : Nat, n ≤ 100000000 → Sys ts (inS ts s) (simC ts w s n) ∧ (simC ts w s n).tab = ceilF ts s ∧ (simC ts w s n).now = n
  | 0, _ => by
    refine ⟨Sys.zero (fun r _ => ⟨(ceilV_least ts s r).range.1, (ceilV_least ts s r).range.2⟩) fun k e ha he r hr hu => ?_, rfl, rfl⟩
    refine (ceilV_least ts s r).le k (hT.at_ he).1 ?_
    rw [hit_of he, ha.1]; simpa [usesT] using hu
  | n + 1, hn => by
    obtain ⟨i1, i2, i3⟩ := sim_sys hT n (by omega)
    obtain ⟨h1, hnw⟩ := relA_sys (w := w) hT i1
    obtain ⟨h2, hor⟩ := h1.tick_or (by rw [hnw.now, i3]; omega)
    refine ⟨h2, ?_⟩
    show (tickC (relA ts w s (simC ts w s n))).1.tab = _ ∧ (tickC (relA ts w s (simC ts w s n))).1.now = _
    rcases hor with ⟨k, tt, told⟩ | ⟨hno, htk⟩
    · rw [tt.tab, tt.now, hnw.tab, hnw.now, i2, i3]; exact ⟨rfl, by omega⟩
    · rw [htk]; show (relA ts w s (simC ts w s n)).tab = _ ∧ (relA ts w s (simC ts w s n)).now + 1 = _
      rw [hnw.tab, hnw.now, i2, i3]; exact ⟨rfl, by omega⟩
theorem no_job {t : Nat → Int} (m : Nat) : ¬ (ceilC cr0 t).L m := fun hm => by
  have hm : hasB 0#32 (m : Int) = true := hm
  simp [hasB] at hm
theorem sim_busy (hT : TsOk ts) {i R : Nat} (hi : inS ts s i) (hR : RespP ts s i R) : ∀ n : Nat, n ≤ 1000000 → ∃ b blk, BusyP ts w s i R (simC ts w s n) n b blk
  | 0, _ => by
    obtain ⟨i1, i2, i3⟩ := sim_sys (w := w) (s := s) hT 0 (by omega)
    exact ⟨_, _, busy_reset hT i1 i2 hR.one i3 fun j _ => no_job j⟩
  | n + 1, hn => by
    obtain ⟨i1, i2, i3⟩ := sim_sys (w := w) (s := s) hT n (by omega)
    obtain ⟨b, blk, hb⟩ := sim_busy hT hi hR n (by omega)
    exact (busy_step hT i1 i2 hi hR hb (by omega)).1
/-- NO LONGER THAN THAT. -/
theorem ran_bound (hT : TsOk ts) {i R : Nat} (hi : inS ts s i) (hR : RespP ts s i R) {n : Nat} (hn : n ≤ 1000000) (h1 : (ranC ts w s n).task = i) (h2 : (ranC ts w s n).over = true) : (ranC ts w s n).within ≤ R ∧ (ranC ts w s n).late = false := by
  obtain ⟨i1, i2, i3⟩ := sim_sys (w := w) (s := s) hT n (by omega)
  obtain ⟨b, blk, hb⟩ := sim_busy (w := w) hT hi hR n hn
  exact (busy_step hT i1 i2 hi hR hb (by omega)).2 h1 h2
/-- Who runs is of the set. -/
theorem ran_in (hT : TsOk ts) {n : Nat} (hn : n ≤ 1000000) : (∃ k : Nat, (ranC ts w s n).task = k ∧ inS ts s k ∧ ((ranC ts w s n).over = true → 1 ≤ (ranC ts w s n).within)) ∨ ((ranC ts w s n).task = -1 ∧ (ranC ts w s n).over = false) := by
  obtain ⟨i1, i2, i3⟩ := sim_sys (w := w) (s := s) hT n (by omega)
  obtain ⟨h1, hnw⟩ := relA_sys (w := w) hT i1
  obtain ⟨h2, hor⟩ := h1.tick_or (by rw [hnw.now, i3]; omega)
  rcases hor with ⟨k, tt, told⟩ | ⟨hno, htk⟩
  · left
    refine ⟨k, told.task, ⟨(h1.al k tt.g.l).1.1, (h1.al k tt.g.l).2⟩, fun q => ?_⟩
    have := told.within
    have q : (tickC (relA ts w s (simC ts w s n))).2.over = true := q
    rw [if_pos q] at this
    obtain ⟨_, _, _, _, _, _, hr⟩ := h1.task tt.g.l
    show 1 ≤ (tickC (relA ts w s (simC ts w s n))).2.within
    omega
  · right
    show (tickC (relA ts w s (simC ts w s n))).2.task = -1 ∧ (tickC (relA ts w s (simC ts w s n))).2.over = false
    rw [htk]; exact ⟨rfl, rfl⟩
/-! ### Nobody at last -/
theorem sim_full (hT : TsOk ts) : ∀ n : Nat, n ≤ 1000000 → (∀ u, u < n → (ranC ts w s u).task ≠ -1) → wkS (simC ts w s n) 16 + n ≤ dmS ts w s 0 n 16
  | 0, _, _ => by
    rw [show wkS (simC ts w s 0) 16 = 0 from wk_zero fun j _ => no_job j, show dmS ts w s 0 0 16 = 0 from sumI_zero _ fun j _ => by unfold dm; split <;> simp]; omega
  | n + 1, hn, hu => by
    have ih := sim_full hT n (by omega) fun u h => hu u (by omega)
    obtain ⟨i1, i2, i3⟩ := sim_sys (w := w) (s := s) hT n (by omega)
    obtain ⟨h1, hnw⟩ := relA_sys (w := w) hT i1
    have hwr := work_rel (b := 0) hT i3 hnw 16
    obtain ⟨h2, hor⟩ := h1.tick_or (by rw [hnw.now, i3]; omega)
    rcases hor with ⟨k, tt, told⟩ | ⟨hno, htk⟩
    · have hwt := work_tick h1 tt 16
      rw [if_pos tt.g.lt] at hwt
      show wkS (tickC (relA ts w s (simC ts w s n))).1 16 + _ ≤ _
      omega
    · exact absurd (show (tickC (relA ts w s (simC ts w s n))).2.task = -1 by rw [htk]) (hu n (by omega))
theorem sim_idle (hT : TsOk ts) {n : Nat} (hn : n ≤ 100000) (h : sumI (fun j => if inS ts s j then tk ts j 2 * ((cd n (tk ts j 0).toNat : Int) + 1) else 0) 16 ≤ n) : ∃ u, u ≤ n ∧ (ranC ts w s u).task = -1 := by
  refine Classical.byContradiction fun hc => ?_
  have h1 := sim_full (w := w) (s := s) hT (n + 1) (by omega) fun u hu q => hc ⟨u, by omega, q⟩
  obtain ⟨i1, _, _⟩ := sim_sys (w := w) (s := s) hT (n + 1) (by omega)
  have h2 := (sumI_ge 16 (fun j _ => (wk_nn i1 j).1)).1
  have h3 : dmS ts w s 0 (n + 1) 16 ≤ sumI (fun j => if inS ts s j then tk ts j 2 * ((cd n (tk ts j 0).toNat : Int) + 1) else 0) 16 := sumI_le 16 fun j hj => by
    unfold dm
    by_cases q : inS ts s j
    · obtain ⟨_, g2, _, hc, _⟩ := hT.at_ (at_tk q.2)
      rw [if_pos q, if_pos q, dueN_0 g2.1]
      have a1 := dueN_le (w := w) (i := j) g2.1 (n + 1)
      have a2 := cd_s (u := n) (T := (tk ts j 0).toNat) (by omega)
      refine Int.mul_le_mul_of_nonneg_left ?_ (by omega)
      split at a2 <;> omega
    · rw [if_neg q, if_neg q]; exact Int.le_refl _
  have h2 : 0 ≤ wkS (simC ts w s (n + 1)) 16 := h2
  omega
end
end Go.Proofs.YtkkdchgnknpceaaDoor
end

section
namespace Go.Proofs.YtkkdchgnknpceaaDoor
open Go Go.Sl
set_option linter.unusedVariables false
set_option linter.unusedSimpArgs false
set_option maxRecDepth 4000
variable {B : Nat} {K : Asrt B}
theorem bld_123 : bldOf Tryd.prog 123 = some ([.int .i64 0, .int .i64 0, .int .i64 0], [(0, 1), (1, 1), (2, 1)]) := by kernel_rfl
theorem fld_81_0 : fldOff Tryd.prog 81 0 = some 0 := by kernel_rfl
theorem fld_81_1 : fldOff Tryd.prog 81 1 = some 16 := by kernel_rfl
theorem zero_39 : zeroOf Tryd.prog 39 = some [.slice none 0 0] := by kernel_rfl

abbrev encWay (w : Way) : List Value := rowI 16 w.ph ++ [.int .i64 w.part]
structure WayOk (w : Way) : Prop where
  ph : ∀ k, k < 16 → -9223372036854775808 ≤ w.ph k ∧ w.ph k ≤ 9223372036854775807
theorem way_ph {w : Way} {k : Nat} (h : k < 16) : (encWay w)[0 + k * 1]? = some (.int .i64 (w.ph k)) := app_get1 (r16_get h)
theorem way_part {w : Way} : (encWay w)[16]? = some (.int .i64 w.part) := app_get2 (n := 16) (k := 0) (rowF_len _ _ _) rfl
theorem way_len {w : Way} : (encWay w).length = 17 := by simp [rowF_len]
theorem cost_wrap {x : Int} (h : 0 ≤ x ∧ x ≤ 4096000) : Int.tdiv (x + 999) 1000 = (x + 999) / 1000 := Int.tdiv_eq_ediv_of_nonneg (by omega)
theorem dueW_t {w : Way} {k : Nat} {now p : Int} (h : 0 ≤ now - max (w.ph k) 0) : Value.bool (decide (Int.tmod (now - max (w.ph k) 0) p = 0)) = .bool (dueW w k now p) := by unfold dueW; rw [decide_eq_true h, Bool.true_and]
theorem dueW_f {w : Way} {k : Nat} {now p : Int} (h : now - max (w.ph k) 0 < 0) : Value.bool false = .bool (dueW w k now p) := by unfold dueW; rw [decide_eq_false (by omega), Bool.false_and]
theorem secW_in {e : Nat → Int} {cost : Int} (h : 0 ≤ cost) : ∀ n, 0 ≤ (secW e cost n).2 ∧ (secW e cost n).2 ≤ cost
  | 0 => by unfold secW; exact ⟨Int.le_refl _, h⟩
  | n + 1 => by
    have ih := secW_in (e := e) h n
    cases hq : (usesL e 8)[n]? with
    | none =>
      have := List.getElem?_eq_none_iff.1 hq
      unfold secW at ih ⊢
      rw [List.take_of_length_le (by omega)]; rw [List.take_of_length_le (by omega)] at ih; exact ih
    | some q =>
      have := usesL_mem (List.mem_of_getElem? hq)
      rw [secW_s hq]; unfold stepW; split
      · exact ih
      · show 0 ≤ min _ _ ∧ min _ _ ≤ _; omega
theorem secX_in {e : Nat → Int} {cost : Int} (h : 0 ≤ cost ∧ cost ≤ 4096) (he : ∀ r : Nat, r < 8 → e (3 + r) ≤ 4096) : ∀ n, n ≤ 8 → 0 ≤ (secX e cost n).2 ∧ (secX e cost n).2 ≤ 8192
  | 0, _ => by show (0 : Int) ≤ 0 ∧ (0 : Int) ≤ 8192; omega
  | n + 1, hn => by
    have ih := secX_in (e := e) h he n (by omega)
    by_cases g : 0 < e (3 + n) ∧ (secX e cost n).2 < cost
    · have := he n (by omega); rw [secX_t g.1 g.2]; show 0 ≤ _ + _ ∧ _ + _ ≤ (8192 : Int); omega
    · rw [secX_f g]; exact ih
theorem stepW_f {cost : Int} {p : List Sec × Int} {q : Nat × Int} (h : p.2 < cost) : stepW cost p q = (p.1 ++ [((q.1 : Int), p.2, min (p.2 + q.2) cost)], min (p.2 + q.2) cost) := by unfold stepW; rw [if_neg (by omega)]
theorem secW_end {e : Nat → Int} {cost : Int} {i : Nat} (hi : i < (usesL e 8).length) (h : cost ≤ (secW e cost i).2) : (secW e cost i).1 = secWl e cost := by
  have := secW_stop (e := e) h ((usesL e 8).length - i)
  rw [show i + ((usesL e 8).length - i) = (usesL e 8).length by omega] at this
  show _ = (secW e cost (usesL e 8).length).1; rw [this]

theorem wdue (w : Way) (hw : WayOk w) (k : Nat) (hk : k < 16) (now p : Int) (hn : 0 ≤ now ∧ now ≤ 1000000000) (hp : 1 ≤ p) : Ctr Tryd.prog B 92 [.agg (encWay w).toArray, .int .i64 (k : Int), .int .i64 now, .int .i64 p] [] (fun v S => v = .bool (dueW w k now p) ∧ S = []) := by
  refine Ctr_of_X (N := 25) Tryd.func92 rfl (by simp) rfl ?_
  intro w0 D0
  have hph := hw.ph k hk
  refine X_seq ?_
  refine X_region ?_
  refine XL_box (cs := encWay w) .no rfl rfl rfl (fun b1 => ?_)
  refine XL_det .no (D_pure rfl) rfl ?_
  refine XL_then ?_
  refine X_seq ?_
  refine X_region ?_
  refine XL_det .no (D_pure rfl) rfl ?_
  refine XL_det .no (D_pure rfl) rfl ?_
  refine XL_det .no (D_fld rfl fld_81_0 (o' := 0) rfl) rfl ?_
  refine XL_det .no (D_idxA rfl rfl arr_38 rfl (by omega) rfl) rfl ?_
  refine XL_det .no (D_ldo (v := .int .i64 (w.ph k)) rfl (by with_reducible repeat first | exact .here _ _ | apply Out.there | apply Out.app) tk_3 (way_ph hk)) rfl ?_
  refine XL_det .no (D_max rfl rfl) rfl ?_
  refine XL_det .no (D_sub rfl rfl (by omega) (by omega)) rfl ?_
  refine XL_det .no (D_pure rfl) rfl ?_
  refine XL_then ?_
  refine X_seq ?_
  refine X_region ?_
  refine XL_det .no (D_pure rfl) rfl ?_
  refine XL_det .no (D_pure rfl) rfl ?_
  refine XL_det .no (D_pure rfl) rfl ?_
  refine XL_split (t := 19) rfl (fun h1 => ?_) (fun h1 => ?_)
  · try simp only [decide_eq_true_eq, decide_eq_false_iff_not, Bool.not_eq_true', Bool.not_eq_false', beq_iff_eq, bne_iff_ne, beq_eq_false_iff_ne, bne_eq_false_iff_eq, Int.not_lt, Int.not_le, gt_iff_lt, ge_iff_le, ne_eq] at h1
    refine XL_det (.yes 19 rfl rfl rfl) (D_pure rfl) rfl ?_
    refine XL_det (.yes 19 rfl rfl rfl) (D_pure rfl) rfl ?_
    refine XL_det (.yes 19 rfl rfl rfl) (D_divmod rfl rfl (by omega) rfl) rfl ?_
    refine XL_det (.yes 19 rfl rfl rfl) (D_pure rfl) rfl ?_
    refine XL_det .no (D_pure rfl) rfl ?_
    refine XL_det .no (D_pure rfl) rfl ?_
    refine XL_then ?_
    refine X_ret ?_
    refine ret_ok (.nil _) (res_tmp rfl rfl) ?_
    exact ⟨_, ⟨dueW_t h1, rfl⟩, _, (by with_reducible repeat first | exact .nil _ | exact .here _ _ | exact Take.self _ | apply Take.cons | apply Out.there | apply Take.skip | exact Take.pre _ _ | apply Out.app)⟩
  · try simp only [decide_eq_true_eq, decide_eq_false_iff_not, Bool.not_eq_true', Bool.not_eq_false', beq_iff_eq, bne_iff_ne, beq_eq_false_iff_ne, bne_eq_false_iff_eq, Int.not_lt, Int.not_le, gt_iff_lt, ge_iff_le, ne_eq] at h1
    refine XL_skip 19 rfl rfl rfl rfl rfl ?_
    refine XL_skip 19 rfl rfl rfl rfl rfl ?_
    refine XL_skip 19 rfl rfl rfl rfl rfl ?_
    refine XL_skip 19 rfl rfl rfl rfl rfl ?_
    refine XL_det .no (D_pure rfl) rfl ?_
    refine XL_det .no (D_pure rfl) rfl ?_
    refine XL_then ?_
    refine X_ret ?_
    refine ret_ok (.nil _) (res_tmp rfl rfl) ?_
    exact ⟨_, ⟨dueW_f h1, rfl⟩, _, (by with_reducible repeat first | exact .nil _ | exact .here _ _ | exact Take.self _ | apply Take.cons | apply Out.there | apply Take.skip | exact Take.pre _ _ | apply Out.app)⟩

theorem wcost (w : Way) (e : Nat → Int) (he : 1 ≤ e 2 ∧ e 2 ≤ 4096) : Ctr Tryd.prog B 93 [.agg (encWay w).toArray, tV e] [] (fun v S => v = .int .i64 (costW w e) ∧ S = []) := by
  refine Ctr_of_X (N := 17) Tryd.func93 rfl (by simp) rfl ?_
  intro w0 D0
  have hcc : 0 ≤ e 2 * min (max w.part 0) 1000 ∧ e 2 * min (max w.part 0) 1000 ≤ 4096000 := (costW_in (w := w) he).2.2
  have hq := cost_wrap hcc
  refine X_seq ?_
  refine X_region ?_
  refine XL_box (cs := encWay w) .no rfl rfl rfl (fun b1 => ?_)
  refine XL_box (cs := encT e) .no rfl rfl rfl (fun b2 => ?_)
  refine XL_det .no (D_pure rfl) rfl ?_
  refine XL_then ?_
  refine X_seq ?_
  refine X_region ?_
  refine XL_det .no (D_fld rfl fld_81_1 (o' := 16) rfl) rfl ?_
  refine XL_det .no (D_ldo (v := .int .i64 w.part) rfl (by with_reducible repeat first | exact .here _ _ | apply Out.there | apply Out.app) tk_3 (way_part)) rfl ?_
  refine XL_det .no (D_max rfl rfl) rfl ?_
  refine XL_det .no (D_min rfl rfl) rfl ?_
  refine XL_det .no (D_pure rfl) rfl ?_
  refine XL_then ?_
  refine X_seq ?_
  refine X_region ?_
  refine XL_det .no (D_fld rfl fld_48_2 (o' := 2) rfl) rfl ?_
  refine XL_det .no (D_ldo rfl (by with_reducible repeat first | exact .here _ _ | apply Out.there | apply Out.app) tk_3 (by rfl)) rfl ?_
  refine XL_det .no (D_pure rfl) rfl ?_
  refine XL_det .no (D_mul (m := e 2) (n := min (max w.part 0) 1000) rfl rfl (by omega) (by omega)) rfl ?_
  refine XL_det .no (D_add rfl rfl (by omega) (by omega)) rfl ?_
  refine XL_det .no (D_divmod rfl rfl (by omega) rfl) rfl ?_
  refine XL_det .no (D_max rfl rfl) rfl ?_
  refine XL_det .no (D_pure rfl) rfl ?_
  refine XL_then ?_
  refine X_ret ?_
  refine ret_ok (.nil _) (res_tmp rfl rfl) ?_
  exact ⟨_, ⟨by rw [i64_in' (by rw [hq]; omega) (by rw [hq]; omega)]; rfl, rfl⟩, _, (by with_reducible repeat first | exact .nil _ | exact .here _ _ | exact Take.self _ | apply Take.cons | apply Out.there | apply Take.skip | exact Take.pre _ _ | apply Out.app)⟩

theorem wsec (e : Nat → Int) (cost : Int) (hc : 0 ≤ cost ∧ cost ≤ 4096) (he : ∀ r : Nat, r < 8 → e (3 + r) ≤ 4096) : Ctr Tryd.prog B 94 [tV e, .int .i64 cost] [] (fun v S => ∃ x : Arr Sec, (x.l = secWl e cost ∧ x.Own) ∧ v = x.v ∧ S = [row (.slice x.oad x.l.length x.c) 123 3 x.l.length (x.l.flatMap encS)]) := by
  refine Ctr_of_X (N := 31) Tryd.func94 rfl (by simp) rfl ?_
  intro w0 D0
  refine X_seq ?_
  refine X_region ?_
  refine XL_box (cs := encT e) .no rfl rfl rfl (fun b1 => ?_)
  refine XL_box .no rfl rfl rfl (fun b2 => ?_)
  refine XL_det .no (D_pure rfl) rfl ?_
  refine XL_then ?_
  refine X_seq ?_
  refine X_region ?_
  refine XL_alloc .no zero_39 rfl (fun b3 => ?_)
  refine XL_then ?_
  refine X_seq ?_
  refine X_region ?_
  refine XL_alloc .no zero_3 rfl (fun b4 => ?_)
  refine XL_efd .no (F_stl rfl rfl rfl (by with_reducible repeat first | exact .here _ _ | apply Out.there | apply Out.app) tk_3 (by repeat first | exact .zero _ _ _ | apply SetL.succ)) ?_
  refine XL_then ?_
  refine X_seq ?_
  refine X_seq ?_
  refine X_region ?_
  refine XL_det .no (D_ldso rfl (by with_reducible repeat first | exact .here _ _ | apply Out.there | apply Out.app) tk_48 rfl (by rfl)) rfl ?_
  refine XL_call .no en_49 rfl (cUses e) (by with_reducible repeat first | exact .nil _ | exact .here _ _ | exact Take.self _ | apply Take.cons | apply Out.there | apply Take.skip | exact Take.pre _ _ | apply Out.app) rfl ?_
  rintro _ _ ⟨bu, rfl, rfl⟩
  simp only [List.cons_append, List.nil_append]
  refine XL_then ?_
  refine X_block ?_
  refine X_rownil 123 3 ?_
  refine X_range (own := [blk bu (encT e) 48]) (S1 := [blk b2 [.int .i64 cost] 3, blk b3 [.slice none 0 0] 39, blk b4 [.int .i64 0] 3, row (.slice none 0 0) 123 3 0 []]) rfl en_81 (usesItr bu e) (fun i S => ∃ a : Arr Sec, a.l = (secW e cost i).1 ∧ a.Own ∧ S = [blk b2 [.int .i64 cost] 3, blk b3 [a.v] 39, blk b4 [.int .i64 (secW e cost i).2] 3, row (.slice a.oad a.l.length a.c) 123 3 a.l.length (a.l.flatMap encS)]) (fun c i S => c = .exit 0 ∧ ∃ (a : Arr Sec) (f : Int), a.l = secWl e cost ∧ a.Own ∧ S = [blk b2 [.int .i64 cost] 3, blk b3 [a.v] 39, blk b4 [.int .i64 f] 3, row (.slice a.oad a.l.length a.c) 123 3 a.l.length (a.l.flatMap encS)]) (show Take ([blk bu (encT e) 48, blk b2 [.int .i64 cost] 3, blk b3 [.slice none 0 0] 39, blk b4 [.int .i64 0] 3, row (.slice none 0 0) 123 3 0 []]) _ _ from (by with_reducible repeat first | exact .nil _ | exact .here _ _ | exact Take.self _ | apply Take.cons | apply Out.there | apply Take.skip | exact Take.pre _ _ | apply Out.app)) (⟨Arr.emp, rfl, Arr.emp_own, rfl⟩) rfl (fun x hx => by obtain ⟨y, _, rfl⟩ := List.mem_map.1 hx; rfl) ?_ ?_ ?_
  · intro ly rec A2 i S2 hi hJ
    obtain ⟨a, ha, hown, rfl⟩ := hJ
    rw [List.length_map] at hi
    obtain ⟨p, hget⟩ : ∃ p, (usesL e 8)[i]? = some p := ⟨_, List.getElem?_eq_getElem hi⟩
    have hp := usesL_mem (List.mem_of_getElem? hget)
    have hpe := he p.1 hp.1
    have hf := secW_in (e := e) hc.1 i
    have h8 := usesL_len e 8
    have hal := secW_len (e := e) (cost := cost) i (by omega)
    rw [← ha] at hal
    rw [show ((usesL e 8).map fun p => [Value.int .i64 (p.1 : Int), Value.int .i64 p.2]).getD i [] = [.int .i64 (p.1 : Int), .int .i64 p.2] from by simp [List.getD, hget]]
    refine X_seq ?_
    refine X_region ?_
    refine XL_det .no (D_pure rfl) rfl ?_
    refine XL_then ?_
    refine X_region ?_
    refine XL_det .no (D_pure rfl) rfl ?_
    refine XL_nil ?_
    refine ⟨rfl, _, _, .cons (by with_reducible repeat first | exact .here _ _ | apply Out.there | apply Out.app) (Take.self _), fun rec2 => ?_⟩
    refine X_block ?_
    refine X_seq ?_
    refine X_seq ?_
    refine X_region ?_
    refine XL_det .no (D_ldo rfl (by with_reducible repeat first | exact .here _ _ | apply Out.there | apply Out.app) tk_3 (by rfl)) rfl ?_
    refine XL_det .no (D_ldo rfl (by with_reducible repeat first | exact .here _ _ | apply Out.there | apply Out.app) tk_3 (by rfl)) rfl ?_
    refine XL_det .no (D_pure rfl) rfl ?_
    refine XL_then ?_
    refine X_cond rfl (fun h1 => ?_) (fun h1 => ?_)
    · try simp only [decide_eq_true_eq, decide_eq_false_iff_not, Bool.not_eq_true', Bool.not_eq_false', beq_iff_eq, bne_iff_ne, beq_eq_false_iff_ne, bne_eq_false_iff_eq, Int.not_lt, Int.not_le, gt_iff_lt, ge_iff_le, ne_eq] at h1
      refine X_exit ?_
      refine thenX_exit ?_
      refine inBlk_out rfl ?_
      exact ⟨[blk b2 [.int .i64 cost] 3, blk b3 [a.v] 39, blk b4 [.int .i64 (secW e cost i).2] 3, row (.slice a.oad a.l.length a.c) 123 3 a.l.length (a.l.flatMap encS)], _, (by with_reducible repeat first | exact .nil _ | exact .here _ _ | exact Take.self _ | apply Take.cons | apply Out.there | apply Take.skip | exact Take.pre _ _ | apply Out.app), ⟨rfl, a, _, by rw [ha, secW_end hi h1], hown, rfl⟩⟩
    · try simp only [decide_eq_true_eq, decide_eq_false_iff_not, Bool.not_eq_true', Bool.not_eq_false', beq_iff_eq, bne_iff_ne, beq_eq_false_iff_ne, bne_eq_false_iff_eq, Int.not_lt, Int.not_le, gt_iff_lt, ge_iff_le, ne_eq] at h1
      refine X_skip ?_
      refine thenX_normal ?_
      refine X_seq ?_
      refine X_region ?_
      refine XL_det .no (D_ldo rfl (by with_reducible repeat first | exact .here _ _ | apply Out.there | apply Out.app) tk_3 (by rfl)) rfl ?_
      refine XL_det .no (D_pure rfl) rfl ?_
      refine XL_det .no (D_add rfl rfl (by omega) (by omega)) rfl ?_
      refine XL_det .no (D_ldo rfl (by with_reducible repeat first | exact .here _ _ | apply Out.there | apply Out.app) tk_3 (by rfl)) rfl ?_
      refine XL_det .no (D_min rfl rfl) rfl ?_
      refine XL_det .no (D_pure rfl) rfl ?_
      refine XL_then ?_
      refine X_seq ?_
      refine X_region ?_
      refine XL_det .no (D_ldo rfl (by with_reducible repeat first | exact .here _ _ | apply Out.there | apply Out.app) tk_39 (by rfl)) rfl ?_
      refine XL_det .no (D_pure rfl) rfl ?_
      refine XL_det .no (D_ldo rfl (by with_reducible repeat first | exact .here _ _ | apply Out.there | apply Out.app) tk_3 (by rfl)) rfl ?_
      refine XL_det .no (D_pure rfl) rfl ?_
      refine XL_det .no (D_build [_, _, _] rfl bld_123 (by rfl)) rfl ?_
      refine XL_bslice (cs := ([((p.1 : Int), (secW e cost i).2, min ((secW e cost i).2 + p.2) cost)] : List Sec).flatMap encS) .no rfl slt_39 (by decide) (by decide) (by rfl) (by rfl) rfl rfl (fun b5 => ?_)
      refine XL_appl (enc := encS) (c := a) [((p.1 : Int), (secW e cost i).2, min ((secW e cost i).2 + p.2) cost)] (K := _) .no rfl rfl rfl slt_39 (by with_reducible repeat first | exact .here _ _ | apply Out.there | apply Out.app) (by with_reducible repeat first | exact .here _ _ | apply Out.there | apply Out.app) (Rd_blk0) (fun _ => rfl) (fun _ => rfl) (by omega) (by omega) rfl (fun a2 ha2 ha2o => ?_)
      refine XL_efd .no (F_stl rfl rfl rfl (by with_reducible repeat first | exact .here _ _ | apply Out.there | apply Out.app) tk_39 (by repeat first | exact .zero _ _ _ | apply SetL.succ)) ?_
      refine XL_then ?_
      refine X_region ?_
      refine XL_det .no (D_pure rfl) rfl ?_
      refine XL_efd .no (F_stl rfl rfl rfl (by with_reducible repeat first | exact .here _ _ | apply Out.there | apply Out.app) tk_3 (by repeat first | exact .zero _ _ _ | apply SetL.succ)) ?_
      refine XL_nil ?_
      refine inBlk_normal ?_
      exact ⟨[blk b2 [.int .i64 cost] 3, blk b3 [a2.v] 39, blk b4 [.int .i64 (min ((secW e cost i).2 + p.2) cost)] 3, row (.slice a2.oad a2.l.length a2.c) 123 3 a2.l.length (a2.l.flatMap encS)], _, (by with_reducible repeat first | exact .nil _ | exact .here _ _ | exact Take.self _ | apply Take.cons | apply Out.there | apply Take.skip | exact Take.pre _ _ | apply Out.app), ⟨a2, by rw [ha2, ha, secW_s hget, stepW_f h1], ha2o, by rw [secW_s hget, stepW_f h1]⟩⟩
  · intro dd0 S2 hJ
    obtain ⟨a, ha, hown, rfl⟩ := hJ
    rw [List.length_map] at ha ⊢
    generalize (secW e cost (usesL e 8).length).2 = f
    simp only [List.cons_append, List.nil_append]
    refine inBlk_normal ?_
    refine thenX_normal ?_
    refine X_seq ?_
    refine X_region ?_
    refine XL_det .no (D_ldo (v := .slice a.oad a.l.length a.c) rfl (by with_reducible repeat first | exact .here _ _ | apply Out.there | apply Out.app) tk_39 (by rfl)) rfl ?_
    refine XL_det .no (D_pure rfl) rfl ?_
    refine XL_then ?_
    refine X_ret ?_
    refine ret_ok (show Take [dfr dd0] _ _ from (by with_reducible repeat first | exact .nil _ | exact .here _ _ | exact Take.self _ | apply Take.cons | apply Out.there | apply Take.skip | exact Take.pre _ _ | apply Out.app)) (res_tmp rfl rfl) ?_
    exact ⟨[row (.slice a.oad a.l.length a.c) 123 3 a.l.length (a.l.flatMap encS)], ⟨a, ⟨ha, hown⟩, rfl, rfl⟩, _, (by repeat first | (with_reducible first | exact .nil _ | exact .here _ _) | exact .here _ _ | (with_reducible first | exact Take.self _ | apply Take.cons | apply Out.there | apply Take.skip | exact Take.pre _ _ | apply Out.app))⟩
  · intro dd0 c i S2 hi h
    obtain ⟨rfl, a, f, ha, hown, rfl⟩ := h
    simp only [List.cons_append, List.nil_append]
    refine X_exit ?_
    refine inBlk_here ?_
    refine thenX_normal ?_
    refine X_seq ?_
    refine X_region ?_
    refine XL_det .no (D_ldo (v := .slice a.oad a.l.length a.c) rfl (by with_reducible repeat first | exact .here _ _ | apply Out.there | apply Out.app) tk_39 (by rfl)) rfl ?_
    refine XL_det .no (D_pure rfl) rfl ?_
    refine XL_then ?_
    refine X_ret ?_
    refine ret_ok (show Take [dfr dd0] _ _ from (by with_reducible repeat first | exact .nil _ | exact .here _ _ | exact Take.self _ | apply Take.cons | apply Out.there | apply Take.skip | exact Take.pre _ _ | apply Out.app)) (res_tmp rfl rfl) ?_
    exact ⟨[row (.slice a.oad a.l.length a.c) 123 3 a.l.length (a.l.flatMap encS)], ⟨a, ⟨ha, hown⟩, rfl, rfl⟩, _, (by repeat first | (with_reducible first | exact .nil _ | exact .here _ _) | exact .here _ _ | (with_reducible first | exact Take.self _ | apply Take.cons | apply Out.there | apply Take.skip | exact Take.pre _ _ | apply Out.app))⟩

theorem rsec (e : Nat → Int) (cost : Int) (hc : 0 ≤ cost ∧ cost ≤ 4096) (he : ∀ r : Nat, r < 8 → e (3 + r) ≤ 4096) : Ctr Tryd.prog B 72 [tV e, .int .i64 cost] [] (fun v S => ∃ x : Arr Sec, (x.l = (secX e cost 8).1 ∧ x.Own) ∧ v = x.v ∧ S = [row (.slice x.oad x.l.length x.c) 123 3 x.l.length (x.l.flatMap encS)]) := by
  refine Ctr_of_X (N := 41) Tryd.func72 rfl (by simp) rfl ?_
  intro w0 D0
  refine X_seq ?_
  refine X_region ?_
  refine XL_box (cs := encT e) .no rfl rfl rfl (fun b1 => ?_)
  refine XL_det .no (D_pure rfl) rfl ?_
  refine XL_then ?_
  refine X_seq ?_
  refine X_region ?_
  refine XL_det .no (D_pure rfl) rfl ?_
  refine XL_then ?_
  refine X_seq ?_
  refine X_region ?_
  refine XL_det .no (D_pure rfl) rfl ?_
  refine XL_then ?_
  refine X_seq ?_
  refine X_seq ?_
  refine X_region ?_
  refine XL_det .no (D_pure rfl) rfl ?_
  refine XL_then ?_
  refine X_block ?_
  refine X_rowa encS 123 3 ?_
  refine X_loop (α := Nat × Arr Sec) (fun ⟨r, a⟩ => r ≤ 8 ∧ a.l = (secX e cost r).1 ∧ a.Own) (fun ⟨r, a⟩ => [(7, .int .i64 (r : Int)), (5, .slice a.oad a.l.length a.c), (6, .int .i64 (secX e cost r).2), (1, .int .i64 cost), (2, .pointer (some ⟨b1, 0, none⟩))]) (fun ⟨r, a⟩ => [blk b1 (encT e) 48, row (.slice a.oad a.l.length a.c) 123 3 a.l.length (a.l.flatMap encS)]) (fun ⟨r, a⟩ => 8 - r) (0, Arr.emp) ?_ (by refine ⟨?_, ?_, ?_, ?_, ?_, trivial⟩ <;> rfl) (by repeat first | (with_reducible first | exact .nil _ | exact .here _ _) | exact .here _ _ | (with_reducible first | exact Take.self _ | apply Take.cons | apply Out.there | apply Take.skip | exact Take.pre _ _ | apply Out.app)) ?_
  · exact ⟨Nat.zero_le _, rfl, Arr.emp_own⟩
  · rintro ⟨r, a⟩ ⟨hr, ha, hown⟩
    dsimp only
    have hf := secX_in (e := e) hc he r hr
    have hal := secX_len (e := e) (cost := cost) r
    rw [← ha] at hal
    refine X_seq ?_
    refine X_seq ?_
    refine X_region ?_
    refine XL_det .no (D_pure rfl) rfl ?_
    refine XL_det .no (D_pure rfl) rfl ?_
    refine XL_then ?_
    refine X_cond rfl (fun h1 => ?_) (fun h1 => ?_)
    · try simp only [decide_eq_true_eq, decide_eq_false_iff_not, Bool.not_eq_true', Bool.not_eq_false', beq_iff_eq, bne_iff_ne, beq_eq_false_iff_ne, bne_eq_false_iff_eq, Int.not_lt, Int.not_le, gt_iff_lt, ge_iff_le, ne_eq] at h1
      have her := he r (by omega)
      refine X_skip ?_
      refine thenX_normal ?_
      refine X_seq ?_
      refine X_block ?_
      refine X_seq ?_
      refine X_region ?_
      refine XL_det .no (D_pure rfl) rfl ?_
      refine XL_det .no (D_fld rfl fld_48_3 (o' := 3) rfl) rfl ?_
      refine XL_det .no (D_idxA rfl rfl arr_33 rfl (by omega) rfl) rfl ?_
      refine XL_det .no (D_ldo (v := .int .i64 (e (3 + r))) rfl (by with_reducible repeat first | exact .here _ _ | apply Out.there | apply Out.app) tk_3 (encT_get (by omega))) rfl ?_
      refine XL_det .no (D_pure rfl) rfl ?_
      refine XL_det .no (D_pure rfl) rfl ?_
      refine XL_split (t := 17) rfl (fun h2 => ?_) (fun h2 => ?_)
      · try simp only [decide_eq_true_eq, decide_eq_false_iff_not, Bool.not_eq_true', Bool.not_eq_false', beq_iff_eq, bne_iff_ne, beq_eq_false_iff_ne, bne_eq_false_iff_eq, Int.not_lt, Int.not_le, gt_iff_lt, ge_iff_le, ne_eq] at h2
        refine XL_det (.yes 17 rfl rfl rfl) (D_pure rfl) rfl ?_
        refine XL_det (.yes 17 rfl rfl rfl) (D_pure rfl) rfl ?_
        refine XL_det (.yes 17 rfl rfl rfl) (D_pure rfl) rfl ?_
        refine XL_det .no (D_pure rfl) rfl ?_
        refine XL_then ?_
        refine X_cond rfl (fun h3 => ?_) (fun h3 => ?_)
        · try simp only [decide_eq_true_eq, decide_eq_false_iff_not, Bool.not_eq_true', Bool.not_eq_false', beq_iff_eq, bne_iff_ne, beq_eq_false_iff_ne, bne_eq_false_iff_eq, Int.not_lt, Int.not_le, gt_iff_lt, ge_iff_le, ne_eq] at h3
          refine X_seq ?_
          refine X_region ?_
          refine XL_det .no (D_pure rfl) rfl ?_
          refine XL_det .no (D_pure rfl) rfl ?_
          refine XL_det .no (D_pure rfl) rfl ?_
          refine XL_det .no (D_pure rfl) rfl ?_
          refine XL_det .no (D_pure rfl) rfl ?_
          refine XL_det .no (D_fld rfl fld_48_3 (o' := 3) rfl) rfl ?_
          refine XL_det .no (D_idxA rfl rfl arr_33 rfl (by omega) rfl) rfl ?_
          refine XL_det .no (D_ldo (v := .int .i64 (e (3 + r))) rfl (by with_reducible repeat first | exact .here _ _ | apply Out.there | apply Out.app) tk_3 (encT_get (by omega))) rfl ?_
          refine XL_det .no (D_add rfl rfl (by omega) (by omega)) rfl ?_
          refine XL_det .no (D_build [_, _, _] rfl bld_123 (by rfl)) rfl ?_
          refine XL_bslice (cs := ([((r : Int), (secX e cost r).2, (secX e cost r).2 + e (3 + r))] : List Sec).flatMap encS) .no rfl slt_39 (by decide) (by decide) (by rfl) (by rfl) rfl rfl (fun b2 => ?_)
          refine XL_appl (enc := encS) (c := a) [((r : Int), (secX e cost r).2, (secX e cost r).2 + e (3 + r))] (K := _) .no rfl rfl rfl slt_39 (by with_reducible repeat first | exact .here _ _ | apply Out.there | apply Out.app) (by with_reducible repeat first | exact .here _ _ | apply Out.there | apply Out.app) (Rd_blk0) (fun _ => rfl) (fun _ => rfl) (by omega) (by omega) rfl (fun a2 ha2 ha2o => ?_)
          refine XL_det .no (D_pure rfl) rfl ?_
          refine XL_then ?_
          refine X_region ?_
          refine XL_det .no (D_pure rfl) rfl ?_
          refine XL_det .no (D_pure rfl) rfl ?_
          refine XL_det .no (D_fld rfl fld_48_3 (o' := 3) rfl) rfl ?_
          refine XL_det .no (D_idxA rfl rfl arr_33 rfl (by omega) rfl) rfl ?_
          refine XL_det .no (D_ldo (v := .int .i64 (e (3 + r))) rfl (by with_reducible repeat first | exact .here _ _ | apply Out.there | apply Out.app) tk_3 (encT_get (by omega))) rfl ?_
          refine XL_det .no (D_add rfl rfl (by omega) (by omega)) rfl ?_
          refine XL_det .no (D_pure rfl) rfl ?_
          refine XL_nil ?_
          refine inBlk_normal ?_
          refine thenX_normal ?_
          refine X_region ?_
          refine XL_det .no (D_pure rfl) rfl ?_
          refine XL_det .no (D_add rfl rfl (by omega) (by omega)) rfl ?_
          refine XL_det .no (D_pure rfl) rfl ?_
          refine XL_nil ?_
          refine loopQ_next (r + 1, a2) ?_ ?_ ?_ ?_
          · (try dsimp only); exact ⟨by omega, by rw [ha2, ha, secX_t h2 h3], ha2o⟩
          · (try dsimp only); omega
          · refine ⟨?_, ?_, ?_, ?_, ?_, trivial⟩ <;> first | rfl | (rw [secX_t h2 h3]; rfl)
          · (try dsimp only); exact ⟨_, (by repeat first | (with_reducible first | exact .nil _ | exact .here _ _) | exact .here _ _ | (with_reducible first | exact Take.self _ | apply Take.cons | apply Out.there | apply Take.skip | exact Take.pre _ _ | apply Out.app))⟩
        · try simp only [decide_eq_true_eq, decide_eq_false_iff_not, Bool.not_eq_true', Bool.not_eq_false', beq_iff_eq, bne_iff_ne, beq_eq_false_iff_ne, bne_eq_false_iff_eq, Int.not_lt, Int.not_le, gt_iff_lt, ge_iff_le, ne_eq] at h3
          refine X_skip ?_
          refine inBlk_normal ?_
          refine thenX_normal ?_
          refine X_region ?_
          refine XL_det .no (D_pure rfl) rfl ?_
          refine XL_det .no (D_add rfl rfl (by omega) (by omega)) rfl ?_
          refine XL_det .no (D_pure rfl) rfl ?_
          refine XL_nil ?_
          refine loopQ_next (r + 1, a) ?_ ?_ ?_ ?_
          · (try dsimp only); exact ⟨by omega, by rw [ha, secX_f (fun q => absurd q.2 (by omega))], hown⟩
          · (try dsimp only); omega
          · refine ⟨?_, ?_, ?_, ?_, ?_, trivial⟩ <;> first | rfl | (rw [secX_f (fun q => absurd q.2 (by omega))]; rfl)
          · (try dsimp only); exact ⟨_, (by repeat first | (with_reducible first | exact .nil _ | exact .here _ _) | exact .here _ _ | (with_reducible first | exact Take.self _ | apply Take.cons | apply Out.there | apply Take.skip | exact Take.pre _ _ | apply Out.app))⟩
      · try simp only [decide_eq_true_eq, decide_eq_false_iff_not, Bool.not_eq_true', Bool.not_eq_false', beq_iff_eq, bne_iff_ne, beq_eq_false_iff_ne, bne_eq_false_iff_eq, Int.not_lt, Int.not_le, gt_iff_lt, ge_iff_le, ne_eq] at h2
        refine XL_skip 17 rfl rfl rfl rfl rfl ?_
        refine XL_skip 17 rfl rfl rfl rfl rfl ?_
        refine XL_skip 17 rfl rfl rfl rfl rfl ?_
        refine XL_det .no (D_pure rfl) rfl ?_
        refine XL_then ?_
        refine X_cond_f rfl rfl ?_
        refine X_skip ?_
        refine inBlk_normal ?_
        refine thenX_normal ?_
        refine X_region ?_
        refine XL_det .no (D_pure rfl) rfl ?_
        refine XL_det .no (D_add rfl rfl (by omega) (by omega)) rfl ?_
        refine XL_det .no (D_pure rfl) rfl ?_
        refine XL_nil ?_
        refine loopQ_next (r + 1, a) ?_ ?_ ?_ ?_
        · (try dsimp only); exact ⟨by omega, by rw [ha, secX_f (fun q => absurd q.1 (by omega))], hown⟩
        · (try dsimp only); omega
        · refine ⟨?_, ?_, ?_, ?_, ?_, trivial⟩ <;> first | rfl | (rw [secX_f (fun q => absurd q.1 (by omega))]; rfl)
        · (try dsimp only); exact ⟨_, (by repeat first | (with_reducible first | exact .nil _ | exact .here _ _) | exact .here _ _ | (with_reducible first | exact Take.self _ | apply Take.cons | apply Out.there | apply Take.skip | exact Take.pre _ _ | apply Out.app))⟩
    · try simp only [decide_eq_true_eq, decide_eq_false_iff_not, Bool.not_eq_true', Bool.not_eq_false', beq_iff_eq, bne_iff_ne, beq_eq_false_iff_ne, bne_eq_false_iff_eq, Int.not_lt, Int.not_le, gt_iff_lt, ge_iff_le, ne_eq] at h1
      obtain rfl : r = 8 := by omega
      refine X_exit ?_
      refine thenX_exit ?_
      refine loopQ_exit ?_
      refine inBlk_here ?_
      refine thenX_normal ?_
      refine X_seq ?_
      refine X_region ?_
      refine XL_det .no (D_pure rfl) rfl ?_
      refine XL_det .no (D_pure rfl) rfl ?_
      refine XL_then ?_
      refine X_ret ?_
      refine ret_ok (.nil _) (res_tmp rfl rfl) ?_
      exact ⟨[row (.slice a.oad a.l.length a.c) 123 3 a.l.length (a.l.flatMap encS)], ⟨a, ⟨ha, hown⟩, rfl, rfl⟩, _, (by repeat first | (with_reducible first | exact .nil _ | exact .here _ _) | exact .here _ _ | (with_reducible first | exact Take.self _ | apply Take.cons | apply Out.there | apply Take.skip | exact Take.pre _ _ | apply Out.app))⟩

theorem lpart (n : Int) : Ctr Tryd.prog B 42 [.int .i64 n] [] (fun v S => v = .int .i64 (min (max n 0) 1000) ∧ S = []) := by
  refine Ctr_of_X (N := 8) Tryd.func42 rfl (by simp) rfl ?_
  intro w0 D0
  refine X_seq ?_
  refine X_region ?_
  refine XL_det .no (D_pure rfl) rfl ?_
  refine XL_then ?_
  refine X_seq ?_
  refine X_seq ?_
  refine X_region ?_
  refine XL_det .no (D_pure rfl) rfl ?_
  refine XL_det .no (D_pure rfl) rfl ?_
  refine XL_then ?_
  refine X_cond rfl (fun h1 => ?_) (fun h1 => ?_)
  · try simp only [decide_eq_true_eq, decide_eq_false_iff_not, Bool.not_eq_true', Bool.not_eq_false', beq_iff_eq, bne_iff_ne, beq_eq_false_iff_ne, bne_eq_false_iff_eq, Int.not_lt, Int.not_le, gt_iff_lt, ge_iff_le, ne_eq] at h1
    refine X_seq ?_
    refine X_region ?_
    refine XL_det .no (D_pure rfl) rfl ?_
    refine XL_then ?_
    refine X_ret ?_
    refine thenX_ret ?_
    refine ret_ok (.nil _) (res_tmp rfl rfl) ?_
    exact ⟨_, ⟨by rw [show min (max n 0) 1000 = 0 by omega], rfl⟩, _, (by with_reducible repeat first | exact .nil _ | exact .here _ _ | exact Take.self _ | apply Take.cons | apply Out.there | apply Take.skip | exact Take.pre _ _ | apply Out.app)⟩
  · try simp only [decide_eq_true_eq, decide_eq_false_iff_not, Bool.not_eq_true', Bool.not_eq_false', beq_iff_eq, bne_iff_ne, beq_eq_false_iff_ne, bne_eq_false_iff_eq, Int.not_lt, Int.not_le, gt_iff_lt, ge_iff_le, ne_eq] at h1
    refine X_skip ?_
    refine thenX_normal ?_
    refine X_seq ?_
    refine X_seq ?_
    refine X_region ?_
    refine XL_det .no (D_pure rfl) rfl ?_
    refine XL_det .no (D_pure rfl) rfl ?_
    refine XL_then ?_
    refine X_cond rfl (fun h2 => ?_) (fun h2 => ?_)
    · try simp only [decide_eq_true_eq, decide_eq_false_iff_not, Bool.not_eq_true', Bool.not_eq_false', beq_iff_eq, bne_iff_ne, beq_eq_false_iff_ne, bne_eq_false_iff_eq, Int.not_lt, Int.not_le, gt_iff_lt, ge_iff_le, ne_eq] at h2
      refine X_seq ?_
      refine X_region ?_
      refine XL_det .no (D_pure rfl) rfl ?_
      refine XL_then ?_
      refine X_ret ?_
      refine thenX_ret ?_
      refine ret_ok (.nil _) (res_tmp rfl rfl) ?_
      exact ⟨_, ⟨by rw [show min (max n 0) 1000 = 1000 by omega], rfl⟩, _, (by with_reducible repeat first | exact .nil _ | exact .here _ _ | exact Take.self _ | apply Take.cons | apply Out.there | apply Take.skip | exact Take.pre _ _ | apply Out.app)⟩
    · try simp only [decide_eq_true_eq, decide_eq_false_iff_not, Bool.not_eq_true', Bool.not_eq_false', beq_iff_eq, bne_iff_ne, beq_eq_false_iff_ne, bne_eq_false_iff_eq, Int.not_lt, Int.not_le, gt_iff_lt, ge_iff_le, ne_eq] at h2
      refine X_skip ?_
      refine thenX_normal ?_
      refine X_seq ?_
      refine X_region ?_
      refine XL_det .no (D_pure rfl) rfl ?_
      refine XL_det .no (D_pure rfl) rfl ?_
      refine XL_then ?_
      refine X_ret ?_
      refine ret_ok (.nil _) (res_tmp rfl rfl) ?_
      exact ⟨_, ⟨by rw [show min (max n 0) 1000 = n by omega], rfl⟩, _, (by with_reducible repeat first | exact .nil _ | exact .here _ _ | exact Take.self _ | apply Take.cons | apply Out.there | apply Take.skip | exact Take.pre _ _ | apply Out.app)⟩

end Go.Proofs.YtkkdchgnknpceaaDoor
end

section
namespace Go.Proofs.YtkkdchgnknpceaaDoor
open Go Go.Sl
set_option linter.unusedVariables false
set_option linter.unusedSimpArgs false
set_option maxRecDepth 4000
variable {B : Nat} {K : Asrt B}
theorem en_92 : Go.Proofs.Enters Tryd.prog 92 := Go.Proofs.enters_of Tryd.func92 (by kernel_rfl) rfl
theorem en_93 : Go.Proofs.Enters Tryd.prog 93 := Go.Proofs.enters_of Tryd.func93 (by kernel_rfl) rfl
theorem en_94 : Go.Proofs.Enters Tryd.prog 94 := Go.Proofs.enters_of Tryd.func94 (by kernel_rfl) rfl
theorem tk_81 : tyK Tryd.prog 81 = some (true, 17) := by kernel_rfl
theorem zero_30 : zeroOf Tryd.prog 30 = some [.pointer none] := by kernel_rfl

abbrev nT (mny : Int) : Nat := (min (max mny 0) 65536).toNat
theorem nT_lt {mny : Int} {n : Nat} (h : (n : Int) < min (max mny 0) 65536) : n < nT mny := by unfold nT; omega
theorem nT_in (mny : Int) : nT mny ≤ 65536 := by unfold nT; omega
abbrev xsT (ts : List (Nat → Int)) (w : Way) (s : BitVec 32) (mny : Int) : List (List Value) := (List.range (nT mny)).map fun (n : Nat) => [Value.int .i64 (n : Int), .agg (encR (ranC ts w s n)).toArray]
theorem xsT_len (ts : List (Nat → Int)) (w : Way) (s : BitVec 32) (mny : Int) : (xsT ts w s mny).length = nT mny := by simp [xsT]
theorem xsT_get {ts : List (Nat → Int)} {w : Way} {s : BitVec 32} {mny : Int} {n : Nat} (h : n < nT mny) : (xsT ts w s mny).getD n [] = [Value.int .i64 (n : Int), .agg (encR (ranC ts w s n)).toArray] := by simp [xsT, List.getD, h]
theorem relC_now (s : Cr) (j : JC) (a : Arr Sec) : (relC s j a).now = s.now := by unfold relC; split <;> rfl
abbrev JT (k n : Nat) (w : Way) (e : Nat → Int) (x : Arr Sec) : JC := ⟨(k : Int), (n : Int), (n : Int) + e 1, costJ w e, 0, x⟩
theorem ceil_rg (ts : List (Nat → Int)) (s : BitVec 32) (r : Nat) : 0 ≤ ceilV ts s r ∧ ceilV ts s r ≤ 16 := (ceilV_least ts s r).range
theorem lk_zero (ts : List (Nat → Int)) (w : Way) (s : BitVec 32) : Lk (ceilC cr0 (ceilF ts s)) (simC ts w s 0) :=
  ⟨_, Like.zero.ceil (t' := ceilF ts s) (fun r _ => ⟨(ceilV_least ts s r).range.1, (ceilV_least ts s r).range.2⟩) (fun _ _ => rfl), Like.zero.ceil (t' := ceilF ts s) (fun r _ => ⟨(ceilV_least ts s r).range.1, (ceilV_least ts s r).range.2⟩) (fun _ _ => rfl)⟩
theorem TsOk.c {ts : List (Nat → Int)} (hT : TsOk ts) {e : Nat → Int} {k : Nat} (he : ts[k]? = some e) : (1 ≤ e 0 ∧ e 0 ≤ 4096) ∧ (1 ≤ e 1 ∧ e 1 ≤ 4096) ∧ (1 ≤ e 2 ∧ e 2 ≤ 4096) ∧ (∀ r : Nat, r < 8 → 0 ≤ e (3 + r)) ∧ ∀ r : Nat, r < 8 → e (3 + r) ≤ 4096 := by
  obtain ⟨_, h1, h2, h3, h4⟩ := hT.at_ he
  exact ⟨h1, by omega, by omega, fun r hr => (h4 r hr).1, fun r hr => by have := h4 r hr; omega⟩

theorem wTicks (x : Img) (s : BitVec 32) (w : Way) (mny : Int) : Ctr Tryd.prog B 69 [x.v, .int .u32 s.toNat, .agg (encWay w).toArray, .int .i64 mny] [] (fun v S => ∃ bx bs bm bw, v = .func (.func 91) #[] #[.pointer (some ⟨bx, 0, none⟩), .pointer (some ⟨bs, 0, none⟩), .pointer (some ⟨bm, 0, none⟩), .pointer (some ⟨bw, 0, none⟩)] ∧ S = [blk bx [.int .i64 x.res, .slice x.tasks.oad x.tasks.l.length x.tasks.c, .slice x.modes.oad x.modes.l.length x.modes.c, .slice x.edges.oad x.edges.l.length x.edges.c] 26, blk bs [.int .u32 s.toNat] 37, blk bm [.int .i64 mny] 3, blk bw (encWay w) 81]) := by
  refine Ctr_of_X (N := 10) Tryd.func69 rfl (by simp) rfl ?_
  intro w0 D0
  refine X_seq ?_
  refine X_region ?_
  refine XL_box (cs := [.int .i64 x.res, .slice x.tasks.oad x.tasks.l.length x.tasks.c, .slice x.modes.oad x.modes.l.length x.modes.c, .slice x.edges.oad x.edges.l.length x.edges.c]) .no rfl rfl rfl (fun b1 => ?_)
  refine XL_box .no rfl rfl rfl (fun b2 => ?_)
  refine XL_box (cs := encWay w) .no rfl rfl rfl (fun b3 => ?_)
  refine XL_box .no rfl rfl rfl (fun b4 => ?_)
  refine XL_det .no (D_pure rfl) rfl ?_
  refine XL_then ?_
  refine X_seq ?_
  refine X_region ?_
  refine XL_det .no (D_pure rfl) rfl ?_
  refine XL_det .no (D_pure rfl) rfl ?_
  refine XL_then ?_
  refine X_ret ?_
  refine ret_ok (.nil _) (res_tmp rfl rfl) ?_
  exact ⟨[blk b1 [.int .i64 x.res, .slice x.tasks.oad x.tasks.l.length x.tasks.c, .slice x.modes.oad x.modes.l.length x.modes.c, .slice x.edges.oad x.edges.l.length x.edges.c] 26, blk b2 [.int .u32 s.toNat] 37, blk b4 [.int .i64 mny] 3, blk b3 (encWay w) 81], ⟨b1, b2, b4, b3, rfl, rfl⟩, _, (by repeat first | (with_reducible first | exact .nil _ | exact .here _ _) | exact .here _ _ | (with_reducible first | exact Take.self _ | apply Take.cons | apply Out.there | apply Take.skip | exact Take.pre _ _ | apply Out.app))⟩

theorem ticksItr (bx bs bm bw : Nat) {Ki : Asrt B} (x : Img) (hx : x.In Ki) (hT : TsOk x.tasks.l) (s : BitVec 32) (w : Way) (hw : WayOk w) (mny : Int) (hK : Rd K ⟨0, 0, none⟩ (tab32.map fun m => .int .u8 m)) (hd : Dup K) :
    Itr Tryd.prog B 91 [.pointer (some ⟨bx, 0, none⟩), .pointer (some ⟨bs, 0, none⟩), .pointer (some ⟨bm, 0, none⟩), .pointer (some ⟨bw, 0, none⟩)] [blk bx [.int .i64 x.res, .slice x.tasks.oad x.tasks.l.length x.tasks.c, .slice x.modes.oad x.modes.l.length x.modes.c, .slice x.edges.oad x.edges.l.length x.edges.c] 26, blk bs [.int .u32 s.toNat] 37, blk bm [.int .i64 mny] 3, blk bw (encWay w) 81, K, Ki] (xsT x.tasks.l w s mny) := by
  intro ly J Jx S0 hJ0 hy
  change Ctr _ _ _ _ (blk bx [.int .i64 x.res, .slice x.tasks.oad x.tasks.l.length x.tasks.c, .slice x.modes.oad x.modes.l.length x.modes.c, .slice x.edges.oad x.edges.l.length x.edges.c] 26 :: blk bs [.int .u32 s.toNat] 37 :: blk bm [.int .i64 mny] 3 :: blk bw (encWay w) 81 :: K :: Ki :: S0) _
  refine Ctr_of_X (N := 69) Tryd.func91 rfl (by simp) rfl ?_
  intro w0 D0
  refine X_seq ?_
  refine X_region ?_
  refine XL_call .no en_12 rfl (snew) (by with_reducible repeat first | exact .nil _ | exact .here _ _ | exact Take.self _ | apply Take.cons | apply Out.there | apply Take.skip | exact Take.pre _ _ | apply Out.app) rfl ?_
  rintro _ _ ⟨c, rfl, rfl⟩
  simp only [List.cons_append, List.nil_append]
  refine XL_alloc .no zero_30 rfl (fun b1 => ?_)
  refine XL_efd .no (F_stl rfl rfl rfl (by with_reducible repeat first | exact .here _ _ | apply Out.there | apply Out.app) tk_30 (by repeat first | exact .zero _ _ _ | apply SetL.succ)) ?_
  refine XL_then ?_
  refine X_seq ?_
  refine X_draw [blk b1 [.pointer (some ⟨c, 0, none⟩)] 30, blk bx [.int .i64 x.res, .slice x.tasks.oad x.tasks.l.length x.tasks.c, .slice x.modes.oad x.modes.l.length x.modes.c, .slice x.edges.oad x.edges.l.length x.edges.c] 26, blk bs [.int .u32 s.toNat] 37] mixed (by with_reducible repeat first | exact .nil _ | exact .here _ _ | exact Take.self _ | apply Take.cons | apply Out.there | apply Take.skip | exact Take.pre _ _ | apply Out.app) ?_
  refine XA_det 0 rfl (by kernel_rfl) (by kernel_rfl) (by kernel_rfl) (by kernel_rfl) (fun _ _ _ _ h => h) .no (D_ldo rfl (by with_reducible repeat first | exact .here _ _ | apply Out.there | apply Out.app) tk_30 (by rfl)) rfl ?_
  refine XA_det 1 rfl (by kernel_rfl) (by kernel_rfl) (by kernel_rfl) (by kernel_rfl) (fun _ _ _ _ h => h) .no (D_ldso (vs := [.int .i64 x.res, .slice x.tasks.oad x.tasks.l.length x.tasks.c, .slice x.modes.oad x.modes.l.length x.modes.c, .slice x.edges.oad x.edges.l.length x.edges.c]) rfl (by with_reducible repeat first | exact .here _ _ | apply Out.there | apply Out.app) tk_26 rfl (by rfl)) rfl ?_
  refine XA_det 2 rfl (by kernel_rfl) (by kernel_rfl) (by kernel_rfl) (by kernel_rfl) (fun _ _ _ _ h => h) .no (D_ldo rfl (by with_reducible repeat first | exact .here _ _ | apply Out.there | apply Out.app) tk_37 (by rfl)) rfl ?_
  refine XA_one 3 (by kernel_rfl) ?_
  refine XO_callk rfl .no en_14 rfl (by with_reducible repeat first | exact .nil _ | apply App.cons) (cof x hx s hK) (by with_reducible repeat first | exact .nil _ | exact .here _ _ | exact Take.self _ | apply Take.cons | apply Out.there | apply Take.skip | exact Take.pre _ _ | apply Out.app) rfl ?_
  refine XA_one 4 (by kernel_rfl) ?_
  refine XO_callc rfl .no en_13 rfl (by with_reducible repeat first | exact .nil _ | apply App.cons) (sceil c cr0 (ceilF x.tasks.l s) cr0_ok (fun r _ => ceil_rg _ _ r) hK hd) (by with_reducible repeat first | exact .nil _ | exact .here _ _ | exact Take.self _ | apply Take.cons | apply Out.there | apply Take.skip | exact Take.pre _ _ | apply Out.app) rfl ?_
  rintro _ _ ⟨rfl, rfl⟩
  simp only [List.cons_append, List.nil_append]
  rw [show (rowS cr0.jf : Nat → Asrt B) = rowS (ceilC cr0 (ceilF x.tasks.l s)).jf from rfl]
  refine ⟨blk c (crC ((ceilC cr0 (ceilF x.tasks.l s)))) 110 :: many 16 (rowS (ceilC cr0 (ceilF x.tasks.l s)).jf) :: blk bm [.int .i64 mny] 3 :: blk bw (encWay w) 81 :: K :: Ki :: S0, _, _, (by with_reducible repeat first | exact .nil _ | apply App.cons), (by with_reducible repeat first | exact .nil _ | exact .here _ _ | exact Take.self _ | apply Take.cons | apply Out.there | apply Take.skip | exact Take.pre _ _ | apply Out.app), ?_⟩
  refine XA_done (by kernel_rfl) ?_
  try simp only [List.cons_append, List.nil_append, List.append_nil]
  refine thenX_normal ?_
  refine X_seq ?_
  refine X_region ?_
  refine XL_det .no (D_ldo rfl (by with_reducible repeat first | exact .here _ _ | apply Out.there | apply Out.app) tk_3 (by rfl)) rfl ?_
  refine XL_det .no (D_max rfl rfl) rfl ?_
  refine XL_det .no (D_min rfl rfl) rfl ?_
  refine XL_det .no (D_pure rfl) rfl ?_
  refine XL_then ?_
  refine X_block ?_
  refine X_dfrs_nil ?_
  refine X_loopd (α := Nat × Cr × List (Asrt B) × List Nat) (fun ⟨n, z, S1, dl⟩ => n ≤ nT mny ∧ Lk z (simC x.tasks.l w s n) ∧ z.now = (n : Int) ∧ J n S1) (fun ⟨n, z, S1, dl⟩ => dl) (fun ⟨n, z, S1, dl⟩ => [(20, .int .i64 (n : Int)), (0, .func (.yield ly) #[] #[]), (1, .pointer (some ⟨bx, 0, none⟩)), (2, .pointer (some ⟨bs, 0, none⟩)), (3, .pointer (some ⟨bm, 0, none⟩)), (4, .pointer (some ⟨bw, 0, none⟩)), (6, .pointer (some ⟨b1, 0, none⟩)), (19, .int .i64 (min (max mny 0) 65536))]) (fun ⟨n, z, S1, dl⟩ => blk bx [.int .i64 x.res, .slice x.tasks.oad x.tasks.l.length x.tasks.c, .slice x.modes.oad x.modes.l.length x.modes.c, .slice x.edges.oad x.edges.l.length x.edges.c] 26 :: blk bs [.int .u32 s.toNat] 37 :: blk bm [.int .i64 mny] 3 :: blk bw (encWay w) 81 :: K :: Ki :: blk b1 [.pointer (some ⟨c, 0, none⟩)] 30 :: blk c (crC (z)) 110 :: many 16 (rowS z.jf) :: dfrs dl :: S1) (fun ⟨n, z, S1, dl⟩ => nT mny - n) (0, ceilC cr0 (ceilF x.tasks.l s), S0, []) ?_ rfl (by refine ⟨?_, ?_, ?_, ?_, ?_, ?_, ?_, ?_, trivial⟩ <;> rfl) (by with_reducible repeat first | exact .nil _ | exact .here _ _ | exact Take.self _ | apply Take.cons | apply Out.there | apply Take.skip | exact Take.pre _ _ | apply Out.app) ?_
  · exact ⟨Nat.zero_le _, lk_zero _ _ _, rfl, hJ0⟩
  · rintro ⟨n, z, S1, dl⟩ ⟨hn, hL, hnow, hJ⟩
    dsimp only
    have hn6 := nT_in mny
    have hTn := hT.n
    refine X_seq ?_
    refine X_region ?_
    refine XL_det .no (D_pure rfl) rfl ?_
    refine XL_then ?_
    refine X_seq ?_
    refine X_cond rfl (fun h1 => ?_) (fun h1 => ?_)
    · try simp only [decide_eq_true_eq, decide_eq_false_iff_not, Bool.not_eq_true', Bool.not_eq_false', beq_iff_eq, bne_iff_ne, beq_eq_false_iff_ne, bne_eq_false_iff_eq, Int.not_lt, Int.not_le, gt_iff_lt, ge_iff_le, ne_eq] at h1
      have hnl := nT_lt h1
      refine X_skip ?_
      refine thenX_normal ?_
      refine X_seq ?_
      refine X_block ?_
      refine X_seq ?_
      refine X_region ?_
      refine XL_det .no (D_pure rfl) rfl ?_
      refine XL_alloc .no zero_3 rfl (fun b2 => ?_)
      refine XL_efd .no (F_stl rfl rfl rfl (by with_reducible repeat first | exact .here _ _ | apply Out.there | apply Out.app) tk_3 (by repeat first | exact .zero _ _ _ | apply SetL.succ)) ?_
      refine XL_then ?_
      refine X_seq ?_
      refine X_seq ?_
      refine X_region ?_
      refine XL_det .no (D_ldo rfl (by with_reducible repeat first | exact .here _ _ | apply Out.there | apply Out.app) tk_37 (by rfl)) rfl ?_
      refine XL_call .no en_47 rfl (mAll s) (by with_reducible repeat first | exact .nil _ | exact .here _ _ | exact Take.self _ | apply Take.cons | apply Out.there | apply Take.skip | exact Take.pre _ _ | apply Out.app) rfl ?_
      rintro _ _ ⟨ba, rfl, rfl⟩
      simp only [List.cons_append, List.nil_append]
      refine XL_then ?_
      refine X_block ?_
      refine X_conv ?_
      refine X_dup hd (by with_reducible repeat first | exact .here _ _ | apply Out.there | apply Out.app) ?_
      refine X_range (own := [blk ba [.int .u32 s.toNat] 37, K]) (S1 := [blk bx [.int .i64 x.res, .slice x.tasks.oad x.tasks.l.length x.tasks.c, .slice x.modes.oad x.modes.l.length x.modes.c, .slice x.edges.oad x.edges.l.length x.edges.c] 26, blk bw (encWay w) 81, blk b1 [.pointer (some ⟨c, 0, none⟩)] 30, blk c (crC (z)) 110, many 16 (rowS z.jf), blk b2 [.int .i64 (n : Int)] 3, Ki, K]) rfl en_78 (allItr ba s hK) (fun i S => ∃ z1 : Cr, (Lk z1 (relL x.tasks.l w ((listI s).take i) (simC x.tasks.l w s n)) ∧ z1.now = (n : Int)) ∧ S = [blk bx [.int .i64 x.res, .slice x.tasks.oad x.tasks.l.length x.tasks.c, .slice x.modes.oad x.modes.l.length x.modes.c, .slice x.edges.oad x.edges.l.length x.edges.c] 26, blk bw (encWay w) 81, blk b1 [.pointer (some ⟨c, 0, none⟩)] 30, blk c (crC (z1)) 110, many 16 (rowS z1.jf), blk b2 [.int .i64 (n : Int)] 3, Ki, K]) (fun c i S => False) (show Take ([blk ba [.int .u32 s.toNat] 37, K, blk bx [.int .i64 x.res, .slice x.tasks.oad x.tasks.l.length x.tasks.c, .slice x.modes.oad x.modes.l.length x.modes.c, .slice x.edges.oad x.edges.l.length x.edges.c] 26, blk bw (encWay w) 81, blk b1 [.pointer (some ⟨c, 0, none⟩)] 30, blk c (crC (z)) 110, many 16 (rowS z.jf), blk b2 [.int .i64 (n : Int)] 3, Ki, K]) _ _ from (by with_reducible repeat first | exact .nil _ | exact .here _ _ | exact Take.self _ | apply Take.cons | apply Out.there | apply Take.skip | exact Take.pre _ _ | apply Out.app)) (⟨z, ⟨hL, hnow⟩, rfl⟩) rfl (fun x hx => by obtain ⟨y, _, rfl⟩ := List.mem_map.1 hx; rfl) ?_ ?_ ?_
      · intro ly1 rec A2 i S2 hi hJ1
        obtain ⟨z1, ⟨hL1, hn1⟩, rfl⟩ := hJ1
        rw [List.length_map] at hi
        obtain ⟨m, hget⟩ : ∃ m, (listI s)[i]? = some m := ⟨_, List.getElem?_eq_getElem hi⟩
        have hm := mem_listN.1 (List.mem_of_getElem? hget)
        obtain ⟨k, hk⟩ := Int.eq_ofNat_of_zero_le hm.1
        subst hk
        have hcn := hL1.now
        rw [map_get hget]
        refine X_region ?_
        refine XL_det .no (D_pure rfl) rfl ?_
        refine XL_nil ?_
        refine ⟨rfl, _, _, .cons (by with_reducible repeat first | exact .here _ _ | apply Out.there | apply Out.app) (Take.self _), fun rec2 => ?_⟩
        refine X_block ?_
        refine X_seq ?_
        refine X_seq ?_
        refine X_draw [blk bx [.int .i64 x.res, .slice x.tasks.oad x.tasks.l.length x.tasks.c, .slice x.modes.oad x.modes.l.length x.modes.c, .slice x.edges.oad x.edges.l.length x.edges.c] 26, blk bw (encWay w) 81, blk b2 [.int .i64 (n : Int)] 3, Ki] mixed (by with_reducible repeat first | exact .nil _ | exact .here _ _ | exact Take.self _ | apply Take.cons | apply Out.there | apply Take.skip | exact Take.pre _ _ | apply Out.app) ?_
        refine XA_detp 0 rfl (by kernel_rfl) (by kernel_rfl) (by kernel_rfl) (fun _ _ _ _ h => h) .no (D_pureP rfl) rfl ?_
        refine XA_detp 1 rfl (by kernel_rfl) (by kernel_rfl) (by kernel_rfl) (fun _ _ _ _ h => h) .no (D_fldP rfl fld_26_1 (o' := 1) rfl) rfl ?_
        refine XA_det 2 rfl (by kernel_rfl) (by kernel_rfl) (by kernel_rfl) (by kernel_rfl) (fun _ _ _ _ h => h) .no (D_ldo rfl (by with_reducible repeat first | exact .here _ _ | apply Out.there | apply Out.app) tk_22 (by rfl)) rfl ?_
        refine XA_detp 3 rfl (by kernel_rfl) (by kernel_rfl) (by kernel_rfl) (fun _ _ _ _ h => h) .no (D_lenP rfl rfl slc_22) rfl ?_
        refine XA_detp 4 rfl (by kernel_rfl) (by kernel_rfl) (by kernel_rfl) (fun _ _ _ _ h => h) .no (D_pureP rfl) rfl ?_
        refine XA_detp 5 rfl (by kernel_rfl) (by kernel_rfl) (by kernel_rfl) (fun _ _ _ _ h => h) .no (D_pureP rfl) rfl ?_
        refine XA_split (t := 31) rfl (fun h2 => ?_) (fun h2 => ?_)
        · try simp only [decide_eq_true_eq, decide_eq_false_iff_not, Bool.not_eq_true', Bool.not_eq_false', beq_iff_eq, bne_iff_ne, beq_eq_false_iff_ne, bne_eq_false_iff_eq, Int.not_lt, Int.not_le, gt_iff_lt, ge_iff_le, ne_eq] at h2
          refine XA_skipp 6 31 rfl (by kernel_rfl) (by kernel_rfl) (by kernel_rfl) (fun _ _ _ _ h => h) rfl rfl rfl rfl rfl ?_
          refine XA_skipp 7 31 rfl (by kernel_rfl) (by kernel_rfl) (by kernel_rfl) (fun _ _ _ _ h => h) rfl rfl rfl rfl rfl ?_
          refine XA_skipp 8 31 rfl (by kernel_rfl) (by kernel_rfl) (by kernel_rfl) (fun _ _ _ _ h => h) rfl rfl rfl rfl rfl ?_
          refine XA_skipp 9 31 rfl (by kernel_rfl) (by kernel_rfl) (by kernel_rfl) (fun _ _ _ _ h => h) rfl rfl rfl rfl rfl ?_
          refine XA_skipp 10 31 rfl (by kernel_rfl) (by kernel_rfl) (by kernel_rfl) (fun _ _ _ _ h => h) rfl rfl rfl rfl rfl ?_
          refine XA_skipp 11 31 rfl (by kernel_rfl) (by kernel_rfl) (by kernel_rfl) (fun _ _ _ _ h => h) rfl rfl rfl rfl rfl ?_
          refine XA_skipp 12 31 rfl (by kernel_rfl) (by kernel_rfl) (by kernel_rfl) (fun _ _ _ _ h => h) rfl rfl rfl rfl rfl ?_
          refine XA_skipp 13 31 rfl (by kernel_rfl) (by kernel_rfl) (by kernel_rfl) (fun _ _ _ _ h => h) rfl rfl rfl rfl rfl ?_
          refine XA_skipp 14 31 rfl (by kernel_rfl) (by kernel_rfl) (by kernel_rfl) (fun _ _ _ _ h => h) rfl rfl rfl rfl rfl ?_
          refine XA_skipp 15 31 rfl (by kernel_rfl) (by kernel_rfl) (by kernel_rfl) (fun _ _ _ _ h => h) rfl rfl rfl rfl rfl ?_
          refine XA_skipp 16 31 rfl (by kernel_rfl) (by kernel_rfl) (by kernel_rfl) (fun _ _ _ _ h => h) rfl rfl rfl rfl rfl ?_
          refine XA_detp 17 rfl (by kernel_rfl) (by kernel_rfl) (by kernel_rfl) (fun _ _ _ _ h => h) .no (D_pureP rfl) rfl ?_
          refine XA_done (by kernel_rfl) ?_
          try simp only [List.cons_append, List.nil_append, List.append_nil]
          refine thenX_normal ?_
          refine X_cond_t rfl rfl ?_
          refine X_exit ?_
          refine thenX_exit ?_
          refine inBlk_here ?_
          exact ⟨[blk bx [.int .i64 x.res, .slice x.tasks.oad x.tasks.l.length x.tasks.c, .slice x.modes.oad x.modes.l.length x.modes.c, .slice x.edges.oad x.edges.l.length x.edges.c] 26, blk bw (encWay w) 81, blk b1 [.pointer (some ⟨c, 0, none⟩)] 30, blk c (crC (z1)) 110, many 16 (rowS z1.jf), blk b2 [.int .i64 (n : Int)] 3, Ki, K], _, (by with_reducible repeat first | exact .nil _ | exact .here _ _ | exact Take.self _ | apply Take.cons | apply Out.there | apply Take.skip | exact Take.pre _ _ | apply Out.app), ⟨z1, ⟨by rw [relL_s hget, rel1_no (fun e q => absurd (List.getElem?_eq_some_iff.1 q).1 (by omega))]; exact hL1, hn1⟩, rfl⟩⟩
        · try simp only [decide_eq_true_eq, decide_eq_false_iff_not, Bool.not_eq_true', Bool.not_eq_false', beq_iff_eq, bne_iff_ne, beq_eq_false_iff_ne, bne_eq_false_iff_eq, Int.not_lt, Int.not_le, gt_iff_lt, ge_iff_le, ne_eq] at h2
          obtain ⟨e, he⟩ : ∃ e, x.tasks.l[k]? = some e := ⟨_, List.getElem?_eq_getElem (by omega)⟩
          have hC := hT.c he
          have hcw := costW_in (w := w) hC.2.2.1
          have hk16 := (hT.at_ he).1
          refine XA_det 6 rfl (by kernel_rfl) (by kernel_rfl) (by kernel_rfl) (by kernel_rfl) (fun _ _ _ _ h => h) (.yes 31 rfl rfl rfl) (D_ldso (vs := encWay w) rfl (by with_reducible repeat first | exact .here _ _ | apply Out.there | apply Out.app) tk_81 rfl (by rfl)) rfl ?_
          refine XA_detp 7 rfl (by kernel_rfl) (by kernel_rfl) (by kernel_rfl) (fun _ _ _ _ h => h) (.yes 31 rfl rfl rfl) (D_pureP rfl) rfl ?_
          refine XA_det 8 rfl (by kernel_rfl) (by kernel_rfl) (by kernel_rfl) (by kernel_rfl) (fun _ _ _ _ h => h) (.yes 31 rfl rfl rfl) (D_ldo rfl (by with_reducible repeat first | exact .here _ _ | apply Out.there | apply Out.app) tk_3 (by rfl)) rfl ?_
          refine XA_detp 9 rfl (by kernel_rfl) (by kernel_rfl) (by kernel_rfl) (fun _ _ _ _ h => h) (.yes 31 rfl rfl rfl) (D_fldP rfl fld_26_1 (o' := 1) rfl) rfl ?_
          refine XA_det 10 rfl (by kernel_rfl) (by kernel_rfl) (by kernel_rfl) (by kernel_rfl) (fun _ _ _ _ h => h) (.yes 31 rfl rfl rfl) (D_ldo rfl (by with_reducible repeat first | exact .here _ _ | apply Out.there | apply Out.app) tk_22 (by rfl)) rfl ?_
          refine XA_detp 11 rfl (by kernel_rfl) (by kernel_rfl) (by kernel_rfl) (fun _ _ _ _ h => h) (.yes 31 rfl rfl rfl) (D_pureP rfl) rfl ?_
          refine XA_detp 12 rfl (by kernel_rfl) (by kernel_rfl) (by kernel_rfl) (fun _ _ _ _ h => h) (.yes 31 rfl rfl rfl) (D_idxSoP rfl rfl slc_22 (x.tasks).nil0 rfl (by omega) rfl) rfl ?_
          refine XA_detp 13 rfl (by kernel_rfl) (by kernel_rfl) (by kernel_rfl) (fun _ _ _ _ h => h) (.yes 31 rfl rfl rfl) (D_fldAP rfl fld_48_0 rfl) rfl ?_
          refine XA_det 14 rfl (by kernel_rfl) (by kernel_rfl) (by kernel_rfl) (by kernel_rfl) (fun _ _ _ _ h => h) (.yes 31 rfl rfl rfl) (D_ela (enc := encT) (sz := 11) (i := k) (k := 0) (fun _ => rfl) rfl (by with_reducible repeat first | exact .here _ _ | apply Out.there | apply Out.app) hx.tasks tk_3 he rfl) rfl ?_
          refine XA_one 15 (by kernel_rfl) ?_
          refine XO_callv rfl (.yes 31 rfl rfl rfl) en_92 rfl (wdue w hw k (by omega) (n : Int) (e 0) (by omega) hC.1.1) rfl ?_
          refine XA_detp 16 rfl (by kernel_rfl) (by kernel_rfl) (by kernel_rfl) (fun _ _ _ _ h => h) (.yes 31 rfl rfl rfl) (D_pureP rfl) rfl ?_
          refine XA_detp 17 rfl (by kernel_rfl) (by kernel_rfl) (by kernel_rfl) (fun _ _ _ _ h => h) .no (D_pureP rfl) rfl ?_
          refine XA_done (by kernel_rfl) ?_
          try simp only [List.cons_append, List.nil_append, List.append_nil]
          refine thenX_normal ?_
          refine X_cond rfl (fun h3 => ?_) (fun h3 => ?_)
          · try simp only [decide_eq_true_eq, decide_eq_false_iff_not, Bool.not_eq_true', Bool.not_eq_false', beq_iff_eq, bne_iff_ne, beq_eq_false_iff_ne, bne_eq_false_iff_eq, Int.not_lt, Int.not_le, gt_iff_lt, ge_iff_le, ne_eq] at h3
            refine X_exit ?_
            refine thenX_exit ?_
            refine inBlk_here ?_
            exact ⟨[blk bx [.int .i64 x.res, .slice x.tasks.oad x.tasks.l.length x.tasks.c, .slice x.modes.oad x.modes.l.length x.modes.c, .slice x.edges.oad x.edges.l.length x.edges.c] 26, blk bw (encWay w) 81, blk b1 [.pointer (some ⟨c, 0, none⟩)] 30, blk c (crC (z1)) 110, many 16 (rowS z1.jf), blk b2 [.int .i64 (n : Int)] 3, Ki, K], _, (by with_reducible repeat first | exact .nil _ | exact .here _ _ | exact Take.self _ | apply Take.cons | apply Out.there | apply Take.skip | exact Take.pre _ _ | apply Out.app), ⟨z1, ⟨by rw [relL_s hget, rel1_no (fun e2 q => by rw [Int.toNat_natCast, he] at q; cases q; rw [Int.toNat_natCast, ← hcn, hn1]; exact h3)]; exact hL1, hn1⟩, rfl⟩⟩
          · try simp only [decide_eq_true_eq, decide_eq_false_iff_not, Bool.not_eq_true', Bool.not_eq_false', beq_iff_eq, bne_iff_ne, beq_eq_false_iff_ne, bne_eq_false_iff_eq, Int.not_lt, Int.not_le, gt_iff_lt, ge_iff_le, ne_eq] at h3
            refine X_skip ?_
            refine thenX_normal ?_
            refine X_seq ?_
            refine X_region ?_
            refine XL_det .no (D_fld rfl fld_26_1 (o' := 1) rfl) rfl ?_
            refine XL_det .no (D_ldo rfl (by with_reducible repeat first | exact .here _ _ | apply Out.there | apply Out.app) tk_22 (by rfl)) rfl ?_
            refine XL_det .no (D_pure rfl) rfl ?_
            refine XL_det .no (D_idxSo rfl rfl slc_22 (x.tasks).nil0 rfl (by omega) rfl) rfl ?_
            refine XL_det .no (D_els (enc := encT) (sz := 11) (i := k) (fun _ => rfl) rfl (by with_reducible repeat first | exact .here _ _ | apply Out.there | apply Out.app) hx.tasks tk_48 he) rfl ?_
            refine XL_alloc .no zero_48 rfl (fun b3 => ?_)
            refine XL_efd .no (F_stw rfl rfl rfl (by with_reducible repeat first | exact .here _ _ | apply Out.there | apply Out.app) tk_48 rfl rfl) ?_
            refine XL_then ?_
            refine X_seq ?_
            refine X_region ?_
            refine XL_det .no (D_ldso (vs := encWay w) rfl (by with_reducible repeat first | exact .here _ _ | apply Out.there | apply Out.app) tk_81 rfl (by rfl)) rfl ?_
            refine XL_det .no (D_ldso (vs := encT e) rfl (by with_reducible repeat first | exact .here _ _ | apply Out.there | apply Out.app) tk_48 rfl (by rfl)) rfl ?_
            refine XL_callv .no en_93 rfl (wcost w e hC.2.2.1) rfl ?_
            refine XL_det .no (D_pure rfl) rfl ?_
            refine XL_then ?_
            refine X_draw [blk b1 [.pointer (some ⟨c, 0, none⟩)] 30, blk b2 [.int .i64 (n : Int)] 3, blk b3 (encT e) 48] mixed (by with_reducible repeat first | exact .nil _ | exact .here _ _ | exact Take.self _ | apply Take.cons | apply Out.there | apply Take.skip | exact Take.pre _ _ | apply Out.app) ?_
            refine XA_det 0 rfl (by kernel_rfl) (by kernel_rfl) (by kernel_rfl) (by kernel_rfl) (fun _ _ _ _ h => h) .no (D_ldo rfl (by with_reducible repeat first | exact .here _ _ | apply Out.there | apply Out.app) tk_30 (by rfl)) rfl ?_
            refine XA_detp 1 rfl (by kernel_rfl) (by kernel_rfl) (by kernel_rfl) (fun _ _ _ _ h => h) .no (D_pureP rfl) rfl ?_
            refine XA_det 2 rfl (by kernel_rfl) (by kernel_rfl) (by kernel_rfl) (by kernel_rfl) (fun _ _ _ _ h => h) .no (D_ldso (vs := encT e) rfl (by with_reducible repeat first | exact .here _ _ | apply Out.there | apply Out.app) tk_48 rfl (by rfl)) rfl ?_
            refine XA_det 3 rfl (by kernel_rfl) (by kernel_rfl) (by kernel_rfl) (by kernel_rfl) (fun _ _ _ _ h => h) .no (D_ldo rfl (by with_reducible repeat first | exact .here _ _ | apply Out.there | apply Out.app) tk_3 (by rfl)) rfl ?_
            refine XA_detp 4 rfl (by kernel_rfl) (by kernel_rfl) (by kernel_rfl) (fun _ _ _ _ h => h) .no (D_pureP rfl) rfl ?_
            refine XA_det 5 rfl (by kernel_rfl) (by kernel_rfl) (by kernel_rfl) (by kernel_rfl) (fun _ _ _ _ h => h) .no (D_ldso (vs := encT e) rfl (by with_reducible repeat first | exact .here _ _ | apply Out.there | apply Out.app) tk_48 rfl (by rfl)) rfl ?_
            refine XA_detp 6 rfl (by kernel_rfl) (by kernel_rfl) (by kernel_rfl) (fun _ _ _ _ h => h) .no (D_pureP rfl) rfl ?_
            refine XA_one 7 (by kernel_rfl) ?_
            refine XO_callc rfl .no en_94 rfl (by with_reducible repeat first | exact .nil _ | apply App.cons) (wsec e (costW w e) (by omega) hC.2.2.2.2) (by with_reducible repeat first | exact .nil _ | exact .here _ _ | exact Take.self _ | apply Take.cons | apply Out.there | apply Take.skip | exact Take.pre _ _ | apply Out.app) rfl ?_
            rintro _ _ ⟨x0, ⟨hx0, hx0o⟩, rfl, rfl⟩
            simp only [List.cons_append, List.nil_append]
            refine ⟨[row (.slice x0.oad x0.l.length x0.c) 123 3 x0.l.length (x0.l.flatMap encS), obj ly1 (.loop rec2), blk bx [.int .i64 x.res, .slice x.tasks.oad x.tasks.l.length x.tasks.c, .slice x.modes.oad x.modes.l.length x.modes.c, .slice x.edges.oad x.edges.l.length x.edges.c] 26, blk bw (encWay w) 81, blk c (crC (z1)) 110, many 16 (rowS z1.jf), Ki, K], _, _, (by with_reducible repeat first | exact .nil _ | apply App.cons), (by with_reducible repeat first | exact .nil _ | exact .here _ _ | exact Take.self _ | apply Take.cons | apply Out.there | apply Take.skip | exact Take.pre _ _ | apply Out.app), ?_⟩
            refine XA_one 8 (by kernel_rfl) ?_
            refine XO_callc rfl .no en_16 rfl (by with_reducible repeat first | exact .nil _ | apply App.cons) (jnew (k : Int) (n : Int) e (costW w e) x0 (Rd_own hx0o rfl) hC.2.2.2.1 (by omega) (by omega) (by omega)) (by with_reducible repeat first | exact .nil _ | exact .here _ _ | exact Take.self _ | apply Take.cons | apply Out.there | apply Take.skip | exact Take.pre _ _ | apply Out.app) rfl ?_
            rintro _ _ ⟨x1, ⟨hx1, hx1o⟩, rfl, rfl⟩
            simp only [List.cons_append, List.nil_append]
            refine ⟨[row (.slice x1.oad x1.l.length x1.c) 123 3 x1.l.length (x1.l.flatMap encS), obj ly1 (.loop rec2), blk bx [.int .i64 x.res, .slice x.tasks.oad x.tasks.l.length x.tasks.c, .slice x.modes.oad x.modes.l.length x.modes.c, .slice x.edges.oad x.edges.l.length x.edges.c] 26, blk bw (encWay w) 81, blk c (crC (z1)) 110, many 16 (rowS z1.jf), Ki, K], _, _, (by with_reducible repeat first | exact .nil _ | apply App.cons), (by with_reducible repeat first | exact .nil _ | exact .here _ _ | exact Take.self _ | apply Take.cons | apply Out.there | apply Take.skip | exact Take.pre _ _ | apply Out.app), ?_⟩
            refine XA_one 9 (by kernel_rfl) ?_
            refine XO_callc rfl .no en_15 rfl (by with_reducible repeat first | exact .nil _ | apply App.cons) (srelease c z1 (Kj := row (.slice x1.oad x1.l.length x1.c) 123 3 x1.l.length (x1.l.flatMap encS)) (JT k n w e x1) (Rd_own hx1o rfl) hx1o (by show x1.l.length ≤ 1000; rw [hx1]; have : (secs e (min (max (costW w e) 1) (e 2)) 0 0 x0.l).length ≤ 8 := secs_len (T := e) (cost := min (max (costW w e) 1) (e 2)) x0.l 0 0 (by decide); omega) hL1.ok hK) (by with_reducible repeat first | exact .nil _ | exact .here _ _ | exact Take.self _ | apply Take.cons | apply Out.there | apply Take.skip | exact Take.pre _ _ | apply Out.app) rfl ?_
            rintro _ _ ⟨a, ⟨ha, hao, rfl⟩, rfl⟩
            simp only [List.cons_append, List.nil_append]
            refine ⟨[blk c (crC ((relC z1 (JT k n w e x1) a))) 110, many 16 (rowS (relC z1 (JT k n w e x1) a).jf), obj ly1 (.loop rec2), blk bx [.int .i64 x.res, .slice x.tasks.oad x.tasks.l.length x.tasks.c, .slice x.modes.oad x.modes.l.length x.modes.c, .slice x.edges.oad x.edges.l.length x.edges.c] 26, blk bw (encWay w) 81, Ki, K], _, _, (by with_reducible repeat first | exact .nil _ | apply App.cons), (by with_reducible repeat first | exact .nil _ | exact .here _ _ | exact Take.self _ | apply Take.cons | apply Out.there | apply Take.skip | exact Take.pre _ _ | apply Out.app), ?_⟩
            refine XA_done (by kernel_rfl) ?_
            try simp only [List.cons_append, List.nil_append, List.append_nil]
            refine inBlk_normal ?_
            have hlr := Lk.rel hT hL1 he (by rw [← hcn, hn1]; exact h3) (x := x1) (a := a) (by rw [hx1, hx0]) ha hao
            rw [show JN k z1 e (costJ w e) x1 = (JT k n w e x1) from by show JC.mk _ _ _ _ _ _ = _; rw [hn1]] at hlr
            exact ⟨[blk bx [.int .i64 x.res, .slice x.tasks.oad x.tasks.l.length x.tasks.c, .slice x.modes.oad x.modes.l.length x.modes.c, .slice x.edges.oad x.edges.l.length x.edges.c] 26, blk bw (encWay w) 81, blk b1 [.pointer (some ⟨c, 0, none⟩)] 30, blk c (crC ((relC z1 (JT k n w e x1) a))) 110, many 16 (rowS (relC z1 (JT k n w e x1) a).jf), blk b2 [.int .i64 (n : Int)] 3, Ki, K], _, (by with_reducible repeat first | exact .nil _ | exact .here _ _ | exact Take.self _ | apply Take.cons | apply Out.there | apply Take.skip | exact Take.pre _ _ | apply Out.app), ⟨_, ⟨by rw [relL_s hget]; exact hlr, by rw [relC_now]; exact hn1⟩, rfl⟩⟩
      · intro dd0 S2 hJ1
        obtain ⟨z1, ⟨hL1, hn1⟩, rfl⟩ := hJ1
        rw [List.length_map, List.take_length] at hL1
        simp only [List.cons_append, List.nil_append]
        refine ⟨_, fun w hw => St.dfrs_cons (by with_reducible repeat first | exact .nil _ | exact .here _ _ | exact Take.self _ | apply Take.cons | apply Out.there | apply Take.skip | exact Take.pre _ _ | apply Out.app) hw, ?_⟩
        refine inBlk_normal ?_
        refine thenX_normal ?_
        refine X_seq ?_
        refine X_draw [blk b1 [.pointer (some ⟨c, 0, none⟩)] 30, blk b2 [.int .i64 (n : Int)] 3] mixed (by with_reducible repeat first | exact .nil _ | exact .here _ _ | exact Take.self _ | apply Take.cons | apply Out.there | apply Take.skip | exact Take.pre _ _ | apply Out.app) ?_
        refine XA_detp 0 rfl (by kernel_rfl) (by kernel_rfl) (by kernel_rfl) (fun _ _ _ _ h => h) .no (D_pureP rfl) rfl ?_
        refine XA_det 1 rfl (by kernel_rfl) (by kernel_rfl) (by kernel_rfl) (by kernel_rfl) (fun _ _ _ _ h => h) .no (D_ldo rfl (by with_reducible repeat first | exact .here _ _ | apply Out.there | apply Out.app) tk_3 (by rfl)) rfl ?_
        refine XA_det 2 rfl (by kernel_rfl) (by kernel_rfl) (by kernel_rfl) (by kernel_rfl) (fun _ _ _ _ h => h) .no (D_ldo rfl (by with_reducible repeat first | exact .here _ _ | apply Out.there | apply Out.app) tk_30 (by rfl)) rfl ?_
        refine XA_one 3 (by kernel_rfl) ?_
        refine XO_callc rfl .no en_20 rfl (by with_reducible repeat first | exact .nil _ | apply App.cons) (stick c z1 hL1.ok hK) (by with_reducible repeat first | exact .nil _ | exact .here _ _ | exact Take.self _ | apply Take.cons | apply Out.there | apply Take.skip | exact Take.pre _ _ | apply Out.app) rfl ?_
        rintro _ _ ⟨rfl, rfl⟩
        simp only [List.cons_append, List.nil_append]
        refine ⟨blk c (crC ((tickC z1).1)) 110 :: many 16 (rowS (tickC z1).1.jf) :: dfrs (dd0 :: dl) :: blk bx [.int .i64 x.res, .slice x.tasks.oad x.tasks.l.length x.tasks.c, .slice x.modes.oad x.modes.l.length x.modes.c, .slice x.edges.oad x.edges.l.length x.edges.c] 26 :: blk bs [.int .u32 s.toNat] 37 :: blk bm [.int .i64 mny] 3 :: blk bw (encWay w) 81 :: K :: Ki :: S1, _, _, (by with_reducible repeat first | exact .nil _ | apply App.cons), (by with_reducible repeat first | exact .nil _ | exact .here _ _ | exact Take.self _ | apply Take.cons | apply Out.there | apply Take.skip | exact Take.pre _ _ | apply Out.app), ?_⟩
        refine XA_one 4 (by kernel_rfl) ?_
        have hyy := hy _ S1 (by rw [xsT_len]; exact hnl) hJ
        rw [xsT_get hnl] at hyy
        obtain ⟨hLt, hrn⟩ := hL1.tick (by omega)
        rw [show ranC x.tasks.l w s n = (tickC z1).2 from hrn.symm] at hyy
        refine XO_yield rfl .no rfl rfl (by with_reducible repeat first | exact .nil _ | apply App.cons) hyy (by with_reducible repeat first | exact .nil _ | exact .here _ _ | exact Take.self _ | apply Take.cons | apply Out.there | apply Take.skip | exact Take.pre _ _ | apply Out.app) rfl ?_
        rintro bb S2 hp
        refine ⟨blk c (crC ((tickC z1).1)) 110 :: many 16 (rowS (tickC z1).1.jf) :: dfrs (dd0 :: dl) :: blk bx [.int .i64 x.res, .slice x.tasks.oad x.tasks.l.length x.tasks.c, .slice x.modes.oad x.modes.l.length x.modes.c, .slice x.edges.oad x.edges.l.length x.edges.c] 26 :: blk bs [.int .u32 s.toNat] 37 :: blk bm [.int .i64 mny] 3 :: blk bw (encWay w) 81 :: K :: Ki :: S2, _, _, (by with_reducible repeat first | exact .nil _ | apply App.cons), (by with_reducible repeat first | exact .nil _ | exact .here _ _ | exact Take.self _ | apply Take.cons | apply Out.there | apply Take.skip | exact Take.pre _ _ | apply Out.app), ?_⟩
        refine XA_detp 5 rfl (by kernel_rfl) (by kernel_rfl) (by kernel_rfl) (fun _ _ _ _ h => h) .no (D_pureP rfl) rfl ?_
        refine XA_done (by kernel_rfl) ?_
        try simp only [List.cons_append, List.nil_append, List.append_nil]
        refine thenX_normal ?_
        refine X_cond rfl (fun h4 => ?_) (fun h4 => ?_)
        · try simp only [decide_eq_true_eq, decide_eq_false_iff_not, Bool.not_eq_true', Bool.not_eq_false', beq_iff_eq, bne_iff_ne, beq_eq_false_iff_ne, bne_eq_false_iff_eq, Int.not_lt, Int.not_le, gt_iff_lt, ge_iff_le, ne_eq] at h4
          refine X_undfrs (by with_reducible repeat first | exact .nil _ | exact .here _ _ | exact Take.self _ | apply Take.cons | apply Out.there | apply Take.skip | exact Take.pre _ _ | apply Out.app) ?_
          refine X_ret ?_
          refine inBlk_ret ?_
          refine thenX_ret ?_
          refine loopQd_ret ?_
          refine inBlk_ret ?_
          refine ret_ok (show Take (List.map dfr (dd0 :: dl)) _ _ from Take.pre _ _) (res_none rfl) ?_
          obtain ⟨h, _⟩ | ⟨_, hp⟩ := hp
          · rw [h] at h4; cases h4
          exact ⟨blk bx [.int .i64 x.res, .slice x.tasks.oad x.tasks.l.length x.tasks.c, .slice x.modes.oad x.modes.l.length x.modes.c, .slice x.edges.oad x.edges.l.length x.edges.c] 26 :: blk bs [.int .u32 s.toNat] 37 :: blk bm [.int .i64 mny] 3 :: blk bw (encWay w) 81 :: K :: Ki :: S2, ⟨S2, rfl, .inr ⟨n, by rw [xsT_len]; exact hnl, hp⟩⟩, _, (by with_reducible repeat first | exact .nil _ | exact .here _ _ | exact Take.self _ | apply Take.cons | apply Out.there | apply Take.skip | exact Take.pre _ _ | apply Out.app)⟩
        · try simp only [decide_eq_true_eq, decide_eq_false_iff_not, Bool.not_eq_true', Bool.not_eq_false', beq_iff_eq, bne_iff_ne, beq_eq_false_iff_ne, bne_eq_false_iff_eq, Int.not_lt, Int.not_le, gt_iff_lt, ge_iff_le, ne_eq] at h4
          obtain ⟨_, hp⟩ | ⟨h, _⟩ := hp
          rotate_left
          · rw [h] at h4; cases h4
          refine X_skip ?_
          refine inBlk_normal ?_
          refine thenX_normal ?_
          refine X_region ?_
          refine XL_det .no (D_add rfl rfl (by omega) (by omega)) rfl ?_
          refine XL_det .no (D_pure rfl) rfl ?_
          refine XL_nil ?_
          refine loopQd_next (n + 1, (tickC z1).1, S2, dd0 :: dl) rfl ?_ ?_ ?_ ?_
          · (try dsimp only); exact ⟨hnl, hLt, by rw [tick_now]; omega, hp⟩
          · (try dsimp only); omega
          · refine ⟨?_, ?_, ?_, ?_, ?_, ?_, ?_, ?_, trivial⟩ <;> rfl
          · (try dsimp only); exact ⟨_, (by with_reducible repeat first | exact .nil _ | exact .here _ _ | exact Take.self _ | apply Take.cons | apply Out.there | apply Take.skip | exact Take.pre _ _ | apply Out.app)⟩
      · intro dd0 c i S2 hi h
        exact h.elim
    · try simp only [decide_eq_true_eq, decide_eq_false_iff_not, Bool.not_eq_true', Bool.not_eq_false', beq_iff_eq, bne_iff_ne, beq_eq_false_iff_ne, bne_eq_false_iff_eq, Int.not_lt, Int.not_le, gt_iff_lt, ge_iff_le, ne_eq] at h1
      refine X_undfrs (by with_reducible repeat first | exact .nil _ | exact .here _ _ | exact Take.self _ | apply Take.cons | apply Out.there | apply Take.skip | exact Take.pre _ _ | apply Out.app) ?_
      refine X_exit ?_
      refine thenX_exit ?_
      refine loopQd_exit ?_
      refine inBlk_here ?_
      refine ret_okn (show Take (List.map dfr dl) _ _ from Take.pre _ _) (res_none rfl) ?_
      have hn2 : n ≤ (min (max mny 0) 65536).toNat := hn
      have hie : n = nT mny := by unfold nT; omega
      subst hie
      exact ⟨blk bx [.int .i64 x.res, .slice x.tasks.oad x.tasks.l.length x.tasks.c, .slice x.modes.oad x.modes.l.length x.modes.c, .slice x.edges.oad x.edges.l.length x.edges.c] 26 :: blk bs [.int .u32 s.toNat] 37 :: blk bm [.int .i64 mny] 3 :: blk bw (encWay w) 81 :: K :: Ki :: S1, ⟨S1, rfl, .inl (by rw [xsT_len]; exact hJ)⟩, _, (by with_reducible repeat first | exact .nil _ | exact .here _ _ | exact Take.self _ | apply Take.cons | apply Out.there | apply Take.skip | exact Take.pre _ _ | apply Out.app)⟩

end Go.Proofs.YtkkdchgnknpceaaDoor
end

section
namespace Go.Proofs.YtkkdchgnknpceaaDoor
open Go Go.Sl
set_option linter.unusedVariables false
set_option linter.unusedSimpArgs false
set_option maxRecDepth 4000
variable {B : Nat} {K : Asrt B}
theorem en_69 : Go.Proofs.Enters Tryd.prog 69 := Go.Proofs.enters_of Tryd.func69 (by kernel_rfl) rfl
theorem en_91 : Go.Proofs.Enters Tryd.prog 91 := Go.Proofs.enters_of Tryd.func91 (by kernel_rfl) rfl
theorem fld_86_0 : fldOff Tryd.prog 86 0 = some 0 := by kernel_rfl
theorem fld_86_1 : fldOff Tryd.prog 86 1 = some 16 := by kernel_rfl
theorem fld_86_2 : fldOff Tryd.prog 86 2 = some 17 := by kernel_rfl
theorem tk_86 : tyK Tryd.prog 86 = some (true, 18) := by kernel_rfl
theorem zero_86 : zeroOf Tryd.prog 86 = some [.int .i64 0, .int .i64 0, .int .i64 0, .int .i64 0, .int .i64 0, .int .i64 0, .int .i64 0, .int .i64 0, .int .i64 0, .int .i64 0, .int .i64 0, .int .i64 0, .int .i64 0, .int .i64 0, .int .i64 0, .int .i64 0, .int .i64 0, .bool false] := by kernel_rfl
theorem zk_86 : (match Tryd.prog.underlying 86 with | some (.struct _) => (bldOf Tryd.prog 86).isSome | some (.array _ e) => (Tryd.prog.info? e).isSome | _ => false) = true := by kernel_rfl

structure SeenS where
  lg : Nat → Int
  dn : Int
  lt : Bool
abbrev encSeen (p : SeenS) : List Value := rowI 16 p.lg ++ [.int .i64 p.dn, .bool p.lt]
def seeN (ts : List (Nat → Int)) (w : Way) (s : BitVec 32) : Nat → SeenS
  | 0 => ⟨fun _ => 0, 0, false⟩
  | n + 1 => if (ranC ts w s n).over = true then ⟨upd (seeN ts w s n).lg (ranC ts w s n).task.toNat (max ((seeN ts w s n).lg (ranC ts w s n).task.toNat) (ranC ts w s n).within), (seeN ts w s n).dn + 1, (seeN ts w s n).lt || (ranC ts w s n).late⟩ else seeN ts w s n
section
variable {p : SeenS}
theorem seen_len : (encSeen p).length = 18 := by simp [rowF_len]
theorem seen_dn : (encSeen p)[16]? = some (.int .i64 p.dn) := app_get2 (n := 16) (k := 0) (rowF_len _ _ _) rfl
theorem seen_lt : (encSeen p)[17]? = some (.bool p.lt) := app_get2 (n := 16) (k := 1) (rowF_len _ _ _) rfl
theorem seen_lg {k : Nat} (h : k < 16) : (encSeen p)[0 + k * 1]? = some (.int .i64 (p.lg k)) := app_get1 (r16_get h)
theorem seen_setdn {v : Int} : (encSeen p).set 16 (.int .i64 v) = encSeen ⟨p.lg, v, p.lt⟩ := app_set2 (n := 16) (k := 0) (rowF_len _ _ _)
theorem seen_setlt {v : Bool} : (encSeen p).set 17 (.bool v) = encSeen ⟨p.lg, p.dn, v⟩ := app_set2 (n := 16) (k := 1) (rowF_len _ _ _)
theorem seen_setlg {k : Nat} (h : k < 16) {v : Int} : (encSeen p).set (0 + k * 1) (.int .i64 v) = encSeen ⟨upd p.lg k v, p.dn, p.lt⟩ := by
  show (rowI 16 p.lg ++ _).set _ _ = _
  rw [app_set1 (by rw [rowF_len]; omega), r16_set]
theorem seen_blt {k : Nat} (h : k < 18) : Nat.blt k (encSeen p).length = true := by rw [seen_len]; simpa using h
end
theorem seeN_in (ts : List (Nat → Int)) (w : Way) (s : BitVec 32) : ∀ n : Nat, 0 ≤ (seeN ts w s n).dn ∧ (seeN ts w s n).dn ≤ n
  | 0 => by show (0 : Int) ≤ 0 ∧ (0 : Int) ≤ _; omega
  | n + 1 => by
    have ih := seeN_in ts w s n
    rw [seeN]; split
    · show 0 ≤ _ + 1 ∧ _ + 1 ≤ _; omega
    · omega
theorem seeN_t {ts : List (Nat → Int)} {w : Way} {s : BitVec 32} {n k : Nat} (h : (ranC ts w s n).over = true) (hk : (ranC ts w s n).task = k) : seeN ts w s (n + 1) = ⟨upd (seeN ts w s n).lg k (max ((seeN ts w s n).lg k) (ranC ts w s n).within), (seeN ts w s n).dn + 1, (seeN ts w s n).lt || (ranC ts w s n).late⟩ := by
  rw [seeN, if_pos h, hk, Int.toNat_natCast]
theorem seeN_f {ts : List (Nat → Int)} {w : Way} {s : BitVec 32} {n : Nat} (h : (ranC ts w s n).over = false) : seeN ts w s (n + 1) = seeN ts w s n := by rw [seeN, if_neg (by rw [h]; decide)]
theorem ran_over {ts : List (Nat → Int)} {w : Way} {s : BitVec 32} (hT : TsOk ts) {n : Nat} (hn : n < 1000000) (h : (ranC ts w s n).over = true) : ∃ k : Nat, (ranC ts w s n).task = k ∧ k < 16 ∧ inS ts s k := by
  rcases ran_in (w := w) (s := s) hT (n := n) (by omega) with ⟨k, h1, h2, _⟩ | ⟨_, h2⟩
  · exact ⟨k, h1, by have := hT.n; have := h2.2; omega, h2⟩
  · rw [h] at h2; cases h2
/-- The first tick from one on in which nobody runs, below a bound. -/
def idleN (ts : List (Nat → Int)) (w : Way) (s : BitVec 32) (n : Nat) : Int × Bool := match (List.range n).find? (fun u => decide ((ranC ts w s u).task < 0)) with
  | some u => ((u : Int), true)
  | none => (0, false)
theorem idleN_s {ts : List (Nat → Int)} {w : Way} {s : BitVec 32} {i m : Nat} (hi : i < m) (hno : ∀ u, u < i → ¬ (ranC ts w s u).task < 0) (h : (ranC ts w s i).task < 0) : idleN ts w s m = ((i : Int), true) := by
  have : (List.range m).find? (fun u => decide ((ranC ts w s u).task < 0)) = some i := by
    rw [List.find?_range_eq_some]
    exact ⟨by simpa using h, by simpa using hi, fun j hj => by simpa using hno j hj⟩
  unfold idleN; rw [this]
theorem idleN_n {ts : List (Nat → Int)} {w : Way} {s : BitVec 32} {m : Nat} (hno : ∀ u, u < m → ¬ (ranC ts w s u).task < 0) : idleN ts w s m = (0, false) := by
  have : (List.range m).find? (fun u => decide ((ranC ts w s u).task < 0)) = none := by
    rw [List.find?_eq_none]; intro u hu; simpa using hno u (List.mem_range.1 hu)
  unfold idleN; rw [this]

theorem wLook {Ki : Asrt B} (x : Img) (hx : x.In Ki) (hT : TsOk x.tasks.l) (s : BitVec 32) (w : Way) (hw : WayOk w) (mny : Int) (hK : Rd K ⟨0, 0, none⟩ (tab32.map fun m => .int .u8 m)) (hd : Dup K) : Ctr Tryd.prog B 35 [x.v, .int .u32 s.toNat, .agg (encWay w).toArray, .int .i64 mny] [K, Ki] (fun v S => v = .agg (encSeen (seeN x.tasks.l w s (nT mny))).toArray ∧ S = [K, Ki]) := by
  refine Ctr_of_X (N := 47) Tryd.func35 rfl (by simp) rfl ?_
  intro w0 D0
  refine X_seq ?_
  refine X_region ?_
  refine XL_box (cs := [.int .i64 x.res, .slice x.tasks.oad x.tasks.l.length x.tasks.c, .slice x.modes.oad x.modes.l.length x.modes.c, .slice x.edges.oad x.edges.l.length x.edges.c]) .no rfl rfl rfl (fun b1 => ?_)
  refine XL_box (cs := encWay w) .no rfl rfl rfl (fun b2 => ?_)
  refine XL_alloc (cs := encSeen (seeN x.tasks.l w s 0)) .no zero_86 rfl (fun b3 => ?_)
  refine XL_then ?_
  refine X_seq ?_
  refine X_region ?_
  refine XL_det .no (D_zero (cs := encSeen (seeN x.tasks.l w s 0)) zero_86 zk_86) rfl ?_
  refine XL_alloc (cs := encSeen (seeN x.tasks.l w s 0)) .no zero_86 rfl (fun b4 => ?_)
  refine XL_efd .no (F_stw rfl rfl rfl (by with_reducible repeat first | exact .here _ _ | apply Out.there | apply Out.app) tk_86 rfl rfl) ?_
  refine XL_then ?_
  refine X_seq ?_
  refine X_seq ?_
  refine X_region ?_
  refine XL_det .no (D_ldso (vs := [.int .i64 x.res, .slice x.tasks.oad x.tasks.l.length x.tasks.c, .slice x.modes.oad x.modes.l.length x.modes.c, .slice x.edges.oad x.edges.l.length x.edges.c]) rfl (by with_reducible repeat first | exact .here _ _ | apply Out.there | apply Out.app) tk_26 rfl (by rfl)) rfl ?_
  refine XL_det .no (D_pure rfl) rfl ?_
  refine XL_det .no (D_ldso (vs := encWay w) rfl (by with_reducible repeat first | exact .here _ _ | apply Out.there | apply Out.app) tk_81 rfl (by rfl)) rfl ?_
  refine XL_det .no (D_pure rfl) rfl ?_
  refine XL_call .no en_69 rfl (wTicks x s w mny) (by with_reducible repeat first | exact .nil _ | exact .here _ _ | exact Take.self _ | apply Take.cons | apply Out.there | apply Take.skip | exact Take.pre _ _ | apply Out.app) rfl ?_
  rintro _ _ ⟨bx, bs, bm, bw, rfl, rfl⟩
  simp only [List.cons_append, List.nil_append]
  refine XL_then ?_
  refine X_block ?_
  refine X_range (own := [blk bx [.int .i64 x.res, .slice x.tasks.oad x.tasks.l.length x.tasks.c, .slice x.modes.oad x.modes.l.length x.modes.c, .slice x.edges.oad x.edges.l.length x.edges.c] 26, blk bs [.int .u32 s.toNat] 37, blk bm [.int .i64 mny] 3, blk bw (encWay w) 81, K, Ki]) (S1 := [blk b4 (encSeen (seeN x.tasks.l w s 0)) 86]) rfl en_91 (ticksItr bx bs bm bw x hx hT s w hw mny hK hd) (fun n S => True ∧ S = [blk b4 (encSeen (seeN x.tasks.l w s n)) 86]) (fun c n S => False) (show Take ([blk bx [.int .i64 x.res, .slice x.tasks.oad x.tasks.l.length x.tasks.c, .slice x.modes.oad x.modes.l.length x.modes.c, .slice x.edges.oad x.edges.l.length x.edges.c] 26, blk bs [.int .u32 s.toNat] 37, blk bm [.int .i64 mny] 3, blk bw (encWay w) 81, K, Ki, blk b4 (encSeen (seeN x.tasks.l w s 0)) 86]) _ _ from (by with_reducible repeat first | exact .nil _ | exact .here _ _ | exact Take.self _ | apply Take.cons | apply Out.there | apply Take.skip | exact Take.pre _ _ | apply Out.app)) (⟨trivial, rfl⟩) rfl (fun x hx => by obtain ⟨y, _, rfl⟩ := List.mem_map.1 hx; rfl) ?_ ?_ ?_
  · intro ly rec A2 n S2 hn hJ
    obtain ⟨_, rfl⟩ := hJ
    rw [xsT_len] at hn
    have hn6 := nT_in mny
    have hsn := seeN_in x.tasks.l w s n
    rw [xsT_get hn]
    refine X_region ?_
    refine XL_alloc .no zero_53 rfl (fun b5 => ?_)
    refine XL_efd .no (F_stw rfl rfl rfl (by with_reducible repeat first | exact .here _ _ | apply Out.there | apply Out.app) tk_53 rfl rfl) ?_
    refine XL_nil ?_
    refine ⟨rfl, _, _, .cons (by with_reducible repeat first | exact .here _ _ | apply Out.there | apply Out.app) (Take.self _), fun rec2 => ?_⟩
    refine X_block ?_
    refine X_seq ?_
    refine X_seq ?_
    refine X_region ?_
    refine XL_det .no (D_fld rfl fld_53_3 (o' := 3) rfl) rfl ?_
    refine XL_det .no (D_ldo (v := .bool (ranC x.tasks.l w s n).over) rfl (by with_reducible repeat first | exact .here _ _ | apply Out.there | apply Out.app) tk_4 (by rfl)) rfl ?_
    refine XL_det .no (D_pure rfl) rfl ?_
    refine XL_then ?_
    refine X_cond rfl (fun h1 => ?_) (fun h1 => ?_)
    · try simp only [decide_eq_true_eq, decide_eq_false_iff_not, Bool.not_eq_true', Bool.not_eq_false', beq_iff_eq, bne_iff_ne, beq_eq_false_iff_ne, bne_eq_false_iff_eq, Int.not_lt, Int.not_le, gt_iff_lt, ge_iff_le, ne_eq] at h1
      refine X_exit ?_
      refine thenX_exit ?_
      refine inBlk_here ?_
      exact ⟨[blk b4 (encSeen (seeN x.tasks.l w s n)) 86], _, (by with_reducible repeat first | exact .nil _ | exact .here _ _ | exact Take.self _ | apply Take.cons | apply Out.there | apply Take.skip | exact Take.pre _ _ | apply Out.app), ⟨trivial, by rw [seeN_f h1]⟩⟩
    · try simp only [decide_eq_true_eq, decide_eq_false_iff_not, Bool.not_eq_true', Bool.not_eq_false', beq_iff_eq, bne_iff_ne, beq_eq_false_iff_ne, bne_eq_false_iff_eq, Int.not_lt, Int.not_le, gt_iff_lt, ge_iff_le, ne_eq] at h1
      obtain ⟨k, hk, hk16, _⟩ := ran_over (w := w) (s := s) hT (n := n) (by omega) h1
      refine X_skip ?_
      refine thenX_normal ?_
      refine X_seq ?_
      refine X_region ?_
      refine XL_det .no (D_fld rfl fld_86_1 (o' := 16) rfl) rfl ?_
      refine XL_det .no (D_ldo (v := .int .i64 (seeN x.tasks.l w s n).dn) rfl (by with_reducible repeat first | exact .here _ _ | apply Out.there | apply Out.app) tk_3 (seen_dn)) rfl ?_
      refine XL_det .no (D_add rfl rfl (by omega) (by omega)) rfl ?_
      refine XL_det .no (D_fld rfl fld_86_1 (o' := 16) rfl) rfl ?_
      refine XL_efd .no (F_st (k := 16) (cs' := encSeen (⟨(seeN x.tasks.l w s n).lg, (seeN x.tasks.l w s n).dn + 1, (seeN x.tasks.l w s n).lt⟩ : SeenS)) rfl rfl rfl (by with_reducible repeat first | exact .here _ _ | apply Out.there | apply Out.app) tk_3 (seen_blt (by omega)) (seen_setdn)) ?_
      refine XL_then ?_
      refine X_seq ?_
      refine X_region ?_
      refine XL_det .no (D_fld rfl fld_86_2 (o' := 17) rfl) rfl ?_
      refine XL_det .no (D_ldo (v := .bool (seeN x.tasks.l w s n).lt) rfl (by with_reducible repeat first | exact .here _ _ | apply Out.there | apply Out.app) tk_4 (seen_lt (p := (⟨(seeN x.tasks.l w s n).lg, (seeN x.tasks.l w s n).dn + 1, (seeN x.tasks.l w s n).lt⟩ : SeenS)))) rfl ?_
      refine XL_det .no (D_pure rfl) rfl ?_
      refine XL_split (t := 29) rfl (fun h2 => ?_) (fun h2 => ?_)
      · try simp only [decide_eq_true_eq, decide_eq_false_iff_not, Bool.not_eq_true', Bool.not_eq_false', beq_iff_eq, bne_iff_ne, beq_eq_false_iff_ne, bne_eq_false_iff_eq, Int.not_lt, Int.not_le, gt_iff_lt, ge_iff_le, ne_eq] at h2
        refine XL_skip 29 rfl rfl rfl rfl rfl ?_
        refine XL_skip 29 rfl rfl rfl rfl rfl ?_
        refine XL_det .no (D_pure rfl) rfl ?_
        refine XL_det .no (D_fld rfl fld_86_2 (o' := 17) rfl) rfl ?_
        refine XL_efd .no (F_st (k := 17) (cs' := encSeen (⟨(seeN x.tasks.l w s n).lg, (seeN x.tasks.l w s n).dn + 1, (seeN x.tasks.l w s n).lt || (ranC x.tasks.l w s n).late⟩ : SeenS)) rfl rfl rfl (by with_reducible repeat first | exact .here _ _ | apply Out.there | apply Out.app) tk_4 (seen_blt (by omega)) ((seen_setlt (p := (⟨(seeN x.tasks.l w s n).lg, (seeN x.tasks.l w s n).dn + 1, (seeN x.tasks.l w s n).lt⟩ : SeenS))).trans (by rw [h2, Bool.true_or]))) ?_
        refine XL_then ?_
        refine X_draw [blk b5 (encR (ranC x.tasks.l w s n)) 53, blk b4 (encSeen (⟨(seeN x.tasks.l w s n).lg, (seeN x.tasks.l w s n).dn + 1, (seeN x.tasks.l w s n).lt || (ranC x.tasks.l w s n).late⟩ : SeenS)) 86] mixed (by with_reducible repeat first | exact .nil _ | exact .here _ _ | exact Take.self _ | apply Take.cons | apply Out.there | apply Take.skip | exact Take.pre _ _ | apply Out.app) ?_
        refine XA_detp 0 rfl (by kernel_rfl) (by kernel_rfl) (by kernel_rfl) (fun _ _ _ _ h => h) .no (D_fldP rfl fld_53_0 (o' := 0) rfl) rfl ?_
        refine XA_det 1 rfl (by kernel_rfl) (by kernel_rfl) (by kernel_rfl) (by kernel_rfl) (fun _ _ _ _ h => h) .no (D_ldo (v := .int .i64 (k : Int)) rfl (by with_reducible repeat first | exact .here _ _ | apply Out.there | apply Out.app) tk_3 (by rw [← hk]; rfl)) rfl ?_
        refine XA_detp 2 rfl (by kernel_rfl) (by kernel_rfl) (by kernel_rfl) (fun _ _ _ _ h => h) .no (D_fldP rfl fld_53_0 (o' := 0) rfl) rfl ?_
        refine XA_det 3 rfl (by kernel_rfl) (by kernel_rfl) (by kernel_rfl) (by kernel_rfl) (fun _ _ _ _ h => h) .no (D_ldo (v := .int .i64 (k : Int)) rfl (by with_reducible repeat first | exact .here _ _ | apply Out.there | apply Out.app) tk_3 (by rw [← hk]; rfl)) rfl ?_
        refine XA_detp 4 rfl (by kernel_rfl) (by kernel_rfl) (by kernel_rfl) (fun _ _ _ _ h => h) .no (D_fldP rfl fld_86_0 (o' := 0) rfl) rfl ?_
        refine XA_detp 5 rfl (by kernel_rfl) (by kernel_rfl) (by kernel_rfl) (fun _ _ _ _ h => h) .no (D_idxAP rfl rfl arr_38 rfl (by omega) rfl) rfl ?_
        refine XA_det 6 rfl (by kernel_rfl) (by kernel_rfl) (by kernel_rfl) (by kernel_rfl) (fun _ _ _ _ h => h) .no (D_ldo (v := .int .i64 ((seeN x.tasks.l w s n).lg k)) rfl (by with_reducible repeat first | exact .here _ _ | apply Out.there | apply Out.app) tk_3 (seen_lg (p := (⟨(seeN x.tasks.l w s n).lg, (seeN x.tasks.l w s n).dn + 1, (seeN x.tasks.l w s n).lt || (ranC x.tasks.l w s n).late⟩ : SeenS)) hk16)) rfl ?_
        refine XA_detp 7 rfl (by kernel_rfl) (by kernel_rfl) (by kernel_rfl) (fun _ _ _ _ h => h) .no (D_fldP rfl fld_53_4 (o' := 4) rfl) rfl ?_
        refine XA_det 8 rfl (by kernel_rfl) (by kernel_rfl) (by kernel_rfl) (by kernel_rfl) (fun _ _ _ _ h => h) .no (D_ldo (v := .int .i64 (ranC x.tasks.l w s n).within) rfl (by with_reducible repeat first | exact .here _ _ | apply Out.there | apply Out.app) tk_3 (by rfl)) rfl ?_
        refine XA_det 9 rfl (by kernel_rfl) (by kernel_rfl) (by kernel_rfl) (by kernel_rfl) (fun _ _ _ _ h => h) .no (D_max rfl rfl) rfl ?_
        refine XA_detp 10 rfl (by kernel_rfl) (by kernel_rfl) (by kernel_rfl) (fun _ _ _ _ h => h) .no (D_fldP rfl fld_86_0 (o' := 0) rfl) rfl ?_
        refine XA_detp 11 rfl (by kernel_rfl) (by kernel_rfl) (by kernel_rfl) (fun _ _ _ _ h => h) .no (D_idxAP rfl rfl arr_38 rfl (by omega) rfl) rfl ?_
        refine XA_one 12 (by kernel_rfl) ?_
        refine XO_efd rfl .no (by with_reducible repeat first | exact .nil _ | apply App.cons) (F_st (k := 0 + k * 1) (cs' := encSeen (⟨upd (seeN x.tasks.l w s n).lg k (max ((seeN x.tasks.l w s n).lg k) (ranC x.tasks.l w s n).within), (seeN x.tasks.l w s n).dn + 1, (seeN x.tasks.l w s n).lt || (ranC x.tasks.l w s n).late⟩ : SeenS)) rfl rfl rfl (by with_reducible repeat first | exact .here _ _ | apply Out.there | apply Out.app) tk_3 (seen_blt (by omega)) (seen_setlg (p := (⟨(seeN x.tasks.l w s n).lg, (seeN x.tasks.l w s n).dn + 1, (seeN x.tasks.l w s n).lt || (ranC x.tasks.l w s n).late⟩ : SeenS)) hk16)) (by kernel_rfl) ?_
        refine XA_done (by kernel_rfl) ?_
        try simp only [List.cons_append, List.nil_append, List.append_nil]
        refine inBlk_normal ?_
        exact ⟨[blk b4 (encSeen (⟨upd (seeN x.tasks.l w s n).lg k (max ((seeN x.tasks.l w s n).lg k) (ranC x.tasks.l w s n).within), (seeN x.tasks.l w s n).dn + 1, (seeN x.tasks.l w s n).lt || (ranC x.tasks.l w s n).late⟩ : SeenS)) 86], _, (by with_reducible repeat first | exact .nil _ | exact .here _ _ | exact Take.self _ | apply Take.cons | apply Out.there | apply Take.skip | exact Take.pre _ _ | apply Out.app), ⟨trivial, by rw [seeN_t h1 hk]⟩⟩
      · try simp only [decide_eq_true_eq, decide_eq_false_iff_not, Bool.not_eq_true', Bool.not_eq_false', beq_iff_eq, bne_iff_ne, beq_eq_false_iff_ne, bne_eq_false_iff_eq, Int.not_lt, Int.not_le, gt_iff_lt, ge_iff_le, ne_eq] at h2
        refine XL_det (.yes 29 rfl rfl rfl) (D_fld rfl fld_53_5 (o' := 5) rfl) rfl ?_
        refine XL_det (.yes 29 rfl rfl rfl) (D_ldo (v := .bool (ranC x.tasks.l w s n).late) rfl (by with_reducible repeat first | exact .here _ _ | apply Out.there | apply Out.app) tk_4 (by rfl)) rfl ?_
        refine XL_det .no (D_pure rfl) rfl ?_
        refine XL_det .no (D_fld rfl fld_86_2 (o' := 17) rfl) rfl ?_
        refine XL_efd .no (F_st (k := 17) (cs' := encSeen (⟨(seeN x.tasks.l w s n).lg, (seeN x.tasks.l w s n).dn + 1, (seeN x.tasks.l w s n).lt || (ranC x.tasks.l w s n).late⟩ : SeenS)) rfl rfl rfl (by with_reducible repeat first | exact .here _ _ | apply Out.there | apply Out.app) tk_4 (seen_blt (by omega)) ((seen_setlt (p := (⟨(seeN x.tasks.l w s n).lg, (seeN x.tasks.l w s n).dn + 1, (seeN x.tasks.l w s n).lt⟩ : SeenS))).trans (by rw [h2, Bool.false_or]))) ?_
        refine XL_then ?_
        refine X_draw [blk b5 (encR (ranC x.tasks.l w s n)) 53, blk b4 (encSeen (⟨(seeN x.tasks.l w s n).lg, (seeN x.tasks.l w s n).dn + 1, (seeN x.tasks.l w s n).lt || (ranC x.tasks.l w s n).late⟩ : SeenS)) 86] mixed (by with_reducible repeat first | exact .nil _ | exact .here _ _ | exact Take.self _ | apply Take.cons | apply Out.there | apply Take.skip | exact Take.pre _ _ | apply Out.app) ?_
        refine XA_detp 0 rfl (by kernel_rfl) (by kernel_rfl) (by kernel_rfl) (fun _ _ _ _ h => h) .no (D_fldP rfl fld_53_0 (o' := 0) rfl) rfl ?_
        refine XA_det 1 rfl (by kernel_rfl) (by kernel_rfl) (by kernel_rfl) (by kernel_rfl) (fun _ _ _ _ h => h) .no (D_ldo (v := .int .i64 (k : Int)) rfl (by with_reducible repeat first | exact .here _ _ | apply Out.there | apply Out.app) tk_3 (by rw [← hk]; rfl)) rfl ?_
        refine XA_detp 2 rfl (by kernel_rfl) (by kernel_rfl) (by kernel_rfl) (fun _ _ _ _ h => h) .no (D_fldP rfl fld_53_0 (o' := 0) rfl) rfl ?_
        refine XA_det 3 rfl (by kernel_rfl) (by kernel_rfl) (by kernel_rfl) (by kernel_rfl) (fun _ _ _ _ h => h) .no (D_ldo (v := .int .i64 (k : Int)) rfl (by with_reducible repeat first | exact .here _ _ | apply Out.there | apply Out.app) tk_3 (by rw [← hk]; rfl)) rfl ?_
        refine XA_detp 4 rfl (by kernel_rfl) (by kernel_rfl) (by kernel_rfl) (fun _ _ _ _ h => h) .no (D_fldP rfl fld_86_0 (o' := 0) rfl) rfl ?_
        refine XA_detp 5 rfl (by kernel_rfl) (by kernel_rfl) (by kernel_rfl) (fun _ _ _ _ h => h) .no (D_idxAP rfl rfl arr_38 rfl (by omega) rfl) rfl ?_
        refine XA_det 6 rfl (by kernel_rfl) (by kernel_rfl) (by kernel_rfl) (by kernel_rfl) (fun _ _ _ _ h => h) .no (D_ldo (v := .int .i64 ((seeN x.tasks.l w s n).lg k)) rfl (by with_reducible repeat first | exact .here _ _ | apply Out.there | apply Out.app) tk_3 (seen_lg (p := (⟨(seeN x.tasks.l w s n).lg, (seeN x.tasks.l w s n).dn + 1, (seeN x.tasks.l w s n).lt || (ranC x.tasks.l w s n).late⟩ : SeenS)) hk16)) rfl ?_
        refine XA_detp 7 rfl (by kernel_rfl) (by kernel_rfl) (by kernel_rfl) (fun _ _ _ _ h => h) .no (D_fldP rfl fld_53_4 (o' := 4) rfl) rfl ?_
        refine XA_det 8 rfl (by kernel_rfl) (by kernel_rfl) (by kernel_rfl) (by kernel_rfl) (fun _ _ _ _ h => h) .no (D_ldo (v := .int .i64 (ranC x.tasks.l w s n).within) rfl (by with_reducible repeat first | exact .here _ _ | apply Out.there | apply Out.app) tk_3 (by rfl)) rfl ?_
        refine XA_det 9 rfl (by kernel_rfl) (by kernel_rfl) (by kernel_rfl) (by kernel_rfl) (fun _ _ _ _ h => h) .no (D_max rfl rfl) rfl ?_
        refine XA_detp 10 rfl (by kernel_rfl) (by kernel_rfl) (by kernel_rfl) (fun _ _ _ _ h => h) .no (D_fldP rfl fld_86_0 (o' := 0) rfl) rfl ?_
        refine XA_detp 11 rfl (by kernel_rfl) (by kernel_rfl) (by kernel_rfl) (fun _ _ _ _ h => h) .no (D_idxAP rfl rfl arr_38 rfl (by omega) rfl) rfl ?_
        refine XA_one 12 (by kernel_rfl) ?_
        refine XO_efd rfl .no (by with_reducible repeat first | exact .nil _ | apply App.cons) (F_st (k := 0 + k * 1) (cs' := encSeen (⟨upd (seeN x.tasks.l w s n).lg k (max ((seeN x.tasks.l w s n).lg k) (ranC x.tasks.l w s n).within), (seeN x.tasks.l w s n).dn + 1, (seeN x.tasks.l w s n).lt || (ranC x.tasks.l w s n).late⟩ : SeenS)) rfl rfl rfl (by with_reducible repeat first | exact .here _ _ | apply Out.there | apply Out.app) tk_3 (seen_blt (by omega)) (seen_setlg (p := (⟨(seeN x.tasks.l w s n).lg, (seeN x.tasks.l w s n).dn + 1, (seeN x.tasks.l w s n).lt || (ranC x.tasks.l w s n).late⟩ : SeenS)) hk16)) (by kernel_rfl) ?_
        refine XA_done (by kernel_rfl) ?_
        try simp only [List.cons_append, List.nil_append, List.append_nil]
        refine inBlk_normal ?_
        exact ⟨[blk b4 (encSeen (⟨upd (seeN x.tasks.l w s n).lg k (max ((seeN x.tasks.l w s n).lg k) (ranC x.tasks.l w s n).within), (seeN x.tasks.l w s n).dn + 1, (seeN x.tasks.l w s n).lt || (ranC x.tasks.l w s n).late⟩ : SeenS)) 86], _, (by with_reducible repeat first | exact .nil _ | exact .here _ _ | exact Take.self _ | apply Take.cons | apply Out.there | apply Take.skip | exact Take.pre _ _ | apply Out.app), ⟨trivial, by rw [seeN_t h1 hk]⟩⟩
  · intro dd0 S2 hJ
    obtain ⟨_, rfl⟩ := hJ
    rw [xsT_len]
    simp only [List.cons_append, List.nil_append]
    refine inBlk_normal ?_
    refine thenX_normal ?_
    refine X_seq ?_
    refine X_region ?_
    refine XL_det .no (D_ldso (vs := encSeen (seeN x.tasks.l w s (nT mny))) rfl (by with_reducible repeat first | exact .here _ _ | apply Out.there | apply Out.app) tk_86 rfl (by rfl)) rfl ?_
    refine XL_efd .no (F_stw rfl rfl rfl (by with_reducible repeat first | exact .here _ _ | apply Out.there | apply Out.app) tk_86 rfl rfl) ?_
    refine XL_then ?_
    refine X_ret ?_
    refine ret_ok (show Take [dfr dd0] _ _ from (by with_reducible repeat first | exact .nil _ | exact .here _ _ | exact Take.self _ | apply Take.cons | apply Out.there | apply Take.skip | exact Take.pre _ _ | apply Out.app)) (res_cell rfl rfl (by with_reducible repeat first | exact .here _ _ | apply Out.there | apply Out.app) tk_86 (by rfl)) ?_
    exact ⟨_, ⟨rfl, rfl⟩, _, (by with_reducible repeat first | exact .nil _ | exact .here _ _ | exact Take.self _ | apply Take.cons | apply Out.there | apply Take.skip | exact Take.pre _ _ | apply Out.app)⟩
  · intro dd0 c i S2 hi h
    exact h.elim

theorem wIdle {Ki : Asrt B} (x : Img) (hx : x.In Ki) (hT : TsOk x.tasks.l) (s : BitVec 32) (w : Way) (hw : WayOk w) (mny : Int) (hK : Rd K ⟨0, 0, none⟩ (tab32.map fun m => .int .u8 m)) (hd : Dup K) : Ctr Tryd.prog B 43 [x.v, .int .u32 s.toNat, .agg (encWay w).toArray, .int .i64 mny] [K, Ki] (fun v S => v = .tuple #[.int .i64 (idleN x.tasks.l w s (nT mny)).1, .bool (idleN x.tasks.l w s (nT mny)).2] ∧ S = [K, Ki]) := by
  refine Ctr_of_X (N := 23) Tryd.func43 rfl (by simp) rfl ?_
  intro w0 D0
  refine X_seq ?_
  refine X_region ?_
  refine XL_box (cs := [.int .i64 x.res, .slice x.tasks.oad x.tasks.l.length x.tasks.c, .slice x.modes.oad x.modes.l.length x.modes.c, .slice x.edges.oad x.edges.l.length x.edges.c]) .no rfl rfl rfl (fun b1 => ?_)
  refine XL_box (cs := encWay w) .no rfl rfl rfl (fun b2 => ?_)
  refine XL_alloc .no zero_3 rfl (fun b3 => ?_)
  refine XL_alloc .no zero_4 rfl (fun b4 => ?_)
  refine XL_then ?_
  refine X_seq ?_
  refine X_seq ?_
  refine X_region ?_
  refine XL_det .no (D_ldso (vs := [.int .i64 x.res, .slice x.tasks.oad x.tasks.l.length x.tasks.c, .slice x.modes.oad x.modes.l.length x.modes.c, .slice x.edges.oad x.edges.l.length x.edges.c]) rfl (by with_reducible repeat first | exact .here _ _ | apply Out.there | apply Out.app) tk_26 rfl (by rfl)) rfl ?_
  refine XL_det .no (D_pure rfl) rfl ?_
  refine XL_det .no (D_ldso (vs := encWay w) rfl (by with_reducible repeat first | exact .here _ _ | apply Out.there | apply Out.app) tk_81 rfl (by rfl)) rfl ?_
  refine XL_det .no (D_pure rfl) rfl ?_
  refine XL_call .no en_69 rfl (wTicks x s w mny) (by with_reducible repeat first | exact .nil _ | exact .here _ _ | exact Take.self _ | apply Take.cons | apply Out.there | apply Take.skip | exact Take.pre _ _ | apply Out.app) rfl ?_
  rintro _ _ ⟨bx, bs, bm, bw, rfl, rfl⟩
  simp only [List.cons_append, List.nil_append]
  refine XL_then ?_
  refine X_block ?_
  refine X_range (own := [blk bx [.int .i64 x.res, .slice x.tasks.oad x.tasks.l.length x.tasks.c, .slice x.modes.oad x.modes.l.length x.modes.c, .slice x.edges.oad x.edges.l.length x.edges.c] 26, blk bs [.int .u32 s.toNat] 37, blk bm [.int .i64 mny] 3, blk bw (encWay w) 81, K, Ki]) (S1 := [blk b3 [.int .i64 0] 3, blk b4 [.bool false] 4]) rfl en_91 (ticksItr bx bs bm bw x hx hT s w hw mny hK hd) (fun n S => (∀ u, u < n → ¬ (ranC x.tasks.l w s u).task < 0) ∧ S = [blk b3 [.int .i64 0] 3, blk b4 [.bool false] 4]) (fun c n S => c = .ret ∧ idleN x.tasks.l w s (nT mny) = ((n : Int), true) ∧ S = [blk b3 [.int .i64 (n : Int)] 3, blk b4 [.bool true] 4]) (show Take ([blk bx [.int .i64 x.res, .slice x.tasks.oad x.tasks.l.length x.tasks.c, .slice x.modes.oad x.modes.l.length x.modes.c, .slice x.edges.oad x.edges.l.length x.edges.c] 26, blk bs [.int .u32 s.toNat] 37, blk bm [.int .i64 mny] 3, blk bw (encWay w) 81, K, Ki, blk b3 [.int .i64 0] 3, blk b4 [.bool false] 4]) _ _ from (by with_reducible repeat first | exact .nil _ | exact .here _ _ | exact Take.self _ | apply Take.cons | apply Out.there | apply Take.skip | exact Take.pre _ _ | apply Out.app)) (⟨fun u hu => absurd hu (by omega), rfl⟩) rfl (fun x hx => by obtain ⟨y, _, rfl⟩ := List.mem_map.1 hx; rfl) ?_ ?_ ?_
  · intro ly rec A2 n S2 hn hJ
    obtain ⟨hno, rfl⟩ := hJ
    rw [xsT_len] at hn
    rw [xsT_get hn]
    refine X_seq ?_
    refine X_region ?_
    refine XL_det .no (D_pure rfl) rfl ?_
    refine XL_then ?_
    refine X_region ?_
    refine XL_alloc .no zero_53 rfl (fun b5 => ?_)
    refine XL_efd .no (F_stw rfl rfl rfl (by with_reducible repeat first | exact .here _ _ | apply Out.there | apply Out.app) tk_53 rfl rfl) ?_
    refine XL_nil ?_
    refine ⟨rfl, _, _, .cons (by with_reducible repeat first | exact .here _ _ | apply Out.there | apply Out.app) (Take.self _), fun rec2 => ?_⟩
    refine X_block ?_
    refine X_seq ?_
    refine X_region ?_
    refine XL_det .no (D_fld rfl fld_53_0 (o' := 0) rfl) rfl ?_
    refine XL_det .no (D_ldo (v := .int .i64 (ranC x.tasks.l w s n).task) rfl (by with_reducible repeat first | exact .here _ _ | apply Out.there | apply Out.app) tk_3 (by rfl)) rfl ?_
    refine XL_det .no (D_pure rfl) rfl ?_
    refine XL_then ?_
    refine X_cond rfl (fun h1 => ?_) (fun h1 => ?_)
    · try simp only [decide_eq_true_eq, decide_eq_false_iff_not, Bool.not_eq_true', Bool.not_eq_false', beq_iff_eq, bne_iff_ne, beq_eq_false_iff_ne, bne_eq_false_iff_eq, Int.not_lt, Int.not_le, gt_iff_lt, ge_iff_le, ne_eq] at h1
      refine X_seq ?_
      refine X_region ?_
      refine XL_det .no (D_pure rfl) rfl ?_
      refine XL_efd .no (F_stl rfl rfl rfl (by with_reducible repeat first | exact .here _ _ | apply Out.there | apply Out.app) tk_3 (by repeat first | exact .zero _ _ _ | apply SetL.succ)) ?_
      refine XL_efd .no (F_stl rfl rfl rfl (by with_reducible repeat first | exact .here _ _ | apply Out.there | apply Out.app) tk_4 (by repeat first | exact .zero _ _ _ | apply SetL.succ)) ?_
      refine XL_then ?_
      refine X_ret ?_
      refine inBlk_ret ?_
      exact ⟨[blk b3 [.int .i64 (n : Int)] 3, blk b4 [.bool true] 4], _, (by with_reducible repeat first | exact .nil _ | exact .here _ _ | exact Take.self _ | apply Take.cons | apply Out.there | apply Take.skip | exact Take.pre _ _ | apply Out.app), ⟨rfl, idleN_s hn hno h1, rfl⟩⟩
    · try simp only [decide_eq_true_eq, decide_eq_false_iff_not, Bool.not_eq_true', Bool.not_eq_false', beq_iff_eq, bne_iff_ne, beq_eq_false_iff_ne, bne_eq_false_iff_eq, Int.not_lt, Int.not_le, gt_iff_lt, ge_iff_le, ne_eq] at h1
      refine X_skip ?_
      refine inBlk_normal ?_
      exact ⟨[blk b3 [.int .i64 0] 3, blk b4 [.bool false] 4], _, (by with_reducible repeat first | exact .nil _ | exact .here _ _ | exact Take.self _ | apply Take.cons | apply Out.there | apply Take.skip | exact Take.pre _ _ | apply Out.app), ⟨fun u hu => by rcases Nat.lt_succ_iff_lt_or_eq.1 hu with h | rfl; exact hno u h; omega, rfl⟩⟩
  · intro dd0 S2 hJ
    obtain ⟨hno, rfl⟩ := hJ
    rw [xsT_len] at hno
    simp only [List.cons_append, List.nil_append]
    refine inBlk_normal ?_
    refine thenX_normal ?_
    refine X_seq ?_
    refine X_region ?_
    refine XL_efd .no (F_stl rfl rfl rfl (by with_reducible repeat first | exact .here _ _ | apply Out.there | apply Out.app) tk_3 (by repeat first | exact .zero _ _ _ | apply SetL.succ)) ?_
    refine XL_efd .no (F_stl rfl rfl rfl (by with_reducible repeat first | exact .here _ _ | apply Out.there | apply Out.app) tk_4 (by repeat first | exact .zero _ _ _ | apply SetL.succ)) ?_
    refine XL_then ?_
    refine X_ret ?_
    refine ret_ok (show Take [dfr dd0] _ _ from (by with_reducible repeat first | exact .nil _ | exact .here _ _ | exact Take.self _ | apply Take.cons | apply Out.there | apply Take.skip | exact Take.pre _ _ | apply Out.app)) (res_cc rfl rfl rfl (by with_reducible repeat first | exact .here _ _ | apply Out.there | apply Out.app) (by with_reducible repeat first | exact .here _ _ | apply Out.there | apply Out.app) tk_3 tk_4) ?_
    exact ⟨_, ⟨by rw [idleN_n hno], rfl⟩, _, (by with_reducible repeat first | exact .nil _ | exact .here _ _ | exact Take.self _ | apply Take.cons | apply Out.there | apply Take.skip | exact Take.pre _ _ | apply Out.app)⟩
  · intro dd0 c i S2 hi h
    obtain ⟨rfl, hid, rfl⟩ := h
    simp only [List.cons_append, List.nil_append]
    refine X_ret ?_
    refine inBlk_ret ?_
    refine thenX_ret ?_
    refine ret_ok (show Take [dfr dd0] _ _ from (by with_reducible repeat first | exact .nil _ | exact .here _ _ | exact Take.self _ | apply Take.cons | apply Out.there | apply Take.skip | exact Take.pre _ _ | apply Out.app)) (res_cc rfl rfl rfl (by with_reducible repeat first | exact .here _ _ | apply Out.there | apply Out.app) (by with_reducible repeat first | exact .here _ _ | apply Out.there | apply Out.app) tk_3 tk_4) ?_
    exact ⟨_, ⟨by rw [hid], rfl⟩, _, (by with_reducible repeat first | exact .nil _ | exact .here _ _ | exact Take.self _ | apply Take.cons | apply Out.there | apply Take.skip | exact Take.pre _ _ | apply Out.app)⟩

end Go.Proofs.YtkkdchgnknpceaaDoor
end

section
namespace Go.Proofs.YtkkdchgnknpceaaDoor
open Go Go.Sl
set_option linter.unusedVariables false
set_option linter.unusedSimpArgs false
set_option maxRecDepth 4000
variable {B : Nat} {K : Asrt B}
theorem bld_101 : bldOf Tryd.prog 101 = some ([.int .u32 0, .slice none 0 0], [(0, 1), (1, 1)]) := by kernel_rfl
theorem bld_26 : bldOf Tryd.prog 26 = some ([.int .i64 0, .slice none 0 0, .slice none 0 0, .slice none 0 0], [(0, 1), (1, 1), (2, 1), (3, 1)]) := by kernel_rfl
theorem bld_81 : bldOf Tryd.prog 81 = some ([.int .i64 0, .int .i64 0, .int .i64 0, .int .i64 0, .int .i64 0, .int .i64 0, .int .i64 0, .int .i64 0, .int .i64 0, .int .i64 0, .int .i64 0, .int .i64 0, .int .i64 0, .int .i64 0, .int .i64 0, .int .i64 0, .int .i64 0], [(0, 16), (16, 1)]) := by kernel_rfl
theorem en_35 : Go.Proofs.Enters Tryd.prog 35 := Go.Proofs.enters_of Tryd.func35 (by kernel_rfl) rfl
theorem slt_22 : slT Tryd.prog 22 = some (48, 11, 88, [.int .i64 0, .int .i64 0, .int .i64 0, .int .i64 0, .int .i64 0, .int .i64 0, .int .i64 0, .int .i64 0, .int .i64 0, .int .i64 0, .int .i64 0]) := by kernel_rfl
theorem slt_23 : slT Tryd.prog 23 = some (101, 2, 32, [.int .u32 0, .slice none 0 0]) := by kernel_rfl
theorem zero_26 : zeroOf Tryd.prog 26 = some [.int .i64 0, .slice none 0 0, .slice none 0 0, .slice none 0 0] := by kernel_rfl

def TA45 : Nat → Int := fun k => [10, 10, 2, 0, 0, 0, 0, 0, 0, 0, 0].getD k 0
def TB45 : Nat → Int := fun k => [20, 20, 5, 0, 0, 0, 0, 0, 0, 0, 0].getD k 0
def W45 : Way := ⟨fun _ => 0, 1000⟩
theorem see45 : (seeN [TA45, TB45] W45 3#32 20).lg 0 = 2 ∧ (seeN [TA45, TB45] W45 3#32 20).lg 1 = 7 ∧ (seeN [TA45, TB45] W45 3#32 20).dn = 3 ∧ (seeN [TA45, TB45] W45 3#32 20).lt = false := by decide +kernel
abbrev x45 (a b : Nat) : Img := ⟨0, Arr.lit a [TA45, TB45] (by decide), Arr.lit b [⟨3#32, Arr.emp⟩] (by decide), Arr.emp⟩
abbrev A45 (a : Nat) : Asrt B := blk a (([TA45, TB45] : List (Nat → Int)).flatMap encT) 48
abbrev M45 (b : Nat) : Asrt B := blk b (([⟨3#32, Arr.emp⟩] : List Mode).flatMap encM) 101
theorem emp_in {α : Type} {enc : α → List Value} : Rd K (Arr.emp : Arr α).ad ((Arr.emp : Arr α).l.flatMap enc) := fun D w h k hk => absurd hk (by simp [Arr.emp])
theorem x45_in (a b : Nat) : (x45 a b).In (both (A45 (B := B) a) (M45 b)) := ⟨Rd.both1 Rd_blk0, Rd.both2 Rd_blk0, emp_in, fun m hm => by
  have hm : m = ⟨3#32, Arr.emp⟩ := by simpa using (show m ∈ [(⟨3#32, Arr.emp⟩ : Mode)] from hm)
  subst hm; exact emp_in⟩
theorem ts45 (a b : Nat) : TsOk (x45 a b).tasks.l := by
  refine ⟨by show 2 ≤ 16; decide, fun e he => ?_⟩
  have he : e = TA45 ∨ e = TB45 := by simpa using (show e ∈ [TA45, TB45] from he)
  rcases he with rfl | rfl
  · exact ⟨by decide, by decide, by decide, fun r hr => by rcases (by omega : r = 0 ∨ r = 1 ∨ r = 2 ∨ r = 3 ∨ r = 4 ∨ r = 5 ∨ r = 6 ∨ r = 7) with rfl | rfl | rfl | rfl | rfl | rfl | rfl | rfl <;> decide⟩
  · exact ⟨by decide, by decide, by decide, fun r hr => by rcases (by omega : r = 0 ∨ r = 1 ∨ r = 2 ∨ r = 3 ∨ r = 4 ∨ r = 5 ∨ r = 6 ∨ r = 7) with rfl | rfl | rfl | rfl | rfl | rfl | rfl | rfl <;> decide⟩
theorem w45 : WayOk W45 := ⟨fun k _ => by show (-9223372036854775808 : Int) ≤ 0 ∧ (0 : Int) ≤ 9223372036854775807; decide⟩
theorem look45 (a b : Nat) (hK : Rd K ⟨0, 0, none⟩ (tab32.map fun m => .int .u8 m)) (hd : Dup K) : Ctr Tryd.prog B 35 [(x45 a b).v, .int .u32 (3#32).toNat, .agg (encWay W45).toArray, .int .i64 20] [K, both (A45 a) (M45 b)] (fun v S => v = .agg (encSeen (seeN [TA45, TB45] W45 3#32 20)).toArray ∧ S = [K, both (A45 a) (M45 b)]) :=
  wLook (x45 a b) (x45_in a b) (ts45 a b) 3#32 W45 w45 20 hK hd

theorem alive45 (hK : Rd K ⟨0, 0, none⟩ (tab32.map fun m => .int .u8 m)) (hd : Dup K) : Ctr Tryd.prog B 38 [] [K] (fun v S => v = .bool true ∧ S = [K]) := by
  refine Ctr_of_X (N := 32) Tryd.func38 rfl (by simp) rfl ?_
  intro w0 D0
  refine X_seq ?_
  refine X_region ?_
  refine XL_det .no (D_pure rfl) rfl ?_
  refine XL_then ?_
  refine X_seq ?_
  refine X_region ?_
  refine XL_det .no (D_build [_, _, _, _, _, _, _, _, _, _, _] rfl bld_48 (by rfl)) rfl ?_
  refine XL_det .no (D_build [_, _, _, _, _, _, _, _, _, _, _] rfl bld_48 (by rfl)) rfl ?_
  refine XL_bslice (cs := ([TA45, TB45] : List (Nat → Int)).flatMap encT) .no rfl slt_22 (by decide) (by decide) (by rfl) (by rfl) rfl rfl (fun b1 => ?_)
  refine XL_det .no (D_build [_, _] rfl bld_101 (by rfl)) rfl ?_
  refine XL_bslice (cs := ([⟨3#32, Arr.emp⟩] : List Mode).flatMap encM) .no rfl slt_23 (by decide) (by decide) (by rfl) (by rfl) rfl rfl (fun b2 => ?_)
  refine XL_det .no (D_build [_, _, _, _] rfl bld_26 (by rfl)) rfl ?_
  refine XL_alloc .no zero_26 rfl (fun b3 => ?_)
  refine XL_efd .no (F_stw rfl rfl rfl (by with_reducible repeat first | exact .here _ _ | apply Out.there | apply Out.app) tk_26 rfl rfl) ?_
  refine XL_then ?_
  refine X_seq ?_
  refine X_region ?_
  refine XL_det .no (D_ldso (vs := [.int .i64 0, .slice (some ⟨b1, 0, none⟩) 2 2, .slice (some ⟨b2, 0, none⟩) 1 1, .slice none 0 0]) rfl (by with_reducible repeat first | exact .here _ _ | apply Out.there | apply Out.app) tk_26 rfl (by rfl)) rfl ?_
  refine XL_det .no (D_build (encWay W45) rfl bld_81 (by rfl)) rfl ?_
  refine XL_both (A45 b1) (M45 b2) (by with_reducible repeat first | exact .nil _ | exact .here _ _ | exact Take.self _ | apply Take.cons | apply Out.there | apply Take.skip | exact Take.pre _ _ | apply Out.app) ?_
  refine XL_callk .no en_35 rfl (look45 b1 b2 hK hd) (by with_reducible repeat first | exact .nil _ | exact .here _ _ | exact Take.self _ | apply Take.cons | apply Out.there | apply Take.skip | exact Take.pre _ _ | apply Out.app) rfl ?_
  refine XL_alloc .no zero_86 rfl (fun b4 => ?_)
  refine XL_efd .no (F_stw rfl rfl rfl (by with_reducible repeat first | exact .here _ _ | apply Out.there | apply Out.app) tk_86 rfl rfl) ?_
  refine XL_then ?_
  refine X_seq ?_
  refine X_region ?_
  refine XL_det .no (D_fld rfl fld_86_0 (o' := 0) rfl) rfl ?_
  refine XL_det .no (D_idxA rfl rfl arr_38 (rfl : (0 : Int) = ((0 : Nat) : Int)) (by decide) rfl) rfl ?_
  refine XL_det .no (D_ldo (v := .int .i64 2) rfl (by with_reducible repeat first | exact .here _ _ | apply Out.there | apply Out.app) tk_3 ((seen_lg (k := 0) (by decide)).trans (by rw [see45.1]))) rfl ?_
  refine XL_det .no (D_pure (v := .bool true) (by rfl)) rfl ?_
  refine XL_det .no (D_pure rfl) rfl ?_
  refine XL_det (.yes 16 rfl rfl rfl) (D_fld rfl fld_86_0 (o' := 0) rfl) rfl ?_
  refine XL_det (.yes 16 rfl rfl rfl) (D_idxA rfl rfl arr_38 (rfl : (1 : Int) = ((1 : Nat) : Int)) (by decide) rfl) rfl ?_
  refine XL_det (.yes 16 rfl rfl rfl) (D_ldo (v := .int .i64 7) rfl (by with_reducible repeat first | exact .here _ _ | apply Out.there | apply Out.app) tk_3 ((seen_lg (k := 1) (by decide)).trans (by rw [see45.2.1]))) rfl ?_
  refine XL_det (.yes 16 rfl rfl rfl) (D_pure (v := .bool true) (by rfl)) rfl ?_
  refine XL_det .no (D_pure rfl) rfl ?_
  refine XL_det .no (D_pure rfl) rfl ?_
  refine XL_det (.yes 22 rfl rfl rfl) (D_fld rfl fld_86_1 (o' := 16) rfl) rfl ?_
  refine XL_det (.yes 22 rfl rfl rfl) (D_ldo (v := .int .i64 3) rfl (by with_reducible repeat first | exact .here _ _ | apply Out.there | apply Out.app) tk_3 (seen_dn.trans (by rw [see45.2.2.1]))) rfl ?_
  refine XL_det (.yes 22 rfl rfl rfl) (D_pure (v := .bool true) (by rfl)) rfl ?_
  refine XL_det .no (D_pure rfl) rfl ?_
  refine XL_det .no (D_pure rfl) rfl ?_
  refine XL_det (.yes 27 rfl rfl rfl) (D_fld rfl fld_86_2 (o' := 17) rfl) rfl ?_
  refine XL_det (.yes 27 rfl rfl rfl) (D_ldo (v := .bool false) rfl (by with_reducible repeat first | exact .here _ _ | apply Out.there | apply Out.app) tk_4 (seen_lt.trans (by rw [see45.2.2.2]))) rfl ?_
  refine XL_det (.yes 27 rfl rfl rfl) (D_pure rfl) rfl ?_
  refine XL_det .no (D_pure rfl) rfl ?_
  refine XL_det .no (D_pure rfl) rfl ?_
  refine XL_then ?_
  refine X_ret ?_
  refine ret_ok (.nil _) (res_tmp rfl rfl) ?_
  exact ⟨_, ⟨rfl, rfl⟩, _, (by with_reducible repeat first | exact .nil _ | exact .here _ _ | exact Take.self _ | apply Take.cons | apply Out.there | apply Take.skip | exact Take.pre _ _ | apply Out.app)⟩

end Go.Proofs.YtkkdchgnknpceaaDoor
end

section
namespace Go.Proofs.YtkkdchgnknpceaaDoor
open Go Go.Sl
set_option linter.unusedVariables false
set_option linter.unusedSimpArgs false
set_option maxRecDepth 4000
variable {B : Nat} {K : Asrt B}
theorem en_27 : Go.Proofs.Enters Tryd.prog 27 := Go.Proofs.enters_of Tryd.func27 (by kernel_rfl) rfl
theorem en_28 : Go.Proofs.Enters Tryd.prog 28 := Go.Proofs.enters_of Tryd.func28 (by kernel_rfl) rfl
theorem en_31 : Go.Proofs.Enters Tryd.prog 31 := Go.Proofs.enters_of Tryd.func31 (by kernel_rfl) rfl
theorem en_72 : Go.Proofs.Enters Tryd.prog 72 := Go.Proofs.enters_of Tryd.func72 (by kernel_rfl) rfl

def tabN (t t' : Nat → Int) (n : Nat) : Nat → Int := fun j => if j < n then t' j else t j
theorem tabN_0 {t t' : Nat → Int} : tabN t t' 0 = t := by funext j; unfold tabN; rw [if_neg (by omega)]
theorem tabN_s {t t' : Nat → Int} {n : Nat} : upd (tabN t t' n) n (t' n) = tabN t t' (n + 1) := by
  funext j
  by_cases e : j = n
  · subst e; rw [upd_same]; unfold tabN; rw [if_pos (by omega)]
  · rw [upd_ne _ _ e]; unfold tabN
    by_cases q : j < n
    · rw [if_pos q, if_pos (by omega)]
    · rw [if_neg q, if_neg (by omega)]
def sB (ts : List (Nat → Int)) (s : BitVec 32) (r : Nat) : Sr := ⟨(srN 8).jf, (srN 8).lv, tabN (srN 8).tab (ceilF ts s) r, (srN 8).now⟩
theorem sB_0 (ts : List (Nat → Int)) (s : BitVec 32) : srC (srN 8) = srC (sB ts s 0) := by unfold sB; rw [tabN_0]
theorem sB_jf (ts : List (Nat → Int)) (s : BitVec 32) (r : Nat) : (sB ts s r).jf = (srN 8).jf := rfl
theorem like_bnd {c : Cr} {s : Sr} (h : Like c s) : ∀ k, k < 16 → s.lv k = true → 0 ≤ (s.jf k).done ∧ (s.jf k).done ≤ 100000000 ∧ -1000000000 ≤ (s.jf k).rel ∧ (s.jf k).rel ≤ 1000000000 := fun k hk hl => by
  have hL := (h.live k hk).1 hl
  obtain ⟨_, _, b1, b2, _, _, b3, b4⟩ := h.ok.live k hL
  obtain ⟨j1, _, _, j4, _⟩ := h.job k hk hL
  rw [j1, j4]; exact ⟨b1, b2, b3, b4⟩
section
variable {ts : List (Nat → Int)} {s s' : BitVec 32}
theorem ceil_same (h : ∀ j, j < ts.length → hasB s (j : Int) = hasB s' (j : Int)) (r : Nat) : ceilV ts s r = ceilV ts s' r := by
  have : hitB ts s r = hitB ts s' r := by
    funext i
    unfold hitB
    cases he : ts[i]? with
    | none => rfl
    | some e => dsimp only; rw [h i (List.getElem?_eq_some_iff.1 he).1]
  unfold ceilV; rw [this]
theorem relN_same (h : ∀ j, j < ts.length → hasB s (j : Int) = hasB s' (j : Int)) {w : Way} {z : Cr} : ∀ n, n ≤ ts.length → relN ts w s z n = relN ts w s' z n
  | 0, _ => rfl
  | n + 1, hn => by rw [relN, relN, relN_same h n (by omega), h n (by omega)]
theorem wN_eq (ts : List (Nat → Int)) (hn : ts.length ≤ 16) (s : BitVec 32) : ∀ j, j < ts.length → hasB (wN s ts.length) (j : Int) = hasB s (j : Int) := fun j hj => by
  rw [Bool.eq_iff_iff, wN_has (by omega) _ hn]; exact ⟨fun q => q.2, fun q => ⟨hj, q⟩⟩
theorem due_iff {w : Way} {i : Nat} {now p : Int} : dueW w i now p = true ↔ 0 ≤ now - max (w.ph i) 0 ∧ Int.tmod (now - max (w.ph i) 0) p = 0 := by
  unfold dueW; rw [Bool.and_eq_true, decide_eq_true_eq, decide_eq_true_eq]
/-- The document's beginning is like the program's. -/
theorem like_begin (hn : ts.length ≤ 16) (w : Way) (s : BitVec 32) : Like (simC ts w s 0) (sB ts (wN s ts.length) 8) :=
  Like.zero.ceil (t' := tabN (srN 8).tab (ceilF ts (wN s ts.length)) 8) (fun r _ => ⟨(ceilV_least ts s r).range.1, (ceilV_least ts s r).range.2⟩) (fun r hr => by
    unfold tabN; rw [if_pos hr]; exact ceil_same (wN_eq ts hn s) r)
end
theorem relN_go {ts : List (Nat → Int)} (hT : TsOk ts) {w : Way} {S : BitVec 32} {z : Cr} {i : Nat} {e : Nat → Int} (he : ts[i]? = some e) {q : Sr} (hL : Like (relN ts w S z i) q) (h1 : hasB S (i : Int) = true) (h2 : dueW w i q.now (e 0) = true) {y x0 : Arr Sec} (hx : x0.l = (secX e (costW w e) 8).1) (hy : q.lv i = false → y.l = secs e (max (min (costW w e) (e 2)) 1) 0 0 x0.l ∧ y.Own) :
    Like (relN ts w S z (i + 1)) (relR q i e (max (min (costW w e) (e 2)) 1) y) := by
  obtain ⟨_, _, _, hc, _⟩ := hT.at_ he
  have hci := costW_in (w := w) (e := e) ⟨hc.1, by have := hT.c he; omega⟩
  have hm : max (min (costW w e) (e 2)) 1 = costJ w e := by show _ = min (max _ _) _; omega
  have hcj : costJ w e = costW w e := by show min (max _ _) _ = _; omega
  rw [hm] at hy ⊢
  rw [relN, if_pos h1]
  refine like_rel (z := z) hT he hL (by rw [← hL.now]; exact h2) fun q2 => ?_
  obtain ⟨y1, y2⟩ := hy q2
  refine ⟨?_, y2⟩
  rw [y1, hx]
  show secs e (costJ w e) 0 0 _ = secs e (costJ w e) 0 0 (secWl e (costW w e))
  rw [hcj, secs_same (by omega)]
theorem relN_stay {ts : List (Nat → Int)} {w : Way} {S : BitVec 32} {z : Cr} {i : Nat} {e : Nat → Int} (he : ts[i]? = some e) {q : Sr} (hL : Like (relN ts w S z i) q) (h : ¬ (hasB S (i : Int) = true ∧ dueW w i q.now (e 0) = true)) : Like (relN ts w S z (i + 1)) q := by
  rw [relN]
  split
  · rename_i h1
    rw [rel1_no (fun e2 q2 => by
      rw [Int.toNat_natCast, he] at q2; cases q2
      rw [Int.toNat_natCast, ← hL.now]
      cases hd : dueW w i q.now (e 0) with
      | false => rfl
      | true => exact absurd ⟨h1, hd⟩ h)]
    exact hL
  · exact hL

theorem rbeg45 (x : Img) (hx : x.In K) (hn : x.tasks.l.length ≤ 16) (sv : BitVec 32) : Ctr Tryd.prog B 39 [x.v, .int .u32 sv.toNat] [K] (fun v S => v = .agg (srC ((sB x.tasks.l sv 8))).toArray ∧ S = [many 16 (rowS (sB x.tasks.l sv 8).jf), K]) := by
  refine Ctr_of_X (N := 20) Tryd.func39 rfl (by simp) rfl ?_
  intro w0 D0
  refine X_seq ?_
  refine X_region ?_
  refine XL_box (cs := [.int .i64 x.res, .slice x.tasks.oad x.tasks.l.length x.tasks.c, .slice x.modes.oad x.modes.l.length x.modes.c, .slice x.edges.oad x.edges.l.length x.edges.c]) .no rfl rfl rfl (fun b1 => ?_)
  refine XL_alloc (cs := srC sr0) .no zero_69 rfl (fun b2 => ?_)
  refine XL_then ?_
  refine X_seq ?_
  refine X_region ?_
  refine XL_call .no en_27 rfl (rnew26) (by with_reducible repeat first | exact .nil _ | exact .here _ _ | exact Take.self _ | apply Take.cons | apply Out.there | apply Take.skip | exact Take.pre _ _ | apply Out.app) rfl ?_
  rintro _ _ ⟨rfl, rfl⟩
  simp only [List.cons_append, List.nil_append]
  refine XL_alloc (cs := srC sr0) .no zero_69 rfl (fun b3 => ?_)
  refine XL_efd .no (F_stw rfl rfl rfl (by with_reducible repeat first | exact .here _ _ | apply Out.there | apply Out.app) tk_69 rfl rfl) ?_
  refine XL_then ?_
  refine X_seq ?_
  refine X_seq ?_
  refine X_region ?_
  refine XL_det .no (D_pure rfl) rfl ?_
  refine XL_then ?_
  refine X_block ?_
  rw [sB_0 x.tasks.l sv]
  refine X_loop (α := Nat) (fun r => r ≤ 8) (fun r => [(6, .int .i64 (r : Int)), (1, .int .u32 sv.toNat), (2, .pointer (some ⟨b1, 0, none⟩)), (4, .pointer (some ⟨b2, 0, none⟩)), (5, .pointer (some ⟨b3, 0, none⟩))]) (fun r => [blk b1 [.int .i64 x.res, .slice x.tasks.oad x.tasks.l.length x.tasks.c, .slice x.modes.oad x.modes.l.length x.modes.c, .slice x.edges.oad x.edges.l.length x.edges.c] 26, blk b2 (srC sr0) 69, blk b3 (srC (sB x.tasks.l sv r)) 69, many 16 (rowS (srN 8).jf), K]) (fun r => 8 - r) 0 ?_ (by refine ⟨?_, ?_, ?_, ?_, ?_, trivial⟩ <;> rfl) (by with_reducible repeat first | exact .nil _ | exact .here _ _ | exact Take.self _ | apply Take.cons | apply Out.there | apply Take.skip | exact Take.pre _ _ | apply Out.app) ?_
  · omega
  · rintro r hr
    refine X_seq ?_
    refine X_seq ?_
    refine X_region ?_
    refine XL_det .no (D_pure rfl) rfl ?_
    refine XL_det .no (D_pure rfl) rfl ?_
    refine XL_then ?_
    refine X_cond rfl (fun h1 => ?_) (fun h1 => ?_)
    · try simp only [decide_eq_true_eq, decide_eq_false_iff_not, Bool.not_eq_true', Bool.not_eq_false', beq_iff_eq, bne_iff_ne, beq_eq_false_iff_ne, bne_eq_false_iff_eq, Int.not_lt, Int.not_le, gt_iff_lt, ge_iff_le, ne_eq] at h1
      refine X_skip ?_
      refine thenX_normal ?_
      refine X_seq ?_
      refine X_block ?_
      refine X_region ?_
      refine XL_det .no (D_pure rfl) rfl ?_
      refine XL_det .no (D_ldso (vs := [.int .i64 x.res, .slice x.tasks.oad x.tasks.l.length x.tasks.c, .slice x.modes.oad x.modes.l.length x.modes.c, .slice x.edges.oad x.edges.l.length x.edges.c]) rfl (by with_reducible repeat first | exact .here _ _ | apply Out.there | apply Out.app) tk_26 rfl (by rfl)) rfl ?_
      refine XL_det .no (D_pure rfl) rfl ?_
      refine XL_det .no (D_pure rfl) rfl ?_
      refine XL_callk .no en_30 rfl (rceil x hx hn sv r (by omega)) (by with_reducible repeat first | exact .nil _ | exact .here _ _ | exact Take.self _ | apply Take.cons | apply Out.there | apply Take.skip | exact Take.pre _ _ | apply Out.app) rfl ?_
      refine XL_det .no (D_fld rfl fld_69_1 (o' := 96) rfl) rfl ?_
      refine XL_det .no (D_idxA rfl rfl arr_33 rfl (by omega) rfl) rfl ?_
      refine XL_efd .no (F_st (k := 96 + r * 1) (cs' := srC (sB x.tasks.l sv (r + 1))) rfl rfl rfl (by with_reducible repeat first | exact .here _ _ | apply Out.there | apply Out.app) tk_3 (sr_lt _ (by omega)) ((sr_settab (sB x.tasks.l sv r) (by omega) _).trans (by show srC ⟨_, _, upd _ r (ceilF x.tasks.l sv r), _⟩ = srC (sB x.tasks.l sv (r + 1)); unfold sB; rw [← tabN_s]))) ?_
      refine XL_nil ?_
      refine inBlk_normal ?_
      refine thenX_normal ?_
      refine X_region ?_
      refine XL_det .no (D_pure rfl) rfl ?_
      refine XL_det .no (D_add rfl rfl (by omega) (by omega)) rfl ?_
      refine XL_det .no (D_pure rfl) rfl ?_
      refine XL_nil ?_
      refine loopQ_next (r + 1) ?_ ?_ ?_ ?_
      · omega
      · omega
      · refine ⟨?_, ?_, ?_, ?_, ?_, trivial⟩ <;> rfl
      · exact ⟨_, (by with_reducible repeat first | exact .nil _ | exact .here _ _ | exact Take.self _ | apply Take.cons | apply Out.there | apply Take.skip | exact Take.pre _ _ | apply Out.app)⟩
    · try simp only [decide_eq_true_eq, decide_eq_false_iff_not, Bool.not_eq_true', Bool.not_eq_false', beq_iff_eq, bne_iff_ne, beq_eq_false_iff_ne, bne_eq_false_iff_eq, Int.not_lt, Int.not_le, gt_iff_lt, ge_iff_le, ne_eq] at h1
      obtain rfl : r = 8 := by omega
      refine X_exit ?_
      refine thenX_exit ?_
      refine loopQ_exit ?_
      refine inBlk_here ?_
      refine thenX_normal ?_
      refine X_seq ?_
      refine X_region ?_
      refine XL_det .no (D_ldso (vs := srC (sB x.tasks.l sv 8)) rfl (by with_reducible repeat first | exact .here _ _ | apply Out.there | apply Out.app) tk_69 rfl (by rw [List.drop_zero, List.take_of_length_le (by rw [sr_len]; exact Nat.le_refl _)])) rfl ?_
      refine XL_efd .no (F_stw rfl rfl rfl (by with_reducible repeat first | exact .here _ _ | apply Out.there | apply Out.app) tk_69 rfl rfl) ?_
      refine XL_then ?_
      refine X_ret ?_
      refine ret_ok (.nil _) (res_cell rfl rfl (by with_reducible repeat first | exact .here _ _ | apply Out.there | apply Out.app) tk_69 (by rfl)) ?_
      exact ⟨[many 16 (rowS (srN 8).jf), K], ⟨rfl, rfl⟩, _, (by repeat first | (with_reducible first | exact .nil _ | exact .here _ _) | exact .here _ _ | (with_reducible first | exact Take.self _ | apply Take.cons | apply Out.there | apply Take.skip | exact Take.pre _ _ | apply Out.app))⟩

theorem rstep45 (x : Img) (hx : x.In K) (hT : TsOk x.tasks.l) (sv : BitVec 32) (w : Way) (hw : WayOk w) (z : Cr) (q0 : Sr) (hL0 : Like z q0) (hn : q0.now ≤ 1000000) : Ctr Tryd.prog B 41 [x.v, .int .u32 sv.toNat, .agg (rowI 16 w.ph).toArray, .int .i64 w.cl, .agg (srC (q0)).toArray] [many 16 (rowS q0.jf), K] (fun v S => ∃ q : Sr, Like (relN x.tasks.l w sv z x.tasks.l.length) q ∧ v = .tuple #[.agg (srC ((tickR q).1)).toArray, .agg (encRr (tickR q).2).toArray] ∧ S = [many 16 (rowS (tickR q).1.jf), K]) := by
  refine Ctr_of_X (N := 75) Tryd.func41 rfl (by simp) rfl ?_
  intro w0 D0
  refine X_seq ?_
  refine X_region ?_
  refine XL_box (cs := [.int .i64 x.res, .slice x.tasks.oad x.tasks.l.length x.tasks.c, .slice x.modes.oad x.modes.l.length x.modes.c, .slice x.edges.oad x.edges.l.length x.edges.c]) .no rfl rfl rfl (fun b1 => ?_)
  refine XL_box (cs := rowI 16 w.ph) .no rfl rfl rfl (fun b2 => ?_)
  refine XL_box (cs := srC q0) .no rfl rfl rfl (fun b3 => ?_)
  refine XL_alloc (cs := srC sr0) .no zero_69 rfl (fun b4 => ?_)
  refine XL_alloc .no zero_76 rfl (fun b5 => ?_)
  refine XL_then ?_
  refine X_seq ?_
  refine X_seq ?_
  refine X_region ?_
  refine XL_det .no (D_pure rfl) rfl ?_
  refine XL_then ?_
  refine X_block ?_
  refine X_loop (α := Nat × Sr) (fun ⟨i, q⟩ => i ≤ x.tasks.l.length ∧ Like (relN x.tasks.l w sv z i) q ∧ q.now = q0.now) (fun ⟨i, q⟩ => [(12, .int .i64 (i : Int)), (1, .int .u32 sv.toNat), (3, .int .i64 w.cl), (5, .pointer (some ⟨b1, 0, none⟩)), (7, .pointer (some ⟨b2, 0, none⟩)), (9, .pointer (some ⟨b3, 0, none⟩)), (10, .pointer (some ⟨b4, 0, none⟩)), (11, .pointer (some ⟨b5, 0, none⟩))]) (fun ⟨i, q⟩ => [blk b1 [.int .i64 x.res, .slice x.tasks.oad x.tasks.l.length x.tasks.c, .slice x.modes.oad x.modes.l.length x.modes.c, .slice x.edges.oad x.edges.l.length x.edges.c] 26, blk b2 (rowI 16 w.ph) 38, blk b3 (srC q) 69, many 16 (rowS q.jf), blk b4 (srC sr0) 69, blk b5 [.int .i64 0, .int .i64 0, .int .i64 0, .int .i64 0, .bool false, .bool false] 76, K]) (fun ⟨i, q⟩ => x.tasks.l.length - i) (0, q0) ?_ (by refine ⟨?_, ?_, ?_, ?_, ?_, ?_, ?_, ?_, trivial⟩ <;> rfl) (by repeat first | (with_reducible first | exact .nil _ | exact .here _ _) | exact .here _ _ | (with_reducible first | exact Take.self _ | apply Take.cons | apply Out.there | apply Take.skip | exact Take.pre _ _ | apply Out.app)) ?_
  · exact ⟨Nat.zero_le _, hL0, rfl⟩
  · rintro ⟨i, q⟩ ⟨hi, hL, hqn⟩
    dsimp only
    have hn16 := hT.n
    have hqn0 := hL.ok.now
    have hqn1 := hL.now
    refine X_seq ?_
    refine X_seq ?_
    refine X_region ?_
    refine XL_det .no (D_pure rfl) rfl ?_
    refine XL_det .no (D_fld rfl fld_26_1 (o' := 1) rfl) rfl ?_
    refine XL_det .no (D_ldo rfl (by with_reducible repeat first | exact .here _ _ | apply Out.there | apply Out.app) tk_22 (by rfl)) rfl ?_
    refine XL_det .no (D_len rfl rfl slc_22) rfl ?_
    refine XL_det .no (D_pure rfl) rfl ?_
    refine XL_then ?_
    refine X_cond rfl (fun h1 => ?_) (fun h1 => ?_)
    · try simp only [decide_eq_true_eq, decide_eq_false_iff_not, Bool.not_eq_true', Bool.not_eq_false', beq_iff_eq, bne_iff_ne, beq_eq_false_iff_ne, bne_eq_false_iff_eq, Int.not_lt, Int.not_le, gt_iff_lt, ge_iff_le, ne_eq] at h1
      obtain ⟨e, he⟩ : ∃ e, x.tasks.l[i]? = some e := ⟨_, List.getElem?_eq_getElem (by omega)⟩
      have hC := hT.c he
      have hph := hw.ph i (by omega)
      have hcw := costW_in (w := w) (e := e) hC.2.2.1
      have hq := cost_wrap hcw.2.2
      have hcq : Int.tdiv (e 2 * w.cl + 999) 1000 < 1 → costW w e = 1 := fun h => by unfold costW; rw [Int.max_eq_right (Int.le_of_lt h)]
      have hcr : 1 ≤ Int.tdiv (e 2 * w.cl + 999) 1000 → costW w e = Int.tdiv (e 2 * w.cl + 999) 1000 := fun h => by unfold costW; rw [Int.max_eq_left h]
      refine X_skip ?_
      refine thenX_normal ?_
      refine X_seq ?_
      refine X_block ?_
      refine X_seq ?_
      refine X_region ?_
      refine XL_det .no (D_fld rfl fld_26_1 (o' := 1) rfl) rfl ?_
      refine XL_det .no (D_ldo rfl (by with_reducible repeat first | exact .here _ _ | apply Out.there | apply Out.app) tk_22 (by rfl)) rfl ?_
      refine XL_det .no (D_pure rfl) rfl ?_
      refine XL_det .no (D_idxSo rfl rfl slc_22 (x.tasks).nil0 rfl (by omega) rfl) rfl ?_
      refine XL_det .no (D_els (enc := encT) (sz := 11) (i := i) (fun _ => rfl) rfl (by with_reducible repeat first | exact .here _ _ | apply Out.there | apply Out.app) hx.tasks tk_48 he) rfl ?_
      refine XL_alloc .no zero_48 rfl (fun b6 => ?_)
      refine XL_efd .no (F_stw rfl rfl rfl (by with_reducible repeat first | exact .here _ _ | apply Out.there | apply Out.app) tk_48 rfl rfl) ?_
      refine XL_then ?_
      refine X_seq ?_
      refine X_region ?_
      refine XL_det .no (D_pure rfl) rfl ?_
      refine XL_det .no (D_idxA rfl rfl arr_38 rfl (by omega) rfl) rfl ?_
      refine XL_det .no (D_ldo (v := .int .i64 (w.ph i)) rfl (by with_reducible repeat first | exact .here _ _ | apply Out.there | apply Out.app) tk_3 (r16_get (by omega))) rfl ?_
      refine XL_det .no (D_pure rfl) rfl ?_
      refine XL_then ?_
      refine X_seqj (α := Unit) (fun _ => True) (fun _ => [(14, .int .i64 (max (w.ph i) 0)), (1, .int .u32 sv.toNat), (3, .int .i64 w.cl), (5, .pointer (some ⟨b1, 0, none⟩)), (7, .pointer (some ⟨b2, 0, none⟩)), (9, .pointer (some ⟨b3, 0, none⟩)), (10, .pointer (some ⟨b4, 0, none⟩)), (11, .pointer (some ⟨b5, 0, none⟩)), (12, .int .i64 (i : Int)), (13, .pointer (some ⟨b6, 0, none⟩))]) (fun _ => [blk b1 [.int .i64 x.res, .slice x.tasks.oad x.tasks.l.length x.tasks.c, .slice x.modes.oad x.modes.l.length x.modes.c, .slice x.edges.oad x.edges.l.length x.edges.c] 26, blk b2 (rowI 16 w.ph) 38, blk b3 (srC q) 69, many 16 (rowS q.jf), blk b4 (srC sr0) 69, blk b5 [.int .i64 0, .int .i64 0, .int .i64 0, .int .i64 0, .bool false, .bool false] 76, blk b6 (encT e) 48, K]) ?_ ?_
      · skip
        refine X_seq ?_
        refine X_region ?_
        refine XL_det .no (D_pure rfl) rfl ?_
        refine XL_det .no (D_pure rfl) rfl ?_
        refine XL_then ?_
        refine X_cond rfl (fun h2 => ?_) (fun h2 => ?_)
        · try simp only [decide_eq_true_eq, decide_eq_false_iff_not, Bool.not_eq_true', Bool.not_eq_false', beq_iff_eq, bne_iff_ne, beq_eq_false_iff_ne, bne_eq_false_iff_eq, Int.not_lt, Int.not_le, gt_iff_lt, ge_iff_le, ne_eq] at h2
          refine X_region ?_
          refine XL_det .no (D_pure rfl) rfl ?_
          refine XL_nil ?_
          refine joinQ_normal () ?_ ?_ ?_
          · trivial
          · refine ⟨by rw [show max (w.ph i) 0 = 0 by omega]; rfl, ?_, ?_, ?_, ?_, ?_, ?_, ?_, ?_, ?_, trivial⟩ <;> rfl
          · exact ⟨_, (by with_reducible repeat first | exact .nil _ | exact .here _ _ | exact Take.self _ | apply Take.cons | apply Out.there | apply Take.skip | exact Take.pre _ _ | apply Out.app)⟩
        · try simp only [decide_eq_true_eq, decide_eq_false_iff_not, Bool.not_eq_true', Bool.not_eq_false', beq_iff_eq, bne_iff_ne, beq_eq_false_iff_ne, bne_eq_false_iff_eq, Int.not_lt, Int.not_le, gt_iff_lt, ge_iff_le, ne_eq] at h2
          refine X_skip ?_
          refine joinQ_normal () ?_ ?_ ?_
          · trivial
          · refine ⟨by rw [show max (w.ph i) 0 = w.ph i by omega]; rfl, ?_, ?_, ?_, ?_, ?_, ?_, ?_, ?_, ?_, trivial⟩ <;> rfl
          · exact ⟨_, (by with_reducible repeat first | exact .nil _ | exact .here _ _ | exact Take.self _ | apply Take.cons | apply Out.there | apply Take.skip | exact Take.pre _ _ | apply Out.app)⟩
      · rintro _ _
        refine X_seq ?_
        refine X_region ?_
        refine XL_det .no (D_pure rfl) rfl ?_
        refine XL_det .no (D_pure rfl) rfl ?_
        refine XL_callv .no en_37 rfl (has sv (i : Int)) rfl ?_
        refine XL_det .no (D_pure rfl) rfl ?_
        refine XL_split (t := 36) rfl (fun h3 => ?_) (fun h3 => ?_)
        · try simp only [decide_eq_true_eq, decide_eq_false_iff_not, Bool.not_eq_true', Bool.not_eq_false', beq_iff_eq, bne_iff_ne, beq_eq_false_iff_ne, bne_eq_false_iff_eq, Int.not_lt, Int.not_le, gt_iff_lt, ge_iff_le, ne_eq] at h3
          refine XL_det (.yes 36 rfl rfl rfl) (D_fld rfl fld_69_2 (o' := 104) rfl) rfl ?_
          refine XL_det (.yes 36 rfl rfl rfl) (D_ldo (v := .int .i64 q.now) rfl (by with_reducible repeat first | exact .here _ _ | apply Out.there | apply Out.app) tk_3 (sr_now q)) rfl ?_
          refine XL_det (.yes 36 rfl rfl rfl) (D_pure rfl) rfl ?_
          refine XL_det (.yes 36 rfl rfl rfl) (D_pure rfl) rfl ?_
          refine XL_det .no (D_pure rfl) rfl ?_
          refine XL_det .no (D_pure rfl) rfl ?_
          refine XL_split (t := 42) rfl (fun h4 => ?_) (fun h4 => ?_)
          · try simp only [decide_eq_true_eq, decide_eq_false_iff_not, Bool.not_eq_true', Bool.not_eq_false', beq_iff_eq, bne_iff_ne, beq_eq_false_iff_ne, bne_eq_false_iff_eq, Int.not_lt, Int.not_le, gt_iff_lt, ge_iff_le, ne_eq] at h4
            refine XL_det (.yes 42 rfl rfl rfl) (D_fld rfl fld_69_2 (o' := 104) rfl) rfl ?_
            refine XL_det (.yes 42 rfl rfl rfl) (D_ldo (v := .int .i64 q.now) rfl (by with_reducible repeat first | exact .here _ _ | apply Out.there | apply Out.app) tk_3 (sr_now q)) rfl ?_
            refine XL_det (.yes 42 rfl rfl rfl) (D_pure rfl) rfl ?_
            refine XL_det (.yes 42 rfl rfl rfl) (D_sub rfl rfl (by omega) (by omega)) rfl ?_
            refine XL_det (.yes 42 rfl rfl rfl) (D_fld rfl fld_48_0 (o' := 0) rfl) rfl ?_
            refine XL_det (.yes 42 rfl rfl rfl) (D_ldo (v := .int .i64 (e 0)) rfl (by with_reducible repeat first | exact .here _ _ | apply Out.there | apply Out.app) tk_3 (by rfl)) rfl ?_
            refine XL_det (.yes 42 rfl rfl rfl) (D_divmod rfl rfl (by omega) rfl) rfl ?_
            refine XL_det (.yes 42 rfl rfl rfl) (D_pure rfl) rfl ?_
            refine XL_det .no (D_pure rfl) rfl ?_
            refine XL_then ?_
            refine X_cond rfl (fun h5 => ?_) (fun h5 => ?_)
            · try simp only [decide_eq_true_eq, decide_eq_false_iff_not, Bool.not_eq_true', Bool.not_eq_false', beq_iff_eq, bne_iff_ne, beq_eq_false_iff_ne, bne_eq_false_iff_eq, Int.not_lt, Int.not_le, gt_iff_lt, ge_iff_le, ne_eq] at h5
              refine X_seq ?_
              refine X_region ?_
              refine XL_det .no (D_fld rfl fld_48_2 (o' := 2) rfl) rfl ?_
              refine XL_det .no (D_ldo (v := .int .i64 (e 2)) rfl (by with_reducible repeat first | exact .here _ _ | apply Out.there | apply Out.app) tk_3 (by rfl)) rfl ?_
              refine XL_det .no (D_pure rfl) rfl ?_
              refine XL_det .no (D_mul (m := e 2) (n := w.cl) rfl rfl (by omega) (by omega)) rfl ?_
              refine XL_det .no (D_add rfl rfl (by omega) (by omega)) rfl ?_
              refine XL_det .no (D_divmod (z := Int.tdiv (e 2 * w.cl + 999) 1000) rfl rfl (by omega) (i64_in' (by rw [hq]; omega) (by rw [hq]; omega))) rfl ?_
              refine XL_det .no (D_pure rfl) rfl ?_
              refine XL_then ?_
              refine X_seqj (α := Unit) (fun _ => True) (fun _ => [(15, .int .i64 (costW w e)), (1, .int .u32 sv.toNat), (3, .int .i64 w.cl), (5, .pointer (some ⟨b1, 0, none⟩)), (7, .pointer (some ⟨b2, 0, none⟩)), (9, .pointer (some ⟨b3, 0, none⟩)), (10, .pointer (some ⟨b4, 0, none⟩)), (11, .pointer (some ⟨b5, 0, none⟩)), (12, .int .i64 (i : Int)), (13, .pointer (some ⟨b6, 0, none⟩))]) (fun _ => [blk b1 [.int .i64 x.res, .slice x.tasks.oad x.tasks.l.length x.tasks.c, .slice x.modes.oad x.modes.l.length x.modes.c, .slice x.edges.oad x.edges.l.length x.edges.c] 26, blk b2 (rowI 16 w.ph) 38, blk b3 (srC q) 69, many 16 (rowS q.jf), blk b4 (srC sr0) 69, blk b5 [.int .i64 0, .int .i64 0, .int .i64 0, .int .i64 0, .bool false, .bool false] 76, blk b6 (encT e) 48, K]) ?_ ?_
              · skip
                refine X_seq ?_
                refine X_region ?_
                refine XL_det .no (D_pure rfl) rfl ?_
                refine XL_det .no (D_pure rfl) rfl ?_
                refine XL_then ?_
                refine X_cond rfl (fun h6 => ?_) (fun h6 => ?_)
                · try simp only [decide_eq_true_eq, decide_eq_false_iff_not, Bool.not_eq_true', Bool.not_eq_false', beq_iff_eq, bne_iff_ne, beq_eq_false_iff_ne, bne_eq_false_iff_eq, Int.not_lt, Int.not_le, gt_iff_lt, ge_iff_le, ne_eq] at h6
                  refine X_region ?_
                  refine XL_det .no (D_pure rfl) rfl ?_
                  refine XL_nil ?_
                  refine joinQ_normal () ?_ ?_ ?_
                  · trivial
                  · refine ⟨by rw [show costW w e = 1 from hcq (by assumption)]; rfl, ?_, ?_, ?_, ?_, ?_, ?_, ?_, ?_, ?_, trivial⟩ <;> rfl
                  · exact ⟨_, (by with_reducible repeat first | exact .nil _ | exact .here _ _ | exact Take.self _ | apply Take.cons | apply Out.there | apply Take.skip | exact Take.pre _ _ | apply Out.app)⟩
                · try simp only [decide_eq_true_eq, decide_eq_false_iff_not, Bool.not_eq_true', Bool.not_eq_false', beq_iff_eq, bne_iff_ne, beq_eq_false_iff_ne, bne_eq_false_iff_eq, Int.not_lt, Int.not_le, gt_iff_lt, ge_iff_le, ne_eq] at h6
                  refine X_skip ?_
                  refine joinQ_normal () ?_ ?_ ?_
                  · trivial
                  · refine ⟨by rw [show costW w e = Int.tdiv (e 2 * w.cl + 999) 1000 from hcr (by assumption)]; rfl, ?_, ?_, ?_, ?_, ?_, ?_, ?_, ?_, ?_, trivial⟩ <;> rfl
                  · exact ⟨_, (by with_reducible repeat first | exact .nil _ | exact .here _ _ | exact Take.self _ | apply Take.cons | apply Out.there | apply Take.skip | exact Take.pre _ _ | apply Out.app)⟩
              · rintro _ _
                refine X_draw [blk b3 (srC q) 69, blk b6 (encT e) 48] mixed (by with_reducible repeat first | exact .nil _ | exact .here _ _ | exact Take.self _ | apply Take.cons | apply Out.there | apply Take.skip | exact Take.pre _ _ | apply Out.app) ?_
                refine XA_det 0 rfl (by kernel_rfl) (by kernel_rfl) (by kernel_rfl) (by kernel_rfl) (fun _ _ _ _ h => h) .no (D_ldso (vs := srC q) rfl (by with_reducible repeat first | exact .here _ _ | apply Out.there | apply Out.app) tk_69 rfl (by rw [List.drop_zero, List.take_of_length_le (by rw [sr_len]; exact Nat.le_refl _)])) rfl ?_
                refine XA_detp 1 rfl (by kernel_rfl) (by kernel_rfl) (by kernel_rfl) (fun _ _ _ _ h => h) .no (D_pureP rfl) rfl ?_
                refine XA_det 2 rfl (by kernel_rfl) (by kernel_rfl) (by kernel_rfl) (by kernel_rfl) (fun _ _ _ _ h => h) .no (D_ldso (vs := encT e) rfl (by with_reducible repeat first | exact .here _ _ | apply Out.there | apply Out.app) tk_48 rfl (by rfl)) rfl ?_
                refine XA_detp 3 rfl (by kernel_rfl) (by kernel_rfl) (by kernel_rfl) (fun _ _ _ _ h => h) .no (D_pureP rfl) rfl ?_
                refine XA_det 4 rfl (by kernel_rfl) (by kernel_rfl) (by kernel_rfl) (by kernel_rfl) (fun _ _ _ _ h => h) .no (D_ldso (vs := encT e) rfl (by with_reducible repeat first | exact .here _ _ | apply Out.there | apply Out.app) tk_48 rfl (by rfl)) rfl ?_
                refine XA_detp 5 rfl (by kernel_rfl) (by kernel_rfl) (by kernel_rfl) (fun _ _ _ _ h => h) .no (D_pureP rfl) rfl ?_
                refine XA_one 6 (by kernel_rfl) ?_
                refine XO_callc rfl .no en_72 rfl (by with_reducible repeat first | exact .nil _ | apply App.cons) (rsec e (costW w e) (by omega) hC.2.2.2.2) (by with_reducible repeat first | exact .nil _ | exact .here _ _ | exact Take.self _ | apply Take.cons | apply Out.there | apply Take.skip | exact Take.pre _ _ | apply Out.app) rfl ?_
                rintro _ _ ⟨x0, ⟨hx0, hx0o⟩, rfl, rfl⟩
                simp only [List.cons_append, List.nil_append]
                refine ⟨[row (.slice x0.oad x0.l.length x0.c) 123 3 x0.l.length (x0.l.flatMap encS), blk b1 [.int .i64 x.res, .slice x.tasks.oad x.tasks.l.length x.tasks.c, .slice x.modes.oad x.modes.l.length x.modes.c, .slice x.edges.oad x.edges.l.length x.edges.c] 26, blk b2 (rowI 16 w.ph) 38, many 16 (rowS q.jf), blk b4 (srC sr0) 69, blk b5 [.int .i64 0, .int .i64 0, .int .i64 0, .int .i64 0, .bool false, .bool false] 76, K], _, _, (by with_reducible repeat first | exact .nil _ | apply App.cons), (by with_reducible repeat first | exact .nil _ | exact .here _ _ | exact Take.self _ | apply Take.cons | apply Out.there | apply Take.skip | exact Take.pre _ _ | apply Out.app), ?_⟩
                refine XA_one 7 (by kernel_rfl) ?_
                refine XO_callc rfl .no en_28 rfl (by with_reducible repeat first | exact .nil _ | apply App.cons) (rrel26 q hL.so i (by omega) e (costW w e) x0 (Rd_own hx0o rfl) hC.2.2.2.1 (by have := hL.ok.now; have := hL.now; omega) (by omega)) (by with_reducible repeat first | exact .nil _ | exact .here _ _ | exact Take.self _ | apply Take.cons | apply Out.there | apply Take.skip | exact Take.pre _ _ | apply Out.app) rfl ?_
                rintro _ _ ⟨y, hy, rfl, rfl⟩
                simp only [List.cons_append, List.nil_append]
                refine ⟨[many 16 (rowS (relR q i e (max (min (costW w e) (e 2)) 1) y).jf), blk b1 [.int .i64 x.res, .slice x.tasks.oad x.tasks.l.length x.tasks.c, .slice x.modes.oad x.modes.l.length x.modes.c, .slice x.edges.oad x.edges.l.length x.edges.c] 26, blk b2 (rowI 16 w.ph) 38, blk b4 (srC sr0) 69, blk b5 [.int .i64 0, .int .i64 0, .int .i64 0, .int .i64 0, .bool false, .bool false] 76, K], _, _, (by with_reducible repeat first | exact .nil _ | apply App.cons), (by with_reducible repeat first | exact .nil _ | exact .here _ _ | exact Take.self _ | apply Take.cons | apply Out.there | apply Take.skip | exact Take.pre _ _ | apply Out.app), ?_⟩
                refine XA_detp 8 rfl (by kernel_rfl) (by kernel_rfl) (by kernel_rfl) (fun _ _ _ _ h => h) .no (D_pureP rfl) rfl ?_
                refine XA_detp 9 rfl (by kernel_rfl) (by kernel_rfl) (by kernel_rfl) (fun _ _ _ _ h => h) .no (D_pureP (v := .agg (srC ((relR q i e (max (min (costW w e) (e 2)) 1) y))).toArray) rfl) rfl ?_
                refine XA_detp 10 rfl (by kernel_rfl) (by kernel_rfl) (by kernel_rfl) (fun _ _ _ _ h => h) .no (D_pureP (v := .int .i64 (relRE q i)) rfl) rfl ?_
                refine XA_one 11 (by kernel_rfl) ?_
                refine XO_efd rfl .no (by with_reducible repeat first | exact .nil _ | apply App.cons) (F_stw rfl rfl rfl (by with_reducible repeat first | exact .here _ _ | apply Out.there | apply Out.app) tk_69 rfl rfl) (by kernel_rfl) ?_
                refine XA_done (by kernel_rfl) ?_
                try simp only [List.cons_append, List.nil_append, List.append_nil]
                refine inBlk_normal ?_
                refine thenX_normal ?_
                refine X_region ?_
                refine XL_det .no (D_pure rfl) rfl ?_
                refine XL_det .no (D_add rfl rfl (by omega) (by omega)) rfl ?_
                refine XL_det .no (D_pure rfl) rfl ?_
                refine XL_nil ?_
                refine loopQ_next (i + 1, (relR q i e (max (min (costW w e) (e 2)) 1) y)) ?_ ?_ ?_ ?_
                · (try dsimp only); exact ⟨by omega, relN_go hT he hL h3 (due_iff.2 ⟨by omega, h5⟩) hx0 hy, by unfold relR; split <;> exact hqn⟩
                · (try dsimp only); omega
                · refine ⟨?_, ?_, ?_, ?_, ?_, ?_, ?_, ?_, trivial⟩ <;> rfl
                · (try dsimp only); exact ⟨_, (by repeat first | (with_reducible first | exact .nil _ | exact .here _ _) | exact .here _ _ | (with_reducible first | exact Take.self _ | apply Take.cons | apply Out.there | apply Take.skip | exact Take.pre _ _ | apply Out.app))⟩
            · try simp only [decide_eq_true_eq, decide_eq_false_iff_not, Bool.not_eq_true', Bool.not_eq_false', beq_iff_eq, bne_iff_ne, beq_eq_false_iff_ne, bne_eq_false_iff_eq, Int.not_lt, Int.not_le, gt_iff_lt, ge_iff_le, ne_eq] at h5
              refine X_skip ?_
              refine inBlk_normal ?_
              refine thenX_normal ?_
              refine X_region ?_
              refine XL_det .no (D_pure rfl) rfl ?_
              refine XL_det .no (D_add rfl rfl (by omega) (by omega)) rfl ?_
              refine XL_det .no (D_pure rfl) rfl ?_
              refine XL_nil ?_
              refine loopQ_next (i + 1, q) ?_ ?_ ?_ ?_
              · (try dsimp only); exact ⟨by omega, relN_stay he hL (fun z => h5 (due_iff.1 z.2).2), hqn⟩
              · (try dsimp only); omega
              · refine ⟨?_, ?_, ?_, ?_, ?_, ?_, ?_, ?_, trivial⟩ <;> rfl
              · (try dsimp only); exact ⟨_, (by repeat first | (with_reducible first | exact .nil _ | exact .here _ _) | exact .here _ _ | (with_reducible first | exact Take.self _ | apply Take.cons | apply Out.there | apply Take.skip | exact Take.pre _ _ | apply Out.app))⟩
          · try simp only [decide_eq_true_eq, decide_eq_false_iff_not, Bool.not_eq_true', Bool.not_eq_false', beq_iff_eq, bne_iff_ne, beq_eq_false_iff_ne, bne_eq_false_iff_eq, Int.not_lt, Int.not_le, gt_iff_lt, ge_iff_le, ne_eq] at h4
            refine XL_skip 42 rfl rfl rfl rfl rfl ?_
            refine XL_skip 42 rfl rfl rfl rfl rfl ?_
            refine XL_skip 42 rfl rfl rfl rfl rfl ?_
            refine XL_skip 42 rfl rfl rfl rfl rfl ?_
            refine XL_skip 42 rfl rfl rfl rfl rfl ?_
            refine XL_skip 42 rfl rfl rfl rfl rfl ?_
            refine XL_skip 42 rfl rfl rfl rfl rfl ?_
            refine XL_skip 42 rfl rfl rfl rfl rfl ?_
            refine XL_det .no (D_pure rfl) rfl ?_
            refine XL_then ?_
            refine X_cond_f rfl rfl ?_
            refine X_skip ?_
            refine inBlk_normal ?_
            refine thenX_normal ?_
            refine X_region ?_
            refine XL_det .no (D_pure rfl) rfl ?_
            refine XL_det .no (D_add rfl rfl (by omega) (by omega)) rfl ?_
            refine XL_det .no (D_pure rfl) rfl ?_
            refine XL_nil ?_
            refine loopQ_next (i + 1, q) ?_ ?_ ?_ ?_
            · (try dsimp only); exact ⟨by omega, relN_stay he hL (fun z => absurd (due_iff.1 z.2).1 (by omega)), hqn⟩
            · (try dsimp only); omega
            · refine ⟨?_, ?_, ?_, ?_, ?_, ?_, ?_, ?_, trivial⟩ <;> rfl
            · (try dsimp only); exact ⟨_, (by repeat first | (with_reducible first | exact .nil _ | exact .here _ _) | exact .here _ _ | (with_reducible first | exact Take.self _ | apply Take.cons | apply Out.there | apply Take.skip | exact Take.pre _ _ | apply Out.app))⟩
        · try simp only [decide_eq_true_eq, decide_eq_false_iff_not, Bool.not_eq_true', Bool.not_eq_false', beq_iff_eq, bne_iff_ne, beq_eq_false_iff_ne, bne_eq_false_iff_eq, Int.not_lt, Int.not_le, gt_iff_lt, ge_iff_le, ne_eq] at h3
          refine XL_skip 36 rfl rfl rfl rfl rfl ?_
          refine XL_skip 36 rfl rfl rfl rfl rfl ?_
          refine XL_skip 36 rfl rfl rfl rfl rfl ?_
          refine XL_skip 36 rfl rfl rfl rfl rfl ?_
          refine XL_det .no (D_pure rfl) rfl ?_
          refine XL_det .no (D_pure rfl) rfl ?_
          refine XL_skip 42 rfl rfl rfl rfl rfl ?_
          refine XL_skip 42 rfl rfl rfl rfl rfl ?_
          refine XL_skip 42 rfl rfl rfl rfl rfl ?_
          refine XL_skip 42 rfl rfl rfl rfl rfl ?_
          refine XL_skip 42 rfl rfl rfl rfl rfl ?_
          refine XL_skip 42 rfl rfl rfl rfl rfl ?_
          refine XL_skip 42 rfl rfl rfl rfl rfl ?_
          refine XL_skip 42 rfl rfl rfl rfl rfl ?_
          refine XL_det .no (D_pure rfl) rfl ?_
          refine XL_then ?_
          refine X_cond_f rfl rfl ?_
          refine X_skip ?_
          refine inBlk_normal ?_
          refine thenX_normal ?_
          refine X_region ?_
          refine XL_det .no (D_pure rfl) rfl ?_
          refine XL_det .no (D_add rfl rfl (by omega) (by omega)) rfl ?_
          refine XL_det .no (D_pure rfl) rfl ?_
          refine XL_nil ?_
          refine loopQ_next (i + 1, q) ?_ ?_ ?_ ?_
          · (try dsimp only); exact ⟨by omega, relN_stay he hL (fun z => by rw [h3] at z; cases z.1), hqn⟩
          · (try dsimp only); omega
          · refine ⟨?_, ?_, ?_, ?_, ?_, ?_, ?_, ?_, trivial⟩ <;> rfl
          · (try dsimp only); exact ⟨_, (by repeat first | (with_reducible first | exact .nil _ | exact .here _ _) | exact .here _ _ | (with_reducible first | exact Take.self _ | apply Take.cons | apply Out.there | apply Take.skip | exact Take.pre _ _ | apply Out.app))⟩
    · try simp only [decide_eq_true_eq, decide_eq_false_iff_not, Bool.not_eq_true', Bool.not_eq_false', beq_iff_eq, bne_iff_ne, beq_eq_false_iff_ne, bne_eq_false_iff_eq, Int.not_lt, Int.not_le, gt_iff_lt, ge_iff_le, ne_eq] at h1
      obtain rfl : i = x.tasks.l.length := by omega
      refine X_exit ?_
      refine thenX_exit ?_
      refine loopQ_exit ?_
      refine inBlk_here ?_
      refine thenX_normal ?_
      refine X_seq ?_
      refine X_region ?_
      refine XL_det .no (D_ldso (vs := srC q) rfl (by with_reducible repeat first | exact .here _ _ | apply Out.there | apply Out.app) tk_69 rfl (by rw [List.drop_zero, List.take_of_length_le (by rw [sr_len]; exact Nat.le_refl _)])) rfl ?_
      refine XL_call .no en_31 rfl (rtick26 q hL.so (like_bnd hL) (by have := hL.ok.now; have := hL.now; omega)) (by with_reducible repeat first | exact .nil _ | exact .here _ _ | exact Take.self _ | apply Take.cons | apply Out.there | apply Take.skip | exact Take.pre _ _ | apply Out.app) rfl ?_
      rintro _ _ ⟨rfl, rfl⟩
      simp only [List.cons_append, List.nil_append]
      refine XL_det .no (D_pure (v := .agg (srC ((tickR q).1)).toArray) rfl) rfl ?_
      refine XL_det .no (D_pure (v := .agg (encRr (tickR q).2).toArray) rfl) rfl ?_
      refine XL_efd .no (F_stw rfl rfl rfl (by with_reducible repeat first | exact .here _ _ | apply Out.there | apply Out.app) tk_69 rfl rfl) ?_
      refine XL_efd .no (F_stw rfl rfl rfl (by with_reducible repeat first | exact .here _ _ | apply Out.there | apply Out.app) tk_76 rfl rfl) ?_
      refine XL_then ?_
      refine X_ret ?_
      refine ret_ok (.nil _) (res_aa rfl rfl rfl (by with_reducible repeat first | exact .here _ _ | apply Out.there | apply Out.app) (by with_reducible repeat first | exact .here _ _ | apply Out.there | apply Out.app) tk_69 tk_76 (by rfl) (by rfl)) ?_
      exact ⟨[many 16 (rowS (tickR q).1.jf), K], ⟨q, hL, rfl, rfl⟩, _, (by repeat first | (with_reducible first | exact .nil _ | exact .here _ _) | exact .here _ _ | (with_reducible first | exact Take.self _ | apply Take.cons | apply Out.there | apply Take.skip | exact Take.pre _ _ | apply Out.app))⟩

end Go.Proofs.YtkkdchgnknpceaaDoor
end
