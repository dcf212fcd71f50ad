/- GraphReaches: a part of the functions that it reaches, walked one by one. Walks written by a program of mine. -/
import Derived.Test.YtdimcgedcndndaaDoorGraphReachesP1
import Derived.KernelRfl
import Derived.Test.YtdimcgedcndndaaDoorProg
import Derived.Test.YtdimcgedcndndaaDoorRows
import Derived.Test.YtdimcgedcndndaaDoorTie
import Derived.Test.YtdimcgedcndndaaDoorCards
import Derived.SevenTiedAt
import Derived.LaidMore
section
/- Graphs: the queue of modes as they are met. Plain. -/
namespace Go.Proofs.YtdimcgedcndndaaDoor
open Go Go.Sl
set_option linter.unusedVariables false
set_option linter.unusedSimpArgs false
def nxt (E : List Edg) (m : Int) : List Int := (E.filter fun e => decide (e 0 = m)).map fun e => e 1
def nxtI (E : List Edg) (m : Int) : Nat → List (Int × Int)
  | 0 => []
  | i + 1 => nxtI E m i ++ (match E[i]? with | some e => if e 0 = m then [(e 1, (i : Int))] else [] | none => [])
theorem nxtI_s {E : List Edg} {m : Int} {i : Nat} {e : Edg} (h : E[i]? = some e) : nxtI E m (i + 1) = nxtI E m i ++ if e 0 = m then [(e 1, (i : Int))] else [] := by rw [nxtI, h]
theorem nxt_s {E : List Edg} {m : Int} {i : Nat} {e : Edg} (h : E[i]? = some e) : nxt (E.take (i + 1)) m = nxt (E.take i) m ++ if e 0 = m then [e 1] else [] := by
  unfold nxt; rw [List.take_add_one, h, List.filter_append, List.map_append]
  congr 1
  by_cases hc : e 0 = m <;> simp [hc]
theorem nxtI_fst (E : List Edg) (m : Int) : ∀ i, i ≤ E.length → (nxtI E m i).map (·.1) = nxt (E.take i) m
  | 0, _ => by simp [nxtI, nxt]
  | i + 1, h => by
    have he : E[i]? = some E[i] := List.getElem?_eq_getElem (by omega)
    rw [nxtI_s he, nxt_s he, List.map_append, nxtI_fst E m i (by omega)]
    congr 1; split <;> rfl
theorem nxtI_all (E : List Edg) (m : Int) : (nxtI E m E.length).map (·.1) = nxt E m := by rw [nxtI_fst E m _ (Nat.le_refl _), List.take_length]
theorem nxtI_len (E : List Edg) (m : Int) : ∀ i, (nxtI E m i).length ≤ i
  | 0 => by simp [nxtI]
  | i + 1 => by
    have := nxtI_len E m i
    rw [nxtI, List.length_append]
    split
    · split <;> simp <;> omega
    · simp; omega
theorem mem_nxt {E : List Edg} {m t : Int} : t ∈ nxt E m ↔ ∃ e ∈ E, e 0 = m ∧ e 1 = t := by
  unfold nxt; rw [List.mem_map]
  constructor
  · rintro ⟨e, he, rfl⟩; have := List.mem_filter.1 he; exact ⟨e, this.1, of_decide_eq_true this.2, rfl⟩
  · rintro ⟨e, he, h1, h2⟩; exact ⟨e, List.mem_filter.2 ⟨he, decide_eq_true h1⟩, h2⟩
abbrev Qu := List (Int × Int)
def pushT (k : Int) (q : Qu) (t : Int) : Qu := if t ∈ q.map (·.1) then q else q ++ [(t, k)]
def rndQ (E : List Edg) (k : Nat) (q : Qu) : Qu := (nxt E (q.getD k (0, 0)).1).foldl (pushT k) q
def bq (E : List Edg) (f : Nat) : Nat → Qu
  | 0 => [((f : Int), -1)]
  | k + 1 => if k < (bq E f k).length then rndQ E k (bq E f k) else bq E f k
theorem nodup_le : ∀ (n : Nat) (l : List Int), l.Nodup → (∀ x ∈ l, 0 ≤ x ∧ x < n) → l.length ≤ n
  | 0, l, _, h => by
    cases l with
    | nil => simp
    | cons a l => have := h a (List.mem_cons_self ..); omega
  | n + 1, l, hn, h => by
    by_cases hm : (n : Int) ∈ l
    · have h1 := nodup_le n (l.erase n) (hn.erase _) (fun x hx => by
        have h2 := (List.Nodup.mem_erase_iff hn).1 hx
        have h3 := h x h2.2
        have h4 := h2.1
        omega)
      rw [List.length_erase_of_mem hm] at h1
      omega
    · have h1 := nodup_le n l hn (fun x hx => by
        have h3 := h x hx
        have : x ≠ n := fun e => hm (e ▸ hx)
        omega)
      omega
/-- A queue that may be. -/
structure QOk (n f : Nat) (q : Qu) : Prop where
  hd : q[0]? = some ((f : Int), -1)
  nd : (q.map (·.1)).Nodup
  rg : ∀ p ∈ q, 0 ≤ p.1 ∧ p.1 < n
  par : ∀ (j : Nat) m p, q[j]? = some (m, p) → (j = 0 ∧ p = -1) ∨ (0 ≤ p ∧ p < j)
theorem QOk.len {n f : Nat} {q : Qu} (h : QOk n f q) : q.length ≤ n := by
  have := nodup_le n (q.map (·.1)) h.nd (fun x hx => by
    obtain ⟨p, hp, rfl⟩ := List.mem_map.1 hx
    exact h.rg p hp)
  simpa using this
theorem QOk.pos {n f : Nat} {q : Qu} (h : QOk n f q) : 0 < q.length := (List.getElem?_eq_some_iff.1 h.hd).1
theorem QOk.push {n f k : Nat} {q : Qu} (h : QOk n f q) (hk : k < q.length) {t : Int} (ht : 0 ≤ t ∧ t < n) : QOk n f (pushT k q t) := by
  unfold pushT
  split
  · exact h
  · rename_i hm
    refine ⟨by rw [List.getElem?_append_left h.pos]; exact h.hd, ?_, ?_, ?_⟩
    · rw [List.map_append, List.nodup_append]
      refine ⟨h.nd, by simp, ?_⟩
      intro a ha b hb
      simp at hb; subst hb
      rintro rfl; exact hm ha
    · intro p hp
      rcases List.mem_append.1 hp with hp | hp
      · exact h.rg p hp
      · simp at hp; subst hp; exact ht
    · intro j m p hj
      rcases Nat.lt_or_ge j q.length with hl | hl
      · rw [List.getElem?_append_left hl] at hj; exact h.par j m p hj
      · rw [List.getElem?_append_right hl] at hj
        have : j - q.length = 0 := by
          rcases Nat.eq_zero_or_pos (j - q.length) with h0 | h0
          · exact h0
          · rw [List.getElem?_eq_none (by simp; omega)] at hj; cases hj
        rw [this] at hj
        simp at hj
        right; omega
theorem pushT_pre (k : Int) (q : Qu) (t : Int) : q <+: pushT k q t := by
  unfold pushT; split
  · exact List.prefix_refl q
  · exact List.prefix_append q _
theorem fold_pre (k : Int) : ∀ (ts : List Int) (q : Qu), q <+: ts.foldl (pushT k) q
  | [], q => List.prefix_refl q
  | t :: ts, q => List.IsPrefix.trans (pushT_pre k q t) (fold_pre k ts (pushT k q t))
theorem QOk.fold {n f k : Nat} : ∀ {ts : List Int} {q : Qu}, QOk n f q → k < q.length → (∀ t ∈ ts, 0 ≤ t ∧ t < n) → QOk n f (ts.foldl (pushT k) q)
  | [], q, h, _, _ => h
  | t :: ts, q, h, hk, ht => QOk.fold (ts := ts) (h.push hk (ht t (List.mem_cons_self ..))) (Nat.lt_of_lt_of_le hk (pushT_pre _ _ _).length_le) fun t' ht' => ht t' (List.mem_cons_of_mem _ ht')
theorem nxt_rg {E : List Edg} {n : Nat} (hE : EOk n E) {m t : Int} (h : t ∈ nxt E m) : 0 ≤ t ∧ t < n := by
  obtain ⟨e, he, _, rfl⟩ := mem_nxt.1 h
  exact (hE e he).2
theorem bq_pre1 (E : List Edg) (f k : Nat) : bq E f k <+: bq E f (k + 1) := by
  rw [bq]; split
  · exact fold_pre _ _ _
  · exact List.prefix_refl _
theorem bq_pre (E : List Edg) (f : Nat) {k j : Nat} (h : k ≤ j) : bq E f k <+: bq E f j := by
  induction j with
  | zero => have : k = 0 := by omega
            subst this; exact List.prefix_refl _
  | succ j ih =>
    rcases Nat.lt_or_ge j k with h' | h'
    · have : k = j + 1 := by omega
      subst this; exact List.prefix_refl _
    · exact (ih h').trans (bq_pre1 E f j)
theorem bq_ok {E : List Edg} {n f : Nat} (hE : EOk n E) (hf : f < n) : ∀ k, QOk n f (bq E f k)
  | 0 => ⟨rfl, by simp [bq], by simp [bq]; omega, by
      intro j m p hj
      cases j with
      | zero => simp [bq] at hj; left; omega
      | succ j => simp [bq] at hj⟩
  | k + 1 => by
    rw [bq]; split
    · rename_i h; exact (bq_ok hE hf k).fold h fun t ht => nxt_rg hE ht
    · exact bq_ok hE hf k
theorem bq_stop (E : List Edg) (f : Nat) {k : Nat} (h : (bq E f k).length ≤ k) : ∀ j, k ≤ j → bq E f j = bq E f k := by
  intro j hj
  induction j with
  | zero => have : k = 0 := by omega
            subst this; rfl
  | succ j ih =>
    rcases Nat.lt_or_ge j k with h' | h'
    · have : k = j + 1 := by omega
      subst this; rfl
    · rw [bq, ih h', if_neg (by omega)]
/-- What a round adds. -/
theorem fold_new (k : Int) : ∀ (ts : List Int) (q : Qu), ∃ new, ts.foldl (pushT k) q = q ++ new ∧ (∀ p ∈ new, p.2 = k ∧ p.1 ∈ ts ∧ p.1 ∉ q.map (·.1)) ∧ ∀ t ∈ ts, t ∈ (q ++ new).map (·.1)
  | [], q => ⟨[], by simp, by simp, by simp⟩
  | t :: ts, q => by
    obtain ⟨new, h1, h2, h3⟩ := fold_new k ts (pushT k q t)
    rw [List.foldl_cons, h1]
    by_cases hm : t ∈ q.map (·.1)
    · have e : pushT k q t = q := by unfold pushT; rw [if_pos hm]
      rw [e] at h2 h3 ⊢
      refine ⟨new, rfl, fun p hp => ⟨(h2 p hp).1, List.mem_cons_of_mem _ (h2 p hp).2.1, (h2 p hp).2.2⟩, fun t' ht' => ?_⟩
      rcases List.mem_cons.1 ht' with rfl | ht'
      · rw [List.map_append]; exact List.mem_append_left _ hm
      · exact h3 t' ht'
    · have e : pushT k q t = q ++ [(t, k)] := by unfold pushT; rw [if_neg hm]
      rw [e] at h2 h3 ⊢
      refine ⟨(t, k) :: new, by simp, fun p hp => ?_, fun t' ht' => ?_⟩
      · rcases List.mem_cons.1 hp with rfl | hp
        · exact ⟨rfl, List.mem_cons_self .., hm⟩
        · have := h2 p hp
          refine ⟨this.1, List.mem_cons_of_mem _ this.2.1, fun h => this.2.2 ?_⟩
          rw [List.map_append]; exact List.mem_append_left _ h
      · rcases List.mem_cons.1 ht' with rfl | ht'
        · simp
        · have := h3 t' ht'
          simpa using this
theorem mem_fst {q : Qu} {t : Int} : t ∈ q.map (·.1) ↔ ∃ (j : Nat) (p : Int), q[j]? = some (t, p) := by
  rw [List.mem_map]
  constructor
  · rintro ⟨⟨a, p⟩, h, rfl⟩
    obtain ⟨j, hj, he⟩ := List.getElem_of_mem h
    exact ⟨j, p, by rw [List.getElem?_eq_getElem hj, he]⟩
  · rintro ⟨j, p, h⟩; exact ⟨(t, p), List.mem_of_getElem? h, rfl⟩
/-- What the queue is at mode k's turn. -/
structure BInv (E : List Edg) (n f k : Nat) (q : Qu) : Prop where
  ok : QOk n f q
  mono : ∀ (i j : Nat) m p m' p', i ≤ j → q[i]? = some (m, p) → q[j]? = some (m', p') → dist E n f m.toNat ≤ dist E n f m'.toNat
  far : ∀ (j : Nat) m p mk pk, q[j]? = some (m, p) → q[k]? = some (mk, pk) → dist E n f m.toNat ≤ dist E n f mk.toNat + 1
  lev : ∀ (j : Nat) m p, q[j]? = some (m, p) → 0 ≤ dist E n f m.toNat ∧ (0 ≤ p → ∃ mp pp, q[p.toNat]? = some (mp, pp) ∧ dist E n f m.toNat = dist E n f mp.toNat + 1)
  cls : ∀ e ∈ E, ∀ (j : Nat) p, j < k → q[j]? = some (e 0, p) → e 1 ∈ q.map (·.1)
  all : ∀ mk pk, q[k]? = some (mk, pk) → ∀ i : Nat, i < n → 0 ≤ dist E n f i → dist E n f i ≤ dist E n f mk.toNat → (i : Int) ∈ q.map (·.1)
theorem binv0 {E : List Edg} {n f : Nat} (hE : EOk n E) (hf : f < n) : BInv E n f 0 (bq E f 0) := by
  have h0 : ∀ (j : Nat) m p, (bq E f 0)[j]? = some (m, p) → j = 0 ∧ m = f ∧ p = -1 := by
    intro j m p hj
    cases j with
    | zero => simp [bq] at hj; omega
    | succ j => simp [bq] at hj
  have hd : dist E n f f = 0 := dist_zero.2 rfl
  refine ⟨bq_ok hE hf 0, ?_, ?_, ?_, ?_, ?_⟩
  · intro i j m p m' p' _ hi hj
    obtain ⟨_, rfl, _⟩ := h0 i m p hi
    obtain ⟨_, rfl, _⟩ := h0 j m' p' hj
    exact Int.le_refl _
  · intro j m p mk pk hj hk
    obtain ⟨_, rfl, _⟩ := h0 j m p hj
    obtain ⟨_, rfl, _⟩ := h0 _ mk pk hk
    omega
  · intro j m p hj
    obtain ⟨_, rfl, rfl⟩ := h0 j m p hj
    exact ⟨by simp only [Int.toNat_natCast]; omega, fun h => by omega⟩
  · intro e _ j p hj _; omega
  · intro mk pk hk i hi h1 h2
    obtain ⟨_, rfl, _⟩ := h0 _ mk pk hk
    simp only [Int.toNat_natCast] at h2
    have : i = f := dist_zero.1 (show dist E n f i = 0 by omega)
    subst this; simp [bq]
theorem binv_s {E : List Edg} {n f k : Nat} {q : Qu} (hE : EOk n E) (hf : f < n) (h : BInv E n f k q) (hk : k < q.length) : BInv E n f (k + 1) (rndQ E k q) := by
  obtain ⟨⟨mk, pk⟩, hmk⟩ : ∃ x, q[k]? = some x := ⟨_, List.getElem?_eq_getElem hk⟩
  have e0 : (q.getD k (0, 0)).1 = mk := by simp [List.getD, hmk]
  have hok : QOk n f (rndQ E k q) := h.ok.fold hk fun t ht => nxt_rg hE ht
  obtain ⟨new, hq, hn, hall⟩ := fold_new k (nxt E mk) q
  have hq' : rndQ E k q = q ++ new := by unfold rndQ; rw [e0]; exact hq
  rw [hq'] at hok ⊢
  have hmr := h.ok.rg (mk, pk) (List.mem_of_getElem? hmk)
  simp only at hmr
  have hmk0 := (h.lev k mk pk hmk).1
  -- the new ones are one edge farther away
  have hnew : ∀ m p, (m, p) ∈ new → dist E n f m.toNat = dist E n f mk.toNat + 1 ∧ p = k := by
    intro m p hmem
    obtain ⟨h1, h2, h3⟩ := hn _ hmem
    simp only at h1 h2 h3
    obtain ⟨e, he, g1, g2⟩ := mem_nxt.1 h2
    have hr := (hE e he)
    have hd := dist_edge hE hf he (by rw [g1]; exact hmk0)
    rw [g1, g2] at hd
    refine ⟨?_, h1⟩
    apply Classical.byContradiction
    intro hne
    have := h.all mk pk hmk m.toNat (by omega) hd.1 (by omega)
    rw [show ((m.toNat : Nat) : Int) = m by omega] at this
    exact h3 this
  have getn : ∀ (j : Nat) m p, (q ++ new)[j]? = some (m, p) → q.length ≤ j → (m, p) ∈ new := by
    intro j m p hj hl
    rw [List.getElem?_append_right hl] at hj
    exact List.mem_of_getElem? hj
  have getq : ∀ (j : Nat) m p, (q ++ new)[j]? = some (m, p) → j < q.length → q[j]? = some (m, p) := by
    intro j m p hj hl
    rwa [List.getElem?_append_left hl] at hj
  have upper : ∀ (j : Nat) m p, (q ++ new)[j]? = some (m, p) → dist E n f m.toNat ≤ dist E n f mk.toNat + 1 := by
    intro j m p hj
    rcases Nat.lt_or_ge j q.length with hl | hl
    · exact h.far j m p mk pk (getq j m p hj hl) hmk
    · have := (hnew m p (getn j m p hj hl)).1; omega
  have hmono : ∀ (i j : Nat) m p m' p', i ≤ j → (q ++ new)[i]? = some (m, p) → (q ++ new)[j]? = some (m', p') → dist E n f m.toNat ≤ dist E n f m'.toNat := by
    intro i j m p m' p' hij hi hj
    rcases Nat.lt_or_ge j q.length with hl | hl
    · exact h.mono i j m p m' p' hij (getq i m p hi (by omega)) (getq j m' p' hj hl)
    · have h1 := (hnew m' p' (getn j m' p' hj hl)).1
      have h2 := upper i m p hi
      omega
  have hgk : (q ++ new)[k]? = some (mk, pk) := by rw [List.getElem?_append_left hk]; exact hmk
  have hcls : ∀ e ∈ E, ∀ (j : Nat) p, j < k + 1 → (q ++ new)[j]? = some (e 0, p) → e 1 ∈ (q ++ new).map (·.1) := by
    intro e he j p hj hjq
    rcases Nat.lt_succ_iff_lt_or_eq.1 hj with hj' | rfl
    · have := h.cls e he j p hj' (getq j _ _ hjq (by omega))
      rw [List.map_append]; exact List.mem_append_left _ this
    · rw [hgk] at hjq
      have h0 : mk = e 0 := by simp at hjq; exact hjq.1
      exact hall (e 1) (mem_nxt.2 ⟨e, he, h0.symm, rfl⟩)
  refine ⟨hok, hmono, ?_, ?_, hcls, ?_⟩
  · intro j m p m' p' hj hk'
    have h1 := upper j m p hj
    have h2 := hmono k (k + 1) mk pk m' p' (by omega) hgk hk'
    omega
  · intro j m p hj
    rcases Nat.lt_or_ge j q.length with hl | hl
    · have hq := getq j m p hj hl
      obtain ⟨g1, g2⟩ := h.lev j m p hq
      refine ⟨g1, fun hp => ?_⟩
      obtain ⟨mp, pp, g3, g4⟩ := g2 hp
      exact ⟨mp, pp, by rw [List.getElem?_append_left (List.getElem?_eq_some_iff.1 g3).1]; exact g3, g4⟩
    · obtain ⟨g1, g2⟩ := hnew m p (getn j m p hj hl)
      refine ⟨by omega, fun _ => ⟨mk, pk, ?_, g1⟩⟩
      rw [g2, Int.toNat_natCast]; exact hgk
  · intro m' p' hk' i hi h1 h2
    by_cases hle : dist E n f i ≤ dist E n f mk.toNat
    · have := h.all mk pk hmk i hi h1 hle
      rw [List.map_append]; exact List.mem_append_left _ this
    · have hup := upper (k + 1) m' p' hk'
      obtain ⟨e, he, g1, g2⟩ := dist_pred hE (show 0 < dist E n f i by omega)
      have hr := hE e he
      have h3 := h.all mk pk hmk (e 0).toNat (by omega) (by omega) (by omega)
      rw [show (((e 0).toNat : Nat) : Int) = e 0 by omega] at h3
      obtain ⟨j, p, hj⟩ := mem_fst.1 h3
      have hjl := (List.getElem?_eq_some_iff.1 hj).1
      have hj2 : (q ++ new)[j]? = some (e 0, p) := by rw [List.getElem?_append_left hjl]; exact hj
      have hjk : j < k + 1 := by
        rcases Nat.lt_or_ge j (k + 1) with h' | h'
        · exact h'
        · have := hmono (k + 1) j m' p' (e 0) p h' hk' hj2
          omega
      have := hcls e he j p hjk hj2
      rw [show e 1 = (i : Int) by omega] at this
      exact this
theorem binv {E : List Edg} {n f : Nat} (hE : EOk n E) (hf : f < n) : ∀ k, k ≤ (bq E f k).length → BInv E n f k (bq E f k)
  | 0, _ => binv0 hE hf
  | k + 1, h => by
    rw [bq] at h ⊢
    by_cases hk : k < (bq E f k).length
    · rw [if_pos hk]; exact binv_s hE hf (binv hE hf k (by omega)) hk
    · rw [if_neg hk] at h; omega
/-- At which turn it is done. -/
theorem bq_turn {E : List Edg} {n f : Nat} (hE : EOk n E) (hf : f < n) : ∃ k, k = (bq E f k).length ∧ k ≤ n ∧ ∀ j, k ≤ j → bq E f j = bq E f k := by
  have key : ∀ j, (∃ k, k ≤ j ∧ k = (bq E f k).length) ∨ j < (bq E f j).length := by
    intro j
    induction j with
    | zero => exact .inr (bq_ok hE hf 0).pos
    | succ j ih =>
      rcases ih with ⟨k, h1, h2⟩ | h
      · exact .inl ⟨k, by omega, h2⟩
      · have := (bq_pre1 E f j).length_le
        rcases Nat.lt_or_ge (j + 1) (bq E f (j + 1)).length with h' | h'
        · exact .inr h'
        · exact .inl ⟨j + 1, Nat.le_refl _, by omega⟩
  rcases key n with ⟨k, h1, h2⟩ | h
  · exact ⟨k, h2, h1, bq_stop E f (by omega)⟩
  · have := (bq_ok hE hf n).len; omega
/-- All that is reached is met. -/
theorem bq_all {E : List Edg} {n f : Nat} (hE : EOk n E) (hf : f < n) {t : Nat} (ht : t < n) (h : 0 ≤ dist E n f t) : (t : Int) ∈ (bq E f n).map (·.1) := by
  obtain ⟨k, hk, hkn, hst⟩ := bq_turn hE hf
  have hb := binv hE hf k (by omega)
  rw [hst n hkn]
  have key : ∀ (d : Nat) (t : Nat), t < n → dist E n f t = d → (t : Int) ∈ (bq E f k).map (·.1) := by
    intro d
    induction d with
    | zero =>
      intro t _ h0
      have : t = f := dist_zero.1 (by simpa using h0)
      subst this
      exact List.mem_map.2 ⟨_, List.mem_of_getElem? (bq_ok hE hf k).hd, rfl⟩
    | succ d ih =>
      intro t ht hd
      obtain ⟨e, he, g1, g2⟩ := dist_pred hE (show 0 < dist E n f t by omega)
      have hr := hE e he
      have h3 := ih (e 0).toNat (by omega) (by omega)
      rw [show (((e 0).toNat : Nat) : Int) = e 0 by omega] at h3
      obtain ⟨j, p, hj⟩ := mem_fst.1 h3
      have hjl := (List.getElem?_eq_some_iff.1 hj).1
      have := hb.cls e he j p (by omega) hj
      rw [show e 1 = (t : Int) by omega] at this
      exact this
  obtain ⟨d, hd⟩ := Int.eq_ofNat_of_zero_le h
  exact key d t ht hd
/-! ### The way back -/
def chain (q : Qu) : Nat → Nat → List Int
  | 0, _ => []
  | n + 1, j => match q[j]? with
    | none => []
    | some (m, p) => if p < 0 then [m] else chain q n p.toNat ++ [m]
theorem chain_u {q : Qu} {n j : Nat} {m p : Int} (h : q[j]? = some (m, p)) : chain q (n + 1) j = if p < 0 then [m] else chain q n p.toNat ++ [m] := by rw [chain, h]
theorem chain_fuel {n f : Nat} {q : Qu} (h : QOk n f q) : ∀ (a b j : Nat), j < a → j < b → chain q a j = chain q b j := by
  intro a
  induction a with
  | zero => intro b j h1; omega
  | succ a ih =>
    intro b j h1 h2
    obtain ⟨b, rfl⟩ : ∃ b', b = b' + 1 := ⟨b - 1, by omega⟩
    cases hq : q[j]? with
    | none => simp [chain, hq]
    | some x =>
      obtain ⟨m, p⟩ := x
      rw [chain_u hq, chain_u hq]
      rcases h.par j m p hq with ⟨_, rfl⟩ | ⟨hp0, hpj⟩
      · rfl
      · rw [if_neg (by omega), if_neg (by omega), ih b p.toNat (by omega) (by omega)]
theorem chain_step {n f : Nat} {q : Qu} (h : QOk n f q) {j : Nat} {m p : Int} (hq : q[j]? = some (m, p)) (hp : 0 ≤ p) : chain q (j + 1) j = chain q (p.toNat + 1) p.toNat ++ [m] := by
  rw [chain_u hq, if_neg (by omega)]
  rcases h.par j m p hq with ⟨_, rfl⟩ | ⟨hp0, hpj⟩
  · omega
  · rw [chain_fuel h j (p.toNat + 1) p.toNat (by omega) (by omega)]
theorem chain_pre {n f : Nat} {q q' : Qu} (hp : q <+: q') (h : QOk n f q) : ∀ (a j : Nat), j < q.length → chain q a j = chain q' a j := by
  intro a
  induction a with
  | zero => intro j _; rfl
  | succ a ih =>
    intro j hj
    have e : q'[j]? = q[j]? := by
      obtain ⟨r, rfl⟩ := hp
      rw [List.getElem?_append_left hj]
    obtain ⟨⟨m, p⟩, hq⟩ : ∃ x, q[j]? = some x := ⟨_, List.getElem?_eq_getElem hj⟩
    rw [chain_u hq, chain_u (e.trans hq)]
    rcases h.par j m p hq with ⟨_, rfl⟩ | ⟨hp0, hpj⟩
    · rfl
    · rw [if_neg (by omega), if_neg (by omega), ih p.toNat (by omega)]
theorem chain_len {E : List Edg} {n f k : Nat} {q : Qu} (h : BInv E n f k q) : ∀ (a j : Nat) m p, j < a → q[j]? = some (m, p) → ((chain q a j).length : Int) = dist E n f m.toNat + 1 := by
  intro a
  induction a with
  | zero => intro j _ _ h1; omega
  | succ a ih =>
    intro j m p h1 hq
    rw [chain_u hq]
    rcases h.ok.par j m p hq with ⟨rfl, rfl⟩ | ⟨hp0, hpj⟩
    · rw [if_pos (by omega)]
      have := h.ok.hd
      rw [hq] at this
      have hm : m = f := by simp at this; exact this
      subst hm
      rw [Int.toNat_natCast, dist_zero.2 rfl]; rfl
    · obtain ⟨mp, pp, g1, g2⟩ := (h.lev j m p hq).2 hp0
      have := ih p.toNat mp pp (by omega) g1
      rw [if_neg (by omega), List.length_append, g2]
      simp; omega
theorem chain_le (q : Qu) : ∀ (n j : Nat), (chain q n j).length ≤ n
  | 0, _ => by simp [chain]
  | n + 1, j => by
    rw [chain]
    split
    · simp
    · rename_i m p _
      split
      · simp
      · have := chain_le q n p.toNat
        rw [List.length_append]; simp; omega
/-- At which place a mode is met. -/
def fidx (q : Qu) (t : Int) : Nat := (q.map (·.1)).idxOf t
theorem fidx_lt {q : Qu} {t : Int} (h : t ∈ q.map (·.1)) : fidx q t < q.length := by
  have := List.idxOf_lt_length_of_mem h
  simpa [fidx] using this
theorem fidx_get {q : Qu} {t : Int} (h : t ∈ q.map (·.1)) : ∃ p, q[fidx q t]? = some (t, p) := by
  have hl := fidx_lt h
  have h1 : (q.map (·.1))[fidx q t]'(by simpa using hl) = t := List.getElem_idxOf _
  rw [List.getElem_map] at h1
  exact ⟨(q[fidx q t]).2, by rw [List.getElem?_eq_getElem hl]; congr 1; exact Prod.ext h1 rfl⟩
theorem fidx_eq {n f : Nat} {q : Qu} (h : QOk n f q) {j : Nat} {t p : Int} (hq : q[j]? = some (t, p)) : fidx q t = j := by
  have hm : t ∈ q.map (·.1) := mem_fst.2 ⟨j, p, hq⟩
  obtain ⟨p', h1⟩ := fidx_get hm
  have hl := fidx_lt hm
  have hj := (List.getElem?_eq_some_iff.1 hq).1
  have e1 : (q.map (·.1))[fidx q t]? = (q.map (·.1))[j]? := by rw [List.getElem?_map, List.getElem?_map, h1, hq]; rfl
  exact (List.getElem?_inj (by simpa using hl) h.nd).1 e1
end Go.Proofs.YtdimcgedcndndaaDoor
end

section
namespace Go.Proofs.YtdimcgedcndndaaDoor
open Go Go.Sl
set_option linter.unusedVariables false
set_option linter.unusedSimpArgs false
set_option maxRecDepth 4000
variable {B : Nat} {K : Asrt B}


/-- What of an image a graph wants. -/
structure GOk (x : Img) : Prop where
  nm : 1 ≤ x.modes.l.length ∧ x.modes.l.length ≤ 8
  ne : x.edges.l.length ≤ 24
  edges : EOk x.modes.l.length x.edges.l
theorem RightP.g {x : Img} (hr : RightP x) : GOk x := ⟨hr.nm, hr.ne, fun e he => ⟨(hr.edges e he).f, (hr.edges e he).t⟩⟩
theorem eok {x : Img} (hr : GOk x) : EOk x.modes.l.length x.edges.l := hr.edges
def stepsG (x : Img) (f : Int) : Nat → Int := if 0 ≤ f ∧ f < x.modes.l.length then stg x.edges.l f.toNat x.modes.l.length else fun _ => -1
abbrev stepsL (x : Img) (f : Int) : List Int := rgI x.modes.l.length (stepsG x f)
theorem rg_m1 {n i : Nat} : (rgI n fun j => if j < i then -1 else 0).set i (-1) = rgI n fun j => if j < i + 1 then -1 else 0 := by
  rw [rgI_set]; exact rgI_ext fun k _ => by
    by_cases e : k = i
    · subst e; rw [upd_same, if_pos (by omega)]
    · rw [upd_ne _ _ e]; by_cases h : k < i
      · rw [if_pos h, if_pos (by omega)]
      · rw [if_neg h, if_neg (by omega)]
theorem relax_t {k : Int} {g : Nat → Int} {e : Edg} (h1 : g (e 0).toNat = k) (h2 : g (e 1).toNat < 0) : upd g (e 1).toNat (k + 1) = relax k g e := by unfold relax; rw [if_pos ⟨h1, h2⟩]
theorem relax_f {k : Int} {g : Nat → Int} {e : Edg} (h : ¬ (g (e 0).toNat = k ∧ g (e 1).toNat < 0)) : g = relax k g e := by unfold relax; rw [if_neg h]
theorem fold_s {α β : Type} {f : β → α → β} {l : List α} {i : Nat} {a : α} {b : β} (h : l[i]? = some a) : (l.take (i + 1)).foldl f b = f ((l.take i).foldl f b) a := by rw [List.take_add_one, h, List.foldl_append]; rfl

theorem rsteps (x : Img) (hx : x.In K) (hr : GOk x) (f : Int) : Ctr Tryd.prog B 45 [x.v, .int .i64 f] [K] (fun v S => ∃ a : Arr Int, (a.l = stepsL x f ∧ a.Own) ∧ v = a.v ∧ S = [row (.slice a.oad a.l.length a.c) 3 1 a.l.length (a.l.flatMap encI)] ++ [K]) := by
  refine Ctr_of_X (N := 75) Tryd.func45 rfl (by simp) rfl ?_
  intro w0 D0
  have hnm := hr.nm
  have hne := hr.ne
  refine X_seq ?_
  refine X_region ?_
  refine XL_box (cs := [.int .i64 x.res, .slice x.tasks.oad x.tasks.l.length x.tasks.c, .slice x.modes.oad x.modes.l.length x.modes.c, .slice x.edges.oad x.edges.l.length x.edges.c]) .no rfl rfl rfl (fun b1 => ?_)
  refine XL_det .no (D_pure rfl) rfl ?_
  refine XL_then ?_
  refine X_seq ?_
  refine X_region ?_
  refine XL_det .no (D_fld rfl fld_95_2 (o' := 2) rfl) rfl ?_
  refine XL_det .no (D_ldo rfl (by repeat first | with_reducible exact .here _ _ | with_reducible apply Out.there | with_reducible apply Out.app) tk_92 (by rfl)) rfl ?_
  refine XL_det .no (D_len rfl rfl slc_92) rfl ?_
  refine XL_make encI 0 .no rfl rfl slt_41 rfl (by omega) (by omega) rfl (fun c hc hco => ?_)
  have hcl : c.l.length = x.modes.l.length := by rw [hc]; simp
  refine XL_det .no (D_pure rfl) rfl ?_
  refine XL_then ?_
  refine X_seq ?_
  refine X_seq ?_
  refine X_region ?_
  refine XL_det .no (D_pure rfl) rfl ?_
  refine XL_then ?_
  refine X_block ?_
  rw [show c.l.flatMap encI = (rgI c.l.length (fun j => if j < 0 then -1 else 0)).flatMap encI by rw [hcl, rgI_ext (g := fun _ => 0) (fun k _ => by simp), rgI_rep, ← hc]]
  refine X_loop (α := Nat) (fun i => i ≤ c.l.length) (fun i => [(6, .int .i64 (i : Int)), (1, .int .i64 f), (2, .pointer (some ⟨b1, 0, none⟩)), (5, .slice c.oad c.l.length c.c)]) (fun i => [blk b1 [.int .i64 x.res, .slice x.tasks.oad x.tasks.l.length x.tasks.c, .slice x.modes.oad x.modes.l.length x.modes.c, .slice x.edges.oad x.edges.l.length x.edges.c] 95, row (.slice c.oad c.l.length c.c) 3 1 c.l.length ((rgI c.l.length (fun j => if j < i then -1 else 0)).flatMap encI), K]) (fun i => c.l.length - i) 0 ?_ (by refine ⟨?_, ?_, ?_, ?_, trivial⟩ <;> rfl) (by repeat first | with_reducible exact .nil _ | with_reducible exact .here _ _ | with_reducible exact Take.self _ | with_reducible apply Take.cons | with_reducible apply Out.there | with_reducible apply Take.skip | with_reducible exact Take.pre _ _ | with_reducible apply Out.app) ?_
  · exact Nat.zero_le _
  · intro i hi
    refine X_seq ?_
    refine X_seq ?_
    refine X_region ?_
    refine XL_det .no (D_pure rfl) rfl ?_
    refine XL_det .no (D_pure rfl) rfl ?_
    refine XL_det .no (D_len rfl rfl slc_41) rfl ?_
    refine XL_det .no (D_pure rfl) rfl ?_
    refine XL_then ?_
    refine X_cond rfl (fun h1 => ?_) (fun h1 => ?_)
    · try simp only [decide_eq_true_eq, decide_eq_false_iff_not, Bool.not_eq_true', Bool.not_eq_false', beq_iff_eq, bne_iff_ne, beq_eq_false_iff_ne, bne_eq_false_iff_eq, Int.not_lt, Int.not_le, gt_iff_lt, ge_iff_le, ne_eq] at h1
      refine X_skip ?_
      refine thenX_normal ?_
      refine X_seq ?_
      refine X_block ?_
      refine X_region ?_
      refine XL_det .no (D_pure rfl) rfl ?_
      refine XL_det .no (D_pure rfl) rfl ?_
      refine XL_det .no (D_idxSo (j := i) rfl rfl slc_41 (c).nil0 rfl (by omega) rfl) rfl ?_
      refine XL_efd .no (F_rst (enc := encI) (i := i) (y := -1) (xs' := rgI c.l.length (fun j => if j < (i + 1) then -1 else 0)) hco rfl rfl (fun _ => rfl) rfl rfl (by repeat first | with_reducible exact .here _ _ | with_reducible apply Out.there | with_reducible apply Out.app) tk_3 (by rw [rgI_len]; omega) rg_m1) ?_
      refine XL_nil ?_
      refine inBlk_normal ?_
      refine thenX_normal ?_
      refine X_region ?_
      refine XL_det .no (D_pure rfl) rfl ?_
      refine XL_det .no (D_add rfl rfl (by omega) (by omega)) rfl ?_
      refine XL_det .no (D_pure rfl) rfl ?_
      refine XL_nil ?_
      refine loopQ_next (i + 1) ?_ ?_ ?_ ?_
      · omega
      · omega
      · refine ⟨?_, ?_, ?_, ?_, trivial⟩ <;> rfl
      · exact ⟨_, (by repeat first | with_reducible exact .nil _ | with_reducible exact .here _ _ | with_reducible exact Take.self _ | with_reducible apply Take.cons | with_reducible apply Out.there | with_reducible apply Take.skip | with_reducible exact Take.pre _ _ | with_reducible apply Out.app)⟩
    · try simp only [decide_eq_true_eq, decide_eq_false_iff_not, Bool.not_eq_true', Bool.not_eq_false', beq_iff_eq, bne_iff_ne, beq_eq_false_iff_ne, bne_eq_false_iff_eq, Int.not_lt, Int.not_le, gt_iff_lt, ge_iff_le, ne_eq] at h1
      rw [rgI_ext (n := c.l.length) (f := (fun j => if j < i then -1 else 0)) (g := (fun _ => -1)) (fun k hk => if_pos (by omega))]
      refine X_exit ?_
      refine thenX_exit ?_
      refine loopQ_exit ?_
      refine inBlk_here ?_
      refine thenX_normal ?_
      refine X_seq ?_
      refine X_seq ?_
      refine X_region ?_
      refine XL_det .no (D_pure rfl) rfl ?_
      refine XL_det .no (D_pure rfl) rfl ?_
      refine XL_det .no (D_pure rfl) rfl ?_
      refine XL_split (t := 25) rfl (fun h2 => ?_) (fun h2 => ?_)
      · try simp only [decide_eq_true_eq, decide_eq_false_iff_not, Bool.not_eq_true', Bool.not_eq_false', beq_iff_eq, bne_iff_ne, beq_eq_false_iff_ne, bne_eq_false_iff_eq, Int.not_lt, Int.not_le, gt_iff_lt, ge_iff_le, ne_eq] at h2
        refine XL_learn (fun w h => row_arr (l := rgI c.l.length (fun _ => -1)) (enc := encI) (v := .slice c.oad c.l.length c.c) (e := 3) (sz := 1) (n := c.l.length) (xs := (rgI c.l.length (fun _ => -1)).flatMap encI) h (.there _ (.here _ _)) (rgI_len _ _).symm) ?_
        rintro ⟨a2, ha2, ha2o, hav⟩
        have hcn : c.l.length = a2.l.length := by rw [ha2, rgI_len]
        rw [hav, ← ha2, hcn]
        refine XL_skip 25 rfl rfl rfl rfl rfl ?_
        refine XL_skip 25 rfl rfl rfl rfl rfl ?_
        refine XL_skip 25 rfl rfl rfl rfl rfl ?_
        refine XL_skip 25 rfl rfl rfl rfl rfl ?_
        refine XL_det .no (D_pure rfl) rfl ?_
        refine XL_then ?_
        refine X_cond_t rfl rfl ?_
        refine X_seq ?_
        refine X_region ?_
        refine XL_det .no (D_pure rfl) rfl ?_
        refine XL_det .no (D_pure rfl) rfl ?_
        refine XL_then ?_
        refine X_ret ?_
        refine thenX_ret ?_
        refine ret_ok (.nil _) (res_tmp rfl rfl) ?_
        exact ⟨[row (.slice a2.oad a2.l.length a2.c) 3 1 a2.l.length (a2.l.flatMap encI), K], ⟨a2, ⟨by rw [ha2, hcl]; exact rgI_ext fun k hk => by unfold stepsG; rw [if_neg (by omega)], ha2o⟩, rfl, rfl⟩, _, (by repeat first | with_reducible exact .nil _ | with_reducible exact .here _ _ | with_reducible exact Take.self _ | with_reducible apply Take.cons | with_reducible apply Out.there | with_reducible apply Take.skip | with_reducible exact Take.pre _ _ | with_reducible apply Out.app)⟩
      · try simp only [decide_eq_true_eq, decide_eq_false_iff_not, Bool.not_eq_true', Bool.not_eq_false', beq_iff_eq, bne_iff_ne, beq_eq_false_iff_ne, bne_eq_false_iff_eq, Int.not_lt, Int.not_le, gt_iff_lt, ge_iff_le, ne_eq] at h2
        refine XL_det (.yes 25 rfl rfl rfl) (D_pure rfl) rfl ?_
        refine XL_det (.yes 25 rfl rfl rfl) (D_pure rfl) rfl ?_
        refine XL_det (.yes 25 rfl rfl rfl) (D_len rfl rfl slc_41) rfl ?_
        refine XL_det (.yes 25 rfl rfl rfl) (D_pure rfl) rfl ?_
        refine XL_det .no (D_pure rfl) rfl ?_
        refine XL_then ?_
        refine X_cond rfl (fun h3 => ?_) (fun h3 => ?_)
        · try simp only [decide_eq_true_eq, decide_eq_false_iff_not, Bool.not_eq_true', Bool.not_eq_false', beq_iff_eq, bne_iff_ne, beq_eq_false_iff_ne, bne_eq_false_iff_eq, Int.not_lt, Int.not_le, gt_iff_lt, ge_iff_le, ne_eq] at h3
          refine X_learn (fun w h => row_arr (l := rgI c.l.length (fun _ => -1)) (enc := encI) (v := .slice c.oad c.l.length c.c) (e := 3) (sz := 1) (n := c.l.length) (xs := (rgI c.l.length (fun _ => -1)).flatMap encI) h (.there _ (.here _ _)) (rgI_len _ _).symm) ?_
          rintro ⟨a2, ha2, ha2o, hav⟩
          have hcn : c.l.length = a2.l.length := by rw [ha2, rgI_len]
          rw [hav, ← ha2, hcn]
          refine X_seq ?_
          refine X_region ?_
          refine XL_det .no (D_pure rfl) rfl ?_
          refine XL_det .no (D_pure rfl) rfl ?_
          refine XL_then ?_
          refine X_ret ?_
          refine thenX_ret ?_
          refine ret_ok (.nil _) (res_tmp rfl rfl) ?_
          exact ⟨[row (.slice a2.oad a2.l.length a2.c) 3 1 a2.l.length (a2.l.flatMap encI), K], ⟨a2, ⟨by rw [ha2, hcl]; exact rgI_ext fun k hk => by unfold stepsG; rw [if_neg (by omega)], ha2o⟩, rfl, rfl⟩, _, (by repeat first | with_reducible exact .nil _ | with_reducible exact .here _ _ | with_reducible exact Take.self _ | with_reducible apply Take.cons | with_reducible apply Out.there | with_reducible apply Take.skip | with_reducible exact Take.pre _ _ | with_reducible apply Out.app)⟩
        · try simp only [decide_eq_true_eq, decide_eq_false_iff_not, Bool.not_eq_true', Bool.not_eq_false', beq_iff_eq, bne_iff_ne, beq_eq_false_iff_ne, bne_eq_false_iff_eq, Int.not_lt, Int.not_le, gt_iff_lt, ge_iff_le, ne_eq] at h3
          refine X_skip ?_
          refine thenX_normal ?_
          refine X_seq ?_
          refine X_region ?_
          refine XL_det .no (D_pure rfl) rfl ?_
          refine XL_det .no (D_pure rfl) rfl ?_
          refine XL_det .no (D_idxSo (j := f.toNat) rfl rfl slc_41 (c).nil0 (show f = ((f.toNat : Nat) : Int) by omega) (by omega) rfl) rfl ?_
          refine XL_efd .no (F_rst (enc := encI) (i := f.toNat) (y := 0) (xs' := rgI c.l.length (stg x.edges.l f.toNat 0)) hco rfl rfl (fun _ => rfl) rfl rfl (by repeat first | with_reducible exact .here _ _ | with_reducible apply Out.there | with_reducible apply Out.app) tk_3 (by rw [rgI_len]; omega) (by rw [rgI_set]; rfl)) ?_
          refine XL_then ?_
          refine X_seq ?_
          refine X_seq ?_
          refine X_region ?_
          refine XL_det .no (D_pure rfl) rfl ?_
          refine XL_then ?_
          refine X_block ?_
          refine X_loop (α := Nat) (fun k => k ≤ c.l.length) (fun k => [(7, .int .i64 (k : Int)), (1, .int .i64 f), (2, .pointer (some ⟨b1, 0, none⟩)), (5, .slice c.oad c.l.length c.c)]) (fun k => [blk b1 [.int .i64 x.res, .slice x.tasks.oad x.tasks.l.length x.tasks.c, .slice x.modes.oad x.modes.l.length x.modes.c, .slice x.edges.oad x.edges.l.length x.edges.c] 95, row (.slice c.oad c.l.length c.c) 3 1 c.l.length ((rgI c.l.length (stg x.edges.l f.toNat k)).flatMap encI), K]) (fun k => c.l.length - k) 0 ?_ (by refine ⟨?_, ?_, ?_, ?_, trivial⟩ <;> rfl) (by repeat first | with_reducible exact .nil _ | with_reducible exact .here _ _ | exact .here _ _ | with_reducible exact Take.self _ | with_reducible apply Take.cons | with_reducible apply Out.there | with_reducible apply Take.skip | with_reducible exact Take.pre _ _ | with_reducible apply Out.app) ?_
          · exact Nat.zero_le _
          · intro k hk
            refine X_seq ?_
            refine X_seq ?_
            refine X_region ?_
            refine XL_det .no (D_pure rfl) rfl ?_
            refine XL_det .no (D_pure rfl) rfl ?_
            refine XL_det .no (D_len rfl rfl slc_41) rfl ?_
            refine XL_det .no (D_pure rfl) rfl ?_
            refine XL_then ?_
            refine X_cond rfl (fun h4 => ?_) (fun h4 => ?_)
            · try simp only [decide_eq_true_eq, decide_eq_false_iff_not, Bool.not_eq_true', Bool.not_eq_false', beq_iff_eq, bne_iff_ne, beq_eq_false_iff_ne, bne_eq_false_iff_eq, Int.not_lt, Int.not_le, gt_iff_lt, ge_iff_le, ne_eq] at h4
              refine X_skip ?_
              refine thenX_normal ?_
              refine X_seq ?_
              refine X_block ?_
              refine X_seq ?_
              refine X_region ?_
              refine XL_det .no (D_pure rfl) rfl ?_
              refine XL_then ?_
              refine X_block ?_
              refine X_loop (α := Nat) (fun i => i ≤ x.edges.l.length) (fun i => [(8, .int .i64 (i : Int)), (1, .int .i64 f), (2, .pointer (some ⟨b1, 0, none⟩)), (5, .slice c.oad c.l.length c.c), (7, .int .i64 (k : Int))]) (fun i => [blk b1 [.int .i64 x.res, .slice x.tasks.oad x.tasks.l.length x.tasks.c, .slice x.modes.oad x.modes.l.length x.modes.c, .slice x.edges.oad x.edges.l.length x.edges.c] 95, row (.slice c.oad c.l.length c.c) 3 1 c.l.length ((rgI c.l.length ((x.edges.l.take i).foldl (relax (k : Int)) (stg x.edges.l f.toNat k))).flatMap encI), K]) (fun i => x.edges.l.length - i) 0 ?_ (by refine ⟨?_, ?_, ?_, ?_, ?_, trivial⟩ <;> rfl) (by repeat first | with_reducible exact .nil _ | with_reducible exact .here _ _ | exact .here _ _ | with_reducible exact Take.self _ | with_reducible apply Take.cons | with_reducible apply Out.there | with_reducible apply Take.skip | with_reducible exact Take.pre _ _ | with_reducible apply Out.app) ?_
              · exact Nat.zero_le _
              · intro i hi
                refine X_seq ?_
                refine X_seq ?_
                refine X_region ?_
                refine XL_det .no (D_pure rfl) rfl ?_
                refine XL_det .no (D_fld rfl fld_95_3 (o' := 3) rfl) rfl ?_
                refine XL_det .no (D_ldo rfl (by repeat first | with_reducible exact .here _ _ | with_reducible apply Out.there | with_reducible apply Out.app) tk_93 (by rfl)) rfl ?_
                refine XL_det .no (D_len rfl rfl slc_93) rfl ?_
                refine XL_det .no (D_pure rfl) rfl ?_
                refine XL_then ?_
                refine X_cond rfl (fun h5 => ?_) (fun h5 => ?_)
                · try simp only [decide_eq_true_eq, decide_eq_false_iff_not, Bool.not_eq_true', Bool.not_eq_false', beq_iff_eq, bne_iff_ne, beq_eq_false_iff_ne, bne_eq_false_iff_eq, Int.not_lt, Int.not_le, gt_iff_lt, ge_iff_le, ne_eq] at h5
                  obtain ⟨e, he⟩ : ∃ e, x.edges.l[i]? = some e := ⟨_, List.getElem?_eq_getElem (by omega)⟩
                  have hed := hr.edges e (List.mem_of_getElem? he)
                  have hf1 := hed.1
                  have ht1 := hed.2
                  refine X_skip ?_
                  refine thenX_normal ?_
                  refine X_seq ?_
                  refine X_block ?_
                  refine X_seq ?_
                  refine X_region ?_
                  refine XL_det .no (D_fld rfl fld_95_3 (o' := 3) rfl) rfl ?_
                  refine XL_det .no (D_ldo rfl (by repeat first | with_reducible exact .here _ _ | with_reducible apply Out.there | with_reducible apply Out.app) tk_93 (by rfl)) rfl ?_
                  refine XL_det .no (D_pure rfl) rfl ?_
                  refine XL_det .no (D_idxSo rfl rfl slc_93 (x.edges).nil0 rfl (by omega) rfl) rfl ?_
                  refine XL_det .no (D_els (enc := encE) (sz := 23) (i := i) (fun _ => rfl) rfl (by repeat first | with_reducible exact .here _ _ | with_reducible apply Out.there | with_reducible apply Out.app) hx.edges tk_100 he) rfl ?_
                  refine XL_alloc .no zero_100 rfl (fun b2 => ?_)
                  refine XL_efd .no (F_stw rfl rfl rfl (by repeat first | with_reducible exact .here _ _ | with_reducible apply Out.there | with_reducible apply Out.app) tk_100 rfl rfl) ?_
                  refine XL_then ?_
                  refine X_seq ?_
                  refine X_region ?_
                  refine XL_det .no (D_pure rfl) rfl ?_
                  refine XL_det .no (D_fld rfl fld_100_0 (o' := 0) rfl) rfl ?_
                  refine XL_det .no (D_ldo rfl (by repeat first | with_reducible exact .here _ _ | with_reducible apply Out.there | with_reducible apply Out.app) tk_3 (by rfl)) rfl ?_
                  refine XL_det .no (D_idxSo (j := (e 0).toNat) rfl rfl slc_41 (c).nil0 (show e 0 = (((e 0).toNat : Nat) : Int) by omega) (by omega) rfl) rfl ?_
                  refine XL_det .no (D_ela (enc := encI) (sz := 1) (i := (e 0).toNat) (k := 0) (fun _ => rfl) rfl (by repeat first | with_reducible exact .here _ _ | with_reducible apply Out.there | with_reducible apply Out.app) (Rd_rowx hco rfl (rgI_len _ _)) tk_3 (rgI_get (by omega)) rfl) rfl ?_
                  refine XL_det .no (D_pure rfl) rfl ?_
                  refine XL_det .no (D_pure rfl) rfl ?_
                  refine XL_det .no (D_pure rfl) rfl ?_
                  refine XL_split (t := 60) rfl (fun h6 => ?_) (fun h6 => ?_)
                  · try simp only [decide_eq_true_eq, decide_eq_false_iff_not, Bool.not_eq_true', Bool.not_eq_false', beq_iff_eq, bne_iff_ne, beq_eq_false_iff_ne, bne_eq_false_iff_eq, Int.not_lt, Int.not_le, gt_iff_lt, ge_iff_le, ne_eq] at h6
                    refine XL_det (.yes 60 rfl rfl rfl) (D_pure rfl) rfl ?_
                    refine XL_det (.yes 60 rfl rfl rfl) (D_fld rfl fld_100_1 (o' := 1) rfl) rfl ?_
                    refine XL_det (.yes 60 rfl rfl rfl) (D_ldo rfl (by repeat first | with_reducible exact .here _ _ | with_reducible apply Out.there | with_reducible apply Out.app) tk_3 (by rfl)) rfl ?_
                    refine XL_det (.yes 60 rfl rfl rfl) (D_idxSo (j := (e 1).toNat) rfl rfl slc_41 (c).nil0 (show e 1 = (((e 1).toNat : Nat) : Int) by omega) (by omega) rfl) rfl ?_
                    refine XL_det (.yes 60 rfl rfl rfl) (D_ela (enc := encI) (sz := 1) (i := (e 1).toNat) (k := 0) (fun _ => rfl) rfl (by repeat first | with_reducible exact .here _ _ | with_reducible apply Out.there | with_reducible apply Out.app) (Rd_rowx hco rfl (rgI_len _ _)) tk_3 (rgI_get (by omega)) rfl) rfl ?_
                    refine XL_det (.yes 60 rfl rfl rfl) (D_pure rfl) rfl ?_
                    refine XL_det .no (D_pure rfl) rfl ?_
                    refine XL_then ?_
                    refine X_cond rfl (fun h7 => ?_) (fun h7 => ?_)
                    · try simp only [decide_eq_true_eq, decide_eq_false_iff_not, Bool.not_eq_true', Bool.not_eq_false', beq_iff_eq, bne_iff_ne, beq_eq_false_iff_ne, bne_eq_false_iff_eq, Int.not_lt, Int.not_le, gt_iff_lt, ge_iff_le, ne_eq] at h7
                      refine X_region ?_
                      refine XL_det .no (D_pure rfl) rfl ?_
                      refine XL_det .no (D_fld rfl fld_100_1 (o' := 1) rfl) rfl ?_
                      refine XL_det .no (D_ldo rfl (by repeat first | with_reducible exact .here _ _ | with_reducible apply Out.there | with_reducible apply Out.app) tk_3 (by rfl)) rfl ?_
                      refine XL_det .no (D_pure rfl) rfl ?_
                      refine XL_det .no (D_add rfl rfl (by omega) (by omega)) rfl ?_
                      refine XL_det .no (D_idxSo (j := (e 1).toNat) rfl rfl slc_41 (c).nil0 (show e 1 = (((e 1).toNat : Nat) : Int) by omega) (by omega) rfl) rfl ?_
                      refine XL_efd .no (F_rst (enc := encI) (i := (e 1).toNat) (y := ((k : Int) + 1)) (xs' := rgI c.l.length ((x.edges.l.take (i + 1)).foldl (relax (k : Int)) (stg x.edges.l f.toNat k))) hco rfl rfl (fun _ => rfl) rfl rfl (by repeat first | with_reducible exact .here _ _ | with_reducible apply Out.there | with_reducible apply Out.app) tk_3 (by rw [rgI_len]; omega) (by rw [rgI_set, fold_s he, relax_t h6 h7])) ?_
                      refine XL_nil ?_
                      refine inBlk_normal ?_
                      refine thenX_normal ?_
                      refine X_region ?_
                      refine XL_det .no (D_pure rfl) rfl ?_
                      refine XL_det .no (D_add rfl rfl (by omega) (by omega)) rfl ?_
                      refine XL_det .no (D_pure rfl) rfl ?_
                      refine XL_nil ?_
                      refine loopQ_next (i + 1) ?_ ?_ ?_ ?_
                      · omega
                      · omega
                      · refine ⟨?_, ?_, ?_, ?_, ?_, trivial⟩ <;> rfl
                      · exact ⟨_, (by repeat first | with_reducible exact .nil _ | with_reducible exact .here _ _ | exact .here _ _ | with_reducible exact Take.self _ | with_reducible apply Take.cons | with_reducible apply Out.there | with_reducible apply Take.skip | with_reducible exact Take.pre _ _ | with_reducible apply Out.app)⟩
                    · try simp only [decide_eq_true_eq, decide_eq_false_iff_not, Bool.not_eq_true', Bool.not_eq_false', beq_iff_eq, bne_iff_ne, beq_eq_false_iff_ne, bne_eq_false_iff_eq, Int.not_lt, Int.not_le, gt_iff_lt, ge_iff_le, ne_eq] at h7
                      refine X_skip ?_
                      refine inBlk_normal ?_
                      refine thenX_normal ?_
                      refine X_region ?_
                      refine XL_det .no (D_pure rfl) rfl ?_
                      refine XL_det .no (D_add rfl rfl (by omega) (by omega)) rfl ?_
                      refine XL_det .no (D_pure rfl) rfl ?_
                      refine XL_nil ?_
                      rw [show ((x.edges.l.take i).foldl (relax (k : Int)) (stg x.edges.l f.toNat k)) = ((x.edges.l.take (i + 1)).foldl (relax (k : Int)) (stg x.edges.l f.toNat k)) from by rw [fold_s he]; exact relax_f (fun c => absurd c.2 (by omega))]
                      refine loopQ_next (i + 1) ?_ ?_ ?_ ?_
                      · omega
                      · omega
                      · refine ⟨?_, ?_, ?_, ?_, ?_, trivial⟩ <;> rfl
                      · exact ⟨_, (by repeat first | with_reducible exact .nil _ | with_reducible exact .here _ _ | exact .here _ _ | with_reducible exact Take.self _ | with_reducible apply Take.cons | with_reducible apply Out.there | with_reducible apply Take.skip | with_reducible exact Take.pre _ _ | with_reducible apply Out.app)⟩
                  · try simp only [decide_eq_true_eq, decide_eq_false_iff_not, Bool.not_eq_true', Bool.not_eq_false', beq_iff_eq, bne_iff_ne, beq_eq_false_iff_ne, bne_eq_false_iff_eq, Int.not_lt, Int.not_le, gt_iff_lt, ge_iff_le, ne_eq] at h6
                    refine XL_skip 60 rfl rfl rfl rfl rfl ?_
                    refine XL_skip 60 rfl rfl rfl rfl rfl ?_
                    refine XL_skip 60 rfl rfl rfl rfl rfl ?_
                    refine XL_skip 60 rfl rfl rfl rfl rfl ?_
                    refine XL_skip 60 rfl rfl rfl rfl rfl ?_
                    refine XL_skip 60 rfl rfl rfl rfl rfl ?_
                    refine XL_det .no (D_pure rfl) rfl ?_
                    refine XL_then ?_
                    refine X_cond_f rfl rfl ?_
                    refine X_skip ?_
                    refine inBlk_normal ?_
                    refine thenX_normal ?_
                    refine X_region ?_
                    refine XL_det .no (D_pure rfl) rfl ?_
                    refine XL_det .no (D_add rfl rfl (by omega) (by omega)) rfl ?_
                    refine XL_det .no (D_pure rfl) rfl ?_
                    refine XL_nil ?_
                    rw [show ((x.edges.l.take i).foldl (relax (k : Int)) (stg x.edges.l f.toNat k)) = ((x.edges.l.take (i + 1)).foldl (relax (k : Int)) (stg x.edges.l f.toNat k)) from by rw [fold_s he]; exact relax_f (fun c => absurd c.1 h6)]
                    refine loopQ_next (i + 1) ?_ ?_ ?_ ?_
                    · omega
                    · omega
                    · refine ⟨?_, ?_, ?_, ?_, ?_, trivial⟩ <;> rfl
                    · exact ⟨_, (by repeat first | with_reducible exact .nil _ | with_reducible exact .here _ _ | exact .here _ _ | with_reducible exact Take.self _ | with_reducible apply Take.cons | with_reducible apply Out.there | with_reducible apply Take.skip | with_reducible exact Take.pre _ _ | with_reducible apply Out.app)⟩
                · try simp only [decide_eq_true_eq, decide_eq_false_iff_not, Bool.not_eq_true', Bool.not_eq_false', beq_iff_eq, bne_iff_ne, beq_eq_false_iff_ne, bne_eq_false_iff_eq, Int.not_lt, Int.not_le, gt_iff_lt, ge_iff_le, ne_eq] at h5
                  rw [show ((x.edges.l.take i).foldl (relax (k : Int)) (stg x.edges.l f.toNat k)) = (stg x.edges.l f.toNat (k + 1)) from by rw [List.take_of_length_le (by omega)]; rfl]
                  refine X_exit ?_
                  refine thenX_exit ?_
                  refine loopQ_exit ?_
                  refine inBlk_here ?_
                  refine inBlk_normal ?_
                  refine thenX_normal ?_
                  refine X_region ?_
                  refine XL_det .no (D_pure rfl) rfl ?_
                  refine XL_det .no (D_add rfl rfl (by omega) (by omega)) rfl ?_
                  refine XL_det .no (D_pure rfl) rfl ?_
                  refine XL_nil ?_
                  refine loopQ_next (k + 1) ?_ ?_ ?_ ?_
                  · omega
                  · omega
                  · refine ⟨?_, ?_, ?_, ?_, trivial⟩ <;> rfl
                  · exact ⟨_, (by repeat first | with_reducible exact .nil _ | with_reducible exact .here _ _ | exact .here _ _ | with_reducible exact Take.self _ | with_reducible apply Take.cons | with_reducible apply Out.there | with_reducible apply Take.skip | with_reducible exact Take.pre _ _ | with_reducible apply Out.app)⟩
            · try simp only [decide_eq_true_eq, decide_eq_false_iff_not, Bool.not_eq_true', Bool.not_eq_false', beq_iff_eq, bne_iff_ne, beq_eq_false_iff_ne, bne_eq_false_iff_eq, Int.not_lt, Int.not_le, gt_iff_lt, ge_iff_le, ne_eq] at h4
              have hkn : k = x.modes.l.length := by omega
              refine X_learn (fun w h => row_arr (l := rgI c.l.length (stg x.edges.l f.toNat k)) (enc := encI) (v := .slice c.oad c.l.length c.c) (e := 3) (sz := 1) (n := c.l.length) (xs := (rgI c.l.length (stg x.edges.l f.toNat k)).flatMap encI) h (.there _ (.here _ _)) (rgI_len _ _).symm) ?_
              rintro ⟨a2, ha2, ha2o, hav⟩
              have hcn : c.l.length = a2.l.length := by rw [ha2, rgI_len]
              rw [hav, ← ha2, hcn]
              refine X_exit ?_
              refine thenX_exit ?_
              refine loopQ_exit ?_
              refine inBlk_here ?_
              refine thenX_normal ?_
              refine X_seq ?_
              refine X_region ?_
              refine XL_det .no (D_pure rfl) rfl ?_
              refine XL_det .no (D_pure rfl) rfl ?_
              refine XL_then ?_
              refine X_ret ?_
              refine ret_ok (.nil _) (res_tmp rfl rfl) ?_
              exact ⟨[row (.slice a2.oad a2.l.length a2.c) 3 1 a2.l.length (a2.l.flatMap encI), K], ⟨a2, ⟨by rw [ha2, hcl]; exact rgI_ext fun k hk => by unfold stepsG; rw [if_pos (by omega), hkn], ha2o⟩, rfl, rfl⟩, _, (by repeat first | with_reducible exact .nil _ | with_reducible exact .here _ _ | with_reducible exact Take.self _ | with_reducible apply Take.cons | with_reducible apply Out.there | with_reducible apply Take.skip | with_reducible exact Take.pre _ _ | with_reducible apply Out.app)⟩


theorem ne_at {a b : List Int} {i : Nat} {x y : Int} (h1 : a[i]? = some x) (h2 : b[i]? = some y) (h : ¬ x = y) : decide (a = b) = false := by
  apply decide_eq_false; rintro rfl; rw [h1] at h2; exact h (by injection h2)
theorem eq_all {a b : List Int} (hl : a.length = b.length) (h : ∀ j : Nat, j < a.length → a[j]? = b[j]?) : decide (a = b) = true := by
  apply decide_eq_true; apply List.ext_getElem?; intro j
  rcases Nat.lt_or_ge j a.length with hj | hj
  · exact h j hj
  · rw [List.getElem?_eq_none hj, List.getElem?_eq_none (by omega)]

theorem lrow {K1 K2 : Asrt B} (a b : Arr Int) (ha : Rd K1 a.ad (a.l.flatMap encI)) (hb : Rd K2 b.ad (b.l.flatMap encI)) : Ctr Tryd.prog B 46 [.slice a.oad a.l.length a.c, .slice b.oad b.l.length b.c] [K1, K2] (fun v S => v = .bool (decide (a.l = b.l)) ∧ S = [K1, K2]) := by
  refine Ctr_of_X (N := 26) Tryd.func46 rfl (by simp) rfl ?_
  intro w0 D0
  refine X_seq ?_
  refine X_region ?_
  refine XL_det .no (D_pure rfl) rfl ?_
  refine XL_then ?_
  refine X_seq ?_
  refine X_seq ?_
  refine X_region ?_
  refine XL_det .no (D_pure rfl) rfl ?_
  refine XL_det .no (D_len rfl rfl slc_41) rfl ?_
  refine XL_det .no (D_pure rfl) rfl ?_
  refine XL_det .no (D_len rfl rfl slc_41) rfl ?_
  refine XL_det .no (D_pure rfl) rfl ?_
  refine XL_then ?_
  refine X_cond rfl (fun h1 => ?_) (fun h1 => ?_)
  · try simp only [decide_eq_true_eq, decide_eq_false_iff_not, Bool.not_eq_true', Bool.not_eq_false', beq_iff_eq, bne_iff_ne, beq_eq_false_iff_ne, bne_eq_false_iff_eq, Int.not_lt, Int.not_le, gt_iff_lt, ge_iff_le, ne_eq] at h1
    refine X_seq ?_
    refine X_region ?_
    refine XL_det .no (D_pure rfl) rfl ?_
    refine XL_then ?_
    refine X_ret ?_
    refine thenX_ret ?_
    refine ret_ok (.nil _) (res_tmp rfl rfl) ?_
    exact ⟨_, ⟨by rw [decide_eq_false (fun e : a.l = b.l => h1 (by rw [e]))], rfl⟩, _, (by repeat first | with_reducible exact .nil _ | with_reducible exact .here _ _ | with_reducible exact Take.self _ | with_reducible apply Take.cons | with_reducible apply Out.there | with_reducible apply Take.skip | with_reducible exact Take.pre _ _ | with_reducible apply Out.app)⟩
  · try simp only [decide_eq_true_eq, decide_eq_false_iff_not, Bool.not_eq_true', Bool.not_eq_false', beq_iff_eq, bne_iff_ne, beq_eq_false_iff_ne, bne_eq_false_iff_eq, Int.not_lt, Int.not_le, gt_iff_lt, ge_iff_le, ne_eq] at h1
    refine X_skip ?_
    refine thenX_normal ?_
    refine X_seq ?_
    refine X_seq ?_
    refine X_region ?_
    refine XL_det .no (D_pure rfl) rfl ?_
    refine XL_then ?_
    refine X_block ?_
    refine X_loop (α := Nat) (fun i => i ≤ a.l.length ∧ ∀ j : Nat, j < i → a.l[j]? = b.l[j]?) (fun i => [(5, .int .i64 (i : Int)), (0, .slice a.oad a.l.length a.c), (1, .slice b.oad b.l.length b.c)]) (fun i => [K1, K2]) (fun i => a.l.length - i) 0 ?_ (by refine ⟨?_, ?_, ?_, trivial⟩ <;> rfl) (by repeat first | with_reducible exact .nil _ | with_reducible exact .here _ _ | with_reducible exact Take.self _ | with_reducible apply Take.cons | with_reducible apply Out.there | with_reducible apply Take.skip | with_reducible exact Take.pre _ _ | with_reducible apply Out.app) ?_
    · exact ⟨Nat.zero_le _, fun j h => by omega⟩
    · rintro i ⟨hi, hall⟩
      have hsa := a.small
      refine X_seq ?_
      refine X_seq ?_
      refine X_region ?_
      refine XL_det .no (D_pure rfl) rfl ?_
      refine XL_det .no (D_pure rfl) rfl ?_
      refine XL_det .no (D_len rfl rfl slc_41) rfl ?_
      refine XL_det .no (D_pure rfl) rfl ?_
      refine XL_then ?_
      refine X_cond rfl (fun h2 => ?_) (fun h2 => ?_)
      · try simp only [decide_eq_true_eq, decide_eq_false_iff_not, Bool.not_eq_true', Bool.not_eq_false', beq_iff_eq, bne_iff_ne, beq_eq_false_iff_ne, bne_eq_false_iff_eq, Int.not_lt, Int.not_le, gt_iff_lt, ge_iff_le, ne_eq] at h2
        obtain ⟨x, hga⟩ : ∃ x, a.l[i]? = some x := ⟨_, List.getElem?_eq_getElem (by omega)⟩
        obtain ⟨y, hgb⟩ : ∃ y, b.l[i]? = some y := ⟨_, List.getElem?_eq_getElem (by omega)⟩
        refine X_skip ?_
        refine thenX_normal ?_
        refine X_seq ?_
        refine X_block ?_
        refine X_seq ?_
        refine X_draw [K1, K2] mixed (by repeat first | with_reducible exact .nil _ | with_reducible exact .here _ _ | with_reducible exact Take.self _ | with_reducible apply Take.cons | with_reducible apply Out.there | with_reducible apply Take.skip | with_reducible exact Take.pre _ _ | with_reducible apply Out.app) ?_
        refine XA_detp 0 rfl (by kernel_rfl) (by kernel_rfl) (by kernel_rfl) (fun _ _ _ _ h => h) .no (D_pureP rfl) rfl ?_
        refine XA_detp 1 rfl (by kernel_rfl) (by kernel_rfl) (by kernel_rfl) (fun _ _ _ _ h => h) .no (D_pureP rfl) rfl ?_
        refine XA_detp 2 rfl (by kernel_rfl) (by kernel_rfl) (by kernel_rfl) (fun _ _ _ _ h => h) .no (D_idxSoP rfl rfl slc_41 (a).nil0 rfl (by omega) rfl) rfl ?_
        refine XA_det 3 rfl (by kernel_rfl) (by kernel_rfl) (by kernel_rfl) (by kernel_rfl) (fun _ _ _ _ h => h) .no (D_ela (enc := encI) (sz := 1) (i := i) (k := 0) (fun _ => rfl) rfl (by repeat first | with_reducible exact .here _ _ | with_reducible apply Out.there | with_reducible apply Out.app) ha tk_3 hga rfl) rfl ?_
        refine XA_detp 4 rfl (by kernel_rfl) (by kernel_rfl) (by kernel_rfl) (fun _ _ _ _ h => h) .no (D_pureP rfl) rfl ?_
        refine XA_detp 5 rfl (by kernel_rfl) (by kernel_rfl) (by kernel_rfl) (fun _ _ _ _ h => h) .no (D_pureP rfl) rfl ?_
        refine XA_detp 6 rfl (by kernel_rfl) (by kernel_rfl) (by kernel_rfl) (fun _ _ _ _ h => h) .no (D_idxSoP rfl rfl slc_41 (b).nil0 rfl (by omega) rfl) rfl ?_
        refine XA_det 7 rfl (by kernel_rfl) (by kernel_rfl) (by kernel_rfl) (by kernel_rfl) (fun _ _ _ _ h => h) .no (D_ela (enc := encI) (sz := 1) (i := i) (k := 0) (fun _ => rfl) rfl (by repeat first | with_reducible exact .here _ _ | with_reducible apply Out.there | with_reducible apply Out.app) hb tk_3 hgb rfl) rfl ?_
        refine XA_detp 8 rfl (by kernel_rfl) (by kernel_rfl) (by kernel_rfl) (fun _ _ _ _ h => h) .no (D_pureP rfl) rfl ?_
        refine XA_done (by kernel_rfl) ?_
        try simp only [List.cons_append, List.nil_append, List.append_nil]
        refine thenX_normal ?_
        refine X_cond rfl (fun h3 => ?_) (fun h3 => ?_)
        · try simp only [decide_eq_true_eq, decide_eq_false_iff_not, Bool.not_eq_true', Bool.not_eq_false', beq_iff_eq, bne_iff_ne, beq_eq_false_iff_ne, bne_eq_false_iff_eq, Int.not_lt, Int.not_le, gt_iff_lt, ge_iff_le, ne_eq] at h3
          refine X_seq ?_
          refine X_region ?_
          refine XL_det .no (D_pure rfl) rfl ?_
          refine XL_then ?_
          refine X_ret ?_
          refine inBlk_ret ?_
          refine thenX_ret ?_
          refine loopQ_ret ?_
          refine inBlk_ret ?_
          refine thenX_ret ?_
          refine ret_ok (.nil _) (res_tmp rfl rfl) ?_
          exact ⟨_, ⟨by rw [ne_at hga hgb h3], rfl⟩, _, (by repeat first | with_reducible exact .nil _ | with_reducible exact .here _ _ | with_reducible exact Take.self _ | with_reducible apply Take.cons | with_reducible apply Out.there | with_reducible apply Take.skip | with_reducible exact Take.pre _ _ | with_reducible apply Out.app)⟩
        · try simp only [decide_eq_true_eq, decide_eq_false_iff_not, Bool.not_eq_true', Bool.not_eq_false', beq_iff_eq, bne_iff_ne, beq_eq_false_iff_ne, bne_eq_false_iff_eq, Int.not_lt, Int.not_le, gt_iff_lt, ge_iff_le, ne_eq] at h3
          refine X_skip ?_
          refine inBlk_normal ?_
          refine thenX_normal ?_
          refine X_region ?_
          refine XL_det .no (D_pure rfl) rfl ?_
          refine XL_det .no (D_add rfl rfl (by omega) (by omega)) rfl ?_
          refine XL_det .no (D_pure rfl) rfl ?_
          refine XL_nil ?_
          refine loopQ_next (i + 1) ?_ ?_ ?_ ?_
          · exact ⟨by omega, fun j hj => by rcases Nat.lt_succ_iff_lt_or_eq.1 hj with h | rfl; exact hall j h; rw [hga, hgb, h3]⟩
          · omega
          · refine ⟨?_, ?_, ?_, trivial⟩ <;> rfl
          · exact ⟨_, (by repeat first | with_reducible exact .nil _ | with_reducible exact .here _ _ | with_reducible exact Take.self _ | with_reducible apply Take.cons | with_reducible apply Out.there | with_reducible apply Take.skip | with_reducible exact Take.pre _ _ | with_reducible apply Out.app)⟩
      · try simp only [decide_eq_true_eq, decide_eq_false_iff_not, Bool.not_eq_true', Bool.not_eq_false', beq_iff_eq, bne_iff_ne, beq_eq_false_iff_ne, bne_eq_false_iff_eq, Int.not_lt, Int.not_le, gt_iff_lt, ge_iff_le, ne_eq] at h2
        refine X_exit ?_
        refine thenX_exit ?_
        refine loopQ_exit ?_
        refine inBlk_here ?_
        refine thenX_normal ?_
        refine X_seq ?_
        refine X_region ?_
        refine XL_det .no (D_pure rfl) rfl ?_
        refine XL_then ?_
        refine X_ret ?_
        refine ret_ok (.nil _) (res_tmp rfl rfl) ?_
        exact ⟨_, ⟨by rw [eq_all (by omega) (fun j hj => hall j (by omega))], rfl⟩, _, (by repeat first | with_reducible exact .nil _ | with_reducible exact .here _ _ | with_reducible exact Take.self _ | with_reducible apply Take.cons | with_reducible apply Out.there | with_reducible apply Take.skip | with_reducible exact Take.pre _ _ | with_reducible apply Out.app)⟩

end Go.Proofs.YtdimcgedcndndaaDoor
end

section
namespace Go.Proofs.YtdimcgedcndndaaDoor
open Go Go.Sl
set_option linter.unusedVariables false
set_option linter.unusedSimpArgs false
set_option maxRecDepth 4000
variable {B : Nat} {K : Asrt B}
theorem en_40 : Go.Proofs.Enters Tryd.prog 40 := Go.Proofs.enters_of Tryd.func40 (by kernel_rfl) rfl
theorem en_45 : Go.Proofs.Enters Tryd.prog 45 := Go.Proofs.enters_of Tryd.func45 (by kernel_rfl) rfl
theorem en_75 : Go.Proofs.Enters Tryd.prog 75 := Go.Proofs.enters_of Tryd.func75 (by kernel_rfl) rfl

/-- The queue in the midst of a round. -/
def qi (E : List Edg) (f k i : Nat) : Qu := (nxt (E.take i) ((bq E f k).getD k (0, 0)).1).foldl (pushT k) (bq E f k)
theorem qi_0 (E : List Edg) (f k : Nat) : qi E f k 0 = bq E f k := rfl
theorem qi_s {E : List Edg} {f k i : Nat} {e : Edg} (h : E[i]? = some e) : qi E f k (i + 1) = if e 0 = ((bq E f k).getD k (0, 0)).1 then pushT k (qi E f k i) (e 1) else qi E f k i := by
  unfold qi; rw [nxt_s h]; split
  · rw [List.foldl_append]; rfl
  · rw [List.append_nil]
theorem qi_all {E : List Edg} {f k i : Nat} (hi : E.length ≤ i) (hk : k < (bq E f k).length) : qi E f k i = bq E f (k + 1) := by
  rw [bq, if_pos hk]; unfold qi rndQ; rw [List.take_of_length_le hi]
theorem qi_ok {E : List Edg} {n f k : Nat} (hE : EOk n E) (hf : f < n) (hk : k < (bq E f k).length) (i : Nat) : QOk n f (qi E f k i) :=
  (bq_ok hE hf k).fold hk fun t ht => by
    obtain ⟨e, he, _, rfl⟩ := mem_nxt.1 ht
    exact (hE e (List.mem_of_mem_take he)).2
theorem qi_get {E : List Edg} {f k : Nat} (hk : k < (bq E f k).length) (i : Nat) : ((qi E f k i).map (·.1))[k]? = some ((bq E f k).getD k (0, 0)).1 := by
  obtain ⟨r, hr⟩ := fold_pre (k : Int) (nxt (E.take i) ((bq E f k).getD k (0, 0)).1) (bq E f k)
  unfold qi; rw [← hr, List.map_append, List.getElem?_append_left (by simpa using hk), List.getElem?_map, List.getElem?_eq_getElem hk]
  simp [List.getD, hk]
abbrev bqE (x : Img) (f : Nat) : Qu := bq x.edges.l f x.modes.l.length
theorem bq_done {E : List Edg} {n f k : Nat} (hE : EOk n E) (hf : f < n) (hk : k ≤ (bq E f k).length) (h : (bq E f k).length ≤ k) : bq E f n = bq E f k := bq_stop E f h n (by have := (bq_ok hE hf k).len; omega)
theorem push_f {k t : Int} {q : Qu} (h : t ∉ q.map (·.1)) : pushT k q t = q ++ [(t, k)] := by unfold pushT; rw [if_neg h]
theorem push_t {k t : Int} {q : Qu} (h : t ∈ q.map (·.1)) : pushT k q t = q := by unfold pushT; rw [if_pos h]
/-- The way to a mode. -/
def pathR (x : Img) (f : Nat) (t : Int) : List Int := if t ∈ (bqE x f).map (·.1) then chain (bqE x f) (fidx (bqE x f) t + 1) (fidx (bqE x f) t) else []
theorem fidx_none {q : Qu} {t : Int} (h : t ∉ q.map (·.1)) : fidx q t = q.length := by
  unfold fidx; rw [List.idxOf_eq_length h]; simp
def setOf (n : Nat) (p : Nat → Bool) : List Int := ((List.range n).filter p).map fun (i : Nat) => (i : Int)
theorem setOf_s (n : Nat) (p : Nat → Bool) : setOf (n + 1) p = setOf n p ++ (if p n then [(n : Int)] else []) := by
  unfold setOf; rw [List.range_succ, List.filter_append, List.map_append]; cases h : p n <;> simp [h]
theorem setOf_len (n : Nat) (p : Nat → Bool) : (setOf n p).length ≤ n := by unfold setOf; rw [List.length_map]; exact Nat.le_trans (List.length_filter_le _ _) (by simp)
abbrev reachS (x : Img) (f : Int) : BitVec 32 := ofI (setOf x.modes.l.length fun i => decide (0 ≤ stepsG x f i))

theorem rmet (x : Img) (hx : x.In K) (hr : GOk x) (f : Nat) (hf : f < x.modes.l.length) : Ctr Tryd.prog B 75 [x.v, .int .i64 (f : Int)] [K] (fun v S => ∃ a c : Arr Int, (a.l = (bqE x f).map (·.1) ∧ c.l = (bqE x f).map (·.2) ∧ a.Own ∧ c.Own) ∧ v = .tuple #[a.v, c.v] ∧ S = [row (.slice a.oad a.l.length a.c) 3 1 a.l.length (a.l.flatMap encI), row (.slice c.oad c.l.length c.c) 3 1 c.l.length (c.l.flatMap encI)] ++ [K]) := by
  refine Ctr_of_X (N := 63) Tryd.func75 rfl (by simp) rfl ?_
  intro w0 D0
  have hnm := hr.nm
  have hne := hr.ne
  refine X_seq ?_
  refine X_region ?_
  refine XL_box (cs := [.int .i64 x.res, .slice x.tasks.oad x.tasks.l.length x.tasks.c, .slice x.modes.oad x.modes.l.length x.modes.c, .slice x.edges.oad x.edges.l.length x.edges.c]) .no rfl rfl rfl (fun b1 => ?_)
  refine XL_det .no (D_pure rfl) rfl ?_
  refine XL_det .no (D_pure rfl) rfl ?_
  refine XL_then ?_
  refine X_seq ?_
  refine X_region ?_
  refine XL_det .no (D_pure rfl) rfl ?_
  refine XL_bslice (cs := [.int .i64 (f : Int)]) .no rfl slt_41 (by decide) (by decide) (by rfl) (by rfl) rfl rfl (fun b2 => ?_)
  refine XL_bslice (cs := [.int .i64 (-1)]) .no rfl slt_41 (by decide) (by decide) (by rfl) (by rfl) rfl rfl (fun b3 => ?_)
  refine XL_det .no (D_pure rfl) rfl ?_
  refine XL_det .no (D_pure rfl) rfl ?_
  refine XL_then ?_
  refine X_seq ?_
  refine X_seq ?_
  refine X_region ?_
  refine XL_det .no (D_pure rfl) rfl ?_
  refine XL_then ?_
  refine X_block ?_
  refine X_blkrow (b := b2) (cs := encI (f : Int)) encI [(f : Int)] (by simp) (fun _ => rfl) (by simp [maxLen]) rfl (by repeat first | with_reducible exact .here _ _ | with_reducible apply Out.there | with_reducible apply Out.app) ?_
  refine X_blkrow (b := b3) (cs := encI (-1)) encI [(-1)] (by simp) (fun _ => rfl) (by simp [maxLen]) rfl (by repeat first | with_reducible exact .here _ _ | with_reducible apply Out.there | with_reducible apply Out.app) ?_
  refine X_loop (α := Nat × Arr Int × Arr Int) (fun ⟨k, a, c⟩ => k ≤ (bq x.edges.l f k).length ∧ a.l = (bq x.edges.l f k).map (·.1) ∧ c.l = (bq x.edges.l f k).map (·.2) ∧ a.Own ∧ c.Own) (fun ⟨k, a, c⟩ => [(8, .int .i64 (k : Int)), (6, .slice a.oad a.l.length a.c), (7, .slice c.oad c.l.length c.c), (2, .pointer (some ⟨b1, 0, none⟩))]) (fun ⟨k, a, c⟩ => [blk b1 [.int .i64 x.res, .slice x.tasks.oad x.tasks.l.length x.tasks.c, .slice x.modes.oad x.modes.l.length x.modes.c, .slice x.edges.oad x.edges.l.length x.edges.c] 95, row (.slice a.oad a.l.length a.c) 3 1 a.l.length (a.l.flatMap encI), row (.slice c.oad c.l.length c.c) 3 1 c.l.length (c.l.flatMap encI), K]) (fun ⟨k, a, c⟩ => x.modes.l.length - k) (0, Arr.lit b2 [(f : Int)] (by simp), Arr.lit b3 [-1] (by simp)) ?_ (by refine ⟨?_, ?_, ?_, ?_, trivial⟩ <;> rfl) (by repeat first | with_reducible exact .nil _ | with_reducible exact .here _ _ | with_reducible exact Take.self _ | with_reducible apply Take.cons | with_reducible apply Out.there | with_reducible apply Take.skip | with_reducible exact Take.pre _ _ | with_reducible apply Out.app) ?_
  · exact ⟨Nat.zero_le _, rfl, rfl, Arr.lit_own, Arr.lit_own⟩
  · rintro ⟨k, a, c⟩ ⟨hk, ha, hc, hao, hco⟩
    dsimp only
    have hal : a.l.length = (bq x.edges.l f k).length := by rw [ha]; simp
    have hqn := (bq_ok (eok hr) hf k).len
    refine X_seq ?_
    refine X_seq ?_
    refine X_region ?_
    refine XL_det .no (D_pure rfl) rfl ?_
    refine XL_det .no (D_pure rfl) rfl ?_
    refine XL_det .no (D_len rfl rfl slc_41) rfl ?_
    refine XL_det .no (D_pure rfl) rfl ?_
    refine XL_then ?_
    refine X_cond rfl (fun h1 => ?_) (fun h1 => ?_)
    · try simp only [decide_eq_true_eq, decide_eq_false_iff_not, Bool.not_eq_true', Bool.not_eq_false', beq_iff_eq, bne_iff_ne, beq_eq_false_iff_ne, bne_eq_false_iff_eq, Int.not_lt, Int.not_le, gt_iff_lt, ge_iff_le, ne_eq] at h1
      have hk2 : k < (bq x.edges.l f k).length := by omega
      refine X_skip ?_
      refine thenX_normal ?_
      refine X_seq ?_
      refine X_block ?_
      refine X_seq ?_
      refine X_region ?_
      refine XL_det .no (D_pure rfl) rfl ?_
      refine XL_then ?_
      refine X_block ?_
      refine X_loop (α := Nat × Arr Int × Arr Int) (fun ⟨i, a2, c2⟩ => i ≤ x.edges.l.length ∧ a2.l = (qi x.edges.l f k i).map (·.1) ∧ c2.l = (qi x.edges.l f k i).map (·.2) ∧ a2.Own ∧ c2.Own) (fun ⟨i, a2, c2⟩ => [(9, .int .i64 (i : Int)), (6, .slice a2.oad a2.l.length a2.c), (7, .slice c2.oad c2.l.length c2.c), (2, .pointer (some ⟨b1, 0, none⟩)), (8, .int .i64 (k : Int))]) (fun ⟨i, a2, c2⟩ => [blk b1 [.int .i64 x.res, .slice x.tasks.oad x.tasks.l.length x.tasks.c, .slice x.modes.oad x.modes.l.length x.modes.c, .slice x.edges.oad x.edges.l.length x.edges.c] 95, row (.slice a2.oad a2.l.length a2.c) 3 1 a2.l.length (a2.l.flatMap encI), row (.slice c2.oad c2.l.length c2.c) 3 1 c2.l.length (c2.l.flatMap encI), K]) (fun ⟨i, a2, c2⟩ => x.edges.l.length - i) (0, a, c) ?_ (by refine ⟨?_, ?_, ?_, ?_, ?_, trivial⟩ <;> rfl) (by repeat first | with_reducible exact .nil _ | with_reducible exact .here _ _ | with_reducible exact Take.self _ | with_reducible apply Take.cons | with_reducible apply Out.there | with_reducible apply Take.skip | with_reducible exact Take.pre _ _ | with_reducible apply Out.app) ?_
      · exact ⟨Nat.zero_le _, ha, hc, hao, hco⟩
      · rintro ⟨i, a2, c2⟩ ⟨hi, ha2, hc2, ha2o, hc2o⟩
        dsimp only
        have hqk := qi_ok (eok hr) hf hk2 i
        have hql := hqk.len
        have hal2 : a2.l.length = (qi x.edges.l f k i).length := by rw [ha2]; simp
        have hcl2 : c2.l.length = (qi x.edges.l f k i).length := by rw [hc2]; simp
        have hgk : a2.l[k]? = some ((bq x.edges.l f k).getD k (0, 0)).1 := by rw [ha2]; exact qi_get hk2 i
        have hkl := (List.getElem?_eq_some_iff.1 hgk).1
        refine X_seq ?_
        refine X_seq ?_
        refine X_region ?_
        refine XL_det .no (D_pure rfl) rfl ?_
        refine XL_det .no (D_fld rfl fld_95_3 (o' := 3) rfl) rfl ?_
        refine XL_det .no (D_ldo rfl (by repeat first | with_reducible exact .here _ _ | with_reducible apply Out.there | with_reducible apply Out.app) tk_93 (by rfl)) rfl ?_
        refine XL_det .no (D_len rfl rfl slc_93) rfl ?_
        refine XL_det .no (D_pure rfl) rfl ?_
        refine XL_then ?_
        refine X_cond rfl (fun h2 => ?_) (fun h2 => ?_)
        · try simp only [decide_eq_true_eq, decide_eq_false_iff_not, Bool.not_eq_true', Bool.not_eq_false', beq_iff_eq, bne_iff_ne, beq_eq_false_iff_ne, bne_eq_false_iff_eq, Int.not_lt, Int.not_le, gt_iff_lt, ge_iff_le, ne_eq] at h2
          obtain ⟨e, he⟩ : ∃ e, x.edges.l[i]? = some e := ⟨_, List.getElem?_eq_getElem (by omega)⟩
          refine X_skip ?_
          refine thenX_normal ?_
          refine X_seq ?_
          refine X_block ?_
          refine X_seq ?_
          refine X_draw [blk b1 [.int .i64 x.res, .slice x.tasks.oad x.tasks.l.length x.tasks.c, .slice x.modes.oad x.modes.l.length x.modes.c, .slice x.edges.oad x.edges.l.length x.edges.c] 95, row (.slice a2.oad a2.l.length a2.c) 3 1 a2.l.length (a2.l.flatMap encI), K] mixed (by repeat first | with_reducible exact .nil _ | with_reducible exact .here _ _ | with_reducible exact Take.self _ | with_reducible apply Take.cons | with_reducible apply Out.there | with_reducible apply Take.skip | with_reducible exact Take.pre _ _ | with_reducible apply Out.app) ?_
          refine XA_detp 0 rfl (by kernel_rfl) (by kernel_rfl) (by kernel_rfl) (fun _ _ _ _ h => h) .no (D_fldP rfl fld_95_3 (o' := 3) rfl) rfl ?_
          refine XA_det 1 rfl (by kernel_rfl) (by kernel_rfl) (by kernel_rfl) (by kernel_rfl) (fun _ _ _ _ h => h) .no (D_ldo rfl (by repeat first | with_reducible exact .here _ _ | with_reducible apply Out.there | with_reducible apply Out.app) tk_93 (by rfl)) rfl ?_
          refine XA_detp 2 rfl (by kernel_rfl) (by kernel_rfl) (by kernel_rfl) (fun _ _ _ _ h => h) .no (D_pureP rfl) rfl ?_
          refine XA_detp 3 rfl (by kernel_rfl) (by kernel_rfl) (by kernel_rfl) (fun _ _ _ _ h => h) .no (D_idxSoP rfl rfl slc_93 (x.edges).nil0 rfl (by omega) rfl) rfl ?_
          refine XA_detp 4 rfl (by kernel_rfl) (by kernel_rfl) (by kernel_rfl) (fun _ _ _ _ h => h) .no (D_fldAP rfl fld_100_0 rfl) rfl ?_
          refine XA_det 5 rfl (by kernel_rfl) (by kernel_rfl) (by kernel_rfl) (by kernel_rfl) (fun _ _ _ _ h => h) .no (D_ela (enc := encE) (sz := 23) (i := i) (k := 0) (fun _ => rfl) rfl (by repeat first | with_reducible exact .here _ _ | with_reducible apply Out.there | with_reducible apply Out.app) hx.edges tk_3 he rfl) rfl ?_
          refine XA_detp 6 rfl (by kernel_rfl) (by kernel_rfl) (by kernel_rfl) (fun _ _ _ _ h => h) .no (D_pureP rfl) rfl ?_
          refine XA_detp 7 rfl (by kernel_rfl) (by kernel_rfl) (by kernel_rfl) (fun _ _ _ _ h => h) .no (D_pureP rfl) rfl ?_
          refine XA_detp 8 rfl (by kernel_rfl) (by kernel_rfl) (by kernel_rfl) (fun _ _ _ _ h => h) .no (D_idxSoP rfl rfl slc_41 (a2).nil0 rfl (by omega) rfl) rfl ?_
          refine XA_det 9 rfl (by kernel_rfl) (by kernel_rfl) (by kernel_rfl) (by kernel_rfl) (fun _ _ _ _ h => h) .no (D_ela (enc := encI) (sz := 1) (i := k) (k := 0) (fun _ => rfl) rfl (by repeat first | with_reducible exact .here _ _ | with_reducible apply Out.there | with_reducible apply Out.app) (Rd_own ha2o rfl) tk_3 hgk rfl) rfl ?_
          refine XA_detp 10 rfl (by kernel_rfl) (by kernel_rfl) (by kernel_rfl) (fun _ _ _ _ h => h) .no (D_pureP rfl) rfl ?_
          refine XA_detp 11 rfl (by kernel_rfl) (by kernel_rfl) (by kernel_rfl) (fun _ _ _ _ h => h) .no (D_pureP rfl) rfl ?_
          refine XA_split (t := 37) rfl (fun h3 => ?_) (fun h3 => ?_)
          · try simp only [decide_eq_true_eq, decide_eq_false_iff_not, Bool.not_eq_true', Bool.not_eq_false', beq_iff_eq, bne_iff_ne, beq_eq_false_iff_ne, bne_eq_false_iff_eq, Int.not_lt, Int.not_le, gt_iff_lt, ge_iff_le, ne_eq] at h3
            refine XA_detp 12 rfl (by kernel_rfl) (by kernel_rfl) (by kernel_rfl) (fun _ _ _ _ h => h) (.yes 37 rfl rfl rfl) (D_pureP rfl) rfl ?_
            refine XA_detp 13 rfl (by kernel_rfl) (by kernel_rfl) (by kernel_rfl) (fun _ _ _ _ h => h) (.yes 37 rfl rfl rfl) (D_fldP rfl fld_95_3 (o' := 3) rfl) rfl ?_
            refine XA_det 14 rfl (by kernel_rfl) (by kernel_rfl) (by kernel_rfl) (by kernel_rfl) (fun _ _ _ _ h => h) (.yes 37 rfl rfl rfl) (D_ldo rfl (by repeat first | with_reducible exact .here _ _ | with_reducible apply Out.there | with_reducible apply Out.app) tk_93 (by rfl)) rfl ?_
            refine XA_detp 15 rfl (by kernel_rfl) (by kernel_rfl) (by kernel_rfl) (fun _ _ _ _ h => h) (.yes 37 rfl rfl rfl) (D_pureP rfl) rfl ?_
            refine XA_detp 16 rfl (by kernel_rfl) (by kernel_rfl) (by kernel_rfl) (fun _ _ _ _ h => h) (.yes 37 rfl rfl rfl) (D_idxSoP rfl rfl slc_93 (x.edges).nil0 rfl (by omega) rfl) rfl ?_
            refine XA_detp 17 rfl (by kernel_rfl) (by kernel_rfl) (by kernel_rfl) (fun _ _ _ _ h => h) (.yes 37 rfl rfl rfl) (D_fldAP rfl fld_100_1 rfl) rfl ?_
            refine XA_det 18 rfl (by kernel_rfl) (by kernel_rfl) (by kernel_rfl) (by kernel_rfl) (fun _ _ _ _ h => h) (.yes 37 rfl rfl rfl) (D_ela (enc := encE) (sz := 23) (i := i) (k := 1) (fun _ => rfl) rfl (by repeat first | with_reducible exact .here _ _ | with_reducible apply Out.there | with_reducible apply Out.app) hx.edges tk_3 he rfl) rfl ?_
            refine XA_one 19 (by kernel_rfl) ?_
            refine XO_callk rfl (.yes 37 rfl rfl rfl) en_32 rfl (by repeat first | with_reducible exact .nil _ | with_reducible apply App.cons) (rIn (K := row (.slice a2.oad a2.l.length a2.c) 3 1 a2.l.length (a2.l.flatMap encI)) a2 (Rd_own ha2o rfl) (e 1)) (by repeat first | with_reducible exact .nil _ | with_reducible exact .here _ _ | with_reducible exact Take.self _ | with_reducible apply Take.cons | with_reducible apply Out.there | with_reducible apply Take.skip | with_reducible exact Take.pre _ _ | with_reducible apply Out.app) rfl ?_
            refine XA_detp 20 rfl (by kernel_rfl) (by kernel_rfl) (by kernel_rfl) (fun _ _ _ _ h => h) (.yes 37 rfl rfl rfl) (D_pureP rfl) rfl ?_
            refine XA_detp 21 rfl (by kernel_rfl) (by kernel_rfl) (by kernel_rfl) (fun _ _ _ _ h => h) .no (D_pureP rfl) rfl ?_
            refine XA_done (by kernel_rfl) ?_
            try simp only [List.cons_append, List.nil_append, List.append_nil]
            refine thenX_normal ?_
            refine X_cond rfl (fun h4 => ?_) (fun h4 => ?_)
            · try simp only [decide_eq_true_eq, decide_eq_false_iff_not, Bool.not_eq_true', Bool.not_eq_false', beq_iff_eq, bne_iff_ne, beq_eq_false_iff_ne, bne_eq_false_iff_eq, Int.not_lt, Int.not_le, gt_iff_lt, ge_iff_le, ne_eq] at h4
              have hin : ¬ e 1 ∈ (qi x.edges.l f k i).map (·.1) := by rw [← ha2]; exact h4
              refine X_seq ?_
              refine X_region ?_
              refine XL_det .no (D_pure rfl) rfl ?_
              refine XL_det .no (D_fld rfl fld_95_3 (o' := 3) rfl) rfl ?_
              refine XL_det .no (D_ldo rfl (by repeat first | with_reducible exact .here _ _ | with_reducible apply Out.there | with_reducible apply Out.app) tk_93 (by rfl)) rfl ?_
              refine XL_det .no (D_pure rfl) rfl ?_
              refine XL_det .no (D_idxSo rfl rfl slc_93 (x.edges).nil0 rfl (by omega) rfl) rfl ?_
              refine XL_det .no (D_fldA rfl fld_100_1 rfl) rfl ?_
              refine XL_det .no (D_ela (enc := encE) (sz := 23) (i := i) (k := 1) (fun _ => rfl) rfl (by repeat first | with_reducible exact .here _ _ | with_reducible apply Out.there | with_reducible apply Out.app) hx.edges tk_3 he rfl) rfl ?_
              refine XL_bslice (cs := [.int .i64 (e 1)]) .no rfl slt_41 (by decide) (by decide) (by rfl) (by rfl) rfl rfl (fun b4 => ?_)
              refine XL_app1 (enc := encI) (c := a2) (y := (e 1)) (K := _) .no rfl rfl slt_41 (by repeat first | with_reducible exact .here _ _ | with_reducible apply Out.there | with_reducible apply Out.app) (by repeat first | with_reducible exact .here _ _ | with_reducible apply Out.there | with_reducible apply Out.app) (Rd_blk0) rfl rfl (by omega) (by omega) rfl (fun a3 ha3 ha3o => ?_)
              refine XL_det .no (D_pure rfl) rfl ?_
              refine XL_then ?_
              refine X_region ?_
              refine XL_det .no (D_pure rfl) rfl ?_
              refine XL_det .no (D_pure rfl) rfl ?_
              refine XL_bslice (cs := [.int .i64 (k : Int)]) .no rfl slt_41 (by decide) (by decide) (by rfl) (by rfl) rfl rfl (fun b5 => ?_)
              refine XL_app1 (enc := encI) (c := c2) (y := (k : Int)) (K := _) .no rfl rfl slt_41 (by repeat first | with_reducible exact .here _ _ | with_reducible apply Out.there | with_reducible apply Out.app) (by repeat first | with_reducible exact .here _ _ | with_reducible apply Out.there | with_reducible apply Out.app) (Rd_blk0) rfl rfl (by omega) (by omega) rfl (fun c3 hc3 hc3o => ?_)
              refine XL_det .no (D_pure rfl) rfl ?_
              refine XL_nil ?_
              refine inBlk_normal ?_
              refine thenX_normal ?_
              refine X_region ?_
              refine XL_det .no (D_pure rfl) rfl ?_
              refine XL_det .no (D_add rfl rfl (by omega) (by omega)) rfl ?_
              refine XL_det .no (D_pure rfl) rfl ?_
              refine XL_nil ?_
              refine loopQ_next (i + 1, a3, c3) ?_ ?_ ?_ ?_
              · (try dsimp only); exact ⟨by omega, by rw [qi_s he, if_pos h3, push_f hin, ha3, ha2, List.map_append]; rfl, by rw [qi_s he, if_pos h3, push_f hin, hc3, hc2, List.map_append]; rfl, ha3o, hc3o⟩
              · (try dsimp only); omega
              · refine ⟨?_, ?_, ?_, ?_, ?_, trivial⟩ <;> rfl
              · (try dsimp only); exact ⟨_, (by repeat first | with_reducible exact .nil _ | with_reducible exact .here _ _ | with_reducible exact Take.self _ | with_reducible apply Take.cons | with_reducible apply Out.there | with_reducible apply Take.skip | with_reducible exact Take.pre _ _ | with_reducible apply Out.app)⟩
            · try simp only [decide_eq_true_eq, decide_eq_false_iff_not, Bool.not_eq_true', Bool.not_eq_false', beq_iff_eq, bne_iff_ne, beq_eq_false_iff_ne, bne_eq_false_iff_eq, Int.not_lt, Int.not_le, gt_iff_lt, ge_iff_le, ne_eq] at h4
              have hin : e 1 ∈ (qi x.edges.l f k i).map (·.1) := by rw [← ha2]; exact h4
              refine X_skip ?_
              refine inBlk_normal ?_
              refine thenX_normal ?_
              refine X_region ?_
              refine XL_det .no (D_pure rfl) rfl ?_
              refine XL_det .no (D_add rfl rfl (by omega) (by omega)) rfl ?_
              refine XL_det .no (D_pure rfl) rfl ?_
              refine XL_nil ?_
              refine loopQ_next (i + 1, a2, c2) ?_ ?_ ?_ ?_
              · (try dsimp only); exact ⟨by omega, by rw [qi_s he, if_pos h3, push_t hin, ha2], by rw [qi_s he, if_pos h3, push_t hin, hc2], ha2o, hc2o⟩
              · (try dsimp only); omega
              · refine ⟨?_, ?_, ?_, ?_, ?_, trivial⟩ <;> rfl
              · (try dsimp only); exact ⟨_, (by repeat first | with_reducible exact .nil _ | with_reducible exact .here _ _ | with_reducible exact Take.self _ | with_reducible apply Take.cons | with_reducible apply Out.there | with_reducible apply Take.skip | with_reducible exact Take.pre _ _ | with_reducible apply Out.app)⟩
          · try simp only [decide_eq_true_eq, decide_eq_false_iff_not, Bool.not_eq_true', Bool.not_eq_false', beq_iff_eq, bne_iff_ne, beq_eq_false_iff_ne, bne_eq_false_iff_eq, Int.not_lt, Int.not_le, gt_iff_lt, ge_iff_le, ne_eq] at h3
            refine XA_skipp 12 37 rfl (by kernel_rfl) (by kernel_rfl) (by kernel_rfl) (fun _ _ _ _ h => h) rfl rfl rfl rfl rfl ?_
            refine XA_skipp 13 37 rfl (by kernel_rfl) (by kernel_rfl) (by kernel_rfl) (fun _ _ _ _ h => h) rfl rfl rfl rfl rfl ?_
            refine XA_skipp 14 37 rfl (by kernel_rfl) (by kernel_rfl) (by kernel_rfl) (fun _ _ _ _ h => h) rfl rfl rfl rfl rfl ?_
            refine XA_skipp 15 37 rfl (by kernel_rfl) (by kernel_rfl) (by kernel_rfl) (fun _ _ _ _ h => h) rfl rfl rfl rfl rfl ?_
            refine XA_skipp 16 37 rfl (by kernel_rfl) (by kernel_rfl) (by kernel_rfl) (fun _ _ _ _ h => h) rfl rfl rfl rfl rfl ?_
            refine XA_skipp 17 37 rfl (by kernel_rfl) (by kernel_rfl) (by kernel_rfl) (fun _ _ _ _ h => h) rfl rfl rfl rfl rfl ?_
            refine XA_skipp 18 37 rfl (by kernel_rfl) (by kernel_rfl) (by kernel_rfl) (fun _ _ _ _ h => h) rfl rfl rfl rfl rfl ?_
            refine XA_skipp 19 37 rfl (by kernel_rfl) (by kernel_rfl) (by kernel_rfl) (fun _ _ _ _ h => h) rfl rfl rfl rfl rfl ?_
            refine XA_skipp 20 37 rfl (by kernel_rfl) (by kernel_rfl) (by kernel_rfl) (fun _ _ _ _ h => h) rfl rfl rfl rfl rfl ?_
            refine XA_detp 21 rfl (by kernel_rfl) (by kernel_rfl) (by kernel_rfl) (fun _ _ _ _ h => h) .no (D_pureP rfl) rfl ?_
            refine XA_done (by kernel_rfl) ?_
            try simp only [List.cons_append, List.nil_append, List.append_nil]
            refine thenX_normal ?_
            refine X_cond_f rfl rfl ?_
            refine X_skip ?_
            refine inBlk_normal ?_
            refine thenX_normal ?_
            refine X_region ?_
            refine XL_det .no (D_pure rfl) rfl ?_
            refine XL_det .no (D_add rfl rfl (by omega) (by omega)) rfl ?_
            refine XL_det .no (D_pure rfl) rfl ?_
            refine XL_nil ?_
            refine loopQ_next (i + 1, a2, c2) ?_ ?_ ?_ ?_
            · (try dsimp only); exact ⟨by omega, by rw [qi_s he, if_neg h3, ha2], by rw [qi_s he, if_neg h3, hc2], ha2o, hc2o⟩
            · (try dsimp only); omega
            · refine ⟨?_, ?_, ?_, ?_, ?_, trivial⟩ <;> rfl
            · (try dsimp only); exact ⟨_, (by repeat first | with_reducible exact .nil _ | with_reducible exact .here _ _ | with_reducible exact Take.self _ | with_reducible apply Take.cons | with_reducible apply Out.there | with_reducible apply Take.skip | with_reducible exact Take.pre _ _ | with_reducible apply Out.app)⟩
        · try simp only [decide_eq_true_eq, decide_eq_false_iff_not, Bool.not_eq_true', Bool.not_eq_false', beq_iff_eq, bne_iff_ne, beq_eq_false_iff_ne, bne_eq_false_iff_eq, Int.not_lt, Int.not_le, gt_iff_lt, ge_iff_le, ne_eq] at h2
          have hqa := qi_all (f := f) (k := k) (show x.edges.l.length ≤ i by omega) hk2
          refine X_exit ?_
          refine thenX_exit ?_
          refine loopQ_exit ?_
          refine inBlk_here ?_
          refine inBlk_normal ?_
          refine thenX_normal ?_
          refine X_region ?_
          refine XL_det .no (D_pure rfl) rfl ?_
          refine XL_det .no (D_add rfl rfl (by omega) (by omega)) rfl ?_
          refine XL_det .no (D_pure rfl) rfl ?_
          refine XL_nil ?_
          refine loopQ_next (k + 1, a2, c2) ?_ ?_ ?_ ?_
          · (try dsimp only); exact ⟨by rw [← hqa]; have := (fold_pre (k : Int) (nxt (x.edges.l.take i) ((bq x.edges.l f k).getD k (0, 0)).1) (bq x.edges.l f k)).length_le; simp only [qi]; omega, by rw [ha2, hqa], by rw [hc2, hqa], ha2o, hc2o⟩
          · (try dsimp only); omega
          · refine ⟨?_, ?_, ?_, ?_, trivial⟩ <;> rfl
          · (try dsimp only); exact ⟨_, (by repeat first | with_reducible exact .nil _ | with_reducible exact .here _ _ | with_reducible exact Take.self _ | with_reducible apply Take.cons | with_reducible apply Out.there | with_reducible apply Take.skip | with_reducible exact Take.pre _ _ | with_reducible apply Out.app)⟩
    · try simp only [decide_eq_true_eq, decide_eq_false_iff_not, Bool.not_eq_true', Bool.not_eq_false', beq_iff_eq, bne_iff_ne, beq_eq_false_iff_ne, bne_eq_false_iff_eq, Int.not_lt, Int.not_le, gt_iff_lt, ge_iff_le, ne_eq] at h1
      have hdn := bq_done (eok hr) hf hk (by omega)
      refine X_exit ?_
      refine thenX_exit ?_
      refine loopQ_exit ?_
      refine inBlk_here ?_
      refine thenX_normal ?_
      refine X_seq ?_
      refine X_region ?_
      refine XL_det .no (D_pure rfl) rfl ?_
      refine XL_det .no (D_pure rfl) rfl ?_
      refine XL_det .no (D_pure rfl) rfl ?_
      refine XL_det .no (D_pure rfl) rfl ?_
      refine XL_then ?_
      refine X_ret ?_
      refine ret_ok (.nil _) (res_tmp2 rfl rfl rfl) ?_
      exact ⟨[row (.slice a.oad a.l.length a.c) 3 1 a.l.length (a.l.flatMap encI), row (.slice c.oad c.l.length c.c) 3 1 c.l.length (c.l.flatMap encI), K], ⟨a, c, ⟨by rw [ha, ← hdn], by rw [hc, ← hdn], hao, hco⟩, rfl, rfl⟩, _, (by repeat first | with_reducible exact .nil _ | with_reducible exact .here _ _ | with_reducible exact Take.self _ | with_reducible apply Take.cons | with_reducible apply Out.there | with_reducible apply Take.skip | with_reducible exact Take.pre _ _ | with_reducible apply Out.app)⟩


theorem chain_next {n f : Nat} {q : Qu} (h : QOk n f q) {j : Nat} {m p : Int} (hq : q[j]? = some (m, p)) {o W : List Int} (hc : chain q (j + 1) j ++ o = W) :
    ((if p < 0 then [] else chain q (p.toNat + 1) p.toNat) ++ ([m] ++ o) = W) ∧ -1 ≤ p ∧ p < j := by
  rcases h.par j m p hq with ⟨rfl, rfl⟩ | ⟨hp0, hpj⟩
  · rw [chain_u hq] at hc
    refine ⟨?_, by omega, by omega⟩
    simpa using hc
  · rw [chain_step h hq hp0, List.append_assoc] at hc
    rw [if_neg (by omega)]
    exact ⟨hc, by omega, hpj⟩
theorem fidx_iff {q : Qu} {t : Int} : fidx q t < q.length ↔ t ∈ q.map (·.1) := by
  constructor
  · intro h
    exact List.idxOf_lt_length_iff.1 (by simpa [fidx] using h)
  · exact fidx_lt
theorem fidx_ne {q : Qu} {k : Nat} {m p t : Int} (hq : q[k]? = some (m, p)) (h : ¬ m = t) : fidx q t ≠ k := by
  intro e
  have hl := (List.getElem?_eq_some_iff.1 hq).1
  obtain ⟨p', h1⟩ := fidx_get (fidx_iff.1 (show fidx q t < q.length by omega))
  rw [e, hq] at h1
  exact h (by simp at h1; exact h1.1)
theorem map_at {q : Qu} {k : Nat} {m p : Int} (h : q[k]? = some (m, p)) : (q.map (·.1))[k]? = some m ∧ (q.map (·.2))[k]? = some p := by
  rw [List.getElem?_map, List.getElem?_map, h]; exact ⟨rfl, rfl⟩
theorem path_s {q : Qu} {k : Nat} {t : Int} (h : fidx q t ≠ k) (W : List Int) : (if fidx q t < k + 1 then W else []) = if fidx q t < k then W else [] := by
  by_cases h1 : fidx q t < k
  · rw [if_pos h1, if_pos (by omega)]
  · rw [if_neg h1, if_neg (by omega)]

theorem rpath (x : Img) (hx : x.In K) (hr : GOk x) (f : Nat) (hf : f < x.modes.l.length) (t : Int) : Ctr Tryd.prog B 54 [x.v, .int .i64 (f : Int), .int .i64 t] [K] (fun v S => ∃ o : Arr Int, (o.l = pathR x f t ∧ o.Own) ∧ v = o.v ∧ S = [row (.slice o.oad o.l.length o.c) 3 1 o.l.length (o.l.flatMap encI)] ++ [K]) := by
  refine Ctr_of_X (N := 45) Tryd.func54 rfl (by simp) rfl ?_
  intro w0 D0
  have hnm := hr.nm
  refine X_seq ?_
  refine X_region ?_
  refine XL_box (cs := [.int .i64 x.res, .slice x.tasks.oad x.tasks.l.length x.tasks.c, .slice x.modes.oad x.modes.l.length x.modes.c, .slice x.edges.oad x.edges.l.length x.edges.c]) .no rfl rfl rfl (fun b1 => ?_)
  refine XL_det .no (D_pure rfl) rfl ?_
  refine XL_then ?_
  refine X_seq ?_
  refine X_region ?_
  refine XL_det .no (D_ldso (vs := [.int .i64 x.res, .slice x.tasks.oad x.tasks.l.length x.tasks.c, .slice x.modes.oad x.modes.l.length x.modes.c, .slice x.edges.oad x.edges.l.length x.edges.c]) rfl (by repeat first | with_reducible exact .here _ _ | with_reducible apply Out.there | with_reducible apply Out.app) tk_95 rfl (by rfl)) rfl ?_
  refine XL_det .no (D_pure rfl) rfl ?_
  refine XL_call .no en_75 rfl (rmet x hx hr f hf) (by repeat first | with_reducible exact .nil _ | with_reducible exact .here _ _ | with_reducible exact Take.self _ | with_reducible apply Take.cons | with_reducible apply Out.there | with_reducible apply Take.skip | with_reducible exact Take.pre _ _ | with_reducible apply Out.app) rfl ?_
  rintro _ _ ⟨a, c, ⟨ha, hc, hao, hco⟩, rfl, rfl⟩
  simp only [List.cons_append, List.nil_append]
  have hok : QOk x.modes.l.length f (bqE x f) := bq_ok (eok hr) hf x.modes.l.length
  have hql := hok.len
  have hal : a.l.length = (bqE x f).length := by rw [ha]; simp
  have hcl : c.l.length = (bqE x f).length := by rw [hc]; simp
  refine XL_det .no (D_pure rfl) rfl ?_
  refine XL_det .no (D_pure (v := .slice a.oad a.l.length a.c) rfl) rfl ?_
  refine XL_det .no (D_pure (v := .slice c.oad c.l.length c.c) rfl) rfl ?_
  refine XL_det .no (D_pure rfl) rfl ?_
  refine XL_det .no (D_pure rfl) rfl ?_
  refine XL_then ?_
  refine X_seq ?_
  refine X_region ?_
  refine XL_det .no (D_pure rfl) rfl ?_
  refine XL_then ?_
  refine X_seq ?_
  refine X_seq ?_
  refine X_region ?_
  refine XL_det .no (D_pure rfl) rfl ?_
  refine XL_then ?_
  refine X_block ?_
  refine X_rowa encI 3 1 ?_
  refine X_loop (α := Nat × Arr Int) (fun ⟨k, o⟩ => k ≤ a.l.length ∧ o.Own ∧ o.l = (if fidx (bqE x f) t < k then chain (bqE x f) (fidx (bqE x f) t + 1) (fidx (bqE x f) t) else [])) (fun ⟨k, o⟩ => [(10, .int .i64 (k : Int)), (9, .slice o.oad o.l.length o.c), (2, .int .i64 t), (7, .slice a.oad a.l.length a.c), (8, .slice c.oad c.l.length c.c)]) (fun ⟨k, o⟩ => [row (.slice a.oad a.l.length a.c) 3 1 a.l.length (a.l.flatMap encI), row (.slice c.oad c.l.length c.c) 3 1 c.l.length (c.l.flatMap encI), row (.slice o.oad o.l.length o.c) 3 1 o.l.length (o.l.flatMap encI), K]) (fun ⟨k, o⟩ => a.l.length - k) (0, Arr.emp) ?_ (by refine ⟨?_, ?_, ?_, ?_, ?_, trivial⟩ <;> rfl) (by repeat first | with_reducible exact .nil _ | with_reducible exact .here _ _ | with_reducible exact Take.self _ | with_reducible apply Take.cons | with_reducible apply Out.there | with_reducible apply Take.skip | with_reducible exact Take.pre _ _ | with_reducible apply Out.app) ?_
  · exact ⟨Nat.zero_le _, Arr.emp_own, by rw [if_neg (by omega)]; rfl⟩
  · rintro ⟨k, o⟩ ⟨hk, hoo, ho⟩
    dsimp only
    refine X_seq ?_
    refine X_seq ?_
    refine X_region ?_
    refine XL_det .no (D_pure rfl) rfl ?_
    refine XL_det .no (D_pure rfl) rfl ?_
    refine XL_det .no (D_len rfl rfl slc_41) rfl ?_
    refine XL_det .no (D_pure rfl) rfl ?_
    refine XL_then ?_
    refine X_cond rfl (fun h1 => ?_) (fun h1 => ?_)
    · try simp only [decide_eq_true_eq, decide_eq_false_iff_not, Bool.not_eq_true', Bool.not_eq_false', beq_iff_eq, bne_iff_ne, beq_eq_false_iff_ne, bne_eq_false_iff_eq, Int.not_lt, Int.not_le, gt_iff_lt, ge_iff_le, ne_eq] at h1
      obtain ⟨⟨m, p⟩, hqk⟩ : ∃ y, (bqE x f)[k]? = some y := ⟨_, List.getElem?_eq_getElem (by omega)⟩
      have hgk : a.l[k]? = some m := by rw [ha]; exact (map_at hqk).1
      refine X_skip ?_
      refine thenX_normal ?_
      refine X_seq ?_
      refine X_block ?_
      refine X_seq ?_
      refine X_region ?_
      refine XL_det .no (D_pure rfl) rfl ?_
      refine XL_det .no (D_pure rfl) rfl ?_
      refine XL_det .no (D_idxSo rfl rfl slc_41 (a).nil0 rfl (by omega) rfl) rfl ?_
      refine XL_det .no (D_ela (enc := encI) (sz := 1) (i := k) (k := 0) (fun _ => rfl) rfl (by repeat first | with_reducible exact .here _ _ | with_reducible apply Out.there | with_reducible apply Out.app) (Rd_own hao rfl) tk_3 hgk rfl) rfl ?_
      refine XL_det .no (D_pure rfl) rfl ?_
      refine XL_det .no (D_pure rfl) rfl ?_
      refine XL_then ?_
      refine X_cond rfl (fun h2 => ?_) (fun h2 => ?_)
      · try simp only [decide_eq_true_eq, decide_eq_false_iff_not, Bool.not_eq_true', Bool.not_eq_false', beq_iff_eq, bne_iff_ne, beq_eq_false_iff_ne, bne_eq_false_iff_eq, Int.not_lt, Int.not_le, gt_iff_lt, ge_iff_le, ne_eq] at h2
        have hfi : fidx (bqE x f) t = k := fidx_eq hok (by rw [hqk, h2])
        refine X_seq ?_
        refine X_region ?_
        refine XL_det .no (D_pure rfl) rfl ?_
        refine XL_det .no (D_pure rfl) rfl ?_
        refine XL_then ?_
        refine X_block ?_
        refine X_loop (α := Int × Arr Int) (fun ⟨z, o2⟩ => -1 ≤ z ∧ z ≤ k ∧ o2.Own ∧ (if z < 0 then [] else chain (bqE x f) (z.toNat + 1) z.toNat) ++ o2.l = chain (bqE x f) (k + 1) k) (fun ⟨z, o2⟩ => [(11, .int .i64 z), (9, .slice o2.oad o2.l.length o2.c), (2, .int .i64 t), (7, .slice a.oad a.l.length a.c), (8, .slice c.oad c.l.length c.c), (10, .int .i64 (k : Int))]) (fun ⟨z, o2⟩ => [row (.slice a.oad a.l.length a.c) 3 1 a.l.length (a.l.flatMap encI), row (.slice c.oad c.l.length c.c) 3 1 c.l.length (c.l.flatMap encI), row (.slice o2.oad o2.l.length o2.c) 3 1 o2.l.length (o2.l.flatMap encI), K]) (fun ⟨z, o2⟩ => (z + 1).toNat) ((k : Int), o) ?_ (by refine ⟨?_, ?_, ?_, ?_, ?_, ?_, trivial⟩ <;> rfl) (by repeat first | with_reducible exact .nil _ | with_reducible exact .here _ _ | with_reducible exact Take.self _ | with_reducible apply Take.cons | with_reducible apply Out.there | with_reducible apply Take.skip | with_reducible exact Take.pre _ _ | with_reducible apply Out.app) ?_
        · exact ⟨by omega, by omega, hoo, by rw [if_neg (by omega), ho, if_neg (by omega), List.append_nil, Int.toNat_natCast]⟩
        · rintro ⟨z, o2⟩ ⟨hz1, hz2, ho2o, ho2⟩
          dsimp only
          refine X_seq ?_
          refine X_seq ?_
          refine X_region ?_
          refine XL_det .no (D_pure rfl) rfl ?_
          refine XL_det .no (D_pure rfl) rfl ?_
          refine XL_then ?_
          refine X_cond rfl (fun h3 => ?_) (fun h3 => ?_)
          · try simp only [decide_eq_true_eq, decide_eq_false_iff_not, Bool.not_eq_true', Bool.not_eq_false', beq_iff_eq, bne_iff_ne, beq_eq_false_iff_ne, bne_eq_false_iff_eq, Int.not_lt, Int.not_le, gt_iff_lt, ge_iff_le, ne_eq] at h3
            obtain ⟨⟨m2, p2⟩, hqz⟩ : ∃ y, (bqE x f)[z.toNat]? = some y := ⟨_, List.getElem?_eq_getElem (by omega)⟩
            have hgz : a.l[z.toNat]? = some m2 := by rw [ha]; exact (map_at hqz).1
            have hgp : c.l[z.toNat]? = some p2 := by rw [hc]; exact (map_at hqz).2
            rw [if_neg (by omega)] at ho2
            have hcn := chain_next hok hqz ho2
            have hol : o2.l.length ≤ 1000 := by have h9 := congrArg List.length ho2; rw [List.length_append] at h9; have := chain_le (bqE x f) (k + 1) k; omega
            refine X_skip ?_
            refine thenX_normal ?_
            refine X_seq ?_
            refine X_block ?_
            refine X_region ?_
            refine XL_det .no (D_pure rfl) rfl ?_
            refine XL_det .no (D_pure rfl) rfl ?_
            refine XL_det .no (D_idxSo (j := z.toNat) rfl rfl slc_41 (a).nil0 (show z = ((z.toNat : Nat) : Int) by omega) (by omega) rfl) rfl ?_
            refine XL_det .no (D_ela (enc := encI) (sz := 1) (i := z.toNat) (k := 0) (fun _ => rfl) rfl (by repeat first | with_reducible exact .here _ _ | with_reducible apply Out.there | with_reducible apply Out.app) (Rd_own hao rfl) tk_3 hgz rfl) rfl ?_
            refine XL_bslice (cs := [.int .i64 m2]) .no rfl slt_41 (by decide) (by decide) (by rfl) (by rfl) rfl rfl (fun b2 => ?_)
            refine XL_det .no (D_pure rfl) rfl ?_
            refine XL_blkrow (b := b2) (e := 3) (cs := [.int .i64 m2]) 1 1 (by repeat first | with_reducible exact .here _ _ | with_reducible apply Out.there | with_reducible apply Out.app) rfl rfl ?_
            refine XL_appa (enc := encI) (c := Arr.lit b2 [m2] (by simp)) (b := o2) .no rfl rfl slt_41 (.here _ _) (by repeat first | with_reducible exact .here _ _ | with_reducible apply Out.there | with_reducible apply Out.app) (Rd_own ho2o rfl) (fun _ => rfl) (fun _ => rfl) (by show 1 + o2.l.length ≤ _; omega) (by show (1 + o2.l.length) * _ ≤ _; omega) rfl (fun o3 ho3 ho3o => ?_)
            refine XL_det .no (D_pure rfl) rfl ?_
            refine XL_nil ?_
            refine inBlk_normal ?_
            refine thenX_normal ?_
            refine X_region ?_
            refine XL_det .no (D_pure rfl) rfl ?_
            refine XL_det .no (D_pure rfl) rfl ?_
            refine XL_det .no (D_idxSo (j := z.toNat) rfl rfl slc_41 (c).nil0 (show z = ((z.toNat : Nat) : Int) by omega) (by omega) rfl) rfl ?_
            refine XL_det .no (D_ela (enc := encI) (sz := 1) (i := z.toNat) (k := 0) (fun _ => rfl) rfl (by repeat first | with_reducible exact .here _ _ | with_reducible apply Out.there | with_reducible apply Out.app) (Rd_own hco rfl) tk_3 hgp rfl) rfl ?_
            refine XL_det .no (D_pure rfl) rfl ?_
            refine XL_nil ?_
            refine loopQ_next (p2, o3) ?_ ?_ ?_ ?_
            · (try dsimp only); exact ⟨hcn.2.1, by omega, ho3o, by rw [ho3]; exact hcn.1⟩
            · (try dsimp only); omega
            · refine ⟨?_, ?_, ?_, ?_, ?_, ?_, trivial⟩ <;> rfl
            · (try dsimp only); exact ⟨_, (by repeat first | with_reducible exact .nil _ | with_reducible exact .here _ _ | with_reducible exact Take.self _ | with_reducible apply Take.cons | with_reducible apply Out.there | with_reducible apply Take.skip | with_reducible exact Take.pre _ _ | with_reducible apply Out.app)⟩
          · try simp only [decide_eq_true_eq, decide_eq_false_iff_not, Bool.not_eq_true', Bool.not_eq_false', beq_iff_eq, bne_iff_ne, beq_eq_false_iff_ne, bne_eq_false_iff_eq, Int.not_lt, Int.not_le, gt_iff_lt, ge_iff_le, ne_eq] at h3
            refine X_exit ?_
            refine thenX_exit ?_
            refine loopQ_exit ?_
            refine inBlk_here ?_
            refine inBlk_normal ?_
            refine thenX_normal ?_
            refine X_region ?_
            refine XL_det .no (D_pure rfl) rfl ?_
            refine XL_det .no (D_add rfl rfl (by omega) (by omega)) rfl ?_
            refine XL_det .no (D_pure rfl) rfl ?_
            refine XL_nil ?_
            refine loopQ_next (k + 1, o2) ?_ ?_ ?_ ?_
            · (try dsimp only); exact ⟨by omega, ho2o, by rw [if_pos (by omega), hfi]; rw [if_pos (by omega)] at ho2; exact ho2⟩
            · (try dsimp only); omega
            · refine ⟨?_, ?_, ?_, ?_, ?_, trivial⟩ <;> rfl
            · (try dsimp only); exact ⟨_, (by repeat first | with_reducible exact .nil _ | with_reducible exact .here _ _ | with_reducible exact Take.self _ | with_reducible apply Take.cons | with_reducible apply Out.there | with_reducible apply Take.skip | with_reducible exact Take.pre _ _ | with_reducible apply Out.app)⟩
      · try simp only [decide_eq_true_eq, decide_eq_false_iff_not, Bool.not_eq_true', Bool.not_eq_false', beq_iff_eq, bne_iff_ne, beq_eq_false_iff_ne, bne_eq_false_iff_eq, Int.not_lt, Int.not_le, gt_iff_lt, ge_iff_le, ne_eq] at h2
        have hfn := fidx_ne hqk h2
        refine X_skip ?_
        refine inBlk_normal ?_
        refine thenX_normal ?_
        refine X_region ?_
        refine XL_det .no (D_pure rfl) rfl ?_
        refine XL_det .no (D_add rfl rfl (by omega) (by omega)) rfl ?_
        refine XL_det .no (D_pure rfl) rfl ?_
        refine XL_nil ?_
        refine loopQ_next (k + 1, o) ?_ ?_ ?_ ?_
        · (try dsimp only); exact ⟨by omega, hoo, by rw [path_s hfn]; exact ho⟩
        · (try dsimp only); omega
        · refine ⟨?_, ?_, ?_, ?_, ?_, trivial⟩ <;> rfl
        · (try dsimp only); exact ⟨_, (by repeat first | with_reducible exact .nil _ | with_reducible exact .here _ _ | with_reducible exact Take.self _ | with_reducible apply Take.cons | with_reducible apply Out.there | with_reducible apply Take.skip | with_reducible exact Take.pre _ _ | with_reducible apply Out.app)⟩
    · try simp only [decide_eq_true_eq, decide_eq_false_iff_not, Bool.not_eq_true', Bool.not_eq_false', beq_iff_eq, bne_iff_ne, beq_eq_false_iff_ne, bne_eq_false_iff_eq, Int.not_lt, Int.not_le, gt_iff_lt, ge_iff_le, ne_eq] at h1
      refine X_exit ?_
      refine thenX_exit ?_
      refine loopQ_exit ?_
      refine inBlk_here ?_
      refine thenX_normal ?_
      refine X_seq ?_
      refine X_region ?_
      refine XL_det .no (D_pure rfl) rfl ?_
      refine XL_det .no (D_pure rfl) rfl ?_
      refine XL_then ?_
      refine X_ret ?_
      refine ret_ok (.nil _) (res_tmp rfl rfl) ?_
      exact ⟨[row (.slice o.oad o.l.length o.c) 3 1 o.l.length (o.l.flatMap encI), K], ⟨o, ⟨by rw [ho]; unfold pathR; by_cases hm : t ∈ (bqE x f).map (·.1); rw [if_pos hm, if_pos (by have := fidx_lt hm; omega)]; rw [if_neg hm, if_neg (fun h => hm (fidx_iff.1 (by omega)))], hoo⟩, rfl, rfl⟩, _, (by repeat first | with_reducible exact .nil _ | with_reducible exact .here _ _ | with_reducible exact Take.self _ | with_reducible apply Take.cons | with_reducible apply Out.there | with_reducible apply Take.skip | with_reducible exact Take.pre _ _ | with_reducible apply Out.app)⟩

theorem rreach (x : Img) (hx : x.In K) (hr : GOk x) (f : Int) : Ctr Tryd.prog B 49 [x.v, .int .i64 f] [K] (fun v S => v = .int .u32 (reachS x f).toNat ∧ S = [K]) := by
  refine Ctr_of_X (N := 28) Tryd.func49 rfl (by simp) rfl ?_
  intro w0 D0
  have hnm := hr.nm
  refine X_seq ?_
  refine X_region ?_
  refine XL_box (cs := [.int .i64 x.res, .slice x.tasks.oad x.tasks.l.length x.tasks.c, .slice x.modes.oad x.modes.l.length x.modes.c, .slice x.edges.oad x.edges.l.length x.edges.c]) .no rfl rfl rfl (fun b1 => ?_)
  refine XL_det .no (D_pure rfl) rfl ?_
  refine XL_then ?_
  refine X_seq ?_
  refine X_region ?_
  refine XL_det .no (D_ldso (vs := [.int .i64 x.res, .slice x.tasks.oad x.tasks.l.length x.tasks.c, .slice x.modes.oad x.modes.l.length x.modes.c, .slice x.edges.oad x.edges.l.length x.edges.c]) rfl (by repeat first | with_reducible exact .here _ _ | with_reducible apply Out.there | with_reducible apply Out.app) tk_95 rfl (by rfl)) rfl ?_
  refine XL_det .no (D_pure rfl) rfl ?_
  refine XL_call .no en_45 rfl (rsteps x hx hr f) (by repeat first | with_reducible exact .nil _ | with_reducible exact .here _ _ | with_reducible exact Take.self _ | with_reducible apply Take.cons | with_reducible apply Out.there | with_reducible apply Take.skip | with_reducible exact Take.pre _ _ | with_reducible apply Out.app) rfl ?_
  rintro _ _ ⟨a, ⟨ha, hao⟩, rfl, rfl⟩
  simp only [List.cons_append, List.nil_append]
  have hal : a.l.length = x.modes.l.length := by rw [ha, rgI_len]
  refine XL_det .no (D_pure rfl) rfl ?_
  refine XL_then ?_
  refine X_seq ?_
  refine X_region ?_
  refine XL_det .no (D_pure rfl) rfl ?_
  refine XL_then ?_
  refine X_seq ?_
  refine X_seq ?_
  refine X_region ?_
  refine XL_det .no (D_pure rfl) rfl ?_
  refine XL_then ?_
  refine X_block ?_
  refine X_rowa encI 3 1 ?_
  refine X_loop (α := Nat × Arr Int) (fun ⟨i, o⟩ => i ≤ a.l.length ∧ o.Own ∧ o.l = setOf i (fun i => decide (0 ≤ stepsG x f i))) (fun ⟨i, o⟩ => [(7, .int .i64 (i : Int)), (6, .slice o.oad o.l.length o.c), (5, .slice a.oad a.l.length a.c)]) (fun ⟨i, o⟩ => [row (.slice a.oad a.l.length a.c) 3 1 a.l.length (a.l.flatMap encI), row (.slice o.oad o.l.length o.c) 3 1 o.l.length (o.l.flatMap encI), K]) (fun ⟨i, o⟩ => a.l.length - i) (0, Arr.emp) ?_ (by refine ⟨?_, ?_, ?_, trivial⟩ <;> rfl) (by repeat first | with_reducible exact .nil _ | with_reducible exact .here _ _ | with_reducible exact Take.self _ | with_reducible apply Take.cons | with_reducible apply Out.there | with_reducible apply Take.skip | with_reducible exact Take.pre _ _ | with_reducible apply Out.app) ?_
  · exact ⟨Nat.zero_le _, Arr.emp_own, rfl⟩
  · rintro ⟨i, o⟩ ⟨hi, hoo, ho⟩
    dsimp only
    have hol : o.l.length ≤ i := by rw [ho]; exact setOf_len _ _
    refine X_seq ?_
    refine X_seq ?_
    refine X_region ?_
    refine XL_det .no (D_pure rfl) rfl ?_
    refine XL_det .no (D_pure rfl) rfl ?_
    refine XL_det .no (D_len rfl rfl slc_41) rfl ?_
    refine XL_det .no (D_pure rfl) rfl ?_
    refine XL_then ?_
    refine X_cond rfl (fun h1 => ?_) (fun h1 => ?_)
    · try simp only [decide_eq_true_eq, decide_eq_false_iff_not, Bool.not_eq_true', Bool.not_eq_false', beq_iff_eq, bne_iff_ne, beq_eq_false_iff_ne, bne_eq_false_iff_eq, Int.not_lt, Int.not_le, gt_iff_lt, ge_iff_le, ne_eq] at h1
      have hg : a.l[i]? = some (stepsG x f i) := by rw [ha]; exact rgI_get (by omega)
      refine X_skip ?_
      refine thenX_normal ?_
      refine X_seq ?_
      refine X_block ?_
      refine X_seq ?_
      refine X_region ?_
      refine XL_det .no (D_pure rfl) rfl ?_
      refine XL_det .no (D_pure rfl) rfl ?_
      refine XL_det .no (D_idxSo rfl rfl slc_41 (a).nil0 rfl (by omega) rfl) rfl ?_
      refine XL_det .no (D_ela (enc := encI) (sz := 1) (i := i) (k := 0) (fun _ => rfl) rfl (by repeat first | with_reducible exact .here _ _ | with_reducible apply Out.there | with_reducible apply Out.app) (Rd_own hao rfl) tk_3 hg rfl) rfl ?_
      refine XL_det .no (D_pure rfl) rfl ?_
      refine XL_then ?_
      refine X_cond rfl (fun h2 => ?_) (fun h2 => ?_)
      · try simp only [decide_eq_true_eq, decide_eq_false_iff_not, Bool.not_eq_true', Bool.not_eq_false', beq_iff_eq, bne_iff_ne, beq_eq_false_iff_ne, bne_eq_false_iff_eq, Int.not_lt, Int.not_le, gt_iff_lt, ge_iff_le, ne_eq] at h2
        refine X_region ?_
        refine XL_det .no (D_pure rfl) rfl ?_
        refine XL_det .no (D_pure rfl) rfl ?_
        refine XL_bslice (cs := [.int .i64 (i : Int)]) .no rfl slt_41 (by decide) (by decide) (by rfl) (by rfl) rfl rfl (fun b2 => ?_)
        refine XL_app1 (enc := encI) (c := o) (y := (i : Int)) (K := _) .no rfl rfl slt_41 (by repeat first | with_reducible exact .here _ _ | with_reducible apply Out.there | with_reducible apply Out.app) (by repeat first | with_reducible exact .here _ _ | with_reducible apply Out.there | with_reducible apply Out.app) (Rd_blk0) rfl rfl (by omega) (by omega) rfl (fun o3 ho3 ho3o => ?_)
        refine XL_det .no (D_pure rfl) rfl ?_
        refine XL_nil ?_
        refine inBlk_normal ?_
        refine thenX_normal ?_
        refine X_region ?_
        refine XL_det .no (D_pure rfl) rfl ?_
        refine XL_det .no (D_add rfl rfl (by omega) (by omega)) rfl ?_
        refine XL_det .no (D_pure rfl) rfl ?_
        refine XL_nil ?_
        refine loopQ_next (i + 1, o3) ?_ ?_ ?_ ?_
        · (try dsimp only); exact ⟨by omega, ho3o, by rw [ho3, ho, setOf_s, if_pos (decide_eq_true h2)]⟩
        · (try dsimp only); omega
        · refine ⟨?_, ?_, ?_, trivial⟩ <;> rfl
        · (try dsimp only); exact ⟨_, (by repeat first | with_reducible exact .nil _ | with_reducible exact .here _ _ | with_reducible exact Take.self _ | with_reducible apply Take.cons | with_reducible apply Out.there | with_reducible apply Take.skip | with_reducible exact Take.pre _ _ | with_reducible apply Out.app)⟩
      · try simp only [decide_eq_true_eq, decide_eq_false_iff_not, Bool.not_eq_true', Bool.not_eq_false', beq_iff_eq, bne_iff_ne, beq_eq_false_iff_ne, bne_eq_false_iff_eq, Int.not_lt, Int.not_le, gt_iff_lt, ge_iff_le, ne_eq] at h2
        refine X_skip ?_
        refine inBlk_normal ?_
        refine thenX_normal ?_
        refine X_region ?_
        refine XL_det .no (D_pure rfl) rfl ?_
        refine XL_det .no (D_add rfl rfl (by omega) (by omega)) rfl ?_
        refine XL_det .no (D_pure rfl) rfl ?_
        refine XL_nil ?_
        refine loopQ_next (i + 1, o) ?_ ?_ ?_ ?_
        · (try dsimp only); exact ⟨by omega, hoo, by rw [ho, setOf_s, if_neg (by simp; omega), List.append_nil]⟩
        · (try dsimp only); omega
        · refine ⟨?_, ?_, ?_, trivial⟩ <;> rfl
        · (try dsimp only); exact ⟨_, (by repeat first | with_reducible exact .nil _ | with_reducible exact .here _ _ | with_reducible exact Take.self _ | with_reducible apply Take.cons | with_reducible apply Out.there | with_reducible apply Take.skip | with_reducible exact Take.pre _ _ | with_reducible apply Out.app)⟩
    · try simp only [decide_eq_true_eq, decide_eq_false_iff_not, Bool.not_eq_true', Bool.not_eq_false', beq_iff_eq, bne_iff_ne, beq_eq_false_iff_ne, bne_eq_false_iff_eq, Int.not_lt, Int.not_le, gt_iff_lt, ge_iff_le, ne_eq] at h1
      refine X_exit ?_
      refine thenX_exit ?_
      refine loopQ_exit ?_
      refine inBlk_here ?_
      refine thenX_normal ?_
      refine X_seq ?_
      refine X_region ?_
      refine XL_det .no (D_pure rfl) rfl ?_
      refine XL_callk .no en_40 rfl (rOf (K := row (.slice o.oad o.l.length o.c) 3 1 o.l.length (o.l.flatMap encI)) o (Rd_own hoo rfl)) (by repeat first | with_reducible exact .nil _ | with_reducible exact .here _ _ | with_reducible exact Take.self _ | with_reducible apply Take.cons | with_reducible apply Out.there | with_reducible apply Take.skip | with_reducible exact Take.pre _ _ | with_reducible apply Out.app) rfl ?_
      refine XL_det .no (D_pure rfl) rfl ?_
      refine XL_then ?_
      refine X_ret ?_
      refine ret_ok (.nil _) (res_tmp rfl rfl) ?_
      exact ⟨_, ⟨by rw [ho, show i = x.modes.l.length by omega], rfl⟩, _, (by repeat first | with_reducible exact .nil _ | with_reducible exact .here _ _ | with_reducible exact Take.self _ | with_reducible apply Take.cons | with_reducible apply Out.there | with_reducible apply Take.skip | with_reducible exact Take.pre _ _ | with_reducible apply Out.app)⟩

end Go.Proofs.YtdimcgedcndndaaDoor
end

section
namespace Go.Proofs.YtdimcgedcndndaaDoor
open Go Go.Sl
set_option linter.unusedVariables false
set_option linter.unusedSimpArgs false
set_option maxRecDepth 4000
variable {B : Nat} {K : Asrt B}
theorem en_70 : Go.Proofs.Enters Tryd.prog 70 := Go.Proofs.enters_of Tryd.func70 (by kernel_rfl) rfl
theorem en_87 : Go.Proofs.Enters Tryd.prog 87 := Go.Proofs.enters_of Tryd.func87 (by kernel_rfl) rfl
theorem fnt_115 : isFuncT Tryd.prog 115 = true := by kernel_rfl
theorem tk_41 : tyK Tryd.prog 41 = some (false, 1) := by kernel_rfl
theorem zero_41 : zeroOf Tryd.prog 41 = some [.slice none 0 0] := by kernel_rfl

theorem nxtI_pre (E : List Edg) (m : Int) {i j : Nat} (h : i ≤ j) : nxtI E m i <+: nxtI E m j := by
  induction j with
  | zero => have : i = 0 := by omega
            subst this; exact List.prefix_refl _
  | succ j ih =>
    rcases Nat.lt_or_ge j i with h' | h'
    · have : i = j + 1 := by omega
      subst this; exact List.prefix_refl _
    · refine (ih h').trans ?_
      rw [nxtI]; exact List.prefix_append _ _
abbrev nxtA (x : Img) (m : Int) : List (Int × Int) := nxtI x.edges.l m x.edges.l.length
abbrev encN2 (p : Int × Int) : List Value := [.int .i64 p.1, .int .i64 p.2]
theorem nxtI_at {E : List Edg} {m : Int} {i : Nat} {e : Edg} (h : E[i]? = some e) (hm : e 0 = m) : (nxtI E m E.length)[(nxtI E m i).length]? = some (e 1, (i : Int)) := by
  have hi := (List.getElem?_eq_some_iff.1 h).1
  obtain ⟨r, hr⟩ := nxtI_pre E m (show i + 1 ≤ E.length by omega)
  rw [← hr, nxtI_s h, if_pos hm, List.append_assoc, List.getElem?_append_right (Nat.le_refl _), Nat.sub_self]; rfl
theorem getD_map {α : Type} {f : α → List Value} {l : List α} {i : Nat} {a : α} (h : l[i]? = some a) : (l.map f).getD i [] = f a := by simp [List.getD, h]
/-- What the law goes through: modes and edges. -/
abbrev nextL (x : Img) (m : Int) : List Int := (nxtA x m).flatMap fun p => [p.1, p.2]
theorem nextL_len (l : List (Int × Int)) : (l.flatMap fun p => [p.1, p.2]).length = 2 * l.length := by
  induction l with
  | nil => rfl
  | cons a l ih => rw [List.flatMap_cons, List.length_append, ih]; simp; omega

theorem gNext (x : Img) (m : Int) : Ctr Tryd.prog B 70 [x.v, .int .i64 m] [] (fun v S => ∃ bx bm, v = .func (.func 87) #[] #[.pointer (some ⟨bx, 0, none⟩), .pointer (some ⟨bm, 0, none⟩)] ∧ S = [blk bx [.int .i64 x.res, .slice x.tasks.oad x.tasks.l.length x.tasks.c, .slice x.modes.oad x.modes.l.length x.modes.c, .slice x.edges.oad x.edges.l.length x.edges.c] 95, blk bm [.int .i64 m] 3]) := by
  refine Ctr_of_X (N := 6) Tryd.func70 rfl (by simp) rfl ?_
  intro w0 D0
  refine X_seq ?_
  refine X_region ?_
  refine XL_box (cs := [.int .i64 x.res, .slice x.tasks.oad x.tasks.l.length x.tasks.c, .slice x.modes.oad x.modes.l.length x.modes.c, .slice x.edges.oad x.edges.l.length x.edges.c]) .no rfl rfl rfl (fun b1 => ?_)
  refine XL_box .no rfl rfl rfl (fun b2 => ?_)
  refine XL_det .no (D_pure rfl) rfl ?_
  refine XL_then ?_
  refine X_seq ?_
  refine X_region ?_
  refine XL_det .no (D_pure rfl) rfl ?_
  refine XL_det .no (D_pure rfl) rfl ?_
  refine XL_then ?_
  refine X_ret ?_
  refine ret_ok (.nil _) (res_tmp rfl rfl) ?_
  exact ⟨[blk b1 [.int .i64 x.res, .slice x.tasks.oad x.tasks.l.length x.tasks.c, .slice x.modes.oad x.modes.l.length x.modes.c, .slice x.edges.oad x.edges.l.length x.edges.c] 95, blk b2 [.int .i64 m] 3], ⟨b1, b2, rfl, rfl⟩, _, (by repeat first | with_reducible exact .nil _ | with_reducible exact .here _ _ | with_reducible exact Take.self _ | with_reducible apply Take.cons | with_reducible apply Out.there | with_reducible apply Take.skip | with_reducible exact Take.pre _ _ | with_reducible apply Out.app)⟩

theorem nextItr (bx bm : Nat) (x : Img) (hx : x.In K) (m : Int) : Itr Tryd.prog B 87 [.pointer (some ⟨bx, 0, none⟩), .pointer (some ⟨bm, 0, none⟩)] [blk bx [.int .i64 x.res, .slice x.tasks.oad x.tasks.l.length x.tasks.c, .slice x.modes.oad x.modes.l.length x.modes.c, .slice x.edges.oad x.edges.l.length x.edges.c] 95, blk bm [.int .i64 m] 3, K] ((nxtA x m).map encN2) := by
  intro ly J Jx S0 hJ0 hy
  change Ctr _ _ _ _ (blk bx [.int .i64 x.res, .slice x.tasks.oad x.tasks.l.length x.tasks.c, .slice x.modes.oad x.modes.l.length x.modes.c, .slice x.edges.oad x.edges.l.length x.edges.c] 95 :: blk bm [.int .i64 m] 3 :: K :: S0) _
  refine Ctr_of_X (N := 27) Tryd.func87 rfl (by simp) rfl ?_
  intro w0 D0
  refine X_seq ?_
  refine X_region ?_
  refine XL_det .no (D_fld rfl fld_95_3 (o' := 3) rfl) rfl ?_
  refine XL_det .no (D_ldo rfl (by repeat first | with_reducible exact .here _ _ | with_reducible apply Out.there | with_reducible apply Out.app) tk_93 (by rfl)) rfl ?_
  refine XL_det .no (D_len rfl rfl slc_93) rfl ?_
  refine XL_det .no (D_pure rfl) rfl ?_
  refine XL_then ?_
  refine X_block ?_
  refine X_loop (α := Nat × List (Asrt B)) (fun ⟨i, S1⟩ => i ≤ x.edges.l.length ∧ J (nxtI x.edges.l m i).length S1) (fun ⟨i, S1⟩ => [(9, .int .i64 (i : Int)), (0, .func (.yield ly) #[] #[]), (1, .pointer (some ⟨bx, 0, none⟩)), (2, .pointer (some ⟨bm, 0, none⟩)), (7, .slice x.edges.oad x.edges.l.length x.edges.c), (8, .int .i64 (x.edges.l.length : Int))]) (fun ⟨i, S1⟩ => blk bx [.int .i64 x.res, .slice x.tasks.oad x.tasks.l.length x.tasks.c, .slice x.modes.oad x.modes.l.length x.modes.c, .slice x.edges.oad x.edges.l.length x.edges.c] 95 :: blk bm [.int .i64 m] 3 :: K :: S1) (fun ⟨i, S1⟩ => x.edges.l.length - i) (0, S0) ?_ (by refine ⟨?_, ?_, ?_, ?_, ?_, ?_, trivial⟩ <;> rfl) (by repeat first | with_reducible exact .nil _ | with_reducible exact .here _ _ | with_reducible exact Take.self _ | with_reducible apply Take.cons | with_reducible apply Out.there | with_reducible apply Take.skip | with_reducible exact Take.pre _ _ | with_reducible apply Out.app) ?_
  · exact ⟨Nat.zero_le _, hJ0⟩
  · rintro ⟨i, S1⟩ ⟨hi, hJ⟩
    dsimp only
    have hse := x.edges.small
    refine X_seq ?_
    refine X_region ?_
    refine XL_det .no (D_pure rfl) rfl ?_
    refine XL_then ?_
    refine X_seq ?_
    refine X_cond rfl (fun h1 => ?_) (fun h1 => ?_)
    · try simp only [decide_eq_true_eq, decide_eq_false_iff_not, Bool.not_eq_true', Bool.not_eq_false', beq_iff_eq, bne_iff_ne, beq_eq_false_iff_ne, bne_eq_false_iff_eq, Int.not_lt, Int.not_le, gt_iff_lt, ge_iff_le, ne_eq] at h1
      obtain ⟨e, he⟩ : ∃ e, x.edges.l[i]? = some e := ⟨_, List.getElem?_eq_getElem (by omega)⟩
      refine X_skip ?_
      refine thenX_normal ?_
      refine X_seq ?_
      refine X_block ?_
      refine X_seq ?_
      refine X_region ?_
      refine XL_det .no (D_pure rfl) rfl ?_
      refine XL_det .no (D_idxSo rfl rfl slc_93 (x.edges).nil0 rfl (by omega) rfl) rfl ?_
      refine XL_det .no (D_els (enc := encE) (sz := 23) (i := i) (fun _ => rfl) rfl (by repeat first | with_reducible exact .here _ _ | with_reducible apply Out.there | with_reducible apply Out.app) hx.edges tk_100 he) rfl ?_
      refine XL_alloc .no zero_100 rfl (fun b1 => ?_)
      refine XL_det .no (D_pure rfl) rfl ?_
      refine XL_efd .no (F_stw rfl rfl rfl (by repeat first | with_reducible exact .here _ _ | with_reducible apply Out.there | with_reducible apply Out.app) tk_100 rfl rfl) ?_
      refine XL_then ?_
      refine X_seq ?_
      refine X_region ?_
      refine XL_det .no (D_fld rfl fld_100_0 (o' := 0) rfl) rfl ?_
      refine XL_det .no (D_ldo rfl (by repeat first | with_reducible exact .here _ _ | with_reducible apply Out.there | with_reducible apply Out.app) tk_3 (by rfl)) rfl ?_
      refine XL_det .no (D_ldo rfl (by repeat first | with_reducible exact .here _ _ | with_reducible apply Out.there | with_reducible apply Out.app) tk_3 (by rfl)) rfl ?_
      refine XL_det .no (D_pure rfl) rfl ?_
      refine XL_det .no (D_pure rfl) rfl ?_
      refine XL_split (t := 18) rfl (fun h2 => ?_) (fun h2 => ?_)
      · try simp only [decide_eq_true_eq, decide_eq_false_iff_not, Bool.not_eq_true', Bool.not_eq_false', beq_iff_eq, bne_iff_ne, beq_eq_false_iff_ne, bne_eq_false_iff_eq, Int.not_lt, Int.not_le, gt_iff_lt, ge_iff_le, ne_eq] at h2
        have hat := nxtI_at he h2
        have hyy := hy _ S1 (by rw [List.length_map]; exact (List.getElem?_eq_some_iff.1 hat).1) hJ
        rw [getD_map hat] at hyy
        refine XL_det (.yes 18 rfl rfl rfl) (D_pure rfl) rfl ?_
        refine XL_det (.yes 18 rfl rfl rfl) (D_fld rfl fld_100_1 (o' := 1) rfl) rfl ?_
        refine XL_det (.yes 18 rfl rfl rfl) (D_ldo rfl (by repeat first | with_reducible exact .here _ _ | with_reducible apply Out.there | with_reducible apply Out.app) tk_3 (by rfl)) rfl ?_
        refine XL_det (.yes 18 rfl rfl rfl) (D_pure rfl) rfl ?_
        refine XL_yield (own := [blk b1 (encE e) 100, blk bx [.int .i64 x.res, .slice x.tasks.oad x.tasks.l.length x.tasks.c, .slice x.modes.oad x.modes.l.length x.modes.c, .slice x.edges.oad x.edges.l.length x.edges.c] 95, blk bm [.int .i64 m] 3, K]) (Si := S1) (.yes 18 rfl rfl rfl) rfl rfl hyy rfl ?_
        rintro bb S2 hp
        simp only [List.cons_append, List.nil_append]
        refine XL_det (.yes 18 rfl rfl rfl) (D_pure rfl) rfl ?_
        refine XL_det .no (D_pure rfl) rfl ?_
        refine XL_then ?_
        refine X_cond rfl (fun h3 => ?_) (fun h3 => ?_)
        · try simp only [decide_eq_true_eq, decide_eq_false_iff_not, Bool.not_eq_true', Bool.not_eq_false', beq_iff_eq, bne_iff_ne, beq_eq_false_iff_ne, bne_eq_false_iff_eq, Int.not_lt, Int.not_le, gt_iff_lt, ge_iff_le, ne_eq] at h3
          refine X_ret ?_
          refine inBlk_ret ?_
          refine thenX_ret ?_
          refine loopQ_ret ?_
          refine inBlk_ret ?_
          refine ret_ok (.nil _) (res_none rfl) ?_
          obtain ⟨h, _⟩ | ⟨_, hp⟩ := hp
          · rw [h] at h3; cases h3
          exact ⟨blk bx [.int .i64 x.res, .slice x.tasks.oad x.tasks.l.length x.tasks.c, .slice x.modes.oad x.modes.l.length x.modes.c, .slice x.edges.oad x.edges.l.length x.edges.c] 95 :: blk bm [.int .i64 m] 3 :: K :: S2, ⟨S2, rfl, .inr ⟨_, by rw [List.length_map]; exact (List.getElem?_eq_some_iff.1 hat).1, hp⟩⟩, _, (by repeat first | with_reducible exact .nil _ | with_reducible exact .here _ _ | with_reducible exact Take.self _ | with_reducible apply Take.cons | with_reducible apply Out.there | with_reducible apply Take.skip | with_reducible exact Take.pre _ _ | with_reducible apply Out.app)⟩
        · try simp only [decide_eq_true_eq, decide_eq_false_iff_not, Bool.not_eq_true', Bool.not_eq_false', beq_iff_eq, bne_iff_ne, beq_eq_false_iff_ne, bne_eq_false_iff_eq, Int.not_lt, Int.not_le, gt_iff_lt, ge_iff_le, ne_eq] at h3
          obtain ⟨_, hp⟩ | ⟨h, _⟩ := hp
          rotate_left
          · rw [h] at h3; cases h3
          refine X_skip ?_
          refine inBlk_normal ?_
          refine thenX_normal ?_
          refine X_region ?_
          refine XL_det .no (D_add rfl rfl (by omega) (by omega)) rfl ?_
          refine XL_det .no (D_pure rfl) rfl ?_
          refine XL_nil ?_
          refine loopQ_next (i + 1, S2) ?_ ?_ ?_ ?_
          · (try dsimp only); exact ⟨by omega, by rw [nxtI_s he, if_pos h2, List.length_append]; exact hp⟩
          · (try dsimp only); omega
          · refine ⟨?_, ?_, ?_, ?_, ?_, ?_, trivial⟩ <;> rfl
          · (try dsimp only); exact ⟨_, (by repeat first | with_reducible exact .nil _ | with_reducible exact .here _ _ | with_reducible exact Take.self _ | with_reducible apply Take.cons | with_reducible apply Out.there | with_reducible apply Take.skip | with_reducible exact Take.pre _ _ | with_reducible apply Out.app)⟩
      · try simp only [decide_eq_true_eq, decide_eq_false_iff_not, Bool.not_eq_true', Bool.not_eq_false', beq_iff_eq, bne_iff_ne, beq_eq_false_iff_ne, bne_eq_false_iff_eq, Int.not_lt, Int.not_le, gt_iff_lt, ge_iff_le, ne_eq] at h2
        refine XL_skip 18 rfl rfl rfl rfl rfl ?_
        refine XL_skip 18 rfl rfl rfl rfl rfl ?_
        refine XL_skip 18 rfl rfl rfl rfl rfl ?_
        refine XL_skip 18 rfl rfl rfl rfl rfl ?_
        refine XL_skip 18 rfl rfl rfl rfl rfl ?_
        refine XL_skip 18 rfl rfl rfl rfl rfl ?_
        refine XL_det .no (D_pure rfl) rfl ?_
        refine XL_then ?_
        refine X_cond_f rfl rfl ?_
        refine X_skip ?_
        refine inBlk_normal ?_
        refine thenX_normal ?_
        refine X_region ?_
        refine XL_det .no (D_add rfl rfl (by omega) (by omega)) rfl ?_
        refine XL_det .no (D_pure rfl) rfl ?_
        refine XL_nil ?_
        refine loopQ_next (i + 1, S1) ?_ ?_ ?_ ?_
        · (try dsimp only); exact ⟨by omega, by rw [nxtI_s he, if_neg h2, List.append_nil]; exact hJ⟩
        · (try dsimp only); omega
        · refine ⟨?_, ?_, ?_, ?_, ?_, ?_, trivial⟩ <;> rfl
        · (try dsimp only); exact ⟨_, (by repeat first | with_reducible exact .nil _ | with_reducible exact .here _ _ | with_reducible exact Take.self _ | with_reducible apply Take.cons | with_reducible apply Out.there | with_reducible apply Take.skip | with_reducible exact Take.pre _ _ | with_reducible apply Out.app)⟩
    · try simp only [decide_eq_true_eq, decide_eq_false_iff_not, Bool.not_eq_true', Bool.not_eq_false', beq_iff_eq, bne_iff_ne, beq_eq_false_iff_ne, bne_eq_false_iff_eq, Int.not_lt, Int.not_le, gt_iff_lt, ge_iff_le, ne_eq] at h1
      refine X_exit ?_
      refine thenX_exit ?_
      refine loopQ_exit ?_
      refine inBlk_here ?_
      refine ret_okn (.nil _) (res_none rfl) ?_
      have hie : i = x.edges.l.length := by omega
      subst hie
      exact ⟨blk bx [.int .i64 x.res, .slice x.tasks.oad x.tasks.l.length x.tasks.c, .slice x.modes.oad x.modes.l.length x.modes.c, .slice x.edges.oad x.edges.l.length x.edges.c] 95 :: blk bm [.int .i64 m] 3 :: K :: S1, ⟨S1, rfl, .inl (by rw [List.length_map]; exact hJ)⟩, _, (by repeat first | with_reducible exact .nil _ | with_reducible exact .here _ _ | with_reducible exact Take.self _ | with_reducible apply Take.cons | with_reducible apply Out.there | with_reducible apply Take.skip | with_reducible exact Take.pre _ _ | with_reducible apply Out.app)⟩

theorem lnext (x : Img) (hx : x.In K) (hne : x.edges.l.length ≤ 60) (m : Int) : Ctr Tryd.prog B 47 [x.v, .int .i64 m] [K] (fun v S => ∃ a : Arr Int, (a.l = nextL x m ∧ a.Own) ∧ v = a.v ∧ S = [row (.slice a.oad a.l.length a.c) 3 1 a.l.length (a.l.flatMap encI)] ++ [K]) := by
  refine Ctr_of_X (N := 23) Tryd.func47 rfl (by simp) rfl ?_
  intro w0 D0
  refine X_seq ?_
  refine X_region ?_
  refine XL_box (cs := [.int .i64 x.res, .slice x.tasks.oad x.tasks.l.length x.tasks.c, .slice x.modes.oad x.modes.l.length x.modes.c, .slice x.edges.oad x.edges.l.length x.edges.c]) .no rfl rfl rfl (fun b1 => ?_)
  refine XL_det .no (D_pure rfl) rfl ?_
  refine XL_then ?_
  refine X_seq ?_
  refine X_region ?_
  refine XL_alloc .no zero_41 rfl (fun b2 => ?_)
  refine XL_then ?_
  refine X_seq ?_
  refine X_seq ?_
  refine X_region ?_
  refine XL_det .no (D_ldso (vs := [.int .i64 x.res, .slice x.tasks.oad x.tasks.l.length x.tasks.c, .slice x.modes.oad x.modes.l.length x.modes.c, .slice x.edges.oad x.edges.l.length x.edges.c]) rfl (by repeat first | with_reducible exact .here _ _ | with_reducible apply Out.there | with_reducible apply Out.app) tk_95 rfl (by rfl)) rfl ?_
  refine XL_det .no (D_pure rfl) rfl ?_
  refine XL_call .no en_70 rfl (gNext x m) (by repeat first | with_reducible exact .nil _ | with_reducible exact .here _ _ | with_reducible exact Take.self _ | with_reducible apply Take.cons | with_reducible apply Out.there | with_reducible apply Take.skip | with_reducible exact Take.pre _ _ | with_reducible apply Out.app) rfl ?_
  rintro _ _ ⟨bx, bm, rfl, rfl⟩
  simp only [List.cons_append, List.nil_append]
  refine XL_det .no (D_pure rfl) rfl ?_
  refine XL_then ?_
  refine X_seq ?_
  refine X_region ?_
  refine XL_det .no (D_pure rfl) rfl ?_
  refine XL_det .no (D_nef rfl rfl fnt_115) rfl ?_
  refine XL_then ?_
  refine X_cond_t rfl rfl ?_
  refine X_seq ?_
  refine X_region ?_
  refine XL_det .no (D_pure rfl) rfl ?_
  refine XL_then ?_
  refine X_block ?_
  refine X_rowa encI 3 1 ?_
  refine X_range (own := [blk bx [.int .i64 x.res, .slice x.tasks.oad x.tasks.l.length x.tasks.c, .slice x.modes.oad x.modes.l.length x.modes.c, .slice x.edges.oad x.edges.l.length x.edges.c] 95, blk bm [.int .i64 m] 3, K]) (S1 := [blk b2 [.slice none 0 0] 41, row (.slice (Arr.emp : Arr Int).oad (Arr.emp : Arr Int).l.length (Arr.emp : Arr Int).c) 3 1 (Arr.emp : Arr Int).l.length ((Arr.emp : Arr Int).l.flatMap encI)]) rfl en_87 (nextItr bx bm x hx m) (fun i S => ∃ a : Arr Int, a.l = ((nxtA x m).take i).flatMap (fun p => [p.1, p.2]) ∧ a.Own ∧ S = [blk b2 [.slice a.oad a.l.length a.c] 41, row (.slice a.oad a.l.length a.c) 3 1 a.l.length (a.l.flatMap encI)]) (fun c i S => False) (show Take ([blk bx [.int .i64 x.res, .slice x.tasks.oad x.tasks.l.length x.tasks.c, .slice x.modes.oad x.modes.l.length x.modes.c, .slice x.edges.oad x.edges.l.length x.edges.c] 95, blk bm [.int .i64 m] 3, K, blk b2 [.slice none 0 0] 41, row (.slice (Arr.emp : Arr Int).oad (Arr.emp : Arr Int).l.length (Arr.emp : Arr Int).c) 3 1 (Arr.emp : Arr Int).l.length ((Arr.emp : Arr Int).l.flatMap encI)]) _ _ from (by repeat first | with_reducible exact .nil _ | with_reducible exact .here _ _ | with_reducible exact Take.self _ | with_reducible apply Take.cons | with_reducible apply Out.there | with_reducible apply Take.skip | with_reducible exact Take.pre _ _ | with_reducible apply Out.app)) (⟨Arr.emp, rfl, Arr.emp_own, rfl⟩) rfl (fun y hy => by obtain ⟨z, _, rfl⟩ := List.mem_map.1 hy; rfl) ?_ ?_ ?_
  · intro ly rec A2 i S2 hi hJ
    obtain ⟨a, ha, hao, rfl⟩ := hJ
    rw [List.length_map] at hi
    obtain ⟨p, hp⟩ : ∃ p, (nxtA x m)[i]? = some p := ⟨_, List.getElem?_eq_getElem hi⟩
    rw [getD_map hp]
    have hal : a.l.length ≤ 1000 := by have h1 : (nxtA x m).length ≤ x.edges.l.length := nxtI_len x.edges.l m x.edges.l.length; have h2 := nextL_len ((nxtA x m).take i); rw [ha, h2, List.length_take]; omega
    refine X_seq ?_
    refine X_region ?_
    refine XL_det .no (D_pure rfl) rfl ?_
    refine XL_then ?_
    refine X_region ?_
    refine XL_det .no (D_pure rfl) rfl ?_
    refine XL_nil ?_
    refine ⟨rfl, _, _, .cons (by repeat first | with_reducible exact .here _ _ | with_reducible apply Out.there | with_reducible apply Out.app) (Take.self _), fun rec2 => ?_⟩
    refine X_block ?_
    refine X_region ?_
    refine XL_det .no (D_ldo rfl (by repeat first | with_reducible exact .here _ _ | with_reducible apply Out.there | with_reducible apply Out.app) tk_41 (by rfl)) rfl ?_
    refine XL_det .no (D_pure rfl) rfl ?_
    refine XL_det .no (D_pure rfl) rfl ?_
    refine XL_bslice (cs := [.int .i64 p.1, .int .i64 p.2]) .no rfl slt_41 (by decide) (by decide) (by rfl) (by rfl) rfl rfl (fun b3 => ?_)
    refine XL_appl (enc := encI) (c := a) [p.1, p.2] (K := blk b3 [.int .i64 p.1, .int .i64 p.2] 3) .no rfl rfl rfl slt_41 (by repeat first | with_reducible exact .here _ _ | with_reducible apply Out.there | with_reducible apply Out.app) (by repeat first | with_reducible exact .here _ _ | with_reducible apply Out.there | with_reducible apply Out.app) (Rd_blk0) (fun _ => rfl) (fun _ => rfl) (by omega) (by omega) rfl (fun a3 ha3 ha3o => ?_)
    refine XL_efd .no (F_stl rfl rfl rfl (by repeat first | with_reducible exact .here _ _ | with_reducible apply Out.there | with_reducible apply Out.app) tk_41 (by repeat first | exact .zero _ _ _ | apply SetL.succ)) ?_
    refine XL_nil ?_
    refine inBlk_normal ?_
    exact ⟨[blk b2 [.slice a3.oad a3.l.length a3.c] 41, row (.slice a3.oad a3.l.length a3.c) 3 1 a3.l.length (a3.l.flatMap encI)], _, (by repeat first | with_reducible exact .nil _ | with_reducible exact .here _ _ | with_reducible exact Take.self _ | with_reducible apply Take.cons | with_reducible apply Out.there | with_reducible apply Take.skip | with_reducible exact Take.pre _ _ | with_reducible apply Out.app), ⟨a3, by rw [ha3, ha, List.take_add_one, hp, List.flatMap_append]; rfl, ha3o, rfl⟩⟩
  · intro dd0 S2 hJ
    obtain ⟨a, ha, hao, rfl⟩ := hJ
    rw [List.length_map, List.take_length] at ha
    simp only [List.cons_append, List.nil_append]
    refine inBlk_normal ?_
    refine thenX_normal ?_
    refine X_seq ?_
    refine X_region ?_
    refine XL_det .no (D_ldo rfl (by repeat first | with_reducible exact .here _ _ | with_reducible apply Out.there | with_reducible apply Out.app) tk_41 (by rfl)) rfl ?_
    refine XL_det .no (D_pure rfl) rfl ?_
    refine XL_then ?_
    refine X_ret ?_
    refine ret_ok (show Take [dfr dd0] _ _ from (by repeat first | with_reducible exact .nil _ | with_reducible exact .here _ _ | with_reducible exact Take.self _ | with_reducible apply Take.cons | with_reducible apply Out.there | with_reducible apply Take.skip | with_reducible exact Take.pre _ _ | with_reducible apply Out.app)) (res_tmp rfl rfl) ?_
    exact ⟨[row (.slice a.oad a.l.length a.c) 3 1 a.l.length (a.l.flatMap encI), K], ⟨a, ⟨ha, hao⟩, rfl, rfl⟩, _, (by repeat first | with_reducible exact .nil _ | with_reducible exact .here _ _ | with_reducible exact Take.self _ | with_reducible apply Take.cons | with_reducible apply Out.there | with_reducible apply Take.skip | with_reducible exact Take.pre _ _ | with_reducible apply Out.app)⟩
  · intro dd0 c i S2 hi h
    exact h.elim

end Go.Proofs.YtdimcgedcndndaaDoor
end

section
namespace Go.Proofs.YtdimcgedcndndaaDoor
open Go Go.Sl
set_option linter.unusedVariables false
set_option linter.unusedSimpArgs false
set_option maxRecDepth 4000
variable {B : Nat} {K : Asrt B}
theorem en_71 : Go.Proofs.Enters Tryd.prog 71 := Go.Proofs.enters_of Tryd.func71 (by kernel_rfl) rfl
theorem en_72 : Go.Proofs.Enters Tryd.prog 72 := Go.Proofs.enters_of Tryd.func72 (by kernel_rfl) rfl
theorem en_88 : Go.Proofs.Enters Tryd.prog 88 := Go.Proofs.enters_of Tryd.func88 (by kernel_rfl) rfl
theorem zero_25 : zeroOf Tryd.prog 25 = some [.int .u32 0] := by kernel_rfl

theorem mem_setOf {n : Nat} {p : Nat → Bool} {x : Int} : x ∈ setOf n p ↔ ∃ i : Nat, i < n ∧ p i = true ∧ x = i := by
  unfold setOf; rw [List.mem_map]
  constructor
  · rintro ⟨i, hi, rfl⟩; have := List.mem_filter.1 hi; exact ⟨i, List.mem_range.1 this.1, this.2, rfl⟩
  · rintro ⟨i, h1, h2, rfl⟩; exact ⟨i, List.mem_filter.2 ⟨List.mem_range.2 h1, h2⟩, rfl⟩
theorem hasB_setOf {n : Nat} {p : Nat → Bool} {i : Nat} (hi : i < 32) : hasB (ofI (setOf n p)) i = (decide (i < n) && p i) := by
  rw [hasB_ofI _ _ hi, Bool.eq_iff_iff, decide_eq_true_eq, mem_setOf, Bool.and_eq_true, decide_eq_true_eq]
  constructor
  · rintro ⟨j, h1, h2, h3⟩
    have : i = j := by omega
    subst this; exact ⟨h1, h2⟩
  · rintro ⟨h1, h2⟩; exact ⟨i, h1, h2, rfl⟩
theorem reach_out {x : Img} {f : Int} (h : ¬ (0 ≤ f ∧ f < x.modes.l.length)) : reachS x f = 0#32 := hasB_ext fun i hi => by
  rw [hasB_setOf hi]; unfold stepsG; rw [if_neg h]
  rw [decide_eq_false (show ¬ (0 : Int) ≤ -1 by omega), Bool.and_false]
  simp [hasB]
/-- What both sets hold behind j rounds. -/
structure RInv (E : List Edg) (n F j : Nat) (al fr : BitVec 32) : Prop where
  a : ∀ i : Nat, i < 32 → hasB al i = decide (i < n ∧ 0 ≤ stg E F j i)
  b : ∀ i : Nat, i < 32 → hasB fr i = decide (i < n ∧ stg E F j i = j)
theorem rinv0 (E : List Edg) {n F : Nat} (hF : F < n) : RInv E n F 0 (ofI [(F : Int)]) (ofI [(F : Int)]) := by
  have h : ∀ i : Nat, i < 32 → hasB (ofI [(F : Int)]) i = decide (i = F) := fun i hi => by
    rw [hasB_ofI _ _ hi, Bool.eq_iff_iff]; simp only [List.mem_singleton, decide_eq_true_eq]; omega
  constructor
  · intro i hi
    rw [h i hi, Bool.eq_iff_iff, decide_eq_true_eq, decide_eq_true_eq]
    have h0 := stg_zero E F 0 i; have h1 := stg_le E F 0 i
    constructor
    · rintro rfl; exact ⟨hF, by omega⟩
    · rintro ⟨_, h2⟩; exact h0.1 (by omega)
  · intro i hi
    rw [h i hi, Bool.eq_iff_iff, decide_eq_true_eq, decide_eq_true_eq]
    have h0 := stg_zero E F 0 i
    constructor
    · rintro rfl; exact ⟨hF, h0.2 rfl⟩
    · rintro ⟨_, h2⟩; exact h0.1 h2
abbrev foundS (E : List Edg) (fr : BitVec 32) : BitVec 32 := orL ((listI fr).flatMap (nxt E))
theorem rinv_found {E : List Edg} {n F j : Nat} {al fr : BitVec 32} (hE : EOk n E) (hn : n ≤ 8) (h : RInv E n F j al fr) {i : Nat} (hi : i < 32) : hasB (foundS E fr) i = comes (stg E F j) j E i := by
  unfold foundS
  rw [orL_eq, hasB_ofI _ _ hi, Bool.eq_iff_iff, decide_eq_true_eq]
  unfold comes
  rw [List.any_eq_true, List.mem_flatMap]
  constructor
  · rintro ⟨m, hm, ht⟩
    obtain ⟨h0, h1, h2⟩ := mem_listN.1 hm
    obtain ⟨e, he, g1, g2⟩ := mem_nxt.1 ht
    have hb := h.b m.toNat (by omega)
    rw [show ((m.toNat : Nat) : Int) = m by omega, h2] at hb
    have hb := of_decide_eq_true hb.symm
    refine ⟨e, he, ?_⟩
    rw [g1, decide_eq_true hb.2, g2]; simp
  · rintro ⟨e, he, h2⟩
    simp only [Bool.and_eq_true, decide_eq_true_eq] at h2
    have hr := hE e he
    refine ⟨e 0, mem_listN.2 ⟨by omega, by omega, ?_⟩, mem_nxt.2 ⟨e, he, rfl, by omega⟩⟩
    have hb := h.b (e 0).toNat (by omega)
    rw [show (((e 0).toNat : Nat) : Int) = e 0 by omega] at hb
    rw [hb]; exact decide_eq_true ⟨by omega, h2.1⟩
theorem comes_lt {E : List Edg} {n : Nat} (hE : EOk n E) {g : Nat → Int} {k : Int} {i : Nat} (h : comes g k E i = true) : i < n := by
  unfold comes at h; rw [List.any_eq_true] at h
  obtain ⟨e, he, h2⟩ := h
  simp only [Bool.and_eq_true, decide_eq_true_eq] at h2
  have := hE e he; omega
theorem rinv_s {E : List Edg} {n F j : Nat} {al fr : BitVec 32} (hE : EOk n E) (hn : n ≤ 8) (h : RInv E n F j al fr) : RInv E n F (j + 1) (al ||| (foundS E fr &&& ~~~al)) (foundS E fr &&& ~~~al) := by
  have hfr : ∀ i : Nat, i < 32 → hasB (foundS E fr &&& ~~~al) i = decide (i < n ∧ stg E F (j + 1) i = ((j + 1 : Nat) : Int)) := fun i hi => by
    rw [hasB_andnot, rinv_found hE hn h hi, h.a i hi, Bool.eq_iff_iff, decide_eq_true_eq, stg_s]
    have hle := stg_le E F j i
    constructor
    · intro hc
      simp only [Bool.and_eq_true, Bool.not_eq_true', decide_eq_false_iff_not] at hc
      have hin := comes_lt hE hc.1
      have : ¬ 0 ≤ stg E F j i := fun h0 => hc.2 ⟨hin, h0⟩
      exact ⟨hin, by rw [if_neg this, if_pos hc.1]; omega⟩
    · rintro ⟨hin, h2⟩
      split at h2
      · omega
      · split at h2
        · rename_i h3 h4
          simp only [h4, Bool.true_and, Bool.not_eq_true', decide_eq_false_iff_not]
          exact fun c => h3 c.2
        · omega
  refine ⟨fun i hi => ?_, hfr⟩
  rw [hasB_or, hfr i hi, h.a i hi, Bool.eq_iff_iff, Bool.or_eq_true, decide_eq_true_eq, decide_eq_true_eq, decide_eq_true_eq, stg_s]
  have hle := stg_le E F j i
  constructor
  · rintro (⟨h1, h2⟩ | ⟨h1, h2⟩)
    · exact ⟨h1, by rw [if_pos h2]; exact h2⟩
    · exact ⟨h1, by omega⟩
  · rintro ⟨h1, h2⟩
    by_cases h0 : 0 ≤ stg E F j i
    · exact .inl ⟨h1, h0⟩
    · rw [if_neg h0] at h2 ⊢
      split at h2
      · rename_i hc; exact .inr ⟨h1, by rw [if_pos hc]; omega⟩
      · omega
abbrev rmeas (E : List Edg) (n F j : Nat) (fr : BitVec 32) : Nat := 2 * (n - cntS E F n j) + (if fr = 0#32 then 0 else 1)
theorem rinv_m {E : List Edg} {n F j : Nat} {fr al' fr' : BitVec 32} (hn : n ≤ 8) (h' : RInv E n F (j + 1) al' fr') (h0 : fr ≠ 0#32) : rmeas E n F (j + 1) fr' < rmeas E n F j fr := by
  unfold rmeas
  have h1 := cntS_s E F n j; have h2 := cntS_le E F n (j + 1)
  rw [if_neg h0]
  by_cases hz : fr' = 0#32
  · rw [if_pos hz]; have := h1.1; omega
  · rw [if_neg hz]
    obtain ⟨g1, g2, _⟩ := least_spec hz
    have hb := h'.b _ g1
    rw [g2] at hb
    have hb := of_decide_eq_true hb.symm
    have := h1.2 ⟨leastN fr', hb.1, by omega⟩
    omega
theorem rinv_end {x : Img} (hr : GOk x) {f : Int} (hf : 0 ≤ f ∧ f < x.modes.l.length) {j : Nat} {al : BitVec 32} (h : RInv x.edges.l x.modes.l.length f.toNat j al 0#32) : al = reachS x f := hasB_ext fun i hi => by
  rw [h.a i hi, hasB_setOf hi]; unfold stepsG; rw [if_pos hf, Bool.eq_iff_iff, Bool.and_eq_true, decide_eq_true_eq, decide_eq_true_eq, decide_eq_true_eq]
  have hnm := hr.nm
  have hno : ∀ i, i < x.modes.l.length → stg x.edges.l f.toNat j i ≠ j := fun i hi' hc => by
    have hb := h.b i (by omega)
    rw [show hasB 0#32 (i : Int) = false by simp [hasB]] at hb
    exact absurd ⟨hi', hc⟩ (of_decide_eq_false hb.symm)
  have key : ∀ i, i < x.modes.l.length → stg x.edges.l f.toNat j i = stg x.edges.l f.toNat x.modes.l.length i := fun i hi' => by
    rcases Nat.lt_or_ge x.modes.l.length j with h' | h'
    · exact stg_end (eok hr) (by omega) hi' j (by omega)
    · exact ((stg_stop (eok hr) hno _ h' i hi').1).symm
  constructor
  · rintro ⟨h1, h2⟩; exact ⟨h1, by rw [← key i h1]; exact h2⟩
  · rintro ⟨h1, h2⟩; exact ⟨h1, by rw [key i h1]; exact h2⟩
theorem fold_take {E : List Edg} {fr : BitVec 32} {i : Nat} {m : Int} (h : (listI fr)[i]? = some m) : ((listI fr).take (i + 1)).flatMap (nxt E) = ((listI fr).take i).flatMap (nxt E) ++ nxt E m := by
  rw [List.take_add_one, h, List.flatMap_append]; simp

theorem greach (x : Img) (hx : x.In K) (hr : GOk x) (f : Int) {Kt : Asrt B} (hK : Rd Kt ⟨0, 0, none⟩ (tab32.map fun m => .int .u8 m)) : Ctr Tryd.prog B 48 [x.v, .int .i64 f] [K, Kt] (fun v S => v = .int .u32 (reachS x f).toNat ∧ S = [K, Kt]) := by
  refine Ctr_of_X (N := 45) Tryd.func48 rfl (by simp) rfl ?_
  intro w0 D0
  have hnm := hr.nm
  refine X_seq ?_
  refine X_region ?_
  refine XL_box (cs := [.int .i64 x.res, .slice x.tasks.oad x.tasks.l.length x.tasks.c, .slice x.modes.oad x.modes.l.length x.modes.c, .slice x.edges.oad x.edges.l.length x.edges.c]) .no rfl rfl rfl (fun b1 => ?_)
  refine XL_det .no (D_pure rfl) rfl ?_
  refine XL_then ?_
  refine X_seq ?_
  refine X_seq ?_
  refine X_region ?_
  refine XL_det .no (D_pure rfl) rfl ?_
  refine XL_det .no (D_pure rfl) rfl ?_
  refine XL_det .no (D_pure rfl) rfl ?_
  refine XL_split (t := 12) rfl (fun h1 => ?_) (fun h1 => ?_)
  · try simp only [decide_eq_true_eq, decide_eq_false_iff_not, Bool.not_eq_true', Bool.not_eq_false', beq_iff_eq, bne_iff_ne, beq_eq_false_iff_ne, bne_eq_false_iff_eq, Int.not_lt, Int.not_le, gt_iff_lt, ge_iff_le, ne_eq] at h1
    refine XL_skip 12 rfl rfl rfl rfl rfl ?_
    refine XL_skip 12 rfl rfl rfl rfl rfl ?_
    refine XL_skip 12 rfl rfl rfl rfl rfl ?_
    refine XL_skip 12 rfl rfl rfl rfl rfl ?_
    refine XL_skip 12 rfl rfl rfl rfl rfl ?_
    refine XL_det .no (D_pure rfl) rfl ?_
    refine XL_then ?_
    refine X_cond_t rfl rfl ?_
    refine X_seq ?_
    refine X_region ?_
    refine XL_det .no (D_pure rfl) rfl ?_
    refine XL_then ?_
    refine X_ret ?_
    refine thenX_ret ?_
    refine ret_ok (.nil _) (res_tmp rfl rfl) ?_
    exact ⟨_, ⟨by rw [reach_out (by omega)]; rfl, rfl⟩, _, (by repeat first | with_reducible exact .nil _ | with_reducible exact .here _ _ | with_reducible exact Take.self _ | with_reducible apply Take.cons | with_reducible apply Out.there | with_reducible apply Take.skip | with_reducible exact Take.pre _ _ | with_reducible apply Out.app)⟩
  · try simp only [decide_eq_true_eq, decide_eq_false_iff_not, Bool.not_eq_true', Bool.not_eq_false', beq_iff_eq, bne_iff_ne, beq_eq_false_iff_ne, bne_eq_false_iff_eq, Int.not_lt, Int.not_le, gt_iff_lt, ge_iff_le, ne_eq] at h1
    refine XL_det (.yes 12 rfl rfl rfl) (D_pure rfl) rfl ?_
    refine XL_det (.yes 12 rfl rfl rfl) (D_fld rfl fld_95_2 (o' := 2) rfl) rfl ?_
    refine XL_det (.yes 12 rfl rfl rfl) (D_ldo rfl (by repeat first | with_reducible exact .here _ _ | with_reducible apply Out.there | with_reducible apply Out.app) tk_92 (by rfl)) rfl ?_
    refine XL_det (.yes 12 rfl rfl rfl) (D_len rfl rfl slc_92) rfl ?_
    refine XL_det (.yes 12 rfl rfl rfl) (D_pure rfl) rfl ?_
    refine XL_det .no (D_pure rfl) rfl ?_
    refine XL_then ?_
    refine X_cond rfl (fun h2 => ?_) (fun h2 => ?_)
    · try simp only [decide_eq_true_eq, decide_eq_false_iff_not, Bool.not_eq_true', Bool.not_eq_false', beq_iff_eq, bne_iff_ne, beq_eq_false_iff_ne, bne_eq_false_iff_eq, Int.not_lt, Int.not_le, gt_iff_lt, ge_iff_le, ne_eq] at h2
      refine X_seq ?_
      refine X_region ?_
      refine XL_det .no (D_pure rfl) rfl ?_
      refine XL_then ?_
      refine X_ret ?_
      refine thenX_ret ?_
      refine ret_ok (.nil _) (res_tmp rfl rfl) ?_
      exact ⟨_, ⟨by rw [reach_out (by omega)]; rfl, rfl⟩, _, (by repeat first | with_reducible exact .nil _ | with_reducible exact .here _ _ | with_reducible exact Take.self _ | with_reducible apply Take.cons | with_reducible apply Out.there | with_reducible apply Take.skip | with_reducible exact Take.pre _ _ | with_reducible apply Out.app)⟩
    · try simp only [decide_eq_true_eq, decide_eq_false_iff_not, Bool.not_eq_true', Bool.not_eq_false', beq_iff_eq, bne_iff_ne, beq_eq_false_iff_ne, bne_eq_false_iff_eq, Int.not_lt, Int.not_le, gt_iff_lt, ge_iff_le, ne_eq] at h2
      refine X_skip ?_
      refine thenX_normal ?_
      refine X_seq ?_
      refine X_region ?_
      refine XL_det .no (D_pure rfl) rfl ?_
      refine XL_bslice (cs := [.int .i64 f]) .no rfl slt_41 (by decide) (by decide) (by rfl) (by rfl) rfl rfl (fun b2 => ?_)
      refine XL_callk .no en_71 rfl (mOf (K := blk b2 [.int .i64 f] 3) (Arr.lit b2 [f] (by simp)) Rd_blk0) (by repeat first | with_reducible exact .nil _ | with_reducible exact .here _ _ | with_reducible exact Take.self _ | with_reducible apply Take.cons | with_reducible apply Out.there | with_reducible apply Take.skip | with_reducible exact Take.pre _ _ | with_reducible apply Out.app) rfl ?_
      refine XL_det .no (D_pure rfl) rfl ?_
      refine XL_bslice (cs := [.int .i64 f]) .no rfl slt_41 (by decide) (by decide) (by rfl) (by rfl) rfl rfl (fun b3 => ?_)
      refine XL_callk .no en_71 rfl (mOf (K := blk b3 [.int .i64 f] 3) (Arr.lit b3 [f] (by simp)) Rd_blk0) (by repeat first | with_reducible exact .nil _ | with_reducible exact .here _ _ | with_reducible exact Take.self _ | with_reducible apply Take.cons | with_reducible apply Out.there | with_reducible apply Take.skip | with_reducible exact Take.pre _ _ | with_reducible apply Out.app) rfl ?_
      refine XL_det .no (D_pure rfl) rfl ?_
      refine XL_det .no (D_pure rfl) rfl ?_
      refine XL_then ?_
      refine X_seq ?_
      refine X_block ?_
      refine X_dfrs_nil ?_
      refine X_loopd (α := BitVec 32 × BitVec 32 × Nat × List Nat) (fun ⟨al, fr, j, dl⟩ => RInv x.edges.l x.modes.l.length f.toNat j al fr) (fun ⟨al, fr, j, dl⟩ => dl) (fun ⟨al, fr, j, dl⟩ => [(5, .int .u32 al.toNat), (6, .int .u32 fr.toNat), (2, .pointer (some ⟨b1, 0, none⟩))]) (fun ⟨al, fr, j, dl⟩ => [blk b1 [.int .i64 x.res, .slice x.tasks.oad x.tasks.l.length x.tasks.c, .slice x.modes.oad x.modes.l.length x.modes.c, .slice x.edges.oad x.edges.l.length x.edges.c] 95, dfrs dl, K, Kt]) (fun ⟨al, fr, j, dl⟩ => rmeas x.edges.l x.modes.l.length f.toNat j fr) (ofI [f], ofI [f], 0, []) ?_ rfl (by refine ⟨?_, ?_, ?_, trivial⟩ <;> rfl) (by repeat first | with_reducible exact .nil _ | with_reducible exact .here _ _ | with_reducible exact Take.self _ | with_reducible apply Take.cons | with_reducible apply Out.there | with_reducible apply Take.skip | with_reducible exact Take.pre _ _ | with_reducible apply Out.app) ?_
      · have := rinv0 x.edges.l (n := x.modes.l.length) (F := f.toNat) (by omega); rw [show ((f.toNat : Nat) : Int) = f by omega] at this; exact this
      · rintro ⟨al, fr, j, dl⟩ hri
        dsimp only
        refine X_seq ?_
        refine X_seq ?_
        refine X_region ?_
        refine XL_det .no (D_pure rfl) rfl ?_
        refine XL_det .no (D_pure rfl) rfl ?_
        refine XL_then ?_
        refine X_cond rfl (fun h3 => ?_) (fun h3 => ?_)
        · try simp only [decide_eq_true_eq, decide_eq_false_iff_not, Bool.not_eq_true', Bool.not_eq_false', beq_iff_eq, bne_iff_ne, beq_eq_false_iff_ne, bne_eq_false_iff_eq, Int.not_lt, Int.not_le, gt_iff_lt, ge_iff_le, ne_eq] at h3
          refine X_skip ?_
          refine thenX_normal ?_
          refine X_block ?_
          refine X_seq ?_
          refine X_region ?_
          refine XL_alloc .no zero_25 rfl (fun b4 => ?_)
          refine XL_efd .no (F_stl rfl rfl rfl (by repeat first | with_reducible exact .here _ _ | with_reducible apply Out.there | with_reducible apply Out.app) tk_25 (by repeat first | exact .zero _ _ _ | apply SetL.succ)) ?_
          refine XL_then ?_
          refine X_seq ?_
          refine X_seq ?_
          refine X_region ?_
          refine XL_det .no (D_pure rfl) rfl ?_
          refine XL_call .no en_72 rfl (mAll fr) (by repeat first | with_reducible exact .nil _ | with_reducible exact .here _ _ | with_reducible exact Take.self _ | with_reducible apply Take.cons | with_reducible apply Out.there | with_reducible apply Take.skip | with_reducible exact Take.pre _ _ | with_reducible apply Out.app) rfl ?_
          rintro _ _ ⟨bA, rfl, rfl⟩
          simp only [List.cons_append, List.nil_append]
          refine XL_then ?_
          refine X_block ?_
          refine X_conv ?_
          rw [show (blk b4 [.int .u32 0] 25 : Asrt B) = blk b4 [.int .u32 (orL (((listI fr).take 0).flatMap (nxt x.edges.l))).toNat] 25 from rfl]
          refine X_range (own := [blk bA [.int .u32 fr.toNat] 25, Kt]) (S1 := [blk b1 [.int .i64 x.res, .slice x.tasks.oad x.tasks.l.length x.tasks.c, .slice x.modes.oad x.modes.l.length x.modes.c, .slice x.edges.oad x.edges.l.length x.edges.c] 95, K, blk b4 [.int .u32 (orL (((listI fr).take 0).flatMap (nxt x.edges.l))).toNat] 25]) rfl en_88 (allItr (K := Kt) bA fr hK) (fun i S => True ∧ S = [blk b1 [.int .i64 x.res, .slice x.tasks.oad x.tasks.l.length x.tasks.c, .slice x.modes.oad x.modes.l.length x.modes.c, .slice x.edges.oad x.edges.l.length x.edges.c] 95, K, blk b4 [.int .u32 (orL (((listI fr).take i).flatMap (nxt x.edges.l))).toNat] 25]) (fun c i S => False) (show Take ([blk bA [.int .u32 fr.toNat] 25, Kt, blk b1 [.int .i64 x.res, .slice x.tasks.oad x.tasks.l.length x.tasks.c, .slice x.modes.oad x.modes.l.length x.modes.c, .slice x.edges.oad x.edges.l.length x.edges.c] 95, K, blk b4 [.int .u32 (orL (((listI fr).take 0).flatMap (nxt x.edges.l))).toNat] 25]) _ _ from (by repeat first | with_reducible exact .nil _ | with_reducible exact .here _ _ | with_reducible exact Take.self _ | with_reducible apply Take.cons | with_reducible apply Out.there | with_reducible apply Take.skip | with_reducible exact Take.pre _ _ | with_reducible apply Out.app)) (⟨trivial, rfl⟩) rfl (fun y hy => by obtain ⟨z, _, rfl⟩ := List.mem_map.1 hy; rfl) ?_ ?_ ?_
          · intro ly rec A2 i S2 hi hJ
            obtain ⟨_, rfl⟩ := hJ
            rw [List.length_map] at hi
            obtain ⟨m, hm⟩ : ∃ m, (listI fr)[i]? = some m := ⟨_, List.getElem?_eq_getElem hi⟩
            rw [getD_map hm]
            refine X_region ?_
            refine XL_det .no (D_pure rfl) rfl ?_
            refine XL_nil ?_
            refine ⟨rfl, _, _, .cons (by repeat first | with_reducible exact .here _ _ | with_reducible apply Out.there | with_reducible apply Out.app) (Take.self _), fun rec2 => ?_⟩
            refine X_block ?_
            refine X_seq ?_
            refine X_region ?_
            refine XL_det .no (D_ldso (vs := [.int .i64 x.res, .slice x.tasks.oad x.tasks.l.length x.tasks.c, .slice x.modes.oad x.modes.l.length x.modes.c, .slice x.edges.oad x.edges.l.length x.edges.c]) rfl (by repeat first | with_reducible exact .here _ _ | with_reducible apply Out.there | with_reducible apply Out.app) tk_95 rfl (by rfl)) rfl ?_
            refine XL_det .no (D_pure rfl) rfl ?_
            refine XL_call .no en_70 rfl (gNext x m) (by repeat first | with_reducible exact .nil _ | with_reducible exact .here _ _ | with_reducible exact Take.self _ | with_reducible apply Take.cons | with_reducible apply Out.there | with_reducible apply Take.skip | with_reducible exact Take.pre _ _ | with_reducible apply Out.app) rfl ?_
            rintro _ _ ⟨bx, bm, rfl, rfl⟩
            simp only [List.cons_append, List.nil_append]
            refine XL_then ?_
            refine X_block ?_
            rw [show (((listI fr).take i).flatMap (nxt x.edges.l)) = ((((listI fr).take i).flatMap (nxt x.edges.l)) ++ ((nxtA x m).take 0).map (·.1)) from (List.append_nil _).symm]
            refine X_rangeN (own := [blk bx [.int .i64 x.res, .slice x.tasks.oad x.tasks.l.length x.tasks.c, .slice x.modes.oad x.modes.l.length x.modes.c, .slice x.edges.oad x.edges.l.length x.edges.c] 95, blk bm [.int .i64 m] 3, K]) (S1 := [blk b4 [.int .u32 (orL ((((listI fr).take i).flatMap (nxt x.edges.l)) ++ ((nxtA x m).take 0).map (·.1))).toNat] 25]) (by repeat first | with_reducible exact .here _ _ | with_reducible apply Out.there | with_reducible apply Out.app) rfl en_87 (nextItr bx bm x hx m) (fun k S => S = [blk b4 [.int .u32 (orL ((((listI fr).take i).flatMap (nxt x.edges.l)) ++ ((nxtA x m).take k).map (·.1))).toNat] 25]) (fun c k S => False) (show Take ([blk bx [.int .i64 x.res, .slice x.tasks.oad x.tasks.l.length x.tasks.c, .slice x.modes.oad x.modes.l.length x.modes.c, .slice x.edges.oad x.edges.l.length x.edges.c] 95, blk bm [.int .i64 m] 3, K, blk b4 [.int .u32 (orL ((((listI fr).take i).flatMap (nxt x.edges.l)) ++ ((nxtA x m).take 0).map (·.1))).toNat] 25]) _ _ from (by repeat first | with_reducible exact .nil _ | with_reducible exact .here _ _ | with_reducible exact Take.self _ | with_reducible apply Take.cons | with_reducible apply Out.there | with_reducible apply Take.skip | with_reducible exact Take.pre _ _ | with_reducible apply Out.app)) (rfl) rfl (fun y hy => by obtain ⟨z, _, rfl⟩ := List.mem_map.1 hy; rfl) ?_ ?_ ?_
            · intro lz rec3 A3 k S3 hk3 hJ
              obtain rfl := hJ
              rw [List.length_map] at hk3
              obtain ⟨p, hp⟩ : ∃ p, (nxtA x m)[k]? = some p := ⟨_, List.getElem?_eq_getElem hk3⟩
              rw [getD_map hp]
              refine X_region ?_
              refine XL_det .no (D_pure rfl) rfl ?_
              refine XL_nil ?_
              refine ⟨rfl, _, _, .cons (by repeat first | with_reducible exact .here _ _ | with_reducible apply Out.there | with_reducible apply Out.app) (Take.self _), fun rec2 => ?_⟩
              refine X_block ?_
              refine X_region ?_
              refine XL_det .no (D_ldo rfl (by repeat first | with_reducible exact .here _ _ | with_reducible apply Out.there | with_reducible apply Out.app) tk_25 (by rfl)) rfl ?_
              refine XL_det .no (D_pure rfl) rfl ?_
              refine XL_callv .no en_57 rfl (mWith _ p.1) rfl ?_
              refine XL_efd .no (F_stl rfl rfl rfl (by repeat first | with_reducible exact .here _ _ | with_reducible apply Out.there | with_reducible apply Out.app) tk_25 (by repeat first | exact .zero _ _ _ | apply SetL.succ)) ?_
              refine XL_nil ?_
              refine inBlk_normal ?_
              rw [show orL ((((listI fr).take i).flatMap (nxt x.edges.l)) ++ ((nxtA x m).take k).map (·.1)) ||| bitv p.1 = orL ((((listI fr).take i).flatMap (nxt x.edges.l)) ++ ((nxtA x m).take (k + 1)).map (·.1)) from by rw [← orL_s, List.append_assoc]; congr 2; rw [List.take_add_one, hp, List.map_append]; rfl]
              exact ⟨[blk b4 [.int .u32 (orL ((((listI fr).take i).flatMap (nxt x.edges.l)) ++ ((nxtA x m).take (k + 1)).map (·.1))).toNat] 25], _, (by repeat first | with_reducible exact .nil _ | with_reducible exact .here _ _ | with_reducible exact Take.self _ | with_reducible apply Take.cons | with_reducible apply Out.there | with_reducible apply Take.skip | with_reducible exact Take.pre _ _ | with_reducible apply Out.app), rfl⟩
            · intro S2 hJ
              obtain rfl := hJ
              rw [List.length_map, List.take_length, nxtI_all, ← fold_take hm]
              simp only [List.cons_append, List.nil_append]
              refine inBlk_normal ?_
              refine inBlk_normal ?_
              exact ⟨[blk b1 [.int .i64 x.res, .slice x.tasks.oad x.tasks.l.length x.tasks.c, .slice x.modes.oad x.modes.l.length x.modes.c, .slice x.edges.oad x.edges.l.length x.edges.c] 95, K, blk b4 [.int .u32 (orL (((listI fr).take (i + 1)).flatMap (nxt x.edges.l))).toNat] 25], _, (by repeat first | with_reducible exact .nil _ | with_reducible exact .here _ _ | with_reducible exact Take.self _ | with_reducible apply Take.cons | with_reducible apply Out.there | with_reducible apply Take.skip | with_reducible exact Take.pre _ _ | with_reducible apply Out.app), ⟨trivial, rfl⟩⟩
            · intro c i S2 hi h
              exact h.elim
          · intro dd0 S2 hJ
            obtain ⟨_, rfl⟩ := hJ
            rw [List.length_map, List.take_length]
            simp only [List.cons_append, List.nil_append]
            refine ⟨_, fun w hw => St.dfrs_cons (by repeat first | with_reducible exact .nil _ | with_reducible exact .here _ _ | with_reducible exact Take.self _ | with_reducible apply Take.cons | with_reducible apply Out.there | with_reducible apply Take.skip | with_reducible exact Take.pre _ _ | with_reducible apply Out.app) hw, ?_⟩
            refine inBlk_normal ?_
            refine thenX_normal ?_
            refine X_seq ?_
            refine X_region ?_
            refine XL_det .no (D_ldo rfl (by repeat first | with_reducible exact .here _ _ | with_reducible apply Out.there | with_reducible apply Out.app) tk_25 (by rfl)) rfl ?_
            refine XL_det .no (D_pure rfl) rfl ?_
            refine XL_det .no (D_bv rfl rfl (bvo _) (bvo _) rfl) rfl ?_
            refine XL_det .no (D_pure rfl) rfl ?_
            refine XL_then ?_
            refine X_region ?_
            refine XL_det .no (D_pure rfl) rfl ?_
            refine XL_det .no (D_pure rfl) rfl ?_
            refine XL_det .no (D_bv rfl rfl (bvo _) (bvo _) rfl) rfl ?_
            refine XL_det .no (D_pure rfl) rfl ?_
            refine XL_nil ?_
            refine inBlk_normal ?_
            refine loopQd_next (al ||| (foundS x.edges.l fr &&& ~~~al), foundS x.edges.l fr &&& ~~~al, j + 1, dd0 :: dl) rfl ?_ ?_ ?_ ?_
            · (try dsimp only); exact rinv_s (eok hr) (by omega) hri
            · (try dsimp only); exact rinv_m (by omega) (rinv_s (eok hr) (by omega) hri) (ne_zero_of h3)
            · refine ⟨?_, ?_, ?_, trivial⟩ <;> rfl
            · (try dsimp only); exact ⟨_, (by repeat first | with_reducible exact .nil _ | with_reducible exact .here _ _ | with_reducible exact Take.self _ | with_reducible apply Take.cons | with_reducible apply Out.there | with_reducible apply Take.skip | with_reducible exact Take.pre _ _ | with_reducible apply Out.app)⟩
          · intro dd0 c i S2 hi h
            exact h.elim
        · try simp only [decide_eq_true_eq, decide_eq_false_iff_not, Bool.not_eq_true', Bool.not_eq_false', beq_iff_eq, bne_iff_ne, beq_eq_false_iff_ne, bne_eq_false_iff_eq, Int.not_lt, Int.not_le, gt_iff_lt, ge_iff_le, ne_eq] at h3
          have hz := eq_zero_of h3
          subst hz
          refine X_undfrs (by repeat first | with_reducible exact .nil _ | with_reducible exact .here _ _ | with_reducible exact Take.self _ | with_reducible apply Take.cons | with_reducible apply Out.there | with_reducible apply Take.skip | with_reducible exact Take.pre _ _ | with_reducible apply Out.app) ?_
          refine X_exit ?_
          refine thenX_exit ?_
          refine loopQd_exit ?_
          refine inBlk_here ?_
          refine thenX_normal ?_
          refine X_seq ?_
          refine X_region ?_
          refine XL_det .no (D_pure rfl) rfl ?_
          refine XL_det .no (D_pure rfl) rfl ?_
          refine XL_then ?_
          refine X_ret ?_
          refine ret_ok (show Take (List.map dfr dl) _ _ from Take.pre _ _) (res_tmp rfl rfl) ?_
          exact ⟨_, ⟨by rw [rinv_end hr ⟨by omega, by omega⟩ hri], rfl⟩, _, (by repeat first | with_reducible exact .nil _ | with_reducible exact .here _ _ | with_reducible exact Take.self _ | with_reducible apply Take.cons | with_reducible apply Out.there | with_reducible apply Take.skip | with_reducible exact Take.pre _ _ | with_reducible apply Out.app)⟩

end Go.Proofs.YtdimcgedcndndaaDoor
end

section
namespace Go.Proofs.YtdimcgedcndndaaDoor
open Go Go.Sl
set_option linter.unusedVariables false
set_option linter.unusedSimpArgs false
set_option maxRecDepth 4000
variable {B : Nat} {K : Asrt B}
theorem en_48 : Go.Proofs.Enters Tryd.prog 48 := Go.Proofs.enters_of Tryd.func48 (by kernel_rfl) rfl
theorem en_74 : Go.Proofs.Enters Tryd.prog 74 := Go.Proofs.enters_of Tryd.func74 (by kernel_rfl) rfl

def roundB (x : Img) : Bool := (List.range x.modes.l.length).all fun m => decide ((listI (reachS x (m : Int))).length = x.modes.l.length)
theorem roundB_f {x : Img} {m : Nat} (hm : m < x.modes.l.length) (h : ¬ (listI (reachS x (m : Int))).length = x.modes.l.length) : roundB x = false := by
  unfold roundB
  rw [Bool.eq_false_iff]; intro hc
  rw [List.all_eq_true] at hc
  exact h (of_decide_eq_true (hc m (List.mem_range.2 hm)))
theorem roundB_t {x : Img} (h : ∀ m : Nat, m < x.modes.l.length → (listI (reachS x (m : Int))).length = x.modes.l.length) : roundB x = true := by
  unfold roundB; rw [List.all_eq_true]
  exact fun m hm => decide_eq_true (h m (List.mem_range.1 hm))
def deadP (x : Img) (m : Nat) : Bool := (nxt x.edges.l (m : Int)).isEmpty
theorem deadP_iff {x : Img} {m : Nat} : deadP x m = true ↔ (nxtA x (m : Int)).length = 0 := by
  unfold deadP
  rw [List.isEmpty_iff, ← nxtI_all, List.length_eq_zero_iff, List.map_eq_nil_iff]
abbrev deadL (x : Img) : List Int := setOf x.modes.l.length (deadP x)
theorem setOf_pre (p : Nat → Bool) {i j : Nat} (h : i ≤ j) : setOf i p <+: setOf j p := by
  induction j with
  | zero => have : i = 0 := by omega
            subst this; exact List.prefix_refl _
  | succ j ih =>
    rcases Nat.lt_or_ge j i with h' | h'
    · have : i = j + 1 := by omega
      subst this; exact List.prefix_refl _
    · refine (ih h').trans ?_
      rw [setOf_s]; exact List.prefix_append _ _
theorem setOf_at {n m : Nat} {p : Nat → Bool} (hm : m < n) (h : p m = true) : (setOf n p)[(setOf m p).length]? = some (m : Int) := by
  obtain ⟨r, hr⟩ := setOf_pre p (show m + 1 ≤ n by omega)
  rw [← hr, setOf_s, if_pos h, List.append_assoc, List.getElem?_append_right (Nat.le_refl _), Nat.sub_self]; rfl

theorem ground (x : Img) (hx : x.In K) (hr : GOk x) {Kt : Asrt B} (hK : Rd Kt ⟨0, 0, none⟩ (tab32.map fun m => .int .u8 m)) : Ctr Tryd.prog B 51 [x.v] [K, Kt] (fun v S => v = .bool (roundB x) ∧ S = [K, Kt]) := by
  refine Ctr_of_X (N := 19) Tryd.func51 rfl (by simp) rfl ?_
  intro w0 D0
  have hnm := hr.nm
  refine X_seq ?_
  refine X_region ?_
  refine XL_box (cs := [.int .i64 x.res, .slice x.tasks.oad x.tasks.l.length x.tasks.c, .slice x.modes.oad x.modes.l.length x.modes.c, .slice x.edges.oad x.edges.l.length x.edges.c]) .no rfl rfl rfl (fun b1 => ?_)
  refine XL_det .no (D_pure rfl) rfl ?_
  refine XL_then ?_
  refine X_seq ?_
  refine X_seq ?_
  refine X_region ?_
  refine XL_det .no (D_fld rfl fld_95_2 (o' := 2) rfl) rfl ?_
  refine XL_det .no (D_ldo rfl (by repeat first | with_reducible exact .here _ _ | with_reducible apply Out.there | with_reducible apply Out.app) tk_92 (by rfl)) rfl ?_
  refine XL_det .no (D_len rfl rfl slc_92) rfl ?_
  refine XL_det .no (D_pure rfl) rfl ?_
  refine XL_then ?_
  refine X_block ?_
  refine X_loop (α := Nat) (fun m => m ≤ x.modes.l.length ∧ ∀ j : Nat, j < m → (listI (reachS x (j : Int))).length = x.modes.l.length) (fun m => [(7, .int .i64 (m : Int)), (1, .pointer (some ⟨b1, 0, none⟩)), (6, .int .i64 (x.modes.l.length : Int))]) (fun m => [blk b1 [.int .i64 x.res, .slice x.tasks.oad x.tasks.l.length x.tasks.c, .slice x.modes.oad x.modes.l.length x.modes.c, .slice x.edges.oad x.edges.l.length x.edges.c] 95, K, Kt]) (fun m => x.modes.l.length - m) 0 ?_ (by refine ⟨?_, ?_, ?_, trivial⟩ <;> rfl) (by repeat first | with_reducible exact .nil _ | with_reducible exact .here _ _ | with_reducible exact Take.self _ | with_reducible apply Take.cons | with_reducible apply Out.there | with_reducible apply Take.skip | with_reducible exact Take.pre _ _ | with_reducible apply Out.app) ?_
  · exact ⟨Nat.zero_le _, fun j h => by omega⟩
  · rintro m ⟨hm, hall⟩
    refine X_seq ?_
    refine X_region ?_
    refine XL_det .no (D_pure rfl) rfl ?_
    refine XL_then ?_
    refine X_seq ?_
    refine X_cond rfl (fun h1 => ?_) (fun h1 => ?_)
    · try simp only [decide_eq_true_eq, decide_eq_false_iff_not, Bool.not_eq_true', Bool.not_eq_false', beq_iff_eq, bne_iff_ne, beq_eq_false_iff_ne, bne_eq_false_iff_eq, Int.not_lt, Int.not_le, gt_iff_lt, ge_iff_le, ne_eq] at h1
      refine X_skip ?_
      refine thenX_normal ?_
      refine X_seq ?_
      refine X_block ?_
      refine X_seq ?_
      refine X_region ?_
      refine XL_det .no (D_pure rfl) rfl ?_
      refine XL_det .no (D_pure rfl) rfl ?_
      refine XL_then ?_
      refine X_seq ?_
      refine X_draw [blk b1 [.int .i64 x.res, .slice x.tasks.oad x.tasks.l.length x.tasks.c, .slice x.modes.oad x.modes.l.length x.modes.c, .slice x.edges.oad x.edges.l.length x.edges.c] 95, K, Kt] mixed (by repeat first | with_reducible exact .nil _ | with_reducible exact .here _ _ | with_reducible exact Take.self _ | with_reducible apply Take.cons | with_reducible apply Out.there | with_reducible apply Take.skip | with_reducible exact Take.pre _ _ | with_reducible apply Out.app) ?_
      refine XA_det 0 rfl (by kernel_rfl) (by kernel_rfl) (by kernel_rfl) (by kernel_rfl) (fun _ _ _ _ h => h) .no (D_ldso (vs := [.int .i64 x.res, .slice x.tasks.oad x.tasks.l.length x.tasks.c, .slice x.modes.oad x.modes.l.length x.modes.c, .slice x.edges.oad x.edges.l.length x.edges.c]) rfl (by repeat first | with_reducible exact .here _ _ | with_reducible apply Out.there | with_reducible apply Out.app) tk_95 rfl (by rfl)) rfl ?_
      refine XA_detp 1 rfl (by kernel_rfl) (by kernel_rfl) (by kernel_rfl) (fun _ _ _ _ h => h) .no (D_pureP rfl) rfl ?_
      refine XA_detp 4 rfl (by kernel_rfl) (by kernel_rfl) (by kernel_rfl) (fun _ _ _ _ h => h) .no (D_fldP rfl fld_95_2 (o' := 2) rfl) rfl ?_
      refine XA_det 5 rfl (by kernel_rfl) (by kernel_rfl) (by kernel_rfl) (by kernel_rfl) (fun _ _ _ _ h => h) .no (D_ldo rfl (by repeat first | with_reducible exact .here _ _ | with_reducible apply Out.there | with_reducible apply Out.app) tk_92 (by rfl)) rfl ?_
      refine XA_detp 6 rfl (by kernel_rfl) (by kernel_rfl) (by kernel_rfl) (fun _ _ _ _ h => h) .no (D_lenP rfl rfl slc_92) rfl ?_
      refine XA_one 2 (by kernel_rfl) ?_
      refine XO_callk rfl .no en_48 rfl (by repeat first | with_reducible exact .nil _ | with_reducible apply App.cons) (greach x hx hr (m : Int) hK) (by repeat first | with_reducible exact .nil _ | with_reducible exact .here _ _ | with_reducible exact Take.self _ | with_reducible apply Take.cons | with_reducible apply Out.there | with_reducible apply Take.skip | with_reducible exact Take.pre _ _ | with_reducible apply Out.app) rfl ?_
      refine XA_one 3 (by kernel_rfl) ?_
      refine XO_callv rfl .no en_74 rfl (mLen _) rfl ?_
      refine XA_detp 7 rfl (by kernel_rfl) (by kernel_rfl) (by kernel_rfl) (fun _ _ _ _ h => h) .no (D_pureP rfl) rfl ?_
      refine XA_done (by kernel_rfl) ?_
      try simp only [List.cons_append, List.nil_append, List.append_nil]
      refine thenX_normal ?_
      refine X_cond rfl (fun h2 => ?_) (fun h2 => ?_)
      · try simp only [decide_eq_true_eq, decide_eq_false_iff_not, Bool.not_eq_true', Bool.not_eq_false', beq_iff_eq, bne_iff_ne, beq_eq_false_iff_ne, bne_eq_false_iff_eq, Int.not_lt, Int.not_le, gt_iff_lt, ge_iff_le, ne_eq] at h2
        refine X_seq ?_
        refine X_region ?_
        refine XL_det .no (D_pure rfl) rfl ?_
        refine XL_then ?_
        refine X_ret ?_
        refine inBlk_ret ?_
        refine thenX_ret ?_
        refine loopQ_ret ?_
        refine inBlk_ret ?_
        refine thenX_ret ?_
        refine ret_ok (.nil _) (res_tmp rfl rfl) ?_
        exact ⟨_, ⟨by rw [roundB_f (m := m) (by omega) (by omega)], rfl⟩, _, (by repeat first | with_reducible exact .nil _ | with_reducible exact .here _ _ | with_reducible exact Take.self _ | with_reducible apply Take.cons | with_reducible apply Out.there | with_reducible apply Take.skip | with_reducible exact Take.pre _ _ | with_reducible apply Out.app)⟩
      · try simp only [decide_eq_true_eq, decide_eq_false_iff_not, Bool.not_eq_true', Bool.not_eq_false', beq_iff_eq, bne_iff_ne, beq_eq_false_iff_ne, bne_eq_false_iff_eq, Int.not_lt, Int.not_le, gt_iff_lt, ge_iff_le, ne_eq] at h2
        refine X_skip ?_
        refine inBlk_normal ?_
        refine thenX_normal ?_
        refine X_region ?_
        refine XL_det .no (D_add rfl rfl (by omega) (by omega)) rfl ?_
        refine XL_det .no (D_pure rfl) rfl ?_
        refine XL_nil ?_
        refine loopQ_next (m + 1) ?_ ?_ ?_ ?_
        · exact ⟨by omega, fun j hj => by rcases Nat.lt_succ_iff_lt_or_eq.1 hj with h | rfl; exact hall j h; omega⟩
        · omega
        · refine ⟨?_, ?_, ?_, trivial⟩ <;> rfl
        · exact ⟨_, (by repeat first | with_reducible exact .nil _ | with_reducible exact .here _ _ | with_reducible exact Take.self _ | with_reducible apply Take.cons | with_reducible apply Out.there | with_reducible apply Take.skip | with_reducible exact Take.pre _ _ | with_reducible apply Out.app)⟩
    · try simp only [decide_eq_true_eq, decide_eq_false_iff_not, Bool.not_eq_true', Bool.not_eq_false', beq_iff_eq, bne_iff_ne, beq_eq_false_iff_ne, bne_eq_false_iff_eq, Int.not_lt, Int.not_le, gt_iff_lt, ge_iff_le, ne_eq] at h1
      refine X_exit ?_
      refine thenX_exit ?_
      refine loopQ_exit ?_
      refine inBlk_here ?_
      refine thenX_normal ?_
      refine X_seq ?_
      refine X_region ?_
      refine XL_det .no (D_pure rfl) rfl ?_
      refine XL_then ?_
      refine X_ret ?_
      refine ret_ok (.nil _) (res_tmp rfl rfl) ?_
      exact ⟨_, ⟨by rw [roundB_t (fun j hj => hall j (by omega))], rfl⟩, _, (by repeat first | with_reducible exact .nil _ | with_reducible exact .here _ _ | with_reducible exact Take.self _ | with_reducible apply Take.cons | with_reducible apply Out.there | with_reducible apply Take.skip | with_reducible exact Take.pre _ _ | with_reducible apply Out.app)⟩

theorem gDead (x : Img) : Ctr Tryd.prog B 73 [x.v] [] (fun v S => ∃ bx, v = .func (.func 89) #[] #[.pointer (some ⟨bx, 0, none⟩)] ∧ S = [blk bx [.int .i64 x.res, .slice x.tasks.oad x.tasks.l.length x.tasks.c, .slice x.modes.oad x.modes.l.length x.modes.c, .slice x.edges.oad x.edges.l.length x.edges.c] 95]) := by
  refine Ctr_of_X (N := 4) Tryd.func73 rfl (by simp) rfl ?_
  intro w0 D0
  refine X_seq ?_
  refine X_region ?_
  refine XL_box (cs := [.int .i64 x.res, .slice x.tasks.oad x.tasks.l.length x.tasks.c, .slice x.modes.oad x.modes.l.length x.modes.c, .slice x.edges.oad x.edges.l.length x.edges.c]) .no rfl rfl rfl (fun b1 => ?_)
  refine XL_det .no (D_pure rfl) rfl ?_
  refine XL_then ?_
  refine X_seq ?_
  refine X_region ?_
  refine XL_det .no (D_pure rfl) rfl ?_
  refine XL_det .no (D_pure rfl) rfl ?_
  refine XL_then ?_
  refine X_ret ?_
  refine ret_ok (.nil _) (res_tmp rfl rfl) ?_
  exact ⟨[blk b1 [.int .i64 x.res, .slice x.tasks.oad x.tasks.l.length x.tasks.c, .slice x.modes.oad x.modes.l.length x.modes.c, .slice x.edges.oad x.edges.l.length x.edges.c] 95], ⟨b1, rfl, rfl⟩, _, (by repeat first | with_reducible exact .nil _ | with_reducible exact .here _ _ | with_reducible exact Take.self _ | with_reducible apply Take.cons | with_reducible apply Out.there | with_reducible apply Take.skip | with_reducible exact Take.pre _ _ | with_reducible apply Out.app)⟩

theorem deadItr (bx : Nat) (x : Img) (hx : x.In K) : Itr Tryd.prog B 89 [.pointer (some ⟨bx, 0, none⟩)] [blk bx [.int .i64 x.res, .slice x.tasks.oad x.tasks.l.length x.tasks.c, .slice x.modes.oad x.modes.l.length x.modes.c, .slice x.edges.oad x.edges.l.length x.edges.c] 95, K] ((deadL x).map fun n => [.int .i64 n]) := by
  intro ly J Jx S0 hJ0 hy
  change Ctr _ _ _ _ (blk bx [.int .i64 x.res, .slice x.tasks.oad x.tasks.l.length x.tasks.c, .slice x.modes.oad x.modes.l.length x.modes.c, .slice x.edges.oad x.edges.l.length x.edges.c] 95 :: K :: S0) _
  refine Ctr_of_X (N := 20) Tryd.func89 rfl (by simp) rfl ?_
  intro w0 D0
  refine X_scope ?_
  refine X_seq ?_
  refine X_label ?_
  refine thenX_normal ?_
  refine X_seq ?_
  refine X_region ?_
  refine XL_det .no (D_fld rfl fld_95_2 (o' := 2) rfl) rfl ?_
  refine XL_det .no (D_ldo rfl (by repeat first | with_reducible exact .here _ _ | with_reducible apply Out.there | with_reducible apply Out.app) tk_92 (by rfl)) rfl ?_
  refine XL_det .no (D_len rfl rfl slc_92) rfl ?_
  refine XL_det .no (D_pure rfl) rfl ?_
  refine XL_then ?_
  refine X_block ?_
  refine X_dfrs_nil ?_
  refine X_loopd (α := Nat × List (Asrt B) × List Nat) (fun ⟨m, S1, dl⟩ => m ≤ x.modes.l.length ∧ J (setOf m (deadP x)).length S1) (fun ⟨m, S1, dl⟩ => dl) (fun ⟨m, S1, dl⟩ => [(7, .int .i64 (m : Int)), (0, .func (.yield ly) #[] #[]), (1, .pointer (some ⟨bx, 0, none⟩)), (6, .int .i64 (x.modes.l.length : Int))]) (fun ⟨m, S1, dl⟩ => blk bx [.int .i64 x.res, .slice x.tasks.oad x.tasks.l.length x.tasks.c, .slice x.modes.oad x.modes.l.length x.modes.c, .slice x.edges.oad x.edges.l.length x.edges.c] 95 :: K :: dfrs dl :: S1) (fun ⟨m, S1, dl⟩ => x.modes.l.length - m) (0, S0, []) ?_ rfl (by refine ⟨?_, ?_, ?_, ?_, trivial⟩ <;> rfl) (by repeat first | with_reducible exact .nil _ | with_reducible exact .here _ _ | with_reducible exact Take.self _ | with_reducible apply Take.cons | with_reducible apply Out.there | with_reducible apply Take.skip | with_reducible exact Take.pre _ _ | with_reducible apply Out.app) ?_
  · exact ⟨Nat.zero_le _, hJ0⟩
  · rintro ⟨m, S1, dl⟩ ⟨hm, hJ⟩
    dsimp only
    have hsm := x.modes.small
    refine X_seq ?_
    refine X_region ?_
    refine XL_det .no (D_pure rfl) rfl ?_
    refine XL_then ?_
    refine X_seq ?_
    refine X_cond rfl (fun h1 => ?_) (fun h1 => ?_)
    · try simp only [decide_eq_true_eq, decide_eq_false_iff_not, Bool.not_eq_true', Bool.not_eq_false', beq_iff_eq, bne_iff_ne, beq_eq_false_iff_ne, bne_eq_false_iff_eq, Int.not_lt, Int.not_le, gt_iff_lt, ge_iff_le, ne_eq] at h1
      refine X_skip ?_
      refine thenX_normal ?_
      refine X_seq ?_
      refine X_block ?_
      refine X_seq ?_
      refine X_region ?_
      refine XL_det .no (D_pure rfl) rfl ?_
      refine XL_det .no (D_pure rfl) rfl ?_
      refine XL_then ?_
      refine X_seq ?_
      refine X_seq ?_
      refine X_region ?_
      refine XL_det .no (D_ldso (vs := [.int .i64 x.res, .slice x.tasks.oad x.tasks.l.length x.tasks.c, .slice x.modes.oad x.modes.l.length x.modes.c, .slice x.edges.oad x.edges.l.length x.edges.c]) rfl (by repeat first | with_reducible exact .here _ _ | with_reducible apply Out.there | with_reducible apply Out.app) tk_95 rfl (by rfl)) rfl ?_
      refine XL_det .no (D_pure rfl) rfl ?_
      refine XL_call .no en_70 rfl (gNext x (m : Int)) (by repeat first | with_reducible exact .nil _ | with_reducible exact .here _ _ | with_reducible exact Take.self _ | with_reducible apply Take.cons | with_reducible apply Out.there | with_reducible apply Take.skip | with_reducible exact Take.pre _ _ | with_reducible apply Out.app) rfl ?_
      rintro _ _ ⟨by2, bm, rfl, rfl⟩
      simp only [List.cons_append, List.nil_append]
      refine XL_then ?_
      refine X_block ?_
      refine X_conv ?_
      refine X_range (own := [blk by2 [.int .i64 x.res, .slice x.tasks.oad x.tasks.l.length x.tasks.c, .slice x.modes.oad x.modes.l.length x.modes.c, .slice x.edges.oad x.edges.l.length x.edges.c] 95, blk bm [.int .i64 (m : Int)] 3, K]) (S1 := []) rfl en_87 (nextItr by2 bm x hx (m : Int)) (fun i S => i = 0 ∧ S = []) (fun c i S => i = 0 ∧ c = .exit 1 ∧ S = []) (show Take ([blk by2 [.int .i64 x.res, .slice x.tasks.oad x.tasks.l.length x.tasks.c, .slice x.modes.oad x.modes.l.length x.modes.c, .slice x.edges.oad x.edges.l.length x.edges.c] 95, blk bm [.int .i64 (m : Int)] 3, K]) _ _ from (by repeat first | with_reducible exact .nil _ | with_reducible exact .here _ _ | with_reducible exact Take.self _ | with_reducible apply Take.cons | with_reducible apply Out.there | with_reducible apply Take.skip | with_reducible exact Take.pre _ _ | with_reducible apply Out.app)) (⟨rfl, rfl⟩) rfl (fun y hy => by obtain ⟨z, _, rfl⟩ := List.mem_map.1 hy; rfl) ?_ ?_ ?_
      · intro ly rec A2 i S2 hi hJ
        obtain ⟨rfl, rfl⟩ := hJ
        refine X_skip ?_
        refine ⟨rfl, _, _, .cons (by repeat first | with_reducible exact .here _ _ | with_reducible apply Out.there | with_reducible apply Out.app) (Take.self _), fun rec2 => ?_⟩
        refine X_block ?_
        refine X_exit ?_
        refine inBlk_out rfl ?_
        exact ⟨[], _, (by repeat first | with_reducible exact .nil _ | with_reducible exact .here _ _ | with_reducible exact Take.self _ | with_reducible apply Take.cons | with_reducible apply Out.there | with_reducible apply Take.skip | with_reducible exact Take.pre _ _ | with_reducible apply Out.app), ⟨rfl, rfl, rfl⟩⟩
      · intro dd0 S2 hJ
        obtain ⟨hz, rfl⟩ := hJ
        rw [List.length_map] at hz
        have hdp := deadP_iff.2 hz
        simp only [List.cons_append, List.nil_append]
        refine ⟨_, fun w hw => St.dfrs_cons (by repeat first | with_reducible exact .nil _ | with_reducible exact .here _ _ | with_reducible exact Take.self _ | with_reducible apply Take.cons | with_reducible apply Out.there | with_reducible apply Take.skip | with_reducible exact Take.pre _ _ | with_reducible apply Out.app) hw, ?_⟩
        refine inBlk_normal ?_
        refine thenX_normal ?_
        refine X_seq ?_
        refine X_region ?_
        refine XL_det .no (D_pure rfl) rfl ?_
        refine XL_det .no (D_pure rfl) rfl ?_
        have hat := setOf_at (show m < x.modes.l.length by omega) hdp
        have hyy := hy _ S1 (by rw [List.length_map]; exact (List.getElem?_eq_some_iff.1 hat).1) hJ
        rw [getD_map (f := fun n => [.int .i64 n]) hat] at hyy
        refine XL_yield (own := [dfrs (dd0 :: dl), blk by2 [.int .i64 x.res, .slice x.tasks.oad x.tasks.l.length x.tasks.c, .slice x.modes.oad x.modes.l.length x.modes.c, .slice x.edges.oad x.edges.l.length x.edges.c] 95, blk bm [.int .i64 (m : Int)] 3, K, blk bx [.int .i64 x.res, .slice x.tasks.oad x.tasks.l.length x.tasks.c, .slice x.modes.oad x.modes.l.length x.modes.c, .slice x.edges.oad x.edges.l.length x.edges.c] 95]) (Si := S1) .no rfl rfl hyy rfl ?_
        rintro bb S2 hp
        simp only [List.cons_append, List.nil_append]
        refine XL_det .no (D_pure rfl) rfl ?_
        refine XL_then ?_
        refine X_cond rfl (fun h2 => ?_) (fun h2 => ?_)
        · try simp only [decide_eq_true_eq, decide_eq_false_iff_not, Bool.not_eq_true', Bool.not_eq_false', beq_iff_eq, bne_iff_ne, beq_eq_false_iff_ne, bne_eq_false_iff_eq, Int.not_lt, Int.not_le, gt_iff_lt, ge_iff_le, ne_eq] at h2
          refine X_undfrs (by repeat first | with_reducible exact .nil _ | with_reducible exact .here _ _ | with_reducible exact Take.self _ | with_reducible apply Take.cons | with_reducible apply Out.there | with_reducible apply Take.skip | with_reducible exact Take.pre _ _ | with_reducible apply Out.app) ?_
          refine X_ret ?_
          refine inBlk_ret ?_
          refine thenX_ret ?_
          refine loopQd_ret ?_
          refine inBlk_ret ?_
          refine scopeQ_ret ?_
          refine ret_ok (show Take (List.map dfr (dd0 :: dl)) _ _ from Take.pre _ _) (res_none rfl) ?_
          obtain ⟨h, _⟩ | ⟨_, hp⟩ := hp
          · rw [h] at h2; cases h2
          exact ⟨blk bx [.int .i64 x.res, .slice x.tasks.oad x.tasks.l.length x.tasks.c, .slice x.modes.oad x.modes.l.length x.modes.c, .slice x.edges.oad x.edges.l.length x.edges.c] 95 :: K :: S2, ⟨S2, rfl, .inr ⟨_, by rw [List.length_map]; exact (List.getElem?_eq_some_iff.1 hat).1, hp⟩⟩, _, (by repeat first | with_reducible exact .nil _ | with_reducible exact .here _ _ | with_reducible exact Take.self _ | with_reducible apply Take.cons | with_reducible apply Out.there | with_reducible apply Take.skip | with_reducible exact Take.pre _ _ | with_reducible apply Out.app)⟩
        · try simp only [decide_eq_true_eq, decide_eq_false_iff_not, Bool.not_eq_true', Bool.not_eq_false', beq_iff_eq, bne_iff_ne, beq_eq_false_iff_ne, bne_eq_false_iff_eq, Int.not_lt, Int.not_le, gt_iff_lt, ge_iff_le, ne_eq] at h2
          obtain ⟨_, hp⟩ | ⟨h, _⟩ := hp
          rotate_left
          · rw [h] at h2; cases h2
          refine X_skip ?_
          refine inBlk_normal ?_
          refine thenX_normal ?_
          refine X_region ?_
          refine XL_det .no (D_add rfl rfl (by omega) (by omega)) rfl ?_
          refine XL_det .no (D_pure rfl) rfl ?_
          refine XL_nil ?_
          refine loopQd_next (m + 1, S2, dd0 :: dl) rfl ?_ ?_ ?_ ?_
          · (try dsimp only); exact ⟨by omega, by rw [setOf_s, if_pos hdp, List.length_append]; exact hp⟩
          · (try dsimp only); omega
          · refine ⟨?_, ?_, ?_, ?_, trivial⟩ <;> rfl
          · (try dsimp only); exact ⟨_, (by repeat first | with_reducible exact .nil _ | with_reducible exact .here _ _ | with_reducible exact Take.self _ | with_reducible apply Take.cons | with_reducible apply Out.there | with_reducible apply Take.skip | with_reducible exact Take.pre _ _ | with_reducible apply Out.app)⟩
      · intro dd0 c i S2 hi h
        obtain ⟨rfl, rfl, rfl⟩ := h
        rw [List.length_map] at hi
        have hdn : ¬ deadP x m = true := fun h => by have := deadP_iff.1 h; omega
        simp only [List.cons_append, List.nil_append]
        refine X_exit ?_
        refine ⟨_, fun w hw => St.dfrs_cons (by repeat first | with_reducible exact .nil _ | with_reducible exact .here _ _ | with_reducible exact Take.self _ | with_reducible apply Take.cons | with_reducible apply Out.there | with_reducible apply Take.skip | with_reducible exact Take.pre _ _ | with_reducible apply Out.app) hw, ?_⟩
        refine inBlk_out rfl ?_
        refine thenX_exit ?_
        refine inBlk_here ?_
        refine thenX_normal ?_
        refine X_region ?_
        refine XL_det .no (D_add rfl rfl (by omega) (by omega)) rfl ?_
        refine XL_det .no (D_pure rfl) rfl ?_
        refine XL_nil ?_
        refine loopQd_next (m + 1, S1, dd0 :: dl) rfl ?_ ?_ ?_ ?_
        · (try dsimp only); exact ⟨by omega, by rw [setOf_s, if_neg hdn, List.append_nil]; exact hJ⟩
        · (try dsimp only); omega
        · refine ⟨?_, ?_, ?_, ?_, trivial⟩ <;> rfl
        · (try dsimp only); exact ⟨_, (by repeat first | with_reducible exact .nil _ | with_reducible exact .here _ _ | with_reducible exact Take.self _ | with_reducible apply Take.cons | with_reducible apply Out.there | with_reducible apply Take.skip | with_reducible exact Take.pre _ _ | with_reducible apply Out.app)⟩
    · try simp only [decide_eq_true_eq, decide_eq_false_iff_not, Bool.not_eq_true', Bool.not_eq_false', beq_iff_eq, bne_iff_ne, beq_eq_false_iff_ne, bne_eq_false_iff_eq, Int.not_lt, Int.not_le, gt_iff_lt, ge_iff_le, ne_eq] at h1
      refine X_undfrs (by repeat first | with_reducible exact .nil _ | with_reducible exact .here _ _ | with_reducible exact Take.self _ | with_reducible apply Take.cons | with_reducible apply Out.there | with_reducible apply Take.skip | with_reducible exact Take.pre _ _ | with_reducible apply Out.app) ?_
      refine X_exit ?_
      refine thenX_exit ?_
      refine loopQd_exit ?_
      refine inBlk_here ?_
      refine scopeQ_normal ?_
      refine ret_okn (show Take (List.map dfr dl) _ _ from Take.pre _ _) (res_none rfl) ?_
      have hie : m = x.modes.l.length := by omega
      subst hie
      exact ⟨blk bx [.int .i64 x.res, .slice x.tasks.oad x.tasks.l.length x.tasks.c, .slice x.modes.oad x.modes.l.length x.modes.c, .slice x.edges.oad x.edges.l.length x.edges.c] 95 :: K :: S1, ⟨S1, rfl, .inl (by rw [List.length_map]; exact hJ)⟩, _, (by repeat first | with_reducible exact .nil _ | with_reducible exact .here _ _ | with_reducible exact Take.self _ | with_reducible apply Take.cons | with_reducible apply Out.there | with_reducible apply Take.skip | with_reducible exact Take.pre _ _ | with_reducible apply Out.app)⟩

end Go.Proofs.YtdimcgedcndndaaDoor
end

section
namespace Go.Proofs.YtdimcgedcndndaaDoor
open Go Go.Sl
set_option linter.unusedVariables false
set_option linter.unusedSimpArgs false
set_option maxRecDepth 4000
variable {B : Nat} {K : Asrt B}
theorem en_73 : Go.Proofs.Enters Tryd.prog 73 := Go.Proofs.enters_of Tryd.func73 (by kernel_rfl) rfl
theorem en_89 : Go.Proofs.Enters Tryd.prog 89 := Go.Proofs.enters_of Tryd.func89 (by kernel_rfl) rfl
theorem fnt_126 : isFuncT Tryd.prog 126 = true := by kernel_rfl

theorem reach_in {x : Img} {f t : Int} (h : hasB (reachS x f) t = true) : (0 ≤ f ∧ f < x.modes.l.length) ∧ (0 ≤ t ∧ t < x.modes.l.length) ∧ 0 ≤ dist x.edges.l x.modes.l.length f.toNat t.toNat := by
  have hf : 0 ≤ f ∧ f < x.modes.l.length := by
    apply Classical.byContradiction; intro hc
    rw [reach_out hc] at h; simp [hasB] at h
  have ht : 0 ≤ t ∧ t < 32 := by
    have := h; simp [hasB] at this; omega
  have h2 := hasB_setOf (n := x.modes.l.length) (p := fun i => decide (0 ≤ stepsG x f i)) (i := t.toNat) (by omega)
  rw [show ((t.toNat : Nat) : Int) = t by omega] at h2
  have h3 : hasB (ofI (setOf x.modes.l.length fun i => decide (0 ≤ stepsG x f i))) t = true := h
  rw [h3] at h2
  simp only [Bool.true_eq, Bool.and_eq_true, decide_eq_true_eq] at h2
  have h4 := h2.2; unfold stepsG at h4; rw [if_pos hf] at h4
  exact ⟨hf, ⟨by omega, by omega⟩, h4⟩
structure MapOk (q : Qu) (fm : Int → Option Int) : Prop where
  i : ∀ (j : Nat) m p, q[j]? = some (m, p) → ∃ mp, fm m = some mp ∧ (0 ≤ p → ∃ pp, q[p.toNat]? = some (mp, pp))
  o : ∀ m, m ∉ q.map (·.1) → fm m = none
theorem mapOk0 (f : Nat) : MapOk [((f : Int), -1)] (updF (fun _ => none) (f : Int) (f : Int)) := by
  constructor
  · intro j m p hj
    cases j with
    | zero => simp at hj; obtain ⟨rfl, rfl⟩ := hj; exact ⟨f, by simp [updF], fun h => by omega⟩
    | succ j => simp at hj
  · intro m hm
    have : ¬ m = f := fun e => hm (by simp [e])
    simp [updF, this]
theorem MapOk.push {n f k : Nat} {q : Qu} {fm : Int → Option Int} (h : MapOk q fm) (hq : QOk n f q) {mk pk t : Int} (hk : q[k]? = some (mk, pk)) (ht : t ∉ q.map (·.1)) : MapOk (pushT (k : Int) q t) (updF fm t mk) := by
  rw [push_f ht]
  have hkl := (List.getElem?_eq_some_iff.1 hk).1
  constructor
  · intro j m p hj
    rcases Nat.lt_or_ge j q.length with hl | hl
    · rw [List.getElem?_append_left hl] at hj
      obtain ⟨mp, h1, h2⟩ := h.i j m p hj
      have hne : m ≠ t := fun e => ht (by rw [← e]; exact mem_fst.2 ⟨j, p, hj⟩)
      refine ⟨mp, by simp [updF, hne, h1], fun hp => ?_⟩
      obtain ⟨pp, h3⟩ := h2 hp
      exact ⟨pp, by rw [List.getElem?_append_left (List.getElem?_eq_some_iff.1 h3).1]; exact h3⟩
    · rw [List.getElem?_append_right hl] at hj
      have h0 : j - q.length = 0 := by
        rcases Nat.eq_zero_or_pos (j - q.length) with h0 | h0
        · exact h0
        · rw [List.getElem?_eq_none (by simp; omega)] at hj; cases hj
      rw [h0] at hj
      simp at hj
      obtain ⟨rfl, rfl⟩ := hj
      exact ⟨mk, by simp [updF], fun _ => ⟨pk, by rw [Int.toNat_natCast, List.getElem?_append_left hkl]; exact hk⟩⟩
  · intro m hm
    have h1 : m ∉ q.map (·.1) := fun c => hm (by rw [List.map_append]; exact List.mem_append_left _ c)
    have h2 : ¬ m = t := fun e => hm (by rw [List.map_append]; simp [e])
    simp [updF, h2, h.o m h1]
theorem MapOk.in {q : Qu} {fm : Int → Option Int} (h : MapOk q fm) {m : Int} (hs : (fm m).isSome = true) : m ∈ q.map (·.1) := by
  apply Classical.byContradiction; intro hc
  rw [h.o m hc] at hs; cases hs
theorem MapOk.out {q : Qu} {fm : Int → Option Int} (h : MapOk q fm) {m : Int} (hs : (fm m).isSome = false) : m ∉ q.map (·.1) := by
  intro hc
  obtain ⟨j, p, hj⟩ := mem_fst.1 hc
  obtain ⟨mp, h1, _⟩ := h.i j m p hj
  rw [h1] at hs; cases hs
theorem none_of {m : Option Int} (h : m.isSome = false) : m = none := by cases m <;> simp_all
def pathG (x : Img) (f t : Int) : List Int := if hasB (reachS x f) t then chain (bqE x f.toNat) (fidx (bqE x f.toNat) t + 1) (fidx (bqE x f.toNat) t) else []
theorem path_fin {n f : Nat} {q q' : Qu} (hp : q <+: q') (h : QOk n f q) (h' : QOk n f q') {t : Int} (ht : t ∈ q.map (·.1)) : chain q (fidx q t + 1) (fidx q t) = chain q' (fidx q' t + 1) (fidx q' t) := by
  obtain ⟨p, h1⟩ := fidx_get ht
  have hl := fidx_lt ht
  have h2 : q'[fidx q t]? = some (t, p) := by
    obtain ⟨r, rfl⟩ := hp
    rw [List.getElem?_append_left hl]; exact h1
  rw [fidx_eq h' h2]
  exact chain_pre hp h _ _ hl
/-- The queue in the midst of a round, by the modes next to one. -/
abbrev qj (E : List Edg) (f k i : Nat) : Qu := ((nxt E ((bq E f k).getD k (0, 0)).1).take i).foldl (pushT k) (bq E f k)
theorem qj_all {E : List Edg} {f k : Nat} (hk : k < (bq E f k).length) {i : Nat} (hi : i = (nxt E ((bq E f k).getD k (0, 0)).1).length) : qj E f k i = bq E f (k + 1) := by
  rw [bq, if_pos hk]; unfold qj rndQ; rw [hi, List.take_length]
theorem qj_ok {E : List Edg} {n f k : Nat} (hE : EOk n E) (hf : f < n) (hk : k < (bq E f k).length) (i : Nat) : QOk n f (qj E f k i) :=
  (bq_ok hE hf k).fold hk fun t ht => nxt_rg hE (List.mem_of_mem_take ht)
theorem qj_k {E : List Edg} {f k : Nat} {mk pk : Int} (h : (bq E f k)[k]? = some (mk, pk)) (i : Nat) : (qj E f k i)[k]? = some (mk, pk) := by
  obtain ⟨r, hr⟩ := fold_pre (k : Int) ((nxt E ((bq E f k).getD k (0, 0)).1).take i) (bq E f k)
  unfold qj; rw [← hr, List.getElem?_append_left (List.getElem?_eq_some_iff.1 h).1]; exact h
theorem qj_s {E : List Edg} {f k i : Nat} {t : Int} (h : (nxt E ((bq E f k).getD k (0, 0)).1)[i]? = some t) : qj E f k (i + 1) = pushT k (qj E f k i) t := by
  unfold qj; rw [List.take_add_one, h, List.foldl_append]; rfl
/-- The way back, one step. -/
structure WInv (q : Qu) (jt j : Nat) (o : List Int) : Prop where
  w : ∃ m p r, q[j]? = some (m, p) ∧ o = m :: r ∧ chain q (j + 1) j ++ r = chain q (jt + 1) jt
theorem winv0 {q : Qu} {t : Int} (h : t ∈ q.map (·.1)) : WInv q (fidx q t) (fidx q t) [t] := by
  obtain ⟨p, hp⟩ := fidx_get h
  exact ⟨t, p, [], hp, rfl, List.append_nil _⟩
theorem winv_s {n f : Nat} {q : Qu} (hq : QOk n f q) {jt j : Nat} {m p : Int} {r : List Int} {fm : Int → Option Int} (hm : MapOk q fm) (h1 : q[j]? = some (m, p)) (h2 : chain q (j + 1) j ++ r = chain q (jt + 1) jt) (hne : m ≠ f) :
    WInv q jt p.toNat ((fm m).getD 0 :: m :: r) ∧ p.toNat < j := by
  rcases hq.par j m p h1 with ⟨rfl, rfl⟩ | ⟨hp0, hpj⟩
  · have := hq.hd; rw [h1] at this; exact absurd (by simp at this; exact this) hne
  · obtain ⟨mp, g1, g2⟩ := hm.i j m p h1
    obtain ⟨pp, g3⟩ := g2 hp0
    refine ⟨⟨mp, pp, m :: r, g3, by rw [g1]; rfl, ?_⟩, by omega⟩
    rw [chain_step hq h1 hp0, List.append_assoc] at h2
    exact h2
theorem winv_e {n f : Nat} {q : Qu} (hq : QOk n f q) {jt j : Nat} {m p : Int} {r : List Int} (h1 : q[j]? = some (m, p)) (h2 : chain q (j + 1) j ++ r = chain q (jt + 1) jt) (he : m = f) : m :: r = chain q (jt + 1) jt := by
  subst he
  have : j = 0 := by rw [← fidx_eq hq h1, fidx_eq hq hq.hd]
  subst this
  have hd := hq.hd; rw [h1] at hd
  have hp : p = -1 := by simp at hd; exact hd
  subst hp
  rw [chain_u h1] at h2
  simpa using h2

theorem ldead (x : Img) (hx : x.In K) (hn : x.modes.l.length ≤ 60) : Ctr Tryd.prog B 50 [x.v] [K] (fun v S => ∃ a : Arr Int, (a.l = deadL x ∧ a.Own) ∧ v = a.v ∧ S = [row (.slice a.oad a.l.length a.c) 3 1 a.l.length (a.l.flatMap encI)] ++ [K]) := by
  refine Ctr_of_X (N := 17) Tryd.func50 rfl (by simp) rfl ?_
  intro w0 D0
  refine X_seq ?_
  refine X_region ?_
  refine XL_box (cs := [.int .i64 x.res, .slice x.tasks.oad x.tasks.l.length x.tasks.c, .slice x.modes.oad x.modes.l.length x.modes.c, .slice x.edges.oad x.edges.l.length x.edges.c]) .no rfl rfl rfl (fun b1 => ?_)
  refine XL_det .no (D_pure rfl) rfl ?_
  refine XL_then ?_
  refine X_seq ?_
  refine X_region ?_
  refine XL_alloc .no zero_41 rfl (fun b2 => ?_)
  refine XL_then ?_
  refine X_seq ?_
  refine X_seq ?_
  refine X_region ?_
  refine XL_det .no (D_ldso (vs := [.int .i64 x.res, .slice x.tasks.oad x.tasks.l.length x.tasks.c, .slice x.modes.oad x.modes.l.length x.modes.c, .slice x.edges.oad x.edges.l.length x.edges.c]) rfl (by repeat first | with_reducible exact .here _ _ | with_reducible apply Out.there | with_reducible apply Out.app) tk_95 rfl (by rfl)) rfl ?_
  refine XL_call .no en_73 rfl (gDead x) (by repeat first | with_reducible exact .nil _ | with_reducible exact .here _ _ | with_reducible exact Take.self _ | with_reducible apply Take.cons | with_reducible apply Out.there | with_reducible apply Take.skip | with_reducible exact Take.pre _ _ | with_reducible apply Out.app) rfl ?_
  rintro _ _ ⟨bx, rfl, rfl⟩
  simp only [List.cons_append, List.nil_append]
  refine XL_det .no (D_pure rfl) rfl ?_
  refine XL_then ?_
  refine X_seq ?_
  refine X_region ?_
  refine XL_det .no (D_pure rfl) rfl ?_
  refine XL_det .no (D_nef rfl rfl fnt_126) rfl ?_
  refine XL_then ?_
  refine X_cond_t rfl rfl ?_
  refine X_seq ?_
  refine X_region ?_
  refine XL_det .no (D_pure rfl) rfl ?_
  refine XL_then ?_
  refine X_block ?_
  refine X_rowa encI 3 1 ?_
  refine X_range (own := [blk bx [.int .i64 x.res, .slice x.tasks.oad x.tasks.l.length x.tasks.c, .slice x.modes.oad x.modes.l.length x.modes.c, .slice x.edges.oad x.edges.l.length x.edges.c] 95, K]) (S1 := [blk b2 [.slice none 0 0] 41, row (.slice (Arr.emp : Arr Int).oad (Arr.emp : Arr Int).l.length (Arr.emp : Arr Int).c) 3 1 (Arr.emp : Arr Int).l.length ((Arr.emp : Arr Int).l.flatMap encI)]) rfl en_89 (deadItr bx x hx) (fun i S => ∃ a : Arr Int, a.l = (deadL x).take i ∧ a.Own ∧ S = [blk b2 [.slice a.oad a.l.length a.c] 41, row (.slice a.oad a.l.length a.c) 3 1 a.l.length (a.l.flatMap encI)]) (fun c i S => False) (show Take ([blk bx [.int .i64 x.res, .slice x.tasks.oad x.tasks.l.length x.tasks.c, .slice x.modes.oad x.modes.l.length x.modes.c, .slice x.edges.oad x.edges.l.length x.edges.c] 95, K, blk b2 [.slice none 0 0] 41, row (.slice (Arr.emp : Arr Int).oad (Arr.emp : Arr Int).l.length (Arr.emp : Arr Int).c) 3 1 (Arr.emp : Arr Int).l.length ((Arr.emp : Arr Int).l.flatMap encI)]) _ _ from (by repeat first | with_reducible exact .nil _ | with_reducible exact .here _ _ | with_reducible exact Take.self _ | with_reducible apply Take.cons | with_reducible apply Out.there | with_reducible apply Take.skip | with_reducible exact Take.pre _ _ | with_reducible apply Out.app)) (⟨Arr.emp, rfl, Arr.emp_own, rfl⟩) rfl (fun y hy => by obtain ⟨z, _, rfl⟩ := List.mem_map.1 hy; rfl) ?_ ?_ ?_
  · intro ly rec A2 i S2 hi hJ
    obtain ⟨a, ha, hao, rfl⟩ := hJ
    rw [List.length_map] at hi
    obtain ⟨p, hp⟩ : ∃ p, (deadL x)[i]? = some p := ⟨_, List.getElem?_eq_getElem hi⟩
    rw [getD_map (f := fun n => [.int .i64 n]) hp]
    have hal : a.l.length ≤ 1000 := by have h1 : (deadL x).length ≤ _ := setOf_len x.modes.l.length (deadP x); rw [ha, List.length_take]; omega
    refine X_region ?_
    refine XL_det .no (D_pure rfl) rfl ?_
    refine XL_nil ?_
    refine ⟨rfl, _, _, .cons (by repeat first | with_reducible exact .here _ _ | with_reducible apply Out.there | with_reducible apply Out.app) (Take.self _), fun rec2 => ?_⟩
    refine X_block ?_
    refine X_region ?_
    refine XL_det .no (D_ldo rfl (by repeat first | with_reducible exact .here _ _ | with_reducible apply Out.there | with_reducible apply Out.app) tk_41 (by rfl)) rfl ?_
    refine XL_det .no (D_pure rfl) rfl ?_
    refine XL_bslice (cs := [.int .i64 p]) .no rfl slt_41 (by decide) (by decide) (by rfl) (by rfl) rfl rfl (fun b3 => ?_)
    refine XL_app1 (enc := encI) (c := a) (y := p) (K := _) .no rfl rfl slt_41 (by repeat first | with_reducible exact .here _ _ | with_reducible apply Out.there | with_reducible apply Out.app) (by repeat first | with_reducible exact .here _ _ | with_reducible apply Out.there | with_reducible apply Out.app) (Rd_blk0) rfl rfl (by omega) (by omega) rfl (fun a3 ha3 ha3o => ?_)
    refine XL_efd .no (F_stl rfl rfl rfl (by repeat first | with_reducible exact .here _ _ | with_reducible apply Out.there | with_reducible apply Out.app) tk_41 (by repeat first | exact .zero _ _ _ | apply SetL.succ)) ?_
    refine XL_nil ?_
    refine inBlk_normal ?_
    exact ⟨[blk b2 [.slice a3.oad a3.l.length a3.c] 41, row (.slice a3.oad a3.l.length a3.c) 3 1 a3.l.length (a3.l.flatMap encI)], _, (by repeat first | with_reducible exact .nil _ | with_reducible exact .here _ _ | with_reducible exact Take.self _ | with_reducible apply Take.cons | with_reducible apply Out.there | with_reducible apply Take.skip | with_reducible exact Take.pre _ _ | with_reducible apply Out.app), ⟨a3, by rw [ha3, ha, List.take_add_one, hp]; rfl, ha3o, rfl⟩⟩
  · intro dd0 S2 hJ
    obtain ⟨a, ha, hao, rfl⟩ := hJ
    rw [List.length_map, List.take_length] at ha
    simp only [List.cons_append, List.nil_append]
    refine inBlk_normal ?_
    refine thenX_normal ?_
    refine X_seq ?_
    refine X_region ?_
    refine XL_det .no (D_ldo rfl (by repeat first | with_reducible exact .here _ _ | with_reducible apply Out.there | with_reducible apply Out.app) tk_41 (by rfl)) rfl ?_
    refine XL_det .no (D_pure rfl) rfl ?_
    refine XL_then ?_
    refine X_ret ?_
    refine ret_ok (show Take [dfr dd0] _ _ from (by repeat first | with_reducible exact .nil _ | with_reducible exact .here _ _ | with_reducible exact Take.self _ | with_reducible apply Take.cons | with_reducible apply Out.there | with_reducible apply Take.skip | with_reducible exact Take.pre _ _ | with_reducible apply Out.app)) (res_tmp rfl rfl) ?_
    exact ⟨[row (.slice a.oad a.l.length a.c) 3 1 a.l.length (a.l.flatMap encI), K], ⟨a, ⟨ha, hao⟩, rfl, rfl⟩, _, (by repeat first | with_reducible exact .nil _ | with_reducible exact .here _ _ | with_reducible exact Take.self _ | with_reducible apply Take.cons | with_reducible apply Out.there | with_reducible apply Take.skip | with_reducible exact Take.pre _ _ | with_reducible apply Out.app)⟩
  · intro dd0 c i S2 hi h
    exact h.elim

end Go.Proofs.YtdimcgedcndndaaDoor
end

section
namespace Go.Proofs.YtdimcgedcndndaaDoor
open Go Go.Sl
set_option linter.unusedVariables false
set_option linter.unusedSimpArgs false
set_option maxRecDepth 4000
variable {B : Nat} {K : Asrt B}
theorem en_66 : Go.Proofs.Enters Tryd.prog 66 := Go.Proofs.enters_of Tryd.func66 (by kernel_rfl) rfl
theorem mapt_140 : mapT Tryd.prog 140 = true := by kernel_rfl
theorem tk_140 : tyK Tryd.prog 140 = some (false, 1) := by kernel_rfl
theorem zero_140 : zeroOf Tryd.prog 140 = some [.map none] := by kernel_rfl
theorem zero_3 : zeroOf Tryd.prog 3 = some [.int .i64 0] := by kernel_rfl
theorem gpath (x : Img) (hx : x.In K) (hr : GOk x) (f t : Int) {Kt : Asrt B} (hK : Rd Kt ⟨0, 0, none⟩ (tab32.map fun m => .int .u8 m)) : Ctr Tryd.prog B 53 [x.v, .int .i64 f, .int .i64 t] [K, Kt] (fun v S => ∃ o : Arr Int, (o.l = pathG x f t ∧ o.Own) ∧ v = .tuple #[o.v, .bool (hasB (reachS x f) t)] ∧ S = [row (.slice o.oad o.l.length o.c) 3 1 o.l.length (o.l.flatMap encI)] ++ [K, Kt]) := by
  refine Ctr_of_X (N := 81) Tryd.func53 rfl (by simp) rfl ?_
  intro w0 D0
  have hnm := hr.nm
  refine X_seq ?_
  refine X_region ?_
  refine XL_box (cs := [.int .i64 x.res, .slice x.tasks.oad x.tasks.l.length x.tasks.c, .slice x.modes.oad x.modes.l.length x.modes.c, .slice x.edges.oad x.edges.l.length x.edges.c]) .no rfl rfl rfl (fun b1 => ?_)
  refine XL_det .no (D_pure rfl) rfl ?_
  refine XL_det .no (D_pure rfl) rfl ?_
  refine XL_then ?_
  refine X_scope ?_
  refine X_seq ?_
  refine X_seq ?_
  refine X_region ?_
  refine XL_det .no (D_ldso (vs := [.int .i64 x.res, .slice x.tasks.oad x.tasks.l.length x.tasks.c, .slice x.modes.oad x.modes.l.length x.modes.c, .slice x.edges.oad x.edges.l.length x.edges.c]) rfl (by repeat first | with_reducible exact .here _ _ | with_reducible apply Out.there | with_reducible apply Out.app) tk_95 rfl (by rfl)) rfl ?_
  refine XL_det .no (D_pure rfl) rfl ?_
  refine XL_callk .no en_48 rfl (greach x hx hr f hK) (by repeat first | with_reducible exact .nil _ | with_reducible exact .here _ _ | with_reducible exact Take.self _ | with_reducible apply Take.cons | with_reducible apply Out.there | with_reducible apply Take.skip | with_reducible exact Take.pre _ _ | with_reducible apply Out.app) rfl ?_
  refine XL_det .no (D_pure rfl) rfl ?_
  refine XL_callv .no en_66 rfl (mHas _ t) rfl ?_
  refine XL_det .no (D_pure rfl) rfl ?_
  refine XL_then ?_
  refine X_cond rfl (fun h1 => ?_) (fun h1 => ?_)
  · try simp only [decide_eq_true_eq, decide_eq_false_iff_not, Bool.not_eq_true', Bool.not_eq_false', beq_iff_eq, bne_iff_ne, beq_eq_false_iff_ne, bne_eq_false_iff_eq, Int.not_lt, Int.not_le, gt_iff_lt, ge_iff_le, ne_eq] at h1
    refine X_rowa encI 3 1 ?_
    refine X_seq ?_
    refine X_region ?_
    refine XL_det .no (D_pure rfl) rfl ?_
    refine XL_det .no (D_pure rfl) rfl ?_
    refine XL_then ?_
    refine X_ret ?_
    refine thenX_ret ?_
    refine scopeQ_ret ?_
    refine ret_ok (.nil _) (res_tmp2 rfl rfl rfl) ?_
    exact ⟨[row (.slice (Arr.emp : Arr Int).oad (Arr.emp : Arr Int).l.length (Arr.emp : Arr Int).c) 3 1 (Arr.emp : Arr Int).l.length ((Arr.emp : Arr Int).l.flatMap encI), K, Kt], ⟨Arr.emp, ⟨by unfold pathG; rw [h1]; rfl, Arr.emp_own⟩, by rw [h1]; rfl, rfl⟩, _, (by repeat first | with_reducible exact .nil _ | with_reducible exact .here _ _ | with_reducible exact Take.self _ | with_reducible apply Take.cons | with_reducible apply Out.there | with_reducible apply Take.skip | with_reducible exact Take.pre _ _ | with_reducible apply Out.app)⟩
  · try simp only [decide_eq_true_eq, decide_eq_false_iff_not, Bool.not_eq_true', Bool.not_eq_false', beq_iff_eq, bne_iff_ne, beq_eq_false_iff_ne, bne_eq_false_iff_eq, Int.not_lt, Int.not_le, gt_iff_lt, ge_iff_le, ne_eq] at h1
    obtain ⟨hf1, ht1, hds⟩ := reach_in h1
    have hfn : f.toNat < x.modes.l.length := by omega
    have hfc : ((f.toNat : Nat) : Int) = f := by omega
    have htN := bq_all (eok hr) hfn (t := t.toNat) (by omega) hds
    rw [show ((t.toNat : Nat) : Int) = t by omega] at htN
    have hqoN := bq_ok (eok hr) hfn x.modes.l.length
    refine X_skip ?_
    refine thenX_normal ?_
    refine X_seq ?_
    refine X_region ?_
    refine XL_makeMap .no rfl (fun bm => ?_)
    refine XL_det .no (D_pure rfl) rfl ?_
    refine XL_det .no (D_pure rfl) rfl ?_
    refine XL_efd .no (F_ins rfl rfl rfl (by repeat first | with_reducible exact .here _ _ | with_reducible apply Out.there | with_reducible apply Out.app) mapt_140 rfl) ?_
    refine XL_det .no (D_pure rfl) rfl ?_
    refine XL_alloc .no zero_140 rfl (fun b2 => ?_)
    refine XL_efd .no (F_stl rfl rfl rfl (by repeat first | with_reducible exact .here _ _ | with_reducible apply Out.there | with_reducible apply Out.app) tk_140 (by repeat first | exact .zero _ _ _ | apply SetL.succ)) ?_
    refine XL_then ?_
    refine X_seq ?_
    refine X_region ?_
    refine XL_det .no (D_pure rfl) rfl ?_
    refine XL_bslice (cs := [.int .i64 f]) .no rfl slt_41 (by decide) (by decide) (by rfl) (by rfl) rfl rfl (fun b3 => ?_)
    refine XL_alloc .no zero_41 rfl (fun b4 => ?_)
    refine XL_efd .no (F_stl rfl rfl rfl (by repeat first | with_reducible exact .here _ _ | with_reducible apply Out.there | with_reducible apply Out.app) tk_41 (by repeat first | exact .zero _ _ _ | apply SetL.succ)) ?_
    refine XL_then ?_
    refine X_seq ?_
    refine X_label ?_
    refine thenX_normal ?_
    refine X_seq ?_
    refine X_seq ?_
    refine X_region ?_
    refine XL_alloc .no zero_3 rfl (fun b5 => ?_)
    refine XL_efd .no (F_stl rfl rfl rfl (by repeat first | with_reducible exact .here _ _ | with_reducible apply Out.there | with_reducible apply Out.app) tk_3 (by repeat first | exact .zero _ _ _ | apply SetL.succ)) ?_
    refine XL_then ?_
    refine X_block ?_
    refine X_dfrs_nil ?_
    refine X_blkrow (b := b3) (cs := encI f) encI [f] (by simp) (fun _ => rfl) (by simp [maxLen]) rfl (by repeat first | with_reducible exact .here _ _ | with_reducible apply Out.there | with_reducible apply Out.app) ?_
    refine X_loopd (α := Nat × Arr Int × (Int → Option Int) × Nat × List Nat) (fun ⟨k, a, fm, bi, dl⟩ => k ≤ (bq x.edges.l f.toNat k).length ∧ a.l = (bq x.edges.l f.toNat k).map (·.1) ∧ a.Own ∧ MapOk (bq x.edges.l f.toNat k) fm) (fun ⟨k, a, fm, bi, dl⟩ => dl) (fun ⟨k, a, fm, bi, dl⟩ => [(10, .pointer (some ⟨bi, 0, none⟩)), (1, .int .i64 f), (2, .int .i64 t), (3, .pointer (some ⟨b1, 0, none⟩)), (8, .pointer (some ⟨b2, 0, none⟩)), (9, .pointer (some ⟨b4, 0, none⟩))]) (fun ⟨k, a, fm, bi, dl⟩ => [blk b1 [.int .i64 x.res, .slice x.tasks.oad x.tasks.l.length x.tasks.c, .slice x.modes.oad x.modes.l.length x.modes.c, .slice x.edges.oad x.edges.l.length x.edges.c] 95, blk b2 [.map (some bm)] 140, mapF bm fm, blk b4 [.slice a.oad a.l.length a.c] 41, row (.slice a.oad a.l.length a.c) 3 1 a.l.length (a.l.flatMap encI), blk bi [.int .i64 (k : Int)] 3, dfrs dl, K, Kt]) (fun ⟨k, a, fm, bi, dl⟩ => x.modes.l.length - k) (0, Arr.lit b3 [f] (by simp), updF (fun _ => none) f f, b5, []) ?_ rfl (by refine ⟨?_, ?_, ?_, ?_, ?_, ?_, trivial⟩ <;> rfl) (by repeat first | with_reducible exact .nil _ | with_reducible exact .here _ _ | exact .here _ _ | with_reducible exact Take.self _ | with_reducible apply Take.cons | with_reducible apply Out.there | with_reducible apply Take.skip | with_reducible exact Take.pre _ _ | with_reducible apply Out.app) ?_
    · exact ⟨Nat.zero_le _, by show [f] = [((f.toNat : Nat) : Int)]; rw [hfc], Arr.lit_own, by have := mapOk0 f.toNat; rw [hfc] at this; show MapOk [(((f.toNat : Nat) : Int), -1)] _; rw [hfc]; exact this⟩
    · rintro ⟨k, a, fm, bi, dl⟩ ⟨hk, ha, hao, hmo⟩
      dsimp only
      have hal : a.l.length = (bq x.edges.l f.toNat k).length := by rw [ha]; simp
      have hqo := bq_ok (eok hr) hfn k
      have hqn := hqo.len
      refine X_seq ?_
      refine X_seq ?_
      refine X_region ?_
      refine XL_det .no (D_ldo rfl (by repeat first | with_reducible exact .here _ _ | with_reducible apply Out.there | with_reducible apply Out.app) tk_3 (by rfl)) rfl ?_
      refine XL_det .no (D_ldo rfl (by repeat first | with_reducible exact .here _ _ | with_reducible apply Out.there | with_reducible apply Out.app) tk_41 (by rfl)) rfl ?_
      refine XL_det .no (D_len rfl rfl slc_41) rfl ?_
      refine XL_det .no (D_pure rfl) rfl ?_
      refine XL_then ?_
      refine X_cond rfl (fun h2 => ?_) (fun h2 => ?_)
      · try simp only [decide_eq_true_eq, decide_eq_false_iff_not, Bool.not_eq_true', Bool.not_eq_false', beq_iff_eq, bne_iff_ne, beq_eq_false_iff_ne, bne_eq_false_iff_eq, Int.not_lt, Int.not_le, gt_iff_lt, ge_iff_le, ne_eq] at h2
        have hk2 : k < (bq x.edges.l f.toNat k).length := by omega
        obtain ⟨⟨mk, pk⟩, hqk⟩ : ∃ y, (bq x.edges.l f.toNat k)[k]? = some y := ⟨_, List.getElem?_eq_getElem hk2⟩
        have hgk : a.l[k]? = some mk := by rw [ha]; exact (map_at hqk).1
        have hmk : ((bq x.edges.l f.toNat k).getD k (0, 0)).1 = mk := by simp [List.getD, hqk]
        subst hmk
        refine X_skip ?_
        refine thenX_normal ?_
        refine X_seq ?_
        refine X_block ?_
        refine X_seq ?_
        refine X_seq ?_
        refine X_region ?_
        refine XL_det .no (D_ldo rfl (by repeat first | with_reducible exact .here _ _ | with_reducible apply Out.there | with_reducible apply Out.app) tk_41 (by rfl)) rfl ?_
        refine XL_det .no (D_ldo rfl (by repeat first | with_reducible exact .here _ _ | with_reducible apply Out.there | with_reducible apply Out.app) tk_3 (by rfl)) rfl ?_
        refine XL_det .no (D_idxSo rfl rfl slc_41 (a).nil0 rfl (by omega) rfl) rfl ?_
        refine XL_det .no (D_ela (enc := encI) (sz := 1) (i := k) (k := 0) (fun _ => rfl) rfl (by repeat first | with_reducible exact .here _ _ | with_reducible apply Out.there | with_reducible apply Out.app) (Rd_own hao rfl) tk_3 hgk rfl) rfl ?_
        refine XL_det .no (D_pure rfl) rfl ?_
        refine XL_det .no (D_pure rfl) rfl ?_
        refine XL_then ?_
        refine X_cond rfl (fun h3 => ?_) (fun h3 => ?_)
        · try simp only [decide_eq_true_eq, decide_eq_false_iff_not, Bool.not_eq_true', Bool.not_eq_false', beq_iff_eq, bne_iff_ne, beq_eq_false_iff_ne, bne_eq_false_iff_eq, Int.not_lt, Int.not_le, gt_iff_lt, ge_iff_le, ne_eq] at h3
          have htq : t ∈ (bq x.edges.l f.toNat k).map (·.1) := mem_fst.2 ⟨k, pk, by rw [hqk, h3]⟩
          have hpre : (bq x.edges.l f.toNat k) <+: bqE x f.toNat := bq_pre x.edges.l f.toNat (by omega)
          refine X_exit ?_
          refine thenX_exit ?_
          refine inBlk_out rfl ?_
          refine thenX_exit ?_
          refine loopQd_exit ?_
          refine inBlk_here ?_
          refine thenX_normal ?_
          refine X_seq ?_
          refine X_region ?_
          refine XL_det .no (D_pure rfl) rfl ?_
          refine XL_bslice (cs := [.int .i64 t]) .no rfl slt_41 (by decide) (by decide) (by rfl) (by rfl) rfl rfl (fun b6 => ?_)
          refine XL_det .no (D_pure rfl) rfl ?_
          refine XL_then ?_
          refine X_seq ?_
          refine X_block ?_
          refine X_blkrow (b := b6) (cs := encI t) encI [t] (by simp) (fun _ => rfl) (by simp [maxLen]) rfl (by repeat first | with_reducible exact .here _ _ | with_reducible apply Out.there | with_reducible apply Out.app) ?_
          refine X_loop (α := Arr Int × Nat) (fun ⟨o, j⟩ => o.Own ∧ WInv (bq x.edges.l f.toNat k) (fidx (bq x.edges.l f.toNat k) t) j o.l) (fun ⟨o, j⟩ => [(14, .slice o.oad o.l.length o.c), (1, .int .i64 f), (8, .pointer (some ⟨b2, 0, none⟩))]) (fun ⟨o, j⟩ => [blk b2 [.map (some bm)] 140, mapF bm fm, row (.slice o.oad o.l.length o.c) 3 1 o.l.length (o.l.flatMap encI), dfrs dl, K, Kt]) (fun ⟨o, j⟩ => j) (Arr.lit b6 [t] (by simp), (fidx (bq x.edges.l f.toNat k) t)) ?_ (by refine ⟨?_, ?_, ?_, trivial⟩ <;> rfl) (by repeat first | with_reducible exact .nil _ | with_reducible exact .here _ _ | with_reducible exact Take.self _ | with_reducible apply Take.cons | with_reducible apply Out.there | with_reducible apply Take.skip | with_reducible exact Take.pre _ _ | with_reducible apply Out.app) ?_
          · exact ⟨Arr.lit_own, winv0 htq⟩
          · rintro ⟨o, j⟩ ⟨hoo, ⟨m, p, r, hqj, hol, hch⟩⟩
            dsimp only
            have ho0 : o.l[0]? = some m := by rw [hol]; rfl
            have holn : o.l.length ≤ 1000 := by have h9 := congrArg List.length hch; have h8 := chain_le (bq x.edges.l f.toNat k) ((fidx (bq x.edges.l f.toNat k) t) + 1) (fidx (bq x.edges.l f.toNat k) t); have h7 := fidx_lt htq; rw [List.length_append] at h9; rw [hol, List.length_cons]; omega
            have hj0 := (List.getElem?_eq_some_iff.1 ho0).1
            refine X_seq ?_
            refine X_seq ?_
            refine X_region ?_
            refine XL_det .no (D_pure rfl) rfl ?_
            refine XL_det .no (D_idxSo (j := 0) rfl rfl slc_41 (o).nil0 rfl (by omega) rfl) rfl ?_
            refine XL_det .no (D_ela (enc := encI) (sz := 1) (i := 0) (k := 0) (fun _ => rfl) rfl (by repeat first | with_reducible exact .here _ _ | with_reducible apply Out.there | with_reducible apply Out.app) (Rd_own hoo rfl) tk_3 ho0 rfl) rfl ?_
            refine XL_det .no (D_pure rfl) rfl ?_
            refine XL_det .no (D_pure rfl) rfl ?_
            refine XL_then ?_
            refine X_cond rfl (fun h4 => ?_) (fun h4 => ?_)
            · try simp only [decide_eq_true_eq, decide_eq_false_iff_not, Bool.not_eq_true', Bool.not_eq_false', beq_iff_eq, bne_iff_ne, beq_eq_false_iff_ne, bne_eq_false_iff_eq, Int.not_lt, Int.not_le, gt_iff_lt, ge_iff_le, ne_eq] at h4
              have hws := winv_s hqo hmo hqj hch (by omega)
              refine X_skip ?_
              refine thenX_normal ?_
              refine X_block ?_
              refine X_drawk [blk b2 [.map (some bm)] 140, mapF bm fm, row (.slice o.oad o.l.length o.c) 3 1 o.l.length (o.l.flatMap encI)] mixed (by repeat first | with_reducible exact .nil _ | with_reducible exact .here _ _ | with_reducible exact Take.self _ | with_reducible apply Take.cons | with_reducible apply Out.there | with_reducible apply Take.skip | with_reducible exact Take.pre _ _ | with_reducible apply Out.app) ?_
              refine XA_det 0 rfl (by kernel_rfl) (by kernel_rfl) (by kernel_rfl) (by kernel_rfl) (fun _ _ _ _ h => h) .no (D_ldo rfl (by repeat first | with_reducible exact .here _ _ | with_reducible apply Out.there | with_reducible apply Out.app) tk_140 (by rfl)) rfl ?_
              refine XA_detp 1 rfl (by kernel_rfl) (by kernel_rfl) (by kernel_rfl) (fun _ _ _ _ h => h) .no (D_pureP rfl) rfl ?_
              refine XA_detp 2 rfl (by kernel_rfl) (by kernel_rfl) (by kernel_rfl) (fun _ _ _ _ h => h) .no (D_idxSoP (j := 0) rfl rfl slc_41 (o).nil0 rfl (by omega) rfl) rfl ?_
              refine XA_det 3 rfl (by kernel_rfl) (by kernel_rfl) (by kernel_rfl) (by kernel_rfl) (fun _ _ _ _ h => h) .no (D_ela (enc := encI) (sz := 1) (i := 0) (k := 0) (fun _ => rfl) rfl (by repeat first | with_reducible exact .here _ _ | with_reducible apply Out.there | with_reducible apply Out.app) (Rd_own hoo rfl) tk_3 ho0 rfl) rfl ?_
              refine XA_det 4 rfl (by kernel_rfl) (by kernel_rfl) (by kernel_rfl) (by kernel_rfl) (fun _ _ _ _ h => h) .no (D_look rfl rfl (by repeat first | with_reducible exact .here _ _ | with_reducible apply Out.there | with_reducible apply Out.app) mapt_140) rfl ?_
              refine XA_detp 6 rfl (by kernel_rfl) (by kernel_rfl) (by kernel_rfl) (fun _ _ _ _ h => h) .no (D_pureP rfl) rfl ?_
              refine XA_one 5 (by kernel_rfl) ?_
              refine XO_bslice (cs := [.int .i64 ((fm m).getD 0)]) rfl .no rfl slt_41 (by decide) (by decide) (by rfl) (by rfl) rfl rfl (fun bd77 => ?_)
              refine XA_blkrow (b := bd77) 1 1 (.here _ _) rfl rfl ?_
              refine XA_one 7 (by kernel_rfl) ?_
              refine XO_appa (enc := encI) (c := Arr.lit bd77 [(fm m).getD 0] (by simp)) (b := o) rfl .no rfl rfl slt_41 (.here _ _) (by repeat first | with_reducible exact .nil _ | with_reducible apply App.cons) (by repeat first | with_reducible exact .here _ _ | with_reducible apply Out.there | with_reducible apply Out.app) (Rd_own hoo rfl) (fun _ => rfl) (fun _ => rfl) (by show 1 + o.l.length ≤ _; omega) (by show (1 + o.l.length) * _ ≤ _; omega) rfl (fun o3 ho3 ho3o => ?_)
              refine XA_detp 8 rfl (by kernel_rfl) (by kernel_rfl) (by kernel_rfl) (fun _ _ _ _ h => h) .no (D_pureP rfl) rfl ?_
              refine XA_done (by kernel_rfl) ?_
              try simp only [List.cons_append, List.nil_append, List.append_nil]
              refine inBlk_normal ?_
              refine loopQ_next (o3, p.toNat) ?_ ?_ ?_ ?_
              · (try dsimp only); exact ⟨ho3o, by rw [ho3, hol]; exact hws.1⟩
              · (try dsimp only); exact hws.2
              · refine ⟨?_, ?_, ?_, trivial⟩ <;> rfl
              · (try dsimp only); exact ⟨_, (by repeat first | with_reducible exact .nil _ | with_reducible exact .here _ _ | with_reducible exact Take.self _ | with_reducible apply Take.cons | with_reducible apply Out.there | with_reducible apply Take.skip | with_reducible exact Take.pre _ _ | with_reducible apply Out.app)⟩
            · try simp only [decide_eq_true_eq, decide_eq_false_iff_not, Bool.not_eq_true', Bool.not_eq_false', beq_iff_eq, bne_iff_ne, beq_eq_false_iff_ne, bne_eq_false_iff_eq, Int.not_lt, Int.not_le, gt_iff_lt, ge_iff_le, ne_eq] at h4
              refine X_undfrs (by repeat first | with_reducible exact .nil _ | with_reducible exact .here _ _ | with_reducible exact Take.self _ | with_reducible apply Take.cons | with_reducible apply Out.there | with_reducible apply Take.skip | with_reducible exact Take.pre _ _ | with_reducible apply Out.app) ?_
              refine X_exit ?_
              refine thenX_exit ?_
              refine loopQ_exit ?_
              refine inBlk_here ?_
              refine thenX_normal ?_
              refine X_seq ?_
              refine X_region ?_
              refine XL_det .no (D_pure rfl) rfl ?_
              refine XL_det .no (D_pure rfl) rfl ?_
              refine XL_det .no (D_pure rfl) rfl ?_
              refine XL_then ?_
              refine X_ret ?_
              refine scopeQ_ret ?_
              refine ret_ok (show Take (List.map dfr dl) _ _ from Take.pre _ _) (res_tmp2 rfl rfl rfl) ?_
              exact ⟨[row (.slice o.oad o.l.length o.c) 3 1 o.l.length (o.l.flatMap encI), K, Kt], ⟨o, ⟨by unfold pathG; rw [if_pos h1, ← path_fin hpre hqo hqoN htq, hol]; exact winv_e hqo hqj hch (by omega), hoo⟩, by rw [h1], rfl⟩, _, (by repeat first | with_reducible exact .nil _ | with_reducible exact .here _ _ | with_reducible exact Take.self _ | with_reducible apply Take.cons | with_reducible apply Out.there | with_reducible apply Take.skip | with_reducible exact Take.pre _ _ | with_reducible apply Out.app)⟩
        · try simp only [decide_eq_true_eq, decide_eq_false_iff_not, Bool.not_eq_true', Bool.not_eq_false', beq_iff_eq, bne_iff_ne, beq_eq_false_iff_ne, bne_eq_false_iff_eq, Int.not_lt, Int.not_le, gt_iff_lt, ge_iff_le, ne_eq] at h3
          refine X_skip ?_
          refine thenX_normal ?_
          refine X_seq ?_
          refine X_draw [blk b1 [.int .i64 x.res, .slice x.tasks.oad x.tasks.l.length x.tasks.c, .slice x.modes.oad x.modes.l.length x.modes.c, .slice x.edges.oad x.edges.l.length x.edges.c] 95, blk b4 [.slice a.oad a.l.length a.c] 41, row (.slice a.oad a.l.length a.c) 3 1 a.l.length (a.l.flatMap encI), blk bi [.int .i64 (k : Int)] 3, K] mixed (by repeat first | with_reducible exact .nil _ | with_reducible exact .here _ _ | with_reducible exact Take.self _ | with_reducible apply Take.cons | with_reducible apply Out.there | with_reducible apply Take.skip | with_reducible exact Take.pre _ _ | with_reducible apply Out.app) ?_
          refine XA_det 0 rfl (by kernel_rfl) (by kernel_rfl) (by kernel_rfl) (by kernel_rfl) (fun _ _ _ _ h => h) .no (D_ldso (vs := [.int .i64 x.res, .slice x.tasks.oad x.tasks.l.length x.tasks.c, .slice x.modes.oad x.modes.l.length x.modes.c, .slice x.edges.oad x.edges.l.length x.edges.c]) rfl (by repeat first | with_reducible exact .here _ _ | with_reducible apply Out.there | with_reducible apply Out.app) tk_95 rfl (by rfl)) rfl ?_
          refine XA_det 1 rfl (by kernel_rfl) (by kernel_rfl) (by kernel_rfl) (by kernel_rfl) (fun _ _ _ _ h => h) .no (D_ldo rfl (by repeat first | with_reducible exact .here _ _ | with_reducible apply Out.there | with_reducible apply Out.app) tk_41 (by rfl)) rfl ?_
          refine XA_det 2 rfl (by kernel_rfl) (by kernel_rfl) (by kernel_rfl) (by kernel_rfl) (fun _ _ _ _ h => h) .no (D_ldo rfl (by repeat first | with_reducible exact .here _ _ | with_reducible apply Out.there | with_reducible apply Out.app) tk_3 (by rfl)) rfl ?_
          refine XA_detp 3 rfl (by kernel_rfl) (by kernel_rfl) (by kernel_rfl) (fun _ _ _ _ h => h) .no (D_idxSoP rfl rfl slc_41 (a).nil0 rfl (by omega) rfl) rfl ?_
          refine XA_det 4 rfl (by kernel_rfl) (by kernel_rfl) (by kernel_rfl) (by kernel_rfl) (fun _ _ _ _ h => h) .no (D_ela (enc := encI) (sz := 1) (i := k) (k := 0) (fun _ => rfl) rfl (by repeat first | with_reducible exact .here _ _ | with_reducible apply Out.there | with_reducible apply Out.app) (Rd_own hao rfl) tk_3 hgk rfl) rfl ?_
          refine XA_one 5 (by kernel_rfl) ?_
          refine XO_callc rfl .no en_70 rfl (by repeat first | with_reducible exact .nil _ | with_reducible apply App.cons) (gNext x ((bq x.edges.l f.toNat k).getD k (0, 0)).1) (by repeat first | with_reducible exact .nil _ | with_reducible exact .here _ _ | with_reducible exact Take.self _ | with_reducible apply Take.cons | with_reducible apply Out.there | with_reducible apply Take.skip | with_reducible exact Take.pre _ _ | with_reducible apply Out.app) rfl ?_
          rintro _ _ ⟨bx, bn, rfl, rfl⟩
          simp only [List.cons_append, List.nil_append]
          refine ⟨[blk bx [.int .i64 x.res, .slice x.tasks.oad x.tasks.l.length x.tasks.c, .slice x.modes.oad x.modes.l.length x.modes.c, .slice x.edges.oad x.edges.l.length x.edges.c] 95, blk bn [.int .i64 ((bq x.edges.l f.toNat k).getD k (0, 0)).1] 3, blk b2 [.map (some bm)] 140, mapF bm fm, dfrs dl, Kt], _, _, (by repeat first | with_reducible exact .nil _ | with_reducible apply App.cons), (by repeat first | with_reducible exact .nil _ | with_reducible exact .here _ _ | with_reducible exact Take.self _ | with_reducible apply Take.cons | with_reducible apply Out.there | with_reducible apply Take.skip | with_reducible exact Take.pre _ _ | with_reducible apply Out.app), ?_⟩
          refine XA_done (by kernel_rfl) ?_
          try simp only [List.cons_append, List.nil_append, List.append_nil]
          refine thenX_normal ?_
          refine X_block ?_
          refine X_conv ?_
          refine X_range (own := [blk bx [.int .i64 x.res, .slice x.tasks.oad x.tasks.l.length x.tasks.c, .slice x.modes.oad x.modes.l.length x.modes.c, .slice x.edges.oad x.edges.l.length x.edges.c] 95, blk bn [.int .i64 ((bq x.edges.l f.toNat k).getD k (0, 0)).1] 3, K]) (S1 := [blk b2 [.map (some bm)] 140, mapF bm fm, blk b4 [.slice a.oad a.l.length a.c] 41, row (.slice a.oad a.l.length a.c) 3 1 a.l.length (a.l.flatMap encI), blk bi [.int .i64 (k : Int)] 3]) rfl en_87 (nextItr bx bn x hx ((bq x.edges.l f.toNat k).getD k (0, 0)).1) (fun i S => ∃ (a : Arr Int) (fm : Int → Option Int), a.l = (qj x.edges.l f.toNat k i).map (·.1) ∧ a.Own ∧ MapOk (qj x.edges.l f.toNat k i) fm ∧ S = [blk b2 [.map (some bm)] 140, mapF bm fm, blk b4 [.slice a.oad a.l.length a.c] 41, row (.slice a.oad a.l.length a.c) 3 1 a.l.length (a.l.flatMap encI), blk bi [.int .i64 (k : Int)] 3]) (fun c i S => False) (show Take ([blk bx [.int .i64 x.res, .slice x.tasks.oad x.tasks.l.length x.tasks.c, .slice x.modes.oad x.modes.l.length x.modes.c, .slice x.edges.oad x.edges.l.length x.edges.c] 95, blk bn [.int .i64 ((bq x.edges.l f.toNat k).getD k (0, 0)).1] 3, K, blk b2 [.map (some bm)] 140, mapF bm fm, blk b4 [.slice a.oad a.l.length a.c] 41, row (.slice a.oad a.l.length a.c) 3 1 a.l.length (a.l.flatMap encI), blk bi [.int .i64 (k : Int)] 3]) _ _ from (by repeat first | with_reducible exact .nil _ | with_reducible exact .here _ _ | with_reducible exact Take.self _ | with_reducible apply Take.cons | with_reducible apply Out.there | with_reducible apply Take.skip | with_reducible exact Take.pre _ _ | with_reducible apply Out.app)) (⟨a, fm, ha, hao, hmo, rfl⟩) rfl (fun y hy => by obtain ⟨z, _, rfl⟩ := List.mem_map.1 hy; rfl) ?_ ?_ ?_
          · intro ly rec A2 i S2 hi hJ
            obtain ⟨a2, fm2, ha2, ha2o, hmo2, rfl⟩ := hJ
            rw [List.length_map] at hi
            obtain ⟨p, hp⟩ : ∃ p, (nxtA x ((bq x.edges.l f.toNat k).getD k (0, 0)).1)[i]? = some p := ⟨_, List.getElem?_eq_getElem hi⟩
            rw [getD_map hp]
            have hpn : (nxt x.edges.l ((bq x.edges.l f.toNat k).getD k (0, 0)).1)[i]? = some p.1 := by rw [← nxtI_all, List.getElem?_map, hp]; rfl
            have hjo := qj_ok (eok hr) hfn hk2 i
            have hjl := hjo.len
            have hal2 : a2.l.length = (qj x.edges.l f.toNat k i).length := by rw [ha2]; simp
            have hjk := qj_k hqk i
            have hgk2 : a2.l[k]? = some ((bq x.edges.l f.toNat k).getD k (0, 0)).1 := by rw [ha2]; exact (map_at hjk).1
            have hkl2 := (List.getElem?_eq_some_iff.1 hgk2).1
            refine X_region ?_
            refine XL_det .no (D_pure rfl) rfl ?_
            refine XL_nil ?_
            refine ⟨rfl, _, _, .cons (by repeat first | with_reducible exact .here _ _ | with_reducible apply Out.there | with_reducible apply Out.app) (Take.self _), fun rec2 => ?_⟩
            refine X_block ?_
            refine X_seq ?_
            refine X_seq ?_
            refine X_region ?_
            refine XL_det .no (D_ldo rfl (by repeat first | with_reducible exact .here _ _ | with_reducible apply Out.there | with_reducible apply Out.app) tk_140 (by rfl)) rfl ?_
            refine XL_det .no (D_pure rfl) rfl ?_
            refine XL_det .no (D_look2 rfl rfl (by repeat first | with_reducible exact .here _ _ | with_reducible apply Out.there | with_reducible apply Out.app) mapt_140) rfl ?_
            refine XL_det .no (D_pure rfl) rfl ?_
            refine XL_det .no (D_pure (v := .int .i64 ((fm2 p.1).getD 0)) rfl) rfl ?_
            refine XL_det .no (D_pure (v := .bool (fm2 p.1).isSome) rfl) rfl ?_
            refine XL_det .no (D_pure rfl) rfl ?_
            refine XL_det .no (D_pure rfl) rfl ?_
            refine XL_then ?_
            refine X_seq ?_
            refine X_region ?_
            refine XL_det .no (D_pure rfl) rfl ?_
            refine XL_then ?_
            refine X_cond rfl (fun h5 => ?_) (fun h5 => ?_)
            · try simp only [decide_eq_true_eq, decide_eq_false_iff_not, Bool.not_eq_true', Bool.not_eq_false', beq_iff_eq, bne_iff_ne, beq_eq_false_iff_ne, bne_eq_false_iff_eq, Int.not_lt, Int.not_le, gt_iff_lt, ge_iff_le, ne_eq] at h5
              refine X_exit ?_
              refine thenX_exit ?_
              refine inBlk_here ?_
              exact ⟨[blk b2 [.map (some bm)] 140, mapF bm fm2, blk b4 [.slice a2.oad a2.l.length a2.c] 41, row (.slice a2.oad a2.l.length a2.c) 3 1 a2.l.length (a2.l.flatMap encI), blk bi [.int .i64 (k : Int)] 3], _, (by repeat first | with_reducible exact .nil _ | with_reducible exact .here _ _ | with_reducible exact Take.self _ | with_reducible apply Take.cons | with_reducible apply Out.there | with_reducible apply Take.skip | with_reducible exact Take.pre _ _ | with_reducible apply Out.app), ⟨a2, fm2, by rw [qj_s hpn, push_t (hmo2.in h5), ha2], ha2o, by rw [qj_s hpn, push_t (hmo2.in h5)]; exact hmo2, rfl⟩⟩
            · try simp only [decide_eq_true_eq, decide_eq_false_iff_not, Bool.not_eq_true', Bool.not_eq_false', beq_iff_eq, bne_iff_ne, beq_eq_false_iff_ne, bne_eq_false_iff_eq, Int.not_lt, Int.not_le, gt_iff_lt, ge_iff_le, ne_eq] at h5
              refine X_skip ?_
              refine thenX_normal ?_
              refine X_seq ?_
              refine X_drawk [blk b2 [.map (some bm)] 140, blk b4 [.slice a2.oad a2.l.length a2.c] 41, row (.slice a2.oad a2.l.length a2.c) 3 1 a2.l.length (a2.l.flatMap encI), blk bi [.int .i64 (k : Int)] 3] mixed (by repeat first | with_reducible exact .nil _ | with_reducible exact .here _ _ | with_reducible exact Take.self _ | with_reducible apply Take.cons | with_reducible apply Out.there | with_reducible apply Take.skip | with_reducible exact Take.pre _ _ | with_reducible apply Out.app) ?_
              refine XA_det 0 rfl (by kernel_rfl) (by kernel_rfl) (by kernel_rfl) (by kernel_rfl) (fun _ _ _ _ h => h) .no (D_ldo rfl (by repeat first | with_reducible exact .here _ _ | with_reducible apply Out.there | with_reducible apply Out.app) tk_140 (by rfl)) rfl ?_
              refine XA_detp 1 rfl (by kernel_rfl) (by kernel_rfl) (by kernel_rfl) (fun _ _ _ _ h => h) .no (D_pureP rfl) rfl ?_
              refine XA_det 2 rfl (by kernel_rfl) (by kernel_rfl) (by kernel_rfl) (by kernel_rfl) (fun _ _ _ _ h => h) .no (D_ldo rfl (by repeat first | with_reducible exact .here _ _ | with_reducible apply Out.there | with_reducible apply Out.app) tk_41 (by rfl)) rfl ?_
              refine XA_det 3 rfl (by kernel_rfl) (by kernel_rfl) (by kernel_rfl) (by kernel_rfl) (fun _ _ _ _ h => h) .no (D_ldo rfl (by repeat first | with_reducible exact .here _ _ | with_reducible apply Out.there | with_reducible apply Out.app) tk_3 (by rfl)) rfl ?_
              refine XA_detp 4 rfl (by kernel_rfl) (by kernel_rfl) (by kernel_rfl) (fun _ _ _ _ h => h) .no (D_idxSoP rfl rfl slc_41 (a2).nil0 rfl (by omega) rfl) rfl ?_
              refine XA_det 5 rfl (by kernel_rfl) (by kernel_rfl) (by kernel_rfl) (by kernel_rfl) (fun _ _ _ _ h => h) .no (D_ela (enc := encI) (sz := 1) (i := k) (k := 0) (fun _ => rfl) rfl (by repeat first | with_reducible exact .here _ _ | with_reducible apply Out.there | with_reducible apply Out.app) (Rd_own ha2o rfl) tk_3 hgk2 rfl) rfl ?_
              refine XA_one 6 (by kernel_rfl) ?_
              refine XO_efk rfl .no (by repeat first | with_reducible exact .nil _ | with_reducible apply App.cons) (F_put rfl rfl rfl (by repeat first | with_reducible exact .here _ _ | with_reducible apply Out.there | with_reducible apply Out.app) mapt_140 (none_of h5)) (by repeat first | with_reducible exact .nil _ | with_reducible exact .here _ _ | with_reducible exact Take.self _ | with_reducible apply Take.cons | with_reducible apply Out.there | with_reducible apply Take.skip | with_reducible exact Take.pre _ _ | with_reducible apply Out.app) ?_
              refine XA_done (by kernel_rfl) ?_
              try simp only [List.cons_append, List.nil_append, List.append_nil]
              refine thenX_normal ?_
              refine X_region ?_
              refine XL_det .no (D_ldo rfl (by repeat first | with_reducible exact .here _ _ | with_reducible apply Out.there | with_reducible apply Out.app) tk_41 (by rfl)) rfl ?_
              refine XL_det .no (D_pure rfl) rfl ?_
              refine XL_bslice (cs := [.int .i64 p.1]) .no rfl slt_41 (by decide) (by decide) (by rfl) (by rfl) rfl rfl (fun b7 => ?_)
              refine XL_app1 (enc := encI) (c := a2) (y := p.1) (K := _) .no rfl rfl slt_41 (by repeat first | with_reducible exact .here _ _ | with_reducible apply Out.there | with_reducible apply Out.app) (by repeat first | with_reducible exact .here _ _ | with_reducible apply Out.there | with_reducible apply Out.app) (Rd_blk0) rfl rfl (by omega) (by omega) rfl (fun a3 ha3 ha3o => ?_)
              refine XL_efd .no (F_stl rfl rfl rfl (by repeat first | with_reducible exact .here _ _ | with_reducible apply Out.there | with_reducible apply Out.app) tk_41 (by repeat first | exact .zero _ _ _ | apply SetL.succ)) ?_
              refine XL_nil ?_
              refine inBlk_normal ?_
              exact ⟨[blk b2 [.map (some bm)] 140, mapF bm (updF fm2 p.1 ((bq x.edges.l f.toNat k).getD k (0, 0)).1), blk b4 [.slice a3.oad a3.l.length a3.c] 41, row (.slice a3.oad a3.l.length a3.c) 3 1 a3.l.length (a3.l.flatMap encI), blk bi [.int .i64 (k : Int)] 3], _, (by repeat first | with_reducible exact .nil _ | with_reducible exact .here _ _ | with_reducible exact Take.self _ | with_reducible apply Take.cons | with_reducible apply Out.there | with_reducible apply Take.skip | with_reducible exact Take.pre _ _ | with_reducible apply Out.app), ⟨a3, updF fm2 p.1 ((bq x.edges.l f.toNat k).getD k (0, 0)).1, by rw [qj_s hpn, push_f (hmo2.out h5), ha3, ha2, List.map_append]; rfl, ha3o, by rw [qj_s hpn]; exact hmo2.push hjo hjk (hmo2.out h5), rfl⟩⟩
          · intro dd0 S2 hJ
            obtain ⟨a2, fm2, ha2, ha2o, hmo2, rfl⟩ := hJ
            have hqa := qj_all hk2 (rfl : (nxt x.edges.l ((bq x.edges.l f.toNat k).getD k (0, 0)).1).length = _)
            rw [List.length_map, show (nxtA x ((bq x.edges.l f.toNat k).getD k (0, 0)).1).length = (nxt x.edges.l ((bq x.edges.l f.toNat k).getD k (0, 0)).1).length from by rw [← nxtI_all, List.length_map]] at ha2 hmo2
            simp only [List.cons_append, List.nil_append]
            refine ⟨_, fun w hw => St.dfrs_cons (by repeat first | with_reducible exact .nil _ | with_reducible exact .here _ _ | with_reducible exact Take.self _ | with_reducible apply Take.cons | with_reducible apply Out.there | with_reducible apply Take.skip | with_reducible exact Take.pre _ _ | with_reducible apply Out.app) hw, ?_⟩
            refine inBlk_normal ?_
            refine inBlk_normal ?_
            refine thenX_normal ?_
            refine X_seq ?_
            refine X_seq ?_
            refine X_region ?_
            refine XL_det .no (D_ldo rfl (by repeat first | with_reducible exact .here _ _ | with_reducible apply Out.there | with_reducible apply Out.app) tk_3 (by rfl)) rfl ?_
            refine XL_then ?_
            refine X_region ?_
            refine XL_alloc .no zero_3 rfl (fun b8 => ?_)
            refine XL_efd .no (F_stl rfl rfl rfl (by repeat first | with_reducible exact .here _ _ | with_reducible apply Out.there | with_reducible apply Out.app) tk_3 (by repeat first | exact .zero _ _ _ | apply SetL.succ)) ?_
            refine XL_then ?_
            refine X_region ?_
            refine XL_det .no (D_ldo rfl (by repeat first | with_reducible exact .here _ _ | with_reducible apply Out.there | with_reducible apply Out.app) tk_3 (by rfl)) rfl ?_
            refine XL_det .no (D_add rfl rfl (by omega) (by omega)) rfl ?_
            refine XL_efd .no (F_stl rfl rfl rfl (by repeat first | with_reducible exact .here _ _ | with_reducible apply Out.there | with_reducible apply Out.app) tk_3 (by repeat first | exact .zero _ _ _ | apply SetL.succ)) ?_
            refine XL_nil ?_
            refine loopQd_next (k + 1, a2, fm2, b8, dd0 :: dl) rfl ?_ ?_ ?_ ?_
            · (try dsimp only); exact ⟨by rw [← hqa]; exact Nat.le_trans hk2 (fold_pre (k : Int) ((nxt x.edges.l ((bq x.edges.l f.toNat k).getD k (0, 0)).1).take (nxt x.edges.l ((bq x.edges.l f.toNat k).getD k (0, 0)).1).length) (bq x.edges.l f.toNat k)).length_le, by rw [ha2, hqa], ha2o, by rw [← hqa]; exact hmo2⟩
            · (try dsimp only); omega
            · refine ⟨?_, ?_, ?_, ?_, ?_, ?_, trivial⟩ <;> rfl
            · (try dsimp only); exact ⟨_, (by repeat first | with_reducible exact .nil _ | with_reducible exact .here _ _ | exact .here _ _ | with_reducible exact Take.self _ | with_reducible apply Take.cons | with_reducible apply Out.there | with_reducible apply Take.skip | with_reducible exact Take.pre _ _ | with_reducible apply Out.app)⟩
          · intro dd0 c i S2 hi h
            exact h.elim
      · try simp only [decide_eq_true_eq, decide_eq_false_iff_not, Bool.not_eq_true', Bool.not_eq_false', beq_iff_eq, bne_iff_ne, beq_eq_false_iff_ne, bne_eq_false_iff_eq, Int.not_lt, Int.not_le, gt_iff_lt, ge_iff_le, ne_eq] at h2
        have hdn := bq_done (eok hr) hfn hk (by omega)
        have htq : t ∈ (bq x.edges.l f.toNat k).map (·.1) := by rw [← hdn]; exact htN
        have hpre : (bq x.edges.l f.toNat k) <+: bqE x f.toNat := by show _ <+: bq x.edges.l f.toNat x.modes.l.length; rw [hdn]; exact List.prefix_refl _
        refine X_exit ?_
        refine thenX_exit ?_
        refine loopQd_exit ?_
        refine inBlk_here ?_
        refine thenX_normal ?_
        refine X_seq ?_
        refine X_region ?_
        refine XL_det .no (D_pure rfl) rfl ?_
        refine XL_bslice (cs := [.int .i64 t]) .no rfl slt_41 (by decide) (by decide) (by rfl) (by rfl) rfl rfl (fun b9 => ?_)
        refine XL_det .no (D_pure rfl) rfl ?_
        refine XL_then ?_
        refine X_seq ?_
        refine X_block ?_
        refine X_blkrow (b := b9) (cs := encI t) encI [t] (by simp) (fun _ => rfl) (by simp [maxLen]) rfl (by repeat first | with_reducible exact .here _ _ | with_reducible apply Out.there | with_reducible apply Out.app) ?_
        refine X_loop (α := Arr Int × Nat) (fun ⟨o, j⟩ => o.Own ∧ WInv (bq x.edges.l f.toNat k) (fidx (bq x.edges.l f.toNat k) t) j o.l) (fun ⟨o, j⟩ => [(14, .slice o.oad o.l.length o.c), (1, .int .i64 f), (8, .pointer (some ⟨b2, 0, none⟩))]) (fun ⟨o, j⟩ => [blk b2 [.map (some bm)] 140, mapF bm fm, row (.slice o.oad o.l.length o.c) 3 1 o.l.length (o.l.flatMap encI), dfrs dl, K, Kt]) (fun ⟨o, j⟩ => j) (Arr.lit b9 [t] (by simp), (fidx (bq x.edges.l f.toNat k) t)) ?_ (by refine ⟨?_, ?_, ?_, trivial⟩ <;> rfl) (by repeat first | with_reducible exact .nil _ | with_reducible exact .here _ _ | with_reducible exact Take.self _ | with_reducible apply Take.cons | with_reducible apply Out.there | with_reducible apply Take.skip | with_reducible exact Take.pre _ _ | with_reducible apply Out.app) ?_
        · exact ⟨Arr.lit_own, winv0 htq⟩
        · rintro ⟨o, j⟩ ⟨hoo, ⟨m, p, r, hqj, hol, hch⟩⟩
          dsimp only
          have ho0 : o.l[0]? = some m := by rw [hol]; rfl
          have holn : o.l.length ≤ 1000 := by have h9 := congrArg List.length hch; have h8 := chain_le (bq x.edges.l f.toNat k) ((fidx (bq x.edges.l f.toNat k) t) + 1) (fidx (bq x.edges.l f.toNat k) t); have h7 := fidx_lt htq; rw [List.length_append] at h9; rw [hol, List.length_cons]; omega
          have hj0 := (List.getElem?_eq_some_iff.1 ho0).1
          refine X_seq ?_
          refine X_seq ?_
          refine X_region ?_
          refine XL_det .no (D_pure rfl) rfl ?_
          refine XL_det .no (D_idxSo (j := 0) rfl rfl slc_41 (o).nil0 rfl (by omega) rfl) rfl ?_
          refine XL_det .no (D_ela (enc := encI) (sz := 1) (i := 0) (k := 0) (fun _ => rfl) rfl (by repeat first | with_reducible exact .here _ _ | with_reducible apply Out.there | with_reducible apply Out.app) (Rd_own hoo rfl) tk_3 ho0 rfl) rfl ?_
          refine XL_det .no (D_pure rfl) rfl ?_
          refine XL_det .no (D_pure rfl) rfl ?_
          refine XL_then ?_
          refine X_cond rfl (fun h6 => ?_) (fun h6 => ?_)
          · try simp only [decide_eq_true_eq, decide_eq_false_iff_not, Bool.not_eq_true', Bool.not_eq_false', beq_iff_eq, bne_iff_ne, beq_eq_false_iff_ne, bne_eq_false_iff_eq, Int.not_lt, Int.not_le, gt_iff_lt, ge_iff_le, ne_eq] at h6
            have hws := winv_s hqo hmo hqj hch (by omega)
            refine X_skip ?_
            refine thenX_normal ?_
            refine X_block ?_
            refine X_drawk [blk b2 [.map (some bm)] 140, mapF bm fm, row (.slice o.oad o.l.length o.c) 3 1 o.l.length (o.l.flatMap encI)] mixed (by repeat first | with_reducible exact .nil _ | with_reducible exact .here _ _ | with_reducible exact Take.self _ | with_reducible apply Take.cons | with_reducible apply Out.there | with_reducible apply Take.skip | with_reducible exact Take.pre _ _ | with_reducible apply Out.app) ?_
            refine XA_det 0 rfl (by kernel_rfl) (by kernel_rfl) (by kernel_rfl) (by kernel_rfl) (fun _ _ _ _ h => h) .no (D_ldo rfl (by repeat first | with_reducible exact .here _ _ | with_reducible apply Out.there | with_reducible apply Out.app) tk_140 (by rfl)) rfl ?_
            refine XA_detp 1 rfl (by kernel_rfl) (by kernel_rfl) (by kernel_rfl) (fun _ _ _ _ h => h) .no (D_pureP rfl) rfl ?_
            refine XA_detp 2 rfl (by kernel_rfl) (by kernel_rfl) (by kernel_rfl) (fun _ _ _ _ h => h) .no (D_idxSoP (j := 0) rfl rfl slc_41 (o).nil0 rfl (by omega) rfl) rfl ?_
            refine XA_det 3 rfl (by kernel_rfl) (by kernel_rfl) (by kernel_rfl) (by kernel_rfl) (fun _ _ _ _ h => h) .no (D_ela (enc := encI) (sz := 1) (i := 0) (k := 0) (fun _ => rfl) rfl (by repeat first | with_reducible exact .here _ _ | with_reducible apply Out.there | with_reducible apply Out.app) (Rd_own hoo rfl) tk_3 ho0 rfl) rfl ?_
            refine XA_det 4 rfl (by kernel_rfl) (by kernel_rfl) (by kernel_rfl) (by kernel_rfl) (fun _ _ _ _ h => h) .no (D_look rfl rfl (by repeat first | with_reducible exact .here _ _ | with_reducible apply Out.there | with_reducible apply Out.app) mapt_140) rfl ?_
            refine XA_detp 6 rfl (by kernel_rfl) (by kernel_rfl) (by kernel_rfl) (fun _ _ _ _ h => h) .no (D_pureP rfl) rfl ?_
            refine XA_one 5 (by kernel_rfl) ?_
            refine XO_bslice (cs := [.int .i64 ((fm m).getD 0)]) rfl .no rfl slt_41 (by decide) (by decide) (by rfl) (by rfl) rfl rfl (fun bd77 => ?_)
            refine XA_blkrow (b := bd77) 1 1 (.here _ _) rfl rfl ?_
            refine XA_one 7 (by kernel_rfl) ?_
            refine XO_appa (enc := encI) (c := Arr.lit bd77 [(fm m).getD 0] (by simp)) (b := o) rfl .no rfl rfl slt_41 (.here _ _) (by repeat first | with_reducible exact .nil _ | with_reducible apply App.cons) (by repeat first | with_reducible exact .here _ _ | with_reducible apply Out.there | with_reducible apply Out.app) (Rd_own hoo rfl) (fun _ => rfl) (fun _ => rfl) (by show 1 + o.l.length ≤ _; omega) (by show (1 + o.l.length) * _ ≤ _; omega) rfl (fun o3 ho3 ho3o => ?_)
            refine XA_detp 8 rfl (by kernel_rfl) (by kernel_rfl) (by kernel_rfl) (fun _ _ _ _ h => h) .no (D_pureP rfl) rfl ?_
            refine XA_done (by kernel_rfl) ?_
            try simp only [List.cons_append, List.nil_append, List.append_nil]
            refine inBlk_normal ?_
            refine loopQ_next (o3, p.toNat) ?_ ?_ ?_ ?_
            · (try dsimp only); exact ⟨ho3o, by rw [ho3, hol]; exact hws.1⟩
            · (try dsimp only); exact hws.2
            · refine ⟨?_, ?_, ?_, trivial⟩ <;> rfl
            · (try dsimp only); exact ⟨_, (by repeat first | with_reducible exact .nil _ | with_reducible exact .here _ _ | with_reducible exact Take.self _ | with_reducible apply Take.cons | with_reducible apply Out.there | with_reducible apply Take.skip | with_reducible exact Take.pre _ _ | with_reducible apply Out.app)⟩
          · try simp only [decide_eq_true_eq, decide_eq_false_iff_not, Bool.not_eq_true', Bool.not_eq_false', beq_iff_eq, bne_iff_ne, beq_eq_false_iff_ne, bne_eq_false_iff_eq, Int.not_lt, Int.not_le, gt_iff_lt, ge_iff_le, ne_eq] at h6
            refine X_undfrs (by repeat first | with_reducible exact .nil _ | with_reducible exact .here _ _ | with_reducible exact Take.self _ | with_reducible apply Take.cons | with_reducible apply Out.there | with_reducible apply Take.skip | with_reducible exact Take.pre _ _ | with_reducible apply Out.app) ?_
            refine X_exit ?_
            refine thenX_exit ?_
            refine loopQ_exit ?_
            refine inBlk_here ?_
            refine thenX_normal ?_
            refine X_seq ?_
            refine X_region ?_
            refine XL_det .no (D_pure rfl) rfl ?_
            refine XL_det .no (D_pure rfl) rfl ?_
            refine XL_det .no (D_pure rfl) rfl ?_
            refine XL_then ?_
            refine X_ret ?_
            refine scopeQ_ret ?_
            refine ret_ok (show Take (List.map dfr dl) _ _ from Take.pre _ _) (res_tmp2 rfl rfl rfl) ?_
            exact ⟨[row (.slice o.oad o.l.length o.c) 3 1 o.l.length (o.l.flatMap encI), K, Kt], ⟨o, ⟨by unfold pathG; rw [if_pos h1, ← path_fin hpre hqo hqoN htq, hol]; exact winv_e hqo hqj hch (by omega), hoo⟩, by rw [h1], rfl⟩, _, (by repeat first | with_reducible exact .nil _ | with_reducible exact .here _ _ | with_reducible exact Take.self _ | with_reducible apply Take.cons | with_reducible apply Out.there | with_reducible apply Take.skip | with_reducible exact Take.pre _ _ | with_reducible apply Out.app)⟩

end Go.Proofs.YtdimcgedcndndaaDoor
end

section
namespace Go.Proofs.YtdimcgedcndndaaDoor
open Go Go.Sl
set_option linter.unusedVariables false
set_option linter.unusedSimpArgs false
set_option maxRecDepth 4000
variable {B : Nat} {K : Asrt B}
theorem bld_100 : bldOf Tryd.prog 100 = some ([.int .i64 0, .int .i64 0, .int .i64 0, .int .i64 0, .int .i64 0, .int .i64 0, .int .i64 0, .int .i64 0, .int .i64 0, .int .i64 0, .int .i64 0, .int .i64 0, .int .i64 0, .int .i64 0, .int .i64 0, .int .i64 0, .int .i64 0, .int .i64 0, .int .i64 0, .int .i64 0, .int .i64 0, .int .i64 0, .int .i64 0], [(0, 1), (1, 1), (2, 1), (3, 16), (19, 4)]) := by kernel_rfl
theorem bld_95 : bldOf Tryd.prog 95 = some ([.int .i64 0, .slice none 0 0, .slice none 0 0, .slice none 0 0], [(0, 1), (1, 1), (2, 1), (3, 1)]) := by kernel_rfl
theorem en_46 : Go.Proofs.Enters Tryd.prog 46 := Go.Proofs.enters_of Tryd.func46 (by kernel_rfl) rfl
theorem en_47 : Go.Proofs.Enters Tryd.prog 47 := Go.Proofs.enters_of Tryd.func47 (by kernel_rfl) rfl
theorem en_50 : Go.Proofs.Enters Tryd.prog 50 := Go.Proofs.enters_of Tryd.func50 (by kernel_rfl) rfl
theorem en_51 : Go.Proofs.Enters Tryd.prog 51 := Go.Proofs.enters_of Tryd.func51 (by kernel_rfl) rfl
theorem en_53 : Go.Proofs.Enters Tryd.prog 53 := Go.Proofs.enters_of Tryd.func53 (by kernel_rfl) rfl
theorem slt_92 : slT Tryd.prog 92 = some (133, 2, 32, [.int .u32 0, .slice none 0 0]) := by kernel_rfl
theorem slt_93 : slT Tryd.prog 93 = some (100, 23, 184, [.int .i64 0, .int .i64 0, .int .i64 0, .int .i64 0, .int .i64 0, .int .i64 0, .int .i64 0, .int .i64 0, .int .i64 0, .int .i64 0, .int .i64 0, .int .i64 0, .int .i64 0, .int .i64 0, .int .i64 0, .int .i64 0, .int .i64 0, .int .i64 0, .int .i64 0, .int .i64 0, .int .i64 0, .int .i64 0, .int .i64 0]) := by kernel_rfl
theorem zero_95 : zeroOf Tryd.prog 95 = some [.int .i64 0, .slice none 0 0, .slice none 0 0, .slice none 0 0] := by kernel_rfl

def eE (a b : Int) : Nat → Int
  | 0 => a
  | 1 => b
  | _ => 0
abbrev zM : Mode := ⟨0#32, Arr.emp⟩
abbrev edG : List (Nat → Int) := [eE 0 1, eE 1 2, eE 0 2]
abbrev imgG (bm be : Nat) : Img := ⟨0, Arr.emp, Arr.lit bm [zM, zM, zM] (by simp), Arr.lit be edG (by simp)⟩
theorem imgG_ok (bm be : Nat) : GOk (imgG bm be) := ⟨by show 1 ≤ 3 ∧ 3 ≤ 8; omega, by show 3 ≤ 24; omega, by
  intro e he
  have he : e ∈ edG := he
  simp at he
  rcases he with rfl | rfl | rfl
  · show (0 ≤ (0 : Int) ∧ (0 : Int) < 3) ∧ (0 ≤ (1 : Int) ∧ (1 : Int) < 3); omega
  · show (0 ≤ (1 : Int) ∧ (1 : Int) < 3) ∧ (0 ≤ (2 : Int) ∧ (2 : Int) < 3); omega
  · show (0 ≤ (0 : Int) ∧ (0 : Int) < 3) ∧ (0 ≤ (2 : Int) ∧ (2 : Int) < 3); omega⟩
theorem imgG_in {K : Asrt B} {bm be : Nat} (h1 : Rd K ⟨bm, 0, none⟩ ([zM, zM, zM].flatMap encM)) (h2 : Rd K ⟨be, 0, none⟩ (edG.flatMap encE)) : (imgG bm be).In K :=
  ⟨fun D w _ k hk => absurd hk (Nat.not_lt_zero k), h1, h2, fun m hm => by
    have hm : m ∈ [zM, zM, zM] := hm
    simp at hm; subst hm
    exact fun D w _ k hk => absurd hk (Nat.not_lt_zero k)⟩
theorem reach42 (bm be : Nat) : hasB (reachS (imgG bm be) 0) 2 = true := by kernel_rfl
theorem path42 (bm be : Nat) : pathG (imgG bm be) 0 2 = [0, 2] := by kernel_rfl
theorem dead42 (bm be : Nat) : deadL (imgG bm be) = [2] := by kernel_rfl
theorem round42 (bm be : Nat) : roundB (imgG bm be) = false := by kernel_rfl
theorem next42 (bm be : Nat) : nextL (imgG bm be) 0 = [1, 0, 2, 2] := by kernel_rfl
theorem btr {m n : Int} (h : m = n) : some (Value.bool (m == n)) = some (.bool true) := by simp [h]

theorem galive {Kt : Asrt B} (hK : Rd Kt ⟨0, 0, none⟩ (tab32.map fun m => .int .u8 m)) : Ctr Tryd.prog B 52 [] [Kt] (fun v S => v = .bool true ∧ S = [Kt]) := by
  refine Ctr_of_X (N := 38) Tryd.func52 rfl (by simp) rfl ?_
  intro w0 D0
  refine X_seq ?_
  refine X_region ?_
  refine XL_det .no (D_pure rfl) rfl ?_
  refine XL_then ?_
  refine X_seq ?_
  refine X_region ?_
  refine XL_makec (cs := [zM, zM, zM].flatMap encM) .no rfl rfl slt_92 (by decide) (by decide) (by kernel_rfl) rfl rfl (fun bM => ?_)
  refine XL_det .no (D_build [_, _, _, _, _, _, _, _, _, _, _, _, _, _, _, _, _, _, _, _, _, _, _] rfl bld_100 (by rfl)) rfl ?_
  refine XL_det .no (D_build [_, _, _, _, _, _, _, _, _, _, _, _, _, _, _, _, _, _, _, _, _, _, _] rfl bld_100 (by rfl)) rfl ?_
  refine XL_det .no (D_build [_, _, _, _, _, _, _, _, _, _, _, _, _, _, _, _, _, _, _, _, _, _, _] rfl bld_100 (by rfl)) rfl ?_
  refine XL_bslice (cs := (edG.flatMap encE)) .no rfl slt_93 (by decide) (by decide) (by rfl) (by rfl) rfl rfl (fun b1 => ?_)
  refine XL_det .no (D_build [_, _, _, _] rfl bld_95 (by rfl)) rfl ?_
  refine XL_alloc .no zero_95 rfl (fun b2 => ?_)
  refine XL_efd .no (F_stw rfl rfl rfl (by repeat first | with_reducible exact .here _ _ | with_reducible apply Out.there | with_reducible apply Out.app) tk_95 rfl rfl) ?_
  refine XL_then ?_
  refine X_seq ?_
  refine X_region ?_
  refine XL_det .no (D_ldso (vs := [.int .i64 0, .slice none 0 0, .slice (some ⟨bM, 0, none⟩) 3 3, .slice (some ⟨b1, 0, none⟩) 3 3]) rfl (by repeat first | with_reducible exact .here _ _ | with_reducible apply Out.there | with_reducible apply Out.app) tk_95 rfl (by rfl)) rfl ?_
  refine XL_both (blk bM ([zM, zM, zM].flatMap encM) 133) (blk b1 (edG.flatMap encE) 100) (by repeat first | with_reducible exact .nil _ | with_reducible exact .here _ _ | with_reducible exact Take.self _ | with_reducible apply Take.cons | with_reducible apply Out.there | with_reducible apply Take.skip | with_reducible exact Take.pre _ _ | with_reducible apply Out.app) ?_
  refine XL_call .no en_53 rfl (gpath (K := (both (blk bM ([zM, zM, zM].flatMap encM) 133) (blk b1 (edG.flatMap encE) 100))) (imgG bM b1) (imgG_in (Rd.both1 Rd_blk0) (Rd.both2 Rd_blk0)) (imgG_ok _ _) 0 2 hK) (by repeat first | with_reducible exact .nil _ | with_reducible exact .here _ _ | with_reducible exact Take.self _ | with_reducible apply Take.cons | with_reducible apply Out.there | with_reducible apply Take.skip | with_reducible exact Take.pre _ _ | with_reducible apply Out.app) rfl ?_
  rintro _ _ ⟨o, ⟨ho, hoo⟩, rfl, rfl⟩
  simp only [List.cons_append, List.nil_append]
  rw [path42] at ho
  rw [reach42]
  refine XL_det .no (D_pure rfl) rfl ?_
  refine XL_det .no (D_pure (v := .slice o.oad o.l.length o.c) rfl) rfl ?_
  refine XL_det .no (D_pure (v := .bool true) rfl) rfl ?_
  refine XL_det .no (D_pure rfl) rfl ?_
  refine XL_det .no (D_pure rfl) rfl ?_
  refine XL_then ?_
  refine X_seq ?_
  refine X_region ?_
  refine XL_det .no (D_pure rfl) rfl ?_
  refine XL_det .no (D_pure rfl) rfl ?_
  refine XL_det (.yes 16 rfl rfl rfl) (D_pure rfl) rfl ?_
  refine XL_bslice (cs := [.int .i64 0, .int .i64 2]) (.yes 16 rfl rfl rfl) rfl slt_41 (by decide) (by decide) (by rfl) (by rfl) rfl rfl (fun b3 => ?_)
  refine XL_callk (.yes 16 rfl rfl rfl) en_46 rfl (lrow (K1 := row (.slice o.oad o.l.length o.c) 3 1 o.l.length (o.l.flatMap encI)) (K2 := blk b3 [.int .i64 0, .int .i64 2] 3) o (Arr.lit b3 [0, 2] (by simp)) (Rd_own hoo rfl) Rd_blk0) (by repeat first | with_reducible exact .nil _ | with_reducible exact .here _ _ | with_reducible exact Take.self _ | with_reducible apply Take.cons | with_reducible apply Out.there | with_reducible apply Take.skip | with_reducible exact Take.pre _ _ | with_reducible apply Out.app) rfl ?_
  rw [decide_eq_true (show o.l = (Arr.lit b3 [0, 2] (by simp) : Arr Int).l from ho)]
  refine XL_det .no (D_pure rfl) rfl ?_
  refine XL_det .no (D_pure rfl) rfl ?_
  refine XL_det (.yes 21 rfl rfl rfl) (D_ldso (vs := [.int .i64 0, .slice none 0 0, .slice (some ⟨bM, 0, none⟩) 3 3, .slice (some ⟨b1, 0, none⟩) 3 3]) rfl (by repeat first | with_reducible exact .here _ _ | with_reducible apply Out.there | with_reducible apply Out.app) tk_95 rfl (by rfl)) rfl ?_
  refine XL_call (.yes 21 rfl rfl rfl) en_50 rfl (ldead (K := (both (blk bM ([zM, zM, zM].flatMap encM) 133) (blk b1 (edG.flatMap encE) 100))) (imgG bM b1) (imgG_in (Rd.both1 Rd_blk0) (Rd.both2 Rd_blk0)) (by show 3 ≤ 60; omega)) (by repeat first | with_reducible exact .nil _ | with_reducible exact .here _ _ | with_reducible exact Take.self _ | with_reducible apply Take.cons | with_reducible apply Out.there | with_reducible apply Take.skip | with_reducible exact Take.pre _ _ | with_reducible apply Out.app) rfl ?_
  rintro _ _ ⟨o2, ⟨ho2, ho2o⟩, rfl, rfl⟩
  simp only [List.cons_append, List.nil_append]
  rw [dead42] at ho2
  refine XL_bslice (cs := [.int .i64 2]) (.yes 21 rfl rfl rfl) rfl slt_41 (by decide) (by decide) (by rfl) (by rfl) rfl rfl (fun b4 => ?_)
  refine XL_callk (.yes 21 rfl rfl rfl) en_46 rfl (lrow (K1 := row (.slice o2.oad o2.l.length o2.c) 3 1 o2.l.length (o2.l.flatMap encI)) (K2 := blk b4 [.int .i64 2] 3) o2 (Arr.lit b4 [2] (by simp)) (Rd_own ho2o rfl) Rd_blk0) (by repeat first | with_reducible exact .nil _ | with_reducible exact .here _ _ | with_reducible exact Take.self _ | with_reducible apply Take.cons | with_reducible apply Out.there | with_reducible apply Take.skip | with_reducible exact Take.pre _ _ | with_reducible apply Out.app) rfl ?_
  rw [decide_eq_true (show o2.l = (Arr.lit b4 [2] (by simp) : Arr Int).l from ho2)]
  refine XL_det .no (D_pure rfl) rfl ?_
  refine XL_det .no (D_pure rfl) rfl ?_
  refine XL_det (.yes 27 rfl rfl rfl) (D_ldso (vs := [.int .i64 0, .slice none 0 0, .slice (some ⟨bM, 0, none⟩) 3 3, .slice (some ⟨b1, 0, none⟩) 3 3]) rfl (by repeat first | with_reducible exact .here _ _ | with_reducible apply Out.there | with_reducible apply Out.app) tk_95 rfl (by rfl)) rfl ?_
  refine XL_callk (.yes 27 rfl rfl rfl) en_51 rfl (ground (K := (both (blk bM ([zM, zM, zM].flatMap encM) 133) (blk b1 (edG.flatMap encE) 100))) (imgG bM b1) (imgG_in (Rd.both1 Rd_blk0) (Rd.both2 Rd_blk0)) (imgG_ok _ _) hK) (by repeat first | with_reducible exact .nil _ | with_reducible exact .here _ _ | with_reducible exact Take.self _ | with_reducible apply Take.cons | with_reducible apply Out.there | with_reducible apply Take.skip | with_reducible exact Take.pre _ _ | with_reducible apply Out.app) rfl ?_
  rw [round42]
  refine XL_det (.yes 27 rfl rfl rfl) (D_pure rfl) rfl ?_
  refine XL_det .no (D_pure rfl) rfl ?_
  refine XL_det .no (D_pure rfl) rfl ?_
  refine XL_det (.yes 32 rfl rfl rfl) (D_ldso (vs := [.int .i64 0, .slice none 0 0, .slice (some ⟨bM, 0, none⟩) 3 3, .slice (some ⟨b1, 0, none⟩) 3 3]) rfl (by repeat first | with_reducible exact .here _ _ | with_reducible apply Out.there | with_reducible apply Out.app) tk_95 rfl (by rfl)) rfl ?_
  refine XL_call (.yes 32 rfl rfl rfl) en_47 rfl (lnext (K := (both (blk bM ([zM, zM, zM].flatMap encM) 133) (blk b1 (edG.flatMap encE) 100))) (imgG bM b1) (imgG_in (Rd.both1 Rd_blk0) (Rd.both2 Rd_blk0)) (by show 3 ≤ 60; omega) 0) (by repeat first | with_reducible exact .nil _ | with_reducible exact .here _ _ | with_reducible exact Take.self _ | with_reducible apply Take.cons | with_reducible apply Out.there | with_reducible apply Take.skip | with_reducible exact Take.pre _ _ | with_reducible apply Out.app) rfl ?_
  rintro _ _ ⟨o3, ⟨ho3, ho3o⟩, rfl, rfl⟩
  simp only [List.cons_append, List.nil_append]
  rw [next42] at ho3
  refine XL_bslice (cs := [.int .i64 1, .int .i64 0, .int .i64 2, .int .i64 2]) (.yes 32 rfl rfl rfl) rfl slt_41 (by decide) (by decide) (by rfl) (by rfl) rfl rfl (fun b5 => ?_)
  refine XL_callk (.yes 32 rfl rfl rfl) en_46 rfl (lrow (K1 := row (.slice o3.oad o3.l.length o3.c) 3 1 o3.l.length (o3.l.flatMap encI)) (K2 := blk b5 [.int .i64 1, .int .i64 0, .int .i64 2, .int .i64 2] 3) o3 (Arr.lit b5 [1, 0, 2, 2] (by simp)) (Rd_own ho3o rfl) Rd_blk0) (by repeat first | with_reducible exact .nil _ | with_reducible exact .here _ _ | with_reducible exact Take.self _ | with_reducible apply Take.cons | with_reducible apply Out.there | with_reducible apply Take.skip | with_reducible exact Take.pre _ _ | with_reducible apply Out.app) rfl ?_
  rw [decide_eq_true (show o3.l = (Arr.lit b5 [1, 0, 2, 2] (by simp) : Arr Int).l from ho3)]
  refine XL_det .no (D_pure rfl) rfl ?_
  refine XL_det .no (D_pure rfl) rfl ?_
  refine XL_then ?_
  refine X_ret ?_
  refine ret_ok (.nil _) (res_tmp rfl rfl) ?_
  exact ⟨_, ⟨rfl, rfl⟩, _, (by repeat first | with_reducible exact .nil _ | with_reducible exact .here _ _ | with_reducible exact Take.self _ | with_reducible apply Take.cons | with_reducible apply Out.there | with_reducible apply Take.skip | with_reducible exact Take.pre _ _ | with_reducible apply Out.app)⟩

end Go.Proofs.YtdimcgedcndndaaDoor
end
