/- A small separation logic over the kit's calculus: assertions with footprints, rules for code, lists of operations, drawn regions, calls, and the frame of a statement that says true at every input. Generic in the program. My own work. -/
import Derived.WalkKit
import Derived.RangeFuncNested
import Derived.RangeFuncLeaves
import Derived.OrdersIn
import Derived.Shelf.Abstract
import Derived.DeepKeys
import Derived.ProofKit
import Derived.OpenShut
import Derived.ShutString
import Derived.ChangeOld
import Derived.Below
import Derived.Carry
import Derived.Deep.Slices
import Derived.LaidLaws
import Derived.LaidHandle
import Derived.MakeChecks
import Derived.FnData
import Derived.Stop.Joined
import Derived.Laws.OwnMore
import Derived.Laws.AppendOwn
import Derived.Laws.BytesArg
section
/- A small separation logic over the walk's calculus: assertions with footprints, symbolic environments, rules. -/
namespace Go.Sl
open Go
set_option linter.unusedVariables false

/-! ### Assertions -/

/-- What is said of a set D of blocks; it hangs on those blocks, and on the blocks below B, alone. -/
structure Asrt (B : Nat) where
  holds : (Nat → Prop) → World → Prop
  stable : ∀ {D : Nat → Prop} {w w' : World}, holds D w → (∀ k, k < B ∨ D k → w'.heap[k]? = w.heap[k]?) → holds D w'

variable {B : Nat}

/-- One block, whole. -/
def obj (b : Nat) (o : Obj) : Asrt B where
  holds D w := (∀ k, D k ↔ k = b) ∧ w.heap[b]? = some o
  stable := fun h hs => ⟨h.1, (hs b (.inr ((h.1 b).2 rfl))).trans h.2⟩

/-- Cells. -/
abbrev blk (b : Nat) (cs : List Value) (t : TypeId) : Asrt B := obj b (.cells cs.toArray t (0, 0))

/-- What lies below B is as it is in W. -/
def old (W : World) : Asrt B where
  holds D w := (∀ k, ¬ D k) ∧ ∀ k, k < B → w.heap[k]? = W.heap[k]?
  stable := fun h hs => ⟨h.1, fun k hk => (hs k (.inl hk)).trans (h.2 k hk)⟩

/-- A slice value of the call's own: nil, or the head of a row with room behind it. 'sz' cells an element. -/
def row (v : Value) (e : TypeId) (sz n : Nat) (xs : List Value) : Asrt B where
  holds D w := w.ownsRow B e sz v n xs ∧ ∀ k, D k ↔ v.ownBlock = some k
  stable := fun {D w w'} h hs => by
    obtain ⟨⟨h1, h2⟩, h3⟩ := h
    refine ⟨⟨h1, ?_⟩, h3⟩
    rcases h2 with h2 | ⟨g, cap, cur, hv, hg, hh, r⟩
    · exact .inl h2
    · exact .inr ⟨g, cap, cur, hv, hg, (hs g (.inr ((h3 g).2 (by rw [hv]; rfl)))).trans hh, r⟩

/-- Assertions side by side. -/
def Sts : List (Asrt B) → (Nat → Prop) → World → Prop
  | [], D, _ => ∀ k, ¬ D k
  | A :: L, D, w => ∃ D1 D2, (∀ k, D k ↔ D1 k ∨ D2 k) ∧ (∀ k, D1 k → D2 k → False) ∧ A.holds D1 w ∧ Sts L D2 w

theorem Sts.stable : ∀ {L : List (Asrt B)} {D : Nat → Prop} {w w' : World}, Sts L D w → (∀ k, k < B ∨ D k → w'.heap[k]? = w.heap[k]?) → Sts L D w'
  | [], _, _, _, h, _ => h
  | A :: L, D, w, w', ⟨D1, D2, hD, hd, h1, h2⟩, hs =>
    ⟨D1, D2, hD, hd, A.stable h1 (fun k hk => hs k (hk.imp id fun h => (hD k).2 (.inl h))), Sts.stable h2 (fun k hk => hs k (hk.imp id fun h => (hD k).2 (.inr h)))⟩

theorem Sts.append : ∀ {L1 L2 : List (Asrt B)} {D : Nat → Prop} {w : World}, Sts (L1 ++ L2) D w →
    ∃ D1 D2, (∀ k, D k ↔ D1 k ∨ D2 k) ∧ (∀ k, D1 k → D2 k → False) ∧ Sts L1 D1 w ∧ Sts L2 D2 w
  | [], L2, D, w, h => ⟨fun _ => False, D, fun k => by simp, fun _ h _ => h, fun _ h => h, h⟩
  | A :: L1, L2, D, w, ⟨Da, Db, hD, hd, ha, hb⟩ => by
    obtain ⟨D1, D2, hD', hd', h1, h2⟩ := Sts.append hb
    refine ⟨fun k => Da k ∨ D1 k, D2, fun k => ?_, fun k h h2 => ?_, ⟨Da, D1, fun k => Iff.rfl, fun k ha h1 => hd k ha ((hD' k).2 (.inl h1)), ha, h1⟩, h2⟩
    · rw [hD k, hD' k, or_assoc]
    · rcases h with h | h
      · exact hd k h ((hD' k).2 (.inr h2))
      · exact hd' k h h2

theorem Sts.join : ∀ {L1 L2 : List (Asrt B)} {D D1 D2 : Nat → Prop} {w : World}, (∀ k, D k ↔ D1 k ∨ D2 k) → (∀ k, D1 k → D2 k → False) → Sts L1 D1 w → Sts L2 D2 w → Sts (L1 ++ L2) D w
  | [], L2, D, D1, D2, w, hD, _, h1, h2 => by
    have : D = D2 := funext fun k => propext ⟨fun h => ((hD k).1 h).resolve_left (h1 k), fun h => (hD k).2 (.inr h)⟩
    rw [this]; exact h2
  | A :: L1, L2, D, D1, D2, w, hD, hd, ⟨Da, Db, hD', hd', ha, hb⟩, h2 =>
    ⟨Da, fun k => Db k ∨ D2 k, fun k => by rw [hD k, hD' k, or_assoc], fun k h1 h => h.elim (hd' k h1) (fun h2 => hd k ((hD' k).2 (.inl h1)) h2), ha,
      Sts.join (fun _ => Iff.rfl) (fun k h h2 => hd k ((hD' k).2 (.inr h)) h2) hb h2⟩

/-- 'x' taken out of 'S' leaves 'R'. -/
inductive Out {α : Type} : α → List α → List α → Prop
  | here (x : α) (S : List α) : Out x (x :: S) S
  | there {x : α} {S R : List α} (y : α) (h : Out x S R) : Out x (y :: S) (y :: R)

/-- The list 'L' taken out of 'S' leaves 'R'. -/
inductive Take {α : Type} : List α → List α → List α → Prop
  | nil (S : List α) : Take [] S S
  | cons {x : α} {L S R T : List α} (h : Out x S R) (t : Take L R T) : Take (x :: L) S T

/-- 'L ++ S', reckoned. -/
inductive App {α : Type} : List α → List α → List α → Prop
  | nil (S : List α) : App [] S S
  | cons {x : α} {L S T : List α} (h : App L S T) : App (x :: L) S (x :: T)
theorem App.eq {α : Type} {L S T : List α} (h : App L S T) : L ++ S = T := by
  induction h with
  | nil S => rfl
  | cons h ih => rw [List.cons_append, ih]

theorem Take.self {α : Type} : ∀ (S : List α), Take S S []
  | [] => .nil _
  | x :: S => .cons (.here x S) (Take.self S)

theorem Out.sts {x : Asrt B} {S R : List (Asrt B)} (h : Out x S R) : ∀ {D w}, Sts S D w → Sts (x :: R) D w := by
  induction h with
  | here S => exact fun h => h
  | there y h ih =>
    intro D w ⟨D1, D2, hD, hd, h1, h2⟩
    obtain ⟨D3, D4, hD', hd', h3, h4⟩ := ih h2
    refine ⟨D3, fun k => D1 k ∨ D4 k, fun k => ?_, fun k hk h => ?_, h3, D1, D4, fun _ => Iff.rfl, fun k hk h => hd k hk ((hD' k).2 (.inr h)), h1, h4⟩
    · rw [hD k, hD' k]; exact ⟨fun h => h.elim (fun h => .inr (.inl h)) (fun h => h.elim .inl (fun h => .inr (.inr h))), fun h => h.elim (fun h => .inr (.inl h)) (fun h => h.elim .inl (fun h => .inr (.inr h)))⟩
    · exact h.elim (fun h => hd k h ((hD' k).2 (.inl hk))) (fun h => hd' k hk h)

theorem Take.sts {L S R : List (Asrt B)} (h : Take L S R) : ∀ {D w}, Sts S D w → Sts (L ++ R) D w := by
  induction h with
  | nil S => exact fun h => h
  | cons h t ih =>
    intro D w hS
    obtain ⟨D1, D2, hD, hd, h1, h2⟩ := h.sts hS
    exact ⟨D1, D2, hD, hd, h1, ih h2⟩

/-! ### The state -/

/-- Of what was in w1, all outside D1 is as it was. -/
structure Frm (w1 : World) (D1 : Nat → Prop) (w : World) : Prop where
  os : w.os = w1.os
  tape : w.tape = w1.tape
  output : w.output = w1.output
  size : w1.heap.size ≤ w.heap.size
  same : ∀ k, k < w1.heap.size → ¬ D1 k → w.heap[k]? = w1.heap[k]?

theorem Frm.refl (w : World) (D : Nat → Prop) : Frm w D w := ⟨rfl, rfl, rfl, Nat.le_refl _, fun _ _ _ => rfl⟩

structure Amb where
  w1 : World
  D1 : Nat → Prop

/-- The state: the assertions hold of blocks from B on, which were the call's at its beginning or are new; all else is as it was. -/
def St (B : Nat) (A : Amb) (S : List (Asrt B)) (w : World) : Prop :=
  ∃ D, Sts S D w ∧ (∀ k, D k → B ≤ k ∧ k < w.heap.size) ∧ (∀ k, D k → A.D1 k ∨ A.w1.heap.size ≤ k) ∧ Frm A.w1 A.D1 w ∧ B ≤ A.w1.heap.size ∧ (∀ k, A.D1 k → B ≤ k)

variable {A : Amb} {S R L : List (Asrt B)} {w w' : World}

theorem St.size (h : St B A S w) : B ≤ w.heap.size := let ⟨_, _, _, _, hf, hb, _⟩ := h; Nat.le_trans hb hf.size

theorem St.take (h : St B A S w) (t : Take L S R) : St B A (L ++ R) w := by
  obtain ⟨D, h1, h2⟩ := h
  exact ⟨D, t.sts h1, h2⟩

theorem St.drop (h : St B A (L ++ R) w) : St B A L w := by
  obtain ⟨D, h1, h2, h3, h4⟩ := h
  obtain ⟨D1, D2, hD, _, hl, _⟩ := h1.append
  exact ⟨D1, hl, fun k hk => h2 k ((hD k).2 (.inl hk)), fun k hk => h3 k ((hD k).2 (.inl hk)), h4⟩

theorem St.shed (h : St B A S w) (t : Take L S R) : St B A L w := (h.take t).drop

theorem Sts.new {D : Nat → Prop} {o : Obj} (h : Sts S D w) (hD : ∀ k, D k → B ≤ k ∧ k < w.heap.size) (hB : B ≤ w.heap.size) :
    Sts (obj w.heap.size o :: S) (fun k => k = w.heap.size ∨ D k) (w.alloc o) :=
  ⟨fun k => k = w.heap.size, D, fun _ => Iff.rfl, fun k hk hd => by have := (hD k hd).2; omega, ⟨fun _ => Iff.rfl, World.alloc_heap_new w o⟩,
    h.stable (fun k hk => Go.RowKit.Below.heap_alloc _ _ _ (by rcases hk with hk | hk; omega; exact (hD k hk).2))⟩

end Go.Sl
end

section
namespace Go.Sl
open Go
set_option linter.unusedVariables false
variable {B : Nat} {A : Amb} {S R L F : List (Asrt B)} {w w' : World}

theorem St.new (h : St B A S w) (o : Obj) : St B A (obj w.heap.size o :: S) (w.alloc o) := by
  obtain ⟨D, h1, h2, h3, h4, h5, h6⟩ := h
  refine ⟨fun k => k = w.heap.size ∨ D k, h1.new h2 (Nat.le_trans h5 h4.size), fun k hk => ?_, fun k hk => ?_, ⟨h4.os, h4.tape, h4.output, ?_, fun k hk hn => ?_⟩, h5, h6⟩
  · simp only [World.size_alloc]
    rcases hk with rfl | hk
    · exact ⟨Nat.le_trans h5 h4.size, by omega⟩
    · have := h2 k hk; omega
  · rcases hk with rfl | hk
    · exact .inr h4.size
    · exact h3 k hk
  · simp only [World.size_alloc]; have := h4.size; omega
  · rw [Go.RowKit.Below.heap_alloc _ _ _ (by have := h4.size; omega)]; exact h4.same k hk hn

theorem St.set {b : Nat} {o o' : Obj} (h : St B A (obj b o :: S) w) (hb : w'.heap[b]? = some o') (ho : ∀ k, k ≠ b → w'.heap[k]? = w.heap[k]?)
    (hsz : w'.heap.size = w.heap.size) (hos : w'.os = w.os) (ht : w'.tape = w.tape) (hout : w'.output = w.output) : St B A (obj b o' :: S) w' := by
  obtain ⟨D, ⟨D1, D2, hD, hd, ho1, hs⟩, h2, h3, h4, h5, h6⟩ := h
  have hDb : D b := (hD b).2 (.inl ((ho1.1 b).2 rfl))
  refine ⟨D, ⟨D1, D2, hD, hd, ⟨ho1.1, hb⟩, hs.stable fun k hk => ho k ?_⟩, fun k hk => by rw [hsz]; exact h2 k hk, h3, ⟨hos.trans h4.os, ht.trans h4.tape, hout.trans h4.output, by rw [hsz]; exact h4.size, fun k hk hn => ?_⟩, h5, h6⟩
  · rintro rfl
    rcases hk with hk | hk
    · have := (h2 k hDb).1; omega
    · exact hd k ((ho1.1 k).2 rfl) hk
  · rw [ho k, h4.same k hk hn]
    rintro rfl
    rcases h3 k hDb with h | h
    · exact hn h
    · omega

theorem St.same (h : St B A S w) (hh : w'.heap = w.heap) (hos : w'.os = w.os) (ht : w'.tape = w.tape) (hout : w'.output = w.output) : St B A S w' := by
  obtain ⟨D, h1, h2, h3, h4, h5, h6⟩ := h
  exact ⟨D, h1.stable (fun k _ => by rw [hh]), fun k hk => by rw [hh]; exact h2 k hk, h3, ⟨hos.trans h4.os, ht.trans h4.tape, hout.trans h4.output, by rw [hh]; exact h4.size, fun k hk hn => by rw [hh]; exact h4.same k hk hn⟩, h5, h6⟩

theorem St.drew (h : St B A S w) : St B A S w.drew := h.same rfl rfl rfl rfl

/-- What a piece of the way does to its own part of the state, the rest beside it. -/
theorem St.frame_at {pre S' : List (Asrt B)} {D Dp DF : Nat → Prop} (h1 : Sts (pre ++ F) D w) (h2 : ∀ k, D k → B ≤ k ∧ k < w.heap.size) (h3 : ∀ k, D k → A.D1 k ∨ A.w1.heap.size ≤ k) (h4 : Frm A.w1 A.D1 w) (h5 : B ≤ A.w1.heap.size) (h6 : ∀ k, A.D1 k → B ≤ k)
    (hD : ∀ k, D k ↔ Dp k ∨ DF k) (hd : ∀ k, Dp k → DF k → False) (hF : Sts F DF w) (hp : St B ⟨w, Dp⟩ S' w') : St B A (S' ++ F) w' := by
  obtain ⟨D', g1, g2, g3, g4, g5, g6⟩ := hp
  have hsz := g4.size
  have key : ∀ k, DF k → k < w.heap.size ∧ ¬ Dp k := fun k hk => ⟨(h2 k ((hD k).2 (.inr hk))).2, fun h => hd k h hk⟩
  refine ⟨fun k => D' k ∨ DF k, Sts.join (fun _ => Iff.rfl) (fun k h h' => ?_) g1 (hF.stable fun k hk => ?_), fun k hk => ?_, fun k hk => ?_, ⟨g4.os.trans h4.os, g4.tape.trans h4.tape, g4.output.trans h4.output, Nat.le_trans h4.size hsz, fun k hk hn => ?_⟩, h5, h6⟩
  · rcases g3 k h with h1 | h1
    · exact hd k h1 h'
    · have := (key k h').1; simp only at h1; omega
  · rcases hk with hk | hk
    · exact g4.same k (by simp only; simp only at g5; omega) (fun h => by have := g6 k h; omega)
    · exact g4.same k (key k hk).1 (key k hk).2
  · rcases hk with hk | hk
    · exact g2 k hk
    · have := h2 k ((hD k).2 (.inr hk)); simp only at hsz; omega
  · rcases hk with hk | hk
    · rcases g3 k hk with h | h
      · exact h3 k ((hD k).2 (.inl h))
      · have := h4.size; simp only at h; exact .inr (by omega)
    · exact h3 k ((hD k).2 (.inr hk))
  · by_cases hk' : Dp k
    · rcases h3 k ((hD k).2 (.inl hk')) with h | h
      · exact absurd h hn
      · omega
    · have h7 := h4.size
      exact (g4.same k (by simp only; omega) hk').trans (h4.same k hk hn)

theorem St.mem {x : Asrt B} (h : St B A S w) (ho : Out x S R) : ∃ D, x.holds D w := by
  obtain ⟨D, h1, _⟩ := h
  obtain ⟨D1, D2, _, _, h3, _⟩ := ho.sts h1
  exact ⟨D1, h3⟩

/-! ### Environments -/

abbrev Env := List (Nat × Value)

def Env.get : Env → Nat → Option Value
  | [], _ => none
  | (k, v) :: E, t => bif Nat.beq t k then some v else Env.get E t

/-- Each row of the first one is so in the second one. -/
def Env.sub : Env → Env → Prop
  | [], _ => True
  | (k, v) :: E, E' => E'.get k = some v ∧ Env.sub E E'

theorem Env.sub.get : ∀ {E E' : Env}, E.sub E' → ∀ {t v}, E.get t = some v → E'.get t = some v
  | [], _, _, _, _, h => by cases h
  | (k, u) :: E, E', ⟨h1, h2⟩, t, v, h => by
    simp only [Env.get] at h
    cases hb : Nat.beq t k with
    | true => rw [hb] at h; simp at h; subst h; rw [Nat.eq_of_beq_eq_true hb]; exact h1
    | false => rw [hb] at h; exact Env.sub.get h2 h

structure Ok (N : Nat) (ds : List Nat) (E : Env) (a : Act) : Prop where
  size : a.tmps.size = N
  defs : a.defers = ds.map fun d => { target := .collected d, args := #[] }
  get : ∀ t v, E.get t = some v → a.tmps.getD t undef = v

def ev (E : Env) : Operand → Option Value
  | .tmp t => E.get t
  | .const v => some v
  | .global g => some (.pointer (some ⟨g, 0, none⟩))
  | .func f => some (.func (.func f) #[] #[])

variable {N d t : Nat} {ds : List Nat} {E E' : Env} {a : Act} {v : Value} {x : Operand}

theorem Ok.ev (h : Ok N ds E a) (hx : ev E x = some v) : a.eval x = v := by
  cases x with
  | tmp t => exact h.get t v hx
  | const u => simpa [Sl.ev, Act.eval] using hx
  | global g => simpa [Sl.ev, Act.eval] using hx
  | func f => simpa [Sl.ev, Act.eval] using hx

theorem Ok.sub (h : Ok N ds E a) (hs : E'.sub E) : Ok N ds E' a := ⟨h.size, h.defs, fun t v ht => h.get t v (hs.get ht)⟩

theorem Ok.put (h : Ok N ds E a) (hd : d < N) : Ok N ds ((d, v) :: E) (a.put (some d) v) := by
  refine ⟨by simp [Act.put, h.size], h.defs, fun t u ht => ?_⟩
  simp only [Env.get] at ht
  simp only [Act.put]
  cases hb : Nat.beq t d with
  | true =>
    rw [hb] at ht; simp at ht; subst ht
    obtain rfl := Nat.eq_of_beq_eq_true hb
    have : t < a.tmps.size := by rw [h.size]; exact hd
    simp [Array.getD, this]
  | false =>
    rw [hb] at ht
    have hne : d ≠ t := fun e => by subst e; simp at hb
    have := h.get t u ht
    rw [← this]
    simp [Array.getD_eq_getD_getElem?, hne]

theorem Ok.put_none (h : Ok N ds E a) : Ok N ds E (a.put none v) := h

end Go.Sl
end

section
namespace Go.Sl
open Go
set_option linter.unusedVariables false

abbrev FW (r : Option Nat) : Fence := { Fence.wide with round := r }

abbrev P4 (B : Nat) := Exit → List Nat → Env → List (Asrt B) → Prop

def Post (B : Nat) (A : Amb) (N : Nat) (Q : P4 B) : Exit → Act → World → Prop := fun e a w => ∃ ds E S, Ok N ds E a ∧ St B A S w ∧ Q e ds E S

/-- The judgement: from any activation and world that fit, the code's way ends in Q. -/
def X (P : Program) (B : Nat) (A : Amb) (r : Option Nat) (N : Nat) (c : Code) (ds : List Nat) (E : Env) (S : List (Asrt B)) (Q : P4 B) : Prop :=
  ∀ a w, Ok N ds E a → St B A S w → c.wpIn (FW r) 0 P (Post B A N Q) a w

def thenX (P : Program) (B : Nat) (A : Amb) (r : Option Nat) (N : Nat) (y : Code) (Q : P4 B) : P4 B
  | .normal, ds, E, S => X P B A r N y ds E S Q
  | e, ds, E, S => Q e ds E S

def inBlk {B : Nat} (id : Nat) (Q : P4 B) : P4 B
  | .exit i, ds, E, S => bif Nat.beq i id then Q .normal ds E S else Q (.exit i) ds E S
  | e, ds, E, S => Q e ds E S

variable {P : Program} {B : Nat} {A : Amb} {r : Option Nat} {N : Nat} {c x y : Code} {ds : List Nat} {E E' : Env} {S R L F : List (Asrt B)} {Q Q' : P4 B}

theorem X.mono (h : X P B A r N c ds E S Q) (hq : ∀ e ds E S, Q e ds E S → Q' e ds E S) : X P B A r N c ds E S Q' :=
  fun a w ho hs => wpIn_mono (h a w ho hs) fun _ _ _ ⟨ds, E, S, ok, st, q⟩ => ⟨ds, E, S, ok, st, hq _ _ _ _ q⟩

theorem X_seq (h : X P B A r N x ds E S (thenX P B A r N y Q)) : X P B A r N (.seq x y) ds E S Q := by
  intro a w ho hs
  refine wpIn_seq (wpIn_mono (h a w ho hs) ?_)
  rintro e a' w' ⟨ds', E', S', ok, st, q⟩
  cases e with
  | normal => exact q a' w' ok st
  | _ => exact ⟨ds', E', S', ok, st, q⟩

theorem X_skip (h : Q .normal ds E S) : X P B A r N .skip ds E S Q := fun a w ho hs => wpIn_skip ⟨ds, E, S, ho, hs, h⟩
theorem X_ret (h : Q .ret ds E S) : X P B A r N .ret ds E S Q := fun a w ho hs => wpIn_ret ⟨ds, E, S, ho, hs, h⟩
theorem X_exit {id : Nat} (h : Q (.exit id) ds E S) : X P B A r N (.exit id) ds E S Q := fun a w ho hs => wpIn_exit ⟨ds, E, S, ho, hs, h⟩

theorem X_block {id : Nat} (h : X P B A r N c ds E S (inBlk id Q)) : X P B A r N (.block id c) ds E S Q := by
  intro a w ho hs
  refine wpIn_block (wpIn_mono (h a w ho hs) ?_)
  rintro e a' w' ⟨ds', E', S', ok, st, q⟩
  cases e with
  | exit i =>
    simp only [Exit.inBlock]
    by_cases hi : i = id
    · subst hi
      simp only [if_true]
      exact ⟨ds', E', S', ok, st, by simpa [inBlk] using q⟩
    · have : Nat.beq i id = false := by cases hb : Nat.beq i id with
        | true => exact absurd (Nat.eq_of_beq_eq_true hb) hi
        | false => rfl
      simp only [hi, if_false]
      exact ⟨ds', E', S', ok, st, by simpa [inBlk, this] using q⟩
  | _ => exact ⟨ds', E', S', ok, st, q⟩

theorem X_cond {o : Operand} {t : Bool} (ho : ev E o = some (.bool t)) (h1 : t = true → X P B A r N x ds E S Q) (h2 : t = false → X P B A r N y ds E S Q) : X P B A r N (.cond o x y) ds E S Q :=
  fun a w hok hs => wpIn_cond_split (hok.ev ho) (fun h => h1 h a w hok hs) (fun h => h2 h a w hok hs)

theorem X_cond_t {o : Operand} {t : Bool} (ho : ev E o = some (.bool t)) (ht : t = true) (h : X P B A r N x ds E S Q) : X P B A r N (.cond o x y) ds E S Q :=
  X_cond ho (fun _ => h) (fun h => by rw [ht] at h; cases h)
theorem X_cond_f {o : Operand} {t : Bool} (ho : ev E o = some (.bool t)) (ht : t = false) (h : X P B A r N y ds E S Q) : X P B A r N (.cond o x y) ds E S Q :=
  X_cond ho (fun h => by rw [ht] at h; cases h) (fun _ => h)

/-- The environment and the assertions brought into another form. -/
theorem X_as (E' : Env) (L : List (Asrt B)) (hE : E'.sub E) (hS : Take L S R) (h : X P B A r N c ds E' L Q) : X P B A r N c ds E S Q :=
  fun a w ho hs => h a w (ho.sub hE) (hs.shed hS)
theorem X_take (L : List (Asrt B)) (hS : Take L S R) (h : X P B A r N c ds E (L ++ R) Q) : X P B A r N c ds E S Q :=
  fun a w ho hs => h a w ho (hs.take hS)

/-- What holds of the memory in itself may be used. -/
theorem X_learn {p : Prop} (hp : ∀ w, St B A S w → p) (h : p → X P B A r N c ds E S Q) : X P B A r N c ds E S Q :=
  fun a w ho hs => h (hp w hs) a w ho hs

/-- A loop: 'α' tells its states; I holds of them; Es, Ss: what the slots and the memory then hold; m goes down. -/
def loopQ {α : Type} (I : α → Prop) (Es : α → Env) (Ss : α → List (Asrt B)) (m : α → Nat) (x : α) (ds : List Nat) (Q : P4 B) : P4 B
  | .normal, ds', E, S => ds' = ds ∧ ∃ x' R, I x' ∧ m x' < m x ∧ (Es x').sub E ∧ Take (Ss x') S R
  | e, ds, E, S => Q e ds E S

theorem X_loop {α : Type} (I : α → Prop) (Es : α → Env) (Ss : α → List (Asrt B)) (m : α → Nat) (x0 : α) (h0 : I x0) (hE : (Es x0).sub E) (hS : Take (Ss x0) S R)
    (h : ∀ x, I x → X P B A r N c ds (Es x) (Ss x) (loopQ I Es Ss m x ds Q)) : X P B A r N (.loop c) ds E S Q := by
  intro a w ho hs
  have hI0 : ∃ x, I x ∧ Ok N ds (Es x) a ∧ St B A (Ss x) w := ⟨x0, h0, ho.sub hE, hs.shed hS⟩
  obtain ⟨μ, hμ⟩ : ∃ μ : Act → World → Nat, ∀ a w, (∃ x, I x ∧ Ok N ds (Es x) a ∧ St B A (Ss x) w) → ∃ x, I x ∧ Ok N ds (Es x) a ∧ St B A (Ss x) w ∧ m x = μ a w ∧ ∀ y, I y → Ok N ds (Es y) a → St B A (Ss y) w → m x ≤ m y := by
    classical
    let Pm : Act → World → Nat → Prop := fun a w k => ∃ x, I x ∧ Ok N ds (Es x) a ∧ St B A (Ss x) w ∧ m x = k
    have least : ∀ (p : Nat → Prop), (∃ k, p k) → ∃ k, p k ∧ ∀ j, p j → k ≤ j := by
      intro p ⟨k, hk⟩
      induction k using Nat.strongRecOn with
      | _ k ih =>
        by_cases h : ∃ j, j < k ∧ p j
        · obtain ⟨j, hj, hp⟩ := h; exact ih j hj hp
        · exact ⟨k, hk, fun j hj => Nat.le_of_not_lt fun hlt => h ⟨j, hlt, hj⟩⟩
    refine ⟨fun a w => if h : ∃ k, Pm a w k then Classical.choose (least _ h) else 0, fun a w hx => ?_⟩
    have h : ∃ k, Pm a w k := let ⟨x, h1, h2, h3⟩ := hx; ⟨m x, x, h1, h2, h3, rfl⟩
    simp only [dif_pos h]
    obtain ⟨⟨x, h1, h2, h3, h4⟩, hl⟩ := Classical.choose_spec (least _ h)
    exact ⟨x, h1, h2, h3, h4, fun y g1 g2 g3 => by rw [h4]; exact hl _ ⟨y, g1, g2, g3, rfl⟩⟩
  refine wpIn_loop (fun a w => ∃ x, I x ∧ Ok N ds (Es x) a ∧ St B A (Ss x) w) μ hI0 ?_
  intro a w hI
  obtain ⟨x, h1, h2, h3, h4, h5⟩ := hμ a w hI
  refine wpIn_mono (h x h1 a w h2 h3) ?_
  rintro e a' w' ⟨ds', E', S', ok, st, q⟩
  cases e with
  | normal =>
    obtain ⟨rfl, x', R', g1, g2, g3, g4⟩ := q
    have hx' : ∃ x, I x ∧ Ok N ds' (Es x) a' ∧ St B A (Ss x) w' := ⟨x', g1, ok.sub g3, st.shed g4⟩
    refine ⟨hx', ?_⟩
    obtain ⟨y, _, _, _, k4, k5⟩ := hμ a' w' hx'
    rw [← k4, ← h4]
    exact Nat.lt_of_le_of_lt (k5 x' g1 (ok.sub g3) (st.shed g4)) g2
  | _ => exact ⟨ds', E', S', ok, st, q⟩

/-! ### Functions -/

/-- A function's contract. -/
def Ctr (P : Program) (B : Nat) (f : FuncId) (args : List Value) (pre : List (Asrt B)) (post : Value → List (Asrt B) → Prop) : Prop :=
  ∀ w D, Sts pre D w → (∀ k, D k → B ≤ k ∧ k < w.heap.size) → B ≤ w.heap.size →
    CallsIn (FW none) 0 P f args.toArray w fun e w' => ∃ v S', e = .returned v ∧ post v S' ∧ St B ⟨w, D⟩ S' w'

def Env.ofArgs : Nat → List Value → Env
  | _, [] => []
  | n, v :: l => (n, v) :: Env.ofArgs (n + 1) l

theorem Env.ofArgs_get : ∀ (l : List Value) (n t : Nat) (v : Value), (Env.ofArgs n l).get t = some v → n ≤ t ∧ l[t - n]? = some v
  | [], _, _, _, h => by cases h
  | u :: l, n, t, v, h => by
    simp only [Env.ofArgs, Env.get] at h
    cases hb : Nat.beq t n with
    | true =>
      rw [hb] at h; simp at h; subst h
      obtain rfl := Nat.eq_of_beq_eq_true hb
      simp
    | false =>
      rw [hb] at h
      obtain ⟨h1, h2⟩ := Env.ofArgs_get l (n + 1) t v h
      have : t - n = (t - (n + 1)) + 1 := by omega
      exact ⟨by omega, by rw [this]; simpa using h2⟩

/-- What the blocks for rounds' deferred calls hold. -/
abbrev dfr (d : Nat) : Asrt B := obj d (.deferred (some []))

/-- What is asked at a function's end. -/
def retQ (P : Program) (B : Nat) (A : Amb) (N : Nat) (fn : Func) (post : Value → List (Asrt B) → Prop) : P4 B
  | .normal, ds, E, S | .ret, ds, E, S => ∃ v L, Take (ds.map dfr) S L ∧ (∀ a w, Ok N ds E a → St B A L w → (results fn a.tmps).run P w = .ok v w) ∧ ∃ L' R, Take L' L R ∧ post v L'
  | _, _, _, _ => False

theorem St.tail {x : Asrt B} {w : World} (h : St B A (x :: S) w) : St B A S w := by
  obtain ⟨D, ⟨D1, D2, hD, hd, _, hs⟩, h2, h3, h4, h5, h6⟩ := h
  exact ⟨D2, hs, fun k hk => h2 k ((hD k).2 (.inr hk)), fun k hk => h3 k ((hD k).2 (.inr hk)), h4, h5, h6⟩

theorem St.undfr {d : Nat} {w : World} (h : St B A (dfr d :: S) w) : w.heap[d]? = some (.deferred (some [])) ∧ St B A S (w.putObj d (.deferred none)) := by
  obtain ⟨D, hobj⟩ := h.mem (.here _ _)
  have hd := (Array.getElem?_eq_some_iff.1 hobj.2).1
  refine ⟨hobj.2, ?_⟩
  have := h.set (w' := w.putObj d (.deferred none)) (o' := .deferred none) (World.putObj_heap_same hd) (fun k hk => World.putObj_heap_other hk) (by simp) rfl rfl rfl
  exact this.tail

theorem leaves_of {fn : Func} {post : Value → List (Asrt B) → Prop} {w1 : World} {D1 : Nat → Prop} {v : Value} {tm : Array Value} {L : List (Asrt B)}
    (hp : ∃ L' R, Take L' L R ∧ post v L') : ∀ (ds : List Nat) (w : World), St B ⟨w1, D1⟩ (ds.map dfr ++ L) w →
    (∀ w, St B ⟨w1, D1⟩ L w → (results fn tm).run P w = .ok v w) →
    LeavesInM (FW none) 0 P fn tm (fun e w' => ∃ v S', e = .returned v ∧ post v S' ∧ St B ⟨w1, D1⟩ S' w') (ds.map fun d => { target := .collected d, args := #[] }) .returning w
  | [], w, hs, hr => by
    obtain ⟨L', R, t, hp⟩ := hp
    exact ⟨v, hr w hs, v, L', rfl, hp, St.shed hs t⟩
  | d :: ds, w, hs, hr => by
    obtain ⟨h1, h2⟩ := St.undfr hs
    exact ⟨by simp, .inl ⟨d, _, rfl, run_takeDeferred h1, leaves_of hp ds _ h2 hr⟩⟩

/-- A contract from the body's judgement. -/
theorem Ctr_of_X {f : FuncId} {fn : Func} {args : List Value} {pre : List (Asrt B)} {post : Value → List (Asrt B) → Prop} (hf : P.funcs[f]? = some fn) (hb : fn.body = some c)
    (hn : args.length ≤ N) (hN : fn.ntmps = N)
    (h : ∀ w D, X P B ⟨w, D⟩ none N c [] (Env.ofArgs 0 args) pre (retQ P B ⟨w, D⟩ N fn post)) : Ctr P B f args pre post := by
  intro w D hs hD hB
  refine callsIn_of_wp_marks hf hb trivial (wpIn_mono (h w D _ w ?_ ⟨D, hs, hD, fun k hk => .inl hk, Frm.refl _ _, hB, fun k hk => (hD k hk).1⟩) ?_)
  · refine ⟨by simp [hN]; omega, rfl, fun t v ht => ?_⟩
    obtain ⟨_, h2⟩ := Env.ofArgs_get _ _ _ _ ht
    rw [Nat.sub_zero] at h2
    have h3 := (List.getElem?_eq_some_iff.1 h2).1
    rw [Array.getD_eq_getD_getElem?, Array.getElem?_append_left (by simpa using h3)]
    simpa using congrArg (·.getD undef) h2
  · rintro e a' w' ⟨ds', E', S', ok, st, q⟩
    have fin : ∀ {v L}, Take (ds'.map dfr) S' L → (∀ a w', Ok N ds' E' a → St B ⟨w, D⟩ L w' → (results fn a.tmps).run P w' = .ok v w') → (∃ L' R, Take L' L R ∧ post v L') →
        LeavesInM (FW none) 0 P fn a'.tmps (fun e w' => ∃ v S', e = .returned v ∧ post v S' ∧ St B ⟨w, D⟩ S' w') a'.defers .returning w' := by
      intro v L t hr hp
      rw [ok.defs]
      exact leaves_of hp ds' w' (st.take t) (fun w hw => hr a' w ok hw)
    cases e with
    | normal => obtain ⟨v, L, t, hr, hp⟩ := q; exact fin t hr hp
    | ret => obtain ⟨v, L, t, hr, hp⟩ := q; exact fin t hr hp
    | _ => exact q.elim

theorem Ctr.mono {f : FuncId} {args : List Value} {pre : List (Asrt B)} {post post' : Value → List (Asrt B) → Prop} (h : Ctr P B f args pre post) (hp : ∀ v S, post v S → post' v S) : Ctr P B f args pre post' :=
  fun w D h1 h2 h3 => (h w D h1 h2 h3).mono fun _ _ ⟨v, S', e, p, st⟩ => ⟨v, S', e, hp _ _ p, st⟩

/-- The statement's own form. -/
theorem Ctr.calls {f : FuncId} {args : Array Value} {w : World} {v : Value} (h : Ctr P w.heap.size f args.toList [] (fun u _ => u = v)) :
    Calls P f args w fun e w' => e = .returned v ∧ Go.RowKit.Below w.heap.size w w' := by
  refine (callsIn_wide (n := 0)).1 (CallsIn.mono (h w (fun _ => False) (fun _ h => h) (fun _ h => h.elim) (Nat.le_refl _)) ?_)
  rintro e w' ⟨u, S', rfl, rfl, D, h1, h2, h3, h4, _⟩
  exact ⟨rfl, h4.os, h4.tape, h4.output, h4.size, fun k hk => h4.same k hk (fun h => h)⟩

theorem thenX_ret (h : Q .ret ds E S) : thenX P B A r N y Q .ret ds E S := h
theorem thenX_exit {i : Nat} (h : Q (.exit i) ds E S) : thenX P B A r N y Q (.exit i) ds E S := h
theorem thenX_normal (h : X P B A r N y ds E S Q) : thenX P B A r N y Q .normal ds E S := h
theorem inBlk_ret {i : Nat} (h : Q .ret ds E S) : inBlk i Q .ret ds E S := h
theorem inBlk_normal {i : Nat} (h : Q .normal ds E S) : inBlk i Q .normal ds E S := h
theorem inBlk_here {i : Nat} (h : Q .normal ds E S) : inBlk i Q (.exit i) ds E S := by simpa [inBlk] using h
theorem inBlk_out {i j : Nat} (hb : Nat.beq j i = false) (h : Q (.exit j) ds E S) : inBlk i Q (.exit j) ds E S := by simpa [inBlk, hb] using h
theorem loopQ_ret {α : Type} {I : α → Prop} {Es : α → Env} {Ss : α → List (Asrt B)} {m : α → Nat} {x : α} {ds0 : List Nat} (h : Q .ret ds E S) : loopQ I Es Ss m x ds0 Q .ret ds E S := h
theorem loopQ_exit {α : Type} {I : α → Prop} {Es : α → Env} {Ss : α → List (Asrt B)} {m : α → Nat} {x : α} {ds0 : List Nat} {i : Nat} (h : Q (.exit i) ds E S) : loopQ I Es Ss m x ds0 Q (.exit i) ds E S := h
theorem loopQ_next {α : Type} {I : α → Prop} {Es : α → Env} {Ss : α → List (Asrt B)} {m : α → Nat} {x : α} (x' : α) (h1 : I x') (h2 : m x' < m x) (h3 : (Es x').sub E) (h4 : ∃ R, Take (Ss x') S R) : loopQ I Es Ss m x ds Q .normal ds E S :=
  let ⟨R, h4⟩ := h4; ⟨rfl, x', R, h1, h2, h3, h4⟩
theorem ret_ok {fn : Func} {post : Value → List (Asrt B) → Prop} {v : Value} (t : Take (ds.map dfr) S L) (hr : ∀ a w, Ok N ds E a → St B A L w → (results fn a.tmps).run P w = .ok v w) (h : ∃ L', post v L' ∧ ∃ R, Take L' L R) :
    retQ P B A N fn post .ret ds E S := let ⟨L', hp, R, t2⟩ := h; ⟨v, L, t, hr, L', R, t2, hp⟩
theorem ret_okn {fn : Func} {post : Value → List (Asrt B) → Prop} {v : Value} (t : Take (ds.map dfr) S L) (hr : ∀ a w, Ok N ds E a → St B A L w → (results fn a.tmps).run P w = .ok v w) (h : ∃ L', post v L' ∧ ∃ R, Take L' L R) :
    retQ P B A N fn post .normal ds E S := let ⟨L', hp, R, t2⟩ := h; ⟨v, L, t, hr, L', R, t2, hp⟩

/-! ### Results -/

theorem res_tmp {fn : Func} {t : Nat} {v : Value} {T : World → Prop} (h : fn.results = #[.tmp t]) (hv : E.get t = some v) : ∀ a w, Ok N ds E a → T w → (results fn a.tmps).run P w = .ok v w := by
  intro a w ho _
  rw [results_tmp h, ho.get t v hv]
theorem res_none {fn : Func} {T : World → Prop} (h : fn.results = #[]) : ∀ a w, Ok N ds E a → T w → (results fn a.tmps).run P w = .ok (.tuple #[]) w := fun a w _ _ => results_none h _ _ _
theorem res_tmp2 {fn : Func} {t u : Nat} {v1 v2 : Value} {T : World → Prop} (h : fn.results = #[.tmp t, .tmp u]) (h1 : E.get t = some v1) (h2 : E.get u = some v2) :
    ∀ a w, Ok N ds E a → T w → (results fn a.tmps).run P w = .ok (.tuple #[v1, v2]) w := by
  intro a w ho _
  rw [results_tmp2 h, ho.get t _ h1, ho.get u _ h2]

end Go.Sl
end

section
namespace Go.Sl
open Go
set_option linter.unusedVariables false
variable {P : Program} {B : Nat} {A : Amb} {r : Option Nat} {N : Nat} {ds : List Nat} {E E' : Env} {S R L F : List (Asrt B)} {Q Q' : P4 B} {ops : Array Oper} {rest : List Oper} {o : Oper}

/-! ### Lists of operations -/

def Want (ops : Array Oper) (N : Nat) (E : Env) : Option (Nat × Bool) → Prop
  | none => True
  | some (j, b) => ∃ d, (ops[j]?).bind (·.dst) = some d ∧ d < N ∧ E.get d = some (.bool b)

theorem Want.no : Want ops N E none := trivial
theorem Want.yes {j : Nat} {b : Bool} (d : Nat) (h1 : (ops[j]?).bind (·.dst) = some d) (h2 : Nat.blt d N = true) (h3 : E.get d = some (.bool b)) : Want ops N E (some (j, b)) := ⟨d, h1, by simpa using h2, h3⟩

theorem yielded_of {j d : Nat} {b : Bool} {a : Act} (h1 : (ops[j]?).bind (·.dst) = some d) (h2 : d < N) (h3 : E.get d = some (.bool b)) (ho : Ok N ds E a) : yielded ops a.tmps j = some b := by
  have hg := ho.get d _ h3
  have hlt : d < a.tmps.size := by rw [ho.size]; exact h2
  have : a.tmps[d]? = some (.bool b) := by
    rw [Array.getD_eq_getD_getElem?, Array.getElem?_eq_getElem hlt] at hg
    rw [Array.getElem?_eq_getElem hlt]
    simpa using hg
  simp [yielded, h1, this]

theorem Want.wanted {a : Act} (h : Want ops N E o.guard) (ho : Ok N ds E a) : Region.wanted o (yielded ops a.tmps) = true := by
  unfold Region.wanted
  cases hg : o.guard with
  | none => rfl
  | some p =>
    obtain ⟨j, b⟩ := p
    rw [hg] at h
    obtain ⟨d, h1, h2, h3⟩ := h
    simp [yielded_of h1 h2 h3 ho]

def XL (P : Program) (B : Nat) (A : Amb) (r : Option Nat) (N : Nat) (ops : Array Oper) (l : List Oper) (ds : List Nat) (E : Env) (S : List (Asrt B)) (Q : P4 B) : Prop :=
  ∀ a w, Ok N ds E a → St B A S w → wpListIn (FW r) 0 P ops (Post B A N Q) l a w

theorem X_region {id : Nat} {l : List Oper} (h : XL P B A r N l.toArray l ds E S Q) : X P B A r N (.region id l.toArray false) ds E S Q :=
  fun a w ho hs => wpIn_region_lit (h a w ho hs)

theorem XL_nil (h : Q .normal ds E S) : XL P B A r N ops [] ds E S Q := fun a w ho hs => wpListIn_nil ⟨ds, E, S, ho, hs, h⟩
/-- The end of a list ahead of more code. -/
theorem XL_then {y : Code} (h : X P B A r N y ds E S Q) : XL P B A r N ops [] ds E S (thenX P B A r N y Q) := XL_nil h

theorem X_then {y : Code} (h : X P B A r N y ds E S Q) : thenX P B A r N y Q .normal ds E S := h

theorem XL_as (E' : Env) (L : List (Asrt B)) (hE : E'.sub E) (hS : Take L S R) {l : List Oper} (h : XL P B A r N ops l ds E' L Q) : XL P B A r N ops l ds E S Q :=
  fun a w ho hs => h a w (ho.sub hE) (hs.shed hS)
theorem XL_take (L : List (Asrt B)) (hS : Take L S R) {l : List Oper} (h : XL P B A r N ops l ds E (L ++ R) Q) : XL P B A r N ops l ds E S Q :=
  fun a w ho hs => h a w ho (hs.take hS)
theorem XL_learn {p : Prop} {l : List Oper} (hp : ∀ w, St B A S w → p) (h : p → XL P B A r N ops l ds E S Q) : XL P B A r N ops l ds E S Q :=
  fun a w ho hs => h (hp w hs) a w ho hs

/-- An operation that is passed over. -/
theorem XL_skip {d : Nat} {op : Op} {ty : TypeId} {pos : String} {aft : Array Edge} {j : Nat} {b b' : Bool} (g : Nat) (h1 : (ops[j]?).bind (·.dst) = some g) (h2 : Nat.blt g N = true) (h3 : E.get g = some (.bool b')) (hb : b' = !b)
    (hd : Nat.blt d N = true) (h : XL P B A r N ops rest ds ((d, undef) :: E) S Q) : XL P B A r N ops (⟨some d, op, ty, pos, aft, some (j, b)⟩ :: rest) ds E S Q := by
  intro a w ho hs
  have hy := yielded_of (ops := ops) h1 (by simpa using h2) h3 ho
  simp only [wpListIn, Region.wanted, hy]
  rw [if_neg (by subst hb; cases b <;> simp)]
  exact ⟨fun _ _ => trivial, h _ w (ho.put (by simpa using hd)) hs⟩

/-- A Bool that is not known: both ways. -/
theorem XL_split {t : Nat} {b : Bool} {l : List Oper} (ht : E.get t = some (.bool b)) (h1 : b = true → XL P B A r N ops l ds ((t, .bool true) :: E) S Q) (h2 : b = false → XL P B A r N ops l ds ((t, .bool false) :: E) S Q) :
    XL P B A r N ops l ds E S Q := by
  intro a w ho hs
  have key : ∀ b', b = b' → Ok N ds ((t, .bool b') :: E) a := fun b' e => ⟨ho.size, ho.defs, fun u v hu => by
    simp only [Env.get] at hu
    cases hb : Nat.beq u t with
    | true => rw [hb] at hu; simp at hu; subst hu; rw [Nat.eq_of_beq_eq_true hb]; rw [← e]; exact ho.get _ _ ht
    | false => rw [hb] at hu; exact ho.get _ _ hu⟩
  cases hb : b with
  | true => exact h1 hb a w (key _ hb) hs
  | false => exact h2 hb a w (key _ hb) hs

/-- An operation that yields a value: 'α': what it may be. -/
theorem XL_op {α : Type} {d : Nat} {op : Op} {ty : TypeId} {pos : String} {aft : Array Edge} {g : Option (Nat × Bool)} (v : α → Value) (S' : α → List (Asrt B)) (p : α → Prop) (hw : Want ops N E g) (hnd : ∀ c, op ≠ .defer c) (hd : Nat.blt d N = true)
    (hrun : ∀ a w, Ok N ds E a → St B A S w → ∃ x w', (execOp a.eval ⟨some d, op, ty, pos, aft, g⟩).run P w = .ok (.value (v x)) w' ∧ St B A (S' x) w' ∧ p x)
    (h : ∀ x, p x → XL P B A r N ops rest ds ((d, v x) :: E) (S' x) Q) : XL P B A r N ops (⟨some d, op, ty, pos, aft, g⟩ :: rest) ds E S Q := by
  intro a w ho hs
  obtain ⟨x, w', h1, h2, h3⟩ := hrun a w ho hs
  simp only [wpListIn]
  rw [if_pos (Want.wanted (o := ⟨some d, op, ty, pos, aft, g⟩) hw ho)]
  refine ⟨fun _ _ => trivial, ?_⟩
  rw [Oper.semAt_eq _ _ _ hnd, h1]
  exact h x h3 _ w' (ho.put (by simpa using hd)) h2

theorem XL_val {d : Nat} {op : Op} {ty : TypeId} {pos : String} {aft : Array Edge} {g : Option (Nat × Bool)} {v : Value} (hw : Want ops N E g) (hnd : ∀ c, op ≠ .defer c) (hd : Nat.blt d N = true)
    (hrun : ∀ a w, Ok N ds E a → St B A S w → (execOp a.eval ⟨some d, op, ty, pos, aft, g⟩).run P w = .ok (.value v) w)
    (h : XL P B A r N ops rest ds ((d, v) :: E) S Q) : XL P B A r N ops (⟨some d, op, ty, pos, aft, g⟩ :: rest) ds E S Q :=
  XL_op (α := Unit) (fun _ => v) (fun _ => S) (fun _ => True) hw hnd hd (fun a w ho hs => ⟨(), w, hrun a w ho hs, hs, trivial⟩) (fun _ _ => h)

/-- An operation that has an effect alone (a store). -/
theorem XL_eff {op : Op} {ty : TypeId} {pos : String} {aft : Array Edge} {g : Option (Nat × Bool)} {S' : List (Asrt B)} (hw : Want ops N E g) (hnd : ∀ c, op ≠ .defer c)
    (hrun : ∀ a w, Ok N ds E a → St B A S w → ∃ w', (execOp a.eval ⟨none, op, ty, pos, aft, g⟩).run P w = .ok .skip w' ∧ St B A S' w')
    (h : XL P B A r N ops rest ds E S' Q) : XL P B A r N ops (⟨none, op, ty, pos, aft, g⟩ :: rest) ds E S Q := by
  intro a w ho hs
  obtain ⟨w', h1, h2⟩ := hrun a w ho hs
  simp only [wpListIn]
  rw [if_pos (Want.wanted (o := ⟨none, op, ty, pos, aft, g⟩) hw ho)]
  refine ⟨fun _ _ => trivial, ?_⟩
  rw [Oper.semAt_eq _ _ _ hnd, h1]
  exact h a w' ho h2

/-! ### Operations without memory -/

def evs (E : Env) : List Operand → Option (List Value)
  | [] => some []
  | x :: l => match ev E x, evs E l with
    | some v, some vs => some (v :: vs)
    | _, _ => none

theorem Ok.evs {a : Act} (h : Ok N ds E a) : ∀ {l : List Operand} {vs : List Value}, evs E l = some vs → l.map a.eval = vs
  | [], vs, hv => by simp [Sl.evs] at hv; simp [hv]
  | x :: l, vs, hv => by
    simp only [Sl.evs] at hv
    split at hv
    · rename_i v vs' h1 h2
      simp at hv; subst hv
      simp [h.ev h1, h.evs h2]
    · cases hv

def cmpOp : BinOp → Int → Int → Option Bool
  | .eql, m, n => some (m == n)
  | .neq, m, n => some (m != n)
  | .lss, m, n => some (decide (m < n))
  | .leq, m, n => some (decide (m ≤ n))
  | .gtr, m, n => some (decide (m > n))
  | .geq, m, n => some (decide (m ≥ n))
  | _, _, _ => none

def pureOp (E : Env) : Op → Option Value
  | .move x | .assign x => ev E x
  | .pick c x y => match ev E c with
    | some (.bool true) => ev E x
    | some (.bool false) => ev E y
    | _ => none
  | .binOp op _ x y _ => match ev E x, ev E y with
    | some (.int .i64 m), some (.int .i64 n) => (cmpOp op m n).map .bool
    | some (.int .u32 m), some (.int .u32 n) => (cmpOp op m n).map .bool
    | some (.int .u8 m), some (.int .u8 n) => (cmpOp op m n).map .bool
    | some (.int .u64 m), some (.int .u64 n) => (cmpOp op m n).map .bool
    | some (.int .i32 m), some (.int .i32 n) => (cmpOp op m n).map .bool
    | _, _ => none
  | .unOp .not _ x => match ev E x with
    | some (.bool b) => some (.bool (!b))
    | _ => none
  | .makeFunc fn first caps => match evs E first.toList, evs E caps.toList with
    | some f, some c => some (.func fn f.toArray c.toArray)
    | _, _ => none
  | .extract t i => match ev E t with
    | some (.tuple vs) => vs[i]?
    | _ => none
  | _ => none

theorem run_cmp {op : BinOp} {t : TypeId} {x y : Operand} {k : IntKind} {m n : Int} {b : Bool} {w : World} (h : cmpOp op m n = some b) :
    ((do eqGuard op t x y (.int k m) (.int k n); binOp op t (.int k m) (.int k n) : Sem Value)).run P w = .ok (.bool b) w := by
  cases op <;> simp [cmpOp] at h <;> subst h <;> simp [eqGuard, binOp, Op.intCmp]

theorem run_cmpop {k : IntKind} {d : Option Nat} {op : BinOp} {t t' ty : TypeId} {x y : Operand} {pos : String} {aft : Array Edge} {g : Option (Nat × Bool)} {m n : Int} {v : Value} {a : Act} {w : World}
    (h1 : ev E x = some (.int k m)) (h2 : ev E y = some (.int k n)) (hp : (cmpOp op m n).map Value.bool = some v) (ho : Ok N ds E a) :
    (execOp a.eval ⟨d, .binOp op t x y t', ty, pos, aft, g⟩).run P w = .ok (.value v) w := by
  obtain ⟨b, hb, rfl⟩ := Option.map_eq_some_iff.1 hp
  simp only [execOp, ho.ev h1, ho.ev h2]
  rw [Sem.run_bind, run_cmp (P := P) (w := w) hb]; rfl

theorem run_pure {d : Option Nat} {op : Op} {ty : TypeId} {pos : String} {aft : Array Edge} {g : Option (Nat × Bool)} {v : Value} {a : Act} {w : World} (hp : pureOp E op = some v) (ho : Ok N ds E a) :
    (execOp a.eval ⟨d, op, ty, pos, aft, g⟩).run P w = .ok (.value v) w := by
  unfold pureOp at hp
  split at hp
  · simp [execOp, ho.ev hp]
  · simp [execOp, ho.ev hp]
  · split at hp
    · rename_i h1; simp [execOp, ho.ev h1, asBool, ho.ev hp]
    · rename_i h1; simp [execOp, ho.ev h1, asBool, ho.ev hp]
    · cases hp
  · split at hp
    all_goals first
      | exact run_cmpop (by assumption) (by assumption) hp ho
      | (simp at hp; done)
  · split at hp
    · rename_i h1; simp at hp; subst hp; simp [execOp, ho.ev h1, Op.unary]
    · cases hp
  · split at hp
    · rename_i f c h1 h2
      simp at hp; subst hp
      have e1 := ho.evs h1
      have e2 := ho.evs h2
      simp only [execOp, Instr.makeFunc]
      rw [← e1, ← e2]
      simp [← List.map_toArray]
    · cases hp
  · split at hp
    · rename_i h1
      simp only [execOp, ho.ev h1, Instr.extract, hp]
      rfl
    · cases hp
  · cases hp

/-- An operation that yields this value, and leaves the memory as it is, wherever the assertions hold. -/
def Det (P : Program) (B : Nat) (A : Amb) (N : Nat) (ds : List Nat) (E : Env) (S : List (Asrt B)) (op : Op) (v : Value) : Prop :=
  (∀ c, op ≠ .defer c) ∧ (∀ cs b, op ≠ .select cs b) ∧ ∀ a w ty pos aft g d, Ok N ds E a → St B A S w → (execOp a.eval ⟨d, op, ty, pos, aft, g⟩).run P w = .ok (.value v) w

theorem XL_det {d : Nat} {op : Op} {ty : TypeId} {pos : String} {aft : Array Edge} {g : Option (Nat × Bool)} {v : Value} (hw : Want ops N E g) (hp : Det P B A N ds E S op v) (hd : Nat.blt d N = true)
    (h : XL P B A r N ops rest ds ((d, v) :: E) S Q) : XL P B A r N ops (⟨some d, op, ty, pos, aft, g⟩ :: rest) ds E S Q :=
  XL_val hw hp.1 hd (fun a w ho hs => hp.2.2 a w ty pos aft g (some d) ho hs) h

/-- An operation that yields nothing and turns the memory. -/
def Eff (P : Program) (B : Nat) (A : Amb) (N : Nat) (ds : List Nat) (E : Env) (S : List (Asrt B)) (op : Op) (S' : List (Asrt B)) : Prop :=
  (∀ c, op ≠ .defer c) ∧ ∀ a w ty pos aft g, Ok N ds E a → St B A S w → ∃ w', (execOp a.eval ⟨none, op, ty, pos, aft, g⟩).run P w = .ok .skip w' ∧ St B A S' w'

theorem XL_efd {op : Op} {ty : TypeId} {pos : String} {aft : Array Edge} {g : Option (Nat × Bool)} {S' : List (Asrt B)} (hw : Want ops N E g) (hf : Eff P B A N ds E S op S')
    (h : XL P B A r N ops rest ds E S' Q) : XL P B A r N ops (⟨none, op, ty, pos, aft, g⟩ :: rest) ds E S Q :=
  XL_eff hw hf.1 (fun a w ho hs => hf.2 a w ty pos aft g ho hs) h

theorem Det.app {X : List (Asrt B)} {op : Op} {v : Value} (h : Det P B A N ds E S op v) : Det P B A N ds E (S ++ X) op v :=
  ⟨h.1, h.2.1, fun a w ty pos aft g d ho hs => h.2.2 a w ty pos aft g d ho hs.drop⟩

theorem D_pure {op : Op} {v : Value} (hp : pureOp E op = some v) : Det P B A N ds E S op v :=
  ⟨by rintro c rfl; simp [pureOp] at hp, by rintro cs b rfl; simp [pureOp] at hp, fun a w ty pos aft g d ho _ => run_pure hp ho⟩

end Go.Sl
end

section
namespace Go.Sl
open Go
set_option linter.unusedVariables false
variable {P : Program} {B : Nat} {A : Amb} {r : Option Nat} {N : Nat} {ds : List Nat} {E E' : Env} {S R L F : List (Asrt B)} {Q Q' : P4 B} {ops : Array Oper} {rest : List Oper} {o : Oper}
variable {d : Nat} {op : Op} {ty : TypeId} {pos : String} {aft : Array Edge} {g : Option (Nat × Bool)} {v : Value}

/-! ### Facts on types, reckoned -/

def fldOff (P : Program) (s f : Nat) : Option Nat :=
  match P.underlying s with
  | some (.struct fs) => match fs[f]? with
    | some fd => match P.info? fd.type with
      | some i => if i.size = 0 then none else some fd.offset
      | none => none
    | none => none
  | _ => none

def arrOf (P : Program) (t : Nat) : Option (Nat × Nat) :=
  match P.underlying t with
  | some (.array n e) => match P.info? e with
    | some i => if n ≤ 1 then none else some (n, i.size)
    | none => none
  | _ => none

def slcOf (P : Program) (t : Nat) : Option (Nat × Nat) :=
  match P.underlying t with
  | some (.slice e) => match P.info? e with
    | some i => some (e, i.size)
    | none => none
  | _ => none

/-- Is it an aggregate, and of how many cells? -/
def tyK (P : Program) (t : Nat) : Option (Bool × Nat) :=
  match P.underlying t, P.info? t with
  | some (.struct _), some i | some (.array _ _), some i => some (true, i.size)
  | some _, some i => some (false, i.size)
  | _, _ => none

def zeroOf (P : Program) (t : Nat) : Option (List Value) := match P.info? t with
  | some i => match i.zero with
    | some z => some z.cells.toList
    | none => none
  | none => none

def cvtK (P : Program) (s t : Nat) : Option IntKind := match P.underlying s, P.underlying t with
  | some _, some (.int k) => some k
  | _, _ => none

theorem arrOf_spec {t n sz : Nat} (h : arrOf P t = some (n, sz)) : ∃ e i, P.underlying t = some (.array n e) ∧ P.info? e = some i ∧ i.size = sz ∧ 1 < n := by
  unfold arrOf at h
  split at h
  · rename_i n' e hu
    split at h
    · rename_i i hi
      split at h
      · cases h
      · simp at h; obtain ⟨rfl, rfl⟩ := h
        exact ⟨e, i, hu, hi, rfl, by omega⟩
    · cases h
  · cases h

theorem slcOf_spec {t e sz : Nat} (h : slcOf P t = some (e, sz)) : ∃ i, P.underlying t = some (.slice e) ∧ P.info? e = some i ∧ i.size = sz := by
  unfold slcOf at h
  split at h
  · rename_i e' hu
    split at h
    · rename_i i hi
      simp at h; obtain ⟨rfl, rfl⟩ := h
      exact ⟨i, hu, hi, rfl⟩
    · cases h
  · cases h

theorem run_isAgg_sizeOf {t n : Nat} {b : Bool} (h : tyK P t = some (b, n)) (w : World) : (isAgg t).run P w = .ok b w ∧ (sizeOf t).run P w = .ok n w := by
  unfold tyK at h
  split at h
  all_goals first
    | (rename_i hu hi
       simp at h; obtain ⟨rfl, rfl⟩ := h
       refine ⟨?_, by simp [sizeOf, typeInfo, hi]⟩
       simp [isAgg, run_underlying hu])
    | (rename_i d' i' hns hna hu hi
       simp at h; obtain ⟨rfl, rfl⟩ := h
       refine ⟨?_, by simp [sizeOf, typeInfo, hi]⟩
       simp only [isAgg, Sem.run_bind, run_underlying hu, Result.andThen_ok])
    | cases h

/-! ### Addresses -/

theorem add_off (b o n : Nat) : (⟨b, o, none⟩ : Addr).add n = ⟨b, o + n, none⟩ := by unfold Addr.add; split <;> simp_all

theorem D_nilck {x : Operand} {ad : Addr} (hx : ev E x = some (.pointer (some ad))) : Det P B A N ds E S (.nilCheck x) (.pointer (some ad)) :=
  ⟨by simp, by simp, fun a w ty pos aft g d ho hs => by simp [execOp, ho.ev hx]⟩

theorem run_fieldAt {s f off : Nat} (ad : Addr) (h : fldOff P s f = some off) (w : World) : (Instr.fieldAt s (.pointer (some ad)) f).run P w = .ok (.pointer (some (ad.add off))) w := by
  unfold fldOff at h
  split at h
  · rename_i fs hu
    split at h
    · rename_i fd hf
      split at h
      · rename_i i hi
        split at h
        · cases h
        · rename_i hne
          simp at h; subst h
          simp [Instr.fieldAt, run_underlying hu, hf, Instr.sureAddr, fieldPlace, sizeOf, typeInfo, hi, hne]
      · cases h
    · cases h
  · cases h

/-- A field of a struct behind a pointer into a block of one's own. -/
theorem D_fld {s f b o off o' : Nat} {x : Operand} (hx : ev E x = some (.pointer (some ⟨b, o, none⟩))) (hf : fldOff P s f = some off) (ho' : Nat.add o off = o') : Det P B A N ds E S (.fieldAddr s x f) (.pointer (some ⟨b, o', none⟩)) :=
  ⟨by simp, by simp, fun a w ty pos aft g d ho hs => by
    have : o + off = o' := ho'
    simp [execOp, ho.ev hx, run_fieldAt _ hf, add_off, this]⟩

theorem D_fldA {s f k off k' : Nat} {ad : Addr} {x : Operand} (hx : ev E x = some (.pointer (some (ad.add k)))) (hf : fldOff P s f = some off) (hk : k + off = k') : Det P B A N ds E S (.fieldAddr s x f) (.pointer (some (ad.add k'))) :=
  ⟨by simp, by simp, fun a w ty pos aft g d ho hs => by
    have e : (ad.add k).add off = ad.add k' := by
      subst hk; unfold Addr.add; by_cases hi : k = 0 <;> by_cases hj : off = 0 <;> simp [hi, hj, Nat.add_assoc]
    simp [execOp, ho.ev hx, run_fieldAt _ hf, e]⟩

/-- An element of an array behind a pointer into a block of one's own. -/
theorem D_idxA {t b o n sz j o' : Nat} {x i : Operand} {k : IntKind} {m : Int} (hx : ev E x = some (.pointer (some ⟨b, o, none⟩))) (hi : ev E i = some (.int k m)) (ht : arrOf P t = some (n, sz))
    (hm : m = (j : Int)) (hj : j < n) (ho' : o + j * sz = o') : Det P B A N ds E S (.indexAddr t x i) (.pointer (some ⟨b, o', none⟩)) :=
  ⟨by simp, by simp, fun a w ty pos aft g d ho hs => by
    obtain ⟨e, inf, hu, hinf, hsz, hn⟩ := arrOf_spec ht
    subst hm hsz ho'
    simp [execOp, ho.ev hx, ho.ev hi, Instr.indexAt, asIntOf, run_underlying hu, Instr.sureAddr, sizeOf, typeInfo, hinf, Nat.not_le.2 hj, add_off]⟩

/-- An element of a slice. -/
theorem D_idxS {t n e sz j c k' : Nat} {ad : Addr} {x i : Operand} {k : IntKind} {m : Int} (hx : ev E x = some (.slice (some ad) n c)) (hi : ev E i = some (.int k m)) (ht : slcOf P t = some (e, sz))
    (hm : m = (j : Int)) (hj : j < n) (hk' : j * sz = k') : Det P B A N ds E S (.indexAddr t x i) (.pointer (some (ad.add k'))) :=
  ⟨by simp, by simp, fun a w ty pos aft g d ho hs => by
    obtain ⟨inf, hu, hinf, hsz⟩ := slcOf_spec ht
    subst hm hsz hk'
    simp [execOp, ho.ev hx, ho.ev hi, Instr.indexAt, asIntOf, run_underlying hu, sizeOf, typeInfo, hinf, Nat.not_le.2 hj]⟩

/-- .. of a slice that may be nil. -/
theorem D_idxSo {t n e sz j c k' : Nat} {ad : Option Addr} {x i : Operand} {k : IntKind} {m : Int} (hx : ev E x = some (.slice ad n c)) (hi : ev E i = some (.int k m)) (ht : slcOf P t = some (e, sz))
    (hz : ad = none → n = 0) (hm : m = (j : Int)) (hj : j < n) (hk' : j * sz = k') : Det P B A N ds E S (.indexAddr t x i) (.pointer (some ((ad.getD ⟨0, 0, none⟩).add k'))) := by
  cases ad with
  | none => have := hz rfl; omega
  | some ad => exact D_idxS hx hi ht hm hj hk'

theorem D_len {t n c e sz : Nat} {ad : Option Addr} {x : Operand} {ats : Array TypeId} (hx : ev E x = some (.slice ad n c)) (has : ats[0]? = some t) (ht : slcOf P t = some (e, sz)) : Det P B A N ds E S (.call { callee := .builtin .len, args := #[x], argTypes := ats }) (.int .i64 n) :=
  ⟨by simp, by simp, fun a w ty pos aft g d ho hs => by
    obtain ⟨inf, hu, _, _⟩ := slcOf_spec ht
    simp [execOp, resolve, invoke, builtin, ho.ev hx, Builtin.len_, has, run_underlying hu, goInt]⟩

/-! ### Arithmetic -/

theorem D_add {x y : Operand} {t t' : Nat} {m n : Int} (hx : ev E x = some (.int .i64 m)) (hy : ev E y = some (.int .i64 n)) (h1 : -9223372036854775808 ≤ m + n) (h2 : m + n ≤ 9223372036854775807) : Det P B A N ds E S (.binOp .add t x y t') (.int .i64 (m + n)) :=
  ⟨by simp, by simp, fun a w ty pos aft g d ho hs => by
    simp [execOp, ho.ev hx, ho.ev hy, eqGuard, binOp, Op.intArith, IntWalk.i64_in (m + n) ⟨h1, h2⟩]⟩
theorem D_sub {x y : Operand} {t t' : Nat} {m n : Int} (hx : ev E x = some (.int .i64 m)) (hy : ev E y = some (.int .i64 n)) (h1 : -9223372036854775808 ≤ m - n) (h2 : m - n ≤ 9223372036854775807) : Det P B A N ds E S (.binOp .sub t x y t') (.int .i64 (m - n)) :=
  ⟨by simp, by simp, fun a w ty pos aft g d ho hs => by
    simp [execOp, ho.ev hx, ho.ev hy, eqGuard, binOp, Op.intArith, IntWalk.i64_in (m - n) ⟨h1, h2⟩]⟩
theorem D_mul {x y : Operand} {t t' : Nat} {m n : Int} (hx : ev E x = some (.int .i64 m)) (hy : ev E y = some (.int .i64 n)) (h1 : -9223372036854775808 ≤ m * n) (h2 : m * n ≤ 9223372036854775807) : Det P B A N ds E S (.binOp .mul t x y t') (.int .i64 (m * n)) :=
  ⟨by simp, by simp, fun a w ty pos aft g d ho hs => by
    simp [execOp, ho.ev hx, ho.ev hy, eqGuard, binOp, Op.intArith, IntWalk.i64_in (m * n) ⟨h1, h2⟩]⟩
/-- Whatever the kind, with the wrap. -/
theorem D_arith {x y : Operand} {t t' : Nat} {m n z : Int} {k : IntKind} {bo : BinOp} (hx : ev E x = some (.int k m)) (hy : ev E y = some (.int k n))
    (hz : (match bo with | .add => k.wrap (m + n) = z | .sub => k.wrap (m - n) = z | .mul => k.wrap (m * n) = z | _ => False)) : Det P B A N ds E S (.binOp bo t x y t') (.int k z) :=
  ⟨by simp, by simp, fun a w ty pos aft g d ho hs => by
    cases bo <;> simp only at hz <;> subst hz <;> simp [execOp, ho.ev hx, ho.ev hy, eqGuard, binOp, Op.intArith]⟩
theorem D_divmod {x y : Operand} {t t' : Nat} {m n z : Int} {k : IntKind} {bo : BinOp} (hx : ev E x = some (.int k m)) (hy : ev E y = some (.int k n)) (h0 : n ≠ 0)
    (hz : (match bo with | .quo => k.wrap (m.tdiv n) = z | .rem => m.tmod n = z | _ => False)) : Det P B A N ds E S (.binOp bo t x y t') (.int k z) :=
  ⟨by simp, by simp, fun a w ty pos aft g d ho hs => by
    cases bo <;> simp only at hz <;> subst hz <;> simp [execOp, ho.ev hx, ho.ev hy, eqGuard, binOp, Op.intDiv, h0]⟩
theorem D_bits {x y : Operand} {t t' : Nat} {m n z : Int} {k : IntKind} {bo : BinOp} (hx : ev E x = some (.int k m)) (hy : ev E y = some (.int k n))
    (hz : (match bo with
      | .and => k.wrap ((BitVec.ofInt k.bits m &&& BitVec.ofInt k.bits n).toNat : Int) = z
      | .or => k.wrap ((BitVec.ofInt k.bits m ||| BitVec.ofInt k.bits n).toNat : Int) = z
      | .xor => k.wrap ((BitVec.ofInt k.bits m ^^^ BitVec.ofInt k.bits n).toNat : Int) = z
      | .andNot => k.wrap ((BitVec.ofInt k.bits m &&& ~~~BitVec.ofInt k.bits n).toNat : Int) = z
      | _ => False)) : Det P B A N ds E S (.binOp bo t x y t') (.int k z) :=
  ⟨by simp, by simp, fun a w ty pos aft g d ho hs => by
    cases bo <;> simp only at hz <;> subst hz <;> simp [execOp, ho.ev hx, ho.ev hy, eqGuard, binOp, Op.intBits]⟩
theorem D_shift {x y : Operand} {t t' : Nat} {m n z : Int} {k k' : IntKind} {bo : BinOp} (hx : ev E x = some (.int k m)) (hy : ev E y = some (.int k' n)) (h0 : 0 ≤ n)
    (hz : (match bo with
      | .shl => k.wrap (m * 2 ^ (min n.toNat k.bits)) = z
      | .shr => m.fdiv (2 ^ (min n.toNat k.bits)) = z
      | _ => False)) : Det P B A N ds E S (.binOp bo t x y t') (.int k z) :=
  ⟨by simp, by simp, fun a w ty pos aft g d ho hs => by
    have : ¬ n < 0 := by omega
    cases bo <;> simp only at hz <;> subst hz <;> simp [execOp, ho.ev hx, ho.ev hy, eqGuard, binOp, Op.shift, this]⟩

theorem D_cvt {x : Operand} {s t : Nat} {m z : Int} {k k' : IntKind} (hx : ev E x = some (.int k' m)) (ht : cvtK P s t = some k) (hz : k.wrap m = z) : Det P B A N ds E S (.convert s t x) (.int k z) :=
  ⟨by simp, by simp, fun a w ty pos aft g d ho hs => by
    unfold cvtK at ht
    split at ht
    · rename_i u k'' hs hu
      simp at ht; subst ht hz
      cases u <;> simp [execOp, ho.ev hx, convert, run_underlying hs, run_underlying hu, Conv.intToInt]
    · cases ht⟩

theorem D_min {x y : Operand} {m n : Int} {k : IntKind} {ats : Array TypeId} (hx : ev E x = some (.int k m)) (hy : ev E y = some (.int k n)) : Det P B A N ds E S (.call { callee := .builtin .min, args := #[x, y], argTypes := ats }) (.int k (min m n)) :=
  ⟨by simp, by simp, fun a w ty pos aft g d ho hs => by
    have e : (if n < m then n else m) = min m n := by omega
    simp [execOp, resolve, invoke, builtin, ho.ev hx, ho.ev hy, run_min_int2, e]⟩
theorem D_max {x y : Operand} {m n : Int} {k : IntKind} {ats : Array TypeId} (hx : ev E x = some (.int k m)) (hy : ev E y = some (.int k n)) : Det P B A N ds E S (.call { callee := .builtin .max, args := #[x, y], argTypes := ats }) (.int k (max m n)) :=
  ⟨by simp, by simp, fun a w ty pos aft g d ho hs => by
    have e : (if m < n then n else m) = max m n := by omega
    simp [execOp, resolve, invoke, builtin, ho.ev hx, ho.ev hy, run_max_int2, e]⟩

theorem D_eqb {x y : Operand} {t t' : Nat} {p q b : Bool} {bo : BinOp} (hx : ev E x = some (.bool p)) (hy : ev E y = some (.bool q)) (ht : P.underlying t = some .bool)
    (hb : (match bo with | .eql => (p == q) = b | .neq => (p != q) = b | _ => False)) : Det P B A N ds E S (.binOp bo t x y t') (.bool b) :=
  ⟨by simp, by simp, fun a w ty pos aft g d ho hs => by
    cases bo <;> simp only at hb <;> subst hb
    · simp [execOp, ho.ev hx, ho.ev hy, eqGuard, run_eql_bool w t p q ht]
    · simp [execOp, ho.ev hx, ho.ev hy, eqGuard, run_neq_bool w t p q ht, bne]⟩

end Go.Sl
end

section
namespace Go.Sl
open Go
set_option linter.unusedVariables false
variable {P : Program} {B : Nat} {A : Amb} {r : Option Nat} {N : Nat} {ds : List Nat} {E E' : Env} {S R L F : List (Asrt B)} {Q Q' : P4 B} {ops : Array Oper} {rest : List Oper} {o : Oper}
variable {d : Nat} {op : Op} {ty : TypeId} {pos : String} {aft : Array Edge} {g : Option (Nat × Bool)} {v : Value}

/-! ### Reading -/

/-- What the assertion lets one read: the cells from the address on. -/
def Rd (K : Asrt B) (ad : Addr) (xs : List Value) : Prop := ∀ D w, K.holds D w → ∀ k, k < xs.length → w.cell? (ad.add k) = xs[k]?

theorem Rd_obj {b : Nat} {cs : List Value} {t : TypeId} {fz : Nat × Nat} : Rd (obj (B := B) b (.cells cs.toArray t fz)) ⟨b, 0, none⟩ cs := by
  intro D w h k hk
  rw [add_off, Nat.zero_add, cell_of_row w b k _ t fz h.2]
  simp

theorem Rd_old {W : World} {ad : Addr} {xs : List Value} (h : ∀ k, k < xs.length → ad.block < B ∧ W.cell? (ad.add k) = xs[k]?) : Rd (old (B := B) W) ad xs := fun D w hw k hk => by
  rw [← (h k hk).2]
  have hb : (ad.add k).block = ad.block := by unfold Addr.add; split <;> rfl
  exact World.cell?_of_block (hw.2 _ (by rw [hb]; exact (h k hk).1))

theorem Rd_row {b n c e sz : Nat} {xs : List Value} : Rd (row (B := B) (.slice (some ⟨b, 0, none⟩) n c) e sz n xs) ⟨b, 0, none⟩ xs := by
  intro D w h k hk
  rw [add_off, Nat.zero_add]
  exact h.1.cellAt k (by rw [← h.1.1]; exact hk)

theorem run_load1 {t : Nat} {p : Addr} {w : World} (ht : tyK P t = some (false, 1)) (hv : w.cell? p = some v) : (Instr.loadAt t (.pointer (some p))).run P w = .ok v w := by
  obtain ⟨h1, h2⟩ := run_isAgg_sizeOf ht w
  simp [Instr.loadAt, Instr.sureAddr, loadVar, h1, hv]

theorem run_loadN {t n : Nat} {p : Addr} {w : World} {vs : List Value} (ht : tyK P t = some (true, n)) (hn : vs.length = n) (hv : ∀ k, k < n → w.cell? (p.add k) = vs[k]?) :
    (Instr.loadAt t (.pointer (some p))).run P w = .ok (.agg vs.toArray) w := by
  obtain ⟨h1, h2⟩ := run_isAgg_sizeOf ht w
  have hl : (loadCells p n).run P w = .ok vs.toArray w := by
    rw [← hn]
    exact run_loadCells_list (P := P) w p vs (fun j v hj => by
      have hlt := (List.getElem?_eq_some_iff.1 hj).1
      rw [hv j (by omega), hj])
  simp [Instr.loadAt, Instr.sureAddr, loadVar, h1, h2, hl]

theorem addr_add_add (p : Addr) (i j : Nat) : (p.add i).add j = p.add (i + j) := by
  unfold Addr.add; by_cases hi : i = 0 <;> by_cases hj : j = 0 <;> simp [hi, hj, Nat.add_assoc]

/-- A load of one cell. -/
theorem D_ld {K : Asrt B} {ad : Addr} {xs : List Value} {t k : Nat} {x : Operand} (hx : ev E x = some (.pointer (some (ad.add k)))) (ho' : Out K S R) (hr : Rd K ad xs) (ht : tyK P t = some (false, 1))
    (hv : xs[k]? = some v) : Det P B A N ds E S (.load t x) (v) :=
  ⟨by simp, by simp, fun a w ty pos aft g d ho hs => by
    obtain ⟨D, hK⟩ := hs.mem ho'
    have hc := hr D w hK k (List.getElem?_eq_some_iff.1 hv).1
    simp [execOp, ho.ev hx, run_load1 ht (hc.trans hv)]⟩

/-- .. out of a block of one's own. -/
theorem D_ldo {cs : List Value} {t b k : Nat} {x : Operand} {te : TypeId} {fz : Nat × Nat} (hx : ev E x = some (.pointer (some ⟨b, k, none⟩))) (ho' : Out (obj b (.cells cs.toArray te fz)) S R) (ht : tyK P t = some (false, 1))
    (hv : cs[k]? = some v) : Det P B A N ds E S (.load t x) (v) :=
  D_ld (ad := ⟨b, 0, none⟩) (k := k) (by rw [add_off, Nat.zero_add]; exact hx) ho' Rd_obj ht hv

/-- A load of an aggregate. -/
theorem D_lds {K : Asrt B} {ad : Addr} {xs vs : List Value} {t k n : Nat} {x : Operand} (hx : ev E x = some (.pointer (some (ad.add k)))) (ho' : Out K S R) (hr : Rd K ad xs) (ht : tyK P t = some (true, n))
    (hl : Nat.ble (k + n) xs.length = true) (hv : (xs.drop k).take n = vs) : Det P B A N ds E S (.load t x) (.agg vs.toArray) :=
  ⟨by simp, by simp, fun a w ty pos aft g d ho hs => by
    obtain ⟨D, hK⟩ := hs.mem ho'
    have hl := Nat.le_of_ble_eq_true hl
    have := run_loadN (P := P) (w := w) (p := ad.add k) (vs := vs) ht (by rw [← hv]; simp; omega) (fun j hj => by
      rw [addr_add_add, hr D w hK (k + j) (by omega), ← hv]
      simp [List.getElem?_drop, hj])
    simp [execOp, ho.ev hx, this]⟩

theorem D_ldso {cs vs : List Value} {t b k n : Nat} {x : Operand} {te : TypeId} {fz : Nat × Nat} (hx : ev E x = some (.pointer (some ⟨b, k, none⟩))) (ho' : Out (obj b (.cells cs.toArray te fz)) S R) (ht : tyK P t = some (true, n))
    (hl : Nat.ble (k + n) cs.length = true) (hv : (cs.drop k).take n = vs) : Det P B A N ds E S (.load t x) (.agg vs.toArray) :=
  D_lds (ad := ⟨b, 0, none⟩) (k := k) (by rw [add_off, Nat.zero_add]; exact hx) ho' Rd_obj ht hl hv

/-! ### Making -/

theorem run_newVar (e : TypeId) (u : Value) (w : World) : (newVar e u).run P w = .ok ⟨w.heap.size, 0, none⟩ (w.alloc (.cells u.cells e)) := by
  simp only [newVar, newRow, Sem.run_bind, run_newObj_alloc, Result.andThen_ok, Sem.run_pure]

theorem XL_alloc {t : Nat} {cs : List Value} (hw : Want ops N E g) (hz : zeroOf P t = some cs) (hd : Nat.blt d N = true)
    (h : ∀ b, XL P B A r N ops rest ds ((d, .pointer (some ⟨b, 0, none⟩)) :: E) (blk b cs t :: S) Q) : XL P B A r N ops (⟨some d, .alloc t, ty, pos, aft, g⟩ :: rest) ds E S Q :=
  XL_op (α := Nat) (fun b => .pointer (some ⟨b, 0, none⟩)) (fun b => blk b cs t :: S) (fun _ => True) hw (by simp) hd (fun a w ho hs => by
    unfold zeroOf at hz
    split at hz
    · rename_i i hi
      split at hz
      · rename_i z hz'
        simp at hz
        refine ⟨w.heap.size, w.alloc (.cells z.cells t), ?_, ?_, trivial⟩
        · simp [execOp, Instr.alloc, zeroValue, typeInfo, hi, hz', run_newVar]
        · have := hs.new (.cells z.cells t)
          subst hz
          simpa using this
      · cases hz
    · cases hz) (fun b _ => h b)

theorem XL_box {t : Nat} {x : Operand} {cs : List Value} (hw : Want ops N E g) (hx : ev E x = some v) (hc : v.cells = cs.toArray) (hd : Nat.blt d N = true)
    (h : ∀ b, XL P B A r N ops rest ds ((d, .pointer (some ⟨b, 0, none⟩)) :: E) (blk b cs t :: S) Q) : XL P B A r N ops (⟨some d, .box t x, ty, pos, aft, g⟩ :: rest) ds E S Q :=
  XL_op (α := Nat) (fun b => .pointer (some ⟨b, 0, none⟩)) (fun b => blk b cs t :: S) (fun _ => True) hw (by simp) hd (fun a w ho hs => by
    refine ⟨w.heap.size, w.alloc (.cells cs.toArray t), ?_, hs.new _, trivial⟩
    simp [execOp, Instr.box, ho.ev hx, run_newVar, hc]) (fun b _ => h b)

/-! ### Writing -/

theorem St.store {b : Nat} {cs : List Value} {te : TypeId} {w : World} (h : St B A (blk b cs te :: S) w) (k : Nat) (u : Value) : St B A (blk b (cs.set k u) te :: S) (w.setCell ⟨b, k, none⟩ u) := by
  obtain ⟨D, hobj⟩ := h.mem (.here _ _)
  refine h.set ?_ (fun j hj => heap_setCell_other w ⟨b, k, none⟩ j u hj) (by simp) rfl rfl rfl
  have := heap_setCell_same w b k cs.toArray te u hobj.2
  simpa using this

theorem oneCell_cells (hv : v.oneCell' = true) : v.cells = #[v] := by cases v <;> simp_all [Value.oneCell', Value.cells]

theorem run_store1 {b k t : Nat} {cs : List Value} {te : TypeId} {w : World} (hv : v.oneCell' = true) (ht : tyK P t = some (false, 1)) (hk : k < cs.length) (hb : w.heap[b]? = some (.cells cs.toArray te (0, 0))) :
    (Instr.storeAt t (.pointer (some ⟨b, k, none⟩)) v).run P w = .ok () (w.setCell ⟨b, k, none⟩ v) := by
  obtain ⟨h1, h2⟩ := run_isAgg_sizeOf ht w
  have hc : w.cell? ⟨b, k, none⟩ = some cs[k] := by rw [cell_of_row w b k _ te _ hb]; simp [hk]
  have hf := frozen_of_row w b k _ te hb
  simp [Instr.storeAt, Instr.sureAddr, storeVar, h2, oneCell_cells hv, storeCells, add_off, run_store P w ⟨b, k, none⟩ v .plain hv, hc, hf]

theorem F_st {cs cs' : List Value} {t b k : Nat} {x y : Operand} {te : TypeId} (hx : ev E x = some (.pointer (some ⟨b, k, none⟩))) (hy : ev E y = some v) (h1 : v.oneCell' = true) (ho' : Out (blk b cs te) S R) (ht : tyK P t = some (false, 1))
    (hk : Nat.blt k cs.length = true) (hc : cs.set k v = cs') : Eff P B A N ds E S (.store t x y) (blk b cs' te :: R) :=
  ⟨by simp, fun a w ty pos aft g ho hs => by
    have hs' : St B A (blk b cs te :: R) w := hs.take (.cons ho' (.nil _))
    obtain ⟨D, hobj⟩ := hs'.mem (.here _ _)
    exact ⟨_, by simp [execOp, ho.ev hx, ho.ev hy, run_store1 h1 ht (by simpa using hk) hobj.2], hc ▸ hs'.store k v⟩⟩

theorem run_storeCells_obj {b : Nat} {te : TypeId} : ∀ (vs : List Value) (k i : Nat) (cs : List Value) (w : World), (∀ u ∈ vs, u.oneCell' = true) → k + i + vs.length ≤ cs.length → St B A (blk b cs te :: S) w →
    ∃ w', (storeCells ⟨b, k, none⟩ vs i).run P w = .ok () w' ∧ St B A (blk b (cs.take (k + i) ++ vs ++ cs.drop (k + i + vs.length)) te :: S) w'
  | [], k, i, cs, w, _, hk, hs => ⟨w, by simp [storeCells], by simpa using hs⟩
  | u :: vs, k, i, cs, w, h1, hk, hs => by
    simp at hk
    obtain ⟨D, hobj⟩ := hs.mem (.here _ _)
    have hc : w.cell? ⟨b, k + i, none⟩ = some cs[k + i] := by rw [cell_of_row w b (k + i) _ te _ hobj.2]; simp [show k + i < cs.length by omega]
    have hf := frozen_of_row w b (k + i) _ te hobj.2
    obtain ⟨w', hr, hs'⟩ := run_storeCells_obj vs k (i + 1) (cs.set (k + i) u) _ (fun x hx => h1 x (by simp [hx])) (by simp; omega) (hs.store (k + i) u)
    refine ⟨w', ?_, ?_⟩
    · simp [storeCells, add_off, run_store P w ⟨b, k + i, none⟩ u .plain (h1 u (by simp)), hc, hf, hr]
    · have e : (cs.set (k + i) u).take (k + (i + 1)) ++ vs ++ (cs.set (k + i) u).drop (k + (i + 1) + vs.length) = cs.take (k + i) ++ (u :: vs) ++ cs.drop (k + i + (u :: vs).length) := by
        rw [List.drop_set_of_lt (by omega), show k + (i + 1) = (k + i) + 1 by omega, List.take_succ_eq_append_getElem (by simp; omega), List.take_set_of_le (by omega)]
        simp [Nat.add_assoc, Nat.add_comm 1]
      rw [e] at hs'
      exact hs'

/-- A store of an aggregate. -/
theorem F_sts {cs cs' vs : List Value} {t b k n : Nat} {x y : Operand} {te : TypeId} (hx : ev E x = some (.pointer (some ⟨b, k, none⟩))) (hy : ev E y = some (.agg vs.toArray)) (h1 : ∀ u ∈ vs, u.oneCell' = true) (ho' : Out (blk b cs te) S R) (ht : tyK P t = some (true, n))
    (hn : vs.length = n) (hk : Nat.ble (k + n) cs.length = true) (hc : cs.take k ++ vs ++ cs.drop (k + n) = cs') : Eff P B A N ds E S (.store t x y) (blk b cs' te :: R) :=
  ⟨by simp, fun a w ty pos aft g ho hs => by
    obtain ⟨_, h2⟩ := run_isAgg_sizeOf ht w
    have hk := Nat.le_of_ble_eq_true hk
    obtain ⟨w', hr, hs'⟩ := run_storeCells_obj (P := P) vs k 0 cs w h1 (by omega) (hs.take (.cons ho' (.nil _)))
    refine ⟨w', ?_, by rw [← hc, ← hn]; simpa using hs'⟩
    simp [execOp, ho.ev hx, ho.ev hy, Instr.storeAt, Instr.sureAddr, storeVar, h2, Value.cells, hn, hr]⟩

/-- A store of an aggregate over the whole of a block. -/
theorem F_stw {cs vs : List Value} {t b n : Nat} {x y : Operand} {te : TypeId} (hx : ev E x = some (.pointer (some ⟨b, 0, none⟩))) (hy : ev E y = some (.agg vs.toArray)) (h1 : vs.all (·.oneCell') = true) (ho' : Out (blk b cs te) S R) (ht : tyK P t = some (true, n))
    (hn : Nat.beq vs.length n = true) (hk : Nat.beq cs.length n = true) : Eff P B A N ds E S (.store t x y) (blk b vs te :: R) :=
  F_sts (cs' := vs) hx hy (fun u hu => List.all_eq_true.1 h1 u hu) ho' ht (Nat.eq_of_beq_eq_true hn) (by have := Nat.eq_of_beq_eq_true hk; simp [this]) (by have := Nat.eq_of_beq_eq_true hk; simp [← this])

/-! ### Calls -/

theorem XL_call {f : FuncId} {xs : List Operand} {args : List Value} {ats : Array TypeId} {pre : List (Asrt B)} {post : Value → List (Asrt B) → Prop} (hw : Want ops N E g) (he : Go.Proofs.Enters P f)
    (ha : evs E xs = some args) (hf : Ctr P B f args pre post) (ht : Take pre S F) (hd : Nat.blt d N = true)
    (h : ∀ v S', post v S' → XL P B A r N ops rest ds ((d, v) :: E) (S' ++ F) Q) :
    XL P B A r N ops (⟨some d, .call { callee := .value (.func f), args := xs.toArray, argTypes := ats }, ty, pos, aft, g⟩ :: rest) ds E S Q := by
  intro a w ho hs
  simp only [wpListIn]
  rw [if_pos (Want.wanted (o := ⟨some d, .call { callee := .value (.func f), args := xs.toArray, argTypes := ats }, ty, pos, aft, g⟩) hw ho)]
  refine ⟨fun _ _ => trivial, ?_⟩
  have hargs := ho.evs ha
  rw [Oper.semAt_eq _ _ _ (by simp)]
  have hrun : (execOp a.eval ⟨some d, .call { callee := .value (.func f), args := xs.toArray, argTypes := ats }, ty, pos, aft, g⟩).run P w = .ok (.enter f args.toArray) w := by
    simp [execOp, resolve, Act.eval, Deferred.ofValue, invoke, hargs, he args.toArray w]
  rw [hrun]
  have hs' := hs.take ht
  obtain ⟨D, g1, g2, g3, g4, g5, g6⟩ := hs'
  obtain ⟨Dp, DF, hD, hdj, hpre, hF⟩ := g1.append
  refine ⟨by simp [Fence.wide], ?_⟩
  refine CallsIn.mono (hf w Dp hpre (fun k hk => g2 k ((hD k).2 (.inl hk))) hs.size) ?_
  rintro e w' ⟨v, S', rfl, hp, hst⟩
  refine h v S' hp _ w' (ho.put (by simpa using hd)) ?_
  exact St.frame_at g1 g2 g3 g4 g5 g6 hD hdj hF hst


/-- A call of a function that only reckons. -/
theorem XL_callv {f : FuncId} {xs : List Operand} {args : List Value} {ats : Array TypeId} {u : Value} (hw : Want ops N E g) (he : Go.Proofs.Enters P f)
    (ha : evs E xs = some args) (hf : Ctr P B f args [] (fun v S => v = u ∧ S = [])) (hd : Nat.blt d N = true)
    (h : XL P B A r N ops rest ds ((d, u) :: E) S Q) :
    XL P B A r N ops (⟨some d, .call { callee := .value (.func f), args := xs.toArray, argTypes := ats }, ty, pos, aft, g⟩ :: rest) ds E S Q :=
  XL_call hw he ha hf (.nil _) hd (fun _ _ ⟨hv, hS⟩ => by subst hv hS; exact h)

theorem Out.back {x : Asrt B} {S R : List (Asrt B)} (h : Out x S R) : ∀ {D w}, Sts (x :: R) D w → Sts S D w := by
  induction h with
  | here S => exact fun h => h
  | there y h ih =>
    intro D w ⟨D1, D2, hD, hd, h1, D3, D4, hD', hd', h3, h4⟩
    refine ⟨D3, fun k => D1 k ∨ D4 k, fun k => ?_, fun k hk h => ?_, h3, ih ⟨D1, D4, fun _ => Iff.rfl, fun k hk h => hd k hk ((hD' k).2 (.inr h)), h1, h4⟩⟩
    · rw [hD k, hD' k]; exact ⟨fun h => h.elim (fun h => .inr (.inl h)) (fun h => h.elim .inl (fun h => .inr (.inr h))), fun h => h.elim (fun h => .inr (.inl h)) (fun h => h.elim .inl (fun h => .inr (.inr h)))⟩
    · exact h.elim (fun h => hd k h ((hD' k).2 (.inl hk))) (fun h => hd' k hk h)

theorem Take.back {L S R : List (Asrt B)} (h : Take L S R) : ∀ {D w}, Sts (L ++ R) D w → Sts S D w := by
  induction h with
  | nil S => exact fun h => h
  | cons h t ih =>
    intro D w ⟨D1, D2, hD, hd, h1, h2⟩
    exact h.back ⟨D1, D2, hD, hd, h1, ih h2⟩

theorem St.untake {L R : List (Asrt B)} {w : World} (h : St B A (L ++ R) w) (t : Take L S R) : St B A S w := by
  obtain ⟨D, h1, h2⟩ := h
  exact ⟨D, t.back h1, h2⟩

/-- A call that leaves what it is lent as it was. -/
theorem XL_callk {f : FuncId} {xs : List Operand} {args : List Value} {ats : Array TypeId} {u : Value} {pre : List (Asrt B)} (hw : Want ops N E g) (he : Go.Proofs.Enters P f)
    (ha : evs E xs = some args) (hf : Ctr P B f args pre (fun v S => v = u ∧ S = pre)) (ht : Take pre S F) (hd : Nat.blt d N = true)
    (h : XL P B A r N ops rest ds ((d, u) :: E) S Q) :
    XL P B A r N ops (⟨some d, .call { callee := .value (.func f), args := xs.toArray, argTypes := ats }, ty, pos, aft, g⟩ :: rest) ds E S Q :=
  XL_call hw he ha hf ht hd (fun _ _ ⟨hv, hS⟩ => by subst hv hS; exact fun a w ho hs => h a w ho (hs.untake ht))

end Go.Sl
end

section
namespace Go.Sl
open Go
set_option linter.unusedVariables false
variable {P : Program} {B : Nat} {A : Amb} {r : Option Nat} {N : Nat} {ds : List Nat} {E E' : Env} {S R R' L F : List (Asrt B)} {Q Q' : P4 B} {ops : Array Oper} {rest : List Oper} {o : Oper}
variable {d : Nat} {op : Op} {ty : TypeId} {pos : String} {aft : Array Edge} {g : Option (Nat × Bool)} {v : Value}

/-! ### Composite values -/

def evps (E : Env) : List (Nat × Operand) → Option (List (Nat × Value))
  | [] => some []
  | (i, x) :: l => match ev E x, evps E l with
    | some v, some vs => some ((i, v) :: vs)
    | _, _ => none

theorem Ok.evps {a : Act} (h : Ok N ds E a) : ∀ {l : List (Nat × Operand)} {vs : List (Nat × Value)}, evps E l = some vs → l.map (fun (i, x) => (i, a.eval x)) = vs
  | [], vs, hv => by simp [Sl.evps] at hv; simp [hv]
  | (i, x) :: l, vs, hv => by
    simp only [Sl.evps] at hv
    split at hv
    · rename_i v vs' h1 h2
      simp at hv; subst hv
      simp [h.ev h1, h.evps h2]
    · cases hv

/-- The places of a struct's fields, or an array's elements; the zero cells. -/
def bldOf (P : Program) (t : Nat) : Option (List Value × List (Nat × Nat)) :=
  match P.info? t, P.underlying t with
  | some it, some (.struct fs) => match it.zero, fs.toList.mapM (fun f => (P.info? f.type).map fun i => (f.offset, i.size)) with
    | some z, some pl => some (z.cells.toList, pl)
    | _, _ => none
  | _, _ => none

def setAt : List Value → Nat → List Value → List Value
  | cs, _, [] => cs
  | cs, off, v :: vs => setAt (cs.set off v) (off + 1) vs

def fillL (pl : List (Nat × Nat)) : List Value → List (Nat × Value) → Option (List Value)
  | cs, [] => some cs
  | cs, (i, v) :: rest => match pl[i]? with
    | none => none
    | some (off, size) => bif Nat.beq v.cells.toList.length size && Nat.ble (off + size) cs.length then fillL pl (setAt cs off v.cells.toList) rest else none

theorem foldl_setAt : ∀ (vs : List Value) (cs : List Value) (off n : Nat), (vs.zipIdx n).foldl (fun (cs : Array Value) (c, j) => cs.setIfInBounds (off + j) c) cs.toArray = (setAt cs (off + n) vs).toArray
  | [], cs, off, n => by simp [setAt]
  | v :: vs, cs, off, n => by
    simp only [List.zipIdx_cons, List.foldl_cons, setAt]
    rw [show (cs.toArray.setIfInBounds (off + n) v) = (cs.set (off + n) v).toArray by simp]
    exact foldl_setAt vs _ off (n + 1)

theorem fillL_spec {place : Nat → Option (Nat × Nat)} {pl : List (Nat × Nat)} : ∀ {ps : List (Nat × Value)} {z cs : List Value}, (∀ p ∈ ps, place p.1 = pl[p.1]?) → fillL pl z ps = some cs → Instr.fill place z.toArray ps = some cs.toArray
  | [], z, cs, _, h => by simp [fillL] at h; simp [Instr.fill, h]
  | (i, v) :: rest, z, cs, hpl, h => by
    have hpi := hpl (i, v) (by simp)
    simp only at hpi
    simp only [fillL] at h
    simp only [Instr.fill, hpi]
    split at h
    · cases h
    · rename_i off size hi
      rw [hi]
      cases hb : (Nat.beq v.cells.toList.length size && Nat.ble (off + size) z.length) with
      | false => rw [hb] at h; cases h
      | true =>
        rw [hb] at h
        simp only [Bool.and_eq_true] at hb
        have h1 := Nat.eq_of_beq_eq_true hb.1
        have h2 := Nat.le_of_ble_eq_true hb.2
        have h1' : v.cells.size = size := by simpa using h1
        simp only [h1', List.size_toArray]
        rw [if_neg (by simp; omega)]
        have e := foldl_setAt v.cells.toList z off 0
        rw [← Array.foldl_toList, Array.toList_zipIdx, e]
        exact fillL_spec (fun p hp => hpl p (by simp [hp])) h

theorem bldOf_built {t : Nat} {z : List Value} {pl : List (Nat × Nat)} {ps : List (Nat × Value)} {cs : List Value} (h : bldOf P t = some (z, pl)) (hf : fillL pl z ps = some cs) : P.built t ps = some cs.toArray := by
  unfold bldOf at h
  unfold Program.built
  split at h
  · rename_i it fs hi hu
    split at h
    · rename_i z' pl' hz hp
      simp at h; obtain ⟨rfl, rfl⟩ := h
      simp only [hi, hu, hz, hp]
      have := fillL_spec (place := (pl'.toArray[·]?)) (fun p _ => by simp) hf
      simpa using this
    · cases h
  · cases h

theorem D_build {t : Nat} {parts : List (Nat × Operand)} {z : List Value} {pl : List (Nat × Nat)} {ps : List (Nat × Value)} (cs : List Value) (hp : evps E parts = some ps) (ht : bldOf P t = some (z, pl))
    (hf : fillL pl z ps = some cs) : Det P B A N ds E S (.build t parts.toArray) (.agg cs.toArray) :=
  ⟨by simp, by simp, fun a w ty pos aft g d ho hs => by
    have e := ho.evps hp
    have := run_build (P := P) w t (parts.map fun (i, x) => (i, a.eval x)).toArray cs.toArray (by rw [e]; exact bldOf_built ht hf)
    simp only [execOp, List.map_toArray, Sem.run_bind, this, Result.andThen_ok, Sem.run_pure]⟩

/-- The zero value of whatever type. -/
theorem D_zero {t : Nat} {cs : List Value} (hz : zeroOf P t = some cs) (hk : (match P.underlying t with | some (.struct _) => (bldOf P t).isSome | some (.array _ e) => (P.info? e).isSome | _ => false) = true) : Det P B A N ds E S (.build t #[]) (.agg cs.toArray) :=
  ⟨by simp, by simp, fun a w ty pos aft g d ho hs => by
    have hb : P.built t [] = some cs.toArray := by
      unfold zeroOf at hz
      split at hz
      · rename_i i hi
        split at hz
        · rename_i z hz'
          simp at hz; subst hz
          unfold Program.built
          split at hk
          · rename_i fs hu
            unfold bldOf at hk
            simp only [hi, hu] at hk ⊢
            split at hk
            · rename_i z' pl h1 h2
              rw [hz'] at h1; cases h1
              simp [h2, hz', Instr.fill]
            · cases hk
          · rename_i n e hu
            simp only [hi, hu, hz']
            cases hie : P.info? e with
            | none => simp [hie] at hk
            | some ie => simp [Instr.fill]
          · cases hk
        · cases hz
      · cases hz
    have := run_build (P := P) w t #[] cs.toArray hb
    simp only [execOp, Array.map_empty, Sem.run_bind, this, Result.andThen_ok, Sem.run_pure]⟩

/-! ### Slices of one's own -/

/-- What is known of a slice's type: its element, the cells and bytes of one, the zero cells. -/
def slT (P : Program) (t : Nat) : Option (Nat × Nat × Nat × List Value) :=
  match P.underlying t with
  | some (.slice e) => match P.info? e with
    | some i => match i.zero with
      | some z => if z.cells.size = i.size ∧ 0 < i.size then some (e, i.size, i.bytes, z.cells.toList) else none
      | none => none
    | none => none
  | _ => none

theorem slT_spec {t e sz by' : Nat} {z : List Value} (h : slT P t = some (e, sz, by', z)) : ∃ i zv, P.underlying t = some (.slice e) ∧ P.info? e = some i ∧ i.zero = some zv ∧ i.size = sz ∧ i.bytes = by' ∧ zv.cells.size = sz ∧ 0 < sz ∧ zv.cells.toList = z := by
  unfold slT at h
  split at h
  · rename_i e' hu
    split at h
    · rename_i i hi
      split at h
      · rename_i zv hz
        split at h
        · rename_i hc
          simp at h; obtain ⟨rfl, rfl, rfl, rfl⟩ := h
          exact ⟨i, zv, hu, hi, hz, rfl, rfl, hc.1, hc.2, rfl⟩
        · cases h
      · cases h
    · cases h
  · cases h

theorem St.row_nil {e sz : Nat} {w : World} (h : St B A S w) : St B A (row (.slice none 0 0) e sz 0 [] :: S) w := by
  obtain ⟨D, h1, h2⟩ := h
  exact ⟨D, ⟨fun _ => False, D, fun k => by simp, fun _ h _ => h, ⟨World.ownsRow_nil _ _ _ _, fun k => by simp [Value.ownBlock]⟩, h1⟩, h2⟩

/-- An empty slice: nil. -/
theorem XL_rownil {l : List Oper} (e sz : Nat) (h : XL P B A r N ops l ds E (row (.slice none 0 0) e sz 0 [] :: S) Q) : XL P B A r N ops l ds E S Q := fun a w ho hs => h a w ho hs.row_nil
theorem X_rownil {c : Code} (e sz : Nat) (h : X P B A r N c ds E (row (.slice none 0 0) e sz 0 [] :: S) Q) : X P B A r N c ds E S Q := fun a w ho hs => h a w ho hs.row_nil

theorem append_where {w w' : World} {t ty e sz m c n : Nat} {i : TypeInfo} {zv v v' : Value} {xs news : List Value} {ad : Addr} (hu : P.underlying t = some (.slice e)) (hi : P.info? e = some i) (hz : i.zero = some zv) (hsz : i.size = sz)
    (hown : w.ownsRow B e sz v n xs) (hl : news.length = m * sz) (hnews : ∀ j u, news[j]? = some u → w.cell? (ad.add j) = some u) (h1 : ∀ u ∈ news, u.oneCell' = true) (h63 : n + m ≤ maxLen) (hby : (n + m) * i.bytes ≤ 140737488355328)
    (hnil : v' = .slice none 0 0 ↔ v = .slice none 0 0 ∧ m = 0) (hrun : (Builtin.append_ #[t, t] ty #[v, .slice (some ad) m c]).run P w = .ok v' w') : ∀ k, v'.ownBlock = some k → v.ownBlock = some k ∨ w.heap.size ≤ k := by
  intro k hk
  subst hsz
  have hsm : n + m ≤ 9223372036854775807 := by simp only [maxLen] at h63; omega
  rcases hown.2 with ⟨rfl, rfl⟩ | ⟨g, cap, cur, rfl, hbg, hg, hnc, hcm, hcs, htake⟩
  · by_cases hm : m = 0
    · rw [hnil.2 ⟨rfl, hm⟩] at hk; cases hk
    · have hr := run_append_nil (P := P) w t ty e i zv hu hi hz ad m c news hl hnews (by omega) (by omega) (by simp only [Nat.zero_add] at hby; omega)
      rw [hrun] at hr
      cases hr
      simp [Value.ownBlock] at hk
      exact .inr (by omega)
  · by_cases hroom : n + m ≤ cap
    · have hfit : n * i.size + news.length ≤ cur.size := by rw [hl, hcs, ← Nat.add_mul]; exact Nat.mul_le_mul_right _ hroom
      have hr := run_append_room (P := P) w t ty e i hu hi g n cap cur hg ad m c news hl hnews h1 hroom hfit
      rw [hrun] at hr
      cases hr
      exact .inl hk
    · have hr := run_append_grow (P := P) w t ty e i zv hu hi hz ⟨g, 0, none⟩ n cap xs hown.1 (hown.cells (g := g) rfl) ad m c news hl hnews (by omega) (by omega) (growslice_fits (by omega) hby)
      rw [hrun] at hr
      cases hr
      simp [Value.ownBlock] at hk
      exact .inr (by omega)

/-- append: what is appended is read out of whatever assertion. -/
theorem XL_append {t e sz by' n m c : Nat} {z xs news : List Value} {x y : Operand} {K : Asrt B} {ad : Addr} (hw : Want ops N E g) (hx : ev E x = some v) (hy : ev E y = some (.slice (some ad) m c)) (ht : slT P t = some (e, sz, by', z))
    (ho1 : Out (row v e sz n xs) S R) (ho2 : Out K S R') (hr : Rd K ad news) (hl : news.length = m * sz) (h1 : ∀ u ∈ news, u.oneCell' = true) (h63 : n + m ≤ maxLen) (hby : (n + m) * by' ≤ 140737488355328) (hd : Nat.blt d N = true)
    (h : ∀ v', (v' = .slice none 0 0 ↔ v = .slice none 0 0 ∧ m = 0) → XL P B A r N ops rest ds ((d, v') :: E) (row v' e sz (n + m) (xs ++ news) :: R) Q) :
    XL P B A r N ops (⟨some d, .call { callee := .builtin .append, args := #[x, y], argTypes := #[t, t] }, ty, pos, aft, g⟩ :: rest) ds E S Q :=
  XL_op (α := Value) id (fun v' => row v' e sz (n + m) (xs ++ news) :: R) (fun v' => v' = .slice none 0 0 ↔ v = .slice none 0 0 ∧ m = 0) hw (by simp) hd (fun a w ho hs => by
    obtain ⟨i, zv, hu, hi, hz, hsz, hbt, hzs, hpos, _⟩ := slT_spec ht
    obtain ⟨DK, hK⟩ := hs.mem ho2
    have hB := hs.size
    obtain ⟨D, ⟨D1, D2, hD, hdj, ⟨hown, hD1⟩, hS⟩, h2, h3, h4, h5, h6⟩ := hs.take (.cons ho1 (.nil _))
    obtain ⟨v', w', hrun, hown', hgr, hnil⟩ := run_append_own (P := P) w B t ty e i zv sz by' hu hi hz hsz hbt hzs hpos v n xs hown ad m c news hl
      (fun j u hj => by rw [hr DK w hK j (List.getElem?_eq_some_iff.1 hj).1, hj]) h1 h63 hby hB
    refine ⟨v', w', ?_, ?_, hnil⟩
    · simp [execOp, resolve, invoke, builtin, ho.ev hx, ho.ev hy, hrun]
    · have hlt := hown'.lt
      have hold : ∀ k, v.ownBlock = some k → D k := fun k hk => (hD k).2 (.inl ((hD1 k).2 hk))
      have hnew := append_where (P := P) hu hi hz hsz hown hl (fun j u hj => by rw [hr DK w hK j (List.getElem?_eq_some_iff.1 hj).1, hj]) h1 h63 (by rw [hbt]; exact hby) hnil hrun
      refine ⟨fun k => v'.ownBlock = some k ∨ D2 k, ⟨fun k => v'.ownBlock = some k, D2, fun _ => Iff.rfl, fun k hk hk2 => ?_, ⟨hown', fun _ => Iff.rfl⟩, hS.stable fun k hk => ?_⟩, fun k hk => ?_, fun k hk => ?_, ⟨hgr.os.trans h4.os, hgr.tape.trans h4.tape, hgr.output.trans h4.output, Nat.le_trans h4.size hgr.size, fun k hk hn => ?_⟩, h5, h6⟩
      · rcases hnew k hk with h | h
        · exact hdj k ((hD1 k).2 h) hk2
        · have := (h2 k ((hD k).2 (.inr hk2))).2; omega
      · refine hgr.block k ?_ ?_
        · rcases hk with hk | hk
          · omega
          · exact (h2 k ((hD k).2 (.inr hk))).2
        · intro e
          rcases hk with hk | hk
          · have := (h2 k (hold k e.symm)).1; omega
          · exact hdj k ((hD1 k).2 e.symm) hk
      · rcases hk with hk | hk
        · exact hlt k hk
        · have := h2 k ((hD k).2 (.inr hk)); have := hgr.size; omega
      · rcases hk with hk | hk
        · rcases hnew k hk with h | h
          · exact h3 k (hold k h)
          · have := h4.size; exact .inr (by omega)
        · exact h3 k ((hD k).2 (.inr hk))
      · have := h4.size
        refine (hgr.block k (by omega) (fun e => ?_)).trans (h4.same k hk hn)
        rcases h3 k (hold k e.symm) with h | h
        · exact hn h
        · omega) h


/-- A slice literal. -/
theorem XL_bslice {t e sz n by' : Nat} {z cs : List Value} {parts : List (Nat × Operand)} {ps : List (Nat × Value)} (hw : Want ops N E g) (hp : evps E parts = some ps) (ht : slT P t = some (e, sz, by', z))
    (hsm : n * sz ≤ 16777216) (hpos : 0 < n) (hcs : cs.length = n * sz) (hf : fillL ((List.range n).map fun i => (i * sz, sz)) ((List.range (n * sz)).map (z.toArray[· % z.length]!)) ps = some cs) (hlt : ps.all (fun p => Nat.blt p.1 n) = true) (hd : Nat.blt d N = true)
    (h : ∀ b, XL P B A r N ops rest ds ((d, .slice (some ⟨b, 0, none⟩) n n) :: E) (blk b cs e :: S) Q) : XL P B A r N ops (⟨some d, .buildSlice t n parts.toArray, ty, pos, aft, g⟩ :: rest) ds E S Q :=
  XL_op (α := Nat) (fun b => .slice (some ⟨b, 0, none⟩) n n) (fun b => blk b cs e :: S) (fun _ => True) hw (by simp) hd (fun a w ho hs => by
    obtain ⟨i, zv, hu, hi, hz, hsz, hbt, hzs, hps, hzl⟩ := slT_spec ht
    have e1 := ho.evps hp
    have hzl' : z.length = zv.cells.size := by rw [← hzl]; simp
    have hza : z.toArray = zv.cells := by rw [← hzl]
    refine ⟨w.heap.size, w.alloc (.cells cs.toArray e), ?_, hs.new _, trivial⟩
    have hne : ¬ (16777216 < n * sz) := by omega
    have h0 : n * sz ≠ 0 := by have := Nat.mul_pos hpos hps; omega
    rw [hza, hzl'] at hf
    simp only [execOp, Instr.buildSlice, Sem.run_bind, run_underlying hu, Result.andThen_ok, sizeOf, typeInfo, run_program, hi, Sem.run_pure, hsz]
    simp only [show (2 : Nat) ^ 24 = 16777216 from rfl, gt_iff_lt, hne, if_false, Sem.run_bind, Sem.run_pure, Result.andThen_ok, h0, zeroValue, typeInfo, run_program, hi, hz]
    have e2 : (parts.toArray.map fun x => match x with | (i, x) => (i, a.eval x)).toList = ps := by rw [← e1]; simp
    have e3 : Instr.fill (fun i => some (i * sz, sz)) ((Array.range (n * sz)).map fun x => zv.cells[x % zv.cells.size]!) ps = some cs.toArray := by
      have := fillL_spec (place := fun i => some (i * sz, sz)) (fun p hp => by have := List.all_eq_true.1 hlt p hp; simp at this; simp [this]) hf
      rw [← this]
      congr 1
      apply Array.ext'
      simp [Array.toList_range]
    simp only [e2, e3, newRow, Sem.run_bind, run_newObj_alloc, Result.andThen_ok, Sem.run_pure]) (fun b _ => h b)

theorem Rd_blk0 {b : Nat} {cs : List Value} {t : TypeId} : Rd (blk (B := B) b cs t) ⟨b, 0, none⟩ cs := Rd_obj

/-- A result that is an aggregate in memory. -/
theorem res_cell {fn : Func} {p t b n : Nat} {cs : List Value} {te : TypeId} {S1 : List (Asrt B)} (h : fn.results = #[.cell p t]) (hp : E.get p = some (.pointer (some ⟨b, 0, none⟩))) (ho : Out (blk b cs te) S S1) (ht : tyK P t = some (true, n)) (hn : cs.length = n) :
    ∀ a w, Ok N ds E a → St B A S w → (results fn a.tmps).run P w = .ok (.agg cs.toArray) w := by
  intro a w hok hs
  obtain ⟨D, hK⟩ := hs.mem ho
  have hl := run_loadN (P := P) (w := w) (p := ⟨b, 0, none⟩) (vs := cs) ht hn (fun k hk => Rd_obj D w hK k (by omega))
  simp only [Instr.loadAt, Instr.sureAddr, Sem.run_bind, Sem.run_pure, Result.andThen_ok] at hl
  have hp' : a.tmps[p]?.getD undef = .pointer (some ⟨b, 0, none⟩) := by have := hok.get p _ hp; simpa [Array.getD_eq_getD_getElem?] using this
  simp [results, h, hp', asAddr, hl]

end Go.Sl
end

section
namespace Go.Sl
open Go
set_option linter.unusedVariables false
variable {P : Program} {B : Nat} {A : Amb} {r : Option Nat} {N : Nat} {ds : List Nat} {E E' : Env} {S R R' L F : List (Asrt B)} {Q Q' : P4 B} {ops : Array Oper} {rest : List Oper} {o : Oper}
variable {d : Nat} {op : Op} {ty : TypeId} {pos : String} {aft : Array Edge} {g : Option (Nat × Bool)} {v : Value}

/-! ### Words of 32 bits as bit vectors -/

theorem bvo (a : BitVec 32) : BitVec.ofInt 32 (a.toNat : Int) = a := by
  apply BitVec.eq_of_toNat_eq
  simp

theorem wrap_u32_nat (n : Nat) (h : n < 4294967296) : IntKind.u32.wrap (n : Int) = (n : Int) := by
  simp [IntKind.wrap, IntKind.bits, IntKind.signed]; omega

theorem wrap_bv (a : BitVec 32) : IntKind.u32.wrap (a.toNat : Int) = (a.toNat : Int) := wrap_u32_nat _ a.isLt

theorem u64_in {m : Int} (h0 : 0 ≤ m) (h1 : m ≤ 18446744073709551615) : IntKind.u64.wrap m = m := by
  simp [IntKind.wrap, IntKind.bits, IntKind.signed]; omega
theorem u32_in {m : Int} (h0 : 0 ≤ m) (h1 : m ≤ 4294967295) : IntKind.u32.wrap m = m := by
  simp [IntKind.wrap, IntKind.bits, IntKind.signed]; omega
theorem u8_in {m : Int} (h0 : 0 ≤ m) (h1 : m ≤ 255) : IntKind.u8.wrap m = m := by
  simp [IntKind.wrap, IntKind.bits, IntKind.signed]; omega
theorem i64_in' {m : Int} (h0 : -9223372036854775808 ≤ m) (h1 : m ≤ 9223372036854775807) : IntKind.i64.wrap m = m := IntWalk.i64_in m ⟨h0, h1⟩

def bvOp : BinOp → BitVec 32 → BitVec 32 → Option (BitVec 32)
  | .and, a, b => some (a &&& b)
  | .or, a, b => some (a ||| b)
  | .xor, a, b => some (a ^^^ b)
  | .andNot, a, b => some (a &&& ~~~b)
  | .add, a, b => some (a + b)
  | .sub, a, b => some (a - b)
  | .mul, a, b => some (a * b)
  | _, _, _ => none

theorem ofInt_eq_iff (m : Int) (a : BitVec 32) (h : BitVec.ofInt 32 m = a) : (m : Int) % 4294967296 = (a.toNat : Int) := by
  subst h
  simp [BitVec.toNat_ofInt]
  omega

theorem D_bv {x y : Operand} {t t' : Nat} {m n : Int} {a b c : BitVec 32} {bo : BinOp} (hx : ev E x = some (.int .u32 m)) (hy : ev E y = some (.int .u32 n)) (ha : BitVec.ofInt 32 m = a) (hb : BitVec.ofInt 32 n = b)
    (hc : bvOp bo a b = some c) : Det P B A N ds E S (.binOp bo t x y t') (.int .u32 (c.toNat : Int)) :=
  ⟨by simp, by simp, fun ac w ty pos aft g d ho hs => by
    have e1 := ofInt_eq_iff m a ha
    have e2 := ofInt_eq_iff n b hb
    cases bo <;> simp only [bvOp, Option.some.injEq, reduceCtorEq] at hc <;> subst hc
    · have : IntKind.u32.wrap (m + n) = ((a + b).toNat : Int) := by
        simp [IntKind.wrap, IntKind.bits, IntKind.signed, BitVec.toNat_add]; omega
      simp [execOp, ho.ev hx, ho.ev hy, eqGuard, binOp, Op.intArith, this]
    · have : IntKind.u32.wrap (m - n) = ((a - b).toNat : Int) := by
        simp [IntKind.wrap, IntKind.bits, IntKind.signed, BitVec.toNat_sub]; omega
      simp [execOp, ho.ev hx, ho.ev hy, eqGuard, binOp, Op.intArith, this]
    · have : IntKind.u32.wrap (m * n) = ((a * b).toNat : Int) := by
        simp only [IntKind.wrap, IntKind.bits, IntKind.signed, BitVec.toNat_mul]
        simp
        rw [Int.mul_emod, e1, e2]
      simp [execOp, ho.ev hx, ho.ev hy, eqGuard, binOp, Op.intArith, this]
    all_goals
      simp only [execOp, ho.ev hx, ho.ev hy, eqGuard, binOp, Op.intBits, IntKind.bits, ha, hb, wrap_bv]
      simp [-BitVec.toNat_and, -BitVec.toNat_or, -BitVec.toNat_xor, -BitVec.toNat_not]
      try rfl⟩

theorem D_bvshl {x y : Operand} {t t' : Nat} {m n : Int} {k' : IntKind} {a : BitVec 32} (hx : ev E x = some (.int .u32 m)) (hy : ev E y = some (.int k' n)) (ha : BitVec.ofInt 32 m = a) (h0 : 0 ≤ n) (h1 : n < 32)
    : Det P B A N ds E S (.binOp .shl t x y t') (.int .u32 ((a <<< n.toNat).toNat : Int)) :=
  D_shift hx hy h0 (by
    have e1 := ofInt_eq_iff m a ha
    have hm : min n.toNat IntKind.u32.bits = n.toNat := by simp [IntKind.bits]; omega
    simp only [hm]
    simp only [IntKind.wrap, IntKind.bits, IntKind.signed, BitVec.toNat_shiftLeft, Nat.shiftLeft_eq]
    simp
    rw [Int.mul_emod, e1]
    conv => rhs; rw [Int.mul_emod]
    have : ((a.toNat : Int)) % 4294967296 = a.toNat := by have := a.isLt; omega
    rw [this])

theorem D_bvshr {x y : Operand} {t t' : Nat} {m n : Int} {k' : IntKind} {a : BitVec 32} (hx : ev E x = some (.int .u32 m)) (hy : ev E y = some (.int k' n)) (ha : m = (a.toNat : Int)) (h0 : 0 ≤ n) (h1 : n < 32)
    : Det P B A N ds E S (.binOp .shr t x y t') (.int .u32 ((a >>> n.toNat).toNat : Int)) :=
  D_shift hx hy h0 (by
    subst ha
    have hm : min n.toNat IntKind.u32.bits = n.toNat := by simp [IntKind.bits]; omega
    simp only [hm]
    rw [Int.fdiv_eq_ediv_of_nonneg _ (by exact Int.pow_nonneg (by omega))]
    simp [Nat.shiftRight_eq_div_pow])

theorem D_bvrem {x y : Operand} {t t' : Nat} {m n : Int} {a b : BitVec 32} (hx : ev E x = some (.int .u32 m)) (hy : ev E y = some (.int .u32 n)) (ha : m = (a.toNat : Int)) (hb : n = (b.toNat : Int)) (h0 : b ≠ 0)
    : Det P B A N ds E S (.binOp .rem t x y t') (.int .u32 ((a % b).toNat : Int)) :=
  D_divmod hx hy (by subst hb; intro e; apply h0; apply BitVec.eq_of_toNat_eq; simp; omega) (by
    subst ha hb
    simp [Int.tmod_eq_emod_of_nonneg])

end Go.Sl
end

section
namespace Go.Sl
open Go
set_option linter.unusedVariables false
variable {P : Program} {B : Nat} {A : Amb} {r : Option Nat} {N : Nat} {ds : List Nat} {E E' : Env} {S R R' L F : List (Asrt B)} {Q Q' : P4 B} {ops : Array Oper} {rest : List Oper} {o : Oper}
variable {d : Nat} {op : Op} {ty : TypeId} {pos : String} {aft : Array Edge} {g : Option (Nat × Bool)} {v : Value}

/-! ### '==' at structs and arrays of integers and bools -/

def tyOk : Option IntKind → Value → Bool
  | none, .bool _ => true
  | some k, .int k' _ => k == k'
  | _, _ => false

def allTy : List (Option IntKind) → List Value → Bool
  | [], [] => true
  | k :: ks, v :: vs => tyOk k v && allTy ks vs
  | _, _ => false

def veq : Value → Value → Bool
  | .bool a, .bool b => a == b
  | .int _ a, .int _ b => a == b
  | _, _ => false

def cellsEq : List Value → List Value → Bool
  | x :: xs, y :: ys => veq x y && cellsEq xs ys
  | _, _ => true

/-- The leaves of a struct's fields. -/
def eqKindsF (P : Program) (rec : TypeId → Option (List (Option IntKind))) : Nat → List Field → Option (List (Option IntKind))
  | _, [] => some []
  | off, f :: fs => match rec f.type, P.info? f.type with
    | some l, some i => if f.name ≠ "_" ∧ f.offset = off ∧ i.size = l.length then match eqKindsF P rec (off + l.length) fs with
        | some l' => some (l ++ l')
        | none => none
      else none
    | _, _ => none

/-- The leaves of a type of integers and bools, in order. -/
def eqKinds (P : Program) : Nat → TypeId → Option (List (Option IntKind))
  | 0, _ => none
  | d + 1, t => match P.underlying t with
    | some .bool => some [none]
    | some (.int k) => some [some k]
    | some (.struct fs) => if P.stoodInHeld t then none else eqKindsF P (eqKinds P d) 0 fs.toList
    | some (.array n e) => match eqKinds P d e, P.info? e with
      | some l, some i => if i.size = l.length then some (List.replicate n l).flatten else none
      | _, _ => none
    | _ => none

def isAggB (P : Program) (t : TypeId) : Bool := match P.underlying t with
  | some (.struct _) | some (.array _ _) => true
  | _ => false

/-- The value of a type made of these cells. -/
def wh (P : Program) (t : TypeId) (xs : List Value) : Value := if isAggB P t then .agg xs.toArray else xs.headD undef

theorem allTy_len : ∀ {ks : List (Option IntKind)} {xs : List Value}, allTy ks xs = true → xs.length = ks.length
  | [], [], _ => rfl
  | [], _ :: _, h => by cases h
  | _ :: _, [], h => by cases h
  | k :: ks, x :: xs, h => by simp [allTy] at h; simp [allTy_len h.2]

theorem allTy_append : ∀ {ks ks' : List (Option IntKind)} {xs : List Value}, allTy (ks ++ ks') xs = true → allTy ks (xs.take ks.length) = true ∧ allTy ks' (xs.drop ks.length) = true
  | [], ks', xs, h => by simpa [allTy] using h
  | k :: ks, ks', [], h => by cases h
  | k :: ks, ks', x :: xs, h => by
    simp only [List.cons_append, allTy, Bool.and_eq_true] at h
    obtain ⟨h1, h2⟩ := allTy_append h.2
    simp [allTy, h.1, h1, h2]

theorem cellsEq_split : ∀ (n : Nat) (xs ys : List Value), n ≤ xs.length → n ≤ ys.length → cellsEq xs ys = (cellsEq (xs.take n) (ys.take n) && cellsEq (xs.drop n) (ys.drop n))
  | 0, xs, ys, _, _ => by simp [cellsEq]
  | n + 1, [], _, h, _ => by simp at h
  | n + 1, _ :: _, [], _, h => by simp at h
  | n + 1, x :: xs, y :: ys, h, h' => by
    simp only [List.take_succ_cons, List.drop_succ_cons, cellsEq]
    rw [cellsEq_split n xs ys (by simpa using h) (by simpa using h'), Bool.and_assoc]

theorem isAgg_run {t : TypeId} {dsc : TypeDesc} (hu : P.underlying t = some dsc) (w : World) : (isAgg t).run P w = .ok (isAggB P t) w := by
  unfold isAgg isAggB
  simp only [Sem.run_bind, run_underlying hu, Result.andThen_ok, hu]
  cases dsc <;> rfl

theorem part_run {t : TypeId} {dsc : TypeDesc} {i : TypeInfo} {l : List (Option IntKind)} {xs : List Value} {off : Nat} (hu : P.underlying t = some dsc) (hi : P.info? t = some i) (hs : i.size = l.length) (hl : 0 < l.length ∨ isAggB P t = true)
    (h : allTy l ((xs.drop off).take l.length) = true) (w : World) : (part t xs.toArray off).run P w = .ok (wh P t ((xs.drop off).take l.length)) w := by
  have hlen := allTy_len h
  unfold part wh
  simp only [Sem.run_bind, isAgg_run hu, Result.andThen_ok]
  cases hb : isAggB P t with
  | true =>
    simp only [if_true, Sem.run_bind, sizeOf, typeInfo, run_program, Result.andThen_ok, hi, Sem.run_pure, hs]
    congr 2
    simp [List.extract_eq_take_drop]
  | false =>
    have h0 : 0 < l.length := by rcases hl with h | h; exact h; rw [hb] at h; cases h
    simp only [Bool.false_eq_true, if_false]
    simp at hlen
    have hoff : off < xs.length := by omega
    simp only [List.getElem?_toArray, List.getElem?_eq_getElem hoff]
    simp only [Sem.run_pure]
    congr 1
    simp [List.head?_eq_getElem?, List.getElem?_drop, List.getElem?_eq_getElem hoff, h0]

theorem eqKinds_pos : ∀ {d : Nat} {t : TypeId} {l : List (Option IntKind)}, eqKinds P d t = some l → (∃ dsc, P.underlying t = some dsc) ∧ (0 < l.length ∨ isAggB P t = true)
  | 0, _, _, h => by cases h
  | d + 1, t, l, h => by
    unfold eqKinds at h
    unfold isAggB
    split at h
    · rename_i hu; simp at h; subst h; exact ⟨⟨_, hu⟩, .inl (by simp)⟩
    · rename_i hu; simp at h; subst h; exact ⟨⟨_, hu⟩, .inl (by simp)⟩
    · rename_i hu; exact ⟨⟨_, hu⟩, .inr (by simp [hu])⟩
    · rename_i hu; exact ⟨⟨_, hu⟩, .inr (by simp [hu])⟩
    · cases h

theorem run_eqF {d f : Nat} (IH : ∀ {t : TypeId} {l : List (Option IntKind)}, eqKinds P d t = some l → ∀ (xs ys : List Value) (w : World), allTy l xs = true → allTy l ys = true → (Op.equalIn f t (wh P t xs) (wh P t ys)).run P w = .ok (cellsEq xs ys) w) :
    ∀ (fs : List Field) (off : Nat) (l : List (Option IntKind)) (xs ys : List Value) (w : World), eqKindsF P (eqKinds P d) off fs = some l → allTy l (xs.drop off) = true → allTy l (ys.drop off) = true →
      (Op.eqFields f xs.toArray ys.toArray fs).run P w = .ok (cellsEq (xs.drop off) (ys.drop off)) w
  | [], off, l, xs, ys, w, h, hx, hy => by
    simp [eqKindsF] at h; subst h
    have h1 := allTy_len hx
    have h2 := allTy_len hy
    rw [List.eq_nil_of_length_eq_zero h1]
    simp [Op.eqFields, cellsEq]
  | fd :: fs, off, l, xs, ys, w, h, hx, hy => by
    unfold eqKindsF at h
    split at h
    · rename_i l1 i hk hi
      split at h
      · rename_i hc
        obtain ⟨hn, ho, hs⟩ := hc
        split at h
        · rename_i l2 hF
          simp at h; subst h
          obtain ⟨hx1, hx2⟩ := allTy_append hx
          obtain ⟨hy1, hy2⟩ := allTy_append hy
          obtain ⟨⟨dsc, hu⟩, hpos⟩ := eqKinds_pos hk
          have p1 := part_run (xs := xs) hu hi hs hpos hx1 w
          have p2 := part_run (xs := ys) hu hi hs hpos hy1 w
          have e := IH hk _ _ w hx1 hy1
          rw [List.drop_drop] at hx2 hy2
          have hrec := run_eqF IH fs (off + l1.length) l2 xs ys w hF hx2 hy2
          have hlx := allTy_len hx
          have hly := allTy_len hy
          simp only [List.length_append] at hlx hly
          subst ho
          simp only [Op.eqFields, hn, ne_eq, not_false_eq_true, if_true, Sem.run_bind, p1, p2, e, Result.andThen_ok]
          rw [cellsEq_split l1.length (xs.drop fd.offset) (ys.drop fd.offset) (by omega) (by omega), List.drop_drop, List.drop_drop]
          cases hc : cellsEq ((xs.drop fd.offset).take l1.length) ((ys.drop fd.offset).take l1.length) with
          | false => simp
          | true => simpa using hrec
        · cases h
      · cases h
    · cases h

theorem allTy_rep {l : List (Option IntKind)} : ∀ {n : Nat} {xs : List Value}, allTy (List.replicate n l).flatten xs = true → ∀ i, i < n → allTy l ((xs.drop (i * l.length)).take l.length) = true
  | 0, _, _, i, hi => by omega
  | n + 1, xs, h, i, hi => by
    rw [List.replicate_succ, List.flatten_cons] at h
    obtain ⟨h1, h2⟩ := allTy_append h
    cases i with
    | zero => simpa using h1
    | succ i =>
      have := allTy_rep h2 i (by omega)
      rw [List.drop_drop] at this
      rw [show (i + 1) * l.length = l.length + i * l.length by rw [Nat.add_mul]; omega]
      exact this


theorem run_eqI {d f : Nat} (IH : ∀ {t : TypeId} {l : List (Option IntKind)}, eqKinds P d t = some l → ∀ (xs ys : List Value) (w : World), allTy l xs = true → allTy l ys = true → (Op.equalIn f t (wh P t xs) (wh P t ys)).run P w = .ok (cellsEq xs ys) w)
    {e : TypeId} {l : List (Option IntKind)} {i : TypeInfo} (hk : eqKinds P d e = some l) (hi : P.info? e = some i) (hs : i.size = l.length) (w : World) : ∀ (n k : Nat) (xs ys : List Value), (∀ j, j < k + n → allTy l ((xs.drop (j * l.length)).take l.length) = true) → (∀ j, j < k + n → allTy l ((ys.drop (j * l.length)).take l.length) = true) →
      xs.length = (k + n) * l.length → ys.length = (k + n) * l.length →
      (Op.eqItems f e l.length xs.toArray ys.toArray (List.range' k n)).run P w = .ok (cellsEq (xs.drop (k * l.length)) (ys.drop (k * l.length))) w
  | 0, k, xs, ys, hx, hy, lx, ly => by
    rw [List.drop_eq_nil_of_le (by simp at lx; omega), List.drop_eq_nil_of_le (by simp at ly; omega)]
    simp [Op.eqItems, cellsEq]
  | n + 1, k, xs, ys, hx, hy, lx, ly => by
    obtain ⟨⟨dsc, hu⟩, hpos⟩ := eqKinds_pos hk
    have hx1 := hx k (by omega)
    have hy1 := hy k (by omega)
    have p1 := part_run (xs := xs) hu hi hs hpos hx1 w
    have p2 := part_run (xs := ys) hu hi hs hpos hy1 w
    have e1 := IH hk _ _ w hx1 hy1
    have hrec := run_eqI IH hk hi hs w n (k + 1) xs ys (fun j hj => hx j (by omega)) (fun j hj => hy j (by omega)) (by rw [lx]; congr 1; omega) (by rw [ly]; congr 1; omega)
    have hm : (k + 1) * l.length = k * l.length + l.length := by rw [Nat.add_mul]; omega
    have hge : k * l.length + l.length ≤ (k + (n + 1)) * l.length := by
      rw [← hm]; exact Nat.mul_le_mul_right _ (by omega)
    simp only [List.range'_succ, Op.eqItems, Sem.run_bind, p1, p2, e1, Result.andThen_ok]
    rw [cellsEq_split l.length (xs.drop (k * l.length)) (ys.drop (k * l.length)) (by simp; omega) (by simp; omega), List.drop_drop, List.drop_drop, ← hm]
    cases hc : cellsEq ((xs.drop (k * l.length)).take l.length) ((ys.drop (k * l.length)).take l.length) with
    | false => simp
    | true => simpa using hrec

theorem run_eqk : ∀ (d : Nat) {t : TypeId} {l : List (Option IntKind)}, eqKinds P d t = some l → ∀ (f : Nat), d ≤ f → ∀ (xs ys : List Value) (w : World), allTy l xs = true → allTy l ys = true →
    (Op.equalIn f t (wh P t xs) (wh P t ys)).run P w = .ok (cellsEq xs ys) w
  | 0, _, _, h, _, _, _, _, _, _, _ => by cases h
  | d + 1, t, l, h, f, hf, xs, ys, w, hx, hy => by
    obtain ⟨f, rfl⟩ : ∃ f', f = f' + 1 := ⟨f - 1, by omega⟩
    have hlx := allTy_len hx
    have hly := allTy_len hy
    unfold eqKinds at h
    split at h
    · rename_i hu
      simp at h; subst h
      match xs, ys, hx, hy with
      | [.bool a], [.bool b], _, _ => simp [wh, isAggB, hu, run_equalIn_bool w f t a b hu, cellsEq, veq]
    · rename_i k hu
      simp at h; subst h
      match xs, ys, hx, hy with
      | [.int k1 a], [.int k2 b], h1, h2 =>
        simp [allTy, tyOk] at h1 h2
        subst h1 h2
        simp [wh, isAggB, hu, run_equalIn_int w f t k k a b hu, cellsEq, veq]
    · rename_i fs hu
      split at h
      · cases h
      · rename_i hst
        have ht : P.underlying t = some (.struct (P.fieldsOf t)) := by simp [Program.fieldsOf, hu]
        have hfs : (P.fieldsOf t).toList = fs.toList := by simp [Program.fieldsOf, hu]
        have := run_eqF (P := P) (d := d) (f := f) (fun hk xs ys w h1 h2 => run_eqk d hk f (by omega) xs ys w h1 h2) fs.toList 0 l xs ys w h (by simpa using hx) (by simpa using hy)
        simp only [wh, isAggB, hu, if_true]
        rw [run_equalIn_struct w f t _ _ ht (by simpa using hst), hfs, this]
        simp
    · rename_i n e hu
      split at h
      · rename_i l1 i hk hi
        split at h
        · rename_i hs
          simp at h; subst h
          simp only [List.length_flatten, List.map_replicate, List.sum_replicate_nat] at hlx hly
          have := run_eqI (P := P) (d := d) (f := f) (fun hk xs ys w h1 h2 => run_eqk d hk f (by omega) xs ys w h1 h2) hk hi hs w n 0 xs ys (fun j hj => allTy_rep hx j (by omega)) (fun j hj => allTy_rep hy j (by omega)) (by simpa using hlx) (by simpa using hly)
          simp only [wh, isAggB, hu, if_true]
          have hc : P.cellsOf e = l1.length := by rw [← hs]; simp [Program.cellsOf, hi]
          rw [run_equalIn_array w f _ _ hu hi, hc, List.range_eq_range', this]
          simp
        · cases h
      · cases h
    · cases h

/-- '==', '!=' at a struct or an array. -/
theorem D_eqs {x y : Operand} {t t' : Nat} {xs ys : List Value} {ks : List (Option IntKind)} {b : Bool} {bo : BinOp} (hx : ev E x = some (.agg xs.toArray)) (hy : ev E y = some (.agg ys.toArray)) (ht : eqKinds P 12 t = some ks) (hg : P.eqGuardType P.depth t = false)
    (h1 : allTy ks xs = true) (h2 : allTy ks ys = true) (ha : isAggB P t = true) (hb : (match bo with | .eql => cellsEq xs ys = b | .neq => (!cellsEq xs ys) = b | _ => False)) : Det P B A N ds E S (.binOp bo t x y t') (.bool b) :=
  ⟨by simp, by simp, fun a w ty pos aft g d ho hs => by
    have e := run_eqk 12 ht 10000 (by omega) xs ys w h1 h2
    simp only [wh, ha, if_true] at e
    cases bo <;> simp only at hb <;> subst hb
    · simp [execOp, ho.ev hx, ho.ev hy, run_eqGuard_agg w _ t x y _ _ hg, run_eql_struct, e]
    · simp [execOp, ho.ev hx, ho.ev hy, run_eqGuard_agg w _ t x y _ _ hg, run_neq_struct, e]⟩

end Go.Sl
end

section
namespace Go.Sl
open Go
set_option linter.unusedVariables false
variable {P : Program} {B : Nat} {A : Amb} {r : Option Nat} {N : Nat} {ds : List Nat} {E E' : Env} {S S1 R R' L F Fr own : List (Asrt B)} {Q Q' : P4 B} {ops : Array Oper} {rest : List Oper} {o : Oper}
variable {d : Nat} {op : Op} {ty : TypeId} {pos : String} {aft : Array Edge} {g : Option (Nat × Bool)} {v : Value}

/-! ### Ranging over functions -/

/-- What is known of yield, handed to an iterator. -/
def Yld (P : Program) (B : Nat) (l : Nat) (args : List Value) (pre : List (Asrt B)) (post : Bool → List (Asrt B) → Prop) : Prop :=
  ∀ w D, Sts pre D w → (∀ k, D k → B ≤ k ∧ k < w.heap.size) → B ≤ w.heap.size →
    ∃ fn tmps assign body, (Instr.yield l args.toArray).run P w = .ok (.round l fn tmps assign body) w ∧
      RoundIn (FW none) 0 P l fn tmps assign body w fun e w' => ∃ b S', e = .returned (.bool b) ∧ post b S' ∧ St B ⟨w, D⟩ S' w'

theorem Sts.swap {L1 L2 : List (Asrt B)} {D : Nat → Prop} {w : World} (h : Sts (L1 ++ L2) D w) : Sts (L2 ++ L1) D w := by
  obtain ⟨D1, D2, hD, hd, h1, h2⟩ := h.append
  exact Sts.join (fun k => by rw [hD k]; exact Or.comm) (fun k a b => hd k b a) h2 h1

theorem St.swap {L1 L2 : List (Asrt B)} {w : World} (h : St B A (L1 ++ L2) w) : St B A (L2 ++ L1) w := by
  obtain ⟨D, h1, h2⟩ := h
  exact ⟨D, h1.swap, h2⟩

theorem Sts.mid {L1 L2 L3 : List (Asrt B)} {D : Nat → Prop} {w : World} (h : Sts (L1 ++ (L2 ++ L3)) D w) : Sts (L2 ++ (L1 ++ L3)) D w := by
  obtain ⟨D1, D2, hD, hd, h1, h2⟩ := h.append
  obtain ⟨D3, D4, hD', hd', h3, h4⟩ := h2.append
  refine Sts.join (D1 := D3) (D2 := fun k => D1 k ∨ D4 k) (fun k => ?_) (fun k a b => ?_) h3 (Sts.join (fun _ => Iff.rfl) (fun k a b => hd k a ((hD' k).2 (.inr b))) h1 h4)
  · rw [hD k, hD' k]; exact ⟨fun h => h.elim (fun h => .inr (.inl h)) (fun h => h.elim .inl (fun h => .inr (.inr h))), fun h => h.elim (fun h => .inr (.inl h)) (fun h => h.elim .inl (fun h => .inr (.inr h)))⟩
  · exact b.elim (fun b => hd k b ((hD' k).2 (.inl a))) (fun b => hd' k a b)

theorem St.mid {L1 L2 L3 : List (Asrt B)} {w : World} (h : St B A (L1 ++ (L2 ++ L3)) w) : St B A (L2 ++ (L1 ++ L3)) w := by
  obtain ⟨D, h1, h2⟩ := h
  exact ⟨D, h1.mid, h2⟩

/-- A call of yield in an iterator, whose own state is 'own'. -/
theorem XL_yield {l : Nat} {f : Operand} {xs : List Operand} {args : List Value} {ats : Array TypeId} (own : List (Asrt B)) {Si : List (Asrt B)} {post : Bool → List (Asrt B) → Prop} (hw : Want ops N E g) (hf : ev E f = some (.func (.yield l) #[] #[]))
    (ha : evs E xs = some args) (hy : Yld P B l args Si post) (hd : Nat.blt d N = true)
    (h : ∀ b S', post b S' → XL P B A r N ops rest ds ((d, .bool b) :: E) (own ++ S') Q) :
    XL P B A r N ops (⟨some d, .call { callee := .value f, args := xs.toArray, argTypes := ats }, ty, pos, aft, g⟩ :: rest) ds E (own ++ Si) Q := by
  intro a w ho hs
  simp only [wpListIn]
  rw [if_pos (Want.wanted (o := ⟨some d, .call { callee := .value f, args := xs.toArray, argTypes := ats }, ty, pos, aft, g⟩) hw ho)]
  refine ⟨fun _ _ => trivial, ?_⟩
  have hargs := ho.evs ha
  have hsz := hs.size
  obtain ⟨D, g1, g2, g3, g4, g5, g6⟩ := hs.swap
  obtain ⟨Dp, DF, hD, hdj, hpre, hF⟩ := g1.append
  obtain ⟨fn, tmps, assign, body, hrun, hround⟩ := hy w Dp hpre (fun k hk => g2 k ((hD k).2 (.inl hk))) hsz
  rw [Oper.semAt_eq _ _ _ (by simp)]
  have e : (execOp a.eval ⟨some d, .call { callee := .value f, args := xs.toArray, argTypes := ats }, ty, pos, aft, g⟩).run P w = .ok (.round l fn tmps assign body) w := by
    simp only [execOp, resolve, ho.ev hf, Sem.run_bind]
    simp [Deferred.ofValue, invoke, hargs, hrun]
  rw [e]
  refine ⟨by simp [Fence.wide], ?_⟩
  refine RoundIn.mono hround ?_
  rintro e w' ⟨b, S', rfl, hp, hst⟩
  refine h b S' hp _ w' (ho.put (by simpa using hd)) ?_
  exact (St.frame_at g1 g2 g3 g4 g5 g6 hD hdj hF hst).swap

/-- An iterator: it hands 'xs' to yield, one by one, till that says no. -/
def Itr (P : Program) (B : Nat) (gf : FuncId) (lb : List Value) (own : List (Asrt B)) (xs : List (List Value)) : Prop :=
  ∀ (l : Nat) (J Jx : Nat → List (Asrt B) → Prop) (S0 : List (Asrt B)), J 0 S0 →
    (∀ i S, i < xs.length → J i S → Yld P B l (xs.getD i []) S fun b S' => (b = true ∧ J (i + 1) S') ∨ (b = false ∧ Jx i S')) →
    Ctr P B gf (.func (.yield l) #[] #[] :: lb) (own ++ S0) fun _ S' => ∃ S1, S' = own ++ S1 ∧ (J xs.length S1 ∨ ∃ i, i < xs.length ∧ Jx i S1)

def Env.setAll : List Nat → List Value → Env → Env
  | t :: ts, v :: vs, E => Env.setAll ts vs ((t, v) :: E)
  | _, _, E => E

theorem Ok.setAllL {N : Nat} : ∀ {ts : List Nat} {vs : List Value} {E : Env} {tm : Array Value}, (∀ t ∈ ts, t < N) → Ok N [] E { tmps := tm, defers := [] } →
    Ok N [] (Env.setAll ts vs E) { tmps := ((ts.zip vs).foldl (fun tmps (t, a) => tmps.setIfInBounds t a) tm), defers := [] }
  | [], vs, E, tm, _, h => by simpa [Env.setAll] using h
  | t :: ts, [], E, tm, _, h => by simpa [Env.setAll] using h
  | t :: ts, v :: vs, E, tm, ht, h => by
    have h1 : Ok N [] ((t, v) :: E) { tmps := tm.setIfInBounds t v, defers := [] } := h.put (ht t (by simp))
    exact Ok.setAllL (ts := ts) (vs := vs) (fun t ht' => ht t (by simp [ht'])) h1

theorem Ok.setAll {N : Nat} {ts : List Nat} {vs : List Value} {E : Env} {tm : Array Value} (ht : ∀ t ∈ ts, t < N) (h : Ok N [] E { tmps := tm, defers := [] }) :
    Ok N [] (Env.setAll ts vs E) { tmps := ((ts.toArray.zip vs.toArray).foldl (fun tmps (t, a) => tmps.setIfInBounds t a) tm), defers := [] } := by
  have := Ok.setAllL (vs := vs) ht h
  rw [← Array.foldl_toList]
  simpa using this

/-- A round's end. -/
def rndQ (l : Nat) (rec : Loop) (J : Nat → List (Asrt B) → Prop) (Ix : Code → Nat → List (Asrt B) → Prop) (i : Nat) : P4 B
  | .normal, _, _, S => ∃ S3 R, Take (obj l (.loop rec) :: S3) S R ∧ J (i + 1) S3
  | .ret, _, _, S => ∃ S3 R, Take (obj l (.loop rec) :: S3) S R ∧ Ix .ret i S3
  | .exit id, _, _, S => ∃ S3 R, Take (obj l (.loop rec) :: S3) S R ∧ Ix (.exit id) i S3
  | _, _, _, _ => False

/-- The end of the assignments to the loop's left sides. -/
def asgQ (P : Program) (A : Amb) (N : Nat) (body : Code) (l : Nat) (rec : Loop) (J : Nat → List (Asrt B) → Prop) (Ix : Code → Nat → List (Asrt B) → Prop) (i : Nat) : P4 B
  | .normal, ds, E, S => ds = [] ∧ ∃ S3 R, Take (obj l (.loop rec) :: S3) S R ∧ ∀ rec', X P B A (some l) N body [] E (obj l (.loop rec') :: S3) (rndQ l rec' J Ix i)
  | _, _, _, _ => False

theorem St.put {l : Nat} {o o' : Obj} {w : World} (h : St B A (obj l o :: S) w) : St B A (obj l o' :: S) (w.putObj l o') := by
  obtain ⟨D, hobj⟩ := h.mem (.here _ _)
  exact h.set (World.putObj_heap_same (Array.getElem?_eq_some_iff.1 hobj.2).1) (fun k hk => World.putObj_heap_other hk) (by simp) rfl rfl rfl

theorem St.head {l : Nat} {o : Obj} {w : World} (h : St B A (obj l o :: S) w) : w.heap[l]? = some o := by
  obtain ⟨D, hobj⟩ := h.mem (.here _ _)
  exact hobj.2

/-- One round, at yield. 'X1': what lies beside the record (the block for deferred calls). -/
theorem yld_round {ps : List Nat} {assign body : Code} {J : Nat → List (Asrt B) → Prop} {Ix : Code → Nat → List (Asrt B) → Prop} {xs : List (List Value)} {i l fn dd : Nat} {tm : Array Value} {S' X1 : List (Asrt B)} (hok : Ok N [] E { tmps := tm, defers := [] })
    (hps : ps.all (Nat.blt · N) = true) (hlen : ∀ x ∈ xs, x.length = ps.length) (hi : i < xs.length) (hJ : J i S')
    (hround : ∀ (l : Nat) (rec : Loop) (A' : Amb) (i : Nat) (S' : List (Asrt B)), i < xs.length → J i S' → X P B A' (some l) N assign [] (Env.setAll ps (xs.getD i []) E) (obj l (.loop rec) :: S') (asgQ P A' N body l rec J Ix i)) :
    Yld P B l (xs.getD i []) (obj l (.loop { state := .ready, pending := none, fn, tmps := tm, params := ps.toArray, assign, body, defers := dd }) :: (X1 ++ S')) fun b S2 =>
      (b = true ∧ ∃ S3, S2 = obj l (.loop { state := .ready, pending := none, fn, tmps := tm, params := ps.toArray, assign, body, defers := dd }) :: (X1 ++ S3) ∧ J (i + 1) S3) ∨
      (b = false ∧ ∃ c S3, S2 = obj l (.loop { state := .done, pending := some c, fn, tmps := tm, params := ps.toArray, assign, body, defers := dd }) :: (X1 ++ S3) ∧ Ix c i S3) := by
  intro w D hs hD hB
  have hst : St B ⟨w, D⟩ (obj l (.loop { state := .ready, pending := none, fn, tmps := tm, params := ps.toArray, assign, body, defers := dd }) :: (X1 ++ S')) w := ⟨D, hs, hD, fun k hk => .inl hk, Frm.refl _ _, hB, fun k hk => (hD k hk).1⟩
  have hl := hst.head
  have hxs : (xs.getD i []).length = ps.length := hlen _ (by simp [List.getD, List.getElem?_eq_getElem hi])
  have hy := run_yield (P := P) (args := (xs.getD i []).toArray) hl (by simp only [List.size_toArray]; exact hxs)
  refine ⟨_, _, _, _, hy, roundIn_of_wpIn trivial ?_⟩
  -- the rest of the state is set aside while the round goes on
  have hst' : St B ⟨w, D⟩ ((obj l (.loop { state := .ready, pending := none, fn, tmps := tm, params := ps.toArray, assign, body, defers := dd }) :: S') ++ X1) w := by
    have : St B ⟨w, D⟩ (X1 ++ (obj l (.loop { state := .ready, pending := none, fn, tmps := tm, params := ps.toArray, assign, body, defers := dd }) :: S')) w := St.mid (L1 := [_]) hst
    exact this.swap
  obtain ⟨D', k1, k2, k3, k4, k5, k6⟩ := hst'
  obtain ⟨Dp, DF, hDD, hdj, hpre, hF⟩ := k1.append
  have hp := hround l { state := .ready, pending := none, fn, tmps := tm, params := ps.toArray, assign, body, defers := dd } ⟨w, Dp⟩ i S' hi hJ _ w
    (Ok.setAll (vs := xs.getD i []) (fun t ht => by have := List.all_eq_true.1 hps t ht; simpa using this) hok)
    ⟨Dp, hpre, fun k hk => k2 k ((hDD k).2 (.inl hk)), fun k hk => .inl hk, Frm.refl _ _, hB, fun k hk => (k2 k ((hDD k).2 (.inl hk))).1⟩
  have join : ∀ {T : List (Asrt B)} {w' : World}, St B ⟨w, Dp⟩ T w' → St B ⟨w, D⟩ (T ++ X1) w' := fun h => St.frame_at k1 k2 k3 k4 k5 k6 hDD hdj hF h
  refine wpIn_mono hp ?_
  rintro e a1 w1 ⟨ds1, E1, S1, ok1, st1, q1⟩
  cases e with
  | normal =>
    obtain ⟨rfl, S3, R3, t3, hb⟩ := q1
    have st2 := st1.shed t3
    have hl1 := st2.head
    refine ⟨_, run_beginRound hl1 rfl, ?_⟩
    have hbody := hb _ a1 _ ok1 (st2.put (o' := .loop { state := .busy, pending := none, fn, tmps := tm, params := ps.toArray, assign, body, defers := dd }))
    refine wpIn_mono hbody ?_
    rintro e2 a2 w2 ⟨ds2, E2, S4, ok2, st4, q2⟩
    cases e2 with
    | normal =>
      obtain ⟨S5, R5, t5, hJ5⟩ := q2
      have st5 := st4.shed t5
      refine ⟨_, _, run_endRound none st5.head, true, _, rfl, .inl ⟨rfl, S5, rfl, hJ5⟩, ?_⟩
      have h2 := (join (st5.put (o' := .loop { state := .ready, pending := none, fn, tmps := tm, params := ps.toArray, assign, body, defers := dd }))).swap
      exact St.mid (L1 := X1) (L2 := [_]) h2
    | ret =>
      obtain ⟨S5, R5, t5, hJ5⟩ := q2
      have st5 := st4.shed t5
      refine ⟨_, _, run_endRound (some .ret) st5.head, false, _, rfl, .inr ⟨rfl, .ret, S5, rfl, hJ5⟩, ?_⟩
      have h2 := (join (st5.put (o' := .loop { state := .done, pending := some .ret, fn, tmps := tm, params := ps.toArray, assign, body, defers := dd }))).swap
      exact St.mid (L1 := X1) (L2 := [_]) h2
    | exit id =>
      obtain ⟨S5, R5, t5, hJ5⟩ := q2
      have st5 := st4.shed t5
      refine ⟨_, _, run_endRound (some (.exit id)) st5.head, false, _, rfl, .inr ⟨rfl, .exit id, S5, rfl, hJ5⟩, ?_⟩
      have h2 := (join (st5.put (o' := .loop { state := .done, pending := some (.exit id), fn, tmps := tm, params := ps.toArray, assign, body, defers := dd }))).swap
      exact St.mid (L1 := X1) (L2 := [_]) h2
    | _ => exact q2.elim
  | _ => exact q1.elim

end Go.Sl
end

section
namespace Go.Sl
open Go
set_option linter.unusedVariables false
variable {P : Program} {B : Nat} {A : Amb} {r : Option Nat} {N : Nat} {ds : List Nat} {E E' : Env} {S S1 R R' L F Fr own : List (Asrt B)} {Q Q' : P4 B} {ops : Array Oper} {rest : List Oper} {o : Oper}

/-- The end of an iterator that was ranged over. -/
theorem range_end {l : Nat} {rec : LoopState → Option Code → Loop} (hrec : ∀ s c, (rec s c).state = s ∧ (rec s c).pending = c) {X1 : List (Asrt B)} {J : Nat → List (Asrt B) → Prop} {Ix : Code → Nat → List (Asrt B) → Prop} {n : Nat} {a : Act} {ds' : List Nat} {w : World} {S2 : List (Asrt B)}
    (hok : Ok N ds' E a) (hst : St B A (S2 ++ Fr) w)
    (h : ∃ S1, S2 = own ++ S1 ∧ ((∃ S3, S1 = obj l (.loop (rec .ready none)) :: (X1 ++ S3) ∧ J n S3) ∨ ∃ i, i < n ∧ ∃ c S3, S1 = obj l (.loop (rec .done (some c))) :: (X1 ++ S3) ∧ Ix c i S3))
    (hdone : ∀ S', J n S' → Q .normal ds' E (X1 ++ (own ++ (S' ++ Fr)))) (hstop : ∀ c i S', i < n → Ix c i S' → X P B A r N c ds' E (X1 ++ (own ++ (S' ++ Fr))) Q) :
    ∃ jump w4, (Instr.endLoop l).run P w = .ok jump w4 ∧ (match jump with
      | none => Post B A N Q .normal a w4
      | some c => c.wpIn (FW r) 0 P (Post B A N Q) a w4) := by
  have mv : ∀ {o : Obj} {S3 : List (Asrt B)}, St B A ((own ++ obj l o :: (X1 ++ S3)) ++ Fr) w → St B A (obj l o :: (X1 ++ (own ++ (S3 ++ Fr)))) w := by
    intro o S3 h
    have h1 : St B A (own ++ ([obj l o] ++ ((X1 ++ S3) ++ Fr))) w := by simpa using h
    have h2 : St B A ([obj l o] ++ (own ++ ((X1 ++ S3) ++ Fr))) w := h1.mid
    have h3 : St B A (([obj l o] ++ own) ++ (X1 ++ (S3 ++ Fr))) w := by simpa using h2
    have h4 : St B A (X1 ++ (([obj l o] ++ own) ++ (S3 ++ Fr))) w := h3.mid
    have h5 : St B A (X1 ++ ([obj l o] ++ (own ++ (S3 ++ Fr)))) w := by simpa using h4
    exact h5.mid
  obtain ⟨S1, rfl, (⟨S3, rfl, hJ⟩ | ⟨i, hi, c, S3, rfl, hx⟩)⟩ := h
  · have h1 := mv hst
    have := run_endLoop (P := P) h1.head (by rw [(hrec _ _).1]; simp)
    rw [(hrec _ _).2] at this
    exact ⟨none, _, this, ds', E, _, hok, (h1.put (o' := _)).tail, hdone S3 hJ⟩
  · have h1 := mv hst
    have := run_endLoop (P := P) h1.head (by rw [(hrec _ _).1]; simp)
    rw [(hrec _ _).2] at this
    exact ⟨some c, _, this, hstop c i S3 hi hx a _ hok (h1.put (o' := _)).tail⟩

theorem Sts.assoc {L1 L2 L3 : List (Asrt B)} {D : Nat → Prop} {w : World} : Sts ((L1 ++ L2) ++ L3) D w = Sts (L1 ++ (L2 ++ L3)) D w := by rw [List.append_assoc]

/-- for .. := range f { .. }, in no round. -/
theorem X_range {f : Operand} {ps : List Nat} {assign body : Code} {gf : FuncId} {lb : List Value} {xs : List (List Value)} (hf : ev E f = some (.func (.func gf) #[] lb.toArray)) (he : Go.Proofs.Enters P gf) (hit : Itr P B gf lb own xs)
    (J : Nat → List (Asrt B) → Prop) (Ix : Code → Nat → List (Asrt B) → Prop) (ht : Take (own ++ S1) S Fr) (hJ : J 0 S1) (hps : ps.all (Nat.blt · N) = true) (hlen : ∀ x ∈ xs, x.length = ps.length)
    (hround : ∀ (l : Nat) (rec : Loop) (A' : Amb) (i : Nat) (S' : List (Asrt B)), i < xs.length → J i S' → X P B A' (some l) N assign [] (Env.setAll ps (xs.getD i []) E) (obj l (.loop rec) :: S') (asgQ P A' N body l rec J Ix i))
    (hdone : ∀ dd S', J xs.length S' → Q .normal (dd :: ds) E (dfr dd :: (own ++ (S' ++ Fr))))
    (hstop : ∀ dd c i S', i < xs.length → Ix c i S' → X P B A none N c (dd :: ds) E (dfr dd :: (own ++ (S' ++ Fr))) Q) :
    X P B A none N (.rangeFunc f ps.toArray assign body) ds E S Q := by
  intro a w ho hs
  refine wpIn_rangeFunc ?_
  intro fn _
  have hs1 := (hs.take ht).new (.deferred (some []))
  have hs2 := hs1.new (.loop { state := .ready, pending := none, fn, tmps := a.tmps, params := ps.toArray, assign, body, defers := w.heap.size })
  simp only [World.size_alloc] at hs2
  obtain ⟨W1, hW1⟩ : ∃ W1, (w.alloc (.deferred (some []))).alloc (.loop { state := .ready, pending := none, fn, tmps := a.tmps, params := ps.toArray, assign, body, defers := w.heap.size }) = W1 := ⟨_, rfl⟩
  have henter := run_enterLoop_outer (P := P) (w := w) fn a.tmps ps.toArray assign body
  rw [hW1] at hs2 henter
  generalize hl : w.heap.size + 1 = l at hs2 henter
  generalize w.heap.size = dd at hs1 hs2 henter
  have hs3 : St B A ((own ++ (obj l (.loop { state := .ready, pending := none, fn, tmps := a.tmps, params := ps.toArray, assign, body, defers := dd }) :: ([dfr dd] ++ S1))) ++ Fr) W1 := by
    have h1 : St B A ([obj l (.loop { state := .ready, pending := none, fn, tmps := a.tmps, params := ps.toArray, assign, body, defers := dd }), dfr dd] ++ (own ++ (S1 ++ Fr))) W1 := by simpa using hs2
    have h2 := h1.mid
    simpa using h2
  refine ⟨l, [{ target := .collected dd, args := #[] }], W1, { target := .fn (.func gf) lb.toArray, args := #[.func (.yield l) #[] #[]] }, W1, gf, #[.func (.yield l) #[] #[]] ++ lb.toArray, W1, henter, ?_, fun _ _ => trivial, ?_, fun _ => by simp_all [Fence.wide], ?_⟩
  · simp only [resolve, ho.ev hf]
    simp [Deferred.ofValue, Act.eval]
  · simpa [invoke] using he (Value.func (.yield l) #[] #[] :: lb).toArray W1
  · have hok : Ok N [] E { tmps := a.tmps, defers := [] } := ⟨ho.size, rfl, ho.get⟩
    have hctr := hit l (fun i S => ∃ S3, S = obj l (.loop { state := .ready, pending := none, fn, tmps := a.tmps, params := ps.toArray, assign, body, defers := dd }) :: ([dfr dd] ++ S3) ∧ J i S3)
      (fun i S => ∃ c S3, S = obj l (.loop { state := .done, pending := some c, fn, tmps := a.tmps, params := ps.toArray, assign, body, defers := dd }) :: ([dfr dd] ++ S3) ∧ Ix c i S3) _ ⟨S1, rfl, hJ⟩
      (fun i S hi ⟨S3, hS, hJ3⟩ => by
        subst hS
        exact yld_round hok hps hlen hi hJ3 hround)
    have hsz := hs3.size
    obtain ⟨D, g1, g2, g3, g4, g5, g6⟩ := hs3
    obtain ⟨Dp, DF, hD, hdj, hpre, hF⟩ := g1.append
    have hcall := hctr W1 Dp hpre (fun k hk => g2 k ((hD k).2 (.inl hk))) hsz
    have hargs : (Value.func (.yield l) #[] #[] :: lb).toArray = #[.func (.yield l) #[] #[]] ++ lb.toArray := by simp
    rw [hargs] at hcall
    refine CallsIn.mono hcall ?_
    rintro e w3 ⟨v, S2, rfl, hp, hst⟩
    have hst' := St.frame_at g1 g2 g3 g4 g5 g6 hD hdj hF hst
    have hok' : Ok N (dd :: ds) E { a with defers := [{ target := .collected dd, args := #[] }] ++ a.defers } := ⟨ho.size, by simp [ho.defs], ho.get⟩
    exact range_end (rec := fun s c => { state := s, pending := c, fn, tmps := a.tmps, params := ps.toArray, assign, body, defers := dd }) (fun s c => ⟨rfl, rfl⟩) (X1 := [dfr dd]) hok' hst' hp (fun S' h => hdone dd S' h) (fun c i S' hi h => hstop dd c i S' hi h)

/-- for .. := range f { .. }, in a round of loop l₀. -/
theorem X_rangeN {l0 : Nat} {rec0 : Loop} {R0 : List (Asrt B)} {f : Operand} {ps : List Nat} {assign body : Code} {gf : FuncId} {lb : List Value} {xs : List (List Value)} (hl0 : Out (obj l0 (.loop rec0)) S R0) (hf : ev E f = some (.func (.func gf) #[] lb.toArray)) (he : Go.Proofs.Enters P gf) (hit : Itr P B gf lb own xs)
    (J : Nat → List (Asrt B) → Prop) (Ix : Code → Nat → List (Asrt B) → Prop) (ht : Take (own ++ S1) S Fr) (hJ : J 0 S1) (hps : ps.all (Nat.blt · N) = true) (hlen : ∀ x ∈ xs, x.length = ps.length)
    (hround : ∀ (l : Nat) (rec : Loop) (A' : Amb) (i : Nat) (S' : List (Asrt B)), i < xs.length → J i S' → X P B A' (some l) N assign [] (Env.setAll ps (xs.getD i []) E) (obj l (.loop rec) :: S') (asgQ P A' N body l rec J Ix i))
    (hdone : ∀ S', J xs.length S' → Q .normal ds E (own ++ (S' ++ Fr)))
    (hstop : ∀ c i S', i < xs.length → Ix c i S' → X P B A (some l0) N c ds E (own ++ (S' ++ Fr)) Q) :
    X P B A (some l0) N (.rangeFunc f ps.toArray assign body) ds E S Q := by
  intro a w ho hs
  obtain ⟨D0, hobj0⟩ := hs.mem hl0
  have hh0 := hobj0.2
  refine wpIn_rangeFunc ?_
  intro fn _
  have henter := run_enterLoop_inner (P := P) (w := w) hh0 fn a.tmps ps.toArray assign body
  have hs2 := (hs.take ht).new (.loop { state := .ready, pending := none, fn, tmps := a.tmps, params := ps.toArray, assign, body, defers := rec0.defers })
  generalize rec0.defers = dd at henter hs2
  obtain ⟨W1, hW1⟩ : ∃ W1, w.alloc (.loop { state := .ready, pending := none, fn, tmps := a.tmps, params := ps.toArray, assign, body, defers := dd }) = W1 := ⟨_, rfl⟩
  rw [hW1] at hs2 henter
  generalize w.heap.size = l at hs2 henter
  have hs3 : St B A ((own ++ (obj l (.loop { state := .ready, pending := none, fn, tmps := a.tmps, params := ps.toArray, assign, body, defers := dd }) :: ([] ++ S1))) ++ Fr) W1 := by
    have h1 : St B A ([obj l (.loop { state := .ready, pending := none, fn, tmps := a.tmps, params := ps.toArray, assign, body, defers := dd })] ++ (own ++ (S1 ++ Fr))) W1 := by simpa using hs2
    have h2 := h1.mid
    simpa using h2
  refine ⟨l, [], W1, { target := .fn (.func gf) lb.toArray, args := #[.func (.yield l) #[] #[]] }, W1, gf, #[.func (.yield l) #[] #[]] ++ lb.toArray, W1, henter, ?_, fun _ _ => trivial, ?_, fun _ => by simp_all [Fence.wide], ?_⟩
  · simp only [resolve, ho.ev hf]
    simp [Deferred.ofValue, Act.eval]
  · simpa [invoke] using he (Value.func (.yield l) #[] #[] :: lb).toArray W1
  · have hok : Ok N [] E { tmps := a.tmps, defers := [] } := ⟨ho.size, rfl, ho.get⟩
    have hctr := hit l (fun i S => ∃ S3, S = obj l (.loop { state := .ready, pending := none, fn, tmps := a.tmps, params := ps.toArray, assign, body, defers := dd }) :: ([] ++ S3) ∧ J i S3)
      (fun i S => ∃ c S3, S = obj l (.loop { state := .done, pending := some c, fn, tmps := a.tmps, params := ps.toArray, assign, body, defers := dd }) :: ([] ++ S3) ∧ Ix c i S3) _ ⟨S1, rfl, hJ⟩
      (fun i S hi ⟨S3, hS, hJ3⟩ => by
        subst hS
        exact yld_round hok hps hlen hi hJ3 hround)
    have hsz := hs3.size
    obtain ⟨D, g1, g2, g3, g4, g5, g6⟩ := hs3
    obtain ⟨Dp, DF, hD, hdj, hpre, hF⟩ := g1.append
    have hcall := hctr W1 Dp hpre (fun k hk => g2 k ((hD k).2 (.inl hk))) hsz
    have hargs : (Value.func (.yield l) #[] #[] :: lb).toArray = #[.func (.yield l) #[] #[]] ++ lb.toArray := by simp
    rw [hargs] at hcall
    refine CallsIn.mono hcall ?_
    rintro e w3 ⟨v, S2, rfl, hp, hst⟩
    have hst' := St.frame_at g1 g2 g3 g4 g5 g6 hD hdj hF hst
    have hok' : Ok N ds E { a with defers := [] ++ a.defers } := ⟨ho.size, by simp [ho.defs], ho.get⟩
    exact range_end (rec := fun s c => { state := s, pending := c, fn, tmps := a.tmps, params := ps.toArray, assign, body, defers := dd }) (fun s c => ⟨rfl, rfl⟩) (X1 := []) hok' hst' hp (fun S' h => hdone S' h) (fun c i S' hi h => hstop c i S' hi h)

end Go.Sl
end

section
namespace Go.Sl
open Go
set_option linter.unusedVariables false
variable {P : Program} {B : Nat} {A : Amb} {r : Option Nat} {N : Nat} {ds : List Nat} {E E' : Env} {S S1 S2 R R' L F K : List (Asrt B)} {Q Q' : P4 B} {ops : Array Oper} {rest : List Oper} {o : Oper} {ku : Bool}

/-! ### Regions that draw their order -/

/-- No operation that yields nothing (a store) has been done. -/
def nost (ops : Array Oper) (listed : Array Bool) : Bool := (List.range ops.size).all fun j => !(listed.getD j false) || ((ops[j]?).map (·.dst.isSome)).getD true

/-- Operation j waits for operation i, by way of others perhaps. -/
def needs (ops : Array Oper) : Nat → Nat → Nat → Bool
  | 0, _, _ => false
  | n + 1, j, i => match ops[j]? with
    | some o => o.after.toList.any (fun e => Region.binds .any e && e.on == i) || o.after.toList.any (fun e => Region.binds .any e && needs ops n e.on i)
    | none => false

/-- What is listed has all that it waits for listed. -/
def closed (ops : Array Oper) (listed : Array Bool) : Bool := (List.range ops.size).all fun j => !(listed.getD j false) || ((ops[j]?).map (fun o => o.after.toList.all fun e => !(Region.binds .any e) || listed.getD e.on false)).getD true

/-- Every store waits for operation i. -/
def after (ops : Array Oper) (i : Nat) : Bool := (List.range ops.size).all fun j => ((ops[j]?).map (fun o => o.dst.isSome || needs ops ops.size j i)).getD true

theorem needs_listed {listed : Array Bool} (hc : closed ops listed = true) : ∀ (n j i : Nat) (o : Oper), needs ops n j i = true → ops[j]? = some o → (∀ e ∈ o.after, Region.binds .any e = true → listed.getD e.on false = true) → listed.getD i false = true
  | 0, _, _, _, h, _, _ => by simp [needs] at h
  | n + 1, j, i, o, h, ho, hl => by
    simp only [needs, ho, Bool.or_eq_true, List.any_eq_true] at h
    rcases h with ⟨e, he, h⟩ | ⟨e, he, h⟩
    · simp at h
      rw [← h.2]; exact hl e (Array.mem_toList_iff.1 he) h.1
    · simp only [Bool.and_eq_true] at h
      have h1 := hl e (Array.mem_toList_iff.1 he) h.1
      cases hk : ops[e.on]? with
      | none =>
        have := h.2
        cases n with
        | zero => simp [needs] at this
        | succ n => simp [needs, hk] at this
      | some o' =>
        refine needs_listed hc n e.on i o' h.2 hk fun e' he' hb' => ?_
        have := List.all_eq_true.1 hc e.on (List.mem_range.2 (Array.getElem?_eq_some_iff.1 hk).1)
        simp only [hk, h1, Option.map_some, Option.getD_some, Bool.not_true, Bool.false_or, List.all_eq_true] at this
        have := this e' (Array.mem_toList_iff.2 he')
        simpa [hb'] using this

theorem closed_set {listed : Array Bool} {j : Nat} {o : Oper} (hc : closed ops listed = true) (ho : ops[j]? = some o) (hl : ∀ e ∈ o.after, Region.binds .any e = true → listed.getD e.on false = true) : closed ops (listed.setIfInBounds j true) = true := by
  have up : ∀ k, listed.getD k false = true → (listed.setIfInBounds j true).getD k false = true := fun k hk => by
    by_cases hjk : j = k
    · subst hjk
      have : j < listed.size := by
        rcases Nat.lt_or_ge j listed.size with h | h
        · exact h
        · simp [Array.getD, Nat.not_lt.2 h] at hk
      simp [this]
    · rw [getD_set_ne false hjk]; exact hk
  refine List.all_eq_true.2 fun k hk => ?_
  have := List.all_eq_true.1 hc k hk
  by_cases hjk : j = k
  · subst hjk
    simp only [ho, Option.map_some, Option.getD_some, Bool.or_eq_true, List.all_eq_true]
    refine .inr fun e he => ?_
    cases hb : Region.binds .any e with
    | false => simp
    | true => simp only [Bool.not_true, Bool.false_eq_true, false_or]; exact up _ (hl e (Array.mem_toList_iff.1 he) hb)
  · rw [getD_set_ne false hjk]
    cases hkl : listed.getD k false with
    | false => simp
    | true =>
      rw [hkl] at this
      cases hko : ops[k]? with
      | none => simp
      | some ok =>
        rw [hko] at this
        simp only [Option.map_some, Option.getD_some, Bool.not_true, Bool.false_or, List.all_eq_true] at this ⊢
        intro e he
        have := this e he
        cases hb : Region.binds .any e with
        | false => simp
        | true => simp [hb] at this; simp only [Bool.not_true, Bool.false_or]; exact up _ (by simpa using this)

theorem after_spec {i j : Nat} {o : Oper} {listed : Array Bool} (hc : closed ops listed = true) (h : after ops i = true) (ho : ops[j]? = some o) (hd : o.dst.isSome = false) (hl : ∀ e ∈ o.after, Region.binds .any e = true → listed.getD e.on false = true) : listed.getD i false = true := by
  have hj : j < ops.size := (Array.getElem?_eq_some_iff.1 ho).1
  have := List.all_eq_true.1 h j (List.mem_range.2 hj)
  simp only [ho, Option.map_some, Option.getD_some, hd, Bool.false_or] at this
  exact needs_listed hc _ _ _ _ this ho hl

theorem nost_set {listed : Array Bool} {j : Nat} {o : Oper} (h : nost ops listed = true) (ho : ops[j]? = some o) (hd : o.dst.isSome = true) : nost ops (listed.setIfInBounds j true) = true := by
  refine List.all_eq_true.2 fun k hk => ?_
  by_cases hjk : k = j
  · subst hjk; simp [ho, hd]
  · have := List.all_eq_true.1 h k hk
    rw [getD_set_ne false (Ne.symm hjk)]
    exact this

/-- 'wpAnyIn', what Inv says holding until something is stored. -/
def wpAV (ku : Bool) (Inv : World → Prop) (r : Option Nat) (P : Program) (ops : Array Oper) (Q : Exit → Act → World → Prop) : Nat → Array Bool → Act → World → Prop
  | 0, listed, a, w => ((ku || nost ops listed) = true → Inv w) ∧ Region.ready .any ops listed = [] ∧ Q .normal a w
  | n + 1, listed, a, w => ((ku || nost ops listed) = true → Inv w) ∧ (Region.ready .any ops listed = [] → Q .normal a w) ∧
      ∀ i ∈ Region.ready .any ops listed, wpOpIn (FW r) 0 P ops Q i (wpAV ku Inv r P ops Q n (listed.setIfInBounds i true)) a w

theorem wpAV.inv {Inv : World → Prop} {Q : Exit → Act → World → Prop} : ∀ {n : Nat} {listed : Array Bool} {a : Act} {w : World}, wpAV ku Inv r P ops Q n listed a w → (ku || nost ops listed) = true → Inv w
  | 0, _, _, _, h => h.1
  | _ + 1, _, _, _, h => h.1

theorem wpAV.any {Inv : World → Prop} {Q : Exit → Act → World → Prop} : ∀ {n : Nat} {listed : Array Bool} {a : Act} {w : World}, wpAV ku Inv r P ops Q n listed a w → wpAnyIn (FW r) 0 P .any ops Q n listed a w
  | 0, _, _, _, h => h.2
  | n + 1, _, _, _, h => ⟨h.2.1, fun i hi => wpOpIn_mono (fun _ _ h => wpAV.any h) (h.2.2 i hi)⟩

/-- No 'defer', no 'select'. -/
def noDS (ops : Array Oper) : Bool := ops.all fun o => match o.op with | .select .. => false | .defer .. => false | _ => true

theorem noDS_spec (h : noDS ops = true) {j : Nat} (ho : ops[j]? = some o) : (∀ c, o.op ≠ .defer c) ∧ ∀ cs b, o.op ≠ .select cs b := by
  have := (Array.all_eq_true_iff_forall_mem.1 h) o (Array.mem_of_getElem? ho)
  constructor
  · rintro c e; rw [e] at this; cases this
  · rintro cs b e; rw [e] at this; cases this

/-- What an operation yields, wherever Inv holds. -/
def YV (Inv : World → Prop) (P : Program) (ops : Array Oper) (o : Oper) (v : Value) (a : Act) : Prop :=
  (Region.wanted o (yielded ops a.tmps) = true ∧ ∀ w, Inv w → (execOp a.eval o).run P w = .ok (.value v) w) ∨ (Region.wanted o (yielded ops a.tmps) = false ∧ v = undef)

theorem YV.same {Inv : World → Prop} {v : Value} {a a' : Act} (hy : YV Inv P ops o v a) (he : execOp a'.eval o = execOp a.eval o) (hw : Region.wanted o (yielded ops a'.tmps) = Region.wanted o (yielded ops a.tmps)) : YV Inv P ops o v a' := by
  unfold YV at *
  rw [he, hw]
  exact hy

theorem YV.op {Inv : World → Prop} {Q : Exit → Act → World → Prop} {v : Value} {a : Act} {w : World} {i : Nat} {K : Act → World → Prop} (hnd : ∀ c, o.op ≠ .defer c) (hi : ops[i]? = some o) (hy : YV Inv P ops o v a) (hw : Inv w) (h : K (a.put o.dst v) w) :
    wpOpIn (FW r) 0 P ops Q i K a w := by
  unfold wpOpIn
  simp only [hi]
  rcases hy with ⟨h1, h2⟩ | ⟨h1, rfl⟩
  · simp only [h1, if_true, Oper.wpIn]
    refine ⟨fun _ _ => trivial, ?_⟩
    rw [Oper.semAt_eq _ _ _ hnd, h2 w hw]
    exact h
  · simp only [h1, Bool.false_eq_true, if_false]
    exact ⟨fun _ _ => trivial, h⟩

theorem wpOpIn_putV {Inv : World → Prop} {Q : Exit → Act → World → Prop} {j : Nat} {oi oj : Oper} {v : Value} (hj : ops[j]? = some oj) (hap : oi.apart ops oj = true) (hds : (∀ c, oi.op ≠ .defer c) ∧ ∀ cs b, oi.op ≠ .select cs b) (hdj : (∀ c, oj.op ≠ .defer c) ∧ ∀ cs b, oj.op ≠ .select cs b)
    (hQ : ∀ c a w, ¬ Q (.panic c) a w) {K : Act → World → Prop} {a : Act} {w : World} (hy : YV Inv P ops oi v a) (h : wpOpIn (FW r) 0 P ops Q j K (a.put oi.dst v) w) :
    wpOpIn (FW r) 0 P ops Q j (fun a' w' => YV Inv P ops oi v a' ∧ K (a'.put oi.dst v) w') a w := by
  obtain ⟨h1, h2, h3⟩ := Oper.apart_spec hap
  have keep : ∀ (a : Act), YV Inv P ops oi v a → ∀ u, YV Inv P ops oi v (a.put oj.dst u) := fun a hy u =>
    hy.same (execOp_put oi hds.2 a oj.dst u h3) (wanted_put oi a oj.dst u h3)
  unfold wpOpIn at *
  simp only [hj] at *
  rw [wanted_put oj a oi.dst v h1] at h
  split
  · rename_i hw
    simp only [hw, if_true] at h
    unfold Oper.wpIn at *
    refine ⟨fun _ _ => trivial, ?_⟩
    have h := h.2
    rw [Oper.semAt_eq _ _ _ hdj.1, execOp_put oj hdj.2 a oi.dst v h1] at h
    rw [Oper.semAt_eq _ _ _ hdj.1]
    generalize (execOp a.eval oj).run P w = res at *
    cases res with
    | ok x w' =>
      cases x <;> simp only [Oper.uponIn] at h ⊢
      case value u => exact ⟨keep a hy u, by rw [← Act.put_comm a v u h2]; exact h⟩
      case skip => exact ⟨keep a hy _, by rw [← Act.put_comm a v undef h2]; exact h⟩
      case defer d =>
        have keepD : YV Inv P ops oi v { a with defers := d :: a.defers } := hy.same rfl rfl
        refine ⟨keep _ keepD _, ?_⟩
        rw [← Act.put_comm _ v undef h2, ← Act.put_defers]
        exact h
      case enter f args =>
        refine ⟨h.1, CallsIn.mono h.2 fun e w'' he => ?_⟩
        cases e with
        | returned u => exact ⟨keep a hy u, by rw [← Act.put_comm a v u h2]; exact he⟩
        | panicked c => exact (hQ _ _ _ he).elim
        | outgrown => exact he
      case row row args => exact ⟨h.1, RowsIn.mono h.2 fun u w'' he => ⟨keep a hy u, by rw [← Act.put_comm a v u h2]; exact he⟩⟩
      case round l f tmps assign body =>
        refine ⟨h.1, RoundIn.mono h.2 fun e w'' he => ?_⟩
        cases e with
        | returned u => exact ⟨keep a hy u, by rw [← Act.put_comm a v u h2]; exact he⟩
        | panicked c => exact (hQ _ _ _ he).elim
        | outgrown => exact he
    | halt x w' =>
      cases x <;> simp only [Oper.uponIn] at h ⊢
      case panic u => exact (hQ _ _ _ h).elim
  · rename_i hw
    simp only [hw] at h
    exact ⟨fun _ _ => trivial, keep a hy _, by rw [← Act.put_comm a v undef h2]; exact h.2⟩

theorem wpAV_first {Inv : World → Prop} {Q : Exit → Act → World → Prop} {i : Nat} {oi : Oper} {v : Value} (hi : ops[i]? = some oi) (hdi : oi.dst.isSome = true) (hds : noDS ops = true) (hQ : ∀ c a w, ¬ Q (.panic c) a w) :
    ∀ (fuel : Nat) (listed : Array Bool) (a : Act) (w : World), (ku = true ∨ (nost ops listed = true ∧ closed ops listed = true ∧ after ops i = true)) →
      (∀ j oj, ops[j]? = some oj → j ≠ i → listed.getD j true = false → (∀ e ∈ oj.after, Region.binds .any e = true → e.on ≠ i) → oi.apart ops oj = true) →
      i ∈ Region.ready .any ops listed → YV Inv P ops oi v a →
      wpAV ku Inv r P ops Q fuel (listed.setIfInBounds i true) (a.put oi.dst v) w → wpAV ku Inv r P ops Q (fuel + 1) listed a w := by
  intro fuel
  induction fuel with
  | zero =>
    intro listed a w hc hfree hr hy H
    have hinv : Inv w := H.inv (by rcases hc with rfl | ⟨hno, _⟩; rfl; rw [nost_set hno hi hdi]; simp)
    refine ⟨fun _ => hinv, fun h => (by rw [h] at hr; cases hr), fun j hj => ?_⟩
    by_cases hji : j = i
    · subst hji; exact hy.op (noDS_spec hds hi).1 hi hinv H
    · have := ready_mono hj hji
      rw [H.2.1] at this
      cases this
  | succ fuel ih =>
    intro listed a w hc hfree hr hy H
    have hinv : Inv w := H.inv (by rcases hc with rfl | ⟨hno, _⟩; rfl; rw [nost_set hno hi hdi]; simp)
    refine ⟨fun _ => hinv, fun h => (by rw [h] at hr; cases hr), fun j hj => ?_⟩
    by_cases hji : j = i
    · subst hji; exact hy.op (noDS_spec hds hi).1 hi hinv H
    · have h1 := H.2.2 j (ready_mono hj hji)
      obtain ⟨hjun, oj, hoj, hall⟩ := mem_ready.1 hj
      have hnot : ∀ e ∈ oj.after, Region.binds .any e = true → e.on ≠ i := fun e he hb heq => by
        have h1 := hall e he hb
        have h0 := (mem_ready.1 hr).1
        rw [heq] at h1
        rcases Nat.lt_or_ge i listed.size with h' | h'
        · simp [h'] at h0 h1; rw [h0] at h1; cases h1
        · simp [Array.getElem?_eq_none h'] at h1
      have h2 := wpOpIn_putV hoj (hfree j oj hoj hji hjun hnot) (noDS_spec hds hi) (noDS_spec hds hoj) hQ hy h1
      have hfree' : ∀ k ok, ops[k]? = some ok → k ≠ i → (listed.setIfInBounds j true).getD k true = false →
          (∀ e ∈ ok.after, Region.binds .any e = true → e.on ≠ i) → oi.apart ops ok = true := fun k ok hk hki hun hno => by
        refine hfree k ok hk hki ?_ hno
        by_cases hjk : j = k
        · subst hjk; exact hjun
        · rw [getD_set_ne true hjk] at hun; exact hun
      have hc' : ku = true ∨ (nost ops (listed.setIfInBounds j true) = true ∧ closed ops (listed.setIfInBounds j true) = true ∧ after ops i = true) := by
        rcases hc with hc | ⟨hno, hcl, haf⟩
        · exact .inl hc
        have hdj : oj.dst.isSome = true := by
          cases hd : oj.dst.isSome with
          | true => rfl
          | false =>
            have h1 := after_spec hcl haf hoj hd hall
            have h0 := (mem_ready.1 hr).1
            rcases Nat.lt_or_ge i listed.size with h' | h'
            · simp [h'] at h0 h1; rw [h0] at h1; cases h1
            · simp [Array.getD, Nat.not_lt.2 h'] at h1
        exact .inr ⟨nost_set hno hoj hdj, closed_set hcl hoj hall, haf⟩
      refine wpOpIn_mono (fun a' w' h3 => ih (listed.setIfInBounds j true) a' w' hc' hfree' (ready_mono hr (Ne.symm hji)) h3.1 ?_) h2
      rw [Array.setIfInBounds_comm _ _ hji]
      exact h3.2

/-- The judgement: the operations that are not listed yet, in whatever order; K stays all the way. -/
def XA (ku : Bool) (P : Program) (B : Nat) (A : Amb) (r : Option Nat) (N : Nat) (ops : Array Oper) (K : List (Asrt B)) (n : Nat) (listed : Array Bool) (ds : List Nat) (E : Env) (S : List (Asrt B)) (Q : P4 B) : Prop :=
  ∀ a w, Ok N ds E a → St B A (K ++ S) w → wpAV ku (fun w => ∃ X, St B A (K ++ X) w) r P ops (Post B A N Q) n listed a w

theorem X_draw {id : Nat} {l : List Oper} (K : List (Asrt B)) (hm : P.follows .mixedOrders = true) (ht : Take K S S1) (h : XA false P B A r N l.toArray K l.length (Array.replicate l.length false) ds E S1 Q) : X P B A r N (.region id l.toArray true) ds E S Q := by
  intro a w ho hs
  refine wpIn_region_any hm ?_
  have := (h a { w with drawn := w.drawn + 1 } ho ((hs.take ht).same rfl rfl rfl rfl)).any
  simpa using this

/-- .. whose stores leave what K says. -/
theorem X_drawk {id : Nat} {l : List Oper} (K : List (Asrt B)) (hm : P.follows .mixedOrders = true) (ht : Take K S S1) (h : XA true P B A r N l.toArray K l.length (Array.replicate l.length false) ds E S1 Q) : X P B A r N (.region id l.toArray true) ds E S Q := by
  intro a w ho hs
  refine wpIn_region_any hm ?_
  have := (h a { w with drawn := w.drawn + 1 } ho ((hs.take ht).same rfl rfl rfl rfl)).any
  simpa using this

theorem XA_done {n : Nat} {listed : Array Bool} (hr : Region.ready .any ops listed = []) (h : Q .normal ds E (K ++ S)) : XA ku P B A r N ops K n listed ds E S Q := by
  intro a w ho hs
  cases n with
  | zero => exact ⟨fun _ => ⟨S, hs⟩, hr, ds, E, _, ho, hs, h⟩
  | succ n => exact ⟨fun _ => ⟨S, hs⟩, fun _ => ⟨ds, E, _, ho, hs, h⟩, by rw [hr]; simp⟩

theorem XA_as (L : List (Asrt B)) {n : Nat} {listed : Array Bool} (E' : Env) (hE : E'.sub E) (hS : Take L S R) (h : XA ku P B A r N ops K n listed ds E' L Q) : XA ku P B A r N ops K n listed ds E S Q := by
  intro a w ho hs
  refine h a w (ho.sub hE) ?_
  obtain ⟨D, h1, h2⟩ := hs
  obtain ⟨D1, D2, hD, hd, hK, hSS⟩ := h1.append
  have : St B A (K ++ (L ++ R)) w := ⟨D, Sts.join hD hd hK (hS.sts hSS), h2⟩
  rw [← List.append_assoc] at this
  exact this.drop

/-- An operation that yields a value wherever K holds is taken first. -/
theorem XA_det {n d : Nat} {listed : Array Bool} {op : Op} {ty : TypeId} {pos : String} {aft : Array Edge} {g : Option (Nat × Bool)} {v : Value} (i : Nat) (hi : ops[i]? = some ⟨some d, op, ty, pos, aft, g⟩) (hds : noDS ops = true) (hno : (ku || (nost ops listed && closed ops listed && after ops i)) = true)
    (hf : Region.free .any ops listed i = true) (hr : (Region.ready .any ops listed).contains i = true) (hQ : ∀ c ds E S, ¬ Q (.panic c) ds E S) (hw : Want ops N E g) (hp : Det P B A N ds E K op v) (hd : Nat.blt d N = true)
    (h : XA ku P B A r N ops K n (listed.setIfInBounds i true) ds ((d, v) :: E) S Q) : XA ku P B A r N ops K (n + 1) listed ds E S Q := by
  intro a w ho hs
  simp only [Bool.or_eq_true, Bool.and_eq_true, and_assoc] at hno
  refine wpAV_first hi rfl hds (fun c a w ⟨ds, E, S, _, _, q⟩ => hQ c ds E S q) n listed a w hno (Region.free_spec hi hf) (by simpa using hr) (.inl ⟨Want.wanted (o := ⟨some d, op, ty, pos, aft, g⟩) hw ho, fun w ⟨X, hX⟩ => hp.app.2.2 a w ty pos aft g (some d) ho hX⟩) ?_
  exact h _ w (ho.put (by simpa using hd)) hs

theorem XA_skip {n d : Nat} {listed : Array Bool} {op : Op} {ty : TypeId} {pos : String} {aft : Array Edge} {j : Nat} {b b' : Bool} (i : Nat) (t : Nat) (hi : ops[i]? = some ⟨some d, op, ty, pos, aft, some (j, b)⟩) (hds : noDS ops = true) (hno : (ku || (nost ops listed && closed ops listed && after ops i)) = true)
    (hf : Region.free .any ops listed i = true) (hr : (Region.ready .any ops listed).contains i = true) (hQ : ∀ c ds E S, ¬ Q (.panic c) ds E S) (h1 : (ops[j]?).bind (·.dst) = some t) (h2 : Nat.blt t N = true) (h3 : E.get t = some (.bool b')) (hb : b' = !b) (hd : Nat.blt d N = true)
    (h : XA ku P B A r N ops K n (listed.setIfInBounds i true) ds ((d, undef) :: E) S Q) : XA ku P B A r N ops K (n + 1) listed ds E S Q := by
  intro a w ho hs
  have hy := yielded_of (ops := ops) h1 (by simpa using h2) h3 ho
  simp only [Bool.or_eq_true, Bool.and_eq_true, and_assoc] at hno
  refine wpAV_first hi rfl hds (fun c a w ⟨ds, E, S, _, _, q⟩ => hQ c ds E S q) n listed a w hno (Region.free_spec hi hf) (by simpa using hr) (.inr ⟨by simp only [Region.wanted, hy]; subst hb; cases b <;> rfl, rfl⟩) ?_
  exact h _ w (ho.put (by simpa using hd)) hs

theorem XA_split {n t : Nat} {listed : Array Bool} {b : Bool} (ht : E.get t = some (.bool b)) (h1 : b = true → XA ku P B A r N ops K n listed ds ((t, .bool true) :: E) S Q) (h2 : b = false → XA ku P B A r N ops K n listed ds ((t, .bool false) :: E) S Q) :
    XA ku P B A r N ops K n listed ds E S Q := by
  intro a w ho hs
  have key : ∀ b', b = b' → Ok N ds ((t, .bool b') :: E) a := fun b' e => ⟨ho.size, ho.defs, fun u v hu => by
    simp only [Env.get] at hu
    cases hb : Nat.beq u t with
    | true => rw [hb] at hu; simp at hu; subst hu; rw [Nat.eq_of_beq_eq_true hb]; rw [← e]; exact ho.get _ _ ht
    | false => rw [hb] at hu; exact ho.get _ _ hu⟩
  cases hb : b with
  | true => exact h1 hb a w (key _ hb) hs
  | false => exact h2 hb a w (key _ hb) hs

theorem wpAV.away {I I' : World → Prop} {Q' : Exit → Act → World → Prop} (n : Nat) : ∀ (listed : Array Bool) (a : Act) (w : World), nost ops listed = false → wpAV false I r P ops Q' n listed a w → wpAV false I' r P ops Q' n listed a w := by
  have keep : ∀ (listed : Array Bool) (i : Nat), nost ops listed = false → nost ops (listed.setIfInBounds i true) = false := by
    intro listed i h
    cases h' : nost ops (listed.setIfInBounds i true) with
    | false => rfl
    | true =>
      rw [← h]
      symm
      refine List.all_eq_true.2 fun k hk => ?_
      have := List.all_eq_true.1 h' k hk
      by_cases hik : k = i
      · subst hik
        by_cases hl : k < listed.size
        · simp [hl] at this
          cases hd : (Option.map (fun o : Oper => o.dst.isSome) ops[k]?).getD true <;> simp_all
        · simp [Array.getD, hl]
      · rw [getD_set_ne false (Ne.symm hik)] at this; exact this
  induction n with
  | zero => intro listed a w hn h; exact ⟨fun h' => (by simp [hn] at h'), h.2⟩
  | succ n ih => intro listed a w hn h; exact ⟨fun h' => (by simp [hn] at h'), h.2.1, fun i hi => wpOpIn_mono (fun a' w' h' => ih _ a' w' (keep _ _ hn) h') (h.2.2 i hi)⟩

/-- .. and what is known then may be anything. -/
theorem XA_open' {n : Nat} {listed : Array Bool} (hno : nost ops listed = false) (h : XA false P B A r N ops [] n listed ds E S Q) : ∀ a w, Ok N ds E a → St B A S w → wpAV false (fun w => ∃ X, St B A (K ++ X) w) r P ops (Post B A N Q) n listed a w := by
  intro a w ho hs
  exact wpAV.away n listed a w hno (h a w ho hs)

theorem XA_un {n : Nat} {listed : Array Bool} (h : XA ku P B A r N ops [] n listed ds E S Q) : XA ku P B A r N ops [] n listed ds E ([] ++ S) Q := h

/-- One operation, on its way through a region that draws. -/
def XO (ku : Bool) (P : Program) (B : Nat) (A : Amb) (r : Option Nat) (N : Nat) (ops : Array Oper) (K : List (Asrt B)) (n : Nat) (listed : Array Bool) (i : Nat) (ds : List Nat) (E : Env) (S : List (Asrt B)) (Q : P4 B) : Prop :=
  ∀ a w, Ok N ds E a → St B A (K ++ S) w → wpOpIn (FW r) 0 P ops (Post B A N Q) i (wpAV ku (fun w => ∃ X, St B A (K ++ X) w) r P ops (Post B A N Q) n (listed.setIfInBounds i true)) a w

/-- Whatever comes next. -/
theorem XA_all {n : Nat} {listed : Array Bool} (rs : List Nat) (hr : Region.ready .any ops listed = rs) (hne : (!rs.isEmpty) = true) (h : ∀ i ∈ rs, XO ku P B A r N ops K n listed i ds E S Q) : XA ku P B A r N ops K (n + 1) listed ds E S Q := by
  intro a w ho hs
  refine ⟨fun _ => ⟨S, hs⟩, fun h0 => ?_, fun i hi => h i (hr ▸ hi) a w ho hs⟩
  rw [hr] at h0; subst h0; cases hne

theorem XA_one {n : Nat} {listed : Array Bool} (i : Nat) (hr : Region.ready .any ops listed = [i]) (h : XO ku P B A r N ops K n listed i ds E S Q) : XA ku P B A r N ops K (n + 1) listed ds E S Q :=
  XA_all [i] hr rfl (fun j hj => by simp at hj; subst hj; exact h)
theorem XA_two {n : Nat} {listed : Array Bool} (i j : Nat) (hr : Region.ready .any ops listed = [i, j]) (h1 : XO ku P B A r N ops K n listed i ds E S Q) (h2 : XO ku P B A r N ops K n listed j ds E S Q) : XA ku P B A r N ops K (n + 1) listed ds E S Q :=
  XA_all [i, j] hr rfl (fun k hk => by
    have hk' : k = i ∨ k = j := by simpa using hk
    rcases hk' with e | e
    · rw [e]; exact h1
    · rw [e]; exact h2)

/-! What may come then: a call, a new block, a store. -/

theorem XO_op {α : Type} {n d : Nat} {listed : Array Bool} {op : Op} {ty : TypeId} {pos : String} {aft : Array Edge} {g : Option (Nat × Bool)} {i : Nat} (v : α → Value) (S' : α → List (Asrt B)) (p : α → Prop) (hi : ops[i]? = some ⟨some d, op, ty, pos, aft, g⟩) (hw : Want ops N E g) (hnd : ∀ c, op ≠ .defer c) (hd : Nat.blt d N = true)
    (hrun : ∀ a w, Ok N ds E a → St B A (K ++ S) w → ∃ x w', (execOp a.eval ⟨some d, op, ty, pos, aft, g⟩).run P w = .ok (.value (v x)) w' ∧ St B A (K ++ S' x) w' ∧ p x)
    (h : ∀ x, p x → XA ku P B A r N ops K n (listed.setIfInBounds i true) ds ((d, v x) :: E) (S' x) Q) : XO ku P B A r N ops K n listed i ds E S Q := by
  intro a w ho hs
  obtain ⟨x, w', h1, h2, h3⟩ := hrun a w ho hs
  unfold wpOpIn
  simp only [hi]
  rw [if_pos (Want.wanted (o := ⟨some d, op, ty, pos, aft, g⟩) hw ho)]
  refine ⟨fun _ _ => trivial, ?_⟩
  rw [Oper.semAt_eq _ _ _ hnd, h1]
  exact h x h3 _ w' (ho.put (by simpa using hd)) h2

theorem XO_eff {n : Nat} {listed : Array Bool} {op : Op} {ty : TypeId} {pos : String} {aft : Array Edge} {g : Option (Nat × Bool)} {i : Nat} {S' : List (Asrt B)} (hi : ops[i]? = some ⟨none, op, ty, pos, aft, g⟩) (hw : Want ops N E g) (hnd : ∀ c, op ≠ .defer c)
    (hrun : ∀ a w, Ok N ds E a → St B A (K ++ S) w → ∃ w', (execOp a.eval ⟨none, op, ty, pos, aft, g⟩).run P w = .ok .skip w' ∧ St B A (K ++ S') w')
    (h : XA ku P B A r N ops K n (listed.setIfInBounds i true) ds E S' Q) : XO ku P B A r N ops K n listed i ds E S Q := by
  intro a w ho hs
  obtain ⟨w', h1, h2⟩ := hrun a w ho hs
  unfold wpOpIn
  simp only [hi]
  rw [if_pos (Want.wanted (o := ⟨none, op, ty, pos, aft, g⟩) hw ho)]
  refine ⟨fun _ _ => trivial, ?_⟩
  rw [Oper.semAt_eq _ _ _ hnd, h1]
  exact h _ w' ho h2

/-- A call: what it is lent is taken out of K and S; what it hands back, with the rest, gives K again and S2. -/
theorem XO_call {n d : Nat} {listed : Array Bool} {ty : TypeId} {pos : String} {aft : Array Edge} {g : Option (Nat × Bool)} {i : Nat} {f : FuncId} {xs : List Operand} {args : List Value} {ats : Array TypeId} {pre F : List (Asrt B)} {post : Value → List (Asrt B) → Prop}
    (hi : ops[i]? = some ⟨some d, .call { callee := .value (.func f), args := xs.toArray, argTypes := ats }, ty, pos, aft, g⟩) (hw : Want ops N E g) (he : Go.Proofs.Enters P f) (ha : evs E xs = some args) (hf : Ctr P B f args pre post) (ht : Take pre (K ++ S) F) (hd : Nat.blt d N = true)
    (h : ∀ v S', post v S' → ∃ S2, (∃ R, Take (K ++ S2) (S' ++ F) R) ∧ XA ku P B A r N ops K n (listed.setIfInBounds i true) ds ((d, v) :: E) S2 Q) : XO ku P B A r N ops K n listed i ds E S Q := by
  intro a w ho hs
  unfold wpOpIn
  simp only [hi]
  rw [if_pos (Want.wanted (o := ⟨some d, .call { callee := .value (.func f), args := xs.toArray, argTypes := ats }, ty, pos, aft, g⟩) hw ho)]
  refine ⟨fun _ _ => trivial, ?_⟩
  have hargs := ho.evs ha
  rw [Oper.semAt_eq _ _ _ (by simp)]
  have hrun : (execOp a.eval ⟨some d, .call { callee := .value (.func f), args := xs.toArray, argTypes := ats }, ty, pos, aft, g⟩).run P w = .ok (.enter f args.toArray) w := by
    simp [execOp, resolve, Act.eval, Deferred.ofValue, invoke, hargs, he args.toArray w]
  rw [hrun]
  have hsz := hs.size
  obtain ⟨D, g1, g2, g3, g4, g5, g6⟩ := hs.take ht
  obtain ⟨Dp, DF, hD, hdj, hpre, hF⟩ := g1.append
  refine ⟨by simp [Fence.wide], ?_⟩
  refine CallsIn.mono (hf w Dp hpre (fun k hk => g2 k ((hD k).2 (.inl hk))) hsz) ?_
  rintro e w' ⟨v, S', rfl, hp, hst⟩
  obtain ⟨S2, ⟨R, t2⟩, hx⟩ := h v S' hp
  exact hx _ w' (ho.put (by simpa using hd)) ((St.frame_at g1 g2 g3 g4 g5 g6 hD hdj hF hst).shed t2)

/-- A call of a function that only reckons. -/
theorem XO_callv {n d : Nat} {listed : Array Bool} {ty : TypeId} {pos : String} {aft : Array Edge} {g : Option (Nat × Bool)} {i : Nat} {f : FuncId} {xs : List Operand} {args : List Value} {ats : Array TypeId} {u : Value}
    (hi : ops[i]? = some ⟨some d, .call { callee := .value (.func f), args := xs.toArray, argTypes := ats }, ty, pos, aft, g⟩) (hw : Want ops N E g) (he : Go.Proofs.Enters P f) (ha : evs E xs = some args) (hf : Ctr P B f args [] (fun v S => v = u ∧ S = [])) (hd : Nat.blt d N = true)
    (h : XA ku P B A r N ops K n (listed.setIfInBounds i true) ds ((d, u) :: E) S Q) : XO ku P B A r N ops K n listed i ds E S Q :=
  XO_call hi hw he ha hf (.nil _) hd (fun v S' ⟨hv, hS⟩ => by subst hv hS; exact ⟨S, ⟨[], Take.self _⟩, h⟩)


/-- A call that leaves what it is lent as it was, and brings 'T'. -/
theorem XO_calln {n d : Nat} {listed : Array Bool} {ty : TypeId} {pos : String} {aft : Array Edge} {g : Option (Nat × Bool)} {i : Nat} {f : FuncId} {xs : List Operand} {args : List Value} {ats : Array TypeId} {pre F : List (Asrt B)} {α : Type} {u : α → Value} {T : α → List (Asrt B)} {p : α → Prop} {Z : List (Asrt B)}
    (hi : ops[i]? = some ⟨some d, .call { callee := .value (.func f), args := xs.toArray, argTypes := ats }, ty, pos, aft, g⟩) (hw : Want ops N E g) (he : Go.Proofs.Enters P f) (ha : evs E xs = some args) (hZ : App K S Z) (hf : Ctr P B f args pre (fun v S => ∃ x, p x ∧ v = u x ∧ S = T x ++ pre)) (ht : Take pre Z F) (hd : Nat.blt d N = true)
    (h : ∀ x, p x → XA ku P B A r N ops K n (listed.setIfInBounds i true) ds ((d, u x) :: E) (T x ++ S) Q) : XO ku P B A r N ops K n listed i ds E S Q := by
  intro a w ho hs
  unfold wpOpIn
  simp only [hi]
  rw [if_pos (Want.wanted (o := ⟨some d, .call { callee := .value (.func f), args := xs.toArray, argTypes := ats }, ty, pos, aft, g⟩) hw ho)]
  refine ⟨fun _ _ => trivial, ?_⟩
  have hargs := ho.evs ha
  rw [Oper.semAt_eq _ _ _ (by simp)]
  have hrun : (execOp a.eval ⟨some d, .call { callee := .value (.func f), args := xs.toArray, argTypes := ats }, ty, pos, aft, g⟩).run P w = .ok (.enter f args.toArray) w := by
    simp [execOp, resolve, Act.eval, Deferred.ofValue, invoke, hargs, he args.toArray w]
  rw [hrun]
  have hsz := hs.size
  have hs' : St B A Z w := by rw [← hZ.eq]; exact hs
  obtain ⟨D, g1, g2, g3, g4, g5, g6⟩ := hs'.take ht
  obtain ⟨Dp, DF, hD, hdj, hpre, hF⟩ := g1.append
  refine ⟨by simp [Fence.wide], ?_⟩
  refine CallsIn.mono (hf w Dp hpre (fun k hk => g2 k ((hD k).2 (.inl hk))) hsz) ?_
  rintro e w' ⟨v, S', rfl, ⟨x, hp, rfl, rfl⟩, hst⟩
  have h1 := St.frame_at g1 g2 g3 g4 g5 g6 hD hdj hF hst
  rw [List.append_assoc] at h1
  have h2 : St B A (T x ++ (K ++ S)) w' := by
    obtain ⟨D', k1, k2⟩ := h1
    obtain ⟨Da, Db, hDab, hdab, ka, kb⟩ := k1.append
    exact ⟨D', Sts.join hDab hdab ka (by rw [hZ.eq]; exact ht.back kb), k2⟩
  exact h x hp _ w' (ho.put (by simpa using hd)) h2.mid

theorem XO_alloc {n d t i : Nat} {listed : Array Bool} {ty : TypeId} {pos : String} {aft : Array Edge} {g : Option (Nat × Bool)} {cs : List Value} (hi : ops[i]? = some ⟨some d, .alloc t, ty, pos, aft, g⟩) (hw : Want ops N E g) (hz : zeroOf P t = some cs) (hd : Nat.blt d N = true)
    (h : ∀ b, XA ku P B A r N ops K n (listed.setIfInBounds i true) ds ((d, .pointer (some ⟨b, 0, none⟩)) :: E) (blk b cs t :: S) Q) : XO ku P B A r N ops K n listed i ds E S Q :=
  XO_op (α := Nat) (fun b => .pointer (some ⟨b, 0, none⟩)) (fun b => blk b cs t :: S) (fun _ => True) hi hw (by simp) hd (fun a w ho hs => by
    unfold zeroOf at hz
    split at hz
    · rename_i i hi
      split at hz
      · rename_i z hz'
        simp at hz
        refine ⟨w.heap.size, w.alloc (.cells z.cells t), ?_, ?_, trivial⟩
        · simp [execOp, Instr.alloc, zeroValue, typeInfo, hi, hz', run_newVar]
        · have := hs.new (.cells z.cells t)
          subst hz
          exact St.mid (L1 := [_]) (by simpa using this)
      · cases hz
    · cases hz) (fun b _ => h b)

theorem XO_box {n d t i : Nat} {listed : Array Bool} {ty : TypeId} {pos : String} {aft : Array Edge} {g : Option (Nat × Bool)} {cs : List Value} {x : Operand} {v : Value} (hi : ops[i]? = some ⟨some d, .box t x, ty, pos, aft, g⟩) (hw : Want ops N E g) (hx : ev E x = some v) (hc : v.cells = cs.toArray) (hd : Nat.blt d N = true)
    (h : ∀ b, XA ku P B A r N ops K n (listed.setIfInBounds i true) ds ((d, .pointer (some ⟨b, 0, none⟩)) :: E) (blk b cs t :: S) Q) : XO ku P B A r N ops K n listed i ds E S Q :=
  XO_op (α := Nat) (fun b => .pointer (some ⟨b, 0, none⟩)) (fun b => blk b cs t :: S) (fun _ => True) hi hw (by simp) hd (fun a w ho hs => by
    refine ⟨w.heap.size, w.alloc (.cells cs.toArray t), ?_, St.mid (L1 := [_]) (hs.new _), trivial⟩
    simp [execOp, Instr.box, ho.ev hx, run_newVar, hc]) (fun b _ => h b)

theorem XO_callk {n d : Nat} {listed : Array Bool} {ty : TypeId} {pos : String} {aft : Array Edge} {g : Option (Nat × Bool)} {i : Nat} {f : FuncId} {xs : List Operand} {args : List Value} {ats : Array TypeId} {pre F : List (Asrt B)} {u : Value} {Z : List (Asrt B)}
    (hi : ops[i]? = some ⟨some d, .call { callee := .value (.func f), args := xs.toArray, argTypes := ats }, ty, pos, aft, g⟩) (hw : Want ops N E g) (he : Go.Proofs.Enters P f) (ha : evs E xs = some args) (hZ : App K S Z) (hf : Ctr P B f args pre (fun v S => v = u ∧ S = pre)) (ht : Take pre Z F) (hd : Nat.blt d N = true)
    (h : XA ku P B A r N ops K n (listed.setIfInBounds i true) ds ((d, u) :: E) S Q) : XO ku P B A r N ops K n listed i ds E S Q :=
  XO_calln (α := Unit) (u := fun _ => u) (T := fun _ => []) (p := fun _ => True) hi hw he ha hZ (hf.mono (fun v S ⟨h1, h2⟩ => ⟨(), trivial, h1, h2⟩)) ht hd (fun _ _ => h)

/-- Stores: the block is among K or S. -/
theorem XO_efd {n i : Nat} {listed : Array Bool} {op : Op} {ty : TypeId} {pos : String} {aft : Array Edge} {g : Option (Nat × Bool)} {T S' : List (Asrt B)} (hi : ops[i]? = some ⟨none, op, ty, pos, aft, g⟩) (hw : Want ops N E g) (hT : App K S T) (hf : Eff P B A N ds E T op S')
    (hno : nost ops (listed.setIfInBounds i true) = false) (h : XA false P B A r N ops [] n (listed.setIfInBounds i true) ds E S' Q) : XO false P B A r N ops K n listed i ds E S Q := by
  intro a w ho hs
  rw [hT.eq] at hs
  obtain ⟨w', h1, h2⟩ := hf.2 a w ty pos aft g ho hs
  unfold wpOpIn
  simp only [hi]
  rw [if_pos (Want.wanted (o := ⟨none, op, ty, pos, aft, g⟩) hw ho)]
  refine ⟨fun _ _ => trivial, ?_⟩
  rw [Oper.semAt_eq _ _ _ hf.1, h1]
  have key := XA_open' (K := K) hno h
  exact key a w' ho h2

/-- Stores that leave what K says. -/
theorem XO_efk {n i : Nat} {listed : Array Bool} {op : Op} {ty : TypeId} {pos : String} {aft : Array Edge} {g : Option (Nat × Bool)} {T T' S' : List (Asrt B)} (hi : ops[i]? = some ⟨none, op, ty, pos, aft, g⟩) (hw : Want ops N E g) (hT : App K S T) (hf : Eff P B A N ds E T op T') (ht : Take K T' S')
    (h : XA ku P B A r N ops K n (listed.setIfInBounds i true) ds E S' Q) : XO ku P B A r N ops K n listed i ds E S Q :=
  XO_eff hi hw hf.1 (fun a w ho hs => by
    rw [hT.eq] at hs
    obtain ⟨w', h1, h2⟩ := hf.2 a w ty pos aft g ho hs
    exact ⟨w', h1, h2.take ht⟩) h

end Go.Sl
end

section
namespace Go.Sl
open Go Go.ChangeShapes Go.WideShapes Go.ChangeAt Go.RowKit
set_option linter.unusedVariables false
variable {P : Program} {B : Nat} {A : Amb} {N : Nat} {ds : List Nat} {E : Env} {S R : List (Asrt B)}

/-! ### Rows of elements -/

/-- A slice whose elements are those of a list, each in sz cells. -/
structure Arr (α : Type) where
  oad : Option Addr
  c : Nat
  l : List α
  nil : oad = none → l = []
  small : l.length ≤ 9223372036854775807
  cap : l.length ≤ c

def Arr.ad {α : Type} (x : Arr α) : Addr := x.oad.getD ⟨0, 0, none⟩
abbrev Arr.n {α : Type} (x : Arr α) : Nat := x.l.length
theorem Arr.nil0 {α : Type} (x : Arr α) : x.oad = none → x.n = 0 := fun h => by simp [Arr.n, x.nil h]

theorem flat_len {α : Type} {enc : α → List Value} {sz : Nat} (he : ∀ a, (enc a).length = sz) : ∀ (l : List α), (l.flatMap enc).length = l.length * sz
  | [] => by simp
  | a :: l => by rw [List.flatMap_cons, List.length_append, he, flat_len he l, List.length_cons, Nat.succ_mul, Nat.add_comm]

theorem flat_get {α : Type} {enc : α → List Value} {sz : Nat} (he : ∀ a, (enc a).length = sz) : ∀ (l : List α) (i : Nat) (k : Nat) (a : α), l[i]? = some a → k < sz → (l.flatMap enc)[i * sz + k]? = (enc a)[k]?
  | [], _, _, _, h, _ => by simp at h
  | b :: l, 0, k, a, h, hk => by
    simp at h; subst h
    rw [List.flatMap_cons, Nat.zero_mul, Nat.zero_add, List.getElem?_append_left (by rw [he]; exact hk)]
  | b :: l, i + 1, k, a, h, hk => by
    rw [List.flatMap_cons, List.getElem?_append_right (by rw [he, Nat.succ_mul]; omega), he]
    rw [show (i + 1) * sz + k - sz = i * sz + k by rw [Nat.succ_mul]; omega]
    exact flat_get he l i k a (by simpa using h) hk

theorem flat_chunk {α : Type} {enc : α → List Value} {sz : Nat} (he : ∀ a, (enc a).length = sz) : ∀ (l : List α) (i : Nat) (a : α), l[i]? = some a → ((l.flatMap enc).drop (i * sz)).take sz = enc a
  | [], _, _, h => by simp at h
  | b :: l, 0, a, h => by
    simp at h; subst h
    rw [List.flatMap_cons, Nat.zero_mul, List.drop_zero, List.take_append_of_le_length (by rw [he]; exact Nat.le_refl _), ← he b, List.take_length]
  | b :: l, i + 1, a, h => by
    rw [List.flatMap_cons, Nat.succ_mul, Nat.add_comm, ← List.drop_drop]
    conv => lhs; rw [← he b]
    rw [List.drop_left, he b]
    exact flat_chunk he l i a (by simpa using h)

/-- An element's cell, an element whole. -/
theorem D_ela {α : Type} {enc : α → List Value} {sz : Nat} (he : ∀ a, (enc a).length = sz) {K : Asrt B} {ad : Addr} {l : List α} {t i k : Nat} {a : α} {x : Operand} {v : Value} (hx : ev E x = some (.pointer (some (ad.add (i * sz + k))))) (ho' : Out K S R) (hr : Rd K ad (l.flatMap enc)) (ht : tyK P t = some (false, 1))
    (hi : l[i]? = some a) (hv : (enc a)[k]? = some v) : Det P B A N ds E S (.load t x) v :=
  D_ld hx ho' hr ht (by rw [flat_get he l i k a hi (by have := (List.getElem?_eq_some_iff.1 hv).1; rw [he] at this; exact this)]; exact hv)
theorem D_els {α : Type} {enc : α → List Value} {sz : Nat} (he : ∀ a, (enc a).length = sz) {K : Asrt B} {ad : Addr} {l : List α} {t i : Nat} {a : α} {x : Operand} (hx : ev E x = some (.pointer (some (ad.add (i * sz))))) (ho' : Out K S R) (hr : Rd K ad (l.flatMap enc)) (ht : tyK P t = some (true, sz))
    (hi : l[i]? = some a) : Det P B A N ds E S (.load t x) (.agg (enc a).toArray) :=
  D_lds hx ho' hr ht (Nat.ble_eq_true_of_le (by
    have := (List.getElem?_eq_some_iff.1 hi).1
    rw [flat_len he, ← Nat.succ_mul]; exact Nat.mul_le_mul_right _ this)) (flat_chunk he l i a hi)

/-! ### What the arguments read as -/

def fitTy : List (Option IntKind) → List Value → Bool
  | [], [] => true
  | none :: ks, .bool _ :: vs => fitTy ks vs
  | some k :: ks, .int k' m :: vs => k == k' && (Lit.int k m).wf && fitTy ks vs
  | _, _ => false

theorem fitTy_append : ∀ {ks ks' : List (Option IntKind)} {xs ys : List Value}, fitTy ks xs = true → fitTy ks' ys = true → fitTy (ks ++ ks') (xs ++ ys) = true
  | [], _, [], _, _, h => h
  | [], _, _ :: _, _, h, _ => by simp [fitTy] at h
  | none :: ks, ks', v :: xs, ys, h, h' => by cases v <;> simp [fitTy] at h ⊢; exact fitTy_append h h'
  | some k :: ks, ks', v :: xs, ys, h, h' => by cases v <;> simp [fitTy] at h ⊢; exact ⟨h.1, fitTy_append h.2 h'⟩
  | none :: ks, _, [], _, h, _ => by simp [fitTy] at h
  | some k :: ks, _, [], _, h, _ => by simp [fitTy] at h

theorem fitTy_len : ∀ {ks : List (Option IntKind)} {xs : List Value}, fitTy ks xs = true → xs.length = ks.length
  | [], [], _ => rfl
  | [], _ :: _, h => by simp [fitTy] at h
  | none :: ks, v :: xs, h => by cases v <;> simp [fitTy] at h; simp [fitTy_len h]
  | some k :: ks, v :: xs, h => by cases v <;> simp [fitTy] at h; simp [fitTy_len h.2]
  | none :: ks, [], h => by simp [fitTy] at h
  | some k :: ks, [], h => by simp [fitTy] at h

/-- The cells of an all-integer-and-bool type, out of numbers. -/
def encK (e : Nat → Int) : Nat → List (Option IntKind) → List Value
  | _, [] => []
  | i, none :: ks => .bool (e i == 1) :: encK e (i + 1) ks
  | i, some k :: ks => .int k (e i) :: encK e (i + 1) ks

def fitK (e : Nat → Int) : Nat → List (Option IntKind) → Prop
  | _, [] => True
  | i, none :: ks => fitK e (i + 1) ks
  | i, some k :: ks => (Lit.int k (e i)).wf = true ∧ fitK e (i + 1) ks

theorem encK_ext {e e' : Nat → Int} : ∀ {ks : List (Option IntKind)} {i : Nat}, (∀ j, i ≤ j → e j = e' j) → encK e i ks = encK e' i ks ∧ (fitK e i ks ↔ fitK e' i ks)
  | [], _, _ => ⟨rfl, Iff.rfl⟩
  | none :: ks, i, h => by
    have := encK_ext (ks := ks) (i := i + 1) (fun j hj => h j (by omega))
    exact ⟨by simp only [encK, h i (Nat.le_refl _), this.1], by simp only [fitK, this.2]⟩
  | some k :: ks, i, h => by
    have := encK_ext (ks := ks) (i := i + 1) (fun j hj => h j (by omega))
    exact ⟨by simp only [encK, h i (Nat.le_refl _), this.1], by simp only [fitK, h i (Nat.le_refl _), this.2]⟩

theorem fitTy_enc : ∀ {ks : List (Option IntKind)} {xs : List Value} (i : Nat), fitTy ks xs = true → ∃ e, xs = encK e i ks ∧ fitK e i ks
  | [], [], i, _ => ⟨fun _ => 0, rfl, trivial⟩
  | [], _ :: _, _, h => by simp [fitTy] at h
  | none :: ks, v :: xs, i, h => by
    cases v <;> simp [fitTy] at h
    rename_i b
    obtain ⟨e, h1, h2⟩ := fitTy_enc (i + 1) h
    have key := encK_ext (e := e) (e' := fun j => if j = i then (if b then 1 else 0) else e j) (ks := ks) (i := i + 1) (fun j hj => by rw [if_neg (by omega)])
    refine ⟨fun j => if j = i then (if b then 1 else 0) else e j, ?_, ?_⟩
    · simp only [encK, if_true, h1, key.1]; cases b <;> rfl
    · exact key.2.1 h2
  | some k :: ks, v :: xs, i, h => by
    cases v <;> simp [fitTy] at h
    rename_i k' m
    obtain ⟨⟨rfl, hw⟩, h⟩ := h
    obtain ⟨e, h1, h2⟩ := fitTy_enc (i + 1) h
    have key := encK_ext (e := e) (e' := fun j => if j = i then m else e j) (ks := ks) (i := i + 1) (fun j hj => by rw [if_neg (by omega)])
    refine ⟨fun j => if j = i then m else e j, ?_, ?_⟩
    · simp only [encK, if_true, h1, key.1]
    · refine ⟨by simpa using hw, key.2.1 h2⟩
  | none :: ks, [], _, h => by simp [fitTy] at h
  | some k :: ks, [], _, h => by simp [fitTy] at h

variable {H : Type} {enc : TypeId × Value → H} {W : World} {base : Nat} {spare : Nat → Bool} {held : Bool}

theorem cellsOf_info {t : TypeId} {i : TypeInfo} (h : P.info? t = some i) : P.cellsOf t = i.size := by simp [Program.cellsOf, h]

theorem fit_fields {rec : TypeId → Option (List (Option IntKind))} {cs : List Value} : ∀ (fs : List Field) (off : Nat) (ks : List (Option IntKind)), eqKindsF P rec off fs = some ks → off + ks.length = cs.length →
    (∀ f ∈ fs, ∀ l, rec f.type = some l → fitTy l ((cs.drop f.offset).take (P.cellsOf f.type)) = true) → fitTy ks (cs.drop off) = true := by
  intro fs
  induction fs with
  | nil => intro off ks h hl _; simp [eqKindsF] at h; subst h; simp at hl; subst hl; simp [fitTy]
  | cons f fs ih =>
    intro off ks h hl hf
    simp only [eqKindsF] at h
    split at h
    · rename_i l i h1 h2
      split at h
      · rename_i hc
        split at h
        · rename_i l' h3
          simp at h; subst h
          have ha := hf f (by simp) l h1
          rw [hc.2.1, cellsOf_info h2, hc.2.2] at ha
          have hb := ih (off + l.length) l' h3 (by simp at hl; omega) (fun g hg => hf g (by simp [hg]))
          have e : cs.drop off = (cs.drop off).take l.length ++ cs.drop (off + l.length) := by rw [← List.drop_drop, List.take_append_drop]
          rw [e]
          exact fitTy_append ha hb
        · cases h
      · cases h
    · cases h

theorem fit_elems {l : List (Option IntKind)} {cs : List Value} : ∀ (n off : Nat), off + n * l.length = cs.length → (∀ i, i < n → fitTy l ((cs.drop (off + i * l.length)).take l.length) = true) →
    fitTy (List.replicate n l).flatten (cs.drop off) = true := by
  intro n
  induction n with
  | zero => intro off hl _; simp at hl; subst hl; simp [fitTy]
  | succ n ih =>
    intro off hl h
    have ha := h 0 (by omega)
    have hb := ih (off + l.length) (by rw [Nat.succ_mul] at hl; omega) (fun i hi => by have := h (i + 1) (by omega); rw [Nat.succ_mul] at this; rw [show off + l.length + i * l.length = off + (i * l.length + l.length) by omega]; exact this)
    have e : cs.drop off = (cs.drop off).take l.length ++ cs.drop (off + l.length) := by rw [← List.drop_drop, List.take_append_drop]
    rw [e, List.replicate_succ, List.flatten_cons]
    exact fitTy_append (by simpa using ha) hb

theorem fit_of_trod : ∀ (d : Nat) {t : TypeId} {ks : List (Option IntKind)}, eqKinds P d t = some ks → (∃ i, P.info? t = some i ∧ i.size = ks.length) → ∀ {fuel : Nat} {cs : List Value} {x : DataW H × List MemPlace}, DataW.trod enc P W base spare held fuel t cs = some x → fitTy ks cs = true := by
  intro d
  induction d with
  | zero => intro t ks h; simp [eqKinds] at h
  | succ d ih =>
    intro t ks h hi fuel cs x hx
    obtain ⟨inf, hinf, hsz⟩ := hi
    unfold eqKinds at h
    split at h
    · rename_i hu
      simp at h; subst h
      obtain ⟨b, rfl, _⟩ := DataW.trod_bool hu hx
      rfl
    · rename_i k hu
      simp at h; subst h
      obtain ⟨n, rfl, _, hw⟩ := DataW.trod_int hu hx
      simp [fitTy, hw]
    · rename_i fs hu
      split at h
      · cases h
      · obtain ⟨xs, n, _, _, hl, hlen, hf⟩ := DataW.trod_struct hu hx
        have := fit_fields (P := P) (cs := cs) fs.toList 0 ks h (by rw [hl, cellsOf_info hinf]; omega) (fun f hfm l hl' => by
          obtain ⟨i, hi, he⟩ := List.getElem_of_mem hfm
          have h1 := hf i f (by rw [← he]; simp at hi; simp [hi])
          have h2 : xs[i]? ≠ none := by simp at hi; simp [hlen, hi]
          cases h3 : xs[i]? with
          | none => exact absurd h3 h2
          | some y =>
            rw [h3] at h1
            obtain ⟨hd1, hd2⟩ := eqKinds_pos hl'
            obtain ⟨inf', hinf', hs'⟩ : ∃ inf', P.info? f.type = some inf' ∧ inf'.size = l.length := by
              clear ih hx hf h1
              have key : ∀ (gs : List Field) (off : Nat) (ks : List (Option IntKind)), eqKindsF P (eqKinds P d) off gs = some ks → f ∈ gs → ∃ inf', P.info? f.type = some inf' ∧ inf'.size = l.length := by
                intro gs
                induction gs with
                | nil => intro _ _ _ h; cases h
                | cons g gs ihg =>
                  intro off ks h hm
                  simp only [eqKindsF] at h
                  split at h
                  · rename_i l0 i0 h1 h2
                    split at h
                    · rename_i hc
                      split at h
                      · rename_i l' h3
                        rcases List.mem_cons.1 hm with rfl | hm
                        · rw [hl'] at h1; simp at h1; subst h1; exact ⟨i0, h2, hc.2.2⟩
                        · exact ihg _ _ h3 hm
                      · cases h
                    · cases h
                  · cases h
              exact key fs.toList 0 ks h hfm
            exact ih hl' ⟨inf', hinf', hs'⟩ h1)
        simpa using this
    · rename_i n e hu
      split at h
      · rename_i l i hl hie
        split at h
        · rename_i hc
          simp at h; subst h
          obtain ⟨xs, m, _, _, hlen, hxs, hf⟩ := DataW.trod_array hu hx
          have := fit_elems (l := l) (cs := cs) n 0 (by rw [hlen, cellsOf_info hinf, hsz]; simp) (fun j hj => by
            have h1 := hf j hj
            rw [cellsOf_info hie, hc] at h1
            have h2 : j < xs.length := by omega
            rw [List.getElem?_eq_getElem h2] at h1
            simpa using ih hl ⟨i, hie, hc⟩ h1)
          simpa using this
        · cases h
      · cases h
    · cases h

/-- A slice that is read: its elements decoded one by one. -/
theorem Arr.of_trod {α : Type} {encA : α → List Value} {ok : α → Prop} {t e sz : Nat} {fuel : Nat} {cs : List Value} {x : DataW H × List MemPlace} (ht : slcOf P t = some (e, sz)) (hsz : 0 < sz) (hx : DataW.trod enc P W 0 spare held fuel t cs = some x)
    (dec : ∀ n cs x, DataW.trod enc P W 0 spare held n e cs = some x → ∃ a, cs = encA a ∧ ok a) :
    ∃ a : Arr α, cs = [.slice a.oad a.n a.c] ∧ (∀ y ∈ a.l, ok y) ∧ Rd (old (B := W.heap.size) W) a.ad (a.l.flatMap encA) := by
  obtain ⟨inf, hu, hinf, hs⟩ := slcOf_spec ht
  have hce : P.cellsOf e = sz := by rw [cellsOf_info hinf, hs]
  rcases Deep.open_slice hu hx with ⟨rfl, _⟩ | ⟨a, len, cap, m, n, D, Pl, rfl, hb, hl, hm, hmm, rfl, he⟩
  · exact ⟨⟨none, 0, [], fun _ => rfl, by simp, by simp⟩, rfl, by simp, Rd_old (by simp)⟩
  · have hle : len ≤ m := by rw [hmm]; split <;> omega
    rw [hce] at he
    have hall : ∀ k, k ≤ len → ∃ l : List α, l.length = k ∧ (∀ y ∈ l, ok y) ∧ (∀ i y, l[i]? = some y → W.cells? 0 (a.add (i * sz)) sz = some (encA y)) := by
      intro k
      induction k with
      | zero => intro _; exact ⟨[], rfl, by simp, by simp⟩
      | succ k ih =>
        intro hk
        obtain ⟨l, h1, h2, h3⟩ := ih (by omega)
        obtain ⟨cs', g1, g2⟩ := he k (by omega)
        obtain ⟨y, rfl, hy⟩ := dec _ _ _ g2
        refine ⟨l ++ [y], by simp [h1], ?_, ?_⟩
        · intro z hz; rcases List.mem_append.1 hz with h | h
          · exact h2 z h
          · simp at h; subst h; exact hy
        · intro i z hz
          by_cases hi : i < l.length
          · exact h3 i z (by rwa [List.getElem?_append_left hi] at hz)
          · rw [List.getElem?_append_right (by omega)] at hz
            have : i - l.length = 0 := by
              rcases Nat.eq_zero_or_pos (i - l.length) with h | h
              · exact h
              · rw [List.getElem?_eq_none (by simp; omega)] at hz; cases hz
            rw [this] at hz
            simp at hz; subst hz
            have : i = k := by omega
            subst this; exact g1
    obtain ⟨l, h1, h2, h3⟩ := hall len (Nat.le_refl _)
    refine ⟨⟨some a, cap, l, (by intro h; cases h), (by rw [h1]; unfold maxLen at hm; omega), (by omega)⟩, by simp [Arr.n, h1], h2, Rd_old ?_⟩
    have hlen : ∀ y ∈ l, (encA y).length = sz := fun y hy => by
      obtain ⟨i, hi, hy'⟩ := List.getElem_of_mem hy
      exact (World.cells?_some (h3 i y (by simp [hi, hy']))).2.1
    have key : ∀ (l : List α) (o : Nat), (∀ y ∈ l, (encA y).length = sz) → (∀ i y, l[i]? = some y → W.cells? 0 (a.add (o + i * sz)) sz = some (encA y)) → ∀ k, k < (l.flatMap encA).length → a.block < W.heap.size ∧ W.cell? (a.add (o + k)) = (l.flatMap encA)[k]? := by
      intro l
      induction l with
      | nil => intro o _ _ k hk; simp at hk
      | cons y l ih =>
        intro o hlen hc k hk
        have hy := hlen y (by simp)
        rw [List.flatMap_cons] at hk ⊢
        by_cases hk' : k < sz
        · have := (World.cells?_some (hc 0 y rfl)).2.2 k hk'
          rw [Nat.zero_mul, Nat.add_zero, addr_add_add] at this
          rw [List.getElem?_append_left (by omega)]
          refine ⟨?_, this⟩
          rw [List.getElem?_eq_getElem (by omega)] at this
          have hb : (a.add (o + k)).block = a.block := by unfold Addr.add; split <;> rfl
          rw [← hb]
          rcases Nat.lt_or_ge (a.add (o + k)).block W.heap.size with h | h
          · exact h
          · simp [World.cell?, Array.getElem?_eq_none h] at this
        · have := ih (o + sz) (fun z hz => hlen z (by simp [hz])) (fun i z hz => by have := hc (i + 1) z (by simpa using hz); rw [Nat.succ_mul] at this; rw [show o + sz + i * sz = o + (i * sz + sz) by omega]; exact this) (k - sz) (by rw [List.length_append] at hk; omega)
          rw [List.getElem?_append_right (by omega), hy]
          rw [show o + sz + (k - sz) = o + k by omega] at this
          exact this
    intro k hk
    have := key l 0 hlen (fun i y hy => by rw [Nat.zero_add]; exact h3 i y hy) k hk
    simpa [Arr.ad] using this

theorem flat_dec {d t : Nat} {ks : List (Option IntKind)} (h : eqKinds P d t = some ks) (hi : (P.info? t).map (·.size) = some ks.length) {fuel : Nat} {cs : List Value} {x : DataW H × List MemPlace} (hx : DataW.trod enc P W base spare held fuel t cs = some x) :
    ∃ e, cs = encK e 0 ks ∧ fitK e 0 ks := by
  obtain ⟨i, h1, h2⟩ := Option.map_eq_some_iff.1 hi
  exact fitTy_enc 0 (fit_of_trod d h ⟨i, h1, h2⟩ hx)

theorem u32_bv {n : Int} (h : (Lit.int .u32 n).wf = true) : ∃ a : BitVec 32, n = (a.toNat : Int) := by
  simp only [Lit.wf, Bool.and_eq_true, decide_eq_true_eq] at h
  have h1 : IntKind.u32.min = 0 := rfl
  have h2 : IntKind.u32.max = 4294967295 := rfl
  exact ⟨BitVec.ofNat 32 n.toNat, by rw [BitVec.toNat_ofNat]; omega⟩

theorem i64_fit {n : Int} (h : (Lit.int .i64 n).wf = true) : -9223372036854775808 ≤ n ∧ n ≤ 9223372036854775807 := by
  simp only [Lit.wf, Bool.and_eq_true, decide_eq_true_eq] at h
  exact h

/-- The parts of a struct. -/
def Parts (enc : TypeId × Value → H) (P : Program) (W : World) (base : Nat) (spare : Nat → Bool) (held : Bool) : List TypeId → List Value → Prop
  | [], cs => cs = []
  | t :: ts, cs => ∃ p q, cs = p ++ q ∧ (∃ n x, DataW.trod enc P W base spare held n t p = some x) ∧ Parts enc P W base spare held ts q

def consec (P : Program) : Nat → List Field → Option Nat
  | off, [] => some off
  | off, f :: fs => if f.offset = off then consec P (off + P.cellsOf f.type) fs else none

theorem consec_le : ∀ {fs : List Field} {off z : Nat}, consec P off fs = some z → off ≤ z
  | [], off, z, h => by simp [consec] at h; omega
  | f :: fs, off, z, h => by
    simp only [consec] at h
    split at h
    · have := consec_le h; omega
    · cases h

theorem parts_at {cs : List Value} : ∀ (fs : List Field) (off : Nat), consec P off fs = some cs.length → (∀ f ∈ fs, ∃ n x, DataW.trod enc P W base spare held n f.type ((cs.drop f.offset).take (P.cellsOf f.type)) = some x) → Parts enc P W base spare held (fs.map (·.type)) (cs.drop off)
  | [], off, h, _ => by simp [consec] at h; subst h; simp [Parts]
  | f :: fs, off, h, hf => by
    simp only [consec] at h
    split at h
    · rename_i ho
      refine ⟨(cs.drop off).take (P.cellsOf f.type), cs.drop (off + P.cellsOf f.type), by rw [← List.drop_drop, List.take_append_drop], ?_, parts_at fs _ h (fun g hg => hf g (List.mem_cons_of_mem _ hg))⟩
      rw [← ho]; exact hf f (List.mem_cons_self ..)
    · cases h

/-- The types of a struct's fields, one behind the other. -/
def shp (P : Program) (t : Nat) : Option (List Nat) := match P.underlying t with
  | some (.struct fs) => if consec P 0 fs.toList = some (P.cellsOf t) then some (fs.toList.map (·.type)) else none
  | _ => none

theorem shp_spec {t : Nat} {ts : List Nat} (h : shp P t = some ts) : ∃ fs, P.underlying t = some (.struct fs) ∧ consec P 0 fs.toList = some (P.cellsOf t) ∧ ts = fs.toList.map (·.type) := by
  unfold shp at h
  split at h
  · rename_i fs hu
    split at h
    · rename_i hc; simp at h; exact ⟨fs, hu, hc, h.symm⟩
    · cases h
  · cases h

theorem struct_parts {t fuel : Nat} {ts : List Nat} {cs : List Value} {x : DataW H × List MemPlace} (h : shp P t = some ts) (hx : DataW.trod enc P W base spare held fuel t cs = some x) :
    Parts enc P W base spare held ts cs := by
  obtain ⟨fs, hu, hc, rfl⟩ := shp_spec h
  obtain ⟨xs, n, _, _, hl, hlen, hf⟩ := DataW.trod_struct hu hx
  have := parts_at (enc := enc) (W := W) (base := base) (spare := spare) (held := held) (cs := cs) fs.toList 0 (by rw [hc, hl]) (fun f hm => by
    obtain ⟨i, hi, he⟩ := List.getElem_of_mem hm
    simp at hi
    have h1 := hf i f (by rw [← he]; simp [hi])
    have h2 : i < xs.length := by omega
    rw [List.getElem?_eq_getElem h2] at h1
    exact ⟨_, _, h1⟩)
  simpa using this

/-! ### The frame -/

theorem calls_of {f : FuncId} {args : Array Value} {w : World} {v : Value} {T : List (Asrt w.heap.size)} (hT : Sts T (fun _ => False) w) (h : Ctr P w.heap.size f args.toList T (fun u _ => u = v)) :
    Calls P f args w fun e w' => e = .returned v ∧ Go.RowKit.Below w.heap.size w w' := by
  refine (callsIn_wide (n := 0)).1 (CallsIn.mono (h w (fun _ => False) hT (fun _ h => h.elim) (Nat.le_refl _)) ?_)
  rintro e w' ⟨u, S', rfl, rfl, D, h1, h2, h3, h4, _⟩
  exact ⟨rfl, h4.os, h4.tape, h4.output, h4.size, fun k hk => h4.same k hk (fun h => h)⟩

theorem old_self (w : World) : Sts [old (B := w.heap.size) w] (fun _ => False) w :=
  ⟨fun _ => False, fun _ => False, by simp, fun _ h => h.elim, ⟨fun _ h => h, fun _ _ => rfl⟩, fun _ h => h⟩

/-- What is known of an argument. -/
def ArgOk (P : Program) (W : World) (t : TypeId) (v : Value) : Prop :=
  (∃ b, Value.okWide P W .any b t v) ∧ ∃ (H : Type) (enc : TypeId × Value → H) (fuel : Nat) (x : DataW H × List MemPlace), DataW.trod enc P W 0 (fun _ => true) true fuel t v.cells.toList = some x

def ArgsOk (P : Program) (W : World) : List TypeId → List Value → Prop
  | [], [] => True
  | t :: ts, v :: vs => ArgOk P W t v ∧ ArgsOk P W ts vs
  | _, _ => False

theorem argsOk_of : ∀ {ts : List TypeId} {vs : List Value} {ds : List (DataW H)} {ps : List MemPlace}, (∀ (j : Nat) t v, ts[j]? = some t → vs[j]? = some v → ∃ b, Value.okWide P W .any b t v) → DataW.TrodAll enc P W 0 (fun _ => true) true ts vs ds ps → ArgsOk P W ts vs
  | [], [], _, _, _, _ => trivial
  | [], _ :: _, ds, _, _, h => by cases ds <;> simp [DataW.TrodAll] at h
  | _ :: _, [], ds, _, _, h => by cases ds <;> simp [DataW.TrodAll] at h
  | t :: ts, v :: vs, ds, ps, hv, h => by
    obtain ⟨v0, vs0, d0, ds0, p0, q0, hargs, rfl, rfl, h0, r0⟩ := trodAll_cons h
    simp at hargs
    obtain ⟨rfl, rfl⟩ := hargs
    obtain ⟨fuel, hf⟩ := h0
    refine ⟨⟨?_, H, enc, fuel, _, hf⟩, argsOk_of (fun j t v h1 h2 => hv (j + 1) t v (by simpa using h1) (by simpa using h2)) r0⟩
    exact hv 0 t v rfl rfl

theorem back_all (hl : laidOutB P = true) {w' : World} (hb : Below W.heap.size W w') : ∀ {ts : List TypeId} {vs : List Value} {ds : List (DataW H)} {ps : List MemPlace}, (∀ t ∈ ts, P.readableRec t = true ∧ t < P.types.size) → DataW.TrodAll enc P W 0 (fun _ => true) true ts vs ds ps →
    ∃ qs, DataW.TrodAll enc P w' 0 (fun b => decide (b < W.heap.size)) true ts vs ds qs
  | [], [], [], _, _, _ => ⟨[], rfl⟩
  | [], [], _ :: _, _, _, h => by simp [DataW.TrodAll] at h
  | [], _ :: _, ds, _, _, h => by cases ds <;> simp [DataW.TrodAll] at h
  | _ :: _, [], ds, _, _, h => by cases ds <;> simp [DataW.TrodAll] at h
  | t :: ts, v :: vs, ds, ps, hr, h => by
    obtain ⟨v0, vs0, d0, ds0, p0, q0, hargs, rfl, rfl, h0, r0⟩ := trodAll_cons h
    simp at hargs
    obtain ⟨rfl, rfl⟩ := hargs
    have lt0 : ∀ x ∈ p0, x.block < W.heap.size := by obtain ⟨m, hm⟩ := h0; exact DataW.trod_lt m _ _ _ hm
    obtain ⟨q, hq⟩ := back_all hl hb (fun t ht => hr t (List.mem_cons_of_mem _ ht)) r0
    have := hr t (List.mem_cons_self ..)
    exact ⟨_, trodAll_cons_mk (Below.trod hl this.1 this.2 h0 hb lt0) hq⟩

theorem arg_struct {t : Nat} {ts : List Nat} {v : Value} (hs : shp P t = some ts) (h : ArgOk P W t v) : ∃ (H : Type) (enc : TypeId × Value → H) (cs : List Value), v = .agg cs.toArray ∧ Parts enc P W 0 (fun _ => true) true ts cs := by
  obtain ⟨⟨b, h1⟩, H, enc, fuel, x, h2⟩ := h
  obtain ⟨fs, hu, _, _⟩ := shp_spec hs
  obtain ⟨cs, rfl, _⟩ := okWide_struct hu h1
  exact ⟨H, enc, cs.toList, by simp, struct_parts hs h2⟩
theorem arg_int {t : Nat} {k : IntKind} {v : Value} (hu : P.underlying t = some (.int k)) (h : ArgOk P W t v) : ∃ n, v = .int k n ∧ (Lit.int k n).wf = true := by
  obtain ⟨⟨b, h1⟩, H, enc, fuel, x, h2⟩ := h
  obtain ⟨n, rfl⟩ := okWide_int hu h1
  obtain ⟨m, h3, _, h4⟩ := DataW.trod_int hu h2
  simp [Value.cells] at h3
  subst h3
  exact ⟨_, rfl, h4⟩
theorem arg_string {t : Nat} {v : Value} (hu : P.underlying t = some .string) (h : ArgOk P W t v) : ∃ s, v = .string s := by
  obtain ⟨⟨b, h1⟩, _⟩ := h
  exact okWide_string hu h1
theorem arg_arr {α : Type} {encA : α → List Value} {ok : α → Prop} {t e sz : Nat} {v : Value} (ht : slcOf P t = some (e, sz)) (hsz : 0 < sz) (h : ArgOk P W t v)
    (dec : ∀ {H : Type} {enc : TypeId × Value → H} n cs x, DataW.trod enc P W 0 (fun _ => true) true n e cs = some x → ∃ a, cs = encA a ∧ ok a) :
    ∃ a : Arr α, v = .slice a.oad a.n a.c ∧ (∀ y ∈ a.l, ok y) ∧ Rd (old (B := W.heap.size) W) a.ad (a.l.flatMap encA) := by
  obtain ⟨⟨b, h1⟩, H, enc, fuel, x, h2⟩ := h
  obtain ⟨inf, hu, _, _⟩ := slcOf_spec ht
  obtain ⟨a, len, cap, rfl⟩ := okWide_slice hu h1
  obtain ⟨a, g1, g2, g3⟩ := Arr.of_trod ht hsz h2 dec
  simp [Value.cells] at g1
  obtain ⟨rfl, rfl, rfl⟩ := g1
  exact ⟨a, rfl, g2, g3⟩

/-- A law that returns true: its row. -/
theorem handed {C : Checked} {os : Os} {f : FuncId} {fn : Func} {s : ChangeSpec} {conds : List PathCond} {tb : TypeId} (own : ownKnob C.prog.godebug = none) (started : os.Started) (noInit : C.prog.inits.idxOf? f = none) (hfn : C.prog.funcs[f]? = some fn)
    (laid : laidOutB C.prog = true) (readable : fn.params.toList.all (fun t => C.prog.readableRec t && decide (t < C.prog.types.size)) = true) (hvars : s.vars = [])
    (hspec : ∀ (ds : List (DataW H)), ds.length = fn.params.size → (s.fn H ds).results = [.lit (.bool true)] ∧ (s.fn H ds).args = ds ∧ (s.fn H ds).vars = []) (hres : fn.resultTypes = #[tb]) (hub : C.prog.underlying tb = some .bool)
    (witness : ∃ (w : World) (tape : Tape) (i : Input), w.os = os ∧ (w.forCall tape i).Shaped C.prog ∧ i.vars = [] ∧ Input.okWide C.prog (w.forCall tape i) .any w.heap.size f i ∧
      s.pre6 enc C.prog fn conds false (w.forCall tape i).memory i.args ∧ ({} : Assume).holds C.prog (lone (Frame.enter C.prog f i.args .normal) [] (w.forCall tape i)))
    (walk : ∀ (W : World) (args : Array Value), ArgsOk C.prog W fn.params.toList args.toList → Calls C.prog f args W fun e w' => e = .returned (.bool true) ∧ Below W.heap.size W w') :
    ReturnsInHanded {} C os f .any (s.pre6 enc C.prog fn conds false) (s.post enc C.prog fn false true false false) := by
  refine returnsInHanded_of_change (C := C) own started noInit hfn witness ?_
  intro W base args ds gs before hval hW hcnd _
  have hW' := hW
  obtain ⟨p, q, hA, hV, rfl, hfz, hnd⟩ := hW
  rw [hvars] at hV
  obtain ⟨rfl, rfl⟩ := trodVars_none hV
  have hval' : ∀ (j : Nat) t v, fn.params[j]? = some t → args[j]? = some v → Value.okWide C.prog W .any base t v := hval
  have hok : ArgsOk C.prog W fn.params.toList args.toList := argsOk_of (fun j t v h1 h2 => ⟨base, hval' j t v (by simpa using h1) (by simpa using h2)⟩) hA
  refine (walk W args hok).mono fun e W' ⟨he, bel⟩ => ?_
  subst he
  obtain ⟨qs, hq⟩ := back_all laid bel (fun t ht => by have := List.all_eq_true.1 readable t ht; simpa using this) hA
  have hlen : ds.length = fn.params.size := by
    have : ∀ {ts : List TypeId} {vs : List Value} {ds : List (DataW H)} {ps : List MemPlace}, DataW.TrodAll enc C.prog W 0 (fun _ => true) true ts vs ds ps → ds.length = ts.length := by
      intro ts
      induction ts with
      | nil => intro vs ds ps h; cases vs <;> cases ds <;> simp_all [DataW.TrodAll]
      | cons t ts ih =>
        intro vs ds ps h
        obtain ⟨v0, vs0, d0, ds0, p0, q0, rfl, rfl, rfl, h0, r0⟩ := trodAll_cons h
        simp [ih r0]
    simpa using this hA
  obtain ⟨e1, e2, e3⟩ := hspec (ds ++ []) (by simpa using hlen)
  refine ⟨_, rfl, ds, [], _, [], qs, [], hW', ?_, ?_, ?_, bel.frame _, fun h => by cases h⟩
  · rw [e1, hres]; exact trodAll_mk1 (shut_bool hub _)
  · rw [e2]; simpa using hq
  · rw [hvars, e3]; rfl

end Go.Sl
end

section
namespace Go.Sl
open Go
set_option linter.unusedVariables false

/-! ### Rows of cells by a function of the index -/

def upd {α : Type} (f : Nat → α) (k : Nat) (v : α) : Nat → α := fun j => if j = k then v else f j
theorem upd_same {α : Type} (f : Nat → α) (k : Nat) (v : α) : upd f k v k = v := by simp [upd]
theorem upd_ne {α : Type} (f : Nat → α) {k j : Nat} (v : α) (h : j ≠ k) : upd f k v j = f j := by simp [upd, h]

def rowF {α : Type} (c : α → Value) (n : Nat) (f : Nat → α) : List Value := (List.range n).map fun k => c (f k)
theorem rowF_len {α : Type} (c : α → Value) (n : Nat) (f : Nat → α) : (rowF c n f).length = n := by simp [rowF]
theorem rowF_get {α : Type} {c : α → Value} {n : Nat} {f : Nat → α} {k : Nat} (h : k < n) : (rowF c n f)[k]? = some (c (f k)) := by simp [rowF, h]
theorem rowF_set {α : Type} {c : α → Value} {n : Nat} {f : Nat → α} {k : Nat} {v : α} : (rowF c n f).set k (c v) = rowF c n (upd f k v) := by
  apply List.ext_getElem?
  intro i
  by_cases hi : i < n
  · by_cases hik : k = i
    · subst hik; simp [rowF, hi, upd]
    · rw [List.getElem?_set_ne hik, rowF_get hi, rowF_get hi, upd_ne _ _ (Ne.symm hik)]
  · rw [List.getElem?_eq_none (by simp [rowF]; omega), List.getElem?_eq_none (by simp [rowF]; omega)]
theorem rowF_ext {α : Type} {c : α → Value} {n : Nat} {f g : Nat → α} (h : ∀ k, k < n → f k = g k) : rowF c n f = rowF c n g := by
  unfold rowF; exact List.map_congr_left fun k hk => by rw [h k (List.mem_range.1 hk)]

/-- Integers. -/
abbrev rowI (n : Nat) (f : Nat → Int) : List Value := rowF (fun m => .int .i64 m) n f
abbrev rowB (n : Nat) (f : Nat → Bool) : List Value := rowF (fun m => .bool m) n f

theorem app_get1 {xs ys : List Value} {k : Nat} {v : Value} (h : xs[k]? = some v) : (xs ++ ys)[k]? = some v := by
  rw [List.getElem?_append_left (List.getElem?_eq_some_iff.1 h).1]; exact h
theorem app_get2 {xs ys : List Value} {k n : Nat} {v : Value} (hn : xs.length = n) (h : ys[k]? = some v) : (xs ++ ys)[n + k]? = some v := by
  subst hn; rw [List.getElem?_append_right (by omega), Nat.add_sub_cancel_left]; exact h
theorem app_set1 {xs ys : List Value} {k : Nat} {v : Value} (h : k < xs.length) : (xs ++ ys).set k v = xs.set k v ++ ys := by rw [List.set_append_left _ _ h]
theorem app_set2 {xs ys : List Value} {k n : Nat} {v : Value} (hn : xs.length = n) : (xs ++ ys).set (n + k) v = xs ++ ys.set k v := by
  subst hn; rw [List.set_append_right _ _ (by omega), Nat.add_sub_cancel_left]

abbrev encI (n : Int) : List Value := [.int .i64 n]

theorem run_true {p : Prop} [Decidable p] (h : p) : Value.bool (decide p) = .bool true := by simp [h]

theorem flat_snoc {α : Type} {enc : α → List Value} {l : List α} {i : Nat} {a : α} (h : l[i]? = some a) : (l.take i).flatMap enc ++ enc a = (l.take (i + 1)).flatMap enc := by
  rw [List.take_add_one, h, List.flatMap_append]; simp
theorem flat_app {α : Type} {enc : α → List Value} {l : List α} {a : α} : l.flatMap enc ++ enc a = (l ++ [a]).flatMap enc := by
  rw [List.flatMap_append]; simp

theorem Take.skip {α : Type} {y : α} : ∀ {L S R : List α}, Take L S R → Take L (y :: S) (y :: R)
  | [], _, _, .nil _ => .nil _
  | _ :: _, _, _, .cons h t => .cons (.there _ h) (Take.skip t)

section
variable {ku : Bool} {P : Program} {B : Nat} {A : Amb} {r : Option Nat} {N : Nat} {ds : List Nat} {E : Env} {S R : List (Asrt B)} {Q : P4 B}

/-- The empty slice. -/
def Arr.emp {α : Type} : Arr α := ⟨none, 0, [], fun _ => rfl, by simp, by simp⟩
theorem Arr.emp_own {α : Type} : ∀ ad, (Arr.emp : Arr α).oad = some ad → ∃ g, ad = ⟨g, 0, none⟩ := by intro ad h; cases h
theorem X_rowa {α : Type} {c : Code} (enc : α → List Value) (e sz : Nat) (h : X P B A r N c ds E (row (.slice (Arr.emp : Arr α).oad (Arr.emp : Arr α).l.length (Arr.emp : Arr α).c) e sz (Arr.emp : Arr α).l.length ((Arr.emp : Arr α).l.flatMap enc) :: S) Q) : X P B A r N c ds E S Q := X_rownil e sz h
theorem XL_rowa {α : Type} {ops : Array Oper} {l : List Oper} (enc : α → List Value) (e sz : Nat) (h : XL P B A r N ops l ds E (row (.slice (Arr.emp : Arr α).oad (Arr.emp : Arr α).l.length (Arr.emp : Arr α).c) e sz (Arr.emp : Arr α).l.length ((Arr.emp : Arr α).l.flatMap enc) :: S) Q) : XL P B A r N ops l ds E S Q := XL_rownil e sz h

theorem yielded_undef {ops : Array Oper} {j g : Nat} {a : Act} (h1 : (ops[j]?).bind (·.dst) = some g) (h2 : g < N) (h3 : E.get g = some undef) (ho : Ok N ds E a) : yielded ops a.tmps j = none := by
  have hg := ho.get g _ h3
  have hlt : g < a.tmps.size := by rw [ho.size]; exact h2
  have : a.tmps[g]? = some undef := by
    rw [Array.getD_eq_getD_getElem?, Array.getElem?_eq_getElem hlt] at hg
    rw [Array.getElem?_eq_getElem hlt]
    simpa using hg
  simp [yielded, h1, this, undef]

/-- An operation that is passed over since what it hangs on was passed over. -/
theorem XL_skipu {ops : Array Oper} {rest : List Oper} {d : Nat} {op : Op} {ty : TypeId} {pos : String} {aft : Array Edge} {j : Nat} {b : Bool} (g : Nat) (h1 : (ops[j]?).bind (·.dst) = some g) (h2 : Nat.blt g N = true) (h3 : E.get g = some undef)
    (hd : Nat.blt d N = true) (h : XL P B A r N ops rest ds ((d, undef) :: E) S Q) : XL P B A r N ops (⟨some d, op, ty, pos, aft, some (j, b)⟩ :: rest) ds E S Q := by
  intro a w ho hs
  have hy := yielded_undef (ops := ops) h1 (by simpa using h2) h3 ho
  simp only [wpListIn, Region.wanted, hy]
  rw [if_neg (by simp)]
  exact ⟨fun _ _ => trivial, h _ w (ho.put (by simpa using hd)) hs⟩

theorem XA_skipu {ops : Array Oper} {K : List (Asrt B)} {n d : Nat} {listed : Array Bool} {op : Op} {ty : TypeId} {pos : String} {aft : Array Edge} {j : Nat} {b : Bool} (i : Nat) (t : Nat) (hi : ops[i]? = some ⟨some d, op, ty, pos, aft, some (j, b)⟩) (hds : noDS ops = true) (hno : (ku || (nost ops listed && closed ops listed && after ops i)) = true)
    (hf : Region.free .any ops listed i = true) (hr : (Region.ready .any ops listed).contains i = true) (hQ : ∀ c ds E S, ¬ Q (.panic c) ds E S) (h1 : (ops[j]?).bind (·.dst) = some t) (h2 : Nat.blt t N = true) (h3 : E.get t = some undef) (hd : Nat.blt d N = true)
    (h : XA ku P B A r N ops K n (listed.setIfInBounds i true) ds ((d, undef) :: E) S Q) : XA ku P B A r N ops K (n + 1) listed ds E S Q := by
  intro a w ho hs
  have hy := yielded_undef (ops := ops) h1 (by simpa using h2) h3 ho
  simp only [Bool.or_eq_true, Bool.and_eq_true, and_assoc] at hno
  refine wpAV_first hi rfl hds (fun c a w ⟨ds, E, S, _, _, q⟩ => hQ c ds E S q) n listed a w hno (Region.free_spec hi hf) (by simpa using hr) (.inr ⟨by simp [Region.wanted, hy], rfl⟩) ?_
  exact h _ w (ho.put (by simpa using hd)) hs

/-- Two ways that meet again ahead of what comes next. -/
def joinQ (P : Program) (B : Nat) (A : Amb) (r : Option Nat) (N : Nat) {α : Type} (I : α → Prop) (Es : α → Env) (Ss : α → List (Asrt B)) (ds : List Nat) (Q : P4 B) : P4 B
  | .normal, ds', E, S => ds' = ds ∧ ∃ x R, I x ∧ (Es x).sub E ∧ Take (Ss x) S R
  | e, ds', E, S => Q e ds' E S
theorem X_seqj {x y : Code} {α : Type} (I : α → Prop) (Es : α → Env) (Ss : α → List (Asrt B)) (h1 : X P B A r N x ds E S (joinQ P B A r N I Es Ss ds Q)) (h2 : ∀ z, I z → X P B A r N y ds (Es z) (Ss z) Q) : X P B A r N (x.seq y) ds E S Q := by
  refine X_seq (fun a w ho hs => wpIn_mono (h1 a w ho hs) ?_)
  rintro e a1 w1 ⟨ds1, E1, S1, ok1, st1, q1⟩
  cases e with
  | normal =>
    obtain ⟨rfl, z, R1, hI, hE, hT⟩ := q1
    exact ⟨ds1, Es z, Ss z, ok1.sub hE, st1.shed hT, h2 z hI⟩
  | _ => exact ⟨ds1, E1, S1, ok1, st1, q1⟩
theorem joinQ_normal {α : Type} {I : α → Prop} {Es : α → Env} {Ss : α → List (Asrt B)} (z : α) (h1 : I z) (h2 : (Es z).sub E) (h3 : ∃ R, Take (Ss z) S R) : joinQ P B A r N I Es Ss ds Q .normal ds E S := let ⟨R, h3⟩ := h3; ⟨rfl, z, R, h1, h2, h3⟩

/-- 'set', reckoned. -/
inductive SetL {α : Type} : List α → Nat → α → List α → Prop
  | zero (x : α) (l : List α) (v : α) : SetL (x :: l) 0 v (v :: l)
  | succ {x : α} {l l' : List α} {n : Nat} {v : α} (h : SetL l n v l') : SetL (x :: l) (n + 1) v (x :: l')
theorem SetL.eq {α : Type} {l l' : List α} {n : Nat} {v : α} (h : SetL l n v l') : l.set n v = l' ∧ n < l.length := by
  induction h with
  | zero x l v => simp
  | succ h ih => simp [ih.1, ih.2]

theorem F_stl {cs cs' : List Value} {t b k : Nat} {x y : Operand} {te : TypeId} {v : Value} (hx : ev E x = some (.pointer (some ⟨b, k, none⟩))) (hy : ev E y = some v) (h1 : v.oneCell' = true) (ho' : Out (blk b cs te) S R) (ht : tyK P t = some (false, 1))
    (hc : SetL cs k v cs') : Eff P B A N ds E S (.store t x y) (blk b cs' te :: R) :=
  F_st hx hy h1 ho' ht (by simpa using hc.eq.2) hc.eq.1

def isFuncT (P : Program) (t : Nat) : Bool := match P.underlying t with
  | some (.func ..) => true
  | _ => false

theorem run_equal_fn {t : Nat} {fn : Fn} {f c : Array Value} (ht : isFuncT P t = true) (w : World) : ∀ d, (Op.equalIn (d + 1) t (.func fn f c) .nilFunc).run P w = .ok false w := by
  intro d
  unfold isFuncT at ht
  unfold Op.equalIn
  split at ht
  · rename_i hu
    simp [run_underlying hu]
  · cases ht

/-- A function that is there is not nil. -/
theorem D_nef {t t' : Nat} {x y : Operand} {fn : Fn} {f c : Array Value} (hx : ev E x = some (.func fn f c)) (hy : ev E y = some .nilFunc) (ht : isFuncT P t = true) : Det P B A N ds E S (.binOp .neq t x y t') (.bool true) :=
  ⟨by simp, by simp, fun a w ty pos aft g d ho hs => by
    have e := run_equal_fn (P := P) (fn := fn) (f := f) (c := c) ht w 9999
    simp [execOp, ho.ev hx, ho.ev hy, eqGuard, binOp, Op.equal, Op.maxDepth, e]⟩

/-- A slice of one's own is nil, or the head of its row. -/
def Arr.Own {α : Type} (a : Arr α) : Prop := ∀ ad, a.oad = some ad → ∃ g, ad = ⟨g, 0, none⟩

abbrev Arr.v {α : Type} (a : Arr α) : Value := .slice a.oad a.l.length a.c

theorem Rd_own {α : Type} {enc : α → List Value} {a : Arr α} {e sz n : Nat} (h : a.Own) (hn : n = a.l.length) : Rd (row (B := B) (.slice a.oad a.l.length a.c) e sz n (a.l.flatMap enc)) a.ad (a.l.flatMap enc) := by
  subst hn
  cases ho : a.oad with
  | none => rw [a.nil ho]; intro D w _ k hk; simp at hk
  | some ad =>
    obtain ⟨g, rfl⟩ := h ad ho
    have : a.ad = ⟨g, 0, none⟩ := by simp [Arr.ad, ho]
    rw [this]
    exact Rd_row

theorem row_arr {α : Type} {enc : α → List Value} {l : List α} {v : Value} {e sz n : Nat} {xs : List Value} {w : World} (h : St B A S w) (ho : Out (row v e sz n xs) S R) (hn : n = l.length) : ∃ a : Arr α, a.l = l ∧ a.Own ∧ v = .slice a.oad a.l.length a.c := by
  obtain ⟨D, hK⟩ := h.mem ho
  obtain ⟨⟨h1, h2⟩, _⟩ := hK
  subst hn
  rcases h2 with ⟨rfl, h0⟩ | ⟨g, cap, cur, rfl, _, _, hnc, hcm, _⟩
  · have : l = [] := List.length_eq_zero_iff.1 h0
    subst this
    exact ⟨⟨none, 0, [], fun _ => rfl, by simp, by simp⟩, rfl, (by intro ad h; cases h), rfl⟩
  · refine ⟨⟨some ⟨g, 0, none⟩, cap, l, (by intro h; cases h), ?_, hnc⟩, rfl, (by intro ad h; cases h; exact ⟨g, rfl⟩), rfl⟩
    unfold maxLen at hcm; omega

theorem res_celltmp {fn : Func} {p t b n q : Nat} {cs : List Value} {te : TypeId} {S1 : List (Asrt B)} {v : Value} (h : fn.results = #[.cell p t, .tmp q]) (hp : E.get p = some (.pointer (some ⟨b, 0, none⟩))) (ho : Out (blk b cs te) S S1) (ht : tyK P t = some (true, n)) (hn : cs.length = n) (hq : E.get q = some v) :
    ∀ a w, Ok N ds E a → St B A S w → (results fn a.tmps).run P w = .ok (.tuple #[.agg cs.toArray, v]) w := by
  intro a w hok hs
  obtain ⟨D, hK⟩ := hs.mem ho
  have hl := run_loadN (P := P) (w := w) (p := ⟨b, 0, none⟩) (vs := cs) ht hn (fun k hk => Rd_obj D w hK k (by omega))
  simp only [Instr.loadAt, Instr.sureAddr, Sem.run_bind, Sem.run_pure, Result.andThen_ok] at hl
  have hp' : a.tmps[p]?.getD undef = .pointer (some ⟨b, 0, none⟩) := by have := hok.get p _ hp; simpa [Array.getD_eq_getD_getElem?] using this
  have hq' : a.tmps[q]?.getD undef = v := by have := hok.get q _ hq; simpa [Array.getD_eq_getD_getElem?] using this
  simp [results, h, hp', hq', asAddr, hl]
end


open Go.ChangeShapes Go.WideShapes in
theorem arg_flat {P : Program} {W : World} {d t : Nat} {ks : List (Option IntKind)} {v : Value} (h : eqKinds P d t = some ks) (hi : (P.info? t).map (·.size) = some ks.length) (ha : isAggB P t = true) (hv : ArgOk P W t v) : ∃ e, v = .agg (encK e 0 ks).toArray ∧ fitK e 0 ks := by
  obtain ⟨⟨b, h1⟩, H, enc, fuel, x, h2⟩ := hv
  unfold isAggB at ha
  have key : ∃ cs, v = .agg cs := by
    unfold Value.okWide at h1
    split at h1
    · obtain ⟨cs, h3, _⟩ := h1; exact ⟨cs, h3⟩
    · obtain ⟨cs, h3, _⟩ := h1; exact ⟨cs, h3⟩
    · split at ha
      · rename_i g1 g2 _ f hf; exact absurd hf (g1 f)
      · rename_i g1 g2 _ n f hf; exact absurd hf (g2 n f)
      · cases ha
  obtain ⟨cs, rfl⟩ := key
  obtain ⟨e, h3, h4⟩ := flat_dec h hi h2
  exact ⟨e, by rw [← h3]; simp [Value.cells], h4⟩

end Go.Sl
end

section
namespace Go.Sl
open Go Go.ChangeShapes Go.WideShapes Go.ChangeAt Go.RowKit
set_option linter.unusedVariables false
variable {P : Program} {W : World} {H : Type} {enc : TypeId × Value → H}

/-- A laid table of integers, as the walk reads it. -/
theorem laid_row {n : String} {g t e len : Nat} {k : IntKind} {tab : List Int} (hn : P.globalNamed n = some g) (ht : (P.globals[g]?).map (·.type) = some t) (hu : P.underlying t = some (.array len e)) (he : P.underlying e = some (.int k)) (hc : P.cellsOf e = 1) (hl : tab.length = len)
    (h : laidMet P [(n, .agg (tab.map fun m => .lit (.int k m)))] W) : Rd (old (B := W.heap.size) W) ⟨g, 0, none⟩ (tab.map fun m => .int k m) := by
  obtain ⟨ps, ⟨g0, t0, cs0, f0, p0, q0, hg0, ht0, hv0, hd0, _⟩, _⟩ := h
  obtain rfl := Option.some.inj (hn.symm.trans hg0)
  obtain rfl := Option.some.inj (ht.symm.trans ht0)
  obtain ⟨xs, m, _, hx, hlen, hxs, hel⟩ := DataW.trod_array hu hd0
  simp only [Prod.mk.injEq, DataW.agg.injEq] at hx
  refine Rd_old fun i hi => ?_
  have hi' : i < tab.length := by simpa using hi
  have h1 := hel i (by omega)
  have h2 : i < xs.length := by omega
  rw [List.getElem?_eq_getElem h2, hc, Nat.mul_one] at h1
  obtain ⟨v, hv, hv2, _⟩ := DataW.trod_int he h1
  have h3 : (xs.map (·.1))[i]? = some (.lit (.int k v)) := by simp [h2, hv2]
  rw [← hx.1] at h3
  simp [hi'] at h3
  have hcell : cs0[i]? = some (.int k v) := by
    have := congrArg (·[0]?) hv
    simpa [List.getElem?_take, List.getElem?_drop] using this
  have hw := World.var?_cell hn hv0 i
  rw [hcell] at hw
  have e1 : (⟨g, 0, none⟩ : Addr).add i = ⟨g, i, none⟩ := by rw [add_off, Nat.zero_add]
  refine ⟨?_, ?_⟩
  · rcases Nat.lt_or_ge g W.heap.size with h | h
    · exact h
    · simp [World.cell?, Array.getElem?_eq_none h] at hw
  · rw [e1, hw]; simp [hi', h3]

/-- A law that returns true, in a row that lists a laid variable. -/
theorem handedL {C : Checked} {os : Os} {f : FuncId} {fn : Func} {s : ChangeSpec} {tb : TypeId} {laid : List (String × DataW Unit)} (own : ownKnob C.prog.godebug = none) (started : os.Started) (noInit : C.prog.inits.idxOf? f = none) (hfn : C.prog.funcs[f]? = some fn)
    (laidOut : laidOutB C.prog = true) (readable : fn.params.toList.all (fun t => C.prog.readableRec t && decide (t < C.prog.types.size)) = true) (hvars : s.vars = [])
    (hspec : ∀ (ds : List (DataW H)), ds.length = fn.params.size → (s.fn H ds).results = [.lit (.bool true)] ∧ (s.fn H ds).args = ds ∧ (s.fn H ds).vars = []) (hres : fn.resultTypes = #[tb]) (hub : C.prog.underlying tb = some .bool)
    (witness : ∃ (w : World) (tape : Tape) (i : Input), w.os = os ∧ (w.forCall tape i).Shaped C.prog ∧ i.vars = [] ∧ Input.okWide C.prog (w.forCall tape i) .any w.heap.size f i ∧
      ((s.pre enc C.prog fn [] false (w.forCall tape i).memory i.args ∧ laidMetH C.prog laid (w.forCall tape i).memory) ∧ sizedMet enc C.prog fn (OpenSpec.ofChange s) false (w.forCall tape i).memory i.args) ∧ ({} : Assume).holds C.prog (lone (Frame.enter C.prog f i.args .normal) [] (w.forCall tape i)))
    (walk : ∀ (W : World) (args : Array Value), laidMetH C.prog laid W → ArgsOk C.prog W fn.params.toList args.toList → Calls C.prog f args W fun e w' => e = .returned (.bool true) ∧ Below W.heap.size W w') :
    ReturnsInHanded {} C os f .any (fun w args => (s.pre enc C.prog fn [] false w args ∧ laidMetH C.prog laid w) ∧ sizedMet enc C.prog fn (OpenSpec.ofChange s) false w args) (s.post enc C.prog fn false true false false) := by
  refine returnsInHanded_of_change_and (C := C) (X := fun w _ => laidMetH C.prog laid w) (fun _ _ _ hh h => h.of_heap hh) own started noInit hfn witness ?_
  intro W base args ds gs before hval hW hcnd _ hL _
  have hW' := hW
  obtain ⟨p, q, hA, hV, rfl, hfz, hnd⟩ := hW
  rw [hvars] at hV
  obtain ⟨rfl, rfl⟩ := trodVars_none hV
  have hval' : ∀ (j : Nat) t v, fn.params[j]? = some t → args[j]? = some v → Value.okWide C.prog W .any base t v := hval
  have hok : ArgsOk C.prog W fn.params.toList args.toList := argsOk_of (fun j t v h1 h2 => ⟨base, hval' j t v (by simpa using h1) (by simpa using h2)⟩) hA
  refine (walk W args hL hok).mono fun e W' ⟨he, bel⟩ => ?_
  subst he
  obtain ⟨qs, hq⟩ := back_all laidOut bel (fun t ht => by have := List.all_eq_true.1 readable t ht; simpa using this) hA
  have hlen : ds.length = fn.params.size := by
    have : ∀ {ts : List TypeId} {vs : List Value} {ds : List (DataW H)} {ps : List MemPlace}, DataW.TrodAll enc C.prog W 0 (fun _ => true) true ts vs ds ps → ds.length = ts.length := by
      intro ts
      induction ts with
      | nil => intro vs ds ps h; cases vs <;> cases ds <;> simp_all [DataW.TrodAll]
      | cons t ts ih =>
        intro vs ds ps h
        obtain ⟨v0, vs0, d0, ds0, p0, q0, rfl, rfl, rfl, h0, r0⟩ := trodAll_cons h
        simp [ih r0]
    simpa using this hA
  obtain ⟨e1, e2, e3⟩ := hspec (ds ++ []) (by simpa using hlen)
  refine ⟨_, rfl, ds, [], _, [], qs, [], hW', ?_, ?_, ?_, bel.frame _, fun h => by cases h⟩
  · rw [e1, hres]; exact trodAll_mk1 (shut_bool hub _)
  · rw [e2]; simpa using hq
  · rw [hvars, e3]; rfl

end Go.Sl
end

section
namespace Go.Sl
open Go
set_option linter.unusedVariables false
variable {P : Program} {B : Nat} {A : Amb} {r : Option Nat} {N : Nat} {ds : List Nat} {E : Env} {S R : List (Asrt B)} {Q : P4 B}

theorem D_bvneg {x : Operand} {t : Nat} {m : Int} {a : BitVec 32} (hx : ev E x = some (.int .u32 m)) (ha : BitVec.ofInt 32 m = a) : Det P B A N ds E S (.unOp .neg t x) (.int .u32 ((-a).toNat : Int)) :=
  ⟨by simp, by simp, fun ac w ty pos aft g d ho hs => by
    have e1 := ofInt_eq_iff m a ha
    have : IntKind.u32.wrap (0 - m) = ((-a).toNat : Int) := by
      simp [IntKind.wrap, IntKind.bits, IntKind.signed, BitVec.toNat_neg]; omega
    simp only [execOp, ho.ev hx, Op.unary, Op.intArith, this]
    rfl⟩

/-- A byte of a string. -/
theorem D_idxStr {t i : Nat} {x y : Operand} {s : ByteArray} {k : IntKind} {m : Int} {b : UInt8} (hx : ev E x = some (.string s)) (hy : ev E y = some (.int k m)) (hu : P.underlying t = some .string) (hm : m = (i : Int)) (hb : s[i]? = some b) :
    Det P B A N ds E S (.index t x y) (.int .u8 (b.toNat : Int)) :=
  ⟨by simp, by simp, fun ac w ty pos aft g d ho hs => by
    subst hm
    simp [execOp, ho.ev hx, ho.ev hy, Instr.index, asIntOf, run_underlying hu, hb]⟩

/-- A load out of a block that is known by its row (a package's variable). -/
theorem D_ldb {K : Asrt B} {xs : List Value} {t b k : Nat} {x : Operand} {v : Value} (hx : ev E x = some (.pointer (some ⟨b, k, none⟩))) (ho' : Out K S R) (hr : Rd K ⟨b, 0, none⟩ xs) (ht : tyK P t = some (false, 1)) (hv : xs[k]? = some v) : Det P B A N ds E S (.load t x) v :=
  D_ld (ad := ⟨b, 0, none⟩) (k := k) (by rw [add_off, Nat.zero_add]; exact hx) ho' hr ht hv

end Go.Sl
end

section
namespace Go.Sl
open Go
set_option linter.unusedVariables false
variable {ku : Bool} {P : Program} {B : Nat} {A : Amb} {r : Option Nat} {N : Nat} {ds : List Nat} {E : Env} {S R R' : List (Asrt B)} {Q : P4 B} {ops : Array Oper} {rest : List Oper}
variable {d : Nat} {op : Op} {ty : TypeId} {pos : String} {aft : Array Edge} {g : Option (Nat × Bool)} {v : Value}

theorem Out.app {α : Type} {x : α} {S R : List α} : ∀ {L : List α}, Out x S R → Out x (L ++ S) (L ++ R)
  | [], h => h
  | y :: L, h => .there y (Out.app (L := L) h)
theorem Take.pre {α : Type} : ∀ (L S : List α), Take L (L ++ S) S
  | [], S => .nil S
  | x :: L, S => .cons (.here x _) (Take.pre L S)

/-! ### Literals as rows -/

/-- A slice literal. -/
def Arr.lit {α : Type} (b : Nat) (l : List α) (h : l.length ≤ 9223372036854775807) : Arr α := ⟨some ⟨b, 0, none⟩, l.length, l, (by intro h; cases h), h, Nat.le_refl _⟩
theorem Arr.lit_own {α : Type} {b : Nat} {l : List α} {h : l.length ≤ 9223372036854775807} : (Arr.lit b l h).Own := by intro ad e; cases e; exact ⟨b, rfl⟩

theorem St.blk_row {b n e sz : Nat} {cs : List Value} {w : World} (h : St B A S w) (ho : Out (blk b cs e) S R) (hl : cs.length = n * sz) (hn : n ≤ maxLen) : St B A (row (.slice (some ⟨b, 0, none⟩) n n) e sz n cs :: R) w := by
  obtain ⟨D, ⟨D1, D2, hD, hd, ho1, hs⟩, h2, h3, h4, h5, h6⟩ := h.take (.cons ho (.nil _))
  have hDb : D b := (hD b).2 (.inl ((ho1.1 b).2 rfl))
  refine ⟨D, ⟨D1, D2, hD, hd, ⟨⟨hl, .inr ⟨b, n, cs.toArray, rfl, (h2 b hDb).1, ho1.2, Nat.le_refl _, hn, by simpa using hl, ?_⟩⟩, fun k => ?_⟩, hs⟩, h2, h3, h4, h5, h6⟩
  · rw [← hl]; simp
  · rw [ho1.1 k]; simp [Value.ownBlock]; exact eq_comm

theorem XL_blkrow {b e : Nat} {cs : List Value} {l : List Oper} (n sz : Nat) (ho : Out (blk b cs e) S R) (hl : Nat.beq cs.length (n * sz) = true) (hn : Nat.ble n 9223372036854775807 = true) (h : XL P B A r N ops l ds E (row (.slice (some ⟨b, 0, none⟩) n n) e sz n cs :: R) Q) : XL P B A r N ops l ds E S Q :=
  fun a w hok hs => h a w hok (hs.blk_row ho (Nat.eq_of_beq_eq_true hl) (by unfold maxLen; have := Nat.le_of_ble_eq_true hn; omega))

/-- The empty literal. -/
theorem XL_bslice0 {t e sz by' : Nat} {z : List Value} (hw : Want ops N E g) (ht : slT P t = some (e, sz, by', z)) (hd : Nat.blt d N = true)
    (h : ∀ b, XL P B A r N ops rest ds ((d, .slice (some ⟨b, 0, none⟩) 0 0) :: E) (row (.slice (some ⟨b, 0, none⟩) 0 0) e sz 0 [] :: S) Q) : XL P B A r N ops (⟨some d, .buildSlice t 0 #[], ty, pos, aft, g⟩ :: rest) ds E S Q :=
  XL_op (α := Nat) (fun b => .slice (some ⟨b, 0, none⟩) 0 0) (fun b => row (.slice (some ⟨b, 0, none⟩) 0 0) e sz 0 [] :: S) (fun _ => True) hw (by simp) hd (fun a w ho hs => by
    obtain ⟨i, zv, hu, hi, hz, hsz, hbt, hzs, hps, hzl⟩ := slT_spec ht
    refine ⟨w.heap.size, w.alloc (.cells #[] e), ?_, St.blk_row (cs := []) (hs.new _) (.here _ _) (by simp) (by unfold maxLen; omega), trivial⟩
    simp [execOp, Instr.buildSlice, run_underlying hu, sizeOf, typeInfo, hi, Instr.fill, newRow]
    rw [show Array.range 0 = #[] from by simp [Array.range], Array.map_empty]) (fun b _ => h b)

/-! ### append of a slice that may be nil -/

theorem run_append_none {w : World} {t ty e c : Nat} {i : TypeInfo} {sz n : Nat} {v : Value} {xs : List Value} (ht : P.underlying t = some (.slice e)) (hi : P.info? e = some i) (hown : w.ownsRow B e sz v n xs) :
    (Builtin.append_ #[t, t] ty #[v, .slice none 0 c]).run P w = .ok v w := by
  rcases hown.2 with ⟨rfl, rfl⟩ | ⟨g, cap, cur, rfl, _, _, hnc, _⟩
  · simp [Builtin.append_, run_underlying ht, sizeOf, typeInfo, hi, Builtin.lenOf, Builtin.firstCells]
  · simp [Builtin.append_, run_underlying ht, sizeOf, typeInfo, hi, Builtin.lenOf, Builtin.firstCells, hnc, storeCells]

theorem XL_appenda {α : Type} {enc : α → List Value} {t e sz by' n : Nat} {z xs : List Value} {x y : Operand} {K : Asrt B} {b : Arr α} (hw : Want ops N E g) (hx : ev E x = some v) (hy : ev E y = some (.slice b.oad b.l.length b.c)) (ht : slT P t = some (e, sz, by', z))
    (ho1 : Out (row v e sz n xs) S R) (ho2 : Out K S R') (hr : Rd K b.ad (b.l.flatMap enc)) (he : ∀ a, (enc a).length = sz) (h1 : ∀ a, (enc a).all (·.oneCell') = true) (h63 : n + b.l.length ≤ maxLen) (hby : (n + b.l.length) * by' ≤ 140737488355328) (hd : Nat.blt d N = true)
    (h : ∀ v', XL P B A r N ops rest ds ((d, v') :: E) (row v' e sz (n + b.l.length) (xs ++ b.l.flatMap enc) :: R) Q) :
    XL P B A r N ops (⟨some d, .call { callee := .builtin .append, args := #[x, y], argTypes := #[t, t] }, ty, pos, aft, g⟩ :: rest) ds E S Q := by
  cases hb : b.oad with
  | some ad =>
    have had : b.ad = ad := by simp [Arr.ad, hb]
    rw [hb] at hy; rw [had] at hr
    exact XL_append hw hx hy ht ho1 ho2 hr (flat_len he _) (fun u hu => by
      obtain ⟨a, _, ha⟩ := List.mem_flatMap.1 hu
      exact List.all_eq_true.1 (h1 a) u ha) h63 hby hd (fun v' _ => h v')
  | none =>
    have hl := b.nil hb
    rw [hb, hl] at hy
    have hS : ∀ w, St B A S w → St B A (row v e sz (n + b.l.length) (xs ++ b.l.flatMap enc) :: R) w := fun w hs => by
      rw [hl]; simpa using hs.take (.cons ho1 (.nil _))
    exact XL_op (α := Unit) (fun _ => v) (fun _ => row v e sz (n + b.l.length) (xs ++ b.l.flatMap enc) :: R) (fun _ => True) hw (by simp) hd (fun a w ho hs => by
      obtain ⟨i, zv, hu, hi, _⟩ := slT_spec ht
      have hs' := hS w hs
      obtain ⟨D, hK⟩ := hs'.mem (.here _ _)
      refine ⟨(), w, ?_, hs', trivial⟩
      have hrun := run_append_none (P := P) (ty := ty) (c := b.c) hu hi hK.1
      simp [execOp, resolve, invoke, builtin, ho.ev hx, ho.ev hy, hrun]) (fun _ _ => h v)

/-- append of one element. -/
theorem XL_app1 {α : Type} {enc : α → List Value} {c : Arr α} {y : α} {t e sz by' k : Nat} {z : List Value} {x x' : Operand} {K : Asrt B} {ad : Addr} (hw : Want ops N E g) (hx : ev E x = some (.slice c.oad c.l.length c.c)) (hy : ev E x' = some (.slice (some ad) 1 k)) (ht : slT P t = some (e, sz, by', z))
    (ho1 : Out (row (.slice c.oad c.l.length c.c) e sz c.l.length (c.l.flatMap enc)) S R) (ho2 : Out K S R') (hr : Rd K ad (enc y)) (hl : Nat.beq (enc y).length sz = true) (h1 : (enc y).all (·.oneCell') = true) (h63 : c.l.length + 1 ≤ 9223372036854775807 - 1000) (hby : (c.l.length + 1) * by' ≤ 140737488355328) (hd : Nat.blt d N = true)
    (h : ∀ c2 : Arr α, c2.l = c.l ++ [y] → c2.Own → XL P B A r N ops rest ds ((d, .slice c2.oad c2.l.length c2.c) :: E) (row (.slice c2.oad c2.l.length c2.c) e sz c2.l.length (c2.l.flatMap enc) :: R) Q) :
    XL P B A r N ops (⟨some d, .call { callee := .builtin .append, args := #[x, x'], argTypes := #[t, t] }, ty, pos, aft, g⟩ :: rest) ds E S Q := by
  refine XL_append hw hx hy ht ho1 ho2 hr (by rw [Nat.eq_of_beq_eq_true hl, Nat.one_mul]) (fun u hu => List.all_eq_true.1 h1 u hu) (by unfold maxLen; omega) hby hd (fun v' _ => ?_)
  refine XL_learn (fun w hs => row_arr (l := c.l ++ [y]) (enc := enc) hs (.here _ _) (by simp)) ?_
  rintro ⟨c2, hc2, hown, rfl⟩
  have := h c2 hc2 hown
  rw [show c.l.length + 1 = c2.l.length from by rw [hc2]; simp, show c.l.flatMap enc ++ enc y = c2.l.flatMap enc from by rw [flat_app, hc2]]
  exact this

/-- append of a literal. -/
theorem XL_appl {α : Type} {enc : α → List Value} {c : Arr α} (ys : List α) {t e sz by' k m : Nat} {z : List Value} {x x' : Operand} {K : Asrt B} {ad : Addr} (hw : Want ops N E g) (hx : ev E x = some (.slice c.oad c.l.length c.c)) (hy : ev E x' = some (.slice (some ad) m k)) (hm : Nat.beq ys.length m = true) (ht : slT P t = some (e, sz, by', z))
    (ho1 : Out (row (.slice c.oad c.l.length c.c) e sz c.l.length (c.l.flatMap enc)) S R) (ho2 : Out K S R') (hr : Rd K ad (ys.flatMap enc)) (he : ∀ a, (enc a).length = sz) (h1 : ∀ a, (enc a).all (·.oneCell') = true) (h63 : c.l.length + m ≤ 9223372036854775807 - 1000) (hby : (c.l.length + m) * by' ≤ 140737488355328) (hd : Nat.blt d N = true)
    (h : ∀ c2 : Arr α, c2.l = c.l ++ ys → c2.Own → XL P B A r N ops rest ds ((d, .slice c2.oad c2.l.length c2.c) :: E) (row (.slice c2.oad c2.l.length c2.c) e sz c2.l.length (c2.l.flatMap enc) :: R) Q) :
    XL P B A r N ops (⟨some d, .call { callee := .builtin .append, args := #[x, x'], argTypes := #[t, t] }, ty, pos, aft, g⟩ :: rest) ds E S Q := by
  obtain rfl := Nat.eq_of_beq_eq_true hm
  refine XL_append hw hx hy ht ho1 ho2 hr (by rw [flat_len he]) (fun u hu => by
      obtain ⟨a, _, ha⟩ := List.mem_flatMap.1 hu
      exact List.all_eq_true.1 (h1 a) u ha) (by unfold maxLen; omega) hby hd (fun v' _ => ?_)
  refine XL_learn (fun w hs => row_arr (l := c.l ++ ys) (enc := enc) hs (.here _ _) (by simp)) ?_
  rintro ⟨c2, hc2, hown, rfl⟩
  have := h c2 hc2 hown
  rw [show c.l.length + ys.length = c2.l.length from by rw [hc2]; simp, show c.l.flatMap enc ++ ys.flatMap enc = c2.l.flatMap enc from by rw [hc2, List.flatMap_append]]
  exact this

/-- append of a slice. -/
theorem XL_appa {α : Type} {enc : α → List Value} {c b : Arr α} {t e sz by' : Nat} {z : List Value} {x x' : Operand} {K : Asrt B} (hw : Want ops N E g) (hx : ev E x = some (.slice c.oad c.l.length c.c)) (hy : ev E x' = some (.slice b.oad b.l.length b.c)) (ht : slT P t = some (e, sz, by', z))
    (ho1 : Out (row (.slice c.oad c.l.length c.c) e sz c.l.length (c.l.flatMap enc)) S R) (ho2 : Out K S R') (hr : Rd K b.ad (b.l.flatMap enc)) (he : ∀ a, (enc a).length = sz) (h1 : ∀ a, (enc a).all (·.oneCell') = true) (h63 : c.l.length + b.l.length ≤ 9223372036854775807 - 1000) (hby : (c.l.length + b.l.length) * by' ≤ 140737488355328) (hd : Nat.blt d N = true)
    (h : ∀ c2 : Arr α, c2.l = c.l ++ b.l → c2.Own → XL P B A r N ops rest ds ((d, .slice c2.oad c2.l.length c2.c) :: E) (row (.slice c2.oad c2.l.length c2.c) e sz c2.l.length (c2.l.flatMap enc) :: R) Q) :
    XL P B A r N ops (⟨some d, .call { callee := .builtin .append, args := #[x, x'], argTypes := #[t, t] }, ty, pos, aft, g⟩ :: rest) ds E S Q := by
  refine XL_appenda hw hx hy ht ho1 ho2 hr he h1 (by unfold maxLen; omega) hby hd (fun v' => ?_)
  refine XL_learn (fun w hs => row_arr (l := c.l ++ b.l) (enc := enc) hs (.here _ _) (by simp)) ?_
  rintro ⟨c2, hc2, hown, rfl⟩
  have := h c2 hc2 hown
  rw [show c.l.length + b.l.length = c2.l.length from by rw [hc2]; simp, show c.l.flatMap enc ++ b.l.flatMap enc = c2.l.flatMap enc from by rw [hc2, List.flatMap_append]]
  exact this

/-- The empty literal, as an array. -/
theorem XL_bslicea {α : Type} (enc : α → List Value) {t e sz by' : Nat} {z : List Value} (hw : Want ops N E g) (ht : slT P t = some (e, sz, by', z)) (hd : Nat.blt d N = true)
    (h : ∀ c : Arr α, c.l = [] → c.Own → XL P B A r N ops rest ds ((d, .slice c.oad c.l.length c.c) :: E) (row (.slice c.oad c.l.length c.c) e sz c.l.length (c.l.flatMap enc) :: S) Q) : XL P B A r N ops (⟨some d, .buildSlice t 0 #[], ty, pos, aft, g⟩ :: rest) ds E S Q :=
  XL_bslice0 hw ht hd fun b => h (Arr.lit b [] (by simp)) rfl Arr.lit_own

/-- A call in a region that draws: what it is lent lies beside K; S2 is told. -/
theorem XO_callc {n : Nat} {listed : Array Bool} {i : Nat} {K : List (Asrt B)} {f : FuncId} {xs : List Operand} {args : List Value} {ats : Array TypeId} {pre F Z : List (Asrt B)} {post : Value → List (Asrt B) → Prop}
    (hi : ops[i]? = some ⟨some d, .call { callee := .value (.func f), args := xs.toArray, argTypes := ats }, ty, pos, aft, g⟩) (hw : Want ops N E g) (he : Go.Proofs.Enters P f) (ha : evs E xs = some args) (hZ : App K S Z) (hf : Ctr P B f args pre post) (ht : Take pre Z F) (hd : Nat.blt d N = true)
    (h : ∀ v S', post v S' → ∃ S2 Z2 R, App K S2 Z2 ∧ Take Z2 (S' ++ F) R ∧ XA ku P B A r N ops K n (listed.setIfInBounds i true) ds ((d, v) :: E) S2 Q) : XO ku P B A r N ops K n listed i ds E S Q :=
  XO_call hi hw he ha hf (by rw [hZ.eq]; exact ht) hd fun v S' hp => by
    obtain ⟨S2, Z2, R, h1, h2, h3⟩ := h v S' hp
    exact ⟨S2, ⟨R, by rw [h1.eq]; exact h2⟩, h3⟩

/-- A part of an element. -/
theorem D_elp {α : Type} {enc : α → List Value} {sz : Nat} (he : ∀ a, (enc a).length = sz) {K : Asrt B} {ad : Addr} {l : List α} {t i k n : Nat} {a : α} {x : Operand} {vs : List Value} (hx : ev E x = some (.pointer (some (ad.add (i * sz + k))))) (ho' : Out K S R) (hr : Rd K ad (l.flatMap enc)) (ht : tyK P t = some (true, n))
    (hi : l[i]? = some a) (hn : Nat.ble (k + n) sz = true) (hv : ((enc a).drop k).take n = vs) : Det P B A N ds E S (.load t x) (.agg vs.toArray) :=
  D_lds hx ho' hr ht (Nat.ble_eq_true_of_le (by
    have := (List.getElem?_eq_some_iff.1 hi).1
    have h2 := Nat.le_of_ble_eq_true hn
    have h3 : (i + 1) * sz ≤ l.length * sz := Nat.mul_le_mul_right _ this
    rw [Nat.succ_mul] at h3
    rw [flat_len he]; omega)) (by
    rw [← hv, ← flat_chunk he l i a hi, ← List.drop_drop, List.drop_take, List.take_take]
    have h2 := Nat.le_of_ble_eq_true hn
    rw [Nat.min_eq_left (by omega)])

theorem XO_bslice {n i : Nat} {listed : Array Bool} {K : List (Asrt B)} {t e sz m by' : Nat} {z cs : List Value} {parts : List (Nat × Operand)} {ps : List (Nat × Value)} (hi : ops[i]? = some ⟨some d, .buildSlice t m parts.toArray, ty, pos, aft, g⟩) (hw : Want ops N E g) (hp : evps E parts = some ps) (ht : slT P t = some (e, sz, by', z))
    (hsm : m * sz ≤ 16777216) (hpos : 0 < m) (hcs : cs.length = m * sz) (hf : fillL ((List.range m).map fun i => (i * sz, sz)) ((List.range (m * sz)).map (z.toArray[· % z.length]!)) ps = some cs) (hlt : ps.all (fun p => Nat.blt p.1 m) = true) (hd : Nat.blt d N = true)
    (h : ∀ b, XA ku P B A r N ops K n (listed.setIfInBounds i true) ds ((d, .slice (some ⟨b, 0, none⟩) m m) :: E) (blk b cs e :: S) Q) : XO ku P B A r N ops K n listed i ds E S Q := by
  refine XO_op (α := Nat) (fun b => .slice (some ⟨b, 0, none⟩) m m) (fun b => blk b cs e :: S) (fun _ => True) hi hw (by simp) hd (fun a w ho hs => ?_) (fun b _ => h b)
  obtain ⟨inf, zv, hu, hinf, hz, hsz, hbt, hzs, hps, hzl⟩ := slT_spec ht
  have e1 := ho.evps hp
  have hzl' : z.length = zv.cells.size := by rw [← hzl]; simp
  have hza : z.toArray = zv.cells := by rw [← hzl]
  refine ⟨w.heap.size, w.alloc (.cells cs.toArray e), ?_, ?_, trivial⟩
  · have hne : ¬ (16777216 < m * sz) := by omega
    have h0 : m * sz ≠ 0 := by have := Nat.mul_pos hpos hps; omega
    rw [hza, hzl'] at hf
    simp only [execOp, Instr.buildSlice, Sem.run_bind, run_underlying hu, Result.andThen_ok, sizeOf, typeInfo, run_program, hinf, Sem.run_pure, hsz]
    simp only [show (2 : Nat) ^ 24 = 16777216 from rfl, gt_iff_lt, hne, if_false, Sem.run_bind, Sem.run_pure, Result.andThen_ok, h0, zeroValue, typeInfo, run_program, hinf, hz]
    have e2 : (parts.toArray.map fun x => match x with | (i, x) => (i, a.eval x)).toList = ps := by rw [← e1]; simp
    have e3 : Instr.fill (fun i => some (i * sz, sz)) ((Array.range (m * sz)).map fun x => zv.cells[x % zv.cells.size]!) ps = some cs.toArray := by
      have := fillL_spec (place := fun i => some (i * sz, sz)) (fun p hp => by have := List.all_eq_true.1 hlt p hp; simp at this; simp [this]) hf
      rw [← this]
      congr 1
      apply Array.ext'
      simp [Array.toList_range]
    simp only [e2, e3, newRow, Sem.run_bind, run_newObj_alloc, Result.andThen_ok, Sem.run_pure]
  · have h1 : St B A ([blk w.heap.size cs e] ++ (K ++ S)) (w.alloc (.cells cs.toArray e)) := by simpa using hs.new (.cells cs.toArray e)
    simpa using h1.mid

theorem XA_three {n : Nat} {listed : Array Bool} {K : List (Asrt B)} (i j k : Nat) (hr : Region.ready .any ops listed = [i, j, k]) (h1 : XO ku P B A r N ops K n listed i ds E S Q) (h2 : XO ku P B A r N ops K n listed j ds E S Q) (h3 : XO ku P B A r N ops K n listed k ds E S Q) : XA ku P B A r N ops K (n + 1) listed ds E S Q :=
  XA_all [i, j, k] hr rfl (fun l hl => by
    have hl' : l = i ∨ l = j ∨ l = k := by simpa using hl
    rcases hl' with e | e | e
    · rw [e]; exact h1
    · rw [e]; exact h2
    · rw [e]; exact h3)
theorem XA_four {n : Nat} {listed : Array Bool} {K : List (Asrt B)} (i j k m : Nat) (hr : Region.ready .any ops listed = [i, j, k, m]) (h1 : XO ku P B A r N ops K n listed i ds E S Q) (h2 : XO ku P B A r N ops K n listed j ds E S Q) (h3 : XO ku P B A r N ops K n listed k ds E S Q) (h4 : XO ku P B A r N ops K n listed m ds E S Q) : XA ku P B A r N ops K (n + 1) listed ds E S Q :=
  XA_all [i, j, k, m] hr rfl (fun l hl => by
    have hl' : l = i ∨ l = j ∨ l = k ∨ l = m := by simpa using hl
    rcases hl' with e | e | e | e
    · rw [e]; exact h1
    · rw [e]; exact h2
    · rw [e]; exact h3
    · rw [e]; exact h4)

/-! ### Operations without memory in a region that draws -/

/-- An operation that yields this value whatever the memory holds. -/
def DetP (P : Program) (N : Nat) (ds : List Nat) (E : Env) (op : Op) (v : Value) : Prop :=
  (∀ c, op ≠ .defer c) ∧ (∀ cs b, op ≠ .select cs b) ∧ ∀ a w ty pos aft g d, Ok N ds E a → (execOp a.eval ⟨d, op, ty, pos, aft, g⟩).run P w = .ok (.value v) w
theorem D_pureP {op : Op} {v : Value} (hp : pureOp E op = some v) : DetP P N ds E op v :=
  ⟨by rintro c rfl; simp [pureOp] at hp, by rintro cs b rfl; simp [pureOp] at hp, fun a w ty pos aft g d ho => run_pure hp ho⟩

theorem wpAV_firstP {Inv : World → Prop} {Q : Exit → Act → World → Prop} {i : Nat} {oi : Oper} {v : Value} (hi : ops[i]? = some oi) (hdi : oi.dst.isSome = true) (hds : noDS ops = true) (hQ : ∀ c a w, ¬ Q (.panic c) a w) :
    ∀ (fuel : Nat) (listed : Array Bool) (a : Act) (w : World),
      (∀ j oj, ops[j]? = some oj → j ≠ i → listed.getD j true = false → (∀ e ∈ oj.after, Region.binds .any e = true → e.on ≠ i) → oi.apart ops oj = true) →
      i ∈ Region.ready .any ops listed → YV (fun _ => True) P ops oi v a →
      wpAV ku Inv r P ops Q fuel (listed.setIfInBounds i true) (a.put oi.dst v) w → wpAV ku Inv r P ops Q (fuel + 1) listed a w := by
  intro fuel
  induction fuel with
  | zero =>
    intro listed a w hfree hr hy H
    refine ⟨fun hno => H.inv (by rw [Bool.or_eq_true] at hno; rcases hno with h | h; simp [h]; rw [nost_set h hi hdi]; simp), fun h => (by rw [h] at hr; cases hr), fun j hj => ?_⟩
    by_cases hji : j = i
    · subst hji; exact hy.op (noDS_spec hds hi).1 hi trivial H
    · have := ready_mono hj hji
      rw [H.2.1] at this
      cases this
  | succ fuel ih =>
    intro listed a w hfree hr hy H
    refine ⟨fun hno => H.inv (by rw [Bool.or_eq_true] at hno; rcases hno with h | h; simp [h]; rw [nost_set h hi hdi]; simp), fun h => (by rw [h] at hr; cases hr), fun j hj => ?_⟩
    by_cases hji : j = i
    · subst hji; exact hy.op (noDS_spec hds hi).1 hi trivial H
    · have h1 := H.2.2 j (ready_mono hj hji)
      obtain ⟨hjun, oj, hoj, hall⟩ := mem_ready.1 hj
      have hnot : ∀ e ∈ oj.after, Region.binds .any e = true → e.on ≠ i := fun e he hb heq => by
        have h1 := hall e he hb
        have h0 := (mem_ready.1 hr).1
        rw [heq] at h1
        rcases Nat.lt_or_ge i listed.size with h' | h'
        · simp [h'] at h0 h1; rw [h0] at h1; cases h1
        · simp [Array.getElem?_eq_none h'] at h1
      have h2 := wpOpIn_putV hoj (hfree j oj hoj hji hjun hnot) (noDS_spec hds hi) (noDS_spec hds hoj) hQ hy h1
      have hfree' : ∀ k ok, ops[k]? = some ok → k ≠ i → (listed.setIfInBounds j true).getD k true = false →
          (∀ e ∈ ok.after, Region.binds .any e = true → e.on ≠ i) → oi.apart ops ok = true := fun k ok hk hki hun hno => by
        refine hfree k ok hk hki ?_ hno
        by_cases hjk : j = k
        · subst hjk; exact hjun
        · rw [getD_set_ne true hjk] at hun; exact hun
      refine wpOpIn_mono (fun a' w' h3 => ih (listed.setIfInBounds j true) a' w' hfree' (ready_mono hr (Ne.symm hji)) h3.1 ?_) h2
      rw [Array.setIfInBounds_comm _ _ hji]
      exact h3.2

theorem XA_detp {n : Nat} {listed : Array Bool} {K : List (Asrt B)} {v : Value} (i : Nat) (hi : ops[i]? = some ⟨some d, op, ty, pos, aft, g⟩) (hds : noDS ops = true)
    (hf : Region.free .any ops listed i = true) (hr : (Region.ready .any ops listed).contains i = true) (hQ : ∀ c ds E S, ¬ Q (.panic c) ds E S) (hw : Want ops N E g) (hp : DetP P N ds E op v) (hd : Nat.blt d N = true)
    (h : XA ku P B A r N ops K n (listed.setIfInBounds i true) ds ((d, v) :: E) S Q) : XA ku P B A r N ops K (n + 1) listed ds E S Q := by
  intro a w ho hs
  refine wpAV_firstP hi rfl hds (fun c a w ⟨ds, E, S, _, _, q⟩ => hQ c ds E S q) n listed a w (Region.free_spec hi hf) (by simpa using hr) (.inl ⟨Want.wanted (o := ⟨some d, op, ty, pos, aft, g⟩) hw ho, fun w _ => hp.2.2 a w ty pos aft g (some d) ho⟩) ?_
  exact h _ w (ho.put (by simpa using hd)) hs

theorem XA_skipp {n : Nat} {listed : Array Bool} {K : List (Asrt B)} {j : Nat} {b b' : Bool} (i : Nat) (t : Nat) (hi : ops[i]? = some ⟨some d, op, ty, pos, aft, some (j, b)⟩) (hds : noDS ops = true)
    (hf : Region.free .any ops listed i = true) (hr : (Region.ready .any ops listed).contains i = true) (hQ : ∀ c ds E S, ¬ Q (.panic c) ds E S) (h1 : (ops[j]?).bind (·.dst) = some t) (h2 : Nat.blt t N = true) (h3 : E.get t = some (.bool b')) (hb : b' = !b) (hd : Nat.blt d N = true)
    (h : XA ku P B A r N ops K n (listed.setIfInBounds i true) ds ((d, undef) :: E) S Q) : XA ku P B A r N ops K (n + 1) listed ds E S Q := by
  intro a w ho hs
  have hy := yielded_of (ops := ops) h1 (by simpa using h2) h3 ho
  refine wpAV_firstP hi rfl hds (fun c a w ⟨ds, E, S, _, _, q⟩ => hQ c ds E S q) n listed a w (Region.free_spec hi hf) (by simpa using hr) (.inr ⟨by simp only [Region.wanted, hy]; subst hb; cases b <;> rfl, rfl⟩) ?_
  exact h _ w (ho.put (by simpa using hd)) hs

/-! ### What may be had twice; arrays as values -/

/-- An assertion without blocks of its own. -/
def Dup (K : Asrt B) : Prop := ∀ D w, K.holds D w → ∀ k, ¬ D k
theorem old_dup (W : World) : Dup (old (B := B) W) := fun D w h => h.1
theorem Sts.dup {K : Asrt B} {D : Nat → Prop} {w : World} (h : Sts S D w) (ho : Out K S R) (hd : Dup K) : Sts (K :: S) D w := by
  obtain ⟨D1, D2, hD, hdj, hK, hR⟩ := ho.sts h
  refine ⟨D1, D, fun k => ⟨.inr, fun h => h.elim (fun h => (hd _ _ hK k h).elim) id⟩, fun k h1 _ => hd _ _ hK k h1, hK, h⟩
theorem St.dup {K : Asrt B} {w : World} (h : St B A S w) (ho : Out K S R) (hd : Dup K) : St B A (K :: S) w := by
  obtain ⟨D, h1, h2⟩ := h
  exact ⟨D, h1.dup ho hd, h2⟩
theorem X_dup {K : Asrt B} {c : Code} (hd : Dup K) (ho : Out K S R) (h : X P B A r N c ds E (K :: S) Q) : X P B A r N c ds E S Q := fun a w hok hs => h a w hok (hs.dup ho hd)
theorem XL_dup {K : Asrt B} {l : List Oper} (hd : Dup K) (ho : Out K S R) (h : XL P B A r N ops l ds E (K :: S) Q) : XL P B A r N ops l ds E S Q := fun a w hok hs => h a w hok (hs.dup ho hd)

/-- An array of plain elements. -/
def arr1 (P : Program) (t : Nat) : Option Nat := match P.underlying t with
  | some (.array n e) => match P.info? e with
    | some i => if i.size = 1 ∧ (isAggB P e = false) ∧ (P.underlying e).isSome then some n else none
    | none => none
  | _ => none
theorem D_idxagg {t n j : Nat} {x y : Operand} {cs : List Value} {k : IntKind} {m : Int} {v : Value} (hx : ev E x = some (.agg cs.toArray)) (hy : ev E y = some (.int k m)) (ht : arr1 P t = some n) (hm : m = (j : Int)) (hj : j < n) (hv : cs[j]? = some v) : Det P B A N ds E S (.index t x y) v :=
  ⟨by simp, by simp, fun a w ty pos aft g d ho hs => by
    unfold arr1 at ht
    split at ht
    · rename_i n' e hu
      split at ht
      · rename_i i hi
        split at ht
        · rename_i hc
          simp at ht; subst ht hm
          obtain ⟨dsc, hde⟩ := Option.isSome_iff_exists.1 hc.2.2
          have h1 : cs[j]? = some v := hv
          simp [execOp, ho.ev hx, ho.ev hy, Instr.index, asIntOf, run_underlying hu, hj, sizeOf, typeInfo, hi, hc.1, part, isAgg_run hde, hc.2.1, h1]
        · cases ht
      · cases ht
    · cases ht⟩

/-- An element of an array within an element. -/
theorem D_idxAA {t n sz j k k' : Nat} {ad : Addr} {x i : Operand} {kd : IntKind} {m : Int} (hx : ev E x = some (.pointer (some (ad.add k)))) (hi : ev E i = some (.int kd m)) (ht : arrOf P t = some (n, sz))
    (hm : m = (j : Int)) (hj : j < n) (hk' : k + j * sz = k') : Det P B A N ds E S (.indexAddr t x i) (.pointer (some (ad.add k'))) :=
  ⟨by simp, by simp, fun a w ty pos aft g d ho hs => by
    obtain ⟨e, inf, hu, hinf, hsz, hn⟩ := arrOf_spec ht
    subst hm hsz hk'
    simp [execOp, ho.ev hx, ho.ev hi, Instr.indexAt, asIntOf, run_underlying hu, Instr.sureAddr, sizeOf, typeInfo, hinf, Nat.not_le.2 hj, addr_add_add]⟩

/-! ### Pointers and nil -/

def isPtrT (P : Program) (t : Nat) : Bool := match P.underlying t with
  | some (.pointer _) => true
  | _ => false
theorem run_equal_ptr {t : Nat} {p : Option Addr} (ht : isPtrT P t = true) (w : World) : ∀ d, (Op.equalIn (d + 1) t (.pointer p) (.pointer none)).run P w = .ok p.isNone w := by
  intro d
  unfold isPtrT at ht
  unfold Op.equalIn
  split at ht
  · rename_i hu
    cases p <;> simp [run_underlying hu]
  · cases ht
theorem D_ptrnil {t t' : Nat} {x y : Operand} {p : Option Addr} {b : Bool} {bo : BinOp} (hx : ev E x = some (.pointer p)) (hy : ev E y = some (.pointer none)) (ht : isPtrT P t = true) (hb : (match bo with | .eql => p.isNone = b | .neq => (!p.isNone) = b | _ => False)) : Det P B A N ds E S (.binOp bo t x y t') (.bool b) :=
  ⟨by simp, by simp, fun a w ty pos aft g d ho hs => by
    have e := run_equal_ptr (P := P) (p := p) ht w 9999
    cases bo <;> simp only at hb <;> subst hb
    · simp [execOp, ho.ev hx, ho.ev hy, eqGuard, binOp, Op.equal, Op.maxDepth, e]
    · simp [execOp, ho.ev hx, ho.ev hy, eqGuard, binOp, Op.equal, Op.maxDepth, e]⟩

theorem res_tmp3 {fn : Func} {t u x : Nat} {v1 v2 v3 : Value} {T : World → Prop} (h : fn.results = #[.tmp t, .tmp u, .tmp x]) (h1 : E.get t = some v1) (h2 : E.get u = some v2) (h3 : E.get x = some v3) :
    ∀ a w, Ok N ds E a → T w → (results fn a.tmps).run P w = .ok (.tuple #[v1, v2, v3]) w := by
  intro a w ho _
  have e1 : a.tmps[t]?.getD undef = v1 := by have := ho.get t _ h1; simpa [Array.getD_eq_getD_getElem?] using this
  have e2 : a.tmps[u]?.getD undef = v2 := by have := ho.get u _ h2; simpa [Array.getD_eq_getD_getElem?] using this
  have e3 : a.tmps[x]?.getD undef = v3 := by have := ho.get x _ h3; simpa [Array.getD_eq_getD_getElem?] using this
  simp [results, h, e1, e2, e3]
theorem res_celltmp2 {fn : Func} {p t b n q q2 : Nat} {cs : List Value} {te : TypeId} {S1 : List (Asrt B)} {v v2 : Value} (h : fn.results = #[.cell p t, .tmp q, .tmp q2]) (hp : E.get p = some (.pointer (some ⟨b, 0, none⟩))) (ho : Out (blk b cs te) S S1) (ht : tyK P t = some (true, n)) (hn : cs.length = n) (hq : E.get q = some v) (hq2 : E.get q2 = some v2) :
    ∀ a w, Ok N ds E a → St B A S w → (results fn a.tmps).run P w = .ok (.tuple #[.agg cs.toArray, v, v2]) w := by
  intro a w hok hs
  obtain ⟨D, hK⟩ := hs.mem ho
  have hl := run_loadN (P := P) (w := w) (p := ⟨b, 0, none⟩) (vs := cs) ht hn (fun k hk => Rd_obj D w hK k (by omega))
  simp only [Instr.loadAt, Instr.sureAddr, Sem.run_bind, Sem.run_pure, Result.andThen_ok] at hl
  have hp' : a.tmps[p]?.getD undef = .pointer (some ⟨b, 0, none⟩) := by have := hok.get p _ hp; simpa [Array.getD_eq_getD_getElem?] using this
  have hq' : a.tmps[q]?.getD undef = v := by have := hok.get q _ hq; simpa [Array.getD_eq_getD_getElem?] using this
  have hq2' : a.tmps[q2]?.getD undef = v2 := by have := hok.get q2 _ hq2; simpa [Array.getD_eq_getD_getElem?] using this
  simp [results, h, hp', hq', hq2', asAddr, hl]
theorem res_celltmp3 {fn : Func} {p t b n q q2 q3 : Nat} {cs : List Value} {te : TypeId} {S1 : List (Asrt B)} {v v2 v3 : Value} (h : fn.results = #[.cell p t, .tmp q, .tmp q2, .tmp q3]) (hp : E.get p = some (.pointer (some ⟨b, 0, none⟩))) (ho : Out (blk b cs te) S S1) (ht : tyK P t = some (true, n)) (hn : cs.length = n) (hq : E.get q = some v) (hq2 : E.get q2 = some v2) (hq3 : E.get q3 = some v3) :
    ∀ a w, Ok N ds E a → St B A S w → (results fn a.tmps).run P w = .ok (.tuple #[.agg cs.toArray, v, v2, v3]) w := by
  intro a w hok hs
  obtain ⟨D, hK⟩ := hs.mem ho
  have hl := run_loadN (P := P) (w := w) (p := ⟨b, 0, none⟩) (vs := cs) ht hn (fun k hk => Rd_obj D w hK k (by omega))
  simp only [Instr.loadAt, Instr.sureAddr, Sem.run_bind, Sem.run_pure, Result.andThen_ok] at hl
  have hp' : a.tmps[p]?.getD undef = .pointer (some ⟨b, 0, none⟩) := by have := hok.get p _ hp; simpa [Array.getD_eq_getD_getElem?] using this
  have hq' : a.tmps[q]?.getD undef = v := by have := hok.get q _ hq; simpa [Array.getD_eq_getD_getElem?] using this
  have hq2' : a.tmps[q2]?.getD undef = v2 := by have := hok.get q2 _ hq2; simpa [Array.getD_eq_getD_getElem?] using this
  have hq3' : a.tmps[q3]?.getD undef = v3 := by have := hok.get q3 _ hq3; simpa [Array.getD_eq_getD_getElem?] using this
  simp [results, h, hp', hq', hq2', hq3', asAddr, hl]

/-- Results that are cells. -/
theorem res_cc {fn : Func} {p q t t' b b' : Nat} {v v' : Value} {te te' : TypeId} {S1 S2 : List (Asrt B)} (h : fn.results = #[.cell p t, .cell q t']) (hp : E.get p = some (.pointer (some ⟨b, 0, none⟩))) (hq : E.get q = some (.pointer (some ⟨b', 0, none⟩))) (ho : Out (blk b [v] te) S S1) (ho' : Out (blk b' [v'] te') S S2) (ht : tyK P t = some (false, 1)) (ht' : tyK P t' = some (false, 1)) :
    ∀ a w, Ok N ds E a → St B A S w → (results fn a.tmps).run P w = .ok (.tuple #[v, v']) w := by
  intro a w hok hs
  obtain ⟨D, hK⟩ := hs.mem ho
  obtain ⟨D', hK'⟩ := hs.mem ho'
  have hl := run_load1 (P := P) (w := w) (p := ⟨b, 0, none⟩) ht (v := v) (Rd_obj D w hK 0 (by simp))
  have hl' := run_load1 (P := P) (w := w) (p := ⟨b', 0, none⟩) ht' (v := v') (Rd_obj D' w hK' 0 (by simp))
  simp only [Instr.loadAt, Instr.sureAddr, Sem.run_bind, Sem.run_pure, Result.andThen_ok] at hl hl'
  have hp' : a.tmps[p]?.getD undef = .pointer (some ⟨b, 0, none⟩) := by have := hok.get p _ hp; simpa [Array.getD_eq_getD_getElem?] using this
  have hq' : a.tmps[q]?.getD undef = .pointer (some ⟨b', 0, none⟩) := by have := hok.get q _ hq; simpa [Array.getD_eq_getD_getElem?] using this
  simp [results, h, hp', hq', asAddr, hl, hl']

/-! ### Parts of slices -/

def ob (E : Env) (dflt k : Nat) : Option Operand → Prop
  | none => k = dflt
  | some x => ∃ kd, ev E x = some (.int kd (k : Int))

theorem D_slice {t e sz n c l h m : Nat} {oad : Option Addr} {x : Operand} {lo hi mx : Option Operand} (hx : ev E x = some (.slice oad n c)) (ht : slcOf P t = some (e, sz)) (hlo : ob E 0 l lo) (hhi : ob E n h hi) (hmx : ob E c m mx) (hm : hi = none → mx = none)
    (h1 : l ≤ h) (h2 : h ≤ m) (h3 : m ≤ c) : Det P B A N ds E S (.slice t x lo hi mx) (.slice (if m = l then oad else oad.map (·.add (l * sz))) (h - l) (m - l)) :=
  ⟨by simp, by simp, fun a w ty pos aft g d ho hs => by
    obtain ⟨inf, hu, hinf, hsz⟩ := slcOf_spec ht
    subst hsz
    have key : (Instr.sliceBounds true n c (lo.map a.eval) (hi.map a.eval) (mx.map a.eval)).run P w = .ok (l, h, m) w := by
      cases mx with
      | none =>
        have hm' : m = c := hmx
        subst hm'
        cases hi with
        | none =>
          have : h = n := hhi
          subst this
          cases lo with
          | none => have : l = 0 := hlo; subst this; simp [Instr.sliceBounds]
          | some o => obtain ⟨kd, he⟩ := hlo; simp [Instr.sliceBounds, ho.ev he, run_sliceBound (P := P) (w := w) kd l h _ (by omega) (by omega)]
        | some o' =>
          obtain ⟨kd', he'⟩ := hhi
          cases lo with
          | none => have : l = 0 := hlo; subst this; simp [Instr.sliceBounds, ho.ev he', run_sliceBound (P := P) (w := w) kd' h m _ (by omega) (by omega)]
          | some o => obtain ⟨kd, he⟩ := hlo; simp [Instr.sliceBounds, ho.ev he, ho.ev he', run_sliceBound (P := P) (w := w) kd l h _ (by omega) (by omega), run_sliceBound (P := P) (w := w) kd' h m _ (by omega) (by omega)]
      | some o'' =>
        obtain ⟨kd'', he''⟩ := hmx
        cases hi with
        | none => cases hm rfl
        | some o' =>
          obtain ⟨kd', he'⟩ := hhi
          cases lo with
          | none => have : l = 0 := hlo; subst this; simp [Instr.sliceBounds, ho.ev he', ho.ev he'', run_sliceBound (P := P) (w := w) kd' h m _ (by omega) (by omega), run_sliceBound (P := P) (w := w) kd'' m c _ (by omega) (by omega)]
          | some o => obtain ⟨kd, he⟩ := hlo; simp [Instr.sliceBounds, ho.ev he, ho.ev he', ho.ev he'', run_sliceBound (P := P) (w := w) kd l h _ (by omega) (by omega), run_sliceBound (P := P) (w := w) kd' h m _ (by omega) (by omega), run_sliceBound (P := P) (w := w) kd'' m c _ (by omega) (by omega)]
    simp [execOp, ho.ev hx, Instr.sliceAt, Instr.slice, run_underlying hu, key, sizeOf, typeInfo, hinf]⟩

/-- A part. -/
def Arr.cut {α : Type} (a : Arr α) (sz l h m : Nat) (h1 : l ≤ h) (h2 : h ≤ a.l.length) (h3 : h ≤ m) : Arr α where
  oad := if m = l then a.oad else a.oad.map (·.add (l * sz))
  c := m - l
  l := (a.l.drop l).take (h - l)
  nil := fun e => by
    have : a.oad = none := by
      split at e
      · exact e
      · simpa using e
    rw [a.nil this]; simp
  small := by have := a.small; simp; omega
  cap := by simp; omega

theorem D_slicea {α : Type} {a : Arr α} {t e sz l h m : Nat} {x : Operand} {lo hi mx : Option Operand} (hx : ev E x = some (.slice a.oad a.l.length a.c)) (ht : slcOf P t = some (e, sz)) (hlo : ob E 0 l lo) (hhi : ob E a.l.length h hi) (hmx : ob E a.c m mx) (hm : hi = none → mx = none)
    (h1 : l ≤ h) (h2 : h ≤ a.l.length) (h3 : h ≤ m) (h4 : m ≤ a.c) : Det P B A N ds E S (.slice t x lo hi mx) (a.cut sz l h m h1 h2 h3).v := by
  have := D_slice (P := P) (A := A) (N := N) (ds := ds) (S := S) hx ht hlo hhi hmx hm h1 h3 h4
  have e : (a.cut sz l h m h1 h2 h3).l.length = h - l := by simp [Arr.cut]; omega
  unfold Arr.v
  rw [e]; exact this

theorem Rd_cut {α : Type} {enc : α → List Value} {a : Arr α} {K : Asrt B} {sz l h m : Nat} {h1 : l ≤ h} {h2 : h ≤ a.l.length} {h3 : h ≤ m} (he : ∀ a, (enc a).length = sz) (hr : Rd K a.ad (a.l.flatMap enc)) : Rd K (a.cut sz l h m h1 h2 h3).ad ((a.cut sz l h m h1 h2 h3).l.flatMap enc) := by
  intro D w hK k hk
  rw [flat_len he] at hk
  have hlen : (a.cut sz l h m h1 h2 h3).l.length = h - l := by simp [Arr.cut]; omega
  rw [hlen] at hk
  have hlt : l < h := by
    rcases Nat.lt_or_ge l h with h' | h'
    · exact h'
    · rw [Nat.sub_eq_zero_of_le h'] at hk; simp at hk
  have hml : m ≠ l := by omega
  have hne : a.oad ≠ none := fun e => by have := a.nil e; rw [this] at h2; simp at h2; omega
  obtain ⟨ad, had⟩ := Option.ne_none_iff_exists'.1 hne
  have e1 : (a.cut sz l h m h1 h2 h3).ad = a.ad.add (l * sz) := by simp [Arr.cut, Arr.ad, hml, had]
  have hs : (h - l) * sz + l * sz = h * sz := by rw [← Nat.add_mul]; congr 1; omega
  have hs2 : h * sz ≤ a.l.length * sz := Nat.mul_le_mul_right _ h2
  have := hr D w hK (l * sz + k) (by rw [flat_len he]; omega)
  rw [e1, addr_add_add, this]
  have key : (a.l.flatMap enc) = (a.l.take l).flatMap enc ++ ((a.l.drop l).take (h - l)).flatMap enc ++ (a.l.drop h).flatMap enc := by
    rw [← List.flatMap_append, ← List.flatMap_append]
    congr 1
    conv => lhs; rw [← List.take_append_drop l a.l, ← List.take_append_drop (h - l) (a.l.drop l), List.drop_drop]
    rw [show l + (h - l) = h by omega, List.append_assoc]
  have h4 : ((a.l.take l).flatMap enc).length = l * sz := by rw [flat_len he, List.length_take, Nat.min_eq_left (by omega)]
  have h5 : (((a.l.drop l).take (h - l)).flatMap enc).length = (h - l) * sz := by rw [flat_len he, List.length_take, List.length_drop, Nat.min_eq_left (by omega)]
  rw [key, List.append_assoc, List.getElem?_append_right (by omega), h4, Nat.add_sub_cancel_left, List.getElem?_append_left (by omega)]
  rfl

end Go.Sl
end

section
/- Texts: rows of bytes, put together, compared, made of a row; stores into a row of one's own. -/
namespace Go.Sl
open Go
set_option linter.unusedVariables false
variable {ku : Bool} {P : Program} {B : Nat} {A : Amb} {r : Option Nat} {N : Nat} {ds : List Nat} {E E' : Env} {S R L F : List (Asrt B)} {Q Q' : P4 B} {ops : Array Oper} {rest : List Oper}
variable {d : Nat} {op : Op} {ty : TypeId} {pos : String} {aft : Array Edge} {g : Option (Nat × Bool)} {v : Value} {w w' : World}

abbrev str (l : List UInt8) : Value := .string ⟨l.toArray⟩
abbrev encB (b : UInt8) : List Value := [.int .u8 (b.toNat : Int)]

theorem bytes_app (a b : List UInt8) : (⟨a.toArray⟩ : ByteArray) ++ ⟨b.toArray⟩ = ⟨(a ++ b).toArray⟩ := by
  apply ByteArray.ext; rw [ByteArray.data_append]; simp
theorem bytes_loop (bs : ByteArray) : ∀ (n i : Nat) (r : List UInt8), bs.size - i = n → ByteArray.toList.loop bs i r = r.reverse ++ bs.data.toList.drop i
  | 0, i, r, h => by
    rw [ByteArray.toList.loop, if_neg (by omega), List.drop_eq_nil_of_le (by have : bs.size = bs.data.size := rfl; simp; omega), List.append_nil]
  | n + 1, i, r, h => by
    have hs : bs.size = bs.data.size := rfl
    have hi : i < bs.data.toList.length := by simp; omega
    rw [ByteArray.toList.loop, if_pos (by omega), bytes_loop bs n (i + 1) _ (by omega), List.drop_eq_getElem_cons hi, List.reverse_cons, List.append_assoc]
    have hi' : i < bs.data.size := by omega
    have e : bs.get! i = bs.data.toList[i] := by show bs.data[i]! = _; rw [getElem!_pos bs.data i hi']; simp
    rw [e]; simp
theorem bytes_list (l : List UInt8) : ByteArray.toList ⟨l.toArray⟩ = l := by
  rw [ByteArray.toList, bytes_loop _ _ 0 [] rfl]; simp

theorem D_scat {x y : Operand} {t t' : Nat} {a b : List UInt8} (hx : ev E x = some (str a)) (hy : ev E y = some (str b)) (h : a.length + b.length ≤ 9223372036854775807) : Det P B A N ds E S (.binOp .add t x y t') (str (a ++ b)) :=
  ⟨by simp, by simp, fun ac w ty pos aft g d ho hs => by
    have h1 : ¬ (((⟨a.toArray⟩ : ByteArray).size + (⟨b.toArray⟩ : ByteArray).size : Nat) : Int) > IntKind.i64.max := by
      show ¬ (((a.toArray.size + b.toArray.size : Nat) : Int) > 9223372036854775807)
      simp; omega
    simp only [execOp, ho.ev hx, ho.ev hy]
    have h2 : ((⟨a.toArray⟩ : ByteArray).size : Int) = a.length := by show ((a.toArray.size : Nat) : Int) = _; simp
    have h3 : ((⟨b.toArray⟩ : ByteArray).size : Int) = b.length := by show ((b.toArray.size : Nat) : Int) = _; simp
    simp [eqGuard, binOp, Op.stringOp, bytes_app, h2, h3]
    omega⟩
theorem D_seq {x y : Operand} {t t' : Nat} {a b : List UInt8} {q : Bool} {bo : BinOp} (hx : ev E x = some (str a)) (hy : ev E y = some (str b)) (hq : (match bo with | .eql => (a == b) = q | .neq => (!(a == b)) = q | _ => False)) : Det P B A N ds E S (.binOp bo t x y t') (.bool q) :=
  ⟨by simp, by simp, fun ac w ty pos aft g d ho hs => by
    cases bo <;> simp only at hq <;> subst hq
    · simp [execOp, ho.ev hx, ho.ev hy, eqGuard, binOp, Op.stringOp, bytes_list]
    · simp [execOp, ho.ev hx, ho.ev hy, eqGuard, binOp, Op.stringOp, bytes_list]⟩

/-- The types of a conversion of bytes to a text. -/
def bstr (P : Program) (s t : Nat) : Bool := match P.underlying s, P.underlying t with
  | some (.slice e), some .string => (match P.underlying e with | some (.int .u8) => true | _ => false)
  | _, _ => false
theorem flat_map1 : ∀ l : List UInt8, l.flatMap encB = l.map fun b => Value.int .u8 (b.toNat : Int)
  | [] => rfl
  | b :: l => by rw [List.flatMap_cons, flat_map1 l]; rfl
theorem D_bstr {x : Operand} {s t : Nat} {a : Arr UInt8} {l : List UInt8} {K : Asrt B} (hx : ev E x = some (.slice a.oad a.l.length a.c)) (ho' : Out K S R) (hr : Rd K a.ad (l.flatMap encB)) (hl : l.length = a.l.length) (ht : bstr P s t = true) : Det P B A N ds E S (.convert s t x) (str l) :=
  ⟨by simp, by simp, fun ac w ty pos aft g d ho hs => by
    obtain ⟨D, hK⟩ := hs.mem ho'
    have hc := hr D w hK
    unfold bstr at ht
    split at ht
    · rename_i e hu hu2
      split at ht
      · rename_i hu3
        have hval : (convert s t (.slice a.oad a.l.length a.c)).run P w = .ok (str l) w := by
          cases hoad : a.oad with
          | none =>
            have : l = [] := List.length_eq_zero_iff.1 (by rw [hl, a.nil hoad]; rfl)
            subst this
            exact run_convert_bytes_nil w s e hu hu3 _ _ t hu2
          | some ad =>
            have had : a.ad = ad := by simp [Arr.ad, hoad]
            rw [had] at hc
            have hfl : l.flatMap encB = l.map fun b => Value.int .u8 (b.toNat : Int) := flat_map1 l
            rw [hfl] at hc
            have hld : (loadCells ad a.l.length).run P w = .ok ((l.map fun b => (b.toNat : Int)).map (Value.int .u8)).toArray w := by
              have := run_loadCells_list (P := P) w ad (l.map fun b => Value.int .u8 (b.toNat : Int)) (fun j v hj => by
                rw [hc j (List.getElem?_eq_some_iff.1 hj).1]; exact hj)
              rw [List.map_map]
              simpa [hl, Function.comp_def] using this
            rw [run_convert_bytes_string w s t e _ _ _ hu hu3 hu2, run_bytesToString w _ _ _ _ hld, foldl_push_bytes]
            have : (l.map fun b => (b.toNat : Int)).map (fun n => UInt8.ofNat n.toNat) = l := by
              rw [List.map_map]; conv => rhs; rw [← List.map_id l]
              apply List.map_congr_left; intro b _; simp
            rw [this]; simp [ByteArray.empty, ByteArray.emptyWithCapacity]; rfl
        simp [execOp, ho.ev hx, hval]
      · cases ht
    · cases ht⟩

/-! ### Stores into a row -/

theorem St.row_cells {b n c e sz : Nat} {xs : List Value} (h : St B A (row (.slice (some ⟨b, 0, none⟩) n c) e sz n xs :: S) w) :
    ∃ cur : List Value, St B A (blk b cur e :: S) w ∧ xs.length = n * sz ∧ B ≤ b ∧ n ≤ c ∧ c ≤ maxLen ∧ cur.length = c * sz ∧ cur.take (n * sz) = xs := by
  obtain ⟨D, ⟨D1, D2, hD, hd, ⟨⟨h1, h2⟩, h3⟩, hs⟩, hr⟩ := h
  rcases h2 with ⟨h2, _⟩ | ⟨g, cap, cur, hv, hg, hh, hn, hcap, hcur, htk⟩
  · cases h2
  · cases hv
    refine ⟨cur.toList, ⟨D, ⟨D1, D2, hD, hd, ⟨fun k => ?_, hh⟩, hs⟩, hr⟩, h1, hg, hn, hcap, by simpa using hcur, htk⟩
    rw [h3 k]; simp [Value.ownBlock, eq_comm]
theorem St.cells_row {b n c e sz : Nat} {xs cur : List Value} (h : St B A (blk b cur e :: S) w) (h1 : xs.length = n * sz) (hg : B ≤ b) (hn : n ≤ c) (hcap : c ≤ maxLen) (hcur : cur.length = c * sz) (htk : cur.take (n * sz) = xs) :
    St B A (row (.slice (some ⟨b, 0, none⟩) n c) e sz n xs :: S) w := by
  obtain ⟨D, ⟨D1, D2, hD, hd, ⟨h3, hh⟩, hs⟩, hr⟩ := h
  refine ⟨D, ⟨D1, D2, hD, hd, ⟨⟨h1, .inr ⟨b, c, cur.toArray, rfl, hg, hh, hn, hcap, by simpa using hcur, by simpa using htk⟩⟩, fun k => ?_⟩, hs⟩, hr⟩
  rw [h3 k]; simp [Value.ownBlock, eq_comm]

/-- A store of one cell into a row of one's own. -/
theorem F_rst {α : Type} {enc : α → List Value} {oad : Option Addr} {c n : Nat} {xs xs' : List α} {t e i : Nat} {y : α} {x z : Operand} (hown : ∀ ad, oad = some ad → ∃ g, ad = ⟨g, 0, none⟩)
    (hx : ev E x = some (.pointer (some ((oad.getD ⟨0, 0, none⟩).add (i * 1))))) (hy : ev E z = some v) (he : ∀ a, (enc a).length = 1) (hv : enc y = [v]) (h1 : v.oneCell' = true) (ho' : Out (row (.slice oad n c) e 1 n (xs.flatMap enc)) S R) (ht : tyK P t = some (false, 1))
    (hi : i < xs.length) (hs' : xs.set i y = xs') : Eff P B A N ds E S (.store t x z) (row (.slice oad n c) e 1 n (xs'.flatMap enc) :: R) :=
  ⟨by simp, fun a w ty pos aft g ho hs => by
    have hfl : ∀ l : List α, (l.flatMap enc).length = l.length := fun l => by have := flat_len (sz := 1) he (l := l); simpa using this
    have hst : St B A (row (.slice oad n c) e 1 n (xs.flatMap enc) :: R) w := hs.take (.cons ho' (.nil _))
    cases oad with
    | none =>
      obtain ⟨D, ⟨⟨h2, h3⟩, _⟩⟩ := hst.mem (.here _ _)
      rcases h3 with ⟨_, h3⟩ | ⟨g, cap, cur, hv, _⟩
      · rw [hfl] at h2; omega
      · cases hv
    | some ad =>
      obtain ⟨b, rfl⟩ := hown ad rfl
      have hx : ev E x = some (.pointer (some ⟨b, i, none⟩)) := by rw [hx]; simp [add_off]
      obtain ⟨cur, hb, g1, g2, g3, g4, g5, g6⟩ := hst.row_cells
      rw [hfl] at g1
      obtain ⟨D, hobj⟩ := hb.mem (.here _ _)
      refine ⟨w.setCell ⟨b, i, none⟩ v, by simp [execOp, ho.ev hx, ho.ev hy, run_store1 (k := i) h1 ht (by omega) hobj.2], ?_⟩
      refine (hb.store i v).cells_row (by rw [hfl, ← hs', List.length_set]; exact g1) g2 g3 g4 (by simpa using g5) ?_
      have hset : ∀ (l : List α) (i : Nat), i < l.length → (l.flatMap enc).set i v = (l.set i y).flatMap enc := by
        intro l
        induction l with
        | nil => intro i hi; simp at hi
        | cons a l ih =>
          intro i hi
          obtain ⟨u, hu⟩ : ∃ u, enc a = [u] := List.length_eq_one_iff.1 (he a)
          cases i with
          | zero => simp [List.flatMap_cons, hu, hv]
          | succ i => simp [List.flatMap_cons, hu]; exact ih i (by simpa using hi)
      rw [List.take_set, g6, hset xs i hi, hs']⟩
theorem Rd_rowx {α : Type} {enc : α → List Value} {a : Arr α} {xs : List α} {e sz n : Nat} (h : a.Own) (hn : n = a.l.length) (hl : xs.length = a.l.length) : Rd (row (B := B) (.slice a.oad a.l.length a.c) e sz n (xs.flatMap enc)) a.ad (xs.flatMap enc) := by
  subst hn
  cases ho : a.oad with
  | none =>
    have : xs = [] := List.length_eq_zero_iff.1 (by rw [hl, a.nil ho]; rfl)
    subst this; intro D w _ k hk; simp at hk
  | some ad =>
    obtain ⟨g, rfl⟩ := h ad ho
    have : a.ad = ⟨g, 0, none⟩ := by simp [Arr.ad, ho]
    rw [this]
    exact Rd_row

theorem St.blk_own {b : Nat} {cs : List Value} {e : TypeId} (h : St B A (blk b cs e :: S) w) : B ≤ b := by
  obtain ⟨D, ⟨D1, D2, hD, hd, ⟨h3, hh⟩, hs⟩, hr, _⟩ := h
  exact (hr b ((hD b).2 (.inl ((h3 b).2 rfl)))).1
theorem X_blkrow {α : Type} {code : Code} {b e : Nat} (enc : α → List Value) (l : List α) (hl : l.length ≤ 9223372036854775807) (he : ∀ a, (enc a).length = 1) (hm : l.length ≤ maxLen) {cs : List Value} (hcs : l.flatMap enc = cs) (ho : Out (blk b cs e) S R)
    (h : X P B A r N code ds E (row (.slice (Arr.lit b l hl).oad (Arr.lit b l hl).l.length (Arr.lit b l hl).c) e 1 (Arr.lit b l hl).l.length ((Arr.lit b l hl).l.flatMap enc) :: R) Q) : X P B A r N code ds E S Q := by
  subst hcs
  intro a w hok hs
  have h1 := hs.take (.cons ho (.nil _))
  have hfl : (l.flatMap enc).length = l.length * 1 := by have := flat_len (sz := 1) he (l := l); simpa using this
  exact h a w hok (h1.cells_row hfl h1.blk_own (Nat.le_refl _) hm hfl (by show List.take (l.length * 1) (l.flatMap enc) = l.flatMap enc; rw [← hfl]; exact List.take_length))

theorem D_idxSoP {t n e sz j c k' : Nat} {ad : Option Addr} {x i : Operand} {k : IntKind} {m : Int} (hx : ev E x = some (.slice ad n c)) (hi : ev E i = some (.int k m)) (ht : slcOf P t = some (e, sz))
    (hz : ad = none → n = 0) (hm : m = (j : Int)) (hj : j < n) (hk' : j * sz = k') : DetP P N ds E (.indexAddr t x i) (.pointer (some ((ad.getD ⟨0, 0, none⟩).add k'))) := by
  cases ad with
  | none => have := hz rfl; omega
  | some ad =>
    exact ⟨by simp, by simp, fun a w ty pos aft g d ho => by
      obtain ⟨inf, hu, hinf, hsz⟩ := slcOf_spec ht
      subst hm hsz hk'
      simp [execOp, ho.ev hx, ho.ev hi, Instr.indexAt, asIntOf, run_underlying hu, sizeOf, typeInfo, hinf, Nat.not_le.2 hj]⟩

/-! ### An array of structures, as a value -/

def arrN (P : Program) (t : Nat) : Option (Nat × Nat) := match P.underlying t with
  | some (.array n e) => match P.info? e with
    | some i => if isAggB P e = true ∧ (P.underlying e).isSome then some (n, i.size) else none
    | none => none
  | _ => none
theorem D_idxaggl {α : Type} {enc : α → List Value} {sz : Nat} (he : ∀ a, (enc a).length = sz) {t n j : Nat} {x y : Operand} {l : List α} {a : α} {k : IntKind} {m : Int} (hx : ev E x = some (.agg (l.flatMap enc).toArray)) (hy : ev E y = some (.int k m)) (ht : arrN P t = some (n, sz)) (hm : m = (j : Int)) (hj : j < n) (hi : l[j]? = some a) :
    Det P B A N ds E S (.index t x y) (.agg (enc a).toArray) :=
  ⟨by simp, by simp, fun ac w ty pos aft g d ho hs => by
    unfold arrN at ht
    split at ht
    · rename_i n' e hu
      split at ht
      · rename_i i hinf
        split at ht
        · rename_i hc
          simp only [Option.some.injEq, Prod.mk.injEq] at ht
          obtain ⟨rfl, h2⟩ := ht
          subst hm
          obtain ⟨dsc, hde⟩ := Option.isSome_iff_exists.1 hc.2
          have h1 : (l.flatMap enc).toArray.extract (j * sz) (j * sz + sz) = (enc a).toArray := by
            rw [← flat_chunk he l j a hi]
            apply Array.ext'
            simp [List.extract_eq_take_drop]
          simp only [execOp, ho.ev hx, ho.ev hy]
          subst h2
          simp [Instr.index, asIntOf, run_underlying hu, hj, sizeOf, typeInfo, hinf, part, isAgg_run hde, hc.1]
          simpa using h1
        · cases ht
      · cases ht
    · cases ht⟩

def bldA (P : Program) (t : Nat) : Option (List Value × Nat × Nat) := match P.info? t, P.underlying t with
  | some it, some (.array n e) => match it.zero, P.info? e with
    | some z, some ie => some (z.cells.toList, n, ie.size)
    | _, _ => none
  | _, _ => none
theorem bldA_built {t n sz : Nat} {z : List Value} {ps : List (Nat × Value)} {cs : List Value} (h : bldA P t = some (z, n, sz)) (hlt : ps.all (fun p => Nat.blt p.1 n) = true) (hf : fillL ((List.range n).map fun i => (i * sz, sz)) z ps = some cs) : P.built t ps = some cs.toArray := by
  unfold bldA at h
  unfold Program.built
  split at h
  · rename_i it n' e hi hu
    split at h
    · rename_i z' ie hz hie
      simp at h; obtain ⟨rfl, rfl, rfl⟩ := h
      simp only [hi, hu, hz, hie]
      have := fillL_spec (place := fun i => some (i * ie.size, ie.size)) (fun p hp => by have := List.all_eq_true.1 hlt p hp; simp at this; simp [this]) hf
      simpa using this
    · cases h
  · cases h
theorem D_buildA {t n sz : Nat} {parts : List (Nat × Operand)} {z : List Value} {ps : List (Nat × Value)} {cs : List Value} (hp : evps E parts = some ps) (ht : bldA P t = some (z, n, sz)) (hlt : ps.all (fun p => Nat.blt p.1 n) = true)
    (hf : fillL ((List.range n).map fun i => (i * sz, sz)) z ps = some cs) : Det P B A N ds E S (.build t parts.toArray) (.agg cs.toArray) :=
  ⟨by simp, by simp, fun a w ty pos aft g d ho hs => by
    have e := ho.evps hp
    have := run_build (P := P) w t (parts.map fun (i, x) => (i, a.eval x)).toArray cs.toArray (by rw [e]; exact bldA_built ht hlt hf)
    simp only [execOp, List.map_toArray, Sem.run_bind, this, Result.andThen_ok, Sem.run_pure]⟩

theorem app_core {t e sz by' n m c : Nat} {z xs news : List Value} {x y : Operand} {K : Asrt B} {ad : Addr} {R' : List (Asrt B)} (hx : ev E x = some v) (hy : ev E y = some (.slice (some ad) m c)) (ht : slT P t = some (e, sz, by', z))
    (ho1 : Out (row v e sz n xs) S R) (ho2 : Out K S R') (hr : Rd K ad news) (hl : news.length = m * sz) (h1 : ∀ u ∈ news, u.oneCell' = true) (h63 : n + m ≤ maxLen) (hby : (n + m) * by' ≤ 140737488355328) :
    ∀ a w, Ok N ds E a → St B A S w → ∃ v' w', (execOp a.eval ⟨some d, .call { callee := .builtin .append, args := #[x, y], argTypes := #[t, t] }, ty, pos, aft, g⟩).run P w = .ok (.value v') w' ∧ St B A (row v' e sz (n + m) (xs ++ news) :: R) w' ∧ (v' = .slice none 0 0 ↔ v = .slice none 0 0 ∧ m = 0) := fun a w ho hs => by
    obtain ⟨i, zv, hu, hi, hz, hsz, hbt, hzs, hpos, _⟩ := slT_spec ht
    obtain ⟨DK, hK⟩ := hs.mem ho2
    have hB := hs.size
    obtain ⟨D, ⟨D1, D2, hD, hdj, ⟨hown, hD1⟩, hS⟩, h2, h3, h4, h5, h6⟩ := hs.take (.cons ho1 (.nil _))
    obtain ⟨v', w', hrun, hown', hgr, hnil⟩ := run_append_own (P := P) w B t ty e i zv sz by' hu hi hz hsz hbt hzs hpos v n xs hown ad m c news hl
      (fun j u hj => by rw [hr DK w hK j (List.getElem?_eq_some_iff.1 hj).1, hj]) h1 h63 hby hB
    refine ⟨v', w', ?_, ?_, hnil⟩
    · simp [execOp, resolve, invoke, builtin, ho.ev hx, ho.ev hy, hrun]
    · have hlt := hown'.lt
      have hold : ∀ k, v.ownBlock = some k → D k := fun k hk => (hD k).2 (.inl ((hD1 k).2 hk))
      have hnew := append_where (P := P) hu hi hz hsz hown hl (fun j u hj => by rw [hr DK w hK j (List.getElem?_eq_some_iff.1 hj).1, hj]) h1 h63 (by rw [hbt]; exact hby) hnil hrun
      refine ⟨fun k => v'.ownBlock = some k ∨ D2 k, ⟨fun k => v'.ownBlock = some k, D2, fun _ => Iff.rfl, fun k hk hk2 => ?_, ⟨hown', fun _ => Iff.rfl⟩, hS.stable fun k hk => ?_⟩, fun k hk => ?_, fun k hk => ?_, ⟨hgr.os.trans h4.os, hgr.tape.trans h4.tape, hgr.output.trans h4.output, Nat.le_trans h4.size hgr.size, fun k hk hn => ?_⟩, h5, h6⟩
      · rcases hnew k hk with h | h
        · exact hdj k ((hD1 k).2 h) hk2
        · have := (h2 k ((hD k).2 (.inr hk2))).2; omega
      · refine hgr.block k ?_ ?_
        · rcases hk with hk | hk
          · omega
          · exact (h2 k ((hD k).2 (.inr hk))).2
        · intro e
          rcases hk with hk | hk
          · have := (h2 k (hold k e.symm)).1; omega
          · exact hdj k ((hD1 k).2 e.symm) hk
      · rcases hk with hk | hk
        · exact hlt k hk
        · have := h2 k ((hD k).2 (.inr hk)); have := hgr.size; omega
      · rcases hk with hk | hk
        · rcases hnew k hk with h | h
          · exact h3 k (hold k h)
          · have := h4.size; exact .inr (by omega)
        · exact h3 k ((hD k).2 (.inr hk))
      · have := h4.size
        refine (hgr.block k (by omega) (fun e => ?_)).trans (h4.same k hk hn)
        rcases h3 k (hold k e.symm) with h | h
        · exact hn h
        · omega
theorem app_core_arr {α : Type} {enc : α → List Value} {c b : Arr α} {t e sz by' : Nat} {z : List Value} {x x' : Operand} {K : Asrt B} {R' : List (Asrt B)} (hx : ev E x = some (.slice c.oad c.l.length c.c)) (hy : ev E x' = some (.slice b.oad b.l.length b.c)) (ht : slT P t = some (e, sz, by', z))
    (ho1 : Out (row (.slice c.oad c.l.length c.c) e sz c.l.length (c.l.flatMap enc)) S R) (ho2 : Out K S R') (hr : Rd K b.ad (b.l.flatMap enc)) (he : ∀ a, (enc a).length = sz) (h1 : ∀ a, (enc a).all (·.oneCell') = true) (h63 : c.l.length + b.l.length ≤ 9223372036854775807 - 1000) (hby : (c.l.length + b.l.length) * by' ≤ 140737488355328) :
    ∀ a w, Ok N ds E a → St B A S w → ∃ (c2 : Arr α) (w' : World), (execOp a.eval ⟨some d, .call { callee := .builtin .append, args := #[x, x'], argTypes := #[t, t] }, ty, pos, aft, g⟩).run P w = .ok (.value (.slice c2.oad c2.l.length c2.c)) w' ∧ St B A (row (.slice c2.oad c2.l.length c2.c) e sz c2.l.length (c2.l.flatMap enc) :: R) w' ∧ (c2.l = c.l ++ b.l ∧ c2.Own) := fun a w ho hs => by
  have key : ∃ v' w', (execOp a.eval ⟨some d, .call { callee := .builtin .append, args := #[x, x'], argTypes := #[t, t] }, ty, pos, aft, g⟩).run P w = .ok (.value v') w' ∧ St B A (row v' e sz (c.l.length + b.l.length) (c.l.flatMap enc ++ b.l.flatMap enc) :: R) w' := by
    cases hb : b.oad with
    | some ad =>
      have had : b.ad = ad := by simp [Arr.ad, hb]
      rw [hb] at hy; rw [had] at hr
      obtain ⟨v', w', g1, g2, _⟩ := app_core (N := N) (ds := ds) (d := d) (ty := ty) (pos := pos) (aft := aft) (g := g) hx hy ht ho1 ho2 hr (flat_len he _) (fun u hu => by
        obtain ⟨a, _, ha⟩ := List.mem_flatMap.1 hu
        exact List.all_eq_true.1 (h1 a) u ha) (by unfold maxLen; omega) hby a w ho hs
      exact ⟨v', w', g1, g2⟩
    | none =>
      have hl := b.nil hb
      rw [hb, hl] at hy
      obtain ⟨i, zv, hu, hi, _⟩ := slT_spec ht
      have hs' := hs.take (.cons ho1 (.nil _))
      obtain ⟨D, hK⟩ := hs'.mem (.here _ _)
      have hrun := run_append_none (P := P) (ty := ty) (c := b.c) hu hi hK.1
      exact ⟨_, w, by simp [execOp, resolve, invoke, builtin, ho.ev hx, ho.ev hy, hrun]; rfl, by rw [hl]; simpa using hs'⟩
  obtain ⟨v', w', g1, g2⟩ := key
  obtain ⟨c2, hc2, hown, rfl⟩ := row_arr (l := c.l ++ b.l) (enc := enc) g2 (.here _ _) (by simp)
  refine ⟨c2, w', g1, ?_, hc2, hown⟩
  rw [show c.l.length + b.l.length = c2.l.length from by rw [hc2]; simp, show c.l.flatMap enc ++ b.l.flatMap enc = c2.l.flatMap enc from by rw [hc2, List.flatMap_append]] at g2
  exact g2
theorem Out.pre {α : Type} {x : α} {S R : List α} (h : Out x S R) : ∀ (K : List α), Out x (K ++ S) (K ++ R)
  | [] => h
  | y :: K => .there y (Out.pre h K)
/-- append in a region that draws. -/
theorem XO_appa {α : Type} {enc : α → List Value} {c b : Arr α} {n i : Nat} {listed : Array Bool} {Ks : List (Asrt B)} {t e sz by' : Nat} {z : List Value} {x x' : Operand} {K : Asrt B} {R' Z : List (Asrt B)} (hi : ops[i]? = some ⟨some d, .call { callee := .builtin .append, args := #[x, x'], argTypes := #[t, t] }, ty, pos, aft, g⟩) (hw : Want ops N E g)
    (hx : ev E x = some (.slice c.oad c.l.length c.c)) (hy : ev E x' = some (.slice b.oad b.l.length b.c)) (ht : slT P t = some (e, sz, by', z))
    (ho1 : Out (row (.slice c.oad c.l.length c.c) e sz c.l.length (c.l.flatMap enc)) S R) (hZ : App Ks S Z) (ho2 : Out K Z R') (hr : Rd K b.ad (b.l.flatMap enc)) (he : ∀ a, (enc a).length = sz) (h1 : ∀ a, (enc a).all (·.oneCell') = true) (h63 : c.l.length + b.l.length ≤ 9223372036854775807 - 1000) (hby : (c.l.length + b.l.length) * by' ≤ 140737488355328) (hd : Nat.blt d N = true)
    (h : ∀ c2 : Arr α, c2.l = c.l ++ b.l → c2.Own → XA ku P B A r N ops Ks n (listed.setIfInBounds i true) ds ((d, .slice c2.oad c2.l.length c2.c) :: E) (row (.slice c2.oad c2.l.length c2.c) e sz c2.l.length (c2.l.flatMap enc) :: R) Q) : XO ku P B A r N ops Ks n listed i ds E S Q := by
  have hZ := hZ.eq; subst hZ
  refine XO_op (α := Arr α) (fun c2 => .slice c2.oad c2.l.length c2.c) (fun c2 => row (.slice c2.oad c2.l.length c2.c) e sz c2.l.length (c2.l.flatMap enc) :: R) (fun c2 => c2.l = c.l ++ b.l ∧ c2.Own) hi hw (by simp) hd (fun a w ho hs => ?_) (fun c2 ⟨g1, g2⟩ => h c2 g1 g2)
  obtain ⟨c2, w', g1, g2, g3⟩ := app_core_arr (N := N) (ds := ds) (d := d) (ty := ty) (pos := pos) (aft := aft) (g := g) hx hy ht (ho1.pre Ks) ho2 hr he h1 h63 hby a w ho hs
  refine ⟨c2, w', g1, ?_, g3⟩
  have g4 : St B A ([row (.slice c2.oad c2.l.length c2.c) e sz c2.l.length (c2.l.flatMap enc)] ++ (Ks ++ R)) w' := g2
  simpa using g4.mid
theorem XO_bslicea {α : Type} (enc : α → List Value) {n i : Nat} {listed : Array Bool} {Ks : List (Asrt B)} {t e sz by' : Nat} {z : List Value} (hi : ops[i]? = some ⟨some d, .buildSlice t 0 #[], ty, pos, aft, g⟩) (hw : Want ops N E g) (ht : slT P t = some (e, sz, by', z)) (hd : Nat.blt d N = true)
    (h : ∀ c : Arr α, c.l = [] → c.Own → XA ku P B A r N ops Ks n (listed.setIfInBounds i true) ds ((d, .slice c.oad c.l.length c.c) :: E) (row (.slice c.oad c.l.length c.c) e sz c.l.length (c.l.flatMap enc) :: S) Q) : XO ku P B A r N ops Ks n listed i ds E S Q := by
  refine XO_op (α := Nat) (fun b => .slice (some ⟨b, 0, none⟩) 0 0) (fun b => row (.slice (some ⟨b, 0, none⟩) 0 0) e sz 0 [] :: S) (fun _ => True) hi hw (by simp) hd (fun a w ho hs => ?_) (fun b _ => h (Arr.lit b [] (by simp)) rfl Arr.lit_own)
  obtain ⟨i, zv, hu, hi, hz, hsz, hbt, hzs, hps, hzl⟩ := slT_spec ht
  have g2 : St B A ([row (.slice (some ⟨w.heap.size, 0, none⟩) 0 0) e sz 0 []] ++ (Ks ++ S)) (w.alloc (.cells #[] e)) := St.blk_row (cs := []) (hs.new _) (.here _ _) (by simp) (by unfold maxLen; omega)
  refine ⟨w.heap.size, w.alloc (.cells #[] e), ?_, by simpa using g2.mid, trivial⟩
  simp [execOp, Instr.buildSlice, run_underlying hu, sizeOf, typeInfo, hi, Instr.fill, newRow]
  rw [show Array.range 0 = #[] from by simp [Array.range], Array.map_empty]

/-- A field of one cell, of a structure as a value. -/
def fld1 (P : Program) (t f : Nat) : Option Nat := match P.underlying t with
  | some (.struct fs) => match fs[f]? with
    | some fd => if isAggB P fd.type = false ∧ (P.underlying fd.type).isSome then some fd.offset else none
    | none => none
  | _ => none
theorem D_field1 {t f o : Nat} {x : Operand} {cs : List Value} (hx : ev E x = some (.agg cs.toArray)) (ht : fld1 P t f = some o) (hv : cs[o]? = some v) : Det P B A N ds E S (.field t x f) v :=
  ⟨by simp, by simp, fun a w ty pos aft g d ho hs => by
    unfold fld1 at ht
    split at ht
    · rename_i fs hu
      split at ht
      · rename_i fd hf
        split at ht
        · rename_i hc
          simp at ht; subst ht
          obtain ⟨dsc, hde⟩ := Option.isSome_iff_exists.1 hc.2
          simp only [execOp, ho.ev hx]
          simp [Instr.field, run_underlying hu, hf, part, asAgg, isAgg_run hde, hc.1, hv]
        · cases ht
      · cases ht
    · cases ht⟩

theorem res_cell1 {fn : Func} {p t b : Nat} {te : TypeId} {S1 : List (Asrt B)} (h : fn.results = #[.cell p t]) (hp : E.get p = some (.pointer (some ⟨b, 0, none⟩))) (ho : Out (blk b [v] te) S S1) (ht : tyK P t = some (false, 1)) :
    ∀ a w, Ok N ds E a → St B A S w → (results fn a.tmps).run P w = .ok v w := by
  intro a w hok hs
  obtain ⟨D, hK⟩ := hs.mem ho
  have hl := run_load1 (P := P) (w := w) (p := ⟨b, 0, none⟩) ht (Rd_obj D w hK 0 (by simp))
  simp only [Instr.loadAt, Instr.sureAddr, Sem.run_bind, Sem.run_pure, Result.andThen_ok] at hl
  have hp' : a.tmps[p]?.getD undef = .pointer (some ⟨b, 0, none⟩) := by have := hok.get p _ hp; simpa [Array.getD_eq_getD_getElem?] using this
  simp [results, h, hp', asAddr, hl]
end Go.Sl
end
