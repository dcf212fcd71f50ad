/- A small separation logic over the kit's calculus: assertions with footprints, rules for code, lists of operations, drawn regions, calls, and the frame of a statement that says true at every input. Generic in the program. My own work. -/
import Derived.Test.YtkkdchgnknpceaaDoorSl
import Derived.Laws.MakeOwn
import Derived.Carry
import Derived.MapKept
section
/- Texts: length, a byte, a part; stores of a whole element into a row. -/
namespace Go.Sl
open Go
set_option linter.unusedVariables false
variable {ku : Bool} {P : Program} {B : Nat} {A : Amb} {r : Option Nat} {N : Nat} {ds : List Nat} {E E' : Env} {S R L F : List (Asrt B)} {Q Q' : P4 B} {ops : Array Oper} {rest : List Oper}

theorem D_slen {t : Nat} {l : List UInt8} {x : Operand} {ats : Array TypeId} (hx : ev E x = some (str l)) (has : ats[0]? = some t) (ht : P.underlying t = some .string) : Det P B A N ds E S (.call { callee := .builtin .len, args := #[x], argTypes := ats }) (.int .i64 (l.length : Int)) :=
  ⟨by simp, by simp, fun a w ty pos aft g d ho hs => by
    have : (⟨l.toArray⟩ : ByteArray).size = l.length := by show l.toArray.size = _; simp
    simp [execOp, resolve, invoke, builtin, ho.ev hx, Builtin.len_, has, run_underlying ht, goInt, this]⟩

theorem D_sidx {t i : Nat} {x y : Operand} {l : List UInt8} {k : IntKind} {m : Int} {b : UInt8} (hx : ev E x = some (str l)) (hy : ev E y = some (.int k m)) (hu : P.underlying t = some .string) (hm : m = (i : Int)) (hb : l[i]? = some b) :
    Det P B A N ds E S (.index t x y) (.int .u8 (b.toNat : Int)) := by
  refine D_idxStr hx hy hu hm ?_
  obtain ⟨h, e⟩ := List.getElem?_eq_some_iff.1 hb
  show (⟨l.toArray⟩ : ByteArray)[i]? = some b
  have h' : i < (⟨l.toArray⟩ : ByteArray).size := by show i < l.toArray.size; simpa using h
  rw [getElem?_pos (⟨l.toArray⟩ : ByteArray) i h']
  show some (l.toArray[i]'_) = some b
  simp [e]

theorem bytes_extract (l : List UInt8) (i j : Nat) : (⟨l.toArray⟩ : ByteArray).extract i j = ⟨((l.drop i).take (j - i)).toArray⟩ := by
  apply ByteArray.ext
  rw [ByteArray.data_extract]
  simp [List.take_drop]

/-- A part of a text. -/
theorem D_sslice {t lo hi : Nat} {x : Operand} {l p : List UInt8} {olo ohi : Option Operand} (hx : ev E x = some (str l)) (ht : P.underlying t = some .string) (hlo : ob E 0 lo olo) (hhi : ob E l.length hi ohi) (h1 : lo ≤ hi) (h2 : hi ≤ l.length)
    (hp : (l.drop lo).take (hi - lo) = p) : Det P B A N ds E S (.slice t x olo ohi none) (str p) :=
  ⟨by simp, by simp, fun a w ty pos aft g d ho hs => by
    have hsz : (⟨l.toArray⟩ : ByteArray).size = l.length := by show l.toArray.size = _; simp
    have key : ∀ (o : Option Operand) (df k : Nat), ob E df k o → ∃ r : Option Value, o.map a.eval = r ∧ (match r with | some v => ∃ kd, v = .int kd (k : Int) | none => k = df) := by
      intro o df k h
      cases o with
      | none => exact ⟨none, rfl, h⟩
      | some y => obtain ⟨kd, he⟩ := h; exact ⟨some (.int kd k), by simp [ho.ev he], kd, rfl⟩
    obtain ⟨r1, e1, c1⟩ := key olo _ _ hlo
    obtain ⟨r2, e2, c2⟩ := key ohi _ _ hhi
    have hrun : (Instr.slice t (str l) r1 r2 none).run P w = .ok (str p) w := by
      subst hp
      cases r1 with
      | none =>
        simp only at c1; subst c1
        cases r2 with
        | none => simp only at c2; subst c2; simp [Instr.slice, run_underlying ht, Instr.sliceBounds, hsz, bytes_extract]
        | some v =>
          obtain ⟨kd, rfl⟩ := c2
          simp [Instr.slice, run_underlying ht, Instr.sliceBounds, Instr.sliceBound, asIntOf, hsz, bytes_extract, h2]
      | some u =>
        obtain ⟨kd, rfl⟩ := c1
        cases r2 with
        | none => simp only at c2; subst c2; simp [Instr.slice, run_underlying ht, Instr.sliceBounds, Instr.sliceBound, asIntOf, hsz, bytes_extract, h1]
        | some v =>
          obtain ⟨kd', rfl⟩ := c2
          simp [Instr.slice, run_underlying ht, Instr.sliceBounds, Instr.sliceBound, asIntOf, hsz, bytes_extract, h1, h2]
    simp only [execOp, ho.ev hx, e1, e2]
    have e : (Instr.sliceAt t (str l) r1 r2 none).run P w = .ok (str p) w := by
      rw [← hrun]; simp [Instr.sliceAt, run_underlying ht]
    simp only [Option.map_none]
    rw [Sem.run_bind, e]; rfl⟩
theorem res_ac {fn : Func} {p q t t' b b' n : Nat} {cs : List Value} {v' : Value} {te te' : TypeId} {S1 S2 : List (Asrt B)} (h : fn.results = #[.cell p t, .cell q t']) (hp : E.get p = some (.pointer (some ⟨b, 0, none⟩))) (hq : E.get q = some (.pointer (some ⟨b', 0, none⟩))) (ho : Out (blk b cs te) S S1) (ho' : Out (blk b' [v'] te') S S2) (ht : tyK P t = some (true, n)) (ht' : tyK P t' = some (false, 1)) (hn : cs.length = n) :
    ∀ a w, Ok N ds E a → St B A S w → (results fn a.tmps).run P w = .ok (.tuple #[.agg cs.toArray, v']) w := by
  intro a w hok hs
  obtain ⟨D, hK⟩ := hs.mem ho
  obtain ⟨D', hK'⟩ := hs.mem ho'
  have hl := run_loadN (P := P) (w := w) (p := ⟨b, 0, none⟩) (vs := cs) ht hn (fun k hk => Rd_obj D w hK k (by omega))
  have hl' := run_load1 (P := P) (w := w) (p := ⟨b', 0, none⟩) ht' (v := v') (Rd_obj D' w hK' 0 (by simp))
  simp only [Instr.loadAt, Instr.sureAddr, Sem.run_bind, Sem.run_pure, Result.andThen_ok] at hl hl'
  have hp' : a.tmps[p]?.getD undef = .pointer (some ⟨b, 0, none⟩) := by have := hok.get p _ hp; simpa [Array.getD_eq_getD_getElem?] using this
  have hq' : a.tmps[q]?.getD undef = .pointer (some ⟨b', 0, none⟩) := by have := hok.get q _ hq; simpa [Array.getD_eq_getD_getElem?] using this
  simp [results, h, hp', hq', asAddr, hl, hl']
/-! ### More on regions that draw -/
theorem XO_det {n d i : Nat} {listed : Array Bool} {K Z : List (Asrt B)} {op : Op} {ty : TypeId} {pos : String} {aft : Array Edge} {g : Option (Nat × Bool)} {v : Value} (hi : ops[i]? = some ⟨some d, op, ty, pos, aft, g⟩) (hw : Want ops N E g) (hZ : App K S Z) (hp : Det P B A N ds E Z op v) (hd : Nat.blt d N = true)
    (h : XA ku P B A r N ops K n (listed.setIfInBounds i true) ds ((d, v) :: E) S Q) : XO ku P B A r N ops K n listed i ds E S Q :=
  XO_op (α := Unit) (fun _ => v) (fun _ => S) (fun _ => True) hi hw hp.1 hd (fun a w ho hs => ⟨(), w, hp.2.2 a w ty pos aft g (some d) ho (by rw [← hZ.eq]; exact hs), hs, trivial⟩) (fun _ _ => h)
theorem D_nilckP {x : Operand} {ad : Addr} (hx : ev E x = some (.pointer (some ad))) : DetP P N ds E (.nilCheck x) (.pointer (some ad)) :=
  ⟨by simp, by simp, fun a w ty pos aft g d ho => by simp [execOp, ho.ev hx]⟩
theorem D_fldP {s f b o off o' : Nat} {x : Operand} (hx : ev E x = some (.pointer (some ⟨b, o, none⟩))) (hf : fldOff P s f = some off) (ho' : Nat.add o off = o') : DetP P N ds E (.fieldAddr s x f) (.pointer (some ⟨b, o', none⟩)) :=
  ⟨by simp, by simp, fun a w ty pos aft g d ho => by
    have : o + off = o' := ho'
    simp [execOp, ho.ev hx, run_fieldAt _ hf, add_off, this]⟩
theorem D_fldAP {s f k off k' : Nat} {ad : Addr} {x : Operand} (hx : ev E x = some (.pointer (some (ad.add k)))) (hf : fldOff P s f = some off) (hk : k + off = k') : DetP P N ds E (.fieldAddr s x f) (.pointer (some (ad.add k'))) :=
  ⟨by simp, by simp, fun a w ty pos aft g d ho => by
    have e : (ad.add k).add off = ad.add k' := by
      subst hk; unfold Addr.add; by_cases hi : k = 0 <;> by_cases hj : off = 0 <;> simp [hi, hj, Nat.add_assoc]
    simp [execOp, ho.ev hx, run_fieldAt _ hf, e]⟩
theorem D_idxAP {t b o n sz j o' : Nat} {x i : Operand} {k : IntKind} {m : Int} (hx : ev E x = some (.pointer (some ⟨b, o, none⟩))) (hi : ev E i = some (.int k m)) (ht : arrOf P t = some (n, sz))
    (hm : m = (j : Int)) (hj : j < n) (ho' : o + j * sz = o') : DetP P N ds E (.indexAddr t x i) (.pointer (some ⟨b, o', none⟩)) :=
  ⟨by simp, by simp, fun a w ty pos aft g d ho => by
    obtain ⟨e, inf, hu, hinf, hsz, hn⟩ := arrOf_spec ht
    subst hm hsz ho'
    simp [execOp, ho.ev hx, ho.ev hi, Instr.indexAt, asIntOf, run_underlying hu, Instr.sureAddr, sizeOf, typeInfo, hinf, Nat.not_le.2 hj, add_off]⟩
theorem D_lenP {t n c e sz : Nat} {ad : Option Addr} {x : Operand} {ats : Array TypeId} (hx : ev E x = some (.slice ad n c)) (has : ats[0]? = some t) (ht : slcOf P t = some (e, sz)) : DetP P N ds E (.call { callee := .builtin .len, args := #[x], argTypes := ats }) (.int .i64 n) :=
  ⟨by simp, by simp, fun a w ty pos aft g d ho => by
    obtain ⟨inf, hu, _, _⟩ := slcOf_spec ht
    simp [execOp, resolve, invoke, builtin, ho.ev hx, Builtin.len_, has, run_underlying hu, goInt]⟩
theorem D_slenP {t : Nat} {l : List UInt8} {x : Operand} {ats : Array TypeId} (hx : ev E x = some (str l)) (has : ats[0]? = some t) (ht : P.underlying t = some .string) : DetP P N ds E (.call { callee := .builtin .len, args := #[x], argTypes := ats }) (.int .i64 (l.length : Int)) :=
  ⟨by simp, by simp, fun a w ty pos aft g d ho => by
    have : (⟨l.toArray⟩ : ByteArray).size = l.length := by show l.toArray.size = _; simp
    simp [execOp, resolve, invoke, builtin, ho.ev hx, Builtin.len_, has, run_underlying ht, goInt, this]⟩
theorem D_scatP {x y : Operand} {t t' : Nat} {a b : List UInt8} (hx : ev E x = some (str a)) (hy : ev E y = some (str b)) (h : a.length + b.length ≤ 9223372036854775807) : DetP P N ds E (.binOp .add t x y t') (str (a ++ b)) :=
  ⟨by simp, by simp, fun ac w ty pos aft g d ho => by
    have h1 : (⟨a.toArray⟩ : ByteArray).size = a.length := by show a.toArray.size = _; simp
    have h2 : (⟨b.toArray⟩ : ByteArray).size = b.length := by show b.toArray.size = _; simp
    simp [execOp, ho.ev hx, ho.ev hy, eqGuard, binOp, Op.stringOp, bytes_app, h1, h2]
    omega⟩
abbrev encS (l : List UInt8) : List Value := [str l]
end Go.Sl
end

section
/- More on contracts. -/
namespace Go.Sl
open Go
set_option linter.unusedVariables false
variable {P : Program} {B : Nat} {A : Amb} {r : Option Nat} {N : Nat} {ds : List Nat} {E E' : Env} {S R L F : List (Asrt B)} {Q Q' : P4 B} {ops : Array Oper} {rest : List Oper}
/-- A contract, lent more than it wants (which is lost). -/
theorem Ctr.more {f : FuncId} {args : List Value} {pre pre' R : List (Asrt B)} {post : Value → List (Asrt B) → Prop} (h : Ctr P B f args pre post) (t : Take pre pre' R) : Ctr P B f args pre' post := by
  intro w D hs hD hB
  obtain ⟨D1, D2, e, _, h1, _⟩ := (t.sts hs).append
  refine (h w D1 h1 (fun k hk => hD k ((e k).2 (.inl hk))) hB).mono ?_
  rintro e' w' ⟨v, S', r, p, D', g1, g2, g3, g4, g5, g6⟩
  exact ⟨v, S', r, p, D', g1, g2, fun k hk => (g3 k hk).imp (fun h => (e k).2 (.inl h)) id, ⟨g4.os, g4.tape, g4.output, g4.size, fun k hk hn => g4.same k hk (fun h => hn ((e k).2 (.inl h)))⟩, g5, fun k hk => (hD k hk).1⟩
/-! ### Two assertions as one -/
def both (K1 K2 : Asrt B) : Asrt B where
  holds D w := Sts [K1, K2] D w
  stable := Sts.stable
theorem Rd.both1 {K1 K2 : Asrt B} {ad : Addr} {xs : List Value} (h : Rd K1 ad xs) : Rd (both K1 K2) ad xs := fun D w hw k hk => by
  obtain ⟨D1, D2, _, _, h1, _⟩ := hw
  exact h D1 w h1 k hk
theorem Rd.both2 {K1 K2 : Asrt B} {ad : Addr} {xs : List Value} (h : Rd K2 ad xs) : Rd (both K1 K2) ad xs := fun D w hw k hk => by
  obtain ⟨D1, D2, _, _, _, D3, D4, _, _, h1, _⟩ := hw
  exact h D3 w h1 k hk
theorem St.mkboth {K1 K2 : Asrt B} {w : World} (h : St B A S w) (t : Take [K1, K2] S R) : St B A (both K1 K2 :: R) w := by
  obtain ⟨D, h1, h2⟩ := h.take t
  obtain ⟨D1, D2, e, hd, g1, g2⟩ := h1.append
  exact ⟨D, ⟨D1, D2, e, hd, g1, g2⟩, h2⟩
theorem XL_both {l : List Oper} (K1 K2 : Asrt B) (t : Take [K1, K2] S R) (h : XL P B A r N ops l ds E (both K1 K2 :: R) Q) : XL P B A r N ops l ds E S Q := fun a w ho hs => h a w ho (hs.mkboth t)
theorem X_both {c : Code} (K1 K2 : Asrt B) (t : Take [K1, K2] S R) (h : X P B A r N c ds E (both K1 K2 :: R) Q) : X P B A r N c ds E S Q := fun a w ho hs => h a w ho (hs.mkboth t)
theorem St.unboth {K1 K2 : Asrt B} {w : World} (h : St B A (both K1 K2 :: S) w) : St B A (K1 :: K2 :: S) w := by
  obtain ⟨D, ⟨D1, D2, e, hd, g1, g2⟩, h2⟩ := h
  exact ⟨D, Sts.join e hd g1 g2, h2⟩
theorem XL_unboth {l : List Oper} (K1 K2 : Asrt B) (t : Take [both K1 K2] S R) (h : XL P B A r N ops l ds E (K1 :: K2 :: R) Q) : XL P B A r N ops l ds E S Q := fun a w ho hs => h a w ho (hs.take t).unboth
/-- Nothing. -/
def emp : Asrt B where
  holds D _ := ∀ k, ¬ D k
  stable := fun h _ => h
theorem St.mkemp {w : World} (h : St B A S w) : St B A (emp :: S) w := by
  obtain ⟨D, h1, h2⟩ := h
  exact ⟨D, ⟨fun _ => False, D, fun k => by simp, fun _ h _ => h, fun _ h => h, h1⟩, h2⟩
theorem X_emp {c : Code} (h : X P B A r N c ds E (emp :: S) Q) : X P B A r N c ds E S Q := fun a w ho hs => h a w ho hs.mkemp
theorem XL_emp {l : List Oper} (h : XL P B A r N ops l ds E (emp :: S) Q) : XL P B A r N ops l ds E S Q := fun a w ho hs => h a w ho hs.mkemp
end Go.Sl
end

section
/- A slice that is made. -/
namespace Go.Sl
open Go
set_option linter.unusedVariables false
variable {P : Program} {B : Nat} {A : Amb} {r : Option Nat} {N : Nat} {ds : List Nat} {E E' : Env} {S R L F : List (Asrt B)} {Q Q' : P4 B} {ops : Array Oper} {rest : List Oper}
variable {d : Nat} {op : Op} {ty : TypeId} {pos : String} {aft : Array Edge} {g : Option (Nat × Bool)}
theorem flat_rep {α : Type} {enc : α → List Value} {y : α} {zv : Value} (h : enc y = [zv]) : ∀ n, (List.replicate n y).flatMap enc = List.replicate n zv
  | 0 => rfl
  | n + 1 => by rw [List.replicate_succ, List.replicate_succ, List.flatMap_cons, h, flat_rep h n]; rfl
theorem made_rep {zv : Value} (n : Nat) : madeCells #[zv] n = (List.replicate n zv).toArray := by
  apply Array.ext'
  simp [madeCells]
  apply List.ext_getElem
  · simp
  · intro i h1 h2
    simp [Nat.mod_one]
/-- make, of elements of one cell. -/
theorem XL_make {α : Type} (enc : α → List Value) (y : α) {t e by' n : Nat} {zv : Value} {x x' : Operand} (hw : Want ops N E g) (hx : ev E x = some (.int .i64 (n : Int))) (hy : ev E x' = some (.int .i64 (n : Int))) (ht : slT P t = some (e, 1, by', [zv])) (he : enc y = [zv]) (hn : n * by' ≤ 281474976710656) (h63 : n ≤ 9223372036854775807 - 1000) (hd : Nat.blt d N = true)
    (h : ∀ c : Arr α, c.l = List.replicate n y → c.Own → XL P B A r N ops rest ds ((d, .slice c.oad c.l.length c.c) :: E) (row (.slice c.oad c.l.length c.c) e 1 c.l.length (c.l.flatMap enc) :: S) Q) : XL P B A r N ops (⟨some d, .makeSlice t x x', ty, pos, aft, g⟩ :: rest) ds E S Q := by
  refine XL_op (α := Arr α) (fun c => .slice c.oad c.l.length c.c) (fun c => row (.slice c.oad c.l.length c.c) e 1 c.l.length (c.l.flatMap enc) :: S) (fun c => c.l = List.replicate n y ∧ c.Own) hw (by simp) hd (fun a w ho hs => ?_) (fun c hc => h c hc.1 hc.2)
  obtain ⟨i, z, hu, hi, hz, hsz, hbt, hzs, hps, hzl⟩ := slT_spec ht
  have hlen : (List.replicate n y).length ≤ 9223372036854775807 := by simp; omega
  have hb : (i.bytes : Int) * (n : Int) ≤ 281474976710656 := by
    have : ((i.bytes * n : Nat) : Int) ≤ 281474976710656 := by rw [hbt, Nat.mul_comm]; omega
    rwa [Int.natCast_mul] at this
  refine ⟨Arr.lit w.heap.size (List.replicate n y) hlen, w.alloc (.cells (List.replicate n zv).toArray e), ?_, ?_, rfl, Arr.lit_own (b := w.heap.size) (h := hlen)⟩
  · have hr := run_make (P := P) w t e i z hu hi hz .i64 .i64 (n : Int) (n : Int) (by omega) (Int.le_refl _) hb (by omega)
    have hzc : z.cells = #[zv] := by apply Array.ext'; rw [hzl]
    rw [hzc, hsz, Nat.mul_one] at hr
    simp only [Int.toNat_natCast] at hr
    rw [made_rep] at hr
    simp [execOp, ho.ev hx, ho.ev hy, hr, Arr.lit]
  · have h1 := hs.new (.cells (List.replicate n zv).toArray e)
    have h2 := St.blk_row (n := n) (sz := 1) (cs := List.replicate n zv) (e := e) h1 (.here _ _) (by simp) (by unfold maxLen; omega)
    have e1 : (List.replicate n y).flatMap enc = List.replicate n zv := flat_rep he n
    show St B A (row (.slice (some ⟨w.heap.size, 0, none⟩) (List.replicate n y).length (List.replicate n y).length) e 1 (List.replicate n y).length ((List.replicate n y).flatMap enc) :: S) _
    rw [e1, List.length_replicate]; exact h2
/-! ### Ranges in loops: the blocks for deferred calls gather -/
/-- What holds then holds in another form. -/
theorem X_conv {r : Option Nat} {N : Nat} {c : Code} {ds : List Nat} (h : X P B A r N c ds E S (fun e ds E S => ∃ S2, (∀ w, St B A S w → St B A S2 w) ∧ Q e ds E S2)) : X P B A r N c ds E S Q :=
  fun a w ho hs => wpIn_mono (h a w ho hs) fun _ _ _ ⟨ds, E, S, ok, st, S2, hc, q⟩ => ⟨ds, E, S2, ok, hc _ st, q⟩
/-- The blocks for deferred calls, as one. -/
def dfrs (l : List Nat) : Asrt B where
  holds D w := Sts (l.map dfr) D w
  stable := Sts.stable
theorem St.dfrs_nil {w : World} (h : St B A S w) : St B A (dfrs [] :: S) w := by
  obtain ⟨D, h1, h2⟩ := h
  exact ⟨D, ⟨fun _ => False, D, fun k => by simp, fun _ h _ => h, fun _ h => h, h1⟩, h2⟩
theorem X_dfrs_nil {r : Option Nat} {N : Nat} {c : Code} {ds : List Nat} (h : X P B A r N c ds E (dfrs [] :: S) Q) : X P B A r N c ds E S Q := fun a w ho hs => h a w ho hs.dfrs_nil
theorem St.dfrs_cons {w : World} {d : Nat} {l : List Nat} (t : Take [dfr d, dfrs l] S R) (h : St B A S w) : St B A (dfrs (d :: l) :: R) w := by
  obtain ⟨D, h1, h2⟩ := h.take t
  obtain ⟨D1, D2, e, hd, g1, g2⟩ := h1.append
  obtain ⟨D3, D4, e3, hd3, k1, D5, D6, e5, hd5, k3, k4⟩ := g1
  refine ⟨D, ⟨D1, D2, e, hd, ⟨D3, D4, e3, hd3, k1, ?_⟩, g2⟩, h2⟩
  have : D4 = D5 := funext fun k => propext ⟨fun h => ((e5 k).1 h).resolve_right (k4 k), fun h => (e5 k).2 (.inl h)⟩
  rw [this]; exact k3
theorem X_undfrs {r : Option Nat} {N : Nat} {c : Code} {ds l : List Nat} (t : Take [dfrs l] S R) (h : X P B A r N c ds E (l.map dfr ++ R) Q) : X P B A r N c ds E S Q := fun a w ho hs => h a w ho (by
  obtain ⟨D, ⟨D1, D2, e, hd, g1, g2⟩, h2⟩ := hs.take t
  exact ⟨D, Sts.join e hd g1 g2, h2⟩)
/-- A loop whose rounds may gather blocks for deferred calls. -/
def loopQd {α : Type} (N : Nat) (I : α → Prop) (Ds : α → List Nat) (Es : α → Env) (Ss : α → List (Asrt B)) (m : α → Nat) (x : α) (Q : P4 B) : P4 B
  | .normal, ds', E, S => ∃ x' R, ds' = Ds x' ∧ I x' ∧ m x' < m x ∧ (Es x').sub E ∧ Take (Ss x') S R
  | e, ds, E, S => Q e ds E S
theorem X_loopd {α : Type} {r : Option Nat} {N : Nat} {c : Code} {ds : List Nat} (I : α → Prop) (Ds : α → List Nat) (Es : α → Env) (Ss : α → List (Asrt B)) (m : α → Nat) (x0 : α) (h0 : I x0) (hd : ds = Ds x0) (hE : (Es x0).sub E) (hS : Take (Ss x0) S R)
    (h : ∀ x, I x → X P B A r N c (Ds x) (Es x) (Ss x) (loopQd N I Ds Es Ss m x Q)) : X P B A r N (.loop c) ds E S Q := by
  intro a w ho hs
  subst hd
  have hI0 : ∃ x, I x ∧ Ok N (Ds x) (Es x) a ∧ St B A (Ss x) w := ⟨x0, h0, ho.sub hE, hs.shed hS⟩
  obtain ⟨μ, hμ⟩ : ∃ μ : Act → World → Nat, ∀ a w, (∃ x, I x ∧ Ok N (Ds x) (Es x) a ∧ St B A (Ss x) w) → ∃ x, I x ∧ Ok N (Ds x) (Es x) a ∧ St B A (Ss x) w ∧ m x = μ a w ∧ ∀ y, I y → Ok N (Ds y) (Es y) a → St B A (Ss y) w → m x ≤ m y := by
    classical
    let Pm : Act → World → Nat → Prop := fun a w k => ∃ x, I x ∧ Ok N (Ds x) (Es x) a ∧ St B A (Ss x) w ∧ m x = k
    have least : ∀ (p : Nat → Prop), (∃ k, p k) → ∃ k, p k ∧ ∀ j, p j → k ≤ j := by
      intro p ⟨k, hk⟩
      induction k using Nat.strongRecOn with
      | _ k ih =>
        by_cases h : ∃ j, j < k ∧ p j
        · obtain ⟨j, hj, hp⟩ := h; exact ih j hj hp
        · exact ⟨k, hk, fun j hj => Nat.le_of_not_lt fun hlt => h ⟨j, hlt, hj⟩⟩
    refine ⟨fun a w => if h : ∃ k, Pm a w k then Classical.choose (least _ h) else 0, fun a w hx => ?_⟩
    have h : ∃ k, Pm a w k := let ⟨x, h1, h2, h3⟩ := hx; ⟨m x, x, h1, h2, h3, rfl⟩
    simp only [dif_pos h]
    obtain ⟨⟨x, h1, h2, h3, h4⟩, hl⟩ := Classical.choose_spec (least _ h)
    exact ⟨x, h1, h2, h3, h4, fun y g1 g2 g3 => by rw [h4]; exact hl _ ⟨y, g1, g2, g3, rfl⟩⟩
  refine wpIn_loop (fun a w => ∃ x, I x ∧ Ok N (Ds x) (Es x) a ∧ St B A (Ss x) w) μ hI0 ?_
  intro a w hI
  obtain ⟨x, h1, h2, h3, h4, h5⟩ := hμ a w hI
  refine wpIn_mono (h x h1 a w h2 h3) ?_
  rintro e a' w' ⟨ds', E', S', ok, st, q⟩
  cases e with
  | normal =>
    obtain ⟨x', R', rfl, g1, g2, g3, g4⟩ := q
    have hx' : ∃ x, I x ∧ Ok N (Ds x) (Es x) a' ∧ St B A (Ss x) w' := ⟨x', g1, ok.sub g3, st.shed g4⟩
    refine ⟨hx', ?_⟩
    obtain ⟨y, _, _, _, k4, k5⟩ := hμ a' w' hx'
    rw [← k4, ← h4]
    exact Nat.lt_of_le_of_lt (k5 x' g1 (ok.sub g3) (st.shed g4)) g2
  | _ => exact ⟨ds', E', S', ok, st, q⟩
theorem loopQd_ret {α : Type} {N : Nat} {I : α → Prop} {Ds : α → List Nat} {Es : α → Env} {Ss : α → List (Asrt B)} {m : α → Nat} {x : α} {ds : List Nat} (h : Q .ret ds E S) : loopQd N I Ds Es Ss m x Q .ret ds E S := h
theorem loopQd_exit {α : Type} {N : Nat} {I : α → Prop} {Ds : α → List Nat} {Es : α → Env} {Ss : α → List (Asrt B)} {m : α → Nat} {x : α} {ds : List Nat} {i : Nat} (h : Q (.exit i) ds E S) : loopQd N I Ds Es Ss m x Q (.exit i) ds E S := h
theorem loopQd_next {α : Type} {N : Nat} {I : α → Prop} {Ds : α → List Nat} {Es : α → Env} {Ss : α → List (Asrt B)} {m : α → Nat} {x : α} {ds : List Nat} (x' : α) (hd : ds = Ds x') (h1 : I x') (h2 : m x' < m x) (h3 : (Es x').sub E) (h4 : ∃ R, Take (Ss x') S R) : loopQd N I Ds Es Ss m x Q .normal ds E S :=
  let ⟨R, h4⟩ := h4; ⟨x', R, hd, h1, h2, h3, h4⟩
end Go.Sl
end

section
/- Many assertions as one, by the index. -/
namespace Go.Sl
open Go
set_option linter.unusedVariables false
variable {P : Program} {B : Nat} {A : Amb} {r : Option Nat} {N : Nat} {ds : List Nat} {E E' : Env} {S R L F : List (Asrt B)} {Q Q' : P4 B} {ops : Array Oper} {rest : List Oper}
def many (n : Nat) (F : Nat → Asrt B) : Asrt B where
  holds D w := Sts ((List.range n).map F) D w
  stable := Sts.stable
theorem many_split (F : Nat → Asrt B) (d : Nat) : ∀ n, d < n → ∃ L1 L2, ∀ G, (List.range n).map (upd F d G) = L1 ++ G :: L2
  | 0, h => by omega
  | n + 1, h => by
    by_cases e : d = n
    · subst e
      refine ⟨(List.range d).map F, [], fun G => ?_⟩
      rw [List.range_succ, List.map_append]
      congr 1
      · apply List.map_congr_left; intro j hj
        exact upd_ne F G (by have := List.mem_range.1 hj; omega)
      · show [upd F d G d] = [G]; rw [upd_same]
    · obtain ⟨L1, L2, hs⟩ := many_split F d n (by omega)
      refine ⟨L1, L2 ++ [F n], fun G => ?_⟩
      rw [List.range_succ, List.map_append, hs G]
      show _ ++ [upd F d G n] = _
      rw [upd_ne F G (fun h => e h.symm)]; simp
theorem upd_self {α : Type} (F : Nat → α) (d : Nat) : upd F d (F d) = F := by
  funext j; by_cases e : j = d
  · subst e; rw [upd_same]
  · rw [upd_ne _ _ e]
theorem upd_upd {α : Type} (F : Nat → α) (d : Nat) (a b : α) : upd (upd F d a) d b = upd F d b := by
  funext j; by_cases e : j = d
  · subst e; rw [upd_same, upd_same]
  · rw [upd_ne _ _ e, upd_ne _ _ e, upd_ne _ _ e]
/-- One of them taken out. -/
theorem St.many_out {n d : Nat} {F : Nat → Asrt B} {w : World} (hd : d < n) (t : Take [many n F] S R) (h : St B A S w) : St B A (F d :: many n (upd F d emp) :: R) w := by
  obtain ⟨L1, L2, hs⟩ := many_split F d n hd
  obtain ⟨D, h1, h2⟩ := h.take t
  obtain ⟨D1, D2, e, hdj, g1, g2⟩ := h1
  have g1 : Sts ((List.range n).map F) D1 w := g1
  rw [← upd_self F d, hs (F d)] at g1
  obtain ⟨D3, D4, e3, hd3, k1, k2⟩ := (Out.app (L := L1) (Out.here (F d) L2)).sts g1
  have k3 : Sts ((List.range n).map (upd F d emp)) D4 w := by
    rw [hs emp]
    exact (Out.app (L := L1) (Out.here emp L2)).back ⟨fun _ => False, D4, fun k => by simp, fun _ h _ => h, fun _ h => h, k2⟩
  exact ⟨D, ⟨D3, fun k => D4 k ∨ D2 k, fun k => by rw [e k, e3 k, or_assoc], fun k a b => b.elim (hd3 k a) (fun b => hdj k ((e3 k).2 (.inl a)) b), k1, D4, D2, fun _ => Iff.rfl, fun k a b => hdj k ((e3 k).2 (.inr a)) b, k3, g2⟩, h2⟩
/-- .. and another one put in its place. -/
theorem St.many_in {n d : Nat} {F : Nat → Asrt B} {G : Asrt B} {w : World} (hd : d < n) (t : Take [G, many n (upd F d emp)] S R) (h : St B A S w) : St B A (many n (upd F d G) :: R) w := by
  obtain ⟨L1, L2, hs⟩ := many_split F d n hd
  obtain ⟨D, h1, h2⟩ := h.take t
  obtain ⟨D1, D2, e, hdj, g1, D3, D4, e3, hd3, g3, g4⟩ := h1
  have g3 : Sts ((List.range n).map (upd F d emp)) D3 w := g3
  rw [hs emp] at g3
  obtain ⟨D5, D6, e5, hd5, k1, k2⟩ := (Out.app (L := L1) (Out.here emp L2)).sts g3
  have eD : D3 = D6 := funext fun k => propext ⟨fun h => ((e5 k).1 h).resolve_left (k1 k), fun h => (e5 k).2 (.inr h)⟩
  subst eD
  have k3 : Sts ((List.range n).map (upd F d G)) (fun k => D1 k ∨ D3 k) w := by
    rw [hs G]
    exact (Out.app (L := L1) (Out.here G L2)).back ⟨D1, D3, fun _ => Iff.rfl, fun k a b => hdj k a ((e3 k).2 (.inl b)), g1, k2⟩
  exact ⟨D, ⟨fun k => D1 k ∨ D3 k, D4, fun k => by rw [e k, e3 k, or_assoc], fun k a b => a.elim (fun a => hdj k a ((e3 k).2 (.inr b))) (fun a => hd3 k a b), k3, g4⟩, h2⟩
theorem X_many_out {c : Code} {n d : Nat} {F : Nat → Asrt B} (hd : d < n) (t : Take [many n F] S R) (h : X P B A r N c ds E (F d :: many n (upd F d emp) :: R) Q) : X P B A r N c ds E S Q := fun a w ho hs => h a w ho (hs.many_out hd t)
theorem X_many_in {c : Code} {n d : Nat} {F : Nat → Asrt B} {G : Asrt B} (hd : d < n) (t : Take [G, many n (upd F d emp)] S R) (h : X P B A r N c ds E (many n (upd F d G) :: R) Q) : X P B A r N c ds E S Q := fun a w ho hs => h a w ho (hs.many_in hd t)
theorem XL_many_out {l : List Oper} {n d : Nat} {F : Nat → Asrt B} (hd : d < n) (t : Take [many n F] S R) (h : XL P B A r N ops l ds E (F d :: many n (upd F d emp) :: R) Q) : XL P B A r N ops l ds E S Q := fun a w ho hs => h a w ho (hs.many_out hd t)
theorem XL_many_in {l : List Oper} {n d : Nat} {F : Nat → Asrt B} {G : Asrt B} (hd : d < n) (t : Take [G, many n (upd F d emp)] S R) (h : XL P B A r N ops l ds E (many n (upd F d G) :: R) Q) : XL P B A r N ops l ds E S Q := fun a w ho hs => h a w ho (hs.many_in hd t)
/-- Reading out of one of them. -/
theorem Rd_many {n d : Nat} {F : Nat → Asrt B} {ad : Addr} {xs : List Value} (hd : d < n) (h : Rd (F d) ad xs) : Rd (many n F) ad xs := fun D w hw k hk => by
  obtain ⟨L1, L2, hs⟩ := many_split F d n hd
  have hw : Sts ((List.range n).map F) D w := hw
  rw [← upd_self F d, hs (F d)] at hw
  obtain ⟨D3, D4, e3, hd3, k1, k2⟩ := (Out.app (L := L1) (Out.here (F d) L2)).sts hw
  exact h D3 w k1 k hk
theorem many_free {n : Nat} {F : Nat → Asrt B} {w : World} (hF : ∀ d, (F d).holds (fun _ => False) w) (h : St B A S w) : St B A (many n F :: S) w := by
  obtain ⟨D, h1, h2⟩ := h
  refine ⟨D, ⟨fun _ => False, D, fun k => by simp, fun _ h _ => h, ?_, h1⟩, h2⟩
  show Sts ((List.range n).map F) (fun _ => False) w
  induction n with
  | zero => exact fun _ h => h
  | succ n ih =>
    rw [List.range_succ, List.map_append]
    exact Sts.join (D1 := fun _ => False) (D2 := fun _ => False) (fun k => by simp) (fun _ h _ => h) ih ⟨fun _ => False, fun _ => False, fun k => by simp, fun _ h _ => h, hF n, fun _ h => h⟩
theorem row_nil_free {e sz : Nat} {w : World} : (row (B := B) (.slice none 0 0) e sz 0 []).holds (fun _ => False) w :=
  ⟨⟨by simp, .inl ⟨rfl, rfl⟩⟩, fun k => by simp [Value.ownBlock]⟩
theorem X_many_nil {c : Code} {n e sz : Nat} (h : X P B A r N c ds E (many n (fun _ => row (.slice none 0 0) e sz 0 []) :: S) Q) : X P B A r N c ds E S Q := fun a w ho hs => h a w ho (many_free (fun _ => row_nil_free) hs)
theorem joinQ_exit {α : Type} {I : α → Prop} {Es : α → Env} {Ss : α → List (Asrt B)} {i : Nat} (h : Q (.exit i) ds E S) : joinQ P B A r N I Es Ss ds Q (.exit i) ds E S := h
theorem joinQ_ret {α : Type} {I : α → Prop} {Es : α → Env} {Ss : α → List (Asrt B)} (h : Q .ret ds E S) : joinQ P B A r N I Es Ss ds Q .ret ds E S := h
end Go.Sl
end

section
/- Maps of integers, scopes and labels. -/
namespace Go.Sl
open Go
set_option linter.unusedVariables false
variable {P : Program} {B : Nat} {A : Amb} {r : Option Nat} {N : Nat} {ds : List Nat} {E E' : Env} {S R L F : List (Asrt B)} {Q Q' : P4 B} {ops : Array Oper} {rest : List Oper}
variable {d : Nat} {op : Op} {ty : TypeId} {pos : String} {aft : Array Edge} {g : Option (Nat × Bool)}

/-! ### Scopes and labels -/
theorem X_label {l : Nat} (h : Q .normal ds E S) : X P B A r N (.label l) ds E S Q := fun a w ho hs => wpIn_label ⟨ds, E, S, ho, hs, h⟩
theorem stepR_scope {P : Program} {b : Frame} {a : Act} {k : List Item} {cs : List Frame} {w : World} {c : Code} : step P (lone (b.atR a (.code (.scope c) :: k)) cs w) = .next (lone (b.atR a (.code c :: .inScope c :: k)) cs w) :=
  step_lone_go (by simp [stepG, stepG.exec, Frame.atR])
theorem stepR_inScope {P : Program} {b : Frame} {a : Act} {k : List Item} {cs : List Frame} {w : World} {c : Code} : step P (lone (b.atR a (.inScope c :: k)) cs w) = .next (lone (b.atR a k) cs w) :=
  step_lone_go (by simp [stepG, stepG.exec, Frame.atR])
theorem wpIn_scope {F : Fence} {n : Nat} {Q : Exit → Act → World → Prop} {a : Act} {w : World} {c : Code} (h : c.wpIn F n P (fun e a w => (∀ l, e ≠ .goto l) ∧ Q e a w) a w) : (Code.scope c).wpIn F n P Q a w := by
  intro b k cs hro hb hr
  have h0 : (lone (b.atR a (.code (.scope c) :: k)) cs w).fenced P F := fenced_calm hb hr rfl
  obtain ⟨e, a₁, w₁, ⟨hg, hq⟩, harr⟩ := h b (.inScope c :: k) cs hro hb hr
  cases e with
  | normal => exact ⟨.normal, a₁, w₁, hq, .head h0 stepR_scope (StepsIn.trans harr (.one (fenced_calm hb hr rfl) stepR_inScope))⟩
  | exit id =>
    have hx : exitTo id (.inScope c :: k) = exitTo id k := by simp [exitTo]
    exact ⟨.exit id, a₁, w₁, hq, fun k' hk => .head h0 stepR_scope (harr.1 k' (by rw [hx]; exact hk)),
      fun hr' hk => let ⟨k₁, h1, h2⟩ := harr.2 hr' (by rw [hx]; exact hk); ⟨k₁, h1, .head h0 stepR_scope h2⟩⟩
  | goto l => exact (hg l rfl).elim
  | ret => exact ⟨_, a₁, w₁, hq, .of_steps (.one h0 stepR_scope) harr⟩
  | panic ch => exact ⟨_, a₁, w₁, hq, .of_steps (.one h0 stepR_scope) harr⟩
  | outgrown => exact ⟨_, a₁, w₁, hq, .of_steps (.one h0 stepR_scope) harr⟩
def scopeQ (Q : P4 B) : P4 B
  | .goto _, _, _, _ => False
  | e, ds, E, S => Q e ds E S
theorem X_scope {c : Code} (h : X P B A r N c ds E S (scopeQ Q)) : X P B A r N (.scope c) ds E S Q := fun a w ho hs => wpIn_scope (wpIn_mono (h a w ho hs) (by
  rintro e a1 w1 ⟨ds1, E1, S1, ok1, st1, q1⟩
  cases e with
  | goto l => exact q1.elim
  | _ => exact ⟨by simp, ds1, E1, S1, ok1, st1, q1⟩))
theorem scopeQ_ret (h : Q .ret ds E S) : scopeQ Q .ret ds E S := h
theorem scopeQ_normal (h : Q .normal ds E S) : scopeQ Q .normal ds E S := h
theorem scopeQ_exit {i : Nat} (h : Q (.exit i) ds E S) : scopeQ Q (.exit i) ds E S := h

/-! ### Maps of integers -/
def lkI : List (Int × Int) → Int → Option Int
  | [], _ => none
  | (a, c) :: l, k => if k = a then some c else lkI l k
theorem lkI_app {l : List (Int × Int)} {k v : Int} (h : lkI l k = none) : ∀ j, lkI (l ++ [(k, v)]) j = if j = k then some v else lkI l j := by
  induction l with
  | nil => intro j; simp [lkI]
  | cons p l ih =>
    obtain ⟨a, c⟩ := p
    intro j
    simp only [lkI] at h
    by_cases e : k = a
    · rw [if_pos e] at h; cases h
    · rw [if_neg e] at h
      simp only [List.cons_append, lkI]
      by_cases e2 : j = a
      · rw [if_pos e2, if_neg (by omega), if_pos e2]
      · rw [if_neg e2, ih h j, if_neg e2]
def Ent (es : List MapEntry) (l : List (Int × Int)) : Prop := es.map (fun e => (e.key, e.val)) = l.map fun p => (Value.int .i64 p.1, Value.int .i64 p.2)
/-- A map of integers to integers, as a function. -/
def mapF (b : Nat) (f : Int → Option Int) : Asrt B where
  holds D w := (∀ k, D k ↔ k = b) ∧ ∃ es clock l, w.heap[b]? = some (.map es clock) ∧ Ent es.toList l ∧ ∀ k, lkI l k = f k
  stable := fun h hs => by
    obtain ⟨h1, es, cl, l, h2, h3⟩ := h
    exact ⟨h1, es, cl, l, (hs b (.inr ((h1 b).2 rfl))).trans h2, h3⟩
theorem findNow_ent : ∀ {es : List MapEntry} {l : List (Int × Int)} (k : Int) (i : Nat), Ent es l → ∃ r, Instr.findNow (.int .i64) (.int .i64 k) es i = some r ∧ r.map (·.2) = (lkI l k).map (Value.int .i64)
  | [], [], k, i, _ => ⟨none, rfl, rfl⟩
  | [], _ :: _, k, i, h => by simp [Ent] at h
  | _ :: _, [], k, i, h => by simp [Ent] at h
  | e :: es, (a, c) :: l, k, i, h => by
    simp only [Ent, List.map_cons, List.cons.injEq, Prod.mk.injEq] at h
    obtain ⟨⟨h1, h2⟩, h3⟩ := h
    simp only [Instr.findNow, h1, Instr.sameNow, if_true]
    by_cases e1 : k = a
    · refine ⟨some (i, e.val), by simp [e1], by simp [lkI, e1, h2]⟩
    · obtain ⟨r, g1, g2⟩ := findNow_ent k (i + 1) h3
      refine ⟨r, ?_, by simp [lkI, e1, g2]⟩
      rw [show (k == a) = false by simp [e1]]; exact g1
/-- What is known of a map's type: integers to integers. -/
def mapT (P : Program) (t : Nat) : Bool := match P.underlying t with
  | some (.map k e) => match P.underlying k, P.underlying e, P.info? e with
    | some (.int .i64), some (.int .i64), some i => match i.zero with
      | some (.int .i64 0) => true
      | _ => false
    | _, _, _ => false
  | _ => false
theorem mapT_spec {t : Nat} (h : mapT P t = true) : ∃ k e i, P.underlying t = some (.map k e) ∧ P.underlying k = some (.int .i64) ∧ P.info? e = some i ∧ i.zero = some (.int .i64 0) := by
  unfold mapT at h
  split at h
  · rename_i k e hu
    split at h
    · rename_i i h1 h2 h3
      split at h
      · rename_i hz; exact ⟨k, e, i, hu, h1, h3, hz⟩
      · cases h
    · cases h
  · cases h
theorem run_checkInt {kt : TypeId} {k : Int} {em : Bool} {n : Nat} {w : World} (hd : P.underlying kt = some (.int .i64)) : (Instr.checkKey em (n + 1) kt (.int .i64 k)).run P w = .ok () w := by
  unfold Instr.checkKey
  simp [run_underlying hd]
theorem run_lookI {t b : Nat} {f : Int → Option Int} {k : Int} {D : Nat → Prop} {w : World} (ht : mapT P t = true) (h : (mapF (B := B) b f).holds D w) (ok : Bool) :
    (Instr.lookup t (.map (some b)) (.int .i64 k) ok).run P w = .ok (if ok then .tuple #[.int .i64 ((f k).getD 0), .bool (f k).isSome] else .int .i64 ((f k).getD 0)) w := by
  obtain ⟨kt, e, i, h1, h2, h3, h4⟩ := mapT_spec ht
  obtain ⟨_, es, cl, l, g1, g2, g3⟩ := h
  obtain ⟨r, k1, k2⟩ := findNow_ent k 0 g2
  rw [g3] at k2
  cases hf : f k with
  | none =>
    rw [hf] at k2
    have hr : r = none := by cases r with
      | none => rfl
      | some p => simp at k2
    subst hr
    cases ok <;> simp [Instr.lookup, run_underlying h1, MapKept.run_getObj_map g1, run_checkInt h2, Instr.findKey, run_underlying h2, k1, zeroValue, typeInfo, h3, h4]
  | some c =>
    rw [hf] at k2
    obtain ⟨p, rfl⟩ : ∃ p, r = some p := by cases r with
      | none => simp at k2
      | some p => exact ⟨p, rfl⟩
    simp at k2
    obtain ⟨j, v⟩ := p
    simp only at k2; subst k2
    cases ok <;> simp [Instr.lookup, run_underlying h1, MapKept.run_getObj_map g1, run_checkInt h2, Instr.findKey, run_underlying h2, k1]
theorem D_look {t b : Nat} {f : Int → Option Int} {k : Int} {x y : Operand} (hx : ev E x = some (.map (some b))) (hy : ev E y = some (.int .i64 k)) (ho' : Out (mapF b f) S R) (ht : mapT P t = true) : Det P B A N ds E S (.lookup t x y false) (.int .i64 ((f k).getD 0)) :=
  ⟨by simp, by simp, fun a w ty pos aft g d ho hs => by
    obtain ⟨D, hK⟩ := hs.mem ho'
    simp [execOp, ho.ev hx, ho.ev hy, run_lookI ht hK]⟩
theorem D_look2 {t b : Nat} {f : Int → Option Int} {k : Int} {x y : Operand} (hx : ev E x = some (.map (some b))) (hy : ev E y = some (.int .i64 k)) (ho' : Out (mapF b f) S R) (ht : mapT P t = true) : Det P B A N ds E S (.lookup t x y true) (.tuple #[.int .i64 ((f k).getD 0), .bool (f k).isSome]) :=
  ⟨by simp, by simp, fun a w ty pos aft g d ho hs => by
    obtain ⟨D, hK⟩ := hs.mem ho'
    simp [execOp, ho.ev hx, ho.ev hy, run_lookI ht hK]⟩
def updF (f : Int → Option Int) (k v : Int) : Int → Option Int := fun j => if j = k then some v else f j
theorem St.mapset {b : Nat} {f f' : Int → Option Int} {w : World} {es es' : Array MapEntry} {cl cl' : Nat} {l : List (Int × Int)} (h : St B A (mapF b f :: S) w) (h1 : w.heap[b]? = some (.map es cl)) (h2 : Ent es'.toList l) (h3 : ∀ k, lkI l k = f' k) : St B A (mapF b f' :: S) { w with heap := w.heap.setIfInBounds b (.map es' cl') } := by
  obtain ⟨D, ⟨D1, D2, hD, hdj, ⟨hD1, _⟩, hS⟩, r⟩ := h
  have hs : St B A (obj b (.map es cl) :: S) w := ⟨D, ⟨D1, D2, hD, hdj, ⟨hD1, h1⟩, hS⟩, r⟩
  have hlt := (Array.getElem?_eq_some_iff.1 h1).1
  have := hs.set (w' := { w with heap := w.heap.setIfInBounds b (.map es' cl') }) (o' := .map es' cl') (by simp [hlt]) (fun k hk => by simp [Ne.symm hk]) (by simp) rfl rfl rfl
  obtain ⟨D', ⟨D1', D2', hD', hdj', ⟨k1, k2⟩, hS'⟩, r'⟩ := this
  exact ⟨D', ⟨D1', D2', hD', hdj', ⟨k1, es', cl', l, k2, h2, h3⟩, hS'⟩, r'⟩
theorem run_putI {t b : Nat} {f : Int → Option Int} {k v : Int} {w : World} (ht : mapT P t = true) (h : St B A (mapF b f :: S) w) (hk : f k = none) : ∃ w', (Instr.mapUpdate t (.map (some b)) (.int .i64 k) (.int .i64 v)).run P w = .ok () w' ∧ St B A (mapF b (updF f k v) :: S) w' := by
  obtain ⟨kt, e, i, h1, h2, h3, h4⟩ := mapT_spec ht
  obtain ⟨D, hK⟩ := h.mem (.here _ _)
  obtain ⟨_, es, cl, l, g1, g2, g3⟩ := hK
  obtain ⟨r, k1, k2⟩ := findNow_ent k 0 g2
  rw [g3, hk] at k2
  have hr : r = none := by cases r with
    | none => rfl
    | some p => simp at k2
  subst hr
  refine ⟨{ w with heap := w.heap.setIfInBounds b (.map (es.push { key := .int .i64 k, val := .int .i64 v, born := cl }) (cl + 1)) }, ?_, h.mapset g1 (l := l ++ [(k, v)]) ?_ ?_⟩
  · simp [Instr.mapUpdate, run_underlying h1, MapKept.run_getObj_map g1, run_checkInt h2, Instr.findKey, run_underlying h2, k1, MapKept.run_setObj_map _ g1]
  · unfold Ent at g2 ⊢
    simp [g2]
  · intro j
    rw [lkI_app (by rw [g3]; exact hk) j, g3]; rfl
theorem F_put {t b : Nat} {f : Int → Option Int} {k v : Int} {x y z : Operand} (hx : ev E x = some (.map (some b))) (hy : ev E y = some (.int .i64 k)) (hz : ev E z = some (.int .i64 v)) (ho' : Out (mapF b f) S R) (ht : mapT P t = true) (hk : f k = none) : Eff P B A N ds E S (.mapUpdate t x y z) (mapF b (updF f k v) :: R) :=
  ⟨by simp, fun a w ty pos aft g ho hs => by
    obtain ⟨w', h1, h2⟩ := run_putI (P := P) (k := k) (v := v) ht (hs.take (.cons ho' (.nil _))) hk
    exact ⟨w', by simp [execOp, ho.ev hx, ho.ev hy, ho.ev hz, h1], h2⟩⟩
theorem F_ins {t b : Nat} {f : Int → Option Int} {k v : Int} {x y z : Operand} (hx : ev E x = some (.map (some b))) (hy : ev E y = some (.int .i64 k)) (hz : ev E z = some (.int .i64 v)) (ho' : Out (mapF b f) S R) (ht : mapT P t = true) (hk : f k = none) : Eff P B A N ds E S (.insert t x y z) (mapF b (updF f k v) :: R) :=
  ⟨by simp, fun a w ty pos aft g ho hs => by
    obtain ⟨w', h1, h2⟩ := run_putI (P := P) (k := k) (v := v) ht (hs.take (.cons ho' (.nil _))) hk
    exact ⟨w', by simp [execOp, ho.ev hx, ho.ev hy, ho.ev hz, h1], h2⟩⟩
theorem XL_makeMap {t : Nat} (hw : Want ops N E g) (hd : Nat.blt d N = true)
    (h : ∀ b, XL P B A r N ops rest ds ((d, .map (some b)) :: E) (mapF b (fun _ => none) :: S) Q) : XL P B A r N ops (⟨some d, .makeMap t none, ty, pos, aft, g⟩ :: rest) ds E S Q :=
  XL_op (α := Nat) (fun b => .map (some b)) (fun b => mapF b (fun _ => none) :: S) (fun _ => True) hw (by simp) hd (fun a w ho hs => by
    refine ⟨w.heap.size, w.alloc (.map #[] 0), by simp [execOp, show (Instr.makeMap t none).run P w = .ok (.map (some w.heap.size)) (w.alloc (.map #[] 0)) from rfl], ?_, trivial⟩
    obtain ⟨D, ⟨D1, D2, hD, hdj, ⟨h1, h2⟩, hS⟩, r⟩ := hs.new (.map #[] 0)
    exact ⟨D, ⟨D1, D2, hD, hdj, ⟨h1, #[], 0, [], h2, rfl, fun _ => rfl⟩, hS⟩, r⟩) (fun b _ => h b)
/-! ### Regions that draw: other forms of the memory -/
theorem XA_conv {ku : Bool} {K S' : List (Asrt B)} {n : Nat} {listed : Array Bool} (hc : ∀ w, St B A (K ++ S) w → St B A (K ++ S') w) (h : XA ku P B A r N ops K n listed ds E S' Q) : XA ku P B A r N ops K n listed ds E S Q :=
  fun a w ho hs => h a w ho (hc w hs)
theorem XA_blkrow {ku : Bool} {K : List (Asrt B)} {m : Nat} {listed : Array Bool} {b e : Nat} {cs : List Value} (n sz : Nat) (ho : Out (blk b cs e) S R) (hl : Nat.beq cs.length (n * sz) = true) (hn : Nat.ble n 9223372036854775807 = true) (h : XA ku P B A r N ops K m listed ds E (row (.slice (some ⟨b, 0, none⟩) n n) e sz n cs :: R) Q) : XA ku P B A r N ops K m listed ds E S Q :=
  XA_conv (fun w hs => by
    have h1 := hs.blk_row (ho.pre K) (Nat.eq_of_beq_eq_true hl) (by unfold maxLen; have := Nat.le_of_ble_eq_true hn; omega)
    have h2 : St B A ([row (.slice (some ⟨b, 0, none⟩) n n) e sz n cs] ++ (K ++ R)) w := h1
    simpa using h2.mid) h
/-- make, of so many elements, its cells told. -/
theorem XL_makec {t e sz by' n : Nat} {z cs : List Value} {x x' : Operand} (hw : Want ops N E g) (hx : ev E x = some (.int .i64 (n : Int))) (hy : ev E x' = some (.int .i64 (n : Int))) (ht : slT P t = some (e, sz, by', z)) (hn : n * by' ≤ 281474976710656) (h63 : n ≤ 9223372036854775807 - 1000) (hm : madeCells z.toArray (n * sz) = cs.toArray) (hl : Nat.beq cs.length (n * sz) = true) (hd : Nat.blt d N = true)
    (h : ∀ b, XL P B A r N ops rest ds ((d, .slice (some ⟨b, 0, none⟩) n n) :: E) (blk b cs e :: S) Q) : XL P B A r N ops (⟨some d, .makeSlice t x x', ty, pos, aft, g⟩ :: rest) ds E S Q := by
  refine XL_op (α := Nat) (fun b => .slice (some ⟨b, 0, none⟩) n n) (fun b => blk b cs e :: S) (fun _ => True) hw (by simp) hd (fun a w ho hs => ?_) (fun b _ => h b)
  obtain ⟨i, zv, hu, hi, hz, hsz, hbt, hzs, hps, hzl⟩ := slT_spec ht
  have hb : (i.bytes : Int) * (n : Int) ≤ 281474976710656 := by
    have : ((i.bytes * n : Nat) : Int) ≤ 281474976710656 := by rw [hbt, Nat.mul_comm]; omega
    rwa [Int.natCast_mul] at this
  refine ⟨w.heap.size, w.alloc (.cells cs.toArray e), ?_, hs.new _, trivial⟩
  have hr := run_make (P := P) w t e i zv hu hi hz .i64 .i64 (n : Int) (n : Int) (by omega) (Int.le_refl _) hb (by omega)
  have hzc : zv.cells = z.toArray := by apply Array.ext'; rw [hzl]
  rw [hzc, hsz] at hr
  simp only [Int.toNat_natCast] at hr
  rw [hm] at hr
  simp [execOp, ho.ev hx, ho.ev hy, hr]
theorem Ctr.dup {f : FuncId} {args : List Value} {K : Asrt B} {post : Value → List (Asrt B) → Prop} (h : Ctr P B f args (K :: S) post) (ho : Out K S R) (hd : Dup K) : Ctr P B f args S post := fun w D hs hD hB => h w D (hs.dup ho hd) hD hB
end Go.Sl
end

section
/- A call of yield in a region that draws. My own. -/
namespace Go.Sl
open Go
set_option linter.unusedVariables false
variable {P : Program} {B : Nat} {A : Amb} {r : Option Nat} {N : Nat} {ds : List Nat} {E E' : Env} {S S1 R R' L F Fr own K : List (Asrt B)} {Q Q' : P4 B} {ops : Array Oper} {ku : Bool}
variable {d : Nat} {ty : TypeId} {pos : String} {aft : Array Edge} {g : Option (Nat × Bool)}
theorem XO_yield {n i : Nat} {listed : Array Bool} {l : Nat} {f : Operand} {xs : List Operand} {args : List Value} {ats : Array TypeId} {Si F Z : List (Asrt B)} {post : Bool → List (Asrt B) → Prop}
    (hi : ops[i]? = some ⟨some d, .call { callee := .value f, args := xs.toArray, argTypes := ats }, ty, pos, aft, g⟩) (hw : Want ops N E g) (hf : ev E f = some (.func (.yield l) #[] #[])) (ha : evs E xs = some args) (hZ : App K S Z) (hy : Yld P B l args Si post) (ht : Take Si Z F) (hd : Nat.blt d N = true)
    (h : ∀ b S', post b S' → ∃ S2 Z2 R, App K S2 Z2 ∧ Take Z2 (S' ++ F) R ∧ XA ku P B A r N ops K n (listed.setIfInBounds i true) ds ((d, .bool b) :: E) S2 Q) : XO ku P B A r N ops K n listed i ds E S Q := by
  intro a w ho hs
  unfold wpOpIn
  simp only [hi]
  rw [if_pos (Want.wanted (o := ⟨some d, .call { callee := .value f, args := xs.toArray, argTypes := ats }, ty, pos, aft, g⟩) hw ho)]
  refine ⟨fun _ _ => trivial, ?_⟩
  have hargs := ho.evs ha
  have hsz := hs.size
  have hs' : St B A Z w := by rw [← hZ.eq]; exact hs
  obtain ⟨D, g1, g2, g3, g4, g5, g6⟩ := hs'.take ht
  obtain ⟨Dp, DF, hD, hdj, hpre, hF⟩ := g1.append
  obtain ⟨fn, tmps, assign, body, hrun, hround⟩ := hy w Dp hpre (fun k hk => g2 k ((hD k).2 (.inl hk))) hsz
  rw [Oper.semAt_eq _ _ _ (by simp)]
  have e : (execOp a.eval ⟨some d, .call { callee := .value f, args := xs.toArray, argTypes := ats }, ty, pos, aft, g⟩).run P w = .ok (.round l fn tmps assign body) w := by
    simp only [execOp, resolve, ho.ev hf, Sem.run_bind]
    simp [Deferred.ofValue, invoke, hargs, hrun]
  rw [e]
  refine ⟨by simp [Fence.wide], ?_⟩
  refine RoundIn.mono hround ?_
  rintro e w' ⟨b, S', rfl, hp, hst⟩
  obtain ⟨S2, Z2, R, q1, q2, q3⟩ := h b S' hp
  refine q3 _ w' (ho.put (by simpa using hd)) ?_
  rw [q1.eq]; exact (St.frame_at g1 g2 g3 g4 g5 g6 hD hdj hF hst).shed q2
variable {w : World} {v : Value}
/-- A store of one cell of an element of a row of one's own. -/
theorem F_rsp {α : Type} {enc : α → List Value} {oad : Option Addr} {c n sz k : Nat} {xs xs' : List α} {t e i : Nat} {a y : α} {x z : Operand} (hown : ∀ ad, oad = some ad → ∃ g, ad = ⟨g, 0, none⟩)
    (hx : ev E x = some (.pointer (some ((oad.getD ⟨0, 0, none⟩).add (i * sz + k))))) (hy : ev E z = some v) (he : ∀ a, (enc a).length = sz) (hk : k < sz) (ha : xs[i]? = some a) (hv : (enc a).set k v = enc y) (h1 : v.oneCell' = true) (ho' : Out (row (.slice oad n c) e sz n (xs.flatMap enc)) S R) (ht : tyK P t = some (false, 1))
    (hs' : xs.set i y = xs') : Eff P B A N ds E S (.store t x z) (row (.slice oad n c) e sz n (xs'.flatMap enc) :: R) :=
  ⟨by simp, fun a' w ty pos aft g ho hs => by
    have hi : i < xs.length := (List.getElem?_eq_some_iff.1 ha).1
    have hfl : ∀ l : List α, (l.flatMap enc).length = l.length * sz := fun l => flat_len (sz := sz) he (l := l)
    have hst : St B A (row (.slice oad n c) e sz n (xs.flatMap enc) :: R) w := hs.take (.cons ho' (.nil _))
    have hlt : i * sz + k < xs.length * sz := by
      have h3 : (i + 1) * sz ≤ xs.length * sz := Nat.mul_le_mul_right _ hi
      rw [Nat.succ_mul] at h3; omega
    cases oad with
    | none =>
      obtain ⟨D, ⟨⟨h2, h3⟩, _⟩⟩ := hst.mem (.here _ _)
      rcases h3 with ⟨_, h3⟩ | ⟨g, cap, cur, hv, _⟩
      · rw [hfl, h3] at h2; omega
      · cases hv
    | some ad =>
      obtain ⟨b, rfl⟩ := hown ad rfl
      have hx : ev E x = some (.pointer (some ⟨b, i * sz + k, none⟩)) := by rw [hx]; simp [add_off]
      obtain ⟨cur, hb, g1, g2, g3, g4, g5, g6⟩ := hst.row_cells
      rw [hfl] at g1
      have hn : n * sz ≤ c * sz := Nat.mul_le_mul_right _ g3
      obtain ⟨D, hobj⟩ := hb.mem (.here _ _)
      refine ⟨w.setCell ⟨b, i * sz + k, none⟩ v, by simp [execOp, ho.ev hx, ho.ev hy, run_store1 (k := i * sz + k) h1 ht (by omega) hobj.2], ?_⟩
      refine (hb.store (i * sz + k) v).cells_row (by rw [hfl, ← hs', List.length_set]; exact g1) g2 g3 g4 (by simpa using g5) ?_
      have hset : ∀ (l : List α) (i : Nat), l[i]? = some a → (l.flatMap enc).set (i * sz + k) v = (l.set i y).flatMap enc := by
        intro l
        induction l with
        | nil => intro i hi; simp at hi
        | cons u l ih =>
          intro i hi
          cases i with
          | zero =>
            have hu : u = a := by simpa using hi
            subst hu
            rw [Nat.zero_mul, Nat.zero_add, List.flatMap_cons, List.set_append_left _ _ (by rw [he]; exact hk), hv]; rfl
          | succ i =>
            rw [List.flatMap_cons, List.set_append_right _ _ (by rw [he, Nat.succ_mul]; omega), he, show (i + 1) * sz + k - sz = i * sz + k by rw [Nat.succ_mul]; omega, ih i (by simpa using hi)]; rfl
      rw [List.take_set, g6, hset xs i ha, hs']⟩
end Go.Sl
end
