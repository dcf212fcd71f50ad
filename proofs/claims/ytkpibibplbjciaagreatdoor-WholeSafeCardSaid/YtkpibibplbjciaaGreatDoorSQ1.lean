/- Of the proof of WholeSafe. -/
import Derived.WalkKit
import Derived.RangeFuncNested
import Derived.RangeFuncLeaves
import Derived.OrdersIn
import Derived.Shelf.Abstract
import Derived.DeepKeys
import Derived.ProofKit
import Derived.OpenShut
import Derived.ShutString
import Derived.ChangeOld
import Derived.Below
import Derived.Carry
import Derived.Deep.Slices
import Derived.LaidLaws
import Derived.LaidHandle
import Derived.MakeChecks
import Derived.FnData
import Derived.Stop.Joined
import Derived.Laws.OwnMore
import Derived.Laws.AppendOwn
import Derived.Laws.BytesArg
import Derived.Laws.MakeOwn
import Derived.MapKept
import Derived.LoopNIn
import Derived.Maps.RangeRun
import Derived.Laws.CopyRow
import Derived.KernelRfl
import Derived.Lib.Bytealg
import Derived.Lib.IndexLaws
set_option linter.unusedVariables false
set_option linter.unusedSectionVars false
set_option linter.unusedSimpArgs false
section
namespace Go.Sl
open Go
structure ar(B:Nat) where
  holds:(Nat→Prop)→World→Prop
  m2:∀{D:Nat→Prop} {w ca:World},holds D w→(∀k,k<B∨D k→ca.heap[k]?=w.heap[k]?)→holds D ca
variable{B:Nat}
def obj(b:Nat)(o:Obj):ar B where
  holds D w:=(∀k,D k↔k=b)∧w.heap[b]?=some o
  m2:=fun h aH=>⟨h.1,(aH b (.inr ((h.1 b).2 rfl))).trans h.2⟩
abbrev U(b:Nat)(aF:List Value)(t:TypeId):ar B:=obj b (.cells aF.toArray t (0,0))
def D8(W:World):ar B where
  holds D w:=(∀k,¬D k)∧∀k,k<B→w.heap[k]?=W.heap[k]?
  m2:=fun h aH=>⟨h.1,fun k ai=>(aH k (.inl ai)).trans (h.2 k ai)⟩
def row(v:Value)(e:TypeId)(aN n:Nat)(xs:List Value):ar B where
  holds D w:=w.ownsRow B e aN v n xs∧∀k,D k↔v.ownBlock=some k
  m2:=fun {D w ca} h aH=>by
    obtain⟨⟨ab,ae⟩,av⟩:=h
    refine⟨⟨ab,?_⟩,av⟩
    rcases ae with ae|⟨g,cap,dR,cL,bl,fv,r⟩
    · exact .inl ae
    · exact .inr ⟨g,cap,dR,cL,bl,(aH g (.inr ((av g).2 (by rw [cL];rfl)))).trans fv,r⟩
def ee:List (ar B)→(Nat→Prop)→World→Prop
  |[],D,_=>∀k,¬D k
  |A::L,D,w=>∃dm dY,(∀k,D k↔dm k∨dY k)∧(∀k,dm k→dY k→False)∧A.holds dm w∧ee L dY w
theorem ee.m2:∀{L:List (ar B)} {D:Nat→Prop} {w ca:World},ee L D w→(∀k,k<B∨D k→ca.heap[k]?=w.heap[k]?)→ee L D ca
  |[],_,_,_,h,_=>h
  |A::L,D,w,ca,⟨dm,dY,bU,aJ,ab,ae⟩,aH=>
    ⟨dm,dY,bU,aJ,A.m2 ab (fun k ai=>aH k (ai.imp id fun h=>(bU k).2 (.inl h))),ee.m2 ae (fun k ai=>aH k (ai.imp id fun h=>(bU k).2 (.inr h)))⟩
theorem ee.append:∀{fY g8:List (ar B)} {D:Nat→Prop} {w:World},ee (fY++g8) D w→
    ∃dm dY,(∀k,D k↔dm k∨dY k)∧(∀k,dm k→dY k→False)∧ee fY dm w∧ee g8 dY w
  |[],g8,D,w,h=>⟨fun _=>False,D,fun k=>by simp,fun _ h _=>h,fun _ h=>h,h⟩
  |A::fY,g8,D,w,⟨EY,MR,bU,aJ,a5,aR⟩=>by
    obtain⟨dm,dY,nG,wE,ab,ae⟩:=ee.append aR
    refine⟨fun k=>EY k∨dm k,dY,fun k=>?_,fun k h ae=>?_,⟨EY,dm,fun k=>Iff.rfl,fun k a5 ab=>aJ k a5 ((nG k).2 (.inl ab)),a5,ab⟩,ae⟩
    · rw [bU k,nG k,or_assoc]
    · rcases h with h|h
      · exact aJ k h ((nG k).2 (.inr ae))
      · exact wE k h ae
theorem ee.join:∀{fY g8:List (ar B)} {D dm dY:Nat→Prop} {w:World},(∀k,D k↔dm k∨dY k)→(∀k,dm k→dY k→False)→ee fY dm w→ee g8 dY w→ee (fY++g8) D w
  |[],g8,D,dm,dY,w,bU,_,ab,ae=>by
    have:D=dY:=funext fun k=>propext ⟨fun h=>((bU k).1 h).resolve_left (ab k),fun h=>(bU k).2 (.inr h)⟩
    rw [this];exact ae
  |A::fY,g8,D,dm,dY,w,bU,aJ,⟨EY,MR,nG,wE,a5,aR⟩,ae=>
    ⟨EY,fun k=>MR k∨dY k,fun k=>by rw [bU k,nG k,or_assoc],fun k ab h=>h.elim (wE k ab) (fun ae=>aJ k ((nG k).2 (.inl ab)) ae),a5,
      ee.join (fun _=>Iff.rfl) (fun k h ae=>aJ k ((nG k).2 (.inr h)) ae) aR ae⟩
inductive Out{α:Type}:α→List α→List α→Prop
  |here (x:α) (S:List α):Out x (x::S) S
  |there {x:α} {S R:List α} (y:α) (h:Out x S R):Out x (y::S) (y::R)
inductive Take{α:Type}:List α→List α→List α→Prop
  |nil (S:List α):Take [] S S
  |cons {x:α} {L S R T:List α} (h:Out x S R) (t:Take L R T):Take (x::L) S T
inductive hh{α:Type}:List α→List α→List α→Prop
  |nil (S:List α):hh [] S S
  |cons {x:α} {L S T:List α} (h:hh L S T):hh (x::L) S (x::T)
theorem hh.eq{α:Type}{L S T:List α}(h:hh L S T):L++S=T:=by
  induction h with
  |nil S=>rfl
  |cons h ih=>rw [List.cons_append,ih]
theorem Take.self{α:Type}:∀(S:List α),Take S S []
  |[]=> .nil _
  |x::S=> .cons (.here x S) (Take.self S)
theorem Out.mP{x:ar B}{S R:List (ar B)}(h:Out x S R):∀{D w},ee S D w→ee (x::R) D w:=by
  induction h with
  |here S=>exact fun h=>h
  |there y h ih=>
    intro D w ⟨dm,dY,bU,aJ,ab,ae⟩
    obtain⟨jk,jB,nG,wE,av,aV⟩:=ih ae
    refine⟨jk,fun k=>dm k∨jB k,fun k=>?_,fun k ai h=>?_,av,dm,jB,fun _=>Iff.rfl,fun k ai h=>aJ k ai ((nG k).2 (.inr h)),ab,aV⟩
    · rw [bU k,nG k];exact⟨fun h=>h.elim (fun h=> .inr (.inl h)) (fun h=>h.elim .inl (fun h=> .inr (.inr h))),fun h=>h.elim (fun h=> .inr (.inl h)) (fun h=>h.elim .inl (fun h=> .inr (.inr h)))⟩
    · exact h.elim (fun h=>aJ k h ((nG k).2 (.inl ai))) (fun h=>wE k ai h)
theorem Take.mP{L S R:List (ar B)}(h:Take L S R):∀{D w},ee S D w→ee (L++R) D w:=by
  induction h with
  |nil S=>exact fun h=>h
  |cons h t ih=>
    intro D w dj
    obtain⟨dm,dY,bU,aJ,ab,ae⟩:=h.mP dj
    exact⟨dm,dY,bU,aJ,ab,ih ae⟩
structure u9(kP:World)(dm:Nat→Prop)(w:World):Prop where
  os:w.os=kP.os
  tape:w.tape=kP.tape
  output:w.output=kP.output
  size:kP.heap.size≤w.heap.size
  same:∀k,k<kP.heap.size→¬dm k→w.heap[k]?=kP.heap[k]?
theorem u9.refl(w:World)(D:Nat→Prop):u9 w D w:=⟨rfl,rfl,rfl,Nat.le_refl _,fun _ _ _=>rfl⟩
structure e0 where
  kP:World
  dm:Nat→Prop
def bC(B:Nat)(A:e0)(S:List (ar B))(w:World):Prop:=
  ∃D,ee S D w∧(∀k,D k→B≤k∧k<w.heap.size)∧(∀k,D k→A.dm k∨A.kP.heap.size≤k)∧u9 A.kP A.dm w∧B≤A.kP.heap.size∧(∀k,A.dm k→B≤k)
variable{A:e0}{S R L:List (ar B)}{w ca:World}
theorem bC.size(h:bC B A S w):B≤w.heap.size:=let⟨_,_,_,_,bs,aR,_⟩:=h;Nat.le_trans aR bs.size
theorem bC.take(h:bC B A S w)(t:Take L S R):bC B A (L++R) w:=by
  obtain⟨D,ab,ae⟩:=h
  exact⟨D,t.mP ab,ae⟩
theorem bC.drop(h:bC B A (L++R) w):bC B A L w:=by
  obtain⟨D,ab,ae,av,aV⟩:=h
  obtain⟨dm,dY,bU,_,aE,_⟩:=ab.append
  exact⟨dm,aE,fun k ai=>ae k ((bU k).2 (.inl ai)),fun k ai=>av k ((bU k).2 (.inl ai)),aV⟩
theorem bC.nz(h:bC B A S w)(t:Take L S R):bC B A L w:=(h.take t).drop
theorem ee.new{D:Nat→Prop}{o:Obj}(h:ee S D w)(bU:∀k,D k→B≤k∧k<w.heap.size)(h1:B≤w.heap.size):
    ee (obj w.heap.size o::S) (fun k=>k=w.heap.size∨D k) (w.alloc o):=
  ⟨fun k=>k=w.heap.size,D,fun _=>Iff.rfl,fun k ai aJ=>by have:=(bU k aJ).2;omega,⟨fun _=>Iff.rfl,World.alloc_heap_new w o⟩,
    h.m2 (fun k ai=>Go.RowKit.Below.heap_alloc _ _ _ (by rcases ai with ai|ai;omega;exact(bU k ai).2))⟩
end Go.Sl
end
section
namespace Go.Sl
open Go
variable{B:Nat}{A:e0}{S R L F:List (ar B)}{w ca:World}
theorem bC.new(h:bC B A S w)(o:Obj):bC B A (obj w.heap.size o::S) (w.alloc o):=by
  obtain⟨D,ab,ae,av,aV,bN,c0⟩:=h
  refine⟨fun k=>k=w.heap.size∨D k,ab.new ae (Nat.le_trans bN aV.size),fun k ai=>?_,fun k ai=>?_,⟨aV.os,aV.tape,aV.output,?_,fun k ai aP=>?_⟩,bN,c0⟩
  · simp only [World.size_alloc]
    rcases ai with rfl|ai
    · exact⟨Nat.le_trans bN aV.size,by omega⟩
    · have:=ae k ai;omega
  · rcases ai with rfl|ai
    · exact .inr aV.size
    · exact av k ai
  · simp only [World.size_alloc];have:=aV.size;omega
  · rw [Go.RowKit.Below.heap_alloc _ _ _ (by have:=aV.size;omega)];exact aV.same k ai aP
theorem bC.set{b:Nat}{o gC:Obj}(h:bC B A (obj b o::S) w)(aR:ca.heap[b]?=some gC)(aq:∀k,k≠b→ca.heap[k]?=w.heap[k]?)
    (fB:ca.heap.size=w.heap.size) (LY:ca.os=w.os) (aL:ca.tape=w.tape) (uZ:ca.output=w.output):bC B A (obj b gC::S) ca:=by
  obtain⟨D,⟨dm,dY,bU,aJ,gM,aH⟩,ae,av,aV,bN,c0⟩:=h
  have HD:D b:=(bU b).2 (.inl ((gM.1 b).2 rfl))
  refine⟨D,⟨dm,dY,bU,aJ,⟨gM.1,aR⟩,aH.m2 fun k ai=>aq k ?_⟩,fun k ai=>by rw [fB];exact ae k ai,av,⟨LY.trans aV.os,aL.trans aV.tape,uZ.trans aV.output,by rw [fB];exact aV.size,fun k ai aP=>?_⟩,bN,c0⟩
  · rintro rfl
    rcases ai with ai|ai
    · have:=(ae k HD).1;omega
    · exact aJ k ((gM.1 k).2 rfl) ai
  · rw [aq k,aV.same k ai aP]
    rintro rfl
    rcases av k HD with h|h
    · exact aP h
    · omega
theorem bC.same(h:bC B A S w)(fv:ca.heap=w.heap)(LY:ca.os=w.os)(aL:ca.tape=w.tape)(uZ:ca.output=w.output):bC B A S ca:=by
  obtain⟨D,ab,ae,av,aV,bN,c0⟩:=h
  exact⟨D,ab.m2 (fun k _=>by rw [fv]),fun k ai=>by rw [fv];exact ae k ai,av,⟨LY.trans aV.os,aL.trans aV.tape,uZ.trans aV.output,by rw [fv];exact aV.size,fun k ai aP=>by rw [fv];exact aV.same k ai aP⟩,bN,c0⟩
theorem bC.drew(h:bC B A S w):bC B A S w.drew:=h.same rfl rfl rfl rfl
theorem bC.pg{pre bc:List (ar B)}{D ij ng:Nat→Prop}(ab:ee (pre++F) D w)(ae:∀k,D k→B≤k∧k<w.heap.size)(av:∀k,D k→A.dm k∨A.kP.heap.size≤k)(aV:u9 A.kP A.dm w)(bN:B≤A.kP.heap.size)(c0:∀k,A.dm k→B≤k)
    (bU:∀k,D k↔ij k∨ng k) (aJ:∀k,ij k→ng k→False) (h2:ee F ng w) (aC:bC B ⟨w,ij⟩ bc ca):bC B A (bc++F) ca:=by
  obtain⟨su,a1,a3,bI,cv,eX,fJ⟩:=aC
  have fB:=cv.size
  have key:∀k,ng k→k<w.heap.size∧¬ij k:=fun k ai=>⟨(ae k ((bU k).2 (.inr ai))).2,fun h=>aJ k h ai⟩
  refine⟨fun k=>su k∨ng k,ee.join (fun _=>Iff.rfl) (fun k h eE=>?_) a1 (h2.m2 fun k ai=>?_),fun k ai=>?_,fun k ai=>?_,⟨cv.os.trans aV.os,cv.tape.trans aV.tape,cv.output.trans aV.output,Nat.le_trans aV.size fB,fun k ai aP=>?_⟩,bN,c0⟩
  · rcases bI k h with ab|ab
    · exact aJ k ab eE
    · have:=(key k eE).1;simp only at ab;omega
  · rcases ai with ai|ai
    · exact cv.same k (by simp only;simp only at eX;omega) (fun h=>by have:=fJ k h;omega)
    · exact cv.same k (key k ai).1 (key k ai).2
  · rcases ai with ai|ai
    · exact a3 k ai
    · have:=ae k ((bU k).2 (.inr ai));simp only at fB;omega
  · rcases ai with ai|ai
    · rcases bI k ai with h|h
      · exact av k ((bU k).2 (.inl h))
      · have:=aV.size;simp only at h;exact .inr (by omega)
    · exact av k ((bU k).2 (.inr ai))
  · by_cases pF:ij k
    · rcases av k ((bU k).2 (.inl pF))with h|h
      · exact absurd h aP
      · omega
    · have fO:=aV.size
      exact(cv.same k (by simp only;omega) pF).trans (aV.same k ai aP)
theorem bC.mem{x:ar B}(h:bC B A S w)(aq:Out x S R):∃D,x.holds D w:=by
  obtain⟨D,ab,_⟩:=h
  obtain⟨dm,dY,_,_,av,_⟩:=aq.mP ab
  exact⟨dm,av⟩
abbrev Env:=List (Nat×Value)
def Env.get:Env→Nat→Option Value
  |[],_=>none
  |(k,v)::E,t=>bif Nat.beq t k then some v else Env.get E t
def Env.sub:Env→Env→Prop
  |[],_=>True
  |(k,v)::E,fK=>fK.get k=some v∧Env.sub E fK
theorem Env.sub.get:∀{E fK:Env},E.sub fK→∀{t v},E.get t=some v→fK.get t=some v
  |[],_,_,_,_,h=>by cases h
  |(k,u)::E,fK,⟨ab,ae⟩,t,v,h=>by
    simp only [Env.get]at h
    cases aR:Nat.beq t k with
    |true=>rw [aR]at h;simp at h;subst h;rw [Nat.eq_of_beq_eq_true aR];exact ab
    |false=>rw [aR]at h;exact Env.sub.get ae h
class m6 where
  l:List Deferred
instance adj:m6:=⟨[]⟩
theorem xp:(@m6.l adj)=[]:=rfl
variable[m6]
structure dO(N:Nat)(ao:List Nat)(E:Env)(a:Act):Prop where
  size:a.tmps.size=N
  qd:a.defers=(ao.map fun d=>{target:= .collected d,args:= #[]})++m6.l
  get:∀t v,E.get t=some v→a.tmps.getD t undef=v
def aX(E:Env):Operand→Option Value
  | .tmp t=>E.get t
  | .const v=>some v
  | .global g=>some (.pointer (some ⟨g,0,none⟩))
  | .func f=>some (.func (.func f) #[] #[])
variable{N d t:Nat}{ao:List Nat}{E fK:Env}{a:Act}{v:Value}{x:Operand}
theorem dO.aX(h:dO N ao E a)(al:aX E x=some v):a.eval x=v:=by
  cases x with
  |tmp t=>exact h.get t v al
  |const u=>simpa [Sl.aX,Act.eval]using al
  |global g=>simpa [Sl.aX,Act.eval]using al
  |func f=>simpa [Sl.aX,Act.eval]using al
theorem dO.sub(h:dO N ao E a)(aH:fK.sub E):dO N ao fK a:=⟨h.size,h.qd,fun t v aL=>h.get t v (aH.get aL)⟩
theorem dO.put(h:dO N ao E a)(aJ:d<N):dO N ao ((d,v)::E) (a.put (some d) v):=by
  refine⟨by simp [Act.put,h.size],h.qd,fun t u aL=>?_⟩
  simp only [Env.get]at aL
  simp only [Act.put]
  cases aR:Nat.beq t d with
  |true=>
    rw [aR]at aL;simp at aL;subst aL
    obtain rfl:=Nat.eq_of_beq_eq_true aR
    have:t<a.tmps.size:=by rw [h.size];exact aJ
    simp [Array.getD,this]
  |false=>
    rw [aR]at aL
    have gr:d≠t:=fun e=>by subst e;simp at aR
    have:=h.get t u aL
    rw [←this]
    simp [Array.getD_eq_getD_getElem?,gr]
end Go.Sl
end
section
namespace Go.Sl
open Go
abbrev nh(r:Option Nat):Fence:={Fence.wide with round:=r}
abbrev fw(B:Nat):=Exit→List Nat→Env→List (ar B)→Prop
section
variable[m6]
def we(B:Nat)(A:e0)(N:Nat)(Q:fw B):Exit→Act→World→Prop:=fun e a w=>∃ao E S,dO N ao E a∧bC B A S w∧Q e ao E S
def X(P:Program)(B:Nat)(A:e0)(r:Option Nat)(N:Nat)(c:Code)(ao:List Nat)(E:Env)(S:List (ar B))(Q:fw B):Prop:=
  ∀a w,dO N ao E a→bC B A S w→c.wpIn (nh r) 0 P (we B A N Q) a w
def Dq(P:Program)(B:Nat)(A:e0)(r:Option Nat)(N:Nat)(y:Code)(Q:fw B):fw B
  | .normal,ao,E,S=>X P B A r N y ao E S Q
  |e,ao,E,S=>Q e ao E S
def vY{B:Nat}(id:Nat)(Q:fw B):fw B
  | .exit i,ao,E,S=>bif Nat.beq i id then Q .normal ao E S else Q (.exit i) ao E S
  |e,ao,E,S=>Q e ao E S
end
variable{P:Program}{B:Nat}{A:e0}{r:Option Nat}{N:Nat}{c x y:Code}{ao:List Nat}{E fK:Env}{S R L F:List (ar B)}{Q ik:fw B}
section
variable[m6]
theorem cC(h:X P B A r N x ao E S (Dq P B A r N y Q)):X P B A r N (.seq x y) ao E S Q:=by
  intro a w aq aH
  refine wpIn_seq (wpIn_mono (h a w aq aH) ?_)
  rintro e jl ca ⟨kV,fK,bc,ok,cH,q⟩
  cases e with
  |normal=>exact q jl ca ok cH
  |_=>exact⟨kV,fK,bc,ok,cH,q⟩
theorem ic(h:Q .normal ao E S):X P B A r N .skip ao E S Q:=fun a w aq aH=>wpIn_skip ⟨ao,E,S,aq,aH,h⟩
theorem nv(h:Q .ret ao E S):X P B A r N .ret ao E S Q:=fun a w aq aH=>wpIn_ret ⟨ao,E,S,aq,aH,h⟩
theorem tx{id:Nat}(h:Q (.exit id) ao E S):X P B A r N (.exit id) ao E S Q:=fun a w aq aH=>wpIn_exit ⟨ao,E,S,aq,aH,h⟩
theorem mA{id:Nat}(h:X P B A r N c ao E S (vY id Q)):X P B A r N (.block id c) ao E S Q:=by
  intro a w aq aH
  refine wpIn_block (wpIn_mono (h a w aq aH) ?_)
  rintro e jl ca ⟨kV,fK,bc,ok,cH,q⟩
  cases e with
  |exit i=>
    simp only [Exit.inBlock]
    by_cases af:i=id
    · subst af
      simp only [if_true]
      exact⟨kV,fK,bc,ok,cH,by simpa [vY]using q⟩
    · have:Nat.beq i id=false:=by cases aR:Nat.beq i id with
        |true=>exact absurd (Nat.eq_of_beq_eq_true aR) af
        |false=>rfl
      simp only [af,if_false]
      exact⟨kV,fK,bc,ok,cH,by simpa [vY,this]using q⟩
  |_=>exact⟨kV,fK,bc,ok,cH,q⟩
theorem GD{o:Operand}{t:Bool}(aq:aX E o=some (.bool t))(ab:t=true→X P B A r N x ao E S Q)(ae:t=false→X P B A r N y ao E S Q):X P B A r N (.cond o x y) ao E S Q:=
  fun a w ei aH=>wpIn_cond_split (ei.aX aq) (fun h=>ab h a w ei aH) (fun h=>ae h a w ei aH)
theorem Cp{o:Operand}{t:Bool}(aq:aX E o=some (.bool t))(aL:t=true)(h:X P B A r N x ao E S Q):X P B A r N (.cond o x y) ao E S Q:=
  GD aq (fun _=>h) (fun h=>by rw [aL]at h;cases h)
theorem uz{o:Operand}{t:Bool}(aq:aX E o=some (.bool t))(aL:t=false)(h:X P B A r N y ao E S Q):X P B A r N (.cond o x y) ao E S Q:=
  GD aq (fun h=>by rw [aL]at h;cases h) (fun _=>h)
def Dr{α:Type}(I:α→Prop)(iB:α→Env)(iC:α→List (ar B))(m:α→Nat)(x:α)(ao:List Nat)(Q:fw B):fw B
  | .normal,kV,E,S=>kV=ao∧∃h9 R,I h9∧m h9<m x∧(iB h9).sub E∧Take (iC h9) S R
  |e,ao,E,S=>Q e ao E S
theorem ds{α:Type}(I:α→Prop)(iB:α→Env)(iC:α→List (ar B))(m:α→Nat)(vt:α)(b5:I vt)(cn:(iB vt).sub E)(dj:Take (iC vt) S R)
    (h:∀x,I x→X P B A r N c ao (iB x) (iC x) (Dr I iB iC m x ao Q)):X P B A r N (.loop c) ao E S Q:=by
  intro a w aq aH
  have ag1:∃x,I x∧dO N ao (iB x) a∧bC B A (iC x) w:=⟨vt,b5,aq.sub cn,aH.nz dj⟩
  obtain⟨MS,T8⟩:∃MS:Act→World→Nat,∀a w,(∃x,I x∧dO N ao (iB x) a∧bC B A (iC x) w)→∃x,I x∧dO N ao (iB x) a∧bC B A (iC x) w∧m x=MS a w∧∀y,I y→dO N ao (iB y) a→bC B A (iC y) w→m x≤m y:=by
    classical
    let VA:Act→World→Nat→Prop:=fun a w k=>∃x,I x∧dO N ao (iB x) a∧bC B A (iC x) w∧m x=k
    have least:∀(p:Nat→Prop),(∃k,p k)→∃k,p k∧∀j,p j→k≤j:=by
      intro p ⟨k,ai⟩
      induction k using Nat.strongRecOn with
      |_ k ih=>
        by_cases h:∃j,j<k∧p j
        · obtain⟨j,aI,aC⟩:=h;exact ih j aI aC
        · exact⟨k,ai,fun j aI=>Nat.le_of_not_lt fun ey=>h ⟨j,ey,aI⟩⟩
    refine⟨fun a w=>if h:∃k,VA a w k then Classical.choose (least _ h)else 0,fun a w al=>?_⟩
    have h:∃k,VA a w k:=let⟨x,ab,ae,av⟩:=al;⟨m x,x,ab,ae,av,rfl⟩
    simp only [dif_pos h]
    obtain⟨⟨x,ab,ae,av,aV⟩,aE⟩:=Classical.choose_spec (least _ h)
    exact⟨x,ab,ae,av,aV,fun y a1 a3 bI=>by rw [aV];exact aE _ ⟨y,a1,a3,bI,rfl⟩⟩
  refine wpIn_loop (fun a w=>∃x,I x∧dO N ao (iB x) a∧bC B A (iC x) w) MS ag1 ?_
  intro a w EZ
  obtain⟨x,ab,ae,av,aV,bN⟩:=T8 a w EZ
  refine wpIn_mono (h x ab a w ae av) ?_
  rintro e jl ca ⟨kV,fK,bc,ok,cH,q⟩
  cases e with
  |normal=>
    obtain⟨rfl,h9,kn,a1,a3,bI,cv⟩:=q
    have T9:∃x,I x∧dO N kV (iB x) jl∧bC B A (iC x) ca:=⟨h9,a1,ok.sub bI,cH.nz cv⟩
    refine⟨T9,?_⟩
    obtain⟨y,_,_,_,od,z7⟩:=T8 jl ca T9
    rw [←od, ←aV]
    exact Nat.lt_of_le_of_lt (z7 h9 a1 (ok.sub bI) (cH.nz cv)) a3
  |_=>exact⟨kV,fK,bc,ok,cH,q⟩
end
def di(P:Program)(B:Nat)(f:FuncId)(args:List Value)(pre:List (ar B))(post:Value→List (ar B)→Prop):Prop:=
  ∀w D,ee pre D w→(∀k,D k→B≤k∧k<w.heap.size)→B≤w.heap.size→
    CallsIn (nh none) 0 P f args.toArray w fun e ca=>∃v bc,e= .returned v∧post v bc∧bC B ⟨w,D⟩ bc ca
def Env.qZ:Nat→List Value→Env
  |_,[]=>[]
  |n,v::l=>(n,v)::Env.qZ (n+1) l
theorem Env.FD:∀(l:List Value) (n t:Nat) (v:Value),(Env.qZ n l).get t=some v→n≤t∧l[t-n]?=some v
  |[],_,_,_,h=>by cases h
  |u::l,n,t,v,h=>by
    simp only [Env.qZ,Env.get]at h
    cases aR:Nat.beq t n with
    |true=>
      rw [aR]at h;simp at h;subst h
      obtain rfl:=Nat.eq_of_beq_eq_true aR
      simp
    |false=>
      rw [aR]at h
      obtain⟨ab,ae⟩:=Env.FD l (n+1) t v h
      have:t-n=(t-(n+1))+1:=by omega
      exact⟨by omega,by rw [this];simpa using ae⟩
abbrev dl(d:Nat):ar B:=obj d (.deferred (some []))
def xO(P:Program)(B:Nat)(A:e0)(N:Nat)(fn:Func)(post:Value→List (ar B)→Prop):fw B
  | .normal,ao,E,S| .ret,ao,E,S=>∃v L,Take (ao.map dl) S L∧(∀a w,dO N ao E a→bC B A L w→(results fn a.tmps).run P w= .ok v w)∧∃hC R,Take hC L R∧post v hC
  |_,_,_,_=>False
theorem bC.tail{x:ar B}{w:World}(h:bC B A (x::S) w):bC B A S w:=by
  obtain⟨D,⟨dm,dY,bU,aJ,_,aH⟩,ae,av,aV,bN,c0⟩:=h
  exact⟨dY,aH,fun k ai=>ae k ((bU k).2 (.inr ai)),fun k ai=>av k ((bU k).2 (.inr ai)),aV,bN,c0⟩
theorem bC.adk{d:Nat}{w:World}(h:bC B A (dl d::S) w):w.heap[d]?=some (.deferred (some []))∧bC B A S (w.putObj d (.deferred none)):=by
  obtain⟨D,mf⟩:=h.mem (.here _ _)
  have aJ:=(Array.getElem?_eq_some_iff.1 mf.2).1
  refine⟨mf.2,?_⟩
  have:=h.set (ca:=w.putObj d (.deferred none)) (gC:= .deferred none) (World.putObj_heap_same aJ) (fun k ai=>World.putObj_heap_other ai) (by simp) rfl rfl rfl
  exact this.tail
theorem NV{fn:Func}{post:Value→List (ar B)→Prop}{kP:World}{dm:Nat→Prop}{v:Value}{ko:Array Value}{L:List (ar B)}
    (aC:∃hC R,Take hC L R∧post v hC):∀(ao:List Nat) (w:World),bC B ⟨kP,dm⟩ (ao.map dl++L) w→
    (∀w,bC B ⟨kP,dm⟩ L w→(results fn ko).run P w= .ok v w)→
    LeavesInM (nh none) 0 P fn ko (fun e ca=>∃v bc,e= .returned v∧post v bc∧bC B ⟨kP,dm⟩ bc ca) (ao.map fun d=>{target:= .collected d,args:= #[]}) .returning w
  |[],w,aH,a4=>by
    obtain⟨hC,R,t,aC⟩:=aC
    exact⟨v,a4 w aH,v,hC,rfl,aC,bC.nz aH t⟩
  |d::ao,w,aH,a4=>by
    obtain⟨ab,ae⟩:=bC.adk aH
    exact⟨by simp,.inl ⟨d,_,rfl,run_takeDeferred ab,NV aC ao _ ae a4⟩⟩
theorem Jh{f:FuncId}{fn:Func}{args:List Value}{pre:List (ar B)}{post:Value→List (ar B)→Prop}(bs:P.funcs[f]?=some fn)(aR:fn.body=some c)
    (aP:args.length≤N) (oe:fn.ntmps=N)
    (h:∀w D,X P B ⟨w,D⟩ none N c [] (Env.qZ 0 args) pre (xO P B ⟨w,D⟩ N fn post)):di P B f args pre post:=by
  intro w D aH bU h1
  refine callsIn_of_wp_marks bs aR trivial (wpIn_mono (h w D _ w ?_ ⟨D,aH,bU,fun k ai=> .inl ai,u9.refl _ _,h1,fun k ai=>(bU k ai).1⟩) ?_)
  · refine⟨by simp [oe];omega,rfl,fun t v aL=>?_⟩
    obtain⟨_,ae⟩:=Env.FD _ _ _ _ aL
    rw [Nat.sub_zero]at ae
    have av:=(List.getElem?_eq_some_iff.1 ae).1
    rw [Array.getD_eq_getD_getElem?,Array.getElem?_append_left (by simpa using av)]
    simpa using congrArg (·.getD undef) ae
  · rintro e jl ca ⟨kV,fK,bc,ok,cH,q⟩
    have fin:∀{v L},Take (kV.map dl) bc L→(∀a ca,dO N kV fK a→bC B ⟨w,D⟩ L ca→(results fn a.tmps).run P ca= .ok v ca)→(∃hC R,Take hC L R∧post v hC)→
        LeavesInM (nh none) 0 P fn jl.tmps (fun e ca=>∃v bc,e= .returned v∧post v bc∧bC B ⟨w,D⟩ bc ca) jl.defers .returning ca:=by
      intro v L t a4 aC
      rw [ok.qd,xp,List.append_nil]
      exact NV aC kV ca (cH.take t) (fun w hw=>a4 jl w ok hw)
    cases e with
    |normal=>obtain⟨v,L,t,a4,aC⟩:=q;exact fin t a4 aC
    |ret=>obtain⟨v,L,t,a4,aC⟩:=q;exact fin t a4 aC
    |_=>exact q.elim
theorem di.mono{f:FuncId}{args:List Value}{pre:List (ar B)}{post tC:Value→List (ar B)→Prop}(h:di P B f args pre post)(aC:∀v S,post v S→tC v S):di P B f args pre tC:=
  fun w D ab ae av=>(h w D ab ae av).mono fun _ _ ⟨v,bc,e,p,cH⟩=>⟨v,bc,e,aC _ _ p,cH⟩
section
variable[m6]
theorem pf(h:Q .ret ao E S):Dq P B A r N y Q .ret ao E S:=h
theorem tn{i:Nat}(h:Q (.exit i) ao E S):Dq P B A r N y Q (.exit i) ao E S:=h
theorem fj(h:X P B A r N y ao E S Q):Dq P B A r N y Q .normal ao E S:=h
theorem vE{i:Nat}(h:Q .ret ao E S):vY i Q .ret ao E S:=h
theorem tm{i:Nat}(h:Q .normal ao E S):vY i Q .normal ao E S:=h
theorem to{i:Nat}(h:Q .normal ao E S):vY i Q (.exit i) ao E S:=by simpa [vY]using h
theorem WJ{i j:Nat}(aR:Nat.beq j i=false)(h:Q (.exit j) ao E S):vY i Q (.exit j) ao E S:=by simpa [vY,aR]using h
theorem Ch{α:Type}{I:α→Prop}{iB:α→Env}{iC:α→List (ar B)}{m:α→Nat}{x:α}{Bi:List Nat}(h:Q .ret ao E S):Dr I iB iC m x Bi Q .ret ao E S:=h
theorem tp{α:Type}{I:α→Prop}{iB:α→Env}{iC:α→List (ar B)}{m:α→Nat}{x:α}{Bi:List Nat}{i:Nat}(h:Q (.exit i) ao E S):Dr I iB iC m x Bi Q (.exit i) ao E S:=h
theorem k2{α:Type}{I:α→Prop}{iB:α→Env}{iC:α→List (ar B)}{m:α→Nat}{x:α}(h9:α)(ab:I h9)(ae:m h9<m x)(av:(iB h9).sub E)(aV:∃R,Take (iC h9) S R):Dr I iB iC m x ao Q .normal ao E S:=
  let⟨R,aV⟩:=aV;⟨rfl,h9,R,ab,ae,av,aV⟩
end
theorem dA{fn:Func}{post:Value→List (ar B)→Prop}{v:Value}(t:Take (ao.map dl) S L)(a4:∀a w,dO N ao E a→bC B A L w→(results fn a.tmps).run P w= .ok v w)(h:∃hC,post v hC∧∃R,Take hC L R):
    xO P B A N fn post .ret ao E S:=let⟨hC,aC,R,t2⟩:=h;⟨v,L,t,a4,hC,R,t2,aC⟩
theorem CI{fn:Func}{post:Value→List (ar B)→Prop}{v:Value}(t:Take (ao.map dl) S L)(a4:∀a w,dO N ao E a→bC B A L w→(results fn a.tmps).run P w= .ok v w)(h:∃hC,post v hC∧∃R,Take hC L R):
    xO P B A N fn post .normal ao E S:=let⟨hC,aC,R,t2⟩:=h;⟨v,L,t,a4,hC,R,t2,aC⟩
section
variable[m6]
theorem sB{fn:Func}{t:Nat}{v:Value}{T:World→Prop}(h:fn.results= #[.tmp t])(cL:E.get t=some v):∀a w,dO N ao E a→T w→(results fn a.tmps).run P w= .ok v w:=by
  intro a w aq _
  rw [results_tmp h,aq.get t v cL]
theorem uA{fn:Func}{T:World→Prop}(h:fn.results= #[]):∀a w,dO N ao E a→T w→(results fn a.tmps).run P w= .ok (.tuple #[]) w:=fun a w _ _=>results_none h _ _ _
theorem Ak{fn:Func}{t u:Nat}{v1 v2:Value}{T:World→Prop}(h:fn.results= #[.tmp t,.tmp u])(ab:E.get t=some v1)(ae:E.get u=some v2):
    ∀a w,dO N ao E a→T w→(results fn a.tmps).run P w= .ok (.tuple #[v1,v2]) w:=by
  intro a w aq _
  rw [results_tmp2 h,aq.get t _ ab,aq.get u _ ae]
end
end Go.Sl
end
section
namespace Go.Sl
open Go
variable[m6]
variable{P:Program}{B:Nat}{A:e0}{r:Option Nat}{N:Nat}{ao:List Nat}{E fK:Env}{S R L F:List (ar B)}{Q ik:fw B}{ops:Array Oper}{rest:List Oper}{o:Oper}
def Want(ops:Array Oper)(N:Nat)(E:Env):Option (Nat×Bool)→Prop
  |none=>True
  |some (j,b)=>∃d,(ops[j]?).bind (·.dst)=some d∧d<N∧E.get d=some (.bool b)
theorem Want.no:Want ops N E none:=trivial
theorem Want.yes{j:Nat}{b:Bool}(d:Nat)(ab:(ops[j]?).bind (·.dst)=some d)(ae:Nat.blt d N=true)(av:E.get d=some (.bool b)):Want ops N E (some (j,b)):=⟨d,ab,by simpa using ae,av⟩
theorem IN{j d:Nat}{b:Bool}{a:Act}(ab:(ops[j]?).bind (·.dst)=some d)(ae:d<N)(av:E.get d=some (.bool b))(aq:dO N ao E a):yielded ops a.tmps j=some b:=by
  have bl:=aq.get d _ av
  have ey:d<a.tmps.size:=by rw [aq.size];exact ae
  have:a.tmps[d]?=some (.bool b):=by
    rw [Array.getD_eq_getD_getElem?,Array.getElem?_eq_getElem ey]at bl
    rw [Array.getElem?_eq_getElem ey]
    simpa using bl
  simp [yielded,ab,this]
theorem Want.wanted{a:Act}(h:Want ops N E o.guard)(aq:dO N ao E a):Region.wanted o (yielded ops a.tmps)=true:=by
  unfold Region.wanted
  cases bl:o.guard with
  |none=>rfl
  |some p=>
    obtain⟨j,b⟩:=p
    rw [bl]at h
    obtain⟨d,ab,ae,av⟩:=h
    simp [IN ab ae av aq]
def cg(P:Program)(B:Nat)(A:e0)(r:Option Nat)(N:Nat)(ops:Array Oper)(l:List Oper)(ao:List Nat)(E:Env)(S:List (ar B))(Q:fw B):Prop:=
  ∀a w,dO N ao E a→bC B A S w→wpListIn (nh r) 0 P ops (we B A N Q) l a w
theorem dz{id:Nat}{l:List Oper}(h:cg P B A r N l.toArray l ao E S Q):X P B A r N (.region id l.toArray false) ao E S Q:=
  fun a w aq aH=>wpIn_region_lit (h a w aq aH)
theorem uF(h:Q .normal ao E S):cg P B A r N ops [] ao E S Q:=fun a w aq aH=>wpListIn_nil ⟨ao,E,S,aq,aH,h⟩
theorem e8{y:Code}(h:X P B A r N y ao E S Q):cg P B A r N ops [] ao E S (Dq P B A r N y Q):=uF h
theorem qY(L:List (ar B))(dj:Take L S R){l:List Oper}(h:cg P B A r N ops l ao E (L++R) Q):cg P B A r N ops l ao E S Q:=
  fun a w aq aH=>h a w aq (aH.take dj)
theorem Ji{p:Prop}{l:List Oper}(aC:∀w,bC B A S w→p)(h:p→cg P B A r N ops l ao E S Q):cg P B A r N ops l ao E S Q:=
  fun a w aq aH=>h (aC w aH) a w aq aH
theorem PP{d:Nat}{op:Op}{bg:TypeId}{pos:String}{a8:Array Edge}{j:Nat}{b h3:Bool}(g:Nat)(ab:(ops[j]?).bind (·.dst)=some g)(ae:Nat.blt g N=true)(av:E.get g=some (.bool h3))(aR:h3=!b)
    (aJ:Nat.blt d N=true) (h:cg P B A r N ops rest ao ((d,undef)::E) S Q):cg P B A r N ops (⟨some d,op,bg,pos,a8,some (j,b)⟩::rest) ao E S Q:=by
  intro a w aq aH
  have aZ:=IN (ops:=ops) ab (by simpa using ae) av aq
  simp only [wpListIn,Region.wanted,aZ]
  rw [if_neg (by subst aR;cases b<;>simp)]
  exact⟨fun _ _=>trivial,h _ w (aq.put (by simpa using aJ)) aH⟩
theorem qW{t:Nat}{b:Bool}{l:List Oper}(aL:E.get t=some (.bool b))(ab:b=true→cg P B A r N ops l ao ((t,.bool true)::E) S Q)(ae:b=false→cg P B A r N ops l ao ((t,.bool false)::E) S Q):
    cg P B A r N ops l ao E S Q:=by
  intro a w aq aH
  have key:∀h3,b=h3→dO N ao ((t,.bool h3)::E) a:=fun h3 e=>⟨aq.size,aq.qd,fun u v hu=>by
    simp only [Env.get]at hu
    cases aR:Nat.beq u t with
    |true=>rw [aR]at hu;simp at hu;subst hu;rw [Nat.eq_of_beq_eq_true aR];rw [←e];exact aq.get _ _ aL
    |false=>rw [aR]at hu;exact aq.get _ _ hu⟩
  cases aR:b with
  |true=>exact ab aR a w (key _ aR) aH
  |false=>exact ae aR a w (key _ aR) aH
theorem tD{α:Type}{d:Nat}{op:Op}{bg:TypeId}{pos:String}{a8:Array Edge}{g:Option (Nat×Bool)}(v:α→Value)(bc:α→List (ar B))(p:α→Prop)(hw:Want ops N E g)(qq:∀c,op≠ .defer c)(aJ:Nat.blt d N=true)
    (hG:∀a w,dO N ao E a→bC B A S w→∃x ca,(execOp a.eval ⟨some d,op,bg,pos,a8,g⟩).run P w= .ok (.value (v x)) ca∧bC B A (bc x) ca∧p x)
    (h:∀x,p x→cg P B A r N ops rest ao ((d,v x)::E) (bc x) Q):cg P B A r N ops (⟨some d,op,bg,pos,a8,g⟩::rest) ao E S Q:=by
  intro a w aq aH
  obtain⟨x,ca,ab,ae,av⟩:=hG a w aq aH
  simp only [wpListIn]
  rw [if_pos (Want.wanted (o:=⟨some d,op,bg,pos,a8,g⟩) hw aq)]
  refine⟨fun _ _=>trivial,?_⟩
  rw [Oper.semAt_eq _ _ _ qq,ab]
  exact h x av _ ca (aq.put (by simpa using aJ)) ae
theorem aa0{d:Nat}{op:Op}{bg:TypeId}{pos:String}{a8:Array Edge}{g:Option (Nat×Bool)}{v:Value}(hw:Want ops N E g)(qq:∀c,op≠ .defer c)(aJ:Nat.blt d N=true)
    (hG:∀a w,dO N ao E a→bC B A S w→(execOp a.eval ⟨some d,op,bg,pos,a8,g⟩).run P w= .ok (.value v) w)
    (h:cg P B A r N ops rest ao ((d,v)::E) S Q):cg P B A r N ops (⟨some d,op,bg,pos,a8,g⟩::rest) ao E S Q:=
  tD (α:=Unit) (fun _=>v) (fun _=>S) (fun _=>True) hw qq aJ (fun a w aq aH=>⟨(),w,hG a w aq aH,aH,trivial⟩) (fun _ _=>h)
theorem aa1{op:Op}{bg:TypeId}{pos:String}{a8:Array Edge}{g:Option (Nat×Bool)}{bc:List (ar B)}(hw:Want ops N E g)(qq:∀c,op≠ .defer c)
    (hG:∀a w,dO N ao E a→bC B A S w→∃ca,(execOp a.eval ⟨none,op,bg,pos,a8,g⟩).run P w= .ok .skip ca∧bC B A bc ca)
    (h:cg P B A r N ops rest ao E bc Q):cg P B A r N ops (⟨none,op,bg,pos,a8,g⟩::rest) ao E S Q:=by
  intro a w aq aH
  obtain⟨ca,ab,ae⟩:=hG a w aq aH
  simp only [wpListIn]
  rw [if_pos (Want.wanted (o:=⟨none,op,bg,pos,a8,g⟩) hw aq)]
  refine⟨fun _ _=>trivial,?_⟩
  rw [Oper.semAt_eq _ _ _ qq,ab]
  exact h a ca aq ae
def g9(E:Env):List Operand→Option (List Value)
  |[]=>some []
  |x::l=>match aX E x,g9 E l with
    |some v,some bK=>some (v::bK)
    |_,_=>none
theorem dO.g9{a:Act}(h:dO N ao E a):∀{l:List Operand} {bK:List Value},g9 E l=some bK→l.map a.eval=bK
  |[],bK,cL=>by simp [Sl.g9]at cL;simp [cL]
  |x::l,bK,cL=>by
    simp only [Sl.g9]at cL
    split at cL
    · rename_i v ag2 ab ae
      simp at cL;subst cL
      simp [h.aX ab,h.g9 ae]
    · cases cL
def xA:BinOp→Int→Int→Option Bool
  | .eql,m,n=>some (m==n)
  | .neq,m,n=>some (m !=n)
  | .lss,m,n=>some (decide (m<n))
  | .leq,m,n=>some (decide (m≤n))
  | .gtr,m,n=>some (decide (m>n))
  | .geq,m,n=>some (decide (m≥n))
  |_,_,_=>none
def ty(E:Env):Op→Option Value
  | .move x| .assign x=>aX E x
  | .pick c x y=>match aX E c with
    |some (.bool true)=>aX E x
    |some (.bool false)=>aX E y
    |_=>none
  | .binOp op _ x y _=>match aX E x,aX E y with
    |some (.int .i64 m),some (.int .i64 n)=>(xA op m n).map .bool
    |some (.int .u32 m),some (.int .u32 n)=>(xA op m n).map .bool
    |some (.int .u8 m),some (.int .u8 n)=>(xA op m n).map .bool
    |some (.int .u64 m),some (.int .u64 n)=>(xA op m n).map .bool
    |some (.int .i32 m),some (.int .i32 n)=>(xA op m n).map .bool
    |_,_=>none
  | .unOp .not _ x=>match aX E x with
    |some (.bool b)=>some (.bool (!b))
    |_=>none
  | .makeFunc fn first caps=>match g9 E first.toList,g9 E caps.toList with
    |some f,some c=>some (.func fn f.toArray c.toArray)
    |_,_=>none
  | .extract t i=>match aX E t with
    |some (.tuple bK)=>bK[i]?
    |_=>none
  |_=>none
theorem Y2{op:BinOp}{t:TypeId}{x y:Operand}{k:IntKind}{m n:Int}{b:Bool}{w:World}(h:xA op m n=some b):
    ((do eqGuard op t x y (.int k m) (.int k n);binOp op t (.int k m) (.int k n):Sem Value)).run P w= .ok (.bool b) w:=by
  cases op<;>simp [xA]at h<;>subst h<;>simp [eqGuard,binOp,Op.intCmp]
theorem WK{k:IntKind}{d:Option Nat}{op:BinOp}{t gd bg:TypeId}{x y:Operand}{pos:String}{a8:Array Edge}{g:Option (Nat×Bool)}{m n:Int}{v:Value}{a:Act}{w:World}
    (ab:aX E x=some (.int k m)) (ae:aX E y=some (.int k n)) (aC:(xA op m n).map Value.bool=some v) (aq:dO N ao E a):
    (execOp a.eval ⟨d,.binOp op t x y gd,bg,pos,a8,g⟩).run P w= .ok (.value v) w:=by
  obtain⟨b,aR,rfl⟩:=Option.map_eq_some_iff.1 aC
  simp only [execOp,aq.aX ab,aq.aX ae]
  rw [Sem.run_bind,Y2 (P:=P) (w:=w) aR];rfl
theorem run_pure{d:Option Nat}{op:Op}{bg:TypeId}{pos:String}{a8:Array Edge}{g:Option (Nat×Bool)}{v:Value}{a:Act}{w:World}(aC:ty E op=some v)(aq:dO N ao E a):
    (execOp a.eval ⟨d,op,bg,pos,a8,g⟩).run P w= .ok (.value v) w:=by
  unfold ty at aC
  split at aC
  · simp [execOp,aq.aX aC]
  · simp [execOp,aq.aX aC]
  · split at aC
    · rename_i ab;simp [execOp,aq.aX ab,asBool,aq.aX aC]
    · rename_i ab;simp [execOp,aq.aX ab,asBool,aq.aX aC]
    · cases aC
  · split at aC
    all_goals first
      |exact WK (by assumption) (by assumption) aC aq
      |(simp at aC;done)
  · split at aC
    · rename_i ab;simp at aC;subst aC;simp [execOp,aq.aX ab,Op.unary]
    · cases aC
  · split at aC
    · rename_i f c ab ae
      simp at aC;subst aC
      have cb:=aq.g9 ab
      have cq:=aq.g9 ae
      simp only [execOp,Instr.makeFunc]
      rw [←cb, ←cq]
      simp [←List.map_toArray]
    · cases aC
  · split at aC
    · rename_i ab
      simp only [execOp,aq.aX ab,Instr.extract,aC]
      rfl
    · cases aC
  · cases aC
def dw(P:Program)(B:Nat)(A:e0)(N:Nat)(ao:List Nat)(E:Env)(S:List (ar B))(op:Op)(v:Value):Prop:=
  (∀c,op≠ .defer c)∧(∀aF b,op≠ .select aF b)∧∀a w bg pos a8 g d,dO N ao E a→bC B A S w→(execOp a.eval ⟨d,op,bg,pos,a8,g⟩).run P w= .ok (.value v) w
theorem AA{d:Nat}{op:Op}{bg:TypeId}{pos:String}{a8:Array Edge}{g:Option (Nat×Bool)}{v:Value}(hw:Want ops N E g)(aC:dw P B A N ao E S op v)(aJ:Nat.blt d N=true)
    (h:cg P B A r N ops rest ao ((d,v)::E) S Q):cg P B A r N ops (⟨some d,op,bg,pos,a8,g⟩::rest) ao E S Q:=
  aa0 hw aC.1 aJ (fun a w aq aH=>aC.2.2 a w bg pos a8 g (some d) aq aH) h
def pG(P:Program)(B:Nat)(A:e0)(N:Nat)(ao:List Nat)(E:Env)(S:List (ar B))(op:Op)(bc:List (ar B)):Prop:=
  (∀c,op≠ .defer c)∧∀a w bg pos a8 g,dO N ao E a→bC B A S w→∃ca,(execOp a.eval ⟨none,op,bg,pos,a8,g⟩).run P w= .ok .skip ca∧bC B A bc ca
theorem QW{op:Op}{bg:TypeId}{pos:String}{a8:Array Edge}{g:Option (Nat×Bool)}{bc:List (ar B)}(hw:Want ops N E g)(bs:pG P B A N ao E S op bc)
    (h:cg P B A r N ops rest ao E bc Q):cg P B A r N ops (⟨none,op,bg,pos,a8,g⟩::rest) ao E S Q:=
  aa1 hw bs.1 (fun a w aq aH=>bs.2 a w bg pos a8 g aq aH) h
theorem dw.gi{X:List (ar B)}{op:Op}{v:Value}(h:dw P B A N ao E S op v):dw P B A N ao E (S++X) op v:=
  ⟨h.1,h.2.1,fun a w bg pos a8 g d aq aH=>h.2.2 a w bg pos a8 g d aq aH.drop⟩
theorem cj{op:Op}{v:Value}(aC:ty E op=some v):dw P B A N ao E S op v:=
  ⟨by rintro c rfl;simp [ty]at aC,by rintro aF b rfl;simp [ty]at aC,fun a w bg pos a8 g d aq _=>run_pure aC aq⟩
end Go.Sl
end
section
namespace Go.Sl
open Go
variable[m6]
variable{P:Program}{B:Nat}{A:e0}{r:Option Nat}{N:Nat}{ao:List Nat}{E fK:Env}{S R L F:List (ar B)}{Q ik:fw B}{ops:Array Oper}{rest:List Oper}{o:Oper}
variable{d:Nat}{op:Op}{bg:TypeId}{pos:String}{a8:Array Edge}{g:Option (Nat×Bool)}{v:Value}
def rQ(P:Program)(s f:Nat):Option Nat:=
  match P.underlying s with
  |some (.struct lJ)=>match lJ[f]? with
    |some fd=>match P.info? fd.type with
      |some i=>if i.size=0 then none else some fd.offset
      |none=>none
    |none=>none
  |_=>none
def p9(P:Program)(t:Nat):Option (Nat×Nat):=
  match P.underlying t with
  |some (.array n e)=>match P.info? e with
    |some i=>if n≤1 then none else some (n,i.size)
    |none=>none
  |_=>none
def iZ(P:Program)(t:Nat):Option (Nat×Nat):=
  match P.underlying t with
  |some (.slice e)=>match P.info? e with
    |some i=>some (e,i.size)
    |none=>none
  |_=>none
def hA(P:Program)(t:Nat):Option (Bool×Nat):=
  match P.underlying t,P.info? t with
  |some (.struct _),some i|some (.array _ _),some i=>some (true,i.size)
  |some _,some i=>some (false,i.size)
  |_,_=>none
def zeroOf(P:Program)(t:Nat):Option (List Value):=match P.info? t with
  |some i=>match i.zero with
    |some z=>some z.cells.toList
    |none=>none
  |none=>none
def u0(P:Program)(s t:Nat):Option IntKind:=match P.underlying s,P.underlying t with
  |some _,some (.int k)=>some k
  |_,_=>none
theorem FE{t n aN:Nat}(h:p9 P t=some (n,aN)):∃e i,P.underlying t=some (.array n e)∧P.info? e=some i∧i.size=aN∧1<n:=by
  unfold p9 at h
  split at h
  · rename_i aiG e hu
    split at h
    · rename_i i af
      split at h
      · cases h
      · simp at h;obtain⟨rfl,rfl⟩:=h
        exact⟨e,i,hu,af,rfl,by omega⟩
    · cases h
  · cases h
theorem Ce{t e aN:Nat}(h:iZ P t=some (e,aN)):∃i,P.underlying t=some (.slice e)∧P.info? e=some i∧i.size=aN:=by
  unfold iZ at h
  split at h
  · rename_i og hu
    split at h
    · rename_i i af
      simp at h;obtain⟨rfl,rfl⟩:=h
      exact⟨i,hu,af,rfl⟩
    · cases h
  · cases h
theorem Ft{t n:Nat}{b:Bool}(h:hA P t=some (b,n))(w:World):(isAgg t).run P w= .ok b w∧(sizeOf t).run P w= .ok n w:=by
  unfold hA at h
  split at h
  all_goals first
    | (rename_i hu af
       simp at h;obtain⟨rfl,rfl⟩:=h
       refine⟨?_,by simp [sizeOf,typeInfo,af]⟩
       simp [isAgg,run_underlying hu])
    | (rename_i akz MT D9 ajy hu af
       simp at h;obtain⟨rfl,rfl⟩:=h
       refine⟨?_,by simp [sizeOf,typeInfo,af]⟩
       simp only [isAgg,Sem.run_bind,run_underlying hu,Result.andThen_ok])
    |cases h
theorem nq(b o n:Nat):(⟨b,o,none⟩:Addr).add n=⟨b,o+n,none⟩:=by unfold Addr.add;split<;>simp_all
theorem ou{x:Operand}{bu:Addr}(al:aX E x=some (.pointer (some bu))):dw P B A N ao E S (.nilCheck x) (.pointer (some bu)):=
  ⟨by simp,by simp,fun a w bg pos a8 g d aq aH=>by simp [execOp,aq.aX al]⟩
theorem FA{s f off:Nat}(bu:Addr)(h:rQ P s f=some off)(w:World):(Instr.fieldAt s (.pointer (some bu)) f).run P w= .ok (.pointer (some (bu.add off))) w:=by
  unfold rQ at h
  split at h
  · rename_i lJ hu
    split at h
    · rename_i fd bs
      split at h
      · rename_i i af
        split at h
        · cases h
        · rename_i gr
          simp at h;subst h
          simp [Instr.fieldAt,run_underlying hu,bs,Instr.sureAddr,fieldPlace,sizeOf,typeInfo,af,gr]
      · cases h
    · cases h
  · cases h
theorem R6{s f b o off gC:Nat}{x:Operand}(al:aX E x=some (.pointer (some ⟨b,o,none⟩)))(bs:rQ P s f=some off)(dV:Nat.add o off=gC):dw P B A N ao E S (.fieldAddr s x f) (.pointer (some ⟨b,gC,none⟩)):=
  ⟨by simp,by simp,fun a w bg pos a8 g d aq aH=>by
    have:o+off=gC:=dV
    simp [execOp,aq.aX al,FA _ bs,nq,this]⟩
theorem QX{s f k off hx:Nat}{bu:Addr}{x:Operand}(al:aX E x=some (.pointer (some (bu.add k))))(bs:rQ P s f=some off)(ai:k+off=hx):dw P B A N ao E S (.fieldAddr s x f) (.pointer (some (bu.add hx))):=
  ⟨by simp,by simp,fun a w bg pos a8 g d aq aH=>by
    have e:(bu.add k).add off=bu.add hx:=by
      subst ai;unfold Addr.add;by_cases af:k=0<;>by_cases aI:off=0<;>simp [af,aI,Nat.add_assoc]
    simp [execOp,aq.aX al,FA _ bs,e]⟩
theorem p3{t b o n aN j gC:Nat}{x i:Operand}{k:IntKind}{m:Int}(al:aX E x=some (.pointer (some ⟨b,o,none⟩)))(af:aX E i=some (.int k m))(aL:p9 P t=some (n,aN))
    (hm:m=(j:Int)) (aI:j<n) (dV:o+j*aN=gC):dw P B A N ao E S (.indexAddr t x i) (.pointer (some ⟨b,gC,none⟩)):=
  ⟨by simp,by simp,fun a w bg pos a8 g d aq aH=>by
    obtain⟨e,inf,hu,n1,fB,aP⟩:=FE aL
    subst hm fB dV
    simp [execOp,aq.aX al,aq.aX af,Instr.indexAt,asIntOf,run_underlying hu,Instr.sureAddr,sizeOf,typeInfo,n1,Nat.not_le.2 aI,nq]⟩
theorem Kn{t n e aN j c hx:Nat}{bu:Addr}{x i:Operand}{k:IntKind}{m:Int}(al:aX E x=some (.slice (some bu) n c))(af:aX E i=some (.int k m))(aL:iZ P t=some (e,aN))
    (hm:m=(j:Int)) (aI:j<n) (pF:j*aN=hx):dw P B A N ao E S (.indexAddr t x i) (.pointer (some (bu.add hx))):=
  ⟨by simp,by simp,fun a w bg pos a8 g d aq aH=>by
    obtain⟨inf,hu,n1,fB⟩:=Ce aL
    subst hm fB pF
    simp [execOp,aq.aX al,aq.aX af,Instr.indexAt,asIntOf,run_underlying hu,sizeOf,typeInfo,n1,Nat.not_le.2 aI]⟩
theorem jS{t n e aN j c hx:Nat}{bu:Option Addr}{x i:Operand}{k:IntKind}{m:Int}(al:aX E x=some (.slice bu n c))(af:aX E i=some (.int k m))(aL:iZ P t=some (e,aN))
    (aS:bu=none→n=0) (hm:m=(j:Int)) (aI:j<n) (pF:j*aN=hx):dw P B A N ao E S (.indexAddr t x i) (.pointer (some ((bu.getD ⟨0,0,none⟩).add hx))):=by
  cases bu with
  |none=>have:=aS rfl;omega
  |some bu=>exact Kn al af aL hm aI pF
theorem R7{t n c e aN:Nat}{bu:Option Addr}{x:Operand}{dC:Array TypeId}(al:aX E x=some (.slice bu n c))(has:dC[0]?=some t)(aL:iZ P t=some (e,aN)):dw P B A N ao E S (.call {callee:= .builtin .len,args:= #[x],argTypes:=dC}) (.int .i64 n):=
  ⟨by simp,by simp,fun a w bg pos a8 g d aq aH=>by
    obtain⟨inf,hu,_,_⟩:=Ce aL
    simp [execOp,resolve,invoke,builtin,aq.aX al,Builtin.len_,has,run_underlying hu,goInt]⟩
theorem mE{x y:Operand}{t gd:Nat}{m n:Int}(al:aX E x=some (.int .i64 m))(aZ:aX E y=some (.int .i64 n))(ab: -9223372036854775808≤m+n)(ae:m+n≤9223372036854775807):dw P B A N ao E S (.binOp .add t x y gd) (.int .i64 (m+n)):=
  ⟨by simp,by simp,fun a w bg pos a8 g d aq aH=>by
    simp [execOp,aq.aX al,aq.aX aZ,eqGuard,binOp,Op.intArith,IntWalk.i64_in (m+n) ⟨ab,ae⟩]⟩
theorem y1{x y:Operand}{t gd:Nat}{m n:Int}(al:aX E x=some (.int .i64 m))(aZ:aX E y=some (.int .i64 n))(ab: -9223372036854775808≤m-n)(ae:m-n≤9223372036854775807):dw P B A N ao E S (.binOp .sub t x y gd) (.int .i64 (m-n)):=
  ⟨by simp,by simp,fun a w bg pos a8 g d aq aH=>by
    simp [execOp,aq.aX al,aq.aX aZ,eqGuard,binOp,Op.intArith,IntWalk.i64_in (m-n) ⟨ab,ae⟩]⟩
theorem pp{x y:Operand}{t gd:Nat}{m n:Int}(al:aX E x=some (.int .i64 m))(aZ:aX E y=some (.int .i64 n))(ab: -9223372036854775808≤m*n)(ae:m*n≤9223372036854775807):dw P B A N ao E S (.binOp .mul t x y gd) (.int .i64 (m*n)):=
  ⟨by simp,by simp,fun a w bg pos a8 g d aq aH=>by
    simp [execOp,aq.aX al,aq.aX aZ,eqGuard,binOp,Op.intArith,IntWalk.i64_in (m*n) ⟨ab,ae⟩]⟩
theorem Y3{x y:Operand}{t gd:Nat}{m n z:Int}{k:IntKind}{e1:BinOp}(al:aX E x=some (.int k m))(aZ:aX E y=some (.int k n))
    (aS:(match e1 with| .add=>k.wrap (m+n)=z| .sub=>k.wrap (m-n)=z| .mul=>k.wrap (m*n)=z|_=>False)):dw P B A N ao E S (.binOp e1 t x y gd) (.int k z):=
  ⟨by simp,by simp,fun a w bg pos a8 g d aq aH=>by
    cases e1<;>simp only at aS<;>subst aS<;>simp [execOp,aq.aX al,aq.aX aZ,eqGuard,binOp,Op.intArith]⟩
theorem pX{x y:Operand}{t gd:Nat}{m n z:Int}{k:IntKind}{e1:BinOp}(al:aX E x=some (.int k m))(aZ:aX E y=some (.int k n))(b5:n≠0)
    (aS:(match e1 with| .quo=>k.wrap (m.tdiv n)=z| .rem=>m.tmod n=z|_=>False)):dw P B A N ao E S (.binOp e1 t x y gd) (.int k z):=
  ⟨by simp,by simp,fun a w bg pos a8 g d aq aH=>by
    cases e1<;>simp only at aS<;>subst aS<;>simp [execOp,aq.aX al,aq.aX aZ,eqGuard,binOp,Op.intDiv,b5]⟩
theorem PQ{x y:Operand}{t gd:Nat}{m n z:Int}{k hx:IntKind}{e1:BinOp}(al:aX E x=some (.int k m))(aZ:aX E y=some (.int hx n))(b5:0≤n)
    (aS:(match e1 with
      | .shl=>k.wrap (m*2^(min n.toNat k.bits))=z
      | .shr=>m.fdiv (2^(min n.toNat k.bits))=z
      |_=>False)):dw P B A N ao E S (.binOp e1 t x y gd) (.int k z):=
  ⟨by simp,by simp,fun a w bg pos a8 g d aq aH=>by
    have:¬n<0:=by omega
    cases e1<;>simp only at aS<;>subst aS<;>simp [execOp,aq.aX al,aq.aX aZ,eqGuard,binOp,Op.shift,this]⟩
theorem ja{x:Operand}{s t:Nat}{m z:Int}{k hx:IntKind}(al:aX E x=some (.int hx m))(aL:u0 P s t=some k)(aS:k.wrap m=z):dw P B A N ao E S (.convert s t x) (.int k z):=
  ⟨by simp,by simp,fun a w bg pos a8 g d aq aH=>by
    unfold u0 at aL
    split at aL
    · rename_i u ajz aH hu
      simp at aL;subst aL aS
      cases u<;>simp [execOp,aq.aX al,convert,run_underlying aH,run_underlying hu,Conv.intToInt]
    · cases aL⟩
theorem Ds{x y:Operand}{m n:Int}{k:IntKind}{dC:Array TypeId}(al:aX E x=some (.int k m))(aZ:aX E y=some (.int k n)):dw P B A N ao E S (.call {callee:= .builtin .min,args:= #[x,y],argTypes:=dC}) (.int k (min m n)):=
  ⟨by simp,by simp,fun a w bg pos a8 g d aq aH=>by
    have e:(if n<m then n else m)=min m n:=by omega
    simp [execOp,resolve,invoke,builtin,aq.aX al,aq.aX aZ,run_min_int2,e]⟩
theorem AL{x y:Operand}{m n:Int}{k:IntKind}{dC:Array TypeId}(al:aX E x=some (.int k m))(aZ:aX E y=some (.int k n)):dw P B A N ao E S (.call {callee:= .builtin .max,args:= #[x,y],argTypes:=dC}) (.int k (max m n)):=
  ⟨by simp,by simp,fun a w bg pos a8 g d aq aH=>by
    have e:(if m<n then n else m)=max m n:=by omega
    simp [execOp,resolve,invoke,builtin,aq.aX al,aq.aX aZ,run_max_int2,e]⟩
theorem adl{x y:Operand}{t gd:Nat}{p q b:Bool}{e1:BinOp}(al:aX E x=some (.bool p))(aZ:aX E y=some (.bool q))(aL:P.underlying t=some .bool)
    (aR:(match e1 with| .eql=>(p==q)=b| .neq=>(p !=q)=b|_=>False)):dw P B A N ao E S (.binOp e1 t x y gd) (.bool b):=
  ⟨by simp,by simp,fun a w bg pos a8 g d aq aH=>by
    cases e1<;>simp only at aR<;>subst aR
    · simp [execOp,aq.aX al,aq.aX aZ,eqGuard,run_eql_bool w t p q aL]
    · simp [execOp,aq.aX al,aq.aX aZ,eqGuard,run_neq_bool w t p q aL,bne]⟩
end Go.Sl
end
section
namespace Go.Sl
open Go
variable[m6]
variable{P:Program}{B:Nat}{A:e0}{r:Option Nat}{N:Nat}{ao:List Nat}{E fK:Env}{S R L F:List (ar B)}{Q ik:fw B}{ops:Array Oper}{rest:List Oper}{o:Oper}
variable{d:Nat}{op:Op}{bg:TypeId}{pos:String}{a8:Array Edge}{g:Option (Nat×Bool)}{v:Value}
def dI(K:ar B)(bu:Addr)(xs:List Value):Prop:=∀D w,K.holds D w→∀k,k<xs.length→w.cell? (bu.add k)=xs[k]?
theorem lQ{b:Nat}{aF:List Value}{t:TypeId}{pS:Nat×Nat}:dI (obj (B:=B) b (.cells aF.toArray t pS)) ⟨b,0,none⟩ aF:=by
  intro D w h k ai
  rw [nq,Nat.zero_add,cell_of_row w b k _ t pS h.2]
  simp
theorem aa2{W:World}{bu:Addr}{xs:List Value}(h:∀k,k<xs.length→bu.block<B∧W.cell? (bu.add k)=xs[k]?):dI (D8 (B:=B) W) bu xs:=fun D w hw k ai=>by
  rw [←(h k ai).2]
  have aR:(bu.add k).block=bu.block:=by unfold Addr.add;split<;>rfl
  exact World.cell?_of_block (hw.2 _ (by rw [aR];exact(h k ai).1))
theorem QY{b n c e aN:Nat}{xs:List Value}:dI (row (B:=B) (.slice (some ⟨b,0,none⟩) n c) e aN n xs) ⟨b,0,none⟩ xs:=by
  intro D w h k ai
  rw [nq,Nat.zero_add]
  exact h.1.cellAt k (by rw [←h.1.1];exact ai)
theorem ux{t:Nat}{p:Addr}{w:World}(aL:hA P t=some (false,1))(cL:w.cell? p=some v):(Instr.loadAt t (.pointer (some p))).run P w= .ok v w:=by
  obtain⟨ab,ae⟩:=Ft aL w
  simp [Instr.loadAt,Instr.sureAddr,loadVar,ab,cL]
theorem Ah{t n:Nat}{p:Addr}{w:World}{bK:List Value}(aL:hA P t=some (true,n))(aP:bK.length=n)(cL:∀k,k<n→w.cell? (p.add k)=bK[k]?):
    (Instr.loadAt t (.pointer (some p))).run P w= .ok (.agg bK.toArray) w:=by
  obtain⟨ab,ae⟩:=Ft aL w
  have aE:(loadCells p n).run P w= .ok bK.toArray w:=by
    rw [←aP]
    exact run_loadCells_list (P:=P) w p bK (fun j v aI=>by
      have ey:=(List.getElem?_eq_some_iff.1 aI).1
      rw [cL j (by omega),aI])
  simp [Instr.loadAt,Instr.sureAddr,loadVar,ab,ae,aE]
theorem II(p:Addr)(i j:Nat):(p.add i).add j=p.add (i+j):=by
  unfold Addr.add;by_cases af:i=0<;>by_cases aI:j=0<;>simp [af,aI,Nat.add_assoc]
theorem Hj{K:ar B}{bu:Addr}{xs:List Value}{t k:Nat}{x:Operand}(al:aX E x=some (.pointer (some (bu.add k))))(dV:Out K S R)(a4:dI K bu xs)(aL:hA P t=some (false,1))
    (cL:xs[k]?=some v):dw P B A N ao E S (.load t x) (v):=
  ⟨by simp,by simp,fun a w bg pos a8 g d aq aH=>by
    obtain⟨D,bO⟩:=aH.mem dV
    have a7:=a4 D w bO k (List.getElem?_eq_some_iff.1 cL).1
    simp [execOp,aq.aX al,ux aL (a7.trans cL)]⟩
theorem ft{aF:List Value}{t b k:Nat}{x:Operand}{dv:TypeId}{pS:Nat×Nat}(al:aX E x=some (.pointer (some ⟨b,k,none⟩)))(dV:Out (obj b (.cells aF.toArray dv pS)) S R)(aL:hA P t=some (false,1))
    (cL:aF[k]?=some v):dw P B A N ao E S (.load t x) (v):=
  Hj (bu:=⟨b,0,none⟩) (k:=k) (by rw [nq,Nat.zero_add];exact al) dV lQ aL cL
theorem KT{K:ar B}{bu:Addr}{xs bK:List Value}{t k n:Nat}{x:Operand}(al:aX E x=some (.pointer (some (bu.add k))))(dV:Out K S R)(a4:dI K bu xs)(aL:hA P t=some (true,n))
    (aE:Nat.ble (k+n) xs.length=true) (cL:(xs.drop k).take n=bK):dw P B A N ao E S (.load t x) (.agg bK.toArray):=
  ⟨by simp,by simp,fun a w bg pos a8 g d aq aH=>by
    obtain⟨D,bO⟩:=aH.mem dV
    have aE:=Nat.le_of_ble_eq_true aE
    have:=Ah (P:=P) (w:=w) (p:=bu.add k) (bK:=bK) aL (by rw [←cL];simp;omega) (fun j aI=>by
      rw [II,a4 D w bO (k+j) (by omega), ←cL]
      simp [List.getElem?_drop,aI])
    simp [execOp,aq.aX al,this]⟩
theorem ed{aF bK:List Value}{t b k n:Nat}{x:Operand}{dv:TypeId}{pS:Nat×Nat}(al:aX E x=some (.pointer (some ⟨b,k,none⟩)))(dV:Out (obj b (.cells aF.toArray dv pS)) S R)(aL:hA P t=some (true,n))
    (aE:Nat.ble (k+n) aF.length=true) (cL:(aF.drop k).take n=bK):dw P B A N ao E S (.load t x) (.agg bK.toArray):=
  KT (bu:=⟨b,0,none⟩) (k:=k) (by rw [nq,Nat.zero_add];exact al) dV lQ aL aE cL
theorem FF(e:TypeId)(u:Value)(w:World):(newVar e u).run P w= .ok ⟨w.heap.size,0,none⟩ (w.alloc (.cells u.cells e)):=by
  simp only [newVar,newRow,Sem.run_bind,run_newObj_alloc,Result.andThen_ok,Sem.run_pure]
theorem xi{t:Nat}{aF:List Value}(hw:Want ops N E g)(aS:zeroOf P t=some aF)(aJ:Nat.blt d N=true)
    (h:∀b,cg P B A r N ops rest ao ((d,.pointer (some ⟨b,0,none⟩))::E) (U b aF t::S) Q):cg P B A r N ops (⟨some d,.alloc t,bg,pos,a8,g⟩::rest) ao E S Q:=
  tD (α:=Nat) (fun b=> .pointer (some ⟨b,0,none⟩)) (fun b=>U b aF t::S) (fun _=>True) hw (by simp) aJ (fun a w aq aH=>by
    unfold zeroOf at aS
    split at aS
    · rename_i i af
      split at aS
      · rename_i z va
        simp at aS
        refine⟨w.heap.size,w.alloc (.cells z.cells t),?_,?_,trivial⟩
        · simp [execOp,Instr.alloc,zeroValue,typeInfo,af,va,FF]
        · have:=aH.new (.cells z.cells t)
          subst aS
          simpa using this
      · cases aS
    · cases aS) (fun b _=>h b)
theorem Ko{t:Nat}{x:Operand}{aF:List Value}(hw:Want ops N E g)(al:aX E x=some v)(a7:v.cells=aF.toArray)(aJ:Nat.blt d N=true)
    (h:∀b,cg P B A r N ops rest ao ((d,.pointer (some ⟨b,0,none⟩))::E) (U b aF t::S) Q):cg P B A r N ops (⟨some d,.box t x,bg,pos,a8,g⟩::rest) ao E S Q:=
  tD (α:=Nat) (fun b=> .pointer (some ⟨b,0,none⟩)) (fun b=>U b aF t::S) (fun _=>True) hw (by simp) aJ (fun a w aq aH=>by
    refine⟨w.heap.size,w.alloc (.cells aF.toArray t),?_,aH.new _,trivial⟩
    simp [execOp,Instr.box,aq.aX al,FF,a7]) (fun b _=>h b)
theorem bC.store{b:Nat}{aF:List Value}{dv:TypeId}{w:World}(h:bC B A (U b aF dv::S) w)(k:Nat)(u:Value):bC B A (U b (aF.set k u) dv::S) (w.setCell ⟨b,k,none⟩ u):=by
  obtain⟨D,mf⟩:=h.mem (.here _ _)
  refine h.set ?_ (fun j aI=>heap_setCell_other w ⟨b,k,none⟩ j u aI) (by simp) rfl rfl rfl
  have:=heap_setCell_same w b k aF.toArray dv u mf.2
  simpa using this
theorem V2(cL:v.oneCell'=true):v.cells= #[v]:=by cases v<;>simp_all [Value.oneCell',Value.cells]
theorem IP{b k t:Nat}{aF:List Value}{dv:TypeId}{w:World}(cL:v.oneCell'=true)(aL:hA P t=some (false,1))(ai:k<aF.length)(aR:w.heap[b]?=some (.cells aF.toArray dv (0,0))):
    (Instr.storeAt t (.pointer (some ⟨b,k,none⟩)) v).run P w= .ok () (w.setCell ⟨b,k,none⟩ v):=by
  obtain⟨ab,ae⟩:=Ft aL w
  have a7:w.cell? ⟨b,k,none⟩=some aF[k]:=by rw [cell_of_row w b k _ dv _ aR];simp [ai]
  have bs:=frozen_of_row w b k _ dv aR
  simp [Instr.storeAt,Instr.sureAddr,storeVar,ae,V2 cL,storeCells,nq,run_store P w ⟨b,k,none⟩ v .plain cL,a7,bs]
theorem js{aF ga:List Value}{t b k:Nat}{x y:Operand}{dv:TypeId}(al:aX E x=some (.pointer (some ⟨b,k,none⟩)))(aZ:aX E y=some v)(ab:v.oneCell'=true)(dV:Out (U b aF dv) S R)(aL:hA P t=some (false,1))
    (ai:Nat.blt k aF.length=true) (a7:aF.set k v=ga):pG P B A N ao E S (.store t x y) (U b ga dv::R):=
  ⟨by simp,fun a w bg pos a8 g aq aH=>by
    have kh:bC B A (U b aF dv::R) w:=aH.take (.cons dV (.nil _))
    obtain⟨D,mf⟩:=kh.mem (.here _ _)
    exact⟨_,by simp [execOp,aq.aX al,aq.aX aZ,IP ab aL (by simpa using ai) mf.2],a7▸kh.store k v⟩⟩
theorem Ni{b:Nat}{dv:TypeId}:∀(bK:List Value) (k i:Nat) (aF:List Value) (w:World),(∀u∈bK,u.oneCell'=true)→k+i+bK.length≤aF.length→bC B A (U b aF dv::S) w→
    ∃ca,(storeCells ⟨b,k,none⟩ bK i).run P w= .ok () ca∧bC B A (U b (aF.take (k+i)++bK++aF.drop (k+i+bK.length)) dv::S) ca
  |[],k,i,aF,w,_,ai,aH=>⟨w,by simp [storeCells],by simpa using aH⟩
  |u::bK,k,i,aF,w,ab,ai,aH=>by
    simp at ai
    obtain⟨D,mf⟩:=aH.mem (.here _ _)
    have a7:w.cell? ⟨b,k+i,none⟩=some aF[k+i]:=by rw [cell_of_row w b (k+i) _ dv _ mf.2];simp [show k+i<aF.length by omega]
    have bs:=frozen_of_row w b (k+i) _ dv mf.2
    obtain⟨ca,a4,kh⟩:=Ni bK k (i+1) (aF.set (k+i) u) _ (fun x al=>ab x (by simp [al])) (by simp;omega) (aH.store (k+i) u)
    refine⟨ca,?_,?_⟩
    · simp [storeCells,nq,run_store P w ⟨b,k+i,none⟩ u .plain (ab u (by simp)),a7,bs,a4]
    · have e:(aF.set (k+i) u).take (k+(i+1))++bK++(aF.set (k+i) u).drop (k+(i+1)+bK.length)=aF.take (k+i)++(u::bK)++aF.drop (k+i+(u::bK).length):=by
        rw [List.drop_set_of_lt (by omega),show k+(i+1)=(k+i)+1 by omega,List.take_succ_eq_append_getElem (by simp;omega),List.take_set_of_le (by omega)]
        simp [Nat.add_assoc,Nat.add_comm 1]
      rw [e]at kh
      exact kh
theorem AM{aF ga bK:List Value}{t b k n:Nat}{x y:Operand}{dv:TypeId}(al:aX E x=some (.pointer (some ⟨b,k,none⟩)))(aZ:aX E y=some (.agg bK.toArray))(ab:∀u∈bK,u.oneCell'=true)(dV:Out (U b aF dv) S R)(aL:hA P t=some (true,n))
    (aP:bK.length=n) (ai:Nat.ble (k+n) aF.length=true) (a7:aF.take k++bK++aF.drop (k+n)=ga):pG P B A N ao E S (.store t x y) (U b ga dv::R):=
  ⟨by simp,fun a w bg pos a8 g aq aH=>by
    obtain⟨_,ae⟩:=Ft aL w
    have ai:=Nat.le_of_ble_eq_true ai
    obtain⟨ca,a4,kh⟩:=Ni (P:=P) bK k 0 aF w ab (by omega) (aH.take (.cons dV (.nil _)))
    refine⟨ca,?_,by rw [←a7, ←aP];simpa using kh⟩
    simp [execOp,aq.aX al,aq.aX aZ,Instr.storeAt,Instr.sureAddr,storeVar,ae,Value.cells,aP,a4]⟩
theorem kG{aF bK:List Value}{t b n:Nat}{x y:Operand}{dv:TypeId}(al:aX E x=some (.pointer (some ⟨b,0,none⟩)))(aZ:aX E y=some (.agg bK.toArray))(ab:bK.all (·.oneCell')=true)(dV:Out (U b aF dv) S R)(aL:hA P t=some (true,n))
    (aP:Nat.beq bK.length n=true) (ai:Nat.beq aF.length n=true):pG P B A N ao E S (.store t x y) (U b bK dv::R):=
  AM (ga:=bK) al aZ (fun u hu=>List.all_eq_true.1 ab u hu) dV aL (Nat.eq_of_beq_eq_true aP) (by have:=Nat.eq_of_beq_eq_true ai;simp [this]) (by have:=Nat.eq_of_beq_eq_true ai;simp [←this])
theorem nT{f:FuncId}{xs:List Operand}{args:List Value}{dC:Array TypeId}{pre:List (ar B)}{post:Value→List (ar B)→Prop}(hw:Want ops N E g)(he:Go.Proofs.Enters P f)
    (a5:g9 E xs=some args) (bs:di P B f args pre post) (aL:Take pre S F) (aJ:Nat.blt d N=true)
    (h:∀v bc,post v bc→cg P B A r N ops rest ao ((d,v)::E) (bc++F) Q):
    cg P B A r N ops (⟨some d,.call {callee:= .value (.func f),args:=xs.toArray,argTypes:=dC},bg,pos,a8,g⟩::rest) ao E S Q:=by
  intro a w aq aH
  simp only [wpListIn]
  rw [if_pos (Want.wanted (o:=⟨some d,.call {callee:= .value (.func f),args:=xs.toArray,argTypes:=dC},bg,pos,a8,g⟩) hw aq)]
  refine⟨fun _ _=>trivial,?_⟩
  have jE:=aq.g9 a5
  rw [Oper.semAt_eq _ _ _ (by simp)]
  have hG:(execOp a.eval ⟨some d,.call {callee:= .value (.func f),args:=xs.toArray,argTypes:=dC},bg,pos,a8,g⟩).run P w= .ok (.enter f args.toArray) w:=by
    simp [execOp,resolve,Act.eval,Deferred.ofValue,invoke,jE,he args.toArray w]
  rw [hG]
  have kh:=aH.take aL
  obtain⟨D,a1,a3,bI,cv,eX,fJ⟩:=kh
  obtain⟨ij,ng,bU,gT,iG,h2⟩:=a1.append
  refine⟨by simp [Fence.wide],?_⟩
  refine CallsIn.mono (bs w ij iG (fun k ai=>a3 k ((bU k).2 (.inl ai))) aH.size) ?_
  rintro e ca ⟨v,bc,rfl,aC,fo⟩
  refine h v bc aC _ ca (aq.put (by simpa using aJ)) ?_
  exact bC.pg a1 a3 bI cv eX fJ bU gT h2 fo
theorem OC{f:FuncId}{xs:List Operand}{args:List Value}{dC:Array TypeId}{u:Value}(hw:Want ops N E g)(he:Go.Proofs.Enters P f)
    (a5:g9 E xs=some args) (bs:di P B f args [] (fun v S=>v=u∧S=[])) (aJ:Nat.blt d N=true)
    (h:cg P B A r N ops rest ao ((d,u)::E) S Q):
    cg P B A r N ops (⟨some d,.call {callee:= .value (.func f),args:=xs.toArray,argTypes:=dC},bg,pos,a8,g⟩::rest) ao E S Q:=
  nT hw he a5 bs (.nil _) aJ (fun _ _ ⟨cL,dj⟩=>by subst cL dj;exact h)
theorem Out.back{x:ar B}{S R:List (ar B)}(h:Out x S R):∀{D w},ee (x::R) D w→ee S D w:=by
  induction h with
  |here S=>exact fun h=>h
  |there y h ih=>
    intro D w ⟨dm,dY,bU,aJ,ab,jk,jB,nG,wE,av,aV⟩
    refine⟨jk,fun k=>dm k∨jB k,fun k=>?_,fun k ai h=>?_,av,ih ⟨dm,jB,fun _=>Iff.rfl,fun k ai h=>aJ k ai ((nG k).2 (.inr h)),ab,aV⟩⟩
    · rw [bU k,nG k];exact⟨fun h=>h.elim (fun h=> .inr (.inl h)) (fun h=>h.elim .inl (fun h=> .inr (.inr h))),fun h=>h.elim (fun h=> .inr (.inl h)) (fun h=>h.elim .inl (fun h=> .inr (.inr h)))⟩
    · exact h.elim (fun h=>aJ k h ((nG k).2 (.inl ai))) (fun h=>wE k ai h)
theorem Take.back{L S R:List (ar B)}(h:Take L S R):∀{D w},ee (L++R) D w→ee S D w:=by
  induction h with
  |nil S=>exact fun h=>h
  |cons h t ih=>
    intro D w ⟨dm,dY,bU,aJ,ab,ae⟩
    exact h.back ⟨dm,dY,bU,aJ,ab,ih ae⟩
theorem bC.aa3{L R:List (ar B)}{w:World}(h:bC B A (L++R) w)(t:Take L S R):bC B A S w:=by
  obtain⟨D,ab,ae⟩:=h
  exact⟨D,t.back ab,ae⟩
theorem OD{f:FuncId}{xs:List Operand}{args:List Value}{dC:Array TypeId}{u:Value}{pre:List (ar B)}(hw:Want ops N E g)(he:Go.Proofs.Enters P f)
    (a5:g9 E xs=some args) (bs:di P B f args pre (fun v S=>v=u∧S=pre)) (aL:Take pre S F) (aJ:Nat.blt d N=true)
    (h:cg P B A r N ops rest ao ((d,u)::E) S Q):
    cg P B A r N ops (⟨some d,.call {callee:= .value (.func f),args:=xs.toArray,argTypes:=dC},bg,pos,a8,g⟩::rest) ao E S Q:=
  nT hw he a5 bs aL aJ (fun _ _ ⟨cL,dj⟩=>by subst cL dj;exact fun a w aq aH=>h a w aq (aH.aa3 aL))
end Go.Sl
end
section
namespace Go.Sl
open Go
variable[m6]
variable{P:Program}{B:Nat}{A:e0}{r:Option Nat}{N:Nat}{ao:List Nat}{E fK:Env}{S R kn L F:List (ar B)}{Q ik:fw B}{ops:Array Oper}{rest:List Oper}{o:Oper}
variable{d:Nat}{op:Op}{bg:TypeId}{pos:String}{a8:Array Edge}{g:Option (Nat×Bool)}{v:Value}
def r7(E:Env):List (Nat×Operand)→Option (List (Nat×Value))
  |[]=>some []
  |(i,x)::l=>match aX E x,r7 E l with
    |some v,some bK=>some ((i,v)::bK)
    |_,_=>none
theorem dO.r7{a:Act}(h:dO N ao E a):∀{l:List (Nat×Operand)} {bK:List (Nat×Value)},r7 E l=some bK→l.map (fun(i,x)=>(i,a.eval x))=bK
  |[],bK,cL=>by simp [Sl.r7]at cL;simp [cL]
  |(i,x)::l,bK,cL=>by
    simp only [Sl.r7]at cL
    split at cL
    · rename_i v ag2 ab ae
      simp at cL;subst cL
      simp [h.aX ab,h.r7 ae]
    · cases cL
def hf(P:Program)(t:Nat):Option (List Value×List (Nat×Nat)):=
  match P.info? t,P.underlying t with
  |some it,some (.struct lJ)=>match it.zero,lJ.toList.mapM (fun f=>(P.info? f.type).map fun i=>(f.offset,i.size))with
    |some z,some pl=>some (z.cells.toList,pl)
    |_,_=>none
  |_,_=>none
def setAt:List Value→Nat→List Value→List Value
  |aF,_,[]=>aF
  |aF,off,v::bK=>setAt (aF.set off v) (off+1) bK
def rV(pl:List (Nat×Nat)):List Value→List (Nat×Value)→Option (List Value)
  |aF,[]=>some aF
  |aF,(i,v)::rest=>match pl[i]? with
    |none=>none
    |some (off,size)=>bif Nat.beq v.cells.toList.length size&&Nat.ble (off+size) aF.length then rV pl (setAt aF off v.cells.toList) rest else none
theorem Nq:∀(bK:List Value) (aF:List Value) (off n:Nat),(bK.zipIdx n).foldl (fun(aF:Array Value) (c,j)=>aF.setIfInBounds (off+j) c) aF.toArray=(setAt aF (off+n) bK).toArray
  |[],aF,off,n=>by simp [setAt]
  |v::bK,aF,off,n=>by
    simp only [List.zipIdx_cons,List.foldl_cons,setAt]
    rw [show(aF.toArray.setIfInBounds (off+n) v)=(aF.set (off+n) v).toArray by simp]
    exact Nq bK _ off (n+1)
theorem FG{place:Nat→Option (Nat×Nat)}{pl:List (Nat×Nat)}:∀{bX:List (Nat×Value)} {z aF:List Value},(∀p∈bX,place p.1=pl[p.1]?)→rV pl z bX=some aF→Instr.fill place z.toArray bX=some aF.toArray
  |[],z,aF,_,h=>by simp [rV]at h;simp [Instr.fill,h]
  |(i,v)::rest,z,aF,Bj,h=>by
    have Ua:=Bj (i,v) (by simp)
    simp only at Ua
    simp only [rV]at h
    simp only [Instr.fill,Ua]
    split at h
    · cases h
    · rename_i off size af
      rw [af]
      cases aR:(Nat.beq v.cells.toList.length size&&Nat.ble (off+size) z.length)with
      |false=>rw [aR]at h;cases h
      |true=>
        rw [aR]at h
        simp only [Bool.and_eq_true]at aR
        have ab:=Nat.eq_of_beq_eq_true aR.1
        have ae:=Nat.le_of_ble_eq_true aR.2
        have Bk:v.cells.size=size:=by simpa using ab
        simp only [Bk,List.size_toArray]
        rw [if_neg (by simp;omega)]
        have e:=Nq v.cells.toList z off 0
        rw [←Array.foldl_toList,Array.toList_zipIdx,e]
        exact FG (fun p aC=>Bj p (by simp [aC])) h
theorem Wc{t:Nat}{z:List Value}{pl:List (Nat×Nat)}{bX:List (Nat×Value)}{aF:List Value}(h:hf P t=some (z,pl))(bs:rV pl z bX=some aF):P.built t bX=some aF.toArray:=by
  unfold hf at h
  unfold Program.built
  split at h
  · rename_i it lJ af hu
    split at h
    · rename_i vu ag3 aS aC
      simp at h;obtain⟨rfl,rfl⟩:=h
      simp only [af,hu,aS,aC]
      have:=FG (place:=(ag3.toArray[·]?)) (fun p _=>by simp) bs
      simpa using this
    · cases h
  · cases h
theorem yL{t:Nat}{parts:List (Nat×Operand)}{z:List Value}{pl:List (Nat×Nat)}{bX:List (Nat×Value)}(aF:List Value)(aC:r7 E parts=some bX)(aL:hf P t=some (z,pl))
    (bs:rV pl z bX=some aF):dw P B A N ao E S (.build t parts.toArray) (.agg aF.toArray):=
  ⟨by simp,by simp,fun a w bg pos a8 g d aq aH=>by
    have e:=aq.r7 aC
    have:=run_build (P:=P) w t (parts.map fun(i,x)=>(i,a.eval x)).toArray aF.toArray (by rw [e];exact Wc aL bs)
    simp only [execOp,List.map_toArray,Sem.run_bind,this,Result.andThen_ok,Sem.run_pure]⟩
theorem aa4{t:Nat}{aF:List Value}(aS:zeroOf P t=some aF)(ai:(match P.underlying t with|some (.struct _)=>(hf P t).isSome|some (.array _ e)=>(P.info? e).isSome|_=>false)=true):dw P B A N ao E S (.build t #[]) (.agg aF.toArray):=
  ⟨by simp,by simp,fun a w bg pos a8 g d aq aH=>by
    have aR:P.built t []=some aF.toArray:=by
      unfold zeroOf at aS
      split at aS
      · rename_i i af
        split at aS
        · rename_i z va
          simp at aS;subst aS
          unfold Program.built
          split at ai
          · rename_i lJ hu
            unfold hf at ai
            simp only [af,hu]at ai⊢
            split at ai
            · rename_i vu pl ab ae
              rw [va]at ab;cases ab
              simp [ae,va,Instr.fill]
            · cases ai
          · rename_i n e hu
            simp only [af,hu,va]
            cases oN:P.info? e with
            |none=>simp [oN]at ai
            |some akA=>simp [Instr.fill]
          · cases ai
        · cases aS
      · cases aS
    have:=run_build (P:=P) w t #[] aF.toArray aR
    simp only [execOp,Array.map_empty,Sem.run_bind,this,Result.andThen_ok,Sem.run_pure]⟩
def jA(P:Program)(t:Nat):Option (Nat×Nat×Nat×List Value):=
  match P.underlying t with
  |some (.slice e)=>match P.info? e with
    |some i=>match i.zero with
      |some z=>if z.cells.size=i.size∧0<i.size then some (e,i.size,i.bytes,z.cells.toList)else none
      |none=>none
    |none=>none
  |_=>none
theorem xj{t e aN jf:Nat}{z:List Value}(h:jA P t=some (e,aN,jf,z)):∃i cd,P.underlying t=some (.slice e)∧P.info? e=some i∧i.zero=some cd∧i.size=aN∧i.bytes=jf∧cd.cells.size=aN∧0<aN∧cd.cells.toList=z:=by
  unfold jA at h
  split at h
  · rename_i og hu
    split at h
    · rename_i i af
      split at h
      · rename_i cd aS
        split at h
        · rename_i a7
          simp at h;obtain⟨rfl,rfl,rfl,rfl⟩:=h
          exact⟨i,cd,hu,af,aS,rfl,rfl,a7.1,a7.2,rfl⟩
        · cases h
      · cases h
    · cases h
  · cases h
theorem bC.PR{e aN:Nat}{w:World}(h:bC B A S w):bC B A (row (.slice none 0 0) e aN 0 []::S) w:=by
  obtain⟨D,ab,ae⟩:=h
  exact⟨D,⟨fun _=>False,D,fun k=>by simp,fun _ h _=>h,⟨World.ownsRow_nil _ _ _ _,fun k=>by simp [Value.ownBlock]⟩,ab⟩,ae⟩
theorem WL{l:List Oper}(e aN:Nat)(h:cg P B A r N ops l ao E (row (.slice none 0 0) e aN 0 []::S) Q):cg P B A r N ops l ao E S Q:=fun a w aq aH=>h a w aq aH.PR
theorem OE{c:Code}(e aN:Nat)(h:X P B A r N c ao E (row (.slice none 0 0) e aN 0 []::S) Q):X P B A r N c ao E S Q:=fun a w aq aH=>h a w aq aH.PR
theorem Nm{w ca:World}{t bg e aN m c n:Nat}{i:TypeInfo}{cd v fU:Value}{xs news:List Value}{bu:Addr}(hu:P.underlying t=some (.slice e))(af:P.info? e=some i)(aS:i.zero=some cd)(fB:i.size=aN)
    (jW:w.ownsRow B e aN v n xs) (aE:news.length=m*aN) (KU:∀j u,news[j]?=some u→w.cell? (bu.add j)=some u) (ab:∀u∈news,u.oneCell'=true) (qs:n+m≤maxLen) (n7:(n+m)*i.bytes≤140737488355328)
    (zc:fU= .slice none 0 0↔v= .slice none 0 0∧m=0) (hG:(Builtin.append_ #[t,t] bg #[v,.slice (some bu) m c]).run P w= .ok fU ca):∀k,fU.ownBlock=some k→v.ownBlock=some k∨w.heap.size≤k:=by
  intro k ai
  subst fB
  have l3:n+m≤9223372036854775807:=by simp only [maxLen]at qs;omega
  rcases jW.2 with⟨rfl,rfl⟩|⟨g,cap,dR,rfl,Ub,bl,HE,oO,vb,ai6⟩
  · by_cases hm:m=0
    · rw [zc.2 ⟨rfl,hm⟩]at ai;cases ai
    · have a4:=run_append_nil (P:=P) w t bg e i cd hu af aS bu m c news aE KU (by omega) (by omega) (by simp only [Nat.zero_add]at n7;omega)
      rw [hG]at a4
      cases a4
      simp [Value.ownBlock]at ai
      exact .inr (by omega)
  · by_cases R8:n+m≤cap
    · have afv:n*i.size+news.length≤dR.size:=by rw [aE,vb, ←Nat.add_mul];exact Nat.mul_le_mul_right _ R8
      have a4:=run_append_room (P:=P) w t bg e i hu af g n cap dR bl bu m c news aE KU ab R8 afv
      rw [hG]at a4
      cases a4
      exact .inl ai
    · have a4:=run_append_grow (P:=P) w t bg e i cd hu af aS ⟨g,0,none⟩ n cap xs jW.1 (jW.cells (g:=g) rfl) bu m c news aE KU (by omega) (by omega) (growslice_fits (by omega) n7)
      rw [hG]at a4
      cases a4
      simp [Value.ownBlock]at ai
      exact .inr (by omega)
theorem IX{t e aN jf n m c:Nat}{z xs news:List Value}{x y:Operand}{K:ar B}{bu:Addr}(hw:Want ops N E g)(al:aX E x=some v)(aZ:aX E y=some (.slice (some bu) m c))(aL:jA P t=some (e,aN,jf,z))
    (gM:Out (row v e aN n xs) S R) (hI:Out K S kn) (a4:dI K bu news) (aE:news.length=m*aN) (ab:∀u∈news,u.oneCell'=true) (qs:n+m≤maxLen) (n7:(n+m)*jf≤140737488355328) (aJ:Nat.blt d N=true)
    (h:∀fU,(fU= .slice none 0 0↔v= .slice none 0 0∧m=0)→cg P B A r N ops rest ao ((d,fU)::E) (row fU e aN (n+m) (xs++news)::R) Q):
    cg P B A r N ops (⟨some d,.call {callee:= .builtin .append,args:= #[x,y],argTypes:= #[t,t]},bg,pos,a8,g⟩::rest) ao E S Q:=
  tD (α:=Value) id (fun fU=>row fU e aN (n+m) (xs++news)::R) (fun fU=>fU= .slice none 0 0↔v= .slice none 0 0∧m=0) hw (by simp) aJ (fun a w aq aH=>by
    obtain⟨i,cd,hu,af,aS,fB,tU,Bl,qe,_⟩:=xj aL
    obtain⟨E0,bO⟩:=aH.mem hI
    have h1:=aH.size
    obtain⟨D,⟨dm,dY,bU,gT,⟨jW,zx⟩,dj⟩,ae,av,aV,bN,c0⟩:=aH.take (.cons gM (.nil _))
    obtain⟨fU,ca,hG,Dt,qt,zc⟩:=run_append_own (P:=P) w B t bg e i cd aN jf hu af aS fB tU Bl qe v n xs jW bu m c news aE
      (fun j u aI=>by rw [a4 E0 w bO j (List.getElem?_eq_some_iff.1 aI).1,aI]) ab qs n7 h1
    refine⟨fU,ca,?_,?_,zc⟩
    · simp [execOp,resolve,invoke,builtin,aq.aX al,aq.aX aZ,hG]
    · have ey:=Dt.lt
      have hold:∀k,v.ownBlock=some k→D k:=fun k ai=>(bU k).2 (.inl ((zx k).2 ai))
      have xP:=Nm (P:=P) hu af aS fB jW aE (fun j u aI=>by rw [a4 E0 w bO j (List.getElem?_eq_some_iff.1 aI).1,aI]) ab qs (by rw [tU];exact n7) zc hG
      refine⟨fun k=>fU.ownBlock=some k∨dY k,⟨fun k=>fU.ownBlock=some k,dY,fun _=>Iff.rfl,fun k ai h7=>?_,⟨Dt,fun _=>Iff.rfl⟩,dj.m2 fun k ai=>?_⟩,fun k ai=>?_,fun k ai=>?_,⟨qt.os.trans aV.os,qt.tape.trans aV.tape,qt.output.trans aV.output,Nat.le_trans aV.size qt.size,fun k ai aP=>?_⟩,bN,c0⟩
      · rcases xP k ai with h|h
        · exact gT k ((zx k).2 h) h7
        · have:=(ae k ((bU k).2 (.inr h7))).2;omega
      · refine qt.block k ?_ ?_
        · rcases ai with ai|ai
          · omega
          · exact(ae k ((bU k).2 (.inr ai))).2
        · intro e
          rcases ai with ai|ai
          · have:=(ae k (hold k e.symm)).1;omega
          · exact gT k ((zx k).2 e.symm) ai
      · rcases ai with ai|ai
        · exact ey k ai
        · have:=ae k ((bU k).2 (.inr ai));have:=qt.size;omega
      · rcases ai with ai|ai
        · rcases xP k ai with h|h
          · exact av k (hold k h)
          · have:=aV.size;exact .inr (by omega)
        · exact av k ((bU k).2 (.inr ai))
      · have:=aV.size
        refine(qt.block k (by omega) (fun e=>?_)).trans (aV.same k ai aP)
        rcases av k (hold k e.symm)with h|h
        · exact aP h
        · omega) h
theorem im{t e aN n jf:Nat}{z aF:List Value}{parts:List (Nat×Operand)}{bX:List (Nat×Value)}(hw:Want ops N E g)(aC:r7 E parts=some bX)(aL:jA P t=some (e,aN,jf,z))
    (l3:n*aN≤16777216) (qe:0<n) (vb:aF.length=n*aN) (bs:rV ((List.range n).map fun i=>(i*aN,aN)) ((List.range (n*aN)).map (z.toArray[· %z.length]!)) bX=some aF) (ey:bX.all (fun p=>Nat.blt p.1 n)=true) (aJ:Nat.blt d N=true)
    (h:∀b,cg P B A r N ops rest ao ((d,.slice (some ⟨b,0,none⟩) n n)::E) (U b aF e::S) Q):cg P B A r N ops (⟨some d,.buildSlice t n parts.toArray,bg,pos,a8,g⟩::rest) ao E S Q:=
  tD (α:=Nat) (fun b=> .slice (some ⟨b,0,none⟩) n n) (fun b=>U b aF e::S) (fun _=>True) hw (by simp) aJ (fun a w aq aH=>by
    obtain⟨i,cd,hu,af,aS,fB,tU,Bl,ly,wF⟩:=xj aL
    have cb:=aq.r7 aC
    have Lk:z.length=cd.cells.size:=by rw [←wF];simp
    have Ea:z.toArray=cd.cells:=by rw [←wF]
    refine⟨w.heap.size,w.alloc (.cells aF.toArray e),?_,aH.new _,trivial⟩
    have gr:¬(16777216<n*aN):=by omega
    have b5:n*aN≠0:=by have:=Nat.mul_pos qe ly;omega
    rw [Ea,Lk]at bs
    simp only [execOp,Instr.buildSlice,Sem.run_bind,run_underlying hu,Result.andThen_ok,sizeOf,typeInfo,run_program,af,Sem.run_pure,fB]
    simp only [show(2:Nat)^24=16777216 from rfl,gt_iff_lt,gr,if_false,Sem.run_bind,Sem.run_pure,Result.andThen_ok,b5,zeroValue,typeInfo,run_program,af,aS]
    have cq:(parts.toArray.map fun x=>match x with|(i,x)=>(i,a.eval x)).toList=bX:=by rw [←cb];simp
    have fP:Instr.fill (fun i=>some (i*aN,aN)) ((Array.range (n*aN)).map fun x=>cd.cells[x%cd.cells.size]!) bX=some aF.toArray:=by
      have:=FG (place:=fun i=>some (i*aN,aN)) (fun p aC=>by have:=List.all_eq_true.1 ey p aC;simp at this;simp [this]) bs
      rw [←this]
      congr 1
      apply Array.ext'
      simp [Array.toList_range]
    simp only [cq,fP,newRow,Sem.run_bind,run_newObj_alloc,Result.andThen_ok,Sem.run_pure]) (fun b _=>h b)
theorem ir{b:Nat}{aF:List Value}{t:TypeId}:dI (U (B:=B) b aF t) ⟨b,0,none⟩ aF:=lQ
theorem Al{fn:Func}{p t b n:Nat}{aF:List Value}{dv:TypeId}{aU:List (ar B)}(h:fn.results= #[.cell p t])(aC:E.get p=some (.pointer (some ⟨b,0,none⟩)))(aq:Out (U b aF dv) S aU)(aL:hA P t=some (true,n))(aP:aF.length=n):
    ∀a w,dO N ao E a→bC B A S w→(results fn a.tmps).run P w= .ok (.agg aF.toArray) w:=by
  intro a w ei aH
  obtain⟨D,bO⟩:=aH.mem aq
  have aE:=Ah (P:=P) (w:=w) (p:=⟨b,0,none⟩) (bK:=aF) aL aP (fun k ai=>lQ D w bO k (by omega))
  simp only [Instr.loadAt,Instr.sureAddr,Sem.run_bind,Sem.run_pure,Result.andThen_ok]at aE
  have n8:a.tmps[p]?.getD undef= .pointer (some ⟨b,0,none⟩):=by have:=ei.get p _ aC;simpa [Array.getD_eq_getD_getElem?]using this
  simp [results,h,n8,asAddr,aE]
end Go.Sl
end
section
namespace Go.Sl
open Go
variable[m6]
variable{P:Program}{B:Nat}{A:e0}{r:Option Nat}{N:Nat}{ao:List Nat}{E fK:Env}{S R kn L F:List (ar B)}{Q ik:fw B}{ops:Array Oper}{rest:List Oper}{o:Oper}
variable{d:Nat}{op:Op}{bg:TypeId}{pos:String}{a8:Array Edge}{g:Option (Nat×Bool)}{v:Value}
theorem dM(a:BitVec 32):BitVec.ofInt 32 (a.toNat:Int)=a:=by
  apply BitVec.eq_of_toNat_eq
  simp
theorem V7(n:Nat)(h:n<4294967296):IntKind.u32.wrap (n:Int)=(n:Int):=by
  simp [IntKind.wrap,IntKind.bits,IntKind.signed];omega
theorem Gc(a:BitVec 32):IntKind.u32.wrap (a.toNat:Int)=(a.toNat:Int):=V7 _ a.isLt
theorem u32_in{m:Int}(b5:0≤m)(ab:m≤4294967295):IntKind.u32.wrap m=m:=by
  simp [IntKind.wrap,IntKind.bits,IntKind.signed];omega
theorem u8_in{m:Int}(b5:0≤m)(ab:m≤255):IntKind.u8.wrap m=m:=by
  simp [IntKind.wrap,IntKind.bits,IntKind.signed];omega
theorem lP{m:Int}(b5: -9223372036854775808≤m)(ab:m≤9223372036854775807):IntKind.i64.wrap m=m:=IntWalk.i64_in m ⟨b5,ab⟩
def S2:BinOp→BitVec 32→BitVec 32→Option (BitVec 32)
  | .and,a,b=>some (a&&&b)
  | .or,a,b=>some (a|||b)
  | .xor,a,b=>some (a^^^b)
  | .andNot,a,b=>some (a&&&~~~b)
  | .add,a,b=>some (a+b)
  | .sub,a,b=>some (a-b)
  | .mul,a,b=>some (a*b)
  |_,_,_=>none
theorem Fv(m:Int)(a:BitVec 32)(h:BitVec.ofInt 32 m=a):(m:Int)%4294967296=(a.toNat:Int):=by
  subst h
  simp [BitVec.toNat_ofInt]
  omega
theorem g6{x y:Operand}{t gd:Nat}{m n:Int}{a b c:BitVec 32}{e1:BinOp}(al:aX E x=some (.int .u32 m))(aZ:aX E y=some (.int .u32 n))(a5:BitVec.ofInt 32 m=a)(aR:BitVec.ofInt 32 n=b)
    (a7:S2 e1 a b=some c):dw P B A N ao E S (.binOp e1 t x y gd) (.int .u32 (c.toNat:Int)):=
  ⟨by simp,by simp,fun ac w bg pos a8 g d aq aH=>by
    have cb:=Fv m a a5
    have cq:=Fv n b aR
    cases e1<;>simp only [S2,Option.some.injEq,reduceCtorEq]at a7<;>subst a7
    · have:IntKind.u32.wrap (m+n)=((a+b).toNat:Int):=by
        simp [IntKind.wrap,IntKind.bits,IntKind.signed,BitVec.toNat_add];omega
      simp [execOp,aq.aX al,aq.aX aZ,eqGuard,binOp,Op.intArith,this]
    · have:IntKind.u32.wrap (m-n)=((a-b).toNat:Int):=by
        simp [IntKind.wrap,IntKind.bits,IntKind.signed,BitVec.toNat_sub];omega
      simp [execOp,aq.aX al,aq.aX aZ,eqGuard,binOp,Op.intArith,this]
    · have:IntKind.u32.wrap (m*n)=((a*b).toNat:Int):=by
        simp only [IntKind.wrap,IntKind.bits,IntKind.signed,BitVec.toNat_mul]
        simp
        rw [Int.mul_emod,cb,cq]
      simp [execOp,aq.aX al,aq.aX aZ,eqGuard,binOp,Op.intArith,this]
    all_goals
      simp only [execOp,aq.aX al,aq.aX aZ,eqGuard,binOp,Op.intBits,IntKind.bits,a5,aR,Gc]
      simp [-BitVec.toNat_and,-BitVec.toNat_or,-BitVec.toNat_xor,-BitVec.toNat_not]
      try rfl⟩
theorem Ap{x y:Operand}{t gd:Nat}{m n:Int}{hx:IntKind}{a:BitVec 32}(al:aX E x=some (.int .u32 m))(aZ:aX E y=some (.int hx n))(a5:BitVec.ofInt 32 m=a)(b5:0≤n)(ab:n<32)
    :dw P B A N ao E S (.binOp .shl t x y gd) (.int .u32 ((a<<<n.toNat).toNat:Int)):=
  PQ al aZ b5 (by
    have cb:=Fv m a a5
    have hm:min n.toNat IntKind.u32.bits=n.toNat:=by simp [IntKind.bits];omega
    simp only [hm]
    simp only [IntKind.wrap,IntKind.bits,IntKind.signed,BitVec.toNat_shiftLeft,Nat.shiftLeft_eq]
    simp
    rw [Int.mul_emod,cb]
    conv=>rhs;rw [Int.mul_emod]
    have:((a.toNat:Int))%4294967296=a.toNat:=by have:=a.isLt;omega
    rw [this])
theorem xq{x y:Operand}{t gd:Nat}{m n:Int}{hx:IntKind}{a:BitVec 32}(al:aX E x=some (.int .u32 m))(aZ:aX E y=some (.int hx n))(a5:m=(a.toNat:Int))(b5:0≤n)(ab:n<32)
    :dw P B A N ao E S (.binOp .shr t x y gd) (.int .u32 ((a>>>n.toNat).toNat:Int)):=
  PQ al aZ b5 (by
    subst a5
    have hm:min n.toNat IntKind.u32.bits=n.toNat:=by simp [IntKind.bits];omega
    simp only [hm]
    rw [Int.fdiv_eq_ediv_of_nonneg _ (by exact Int.pow_nonneg (by omega))]
    simp [Nat.shiftRight_eq_div_pow])
end Go.Sl
end
section
namespace Go.Sl
open Go
variable{P:Program}{B:Nat}{A:e0}{r:Option Nat}{N:Nat}{ao:List Nat}{E fK:Env}{S R kn L F:List (ar B)}{Q ik:fw B}{ops:Array Oper}{rest:List Oper}{o:Oper}
variable{d:Nat}{op:Op}{bg:TypeId}{pos:String}{a8:Array Edge}{g:Option (Nat×Bool)}{v:Value}
def S3:Option IntKind→Value→Bool
  |none,.bool _=>true
  |some k,.int hx _=>k==hx
  |_,_=>false
def k5:List (Option IntKind)→List Value→Bool
  |[],[]=>true
  |k::hl,v::bK=>S3 k v&&k5 hl bK
  |_,_=>false
def LZ:Value→Value→Bool
  | .bool a,.bool b=>a==b
  | .int _ a,.int _ b=>a==b
  |_,_=>false
def nr:List Value→List Value→Bool
  |x::xs,y::cP=>LZ x y&&nr xs cP
  |_,_=>true
def Cq(P:Program)(rec:TypeId→Option (List (Option IntKind))):Nat→List Field→Option (List (Option IntKind))
  |_,[]=>some []
  |off,f::lJ=>match rec f.type,P.info? f.type with
    |some l,some i=>if f.name≠ "_"∧f.offset=off∧i.size=l.length then match Cq P rec (off+l.length) lJ with
        |some gf=>some (l++gf)
        |none=>none
      else none
    |_,_=>none
def sC(P:Program):Nat→TypeId→Option (List (Option IntKind))
  |0,_=>none
  |d+1,t=>match P.underlying t with
    |some .bool=>some [none]
    |some (.int k)=>some [some k]
    |some (.struct lJ)=>if P.stoodInHeld t then none else Cq P (sC P d) 0 lJ.toList
    |some (.array n e)=>match sC P d e,P.info? e with
      |some l,some i=>if i.size=l.length then some (List.replicate n l).flatten else none
      |_,_=>none
    |_=>none
def p4(P:Program)(t:TypeId):Bool:=match P.underlying t with
  |some (.struct _)|some (.array _ _)=>true
  |_=>false
def sv(P:Program)(t:TypeId)(xs:List Value):Value:=if p4 P t then .agg xs.toArray else xs.headD undef
theorem xf:∀{hl:List (Option IntKind)} {xs:List Value},k5 hl xs=true→xs.length=hl.length
  |[],[],_=>rfl
  |[],_::_,h=>by cases h
  |_::_,[],h=>by cases h
  |k::hl,x::xs,h=>by simp [k5]at h;simp [xf h.2]
theorem Fw:∀{hl Eb:List (Option IntKind)} {xs:List Value},k5 (hl++Eb) xs=true→k5 hl (xs.take hl.length)=true∧k5 Eb (xs.drop hl.length)=true
  |[],Eb,xs,h=>by simpa [k5]using h
  |k::hl,Eb,[],h=>by cases h
  |k::hl,Eb,x::xs,h=>by
    simp only [List.cons_append,k5,Bool.and_eq_true]at h
    obtain⟨ab,ae⟩:=Fw h.2
    simp [k5,h.1,ab,ae]
theorem IH:∀(n:Nat) (xs cP:List Value),n≤xs.length→n≤cP.length→nr xs cP=(nr (xs.take n) (cP.take n)&&nr (xs.drop n) (cP.drop n))
  |0,xs,cP,_,_=>by simp [nr]
  |n+1,[],_,h,_=>by simp at h
  |n+1,_::_,[],_,h=>by simp at h
  |n+1,x::xs,y::cP,h,eE=>by
    simp only [List.take_succ_cons,List.drop_succ_cons,nr]
    rw [IH n xs cP (by simpa using h) (by simpa using eE),Bool.and_assoc]
theorem FL{t:TypeId}{tV:TypeDesc}(hu:P.underlying t=some tV)(w:World):(isAgg t).run P w= .ok (p4 P t) w:=by
  unfold isAgg p4
  simp only [Sem.run_bind,run_underlying hu,Result.andThen_ok,hu]
  cases tV<;>rfl
theorem FW{t:TypeId}{tV:TypeDesc}{i:TypeInfo}{l:List (Option IntKind)}{xs:List Value}{off:Nat}(hu:P.underlying t=some tV)(af:P.info? t=some i)(aH:i.size=l.length)(aE:0<l.length∨p4 P t=true)
    (h:k5 l ((xs.drop off).take l.length)=true) (w:World):(part t xs.toArray off).run P w= .ok (sv P t ((xs.drop off).take l.length)) w:=by
  have hlen:=xf h
  unfold part sv
  simp only [Sem.run_bind,FL hu,Result.andThen_ok]
  cases aR:p4 P t with
  |true=>
    simp only [if_true,Sem.run_bind,sizeOf,typeInfo,run_program,Result.andThen_ok,af,Sem.run_pure,aH]
    congr 2
    simp [List.extract_eq_take_drop]
  |false=>
    have b5:0<l.length:=by rcases aE with h|h;exact h;rw [aR]at h;cases h
    simp only [Bool.false_eq_true,if_false]
    simp at hlen
    have A3:off<xs.length:=by omega
    simp only [List.getElem?_toArray,List.getElem?_eq_getElem A3]
    simp only [Sem.run_pure]
    congr 1
    simp [List.head?_eq_getElem?,List.getElem?_drop,List.getElem?_eq_getElem A3,b5]
theorem Nr:∀{d:Nat} {t:TypeId} {l:List (Option IntKind)},sC P d t=some l→(∃tV,P.underlying t=some tV)∧(0<l.length∨p4 P t=true)
  |0,_,_,h=>by cases h
  |d+1,t,l,h=>by
    unfold sC at h
    unfold p4
    split at h
    · rename_i hu;simp at h;subst h;exact⟨⟨_,hu⟩,.inl (by simp)⟩
    · rename_i hu;simp at h;subst h;exact⟨⟨_,hu⟩,.inl (by simp)⟩
    · rename_i hu;exact⟨⟨_,hu⟩,.inr (by simp [hu])⟩
    · rename_i hu;exact⟨⟨_,hu⟩,.inr (by simp [hu])⟩
    · cases h
theorem PS{d f:Nat}(E1:∀{t:TypeId} {l:List (Option IntKind)},sC P d t=some l→∀(xs cP:List Value) (w:World),k5 l xs=true→k5 l cP=true→(Op.equalIn f t (sv P t xs) (sv P t cP)).run P w= .ok (nr xs cP) w):
    ∀(lJ:List Field) (off:Nat) (l:List (Option IntKind)) (xs cP:List Value) (w:World),Cq P (sC P d) off lJ=some l→k5 l (xs.drop off)=true→k5 l (cP.drop off)=true→
      (Op.eqFields f xs.toArray cP.toArray lJ).run P w= .ok (nr (xs.drop off) (cP.drop off)) w
  |[],off,l,xs,cP,w,h,al,aZ=>by
    simp [Cq]at h;subst h
    have ab:=xf al
    have ae:=xf aZ
    rw [List.eq_nil_of_length_eq_zero ab]
    simp [Op.eqFields,nr]
  |fd::lJ,off,l,xs,cP,w,h,al,aZ=>by
    unfold Cq at h
    split at h
    · rename_i bA i ai af
      split at h
      · rename_i a7
        obtain⟨aP,aq,aH⟩:=a7
        split at h
        · rename_i cQ h2
          simp at h;subst h
          obtain⟨Bm,Bn⟩:=Fw al
          obtain⟨zy,HF⟩:=Fw aZ
          obtain⟨⟨tV,hu⟩,qe⟩:=Nr ai
          have mX:=FW (xs:=xs) hu af aH qe Bm w
          have fE:=FW (xs:=cP) hu af aH qe zy w
          have e:=E1 ai _ _ w Bm zy
          rw [List.drop_drop]at Bn HF
          have xQ:=PS E1 lJ (off+bA.length) cQ xs cP w h2 Bn HF
          have HG:=xf al
          have HH:=xf aZ
          simp only [List.length_append]at HG HH
          subst aq
          simp only [Op.eqFields,aP,ne_eq,not_false_eq_true,if_true,Sem.run_bind,mX,fE,e,Result.andThen_ok]
          rw [IH bA.length (xs.drop fd.offset) (cP.drop fd.offset) (by omega) (by omega),List.drop_drop,List.drop_drop]
          cases a7:nr ((xs.drop fd.offset).take bA.length) ((cP.drop fd.offset).take bA.length)with
          |false=>simp
          |true=>simpa using xQ
        · cases h
      · cases h
    · cases h
theorem IY{l:List (Option IntKind)}:∀{n:Nat} {xs:List Value},k5 (List.replicate n l).flatten xs=true→∀i,i<n→k5 l ((xs.drop (i*l.length)).take l.length)=true
  |0,_,_,i,af=>by omega
  |n+1,xs,h,i,af=>by
    rw [List.replicate_succ,List.flatten_cons]at h
    obtain⟨ab,ae⟩:=Fw h
    cases i with
    |zero=>simpa using ab
    |succ i=>
      have:=IY ae i (by omega)
      rw [List.drop_drop]at this
      rw [show(i+1)*l.length=l.length+i*l.length by rw [Nat.add_mul];omega]
      exact this
theorem PT{d f:Nat}(E1:∀{t:TypeId} {l:List (Option IntKind)},sC P d t=some l→∀(xs cP:List Value) (w:World),k5 l xs=true→k5 l cP=true→(Op.equalIn f t (sv P t xs) (sv P t cP)).run P w= .ok (nr xs cP) w)
    {e:TypeId} {l:List (Option IntKind)} {i:TypeInfo} (ai:sC P d e=some l) (af:P.info? e=some i) (aH:i.size=l.length) (w:World):∀(n k:Nat) (xs cP:List Value),(∀j,j<k+n→k5 l ((xs.drop (j*l.length)).take l.length)=true)→(∀j,j<k+n→k5 l ((cP.drop (j*l.length)).take l.length)=true)→
      xs.length=(k+n)*l.length→cP.length=(k+n)*l.length→
      (Op.eqItems f e l.length xs.toArray cP.toArray (List.range' k n)).run P w= .ok (nr (xs.drop (k*l.length)) (cP.drop (k*l.length))) w
  |0,k,xs,cP,al,aZ,lx,cr=>by
    rw [List.drop_eq_nil_of_le (by simp at lx;omega),List.drop_eq_nil_of_le (by simp at cr;omega)]
    simp [Op.eqItems,nr]
  |n+1,k,xs,cP,al,aZ,lx,cr=>by
    obtain⟨⟨tV,hu⟩,qe⟩:=Nr ai
    have Bm:=al k (by omega)
    have zy:=aZ k (by omega)
    have mX:=FW (xs:=xs) hu af aH qe Bm w
    have fE:=FW (xs:=cP) hu af aH qe zy w
    have cb:=E1 ai _ _ w Bm zy
    have xQ:=PT E1 ai af aH w n (k+1) xs cP (fun j aI=>al j (by omega)) (fun j aI=>aZ j (by omega)) (by rw [lx];congr 1;omega) (by rw [cr];congr 1;omega)
    have hm:(k+1)*l.length=k*l.length+l.length:=by rw [Nat.add_mul];omega
    have HI:k*l.length+l.length≤(k+(n+1))*l.length:=by
      rw [←hm];exact Nat.mul_le_mul_right _ (by omega)
    simp only [List.range'_succ,Op.eqItems,Sem.run_bind,mX,fE,cb,Result.andThen_ok]
    rw [IH l.length (xs.drop (k*l.length)) (cP.drop (k*l.length)) (by simp;omega) (by simp;omega),List.drop_drop,List.drop_drop, ←hm]
    cases a7:nr ((xs.drop (k*l.length)).take l.length) ((cP.drop (k*l.length)).take l.length)with
    |false=>simp
    |true=>simpa using xQ
theorem JH:∀(d:Nat) {t:TypeId} {l:List (Option IntKind)},sC P d t=some l→∀(f:Nat),d≤f→∀(xs cP:List Value) (w:World),k5 l xs=true→k5 l cP=true→
    (Op.equalIn f t (sv P t xs) (sv P t cP)).run P w= .ok (nr xs cP) w
  |0,_,_,h,_,_,_,_,_,_,_=>by cases h
  |d+1,t,l,h,f,bs,xs,cP,w,al,aZ=>by
    obtain⟨f,rfl⟩:∃MU,f=MU+1:=⟨f-1,by omega⟩
    have HG:=xf al
    have HH:=xf aZ
    unfold sC at h
    split at h
    · rename_i hu
      simp at h;subst h
      match xs,cP,al,aZ with
      |[.bool a],[.bool b],_,_=>simp [sv,p4,hu,run_equalIn_bool w f t a b hu,nr,LZ]
    · rename_i k hu
      simp at h;subst h
      match xs,cP,al,aZ with
      |[.int e2 a],[.int cD b],ab,ae=>
        simp [k5,S3]at ab ae
        subst ab ae
        simp [sv,p4,hu,run_equalIn_int w f t k k a b hu,nr,LZ]
    · rename_i lJ hu
      split at h
      · cases h
      · rename_i fo
        have aL:P.underlying t=some (.struct (P.fieldsOf t)):=by simp [Program.fieldsOf,hu]
        have ag4:(P.fieldsOf t).toList=lJ.toList:=by simp [Program.fieldsOf,hu]
        have:=PS (P:=P) (d:=d) (f:=f) (fun ai xs cP w ab ae=>JH d ai f (by omega) xs cP w ab ae) lJ.toList 0 l xs cP w h (by simpa using al) (by simpa using aZ)
        simp only [sv,p4,hu,if_true]
        rw [run_equalIn_struct w f t _ _ aL (by simpa using fo),ag4,this]
        simp
    · rename_i n e hu
      split at h
      · rename_i bA i ai af
        split at h
        · rename_i aH
          simp at h;subst h
          simp only [List.length_flatten,List.map_replicate,List.sum_replicate_nat]at HG HH
          have:=PT (P:=P) (d:=d) (f:=f) (fun ai xs cP w ab ae=>JH d ai f (by omega) xs cP w ab ae) ai af aH w n 0 xs cP (fun j aI=>IY al j (by omega)) (fun j aI=>IY aZ j (by omega)) (by simpa using HG) (by simpa using HH)
          simp only [sv,p4,hu,if_true]
          have a7:P.cellsOf e=bA.length:=by rw [←aH];simp [Program.cellsOf,af]
          rw [run_equalIn_array w f _ _ hu af,a7,List.range_eq_range',this]
          simp
        · cases h
      · cases h
    · cases h
theorem adm{x y:Operand}{t gd:Nat}{xs cP:List Value}{hl:List (Option IntKind)}{b:Bool}{e1:BinOp}(al:aX E x=some (.agg xs.toArray))(aZ:aX E y=some (.agg cP.toArray))(aL:sC P 12 t=some hl)(bl:P.eqGuardType P.depth t=false)
    (ab:k5 hl xs=true) (ae:k5 hl cP=true) (a5:p4 P t=true) (aR:(match e1 with| .eql=>nr xs cP=b| .neq=>(!nr xs cP)=b|_=>False)):dw P B A N ao E S (.binOp e1 t x y gd) (.bool b):=
  ⟨by simp,by simp,fun a w bg pos a8 g d aq aH=>by
    have e:=JH 12 aL 10000 (by omega) xs cP w ab ae
    simp only [sv,a5,if_true]at e
    cases e1<;>simp only at aR<;>subst aR
    · simp [execOp,aq.aX al,aq.aX aZ,run_eqGuard_agg w _ t x y _ _ bl,run_eql_struct,e]
    · simp [execOp,aq.aX al,aq.aX aZ,run_eqGuard_agg w _ t x y _ _ bl,run_neq_struct,e]⟩
end Go.Sl
end
section
namespace Go.Sl
open Go
variable{P:Program}{B:Nat}{A:e0}{r:Option Nat}{N:Nat}{ao:List Nat}{E fK:Env}{S aU R kn L F Fr own:List (ar B)}{Q ik:fw B}{ops:Array Oper}{rest:List Oper}{o:Oper}
variable{d:Nat}{op:Op}{bg:TypeId}{pos:String}{a8:Array Edge}{g:Option (Nat×Bool)}{v:Value}
def oP(P:Program)(B:Nat)(l:Nat)(args:List Value)(pre:List (ar B))(post:Bool→List (ar B)→Prop):Prop:=
  ∀w D,ee pre D w→(∀k,D k→B≤k∧k<w.heap.size)→B≤w.heap.size→
    ∃fn tmps assign body,(Instr.yield l args.toArray).run P w= .ok (.round l fn tmps assign body) w∧
      RoundIn (nh none) 0 P l fn tmps assign body w fun e ca=>∃b bc,e= .returned (.bool b)∧post b bc∧bC B ⟨w,D⟩ bc ca
theorem ee.swap{fY g8:List (ar B)}{D:Nat→Prop}{w:World}(h:ee (fY++g8) D w):ee (g8++fY) D w:=by
  obtain⟨dm,dY,bU,aJ,ab,ae⟩:=h.append
  exact ee.join (fun k=>by rw [bU k];exact Or.comm) (fun k a b=>aJ k b a) ae ab
theorem bC.swap{fY g8:List (ar B)}{w:World}(h:bC B A (fY++g8) w):bC B A (g8++fY) w:=by
  obtain⟨D,ab,ae⟩:=h
  exact⟨D,ab.swap,ae⟩
theorem ee.mid{fY g8 E2:List (ar B)}{D:Nat→Prop}{w:World}(h:ee (fY++(g8++E2)) D w):ee (g8++(fY++E2)) D w:=by
  obtain⟨dm,dY,bU,aJ,ab,ae⟩:=h.append
  obtain⟨jk,jB,nG,wE,av,aV⟩:=ae.append
  refine ee.join (dm:=jk) (dY:=fun k=>dm k∨jB k) (fun k=>?_) (fun k a b=>?_) av (ee.join (fun _=>Iff.rfl) (fun k a b=>aJ k a ((nG k).2 (.inr b))) ab aV)
  · rw [bU k,nG k];exact⟨fun h=>h.elim (fun h=> .inr (.inl h)) (fun h=>h.elim .inl (fun h=> .inr (.inr h))),fun h=>h.elim (fun h=> .inr (.inl h)) (fun h=>h.elim .inl (fun h=> .inr (.inr h)))⟩
  · exact b.elim (fun b=>aJ k b ((nG k).2 (.inl a))) (fun b=>wE k a b)
theorem bC.mid{fY g8 E2:List (ar B)}{w:World}(h:bC B A (fY++(g8++E2)) w):bC B A (g8++(fY++E2)) w:=by
  obtain⟨D,ab,ae⟩:=h
  exact⟨D,ab.mid,ae⟩
theorem iq{l:Nat}{f:Operand}{xs:List Operand}{args:List Value}{dC:Array TypeId}(own:List (ar B)){hM:List (ar B)}{post:Bool→List (ar B)→Prop}(hw:Want ops N E g)(bs:aX E f=some (.func (.yield l) #[] #[]))
    (a5:g9 E xs=some args) (aZ:oP P B l args hM post) (aJ:Nat.blt d N=true)
    (h:∀b bc,post b bc→cg P B A r N ops rest ao ((d,.bool b)::E) (own++bc) Q):
    cg P B A r N ops (⟨some d,.call {callee:= .value f,args:=xs.toArray,argTypes:=dC},bg,pos,a8,g⟩::rest) ao E (own++hM) Q:=by
  intro a w aq aH
  simp only [wpListIn]
  rw [if_pos (Want.wanted (o:=⟨some d,.call {callee:= .value f,args:=xs.toArray,argTypes:=dC},bg,pos,a8,g⟩) hw aq)]
  refine⟨fun _ _=>trivial,?_⟩
  have jE:=aq.g9 a5
  have fB:=aH.size
  obtain⟨D,a1,a3,bI,cv,eX,fJ⟩:=aH.swap
  obtain⟨ij,ng,bU,gT,iG,h2⟩:=a1.append
  obtain⟨fn,tmps,assign,body,hG,nt⟩:=aZ w ij iG (fun k ai=>a3 k ((bU k).2 (.inl ai))) fB
  rw [Oper.semAt_eq _ _ _ (by simp)]
  have e:(execOp a.eval ⟨some d,.call {callee:= .value f,args:=xs.toArray,argTypes:=dC},bg,pos,a8,g⟩).run P w= .ok (.round l fn tmps assign body) w:=by
    simp only [execOp,resolve,aq.aX bs,Sem.run_bind]
    simp [Deferred.ofValue,invoke,jE,hG]
  rw [e]
  refine⟨by simp [Fence.wide],?_⟩
  refine RoundIn.mono nt ?_
  rintro e ca ⟨b,bc,rfl,aC,fo⟩
  refine h b bc aC _ ca (aq.put (by simpa using aJ)) ?_
  exact(bC.pg a1 a3 bI cv eX fJ bU gT h2 fo).swap
def n9(P:Program)(B:Nat)(bm:FuncId)(e7:List Value)(own:List (ar B))(xs:List (List Value)):Prop:=
  ∀(l:Nat) (J hc:Nat→List (ar B)→Prop) (cV:List (ar B)),J 0 cV→
    (∀i S,i<xs.length→J i S→oP P B l (xs.getD i []) S fun b bc=>(b=true∧J (i+1) bc)∨(b=false∧hc i bc))→
    di P B bm (.func (.yield l) #[] #[]::e7) (own++cV) fun _ bc=>∃aU,bc=own++aU∧(J xs.length aU∨∃i,i<xs.length∧hc i aU)
def Env.q0:List Nat→List Value→Env→Env
  |t::aG,v::bK,E=>Env.q0 aG bK ((t,v)::E)
  |_,_,E=>E
theorem dO.PU{N:Nat}:∀{aG:List Nat} {bK:List Value} {E:Env} {ko:Array Value},(∀t∈aG,t<N)→dO N [] E {tmps:=ko,defers:=[]}→
    dO N [] (Env.q0 aG bK E) {tmps:=((aG.zip bK).foldl (fun tmps (t,a)=>tmps.setIfInBounds t a) ko),defers:=[]}
  |[],bK,E,ko,_,h=>by simpa [Env.q0]using h
  |t::aG,[],E,ko,_,h=>by simpa [Env.q0]using h
  |t::aG,v::bK,E,ko,aL,h=>by
    have ab:dO N [] ((t,v)::E) {tmps:=ko.setIfInBounds t v,defers:=[]}:=h.put (aL t (by simp))
    exact dO.PU (aG:=aG) (bK:=bK) (fun t wG=>aL t (by simp [wG])) ab
theorem dO.q0{N:Nat}{aG:List Nat}{bK:List Value}{E:Env}{ko:Array Value}(aL:∀t∈aG,t<N)(h:dO N [] E {tmps:=ko,defers:=[]}):
    dO N [] (Env.q0 aG bK E) {tmps:=((aG.toArray.zip bK.toArray).foldl (fun tmps (t,a)=>tmps.setIfInBounds t a) ko),defers:=[]}:=by
  have:=dO.PU (bK:=bK) aL h
  rw [←Array.foldl_toList]
  simpa using this
def afw(l:Nat)(rec:Loop)(J:Nat→List (ar B)→Prop)(iO:Code→Nat→List (ar B)→Prop)(i:Nat):fw B
  | .normal,_,_,S=>∃cS R,Take (obj l (.loop rec)::cS) S R∧J (i+1) cS
  | .ret,_,_,S=>∃cS R,Take (obj l (.loop rec)::cS) S R∧iO .ret i cS
  | .exit id,_,_,S=>∃cS R,Take (obj l (.loop rec)::cS) S R∧iO (.exit id) i cS
  |_,_,_,_=>False
def zd(P:Program)(A:e0)(N:Nat)(body:Code)(l:Nat)(rec:Loop)(J:Nat→List (ar B)→Prop)(iO:Code→Nat→List (ar B)→Prop)(i:Nat):fw B
  | .normal,ao,E,S=>ao=[]∧∃cS R,Take (obj l (.loop rec)::cS) S R∧∀S4,X P B A (some l) N body [] E (obj l (.loop S4)::cS) (afw l S4 J iO i)
  |_,_,_,_=>False
theorem bC.put{l:Nat}{o gC:Obj}{w:World}(h:bC B A (obj l o::S) w):bC B A (obj l gC::S) (w.putObj l gC):=by
  obtain⟨D,mf⟩:=h.mem (.here _ _)
  exact h.set (World.putObj_heap_same (Array.getElem?_eq_some_iff.1 mf.2).1) (fun k ai=>World.putObj_heap_other ai) (by simp) rfl rfl rfl
theorem bC.head{l:Nat}{o:Obj}{w:World}(h:bC B A (obj l o::S) w):w.heap[l]?=some o:=by
  obtain⟨D,mf⟩:=h.mem (.here _ _)
  exact mf.2
theorem Ai{bX:List Nat}{assign body:Code}{J:Nat→List (ar B)→Prop}{iO:Code→Nat→List (ar B)→Prop}{xs:List (List Value)}{i l fn ct:Nat}{ko:Array Value}{bc kA:List (ar B)}(ei:dO N [] E {tmps:=ko,defers:=[]})
    (ly:bX.all (Nat.blt · N)=true) (hlen:∀x∈xs,x.length=bX.length) (af:i<xs.length) (bo:J i bc)
    (nt:∀(l:Nat) (rec:Loop) (mr:e0) (i:Nat) (bc:List (ar B)),i<xs.length→J i bc→X P B mr (some l) N assign [] (Env.q0 bX (xs.getD i []) E) (obj l (.loop rec)::bc) (zd P mr N body l rec J iO i)):
    oP P B l (xs.getD i []) (obj l (.loop {state:= .ready,pending:=none,fn,tmps:=ko,params:=bX.toArray,assign,body,defers:=ct})::(kA++bc)) fun b bh=>
      (b=true∧∃cS,bh=obj l (.loop {state:= .ready,pending:=none,fn,tmps:=ko,params:=bX.toArray,assign,body,defers:=ct})::(kA++cS)∧J (i+1) cS)∨
      (b=false∧∃c cS,bh=obj l (.loop {state:= .done,pending:=some c,fn,tmps:=ko,params:=bX.toArray,assign,body,defers:=ct})::(kA++cS)∧iO c i cS):=by
  intro w D aH bU h1
  have fo:bC B ⟨w,D⟩ (obj l (.loop {state:= .ready,pending:=none,fn,tmps:=ko,params:=bX.toArray,assign,body,defers:=ct})::(kA++bc)) w:=⟨D,aH,bU,fun k ai=> .inl ai,u9.refl _ _,h1,fun k ai=>(bU k ai).1⟩
  have aE:=fo.head
  have jI:(xs.getD i []).length=bX.length:=hlen _ (by simp [List.getD,List.getElem?_eq_getElem af])
  have aZ:=run_yield (P:=P) (args:=(xs.getD i []).toArray) aE (by simp only [List.size_toArray];exact jI)
  refine⟨_,_,_,_,aZ,roundIn_of_wpIn trivial ?_⟩
  have r8:bC B ⟨w,D⟩ ((obj l (.loop {state:= .ready,pending:=none,fn,tmps:=ko,params:=bX.toArray,assign,body,defers:=ct})::bc)++kA) w:=by
    have:bC B ⟨w,D⟩ (kA++(obj l (.loop {state:= .ready,pending:=none,fn,tmps:=ko,params:=bX.toArray,assign,body,defers:=ct})::bc)) w:=bC.mid (fY:=[_]) fo
    exact this.swap
  obtain⟨su,e2,cD,kp,od,z7,aiH⟩:=r8
  obtain⟨ij,ng,L0,gT,iG,h2⟩:=e2.append
  have aC:=nt l {state:= .ready,pending:=none,fn,tmps:=ko,params:=bX.toArray,assign,body,defers:=ct} ⟨w,ij⟩ i bc af bo _ w
    (dO.q0 (bK:=xs.getD i []) (fun t aL=>by have:=List.all_eq_true.1 ly t aL;simpa using this) ei)
    ⟨ij,iG,fun k ai=>cD k ((L0 k).2 (.inl ai)),fun k ai=> .inl ai,u9.refl _ _,h1,fun k ai=>(cD k ((L0 k).2 (.inl ai))).1⟩
  have join:∀{T:List (ar B)} {ca:World},bC B ⟨w,ij⟩ T ca→bC B ⟨w,D⟩ (T++kA) ca:=fun h=>bC.pg e2 cD kp od z7 aiH L0 gT h2 h
  refine wpIn_mono aC ?_
  rintro e dk kP ⟨Ec,Ix,aU,ta,zz,cy⟩
  cases e with
  |normal=>
    obtain⟨rfl,cS,E3,t3,aR⟩:=cy
    have L1:=zz.nz t3
    have oa:=L1.head
    refine⟨_,run_beginRound oa rfl,?_⟩
    have adn:=aR _ dk _ ta (L1.put (gC:= .loop {state:= .busy,pending:=none,fn,tmps:=ko,params:=bX.toArray,assign,body,defers:=ct}))
    refine wpIn_mono adn ?_
    rintro cq cI j2 ⟨ajA,akB,jC,Uc,L2,bR⟩
    cases cq with
    |normal=>
      obtain⟨ni,VB,t5,qu⟩:=bR
      have x1:=L2.nz t5
      refine⟨_,_,run_endRound none x1.head,true,_,rfl,.inl ⟨rfl,ni,rfl,qu⟩,?_⟩
      have ae:=(join (x1.put (gC:= .loop {state:= .ready,pending:=none,fn,tmps:=ko,params:=bX.toArray,assign,body,defers:=ct}))).swap
      exact bC.mid (fY:=kA) (g8:=[_]) ae
    |ret=>
      obtain⟨ni,VB,t5,qu⟩:=bR
      have x1:=L2.nz t5
      refine⟨_,_,run_endRound (some .ret) x1.head,false,_,rfl,.inr ⟨rfl,.ret,ni,rfl,qu⟩,?_⟩
      have ae:=(join (x1.put (gC:= .loop {state:= .done,pending:=some .ret,fn,tmps:=ko,params:=bX.toArray,assign,body,defers:=ct}))).swap
      exact bC.mid (fY:=kA) (g8:=[_]) ae
    |exit id=>
      obtain⟨ni,VB,t5,qu⟩:=bR
      have x1:=L2.nz t5
      refine⟨_,_,run_endRound (some (.exit id)) x1.head,false,_,rfl,.inr ⟨rfl,.exit id,ni,rfl,qu⟩,?_⟩
      have ae:=(join (x1.put (gC:= .loop {state:= .done,pending:=some (.exit id),fn,tmps:=ko,params:=bX.toArray,assign,body,defers:=ct}))).swap
      exact bC.mid (fY:=kA) (g8:=[_]) ae
    |_=>exact bR.elim
  |_=>exact cy.elim
end Go.Sl
end
section
namespace Go.Sl
open Go
variable{P:Program}{B:Nat}{A:e0}{r:Option Nat}{N:Nat}{ao:List Nat}{E fK:Env}{S aU R kn L F Fr own:List (ar B)}{Q ik:fw B}{ops:Array Oper}{rest:List Oper}{o:Oper}
theorem Aj{l:Nat}{rec:LoopState→Option Code→Loop}(xQ:∀s c,(rec s c).state=s∧(rec s c).pending=c){kA:List (ar B)}{J:Nat→List (ar B)→Prop}{iO:Code→Nat→List (ar B)→Prop}{n:Nat}{a:Act}{kV:List Nat}{w:World}{bh:List (ar B)}
    (ei:dO N kV E a) (fo:bC B A (bh++Fr) w)
    (h:∃aU,bh=own++aU∧((∃cS,aU=obj l (.loop (rec .ready none))::(kA++cS)∧J n cS)∨∃i,i<n∧∃c cS,aU=obj l (.loop (rec .done (some c)))::(kA++cS)∧iO c i cS))
    (rW:∀bc,J n bc→Q .normal kV E (kA++(own++(bc++Fr)))) (rX:∀c i bc,i<n→iO c i bc→X P B A r N c kV E (kA++(own++(bc++Fr))) Q):
    ∃jump MV,(Instr.endLoop l).run P w= .ok jump MV∧(match jump with
      |none=>we B A N Q .normal a MV
      |some c=>c.wpIn (nh r) 0 P (we B A N Q) a MV):=by
  have Iy:∀{o:Obj} {cS:List (ar B)},bC B A ((own++obj l o::(kA++cS))++Fr) w→bC B A (obj l o::(kA++(own++(cS++Fr)))) w:=by
    intro o cS h
    have ab:bC B A (own++([obj l o]++((kA++cS)++Fr))) w:=by simpa using h
    have ae:bC B A ([obj l o]++(own++((kA++cS)++Fr))) w:=ab.mid
    have av:bC B A (([obj l o]++own)++(kA++(cS++Fr))) w:=by simpa using ae
    have aV:bC B A (kA++(([obj l o]++own)++(cS++Fr))) w:=av.mid
    have bN:bC B A (kA++([obj l o]++(own++(cS++Fr)))) w:=by simpa using aV
    exact bN.mid
  obtain⟨aU,rfl,(⟨cS,rfl,bo⟩|⟨i,af,c,cS,rfl,al⟩)⟩:=h
  · have ab:=Iy fo
    have:=run_endLoop (P:=P) ab.head (by rw [(xQ _ _).1];simp)
    rw [(xQ _ _).2]at this
    exact⟨none,_,this,kV,E,_,ei,(ab.put (gC:=_)).tail,rW cS bo⟩
  · have ab:=Iy fo
    have:=run_endLoop (P:=P) ab.head (by rw [(xQ _ _).1];simp)
    rw [(xQ _ _).2]at this
    exact⟨some c,_,this,rX c i cS af al a _ ei (ab.put (gC:=_)).tail⟩
theorem kS{f:Operand}{bX:List Nat}{assign body:Code}{bm:FuncId}{e7:List Value}{xs:List (List Value)}(bs:aX E f=some (.func (.func bm) #[] e7.toArray))(he:Go.Proofs.Enters P bm)(tW:n9 P B bm e7 own xs)
    (J:Nat→List (ar B)→Prop) (iO:Code→Nat→List (ar B)→Prop) (aL:Take (own++aU) S Fr) (bo:J 0 aU) (ly:bX.all (Nat.blt · N)=true) (hlen:∀x∈xs,x.length=bX.length)
    (nt:∀(l:Nat) (rec:Loop) (mr:e0) (i:Nat) (bc:List (ar B)),i<xs.length→J i bc→X P B mr (some l) N assign [] (Env.q0 bX (xs.getD i []) E) (obj l (.loop rec)::bc) (zd P mr N body l rec J iO i))
    (rW:∀ct bc,J xs.length bc→Q .normal (ct::ao) E (dl ct::(own++(bc++Fr))))
    (rX:∀ct c i bc,i<xs.length→iO c i bc→X P B A none N c (ct::ao) E (dl ct::(own++(bc++Fr))) Q):
    X P B A none N (.rangeFunc f bX.toArray assign body) ao E S Q:=by
  intro a w aq aH
  refine wpIn_rangeFunc ?_
  intro fn _
  have oQ:=(aH.take aL).new (.deferred (some []))
  have hJ:=oQ.new (.loop {state:= .ready,pending:=none,fn,tmps:=a.tmps,params:=bX.toArray,assign,body,defers:=w.heap.size})
  simp only [World.size_alloc]at hJ
  obtain⟨fQ,tX⟩:∃fQ,(w.alloc (.deferred (some []))).alloc (.loop {state:= .ready,pending:=none,fn,tmps:=a.tmps,params:=bX.toArray,assign,body,defers:=w.heap.size})=fQ:=⟨_,rfl⟩
  have j8:=run_enterLoop_outer (P:=P) (w:=w) fn a.tmps bX.toArray assign body
  rw [tX]at hJ j8
  generalize aE:w.heap.size+1=l at hJ j8
  generalize w.heap.size=ct at oQ hJ j8
  have oR:bC B A ((own++(obj l (.loop {state:= .ready,pending:=none,fn,tmps:=a.tmps,params:=bX.toArray,assign,body,defers:=ct})::([dl ct]++aU)))++Fr) fQ:=by
    have ab:bC B A ([obj l (.loop {state:= .ready,pending:=none,fn,tmps:=a.tmps,params:=bX.toArray,assign,body,defers:=ct}),dl ct]++(own++(aU++Fr))) fQ:=by simpa using hJ
    have ae:=ab.mid
    simpa using ae
  refine⟨l,[{target:= .collected ct,args:= #[]}],fQ,{target:= .fn (.func bm) e7.toArray,args:= #[.func (.yield l) #[] #[]]},fQ,bm, #[.func (.yield l) #[] #[]]++e7.toArray,fQ,j8,?_,fun _ _=>trivial,?_,fun _=>by simp_all [Fence.wide],?_⟩
  · simp only [resolve,aq.aX bs]
    simp [Deferred.ofValue,Act.eval]
  · simpa [invoke]using he (Value.func (.yield l) #[] #[]::e7).toArray fQ
  · have ei:dO N [] E {tmps:=a.tmps,defers:=[]}:=⟨aq.size,rfl,aq.get⟩
    have tL:=tW l (fun i S=>∃cS,S=obj l (.loop {state:= .ready,pending:=none,fn,tmps:=a.tmps,params:=bX.toArray,assign,body,defers:=ct})::([dl ct]++cS)∧J i cS)
      (fun i S=>∃c cS,S=obj l (.loop {state:= .done,pending:=some c,fn,tmps:=a.tmps,params:=bX.toArray,assign,body,defers:=ct})::([dl ct]++cS)∧iO c i cS) _ ⟨aU,rfl,bo⟩
      (fun i S af ⟨cS,dj,oS⟩=>by
        subst dj
        exact Ai ei ly hlen af oS nt)
    have fB:=oR.size
    obtain⟨D,a1,a3,bI,cv,eX,fJ⟩:=oR
    obtain⟨ij,ng,bU,gT,iG,h2⟩:=a1.append
    have oz:=tL fQ ij iG (fun k ai=>a3 k ((bU k).2 (.inl ai))) fB
    have jE:(Value.func (.yield l) #[] #[]::e7).toArray= #[.func (.yield l) #[] #[]]++e7.toArray:=by simp
    rw [jE]at oz
    refine CallsIn.mono oz ?_
    rintro e E4 ⟨v,bh,rfl,aC,fo⟩
    have r8:=bC.pg a1 a3 bI cv eX fJ bU gT h2 fo
    have tM:dO N (ct::ao) E {a with defers:=[{target:= .collected ct,args:= #[]}]++a.defers}:=⟨aq.size,by simp [aq.qd,xp],aq.get⟩
    exact Aj (rec:=fun s c=>{state:=s,pending:=c,fn,tmps:=a.tmps,params:=bX.toArray,assign,body,defers:=ct}) (fun s c=>⟨rfl,rfl⟩) (kA:=[dl ct]) tM r8 aC (fun bc h=>rW ct bc h) (fun c i bc af h=>rX ct c i bc af h)
theorem FX{cJ:Nat}{Ll:Loop}{aiI:List (ar B)}{f:Operand}{bX:List Nat}{assign body:Code}{bm:FuncId}{e7:List Value}{xs:List (List Value)}(wH:Out (obj cJ (.loop Ll)) S aiI)(bs:aX E f=some (.func (.func bm) #[] e7.toArray))(he:Go.Proofs.Enters P bm)(tW:n9 P B bm e7 own xs)
    (J:Nat→List (ar B)→Prop) (iO:Code→Nat→List (ar B)→Prop) (aL:Take (own++aU) S Fr) (bo:J 0 aU) (ly:bX.all (Nat.blt · N)=true) (hlen:∀x∈xs,x.length=bX.length)
    (nt:∀(l:Nat) (rec:Loop) (mr:e0) (i:Nat) (bc:List (ar B)),i<xs.length→J i bc→X P B mr (some l) N assign [] (Env.q0 bX (xs.getD i []) E) (obj l (.loop rec)::bc) (zd P mr N body l rec J iO i))
    (rW:∀bc,J xs.length bc→Q .normal ao E (own++(bc++Fr)))
    (rX:∀c i bc,i<xs.length→iO c i bc→X P B A (some cJ) N c ao E (own++(bc++Fr)) Q):
    X P B A (some cJ) N (.rangeFunc f bX.toArray assign body) ao E S Q:=by
  intro a w aq aH
  obtain⟨bf,ado⟩:=aH.mem wH
  have ag5:=ado.2
  refine wpIn_rangeFunc ?_
  intro fn _
  have j8:=run_enterLoop_inner (P:=P) (w:=w) ag5 fn a.tmps bX.toArray assign body
  have hJ:=(aH.take aL).new (.loop {state:= .ready,pending:=none,fn,tmps:=a.tmps,params:=bX.toArray,assign,body,defers:=Ll.defers})
  generalize Ll.defers=ct at j8 hJ
  obtain⟨fQ,tX⟩:∃fQ,w.alloc (.loop {state:= .ready,pending:=none,fn,tmps:=a.tmps,params:=bX.toArray,assign,body,defers:=ct})=fQ:=⟨_,rfl⟩
  rw [tX]at hJ j8
  generalize w.heap.size=l at hJ j8
  have oR:bC B A ((own++(obj l (.loop {state:= .ready,pending:=none,fn,tmps:=a.tmps,params:=bX.toArray,assign,body,defers:=ct})::([]++aU)))++Fr) fQ:=by
    have ab:bC B A ([obj l (.loop {state:= .ready,pending:=none,fn,tmps:=a.tmps,params:=bX.toArray,assign,body,defers:=ct})]++(own++(aU++Fr))) fQ:=by simpa using hJ
    have ae:=ab.mid
    simpa using ae
  refine⟨l,[],fQ,{target:= .fn (.func bm) e7.toArray,args:= #[.func (.yield l) #[] #[]]},fQ,bm, #[.func (.yield l) #[] #[]]++e7.toArray,fQ,j8,?_,fun _ _=>trivial,?_,fun _=>by simp_all [Fence.wide],?_⟩
  · simp only [resolve,aq.aX bs]
    simp [Deferred.ofValue,Act.eval]
  · simpa [invoke]using he (Value.func (.yield l) #[] #[]::e7).toArray fQ
  · have ei:dO N [] E {tmps:=a.tmps,defers:=[]}:=⟨aq.size,rfl,aq.get⟩
    have tL:=tW l (fun i S=>∃cS,S=obj l (.loop {state:= .ready,pending:=none,fn,tmps:=a.tmps,params:=bX.toArray,assign,body,defers:=ct})::([]++cS)∧J i cS)
      (fun i S=>∃c cS,S=obj l (.loop {state:= .done,pending:=some c,fn,tmps:=a.tmps,params:=bX.toArray,assign,body,defers:=ct})::([]++cS)∧iO c i cS) _ ⟨aU,rfl,bo⟩
      (fun i S af ⟨cS,dj,oS⟩=>by
        subst dj
        exact Ai ei ly hlen af oS nt)
    have fB:=oR.size
    obtain⟨D,a1,a3,bI,cv,eX,fJ⟩:=oR
    obtain⟨ij,ng,bU,gT,iG,h2⟩:=a1.append
    have oz:=tL fQ ij iG (fun k ai=>a3 k ((bU k).2 (.inl ai))) fB
    have jE:(Value.func (.yield l) #[] #[]::e7).toArray= #[.func (.yield l) #[] #[]]++e7.toArray:=by simp
    rw [jE]at oz
    refine CallsIn.mono oz ?_
    rintro e E4 ⟨v,bh,rfl,aC,fo⟩
    have r8:=bC.pg a1 a3 bI cv eX fJ bU gT h2 fo
    have tM:dO N ao E {a with defers:=[]++a.defers}:=⟨aq.size,by simp [aq.qd,xp],aq.get⟩
    exact Aj (rec:=fun s c=>{state:=s,pending:=c,fn,tmps:=a.tmps,params:=bX.toArray,assign,body,defers:=ct}) (fun s c=>⟨rfl,rfl⟩) (kA:=[]) tM r8 aC (fun bc h=>rW bc h) (fun c i bc af h=>rX c i bc af h)
end Go.Sl
end
section
namespace Go.Sl
open Go
variable{P:Program}{B:Nat}{A:e0}{r:Option Nat}{N:Nat}{ao:List Nat}{E fK:Env}{S aU bh R kn L F K:List (ar B)}{Q ik:fw B}{ops:Array Oper}{rest:List Oper}{o:Oper}{cB:Bool}
def m7(ops:Array Oper)(listed:Array Bool):Bool:=(List.range ops.size).all fun j=>!(listed.getD j false)||((ops[j]?).map (·.dst.isSome)).getD true
def y2(ops:Array Oper):Nat→Nat→Nat→Bool
  |0,_,_=>false
  |n+1,j,i=>match ops[j]? with
    |some o=>o.after.toList.any (fun e=>Region.binds .any e&&e.on==i)||o.after.toList.any (fun e=>Region.binds .any e&&y2 ops n e.on i)
    |none=>false
def closed(ops:Array Oper)(listed:Array Bool):Bool:=(List.range ops.size).all fun j=>!(listed.getD j false)||((ops[j]?).map (fun o=>o.after.toList.all fun e=>!(Region.binds .any e)||listed.getD e.on false)).getD true
def after(ops:Array Oper)(i:Nat):Bool:=(List.range ops.size).all fun j=>((ops[j]?).map (fun o=>o.dst.isSome||y2 ops ops.size j i)).getD true
theorem Nn{listed:Array Bool}(a7:closed ops listed=true):∀(n j i:Nat) (o:Oper),y2 ops n j i=true→ops[j]?=some o→(∀e∈o.after,Region.binds .any e=true→listed.getD e.on false=true)→listed.getD i false=true
  |0,_,_,_,h,_,_=>by simp [y2]at h
  |n+1,j,i,o,h,aq,aE=>by
    simp only [y2,aq,Bool.or_eq_true,List.any_eq_true]at h
    rcases h with⟨e,he,h⟩|⟨e,he,h⟩
    · simp at h
      rw [←h.2];exact aE e (Array.mem_toList_iff.1 he) h.1
    · simp only [Bool.and_eq_true]at h
      have ab:=aE e (Array.mem_toList_iff.1 he) h.1
      cases ai:ops[e.on]? with
      |none=>
        have:=h.2
        cases n with
        |zero=>simp [y2]at this
        |succ n=>simp [y2,ai]at this
      |some gC=>
        refine Nn a7 n e.on i gC h.2 ai fun og tY ag6=>?_
        have:=List.all_eq_true.1 a7 e.on (List.mem_range.2 (Array.getElem?_eq_some_iff.1 ai).1)
        simp only [ai,ab,Option.map_some,Option.getD_some,Bool.not_true,Bool.false_or,List.all_eq_true]at this
        have:=this og (Array.mem_toList_iff.2 tY)
        simpa [ag6]using this
theorem Wk{listed:Array Bool}{j:Nat}{o:Oper}(a7:closed ops listed=true)(aq:ops[j]?=some o)(aE:∀e∈o.after,Region.binds .any e=true→listed.getD e.on false=true):closed ops (listed.setIfInBounds j true)=true:=by
  have up:∀k,listed.getD k false=true→(listed.setIfInBounds j true).getD k false=true:=fun k ai=>by
    by_cases rj:j=k
    · subst rj
      have:j<listed.size:=by
        rcases Nat.lt_or_ge j listed.size with h|h
        · exact h
        · simp [Array.getD,Nat.not_lt.2 h]at ai
      simp [this]
    · rw [getD_set_ne false rj];exact ai
  refine List.all_eq_true.2 fun k ai=>?_
  have:=List.all_eq_true.1 a7 k ai
  by_cases rj:j=k
  · subst rj
    simp only [aq,Option.map_some,Option.getD_some,Bool.or_eq_true,List.all_eq_true]
    refine .inr fun e he=>?_
    cases aR:Region.binds .any e with
    |false=>simp
    |true=>simp only [Bool.not_true,Bool.false_eq_true,false_or];exact up _ (aE e (Array.mem_toList_iff.1 he) aR)
  · rw [getD_set_ne false rj]
    cases Bo:listed.getD k false with
    |false=>simp
    |true=>
      rw [Bo]at this
      cases oT:ops[k]? with
      |none=>simp
      |some ok=>
        rw [oT]at this
        simp only [Option.map_some,Option.getD_some,Bool.not_true,Bool.false_or,List.all_eq_true]at this⊢
        intro e he
        have:=this e he
        cases aR:Region.binds .any e with
        |false=>simp
        |true=>simp [aR]at this;simp only [Bool.not_true,Bool.false_or];exact up _ (by simpa using this)
theorem Wl{i j:Nat}{o:Oper}{listed:Array Bool}(a7:closed ops listed=true)(h:after ops i=true)(aq:ops[j]?=some o)(aJ:o.dst.isSome=false)(aE:∀e∈o.after,Region.binds .any e=true→listed.getD e.on false=true):listed.getD i false=true:=by
  have aI:j<ops.size:=(Array.getElem?_eq_some_iff.1 aq).1
  have:=List.all_eq_true.1 h j (List.mem_range.2 aI)
  simp only [aq,Option.map_some,Option.getD_some,aJ,Bool.false_or]at this
  exact Nn a7 _ _ _ _ this aq aE
theorem Cr{listed:Array Bool}{j:Nat}{o:Oper}(h:m7 ops listed=true)(aq:ops[j]?=some o)(aJ:o.dst.isSome=true):m7 ops (listed.setIfInBounds j true)=true:=by
  refine List.all_eq_true.2 fun k ai=>?_
  by_cases rj:k=j
  · subst rj;simp [aq,aJ]
  · have:=List.all_eq_true.1 h k ai
    rw [getD_set_ne false (Ne.symm rj)]
    exact this
def oE(cB:Bool)(Inv:World→Prop)(r:Option Nat)(P:Program)(ops:Array Oper)(Q:Exit→Act→World→Prop):Nat→Array Bool→Act→World→Prop
  |0,listed,a,w=>((cB||m7 ops listed)=true→Inv w)∧Region.ready .any ops listed=[]∧Q .normal a w
  |n+1,listed,a,w=>((cB||m7 ops listed)=true→Inv w)∧(Region.ready .any ops listed=[]→Q .normal a w)∧
      ∀i∈Region.ready .any ops listed,wpOpIn (nh r) 0 P ops Q i (oE cB Inv r P ops Q n (listed.setIfInBounds i true)) a w
theorem oE.inv{Inv:World→Prop}{Q:Exit→Act→World→Prop}:∀{n:Nat} {listed:Array Bool} {a:Act} {w:World},oE cB Inv r P ops Q n listed a w→(cB||m7 ops listed)=true→Inv w
  |0,_,_,_,h=>h.1
  |_+1,_,_,_,h=>h.1
theorem oE.any{Inv:World→Prop}{Q:Exit→Act→World→Prop}:∀{n:Nat} {listed:Array Bool} {a:Act} {w:World},oE cB Inv r P ops Q n listed a w→wpAnyIn (nh r) 0 P .any ops Q n listed a w
  |0,_,_,_,h=>h.2
  |n+1,_,_,_,h=>⟨h.2.1,fun i af=>wpOpIn_mono (fun _ _ h=>oE.any h) (h.2.2 i af)⟩
def r9(ops:Array Oper):Bool:=ops.all fun o=>match o.op with| .select .. =>false| .defer .. =>false|_=>true
theorem xg(h:r9 ops=true){j:Nat}(aq:ops[j]?=some o):(∀c,o.op≠ .defer c)∧∀aF b,o.op≠ .select aF b:=by
  have:=(Array.all_eq_true_iff_forall_mem.1 h) o (Array.mem_of_getElem? aq)
  constructor
  · rintro c e;rw [e]at this;cases this
  · rintro aF b e;rw [e]at this;cases this
def sw(Inv:World→Prop)(P:Program)(ops:Array Oper)(o:Oper)(v:Value)(a:Act):Prop:=
  (Region.wanted o (yielded ops a.tmps)=true∧∀w,Inv w→(execOp a.eval o).run P w= .ok (.value v) w)∨(Region.wanted o (yielded ops a.tmps)=false∧v=undef)
theorem sw.same{Inv:World→Prop}{v:Value}{a jl:Act}(aZ:sw Inv P ops o v a)(he:execOp jl.eval o=execOp a.eval o)(hw:Region.wanted o (yielded ops jl.tmps)=Region.wanted o (yielded ops a.tmps)):sw Inv P ops o v jl:=by
  unfold sw at*
  rw [he,hw]
  exact aZ
theorem sw.op{Inv:World→Prop}{Q:Exit→Act→World→Prop}{v:Value}{a:Act}{w:World}{i:Nat}{K:Act→World→Prop}(qq:∀c,o.op≠ .defer c)(af:ops[i]?=some o)(aZ:sw Inv P ops o v a)(hw:Inv w)(h:K (a.put o.dst v) w):
    wpOpIn (nh r) 0 P ops Q i K a w:=by
  unfold wpOpIn
  simp only [af]
  rcases aZ with⟨ab,ae⟩|⟨ab,rfl⟩
  · simp only [ab,if_true,Oper.wpIn]
    refine⟨fun _ _=>trivial,?_⟩
    rw [Oper.semAt_eq _ _ _ qq,ae w hw]
    exact h
  · simp only [ab,Bool.false_eq_true,if_false]
    exact⟨fun _ _=>trivial,h⟩
theorem Ns{Inv:World→Prop}{Q:Exit→Act→World→Prop}{j:Nat}{kB kW:Oper}{v:Value}(aI:ops[j]?=some kW)(zA:kB.apart ops kW=true)(jJ:(∀c,kB.op≠ .defer c)∧∀aF b,kB.op≠ .select aF b)(gT:(∀c,kW.op≠ .defer c)∧∀aF b,kW.op≠ .select aF b)
    (kq:∀c a w,¬Q (.panic c) a w) {K:Act→World→Prop} {a:Act} {w:World} (aZ:sw Inv P ops kB v a) (h:wpOpIn (nh r) 0 P ops Q j K (a.put kB.dst v) w):
    wpOpIn (nh r) 0 P ops Q j (fun jl ca=>sw Inv P ops kB v jl∧K (jl.put kB.dst v) ca) a w:=by
  obtain⟨ab,ae,av⟩:=Oper.apart_spec zA
  have wg:∀(a:Act),sw Inv P ops kB v a→∀u,sw Inv P ops kB v (a.put kW.dst u):=fun a aZ u=>
    aZ.same (execOp_put kB jJ.2 a kW.dst u av) (wanted_put kB a kW.dst u av)
  unfold wpOpIn at*
  simp only [aI]at*
  rw [wanted_put kW a kB.dst v ab]at h
  split
  · rename_i hw
    simp only [hw,if_true]at h
    unfold Oper.wpIn at*
    refine⟨fun _ _=>trivial,?_⟩
    have h:=h.2
    rw [Oper.semAt_eq _ _ _ gT.1,execOp_put kW gT.2 a kB.dst v ab]at h
    rw [Oper.semAt_eq _ _ _ gT.1]
    generalize (execOp a.eval kW).run P w=cA at*
    cases cA with
    |ok x ca=>
      cases x<;>simp only [Oper.uponIn]at h⊢
      case value u=>exact⟨wg a aZ u,by rw [←Act.put_comm a v u ae];exact h⟩
      case skip=>exact⟨wg a aZ _,by rw [←Act.put_comm a v undef ae];exact h⟩
      case defer d=>
        have adp:sw Inv P ops kB v {a with defers:=d::a.defers}:=aZ.same rfl rfl
        refine⟨wg _ adp _,?_⟩
        rw [←Act.put_comm _ v undef ae, ←Act.put_defers]
        exact h
      case enter f args=>
        refine⟨h.1,CallsIn.mono h.2 fun e Ud he=>?_⟩
        cases e with
        |returned u=>exact⟨wg a aZ u,by rw [←Act.put_comm a v u ae];exact he⟩
        |panicked c=>exact(kq _ _ _ he).elim
        |outgrown=>exact he
      case row row args=>exact⟨h.1,RowsIn.mono h.2 fun u Ud he=>⟨wg a aZ u,by rw [←Act.put_comm a v u ae];exact he⟩⟩
      case round l f tmps assign body=>
        refine⟨h.1,RoundIn.mono h.2 fun e Ud he=>?_⟩
        cases e with
        |returned u=>exact⟨wg a aZ u,by rw [←Act.put_comm a v u ae];exact he⟩
        |panicked c=>exact(kq _ _ _ he).elim
        |outgrown=>exact he
    |halt x ca=>
      cases x<;>simp only [Oper.uponIn]at h⊢
      case panic u=>exact(kq _ _ _ h).elim
  · rename_i hw
    simp only [hw]at h
    exact⟨fun _ _=>trivial,wg a aZ _,by rw [←Act.put_comm a v undef ae];exact h.2⟩
theorem Nw{Inv:World→Prop}{Q:Exit→Act→World→Prop}{i:Nat}{kB:Oper}{v:Value}(af:ops[i]?=some kB)(wI:kB.dst.isSome=true)(jJ:r9 ops=true)(kq:∀c a w,¬Q (.panic c) a w):
    ∀(pz:Nat) (listed:Array Bool) (a:Act) (w:World),(cB=true∨(m7 ops listed=true∧closed ops listed=true∧after ops i=true))→
      (∀j kW,ops[j]?=some kW→j≠i→listed.getD j true=false→(∀e∈kW.after,Region.binds .any e=true→e.on≠i)→kB.apart ops kW=true)→
      i∈Region.ready .any ops listed→sw Inv P ops kB v a→
      oE cB Inv r P ops Q pz (listed.setIfInBounds i true) (a.put kB.dst v) w→oE cB Inv r P ops Q (pz+1) listed a w:=by
  intro pz
  induction pz with
  |zero=>
    intro listed a w a7 y3 a4 aZ H
    have hinv:Inv w:=H.inv (by rcases a7 with rfl|⟨cN,_⟩;rfl;rw [Cr cN af wI];simp)
    refine⟨fun _=>hinv,fun h=>(by rw [h]at a4;cases a4),fun j aI=>?_⟩
    by_cases oU:j=i
    · subst oU;exact aZ.op (xg jJ af).1 af hinv H
    · have:=ready_mono aI oU
      rw [H.2.1]at this
      cases this
  |succ pz ih=>
    intro listed a w a7 y3 a4 aZ H
    have hinv:Inv w:=H.inv (by rcases a7 with rfl|⟨cN,_⟩;rfl;rw [Cr cN af wI];simp)
    refine⟨fun _=>hinv,fun h=>(by rw [h]at a4;cases a4),fun j aI=>?_⟩
    by_cases oU:j=i
    · subst oU;exact aZ.op (xg jJ af).1 af hinv H
    · have ab:=H.2.2 j (ready_mono aI oU)
      obtain⟨DJ,kW,vc,lu⟩:=mem_ready.1 aI
      have Lm:∀e∈kW.after,Region.binds .any e=true→e.on≠i:=fun e he aR wJ=>by
        have ab:=lu e he aR
        have b5:=(mem_ready.1 a4).1
        rw [wJ]at ab
        rcases Nat.lt_or_ge i listed.size with eE|eE
        · simp [eE]at b5 ab;rw [b5]at ab;cases ab
        · simp [Array.getElem?_eq_none eE]at ab
      have ae:=Ns vc (y3 j kW vc oU DJ Lm) (xg jJ af) (xg jJ vc) kq aZ ab
      have Kp:∀k ok,ops[k]?=some ok→k≠i→(listed.setIfInBounds j true).getD k true=false→
          (∀e∈ok.after,Region.binds .any e=true→e.on≠i)→kB.apart ops ok=true:=fun k ok ai Bp Ed cN=>by
        refine y3 k ok ai Bp ?_ cN
        by_cases rj:j=k
        · subst rj;exact DJ
        · rw [getD_set_ne true rj]at Ed;exact Ed
      have ag7:cB=true∨(m7 ops (listed.setIfInBounds j true)=true∧closed ops (listed.setIfInBounds j true)=true∧after ops i=true):=by
        rcases a7 with a7|⟨cN,jZ,L3⟩
        · exact .inl a7
        have gT:kW.dst.isSome=true:=by
          cases aJ:kW.dst.isSome with
          |true=>rfl
          |false=>
            have ab:=Wl jZ L3 vc aJ lu
            have b5:=(mem_ready.1 a4).1
            rcases Nat.lt_or_ge i listed.size with eE|eE
            · simp [eE]at b5 ab;rw [b5]at ab;cases ab
            · simp [Array.getD,Nat.not_lt.2 eE]at ab
        exact .inr ⟨Cr cN vc gT,Wk jZ vc lu,L3⟩
      refine wpOpIn_mono (fun jl ca av=>ih (listed.setIfInBounds j true) jl ca ag7 Kp (ready_mono a4 (Ne.symm oU)) av.1 ?_) ae
      rw [Array.setIfInBounds_comm _ _ oU]
      exact av.2
def eY(cB:Bool)(P:Program)(B:Nat)(A:e0)(r:Option Nat)(N:Nat)(ops:Array Oper)(K:List (ar B))(n:Nat)(listed:Array Bool)(ao:List Nat)(E:Env)(S:List (ar B))(Q:fw B):Prop:=
  ∀a w,dO N ao E a→bC B A (K++S) w→oE cB (fun w=>∃X,bC B A (K++X) w) r P ops (we B A N Q) n listed a w
theorem cZ{id:Nat}{l:List Oper}(K:List (ar B))(hm:P.follows .mixedOrders=true)(aL:Take K S aU)(h:eY false P B A r N l.toArray K l.length (Array.replicate l.length false) ao E aU Q):X P B A r N (.region id l.toArray true) ao E S Q:=by
  intro a w aq aH
  refine wpIn_region_any hm ?_
  have:=(h a {w with drawn:=w.drawn+1} aq ((aH.take aL).same rfl rfl rfl rfl)).any
  simpa using this
theorem k3{id:Nat}{l:List Oper}(K:List (ar B))(hm:P.follows .mixedOrders=true)(aL:Take K S aU)(h:eY true P B A r N l.toArray K l.length (Array.replicate l.length false) ao E aU Q):X P B A r N (.region id l.toArray true) ao E S Q:=by
  intro a w aq aH
  refine wpIn_region_any hm ?_
  have:=(h a {w with drawn:=w.drawn+1} aq ((aH.take aL).same rfl rfl rfl rfl)).any
  simpa using this
theorem PV{n:Nat}{listed:Array Bool}(a4:Region.ready .any ops listed=[])(h:Q .normal ao E (K++S)):eY cB P B A r N ops K n listed ao E S Q:=by
  intro a w aq aH
  cases n with
  |zero=>exact⟨fun _=>⟨S,aH⟩,a4,ao,E,_,aq,aH,h⟩
  |succ n=>exact⟨fun _=>⟨S,aH⟩,fun _=>⟨ao,E,_,aq,aH,h⟩,by rw [a4];simp⟩
theorem QZ{n d:Nat}{listed:Array Bool}{op:Op}{bg:TypeId}{pos:String}{a8:Array Edge}{g:Option (Nat×Bool)}{v:Value}(i:Nat)(af:ops[i]?=some ⟨some d,op,bg,pos,a8,g⟩)(jJ:r9 ops=true)(cN:(cB||(m7 ops listed&&closed ops listed&&after ops i))=true)
    (bs:Region.free .any ops listed i=true) (a4:(Region.ready .any ops listed).contains i=true) (kq:∀c ao E S,¬Q (.panic c) ao E S) (hw:Want ops N E g) (aC:dw P B A N ao E K op v) (aJ:Nat.blt d N=true)
    (h:eY cB P B A r N ops K n (listed.setIfInBounds i true) ao ((d,v)::E) S Q):eY cB P B A r N ops K (n+1) listed ao E S Q:=by
  intro a w aq aH
  simp only [Bool.or_eq_true,Bool.and_eq_true,and_assoc]at cN
  refine Nw af rfl jJ (fun c a w ⟨ao,E,S,_,_,q⟩=>kq c ao E S q) n listed a w cN (Region.free_spec af bs) (by simpa using a4) (.inl ⟨Want.wanted (o:=⟨some d,op,bg,pos,a8,g⟩) hw aq,fun w ⟨X,yy⟩=>aC.gi.2.2 a w bg pos a8 g (some d) aq yy⟩) ?_
  exact h _ w (aq.put (by simpa using aJ)) aH
theorem tt{n t:Nat}{listed:Array Bool}{b:Bool}(aL:E.get t=some (.bool b))(ab:b=true→eY cB P B A r N ops K n listed ao ((t,.bool true)::E) S Q)(ae:b=false→eY cB P B A r N ops K n listed ao ((t,.bool false)::E) S Q):
    eY cB P B A r N ops K n listed ao E S Q:=by
  intro a w aq aH
  have key:∀h3,b=h3→dO N ao ((t,.bool h3)::E) a:=fun h3 e=>⟨aq.size,aq.qd,fun u v hu=>by
    simp only [Env.get]at hu
    cases aR:Nat.beq u t with
    |true=>rw [aR]at hu;simp at hu;subst hu;rw [Nat.eq_of_beq_eq_true aR];rw [←e];exact aq.get _ _ aL
    |false=>rw [aR]at hu;exact aq.get _ _ hu⟩
  cases aR:b with
  |true=>exact ab aR a w (key _ aR) aH
  |false=>exact ae aR a w (key _ aR) aH
theorem oE.afx{I aiJ:World→Prop}{ik:Exit→Act→World→Prop}(n:Nat):∀(listed:Array Bool) (a:Act) (w:World),m7 ops listed=false→oE false I r P ops ik n listed a w→oE false aiJ r P ops ik n listed a w:=by
  have wg:∀(listed:Array Bool) (i:Nat),m7 ops listed=false→m7 ops (listed.setIfInBounds i true)=false:=by
    intro listed i h
    cases eE:m7 ops (listed.setIfInBounds i true)with
    |false=>rfl
    |true=>
      rw [←h]
      symm
      refine List.all_eq_true.2 fun k ai=>?_
      have:=List.all_eq_true.1 eE k ai
      by_cases zB:k=i
      · subst zB
        by_cases aE:k<listed.size
        · simp [aE]at this
          cases aJ:(Option.map (fun o:Oper=>o.dst.isSome) ops[k]?).getD true<;>simp_all
        · simp [Array.getD,aE]
      · rw [getD_set_ne false (Ne.symm zB)]at this;exact this
  induction n with
  |zero=>intro listed a w aP h;exact⟨fun eE=>(by simp [aP]at eE),h.2⟩
  |succ n ih=>intro listed a w aP h;exact⟨fun eE=>(by simp [aP]at eE),h.2.1,fun i af=>wpOpIn_mono (fun jl ca eE=>ih _ jl ca (wg _ _ aP) eE) (h.2.2 i af)⟩
theorem XF{n:Nat}{listed:Array Bool}(cN:m7 ops listed=false)(h:eY false P B A r N ops [] n listed ao E S Q):∀a w,dO N ao E a→bC B A S w→oE false (fun w=>∃X,bC B A (K++X) w) r P ops (we B A N Q) n listed a w:=by
  intro a w aq aH
  exact oE.afx n listed a w cN (h a w aq aH)
def jO(cB:Bool)(P:Program)(B:Nat)(A:e0)(r:Option Nat)(N:Nat)(ops:Array Oper)(K:List (ar B))(n:Nat)(listed:Array Bool)(i:Nat)(ao:List Nat)(E:Env)(S:List (ar B))(Q:fw B):Prop:=
  ∀a w,dO N ao E a→bC B A (K++S) w→wpOpIn (nh r) 0 P ops (we B A N Q) i (oE cB (fun w=>∃X,bC B A (K++X) w) r P ops (we B A N Q) n (listed.setIfInBounds i true)) a w
theorem Q0{n:Nat}{listed:Array Bool}(qO:List Nat)(a4:Region.ready .any ops listed=qO)(gr:(!qO.isEmpty)=true)(h:∀i∈qO,jO cB P B A r N ops K n listed i ao E S Q):eY cB P B A r N ops K (n+1) listed ao E S Q:=by
  intro a w aq aH
  refine⟨fun _=>⟨S,aH⟩,fun b5=>?_,fun i af=>h i (a4▸af) a w aq aH⟩
  rw [a4]at b5;subst b5;cases gr
theorem C5{n:Nat}{listed:Array Bool}(i:Nat)(a4:Region.ready .any ops listed=[i])(h:jO cB P B A r N ops K n listed i ao E S Q):eY cB P B A r N ops K (n+1) listed ao E S Q:=
  Q0 [i] a4 rfl (fun j aI=>by simp at aI;subst aI;exact h)
theorem lq{n:Nat}{listed:Array Bool}(i j:Nat)(a4:Region.ready .any ops listed=[i,j])(ab:jO cB P B A r N ops K n listed i ao E S Q)(ae:jO cB P B A r N ops K n listed j ao E S Q):eY cB P B A r N ops K (n+1) listed ao E S Q:=
  Q0 [i,j] a4 rfl (fun k ai=>by
    have pF:k=i∨k=j:=by simpa using ai
    rcases pF with e|e
    · rw [e];exact ab
    · rw [e];exact ae)
theorem AN{α:Type}{n d:Nat}{listed:Array Bool}{op:Op}{bg:TypeId}{pos:String}{a8:Array Edge}{g:Option (Nat×Bool)}{i:Nat}(v:α→Value)(bc:α→List (ar B))(p:α→Prop)(af:ops[i]?=some ⟨some d,op,bg,pos,a8,g⟩)(hw:Want ops N E g)(qq:∀c,op≠ .defer c)(aJ:Nat.blt d N=true)
    (hG:∀a w,dO N ao E a→bC B A (K++S) w→∃x ca,(execOp a.eval ⟨some d,op,bg,pos,a8,g⟩).run P w= .ok (.value (v x)) ca∧bC B A (K++bc x) ca∧p x)
    (h:∀x,p x→eY cB P B A r N ops K n (listed.setIfInBounds i true) ao ((d,v x)::E) (bc x) Q):jO cB P B A r N ops K n listed i ao E S Q:=by
  intro a w aq aH
  obtain⟨x,ca,ab,ae,av⟩:=hG a w aq aH
  unfold wpOpIn
  simp only [af]
  rw [if_pos (Want.wanted (o:=⟨some d,op,bg,pos,a8,g⟩) hw aq)]
  refine⟨fun _ _=>trivial,?_⟩
  rw [Oper.semAt_eq _ _ _ qq,ab]
  exact h x av _ ca (aq.put (by simpa using aJ)) ae
theorem aa5{n:Nat}{listed:Array Bool}{op:Op}{bg:TypeId}{pos:String}{a8:Array Edge}{g:Option (Nat×Bool)}{i:Nat}{bc:List (ar B)}(af:ops[i]?=some ⟨none,op,bg,pos,a8,g⟩)(hw:Want ops N E g)(qq:∀c,op≠ .defer c)
    (hG:∀a w,dO N ao E a→bC B A (K++S) w→∃ca,(execOp a.eval ⟨none,op,bg,pos,a8,g⟩).run P w= .ok .skip ca∧bC B A (K++bc) ca)
    (h:eY cB P B A r N ops K n (listed.setIfInBounds i true) ao E bc Q):jO cB P B A r N ops K n listed i ao E S Q:=by
  intro a w aq aH
  obtain⟨ca,ab,ae⟩:=hG a w aq aH
  unfold wpOpIn
  simp only [af]
  rw [if_pos (Want.wanted (o:=⟨none,op,bg,pos,a8,g⟩) hw aq)]
  refine⟨fun _ _=>trivial,?_⟩
  rw [Oper.semAt_eq _ _ _ qq,ab]
  exact h _ ca aq ae
theorem PW{n d:Nat}{listed:Array Bool}{bg:TypeId}{pos:String}{a8:Array Edge}{g:Option (Nat×Bool)}{i:Nat}{f:FuncId}{xs:List Operand}{args:List Value}{dC:Array TypeId}{pre F:List (ar B)}{post:Value→List (ar B)→Prop}
    (af:ops[i]?=some ⟨some d,.call {callee:= .value (.func f),args:=xs.toArray,argTypes:=dC},bg,pos,a8,g⟩) (hw:Want ops N E g) (he:Go.Proofs.Enters P f) (a5:g9 E xs=some args) (bs:di P B f args pre post) (aL:Take pre (K++S) F) (aJ:Nat.blt d N=true)
    (h:∀v bc,post v bc→∃bh,(∃R,Take (K++bh) (bc++F) R)∧eY cB P B A r N ops K n (listed.setIfInBounds i true) ao ((d,v)::E) bh Q):jO cB P B A r N ops K n listed i ao E S Q:=by
  intro a w aq aH
  unfold wpOpIn
  simp only [af]
  rw [if_pos (Want.wanted (o:=⟨some d,.call {callee:= .value (.func f),args:=xs.toArray,argTypes:=dC},bg,pos,a8,g⟩) hw aq)]
  refine⟨fun _ _=>trivial,?_⟩
  have jE:=aq.g9 a5
  rw [Oper.semAt_eq _ _ _ (by simp)]
  have hG:(execOp a.eval ⟨some d,.call {callee:= .value (.func f),args:=xs.toArray,argTypes:=dC},bg,pos,a8,g⟩).run P w= .ok (.enter f args.toArray) w:=by
    simp [execOp,resolve,Act.eval,Deferred.ofValue,invoke,jE,he args.toArray w]
  rw [hG]
  have fB:=aH.size
  obtain⟨D,a1,a3,bI,cv,eX,fJ⟩:=aH.take aL
  obtain⟨ij,ng,bU,gT,iG,h2⟩:=a1.append
  refine⟨by simp [Fence.wide],?_⟩
  refine CallsIn.mono (bs w ij iG (fun k ai=>a3 k ((bU k).2 (.inl ai))) fB) ?_
  rintro e ca ⟨v,bc,rfl,aC,fo⟩
  obtain⟨bh,⟨R,t2⟩,al⟩:=h v bc aC
  exact al _ ca (aq.put (by simpa using aJ)) ((bC.pg a1 a3 bI cv eX fJ bU gT h2 fo).nz t2)
theorem XG{n d:Nat}{listed:Array Bool}{bg:TypeId}{pos:String}{a8:Array Edge}{g:Option (Nat×Bool)}{i:Nat}{f:FuncId}{xs:List Operand}{args:List Value}{dC:Array TypeId}{u:Value}
    (af:ops[i]?=some ⟨some d,.call {callee:= .value (.func f),args:=xs.toArray,argTypes:=dC},bg,pos,a8,g⟩) (hw:Want ops N E g) (he:Go.Proofs.Enters P f) (a5:g9 E xs=some args) (bs:di P B f args [] (fun v S=>v=u∧S=[])) (aJ:Nat.blt d N=true)
    (h:eY cB P B A r N ops K n (listed.setIfInBounds i true) ao ((d,u)::E) S Q):jO cB P B A r N ops K n listed i ao E S Q:=
  PW af hw he a5 bs (.nil _) aJ (fun v bc ⟨cL,dj⟩=>by subst cL dj;exact⟨S,⟨[],Take.self _⟩,h⟩)
theorem XH{n d:Nat}{listed:Array Bool}{bg:TypeId}{pos:String}{a8:Array Edge}{g:Option (Nat×Bool)}{i:Nat}{f:FuncId}{xs:List Operand}{args:List Value}{dC:Array TypeId}{pre F:List (ar B)}{α:Type}{u:α→Value}{T:α→List (ar B)}{p:α→Prop}{Z:List (ar B)}
    (af:ops[i]?=some ⟨some d,.call {callee:= .value (.func f),args:=xs.toArray,argTypes:=dC},bg,pos,a8,g⟩) (hw:Want ops N E g) (he:Go.Proofs.Enters P f) (a5:g9 E xs=some args) (jm:hh K S Z) (bs:di P B f args pre (fun v S=>∃x,p x∧v=u x∧S=T x++pre)) (aL:Take pre Z F) (aJ:Nat.blt d N=true)
    (h:∀x,p x→eY cB P B A r N ops K n (listed.setIfInBounds i true) ao ((d,u x)::E) (T x++S) Q):jO cB P B A r N ops K n listed i ao E S Q:=by
  intro a w aq aH
  unfold wpOpIn
  simp only [af]
  rw [if_pos (Want.wanted (o:=⟨some d,.call {callee:= .value (.func f),args:=xs.toArray,argTypes:=dC},bg,pos,a8,g⟩) hw aq)]
  refine⟨fun _ _=>trivial,?_⟩
  have jE:=aq.g9 a5
  rw [Oper.semAt_eq _ _ _ (by simp)]
  have hG:(execOp a.eval ⟨some d,.call {callee:= .value (.func f),args:=xs.toArray,argTypes:=dC},bg,pos,a8,g⟩).run P w= .ok (.enter f args.toArray) w:=by
    simp [execOp,resolve,Act.eval,Deferred.ofValue,invoke,jE,he args.toArray w]
  rw [hG]
  have fB:=aH.size
  have kh:bC B A Z w:=by rw [←jm.eq];exact aH
  obtain⟨D,a1,a3,bI,cv,eX,fJ⟩:=kh.take aL
  obtain⟨ij,ng,bU,gT,iG,h2⟩:=a1.append
  refine⟨by simp [Fence.wide],?_⟩
  refine CallsIn.mono (bs w ij iG (fun k ai=>a3 k ((bU k).2 (.inl ai))) fB) ?_
  rintro e ca ⟨v,bc,rfl,⟨x,aC,rfl,rfl⟩,fo⟩
  have ab:=bC.pg a1 a3 bI cv eX fJ bU gT h2 fo
  rw [List.append_assoc]at ab
  have ae:bC B A (T x++(K++S)) ca:=by
    obtain⟨su,e2,cD⟩:=ab
    obtain⟨EY,MR,afy,afz,z8,rD⟩:=e2.append
    exact⟨su,ee.join afy afz z8 (by rw [jm.eq];exact aL.back rD),cD⟩
  exact h x aC _ ca (aq.put (by simpa using aJ)) ae.mid
theorem lO{n d t i:Nat}{listed:Array Bool}{bg:TypeId}{pos:String}{a8:Array Edge}{g:Option (Nat×Bool)}{aF:List Value}(af:ops[i]?=some ⟨some d,.alloc t,bg,pos,a8,g⟩)(hw:Want ops N E g)(aS:zeroOf P t=some aF)(aJ:Nat.blt d N=true)
    (h:∀b,eY cB P B A r N ops K n (listed.setIfInBounds i true) ao ((d,.pointer (some ⟨b,0,none⟩))::E) (U b aF t::S) Q):jO cB P B A r N ops K n listed i ao E S Q:=
  AN (α:=Nat) (fun b=> .pointer (some ⟨b,0,none⟩)) (fun b=>U b aF t::S) (fun _=>True) af hw (by simp) aJ (fun a w aq aH=>by
    unfold zeroOf at aS
    split at aS
    · rename_i i af
      split at aS
      · rename_i z va
        simp at aS
        refine⟨w.heap.size,w.alloc (.cells z.cells t),?_,?_,trivial⟩
        · simp [execOp,Instr.alloc,zeroValue,typeInfo,af,va,FF]
        · have:=aH.new (.cells z.cells t)
          subst aS
          exact bC.mid (fY:=[_]) (by simpa using this)
      · cases aS
    · cases aS) (fun b _=>h b)
theorem Q1{n d t i:Nat}{listed:Array Bool}{bg:TypeId}{pos:String}{a8:Array Edge}{g:Option (Nat×Bool)}{aF:List Value}{x:Operand}{v:Value}(af:ops[i]?=some ⟨some d,.box t x,bg,pos,a8,g⟩)(hw:Want ops N E g)(al:aX E x=some v)(a7:v.cells=aF.toArray)(aJ:Nat.blt d N=true)
    (h:∀b,eY cB P B A r N ops K n (listed.setIfInBounds i true) ao ((d,.pointer (some ⟨b,0,none⟩))::E) (U b aF t::S) Q):jO cB P B A r N ops K n listed i ao E S Q:=
  AN (α:=Nat) (fun b=> .pointer (some ⟨b,0,none⟩)) (fun b=>U b aF t::S) (fun _=>True) af hw (by simp) aJ (fun a w aq aH=>by
    refine⟨w.heap.size,w.alloc (.cells aF.toArray t),?_,bC.mid (fY:=[_]) (aH.new _),trivial⟩
    simp [execOp,Instr.box,aq.aX al,FF,a7]) (fun b _=>h b)
theorem OF{n d:Nat}{listed:Array Bool}{bg:TypeId}{pos:String}{a8:Array Edge}{g:Option (Nat×Bool)}{i:Nat}{f:FuncId}{xs:List Operand}{args:List Value}{dC:Array TypeId}{pre F:List (ar B)}{u:Value}{Z:List (ar B)}
    (af:ops[i]?=some ⟨some d,.call {callee:= .value (.func f),args:=xs.toArray,argTypes:=dC},bg,pos,a8,g⟩) (hw:Want ops N E g) (he:Go.Proofs.Enters P f) (a5:g9 E xs=some args) (jm:hh K S Z) (bs:di P B f args pre (fun v S=>v=u∧S=pre)) (aL:Take pre Z F) (aJ:Nat.blt d N=true)
    (h:eY cB P B A r N ops K n (listed.setIfInBounds i true) ao ((d,u)::E) S Q):jO cB P B A r N ops K n listed i ao E S Q:=
  XH (α:=Unit) (u:=fun _=>u) (T:=fun _=>[]) (p:=fun _=>True) af hw he a5 jm (bs.mono (fun v S ⟨ab,ae⟩=>⟨(),trivial,ab,ae⟩)) aL aJ (fun _ _=>h)
theorem Q2{n i:Nat}{listed:Array Bool}{op:Op}{bg:TypeId}{pos:String}{a8:Array Edge}{g:Option (Nat×Bool)}{T bc:List (ar B)}(af:ops[i]?=some ⟨none,op,bg,pos,a8,g⟩)(hw:Want ops N E g)(c9:hh K S T)(bs:pG P B A N ao E T op bc)
    (cN:m7 ops (listed.setIfInBounds i true)=false) (h:eY false P B A r N ops [] n (listed.setIfInBounds i true) ao E bc Q):jO false P B A r N ops K n listed i ao E S Q:=by
  intro a w aq aH
  rw [c9.eq]at aH
  obtain⟨ca,ab,ae⟩:=bs.2 a w bg pos a8 g aq aH
  unfold wpOpIn
  simp only [af]
  rw [if_pos (Want.wanted (o:=⟨none,op,bg,pos,a8,g⟩) hw aq)]
  refine⟨fun _ _=>trivial,?_⟩
  rw [Oper.semAt_eq _ _ _ bs.1,ab]
  have key:=XF (K:=K) cN h
  exact key a ca aq ae
theorem mC{n i:Nat}{listed:Array Bool}{op:Op}{bg:TypeId}{pos:String}{a8:Array Edge}{g:Option (Nat×Bool)}{T VC bc:List (ar B)}(af:ops[i]?=some ⟨none,op,bg,pos,a8,g⟩)(hw:Want ops N E g)(c9:hh K S T)(bs:pG P B A N ao E T op VC)(aL:Take K VC bc)
    (h:eY cB P B A r N ops K n (listed.setIfInBounds i true) ao E bc Q):jO cB P B A r N ops K n listed i ao E S Q:=
  aa5 af hw bs.1 (fun a w aq aH=>by
    rw [c9.eq]at aH
    obtain⟨ca,ab,ae⟩:=bs.2 a w bg pos a8 g aq aH
    exact⟨ca,ab,ae.take aL⟩) h
end Go.Sl
end
section
namespace Go.Sl
open Go Go.ChangeShapes Go.WideShapes Go.ChangeAt Go.RowKit
variable{P:Program}{B:Nat}{A:e0}{N:Nat}{ao:List Nat}{E:Env}{S R:List (ar B)}
structure an(α:Type) where
  bn:Option Addr
  c:Nat
  l:List α
  nil:bn=none→l=[]
  small:l.length≤9223372036854775807
  cap:l.length≤c
def an.bu{α:Type}(x:an α):Addr:=x.bn.getD ⟨0,0,none⟩
abbrev an.n{α:Type}(x:an α):Nat:=x.l.length
theorem an.fl{α:Type}(x:an α):x.bn=none→x.n=0:=fun h=>by simp [an.n,x.nil h]
theorem rM{α:Type}{a2:α→List Value}{aN:Nat}(he:∀a,(a2 a).length=aN):∀(l:List α),(l.flatMap a2).length=l.length*aN
  |[]=>by simp
  |a::l=>by rw [List.flatMap_cons,List.length_append,he,rM he l,List.length_cons,Nat.succ_mul,Nat.add_comm]
theorem Jj{α:Type}{a2:α→List Value}{aN:Nat}(he:∀a,(a2 a).length=aN):∀(l:List α) (i:Nat) (k:Nat) (a:α),l[i]?=some a→k<aN→(l.flatMap a2)[i*aN+k]?=(a2 a)[k]?
  |[],_,_,_,h,_=>by simp at h
  |b::l,0,k,a,h,ai=>by
    simp at h;subst h
    rw [List.flatMap_cons,Nat.zero_mul,Nat.zero_add,List.getElem?_append_left (by rw [he];exact ai)]
  |b::l,i+1,k,a,h,ai=>by
    rw [List.flatMap_cons,List.getElem?_append_right (by rw [he,Nat.succ_mul];omega),he]
    rw [show(i+1)*aN+k-aN=i*aN+k by rw [Nat.succ_mul];omega]
    exact Jj he l i k a (by simpa using h) ai
theorem IQ{α:Type}{a2:α→List Value}{aN:Nat}(he:∀a,(a2 a).length=aN):∀(l:List α) (i:Nat) (a:α),l[i]?=some a→((l.flatMap a2).drop (i*aN)).take aN=a2 a
  |[],_,_,h=>by simp at h
  |b::l,0,a,h=>by
    simp at h;subst h
    rw [List.flatMap_cons,Nat.zero_mul,List.drop_zero,List.take_append_of_le_length (by rw [he];exact Nat.le_refl _), ←he b,List.take_length]
  |b::l,i+1,a,h=>by
    rw [List.flatMap_cons,Nat.succ_mul,Nat.add_comm, ←List.drop_drop]
    conv=>lhs;rw [←he b]
    rw [List.drop_left,he b]
    exact IQ he l i a (by simpa using h)
section
variable[m6]
theorem eQ{α:Type}{a2:α→List Value}{aN:Nat}(he:∀a,(a2 a).length=aN){K:ar B}{bu:Addr}{l:List α}{t i k:Nat}{a:α}{x:Operand}{v:Value}(al:aX E x=some (.pointer (some (bu.add (i*aN+k)))))(dV:Out K S R)(a4:dI K bu (l.flatMap a2))(aL:hA P t=some (false,1))
    (af:l[i]?=some a) (cL:(a2 a)[k]?=some v):dw P B A N ao E S (.load t x) v:=
  Hj al dV a4 aL (by rw [Jj he l i k a af (by have:=(List.getElem?_eq_some_iff.1 cL).1;rw [he]at this;exact this)];exact cL)
theorem jV{α:Type}{a2:α→List Value}{aN:Nat}(he:∀a,(a2 a).length=aN){K:ar B}{bu:Addr}{l:List α}{t i:Nat}{a:α}{x:Operand}(al:aX E x=some (.pointer (some (bu.add (i*aN)))))(dV:Out K S R)(a4:dI K bu (l.flatMap a2))(aL:hA P t=some (true,aN))
    (af:l[i]?=some a):dw P B A N ao E S (.load t x) (.agg (a2 a).toArray):=
  KT al dV a4 aL (Nat.ble_eq_true_of_le (by
    have:=(List.getElem?_eq_some_iff.1 af).1
    rw [rM he, ←Nat.succ_mul];exact Nat.mul_le_mul_right _ this)) (IQ he l i a af)
end
def R9:List (Option IntKind)→List Value→Bool
  |[],[]=>true
  |none::hl,.bool _::bK=>R9 hl bK
  |some k::hl,.int hx m::bK=>k==hx&&(Lit.int k m).wf&&R9 hl bK
  |_,_=>false
variable{H:Type}{a2:TypeId×Value→H}{W:World}{base:Nat}{spare:Nat→Bool}{held:Bool}
theorem XI{f:FuncId}{args:Array Value}{w:World}{v:Value}{T:List (ar w.heap.size)}(c9:ee T (fun _=>False) w)(h:di P w.heap.size f args.toList T (fun u _=>u=v)):
    Calls P f args w fun e ca=>e= .returned v∧Go.RowKit.Below w.heap.size w ca:=by
  refine(callsIn_wide (n:=0)).1 (CallsIn.mono (h w (fun _=>False) c9 (fun _ h=>h.elim) (Nat.le_refl _)) ?_)
  rintro e ca ⟨u,bc,rfl,rfl,D,ab,ae,av,aV,_⟩
  exact⟨rfl,aV.os,aV.tape,aV.output,aV.size,fun k ai=>aV.same k ai (fun h=>h)⟩
theorem XJ(w:World):ee [D8 (B:=w.heap.size) w] (fun _=>False) w:=
  ⟨fun _=>False,fun _=>False,by simp,fun _ h=>h.elim,⟨fun _ h=>h,fun _ _=>rfl⟩,fun _ h=>h⟩
def Sa(P:Program)(W:World)(t:TypeId)(v:Value):Prop:=
  (∃b,Value.okWide P W .any b t v)∧∃(H:Type) (a2:TypeId×Value→H) (pz:Nat) (x:DataW H×List MemPlace),DataW.trod a2 P W 0 (fun _=>true) true pz t v.cells.toList=some x
def C6(P:Program)(W:World):List TypeId→List Value→Prop
  |[],[]=>True
  |t::aG,v::bK=>Sa P W t v∧C6 P W aG bK
  |_,_=>False
theorem NW:∀{aG:List TypeId} {bK:List Value} {ao:List (DataW H)} {bX:List MemPlace},(∀(j:Nat) t v,aG[j]?=some t→bK[j]?=some v→∃b,Value.okWide P W .any b t v)→DataW.TrodAll a2 P W 0 (fun _=>true) true aG bK ao bX→C6 P W aG bK
  |[],[],_,_,_,_=>trivial
  |[],_::_,ao,_,_,h=>by cases ao<;>simp [DataW.TrodAll]at h
  |_::_,[],ao,_,_,h=>by cases ao<;>simp [DataW.TrodAll]at h
  |t::aG,v::bK,ao,bX,cL,h=>by
    obtain⟨gW,Ue,d0,Bi,Iz,fL,jE,rfl,rfl,b5,BR⟩:=trodAll_cons h
    simp at jE
    obtain⟨rfl,rfl⟩:=jE
    obtain⟨pz,bs⟩:=b5
    refine⟨⟨?_,H,a2,pz,_,bs⟩,NW (fun j t v ab ae=>cL (j+1) t v (by simpa using ab) (by simpa using ae)) BR⟩
    exact cL 0 t v rfl rfl
theorem OG(aE:laidOutB P=true){ca:World}(aR:Below W.heap.size W ca):∀{aG:List TypeId} {bK:List Value} {ao:List (DataW H)} {bX:List MemPlace},(∀t∈aG,P.readableRec t=true∧t<P.types.size)→DataW.TrodAll a2 P W 0 (fun _=>true) true aG bK ao bX→
    ∃MW,DataW.TrodAll a2 P ca 0 (fun b=>decide (b<W.heap.size)) true aG bK ao MW
  |[],[],[],_,_,_=>⟨[],rfl⟩
  |[],[],_::_,_,_,h=>by simp [DataW.TrodAll]at h
  |[],_::_,ao,_,_,h=>by cases ao<;>simp [DataW.TrodAll]at h
  |_::_,[],ao,_,_,h=>by cases ao<;>simp [DataW.TrodAll]at h
  |t::aG,v::bK,ao,bX,a4,h=>by
    obtain⟨gW,Ue,d0,Bi,Iz,fL,jE,rfl,rfl,b5,BR⟩:=trodAll_cons h
    simp at jE
    obtain⟨rfl,rfl⟩:=jE
    have ag8:∀x∈Iz,x.block<W.heap.size:=by obtain⟨m,hm⟩:=b5;exact DataW.trod_lt m _ _ _ hm
    obtain⟨q,bF⟩:=OG aE aR (fun t aL=>a4 t (List.mem_cons_of_mem _ aL)) BR
    have:=a4 t (List.mem_cons_self ..)
    exact⟨_,trodAll_cons_mk (Below.trod aE this.1 this.2 b5 aR ag8) bF⟩
theorem Nx{t:Nat}{v:Value}(hu:P.underlying t=some .string)(h:Sa P W t v):∃s,v= .string s:=by
  obtain⟨⟨b,ab⟩,_⟩:=h
  exact okWide_string hu ab
end Go.Sl
end
section
namespace Go.Sl
open Go
def bz{α:Type}(f:Nat→α)(k:Nat)(v:α):Nat→α:=fun j=>if j=k then v else f j
theorem e4{α:Type}(f:Nat→α)(k:Nat)(v:α):bz f k v k=v:=by simp [bz]
theorem fG{α:Type}(f:Nat→α){k j:Nat}(v:α)(h:j≠k):bz f k v j=f j:=by simp [bz,h]
def ra{α:Type}(c:α→Value)(n:Nat)(f:Nat→α):List Value:=(List.range n).map fun k=>c (f k)
theorem vG{α:Type}(c:α→Value)(n:Nat)(f:Nat→α):(ra c n f).length=n:=by simp [ra]
theorem yF{α:Type}{c:α→Value}{n:Nat}{f:Nat→α}{k:Nat}(h:k<n):(ra c n f)[k]?=some (c (f k)):=by simp [ra,h]
theorem OH{α:Type}{c:α→Value}{n:Nat}{f:Nat→α}{k:Nat}{v:α}:(ra c n f).set k (c v)=ra c n (bz f k v):=by
  apply List.ext_getElem?
  intro i
  by_cases af:i<n
  · by_cases zB:k=i
    · subst zB;simp [ra,af,bz]
    · rw [List.getElem?_set_ne zB,yF af,yF af,fG _ _ (Ne.symm zB)]
  · rw [List.getElem?_eq_none (by simp [ra];omega),List.getElem?_eq_none (by simp [ra];omega)]
theorem Jk{α:Type}{c:α→Value}{n:Nat}{f g:Nat→α}(h:∀k,k<n→f k=g k):ra c n f=ra c n g:=by
  unfold ra;exact List.map_congr_left fun k ai=>by rw [h k (List.mem_range.1 ai)]
abbrev e6(n:Nat)(f:Nat→Int):List Value:=ra (fun m=> .int .i64 m) n f
theorem yG{xs cP:List Value}{k:Nat}{v:Value}(h:xs[k]?=some v):(xs++cP)[k]?=some v:=by
  rw [List.getElem?_append_left (List.getElem?_eq_some_iff.1 h).1];exact h
theorem vH{xs cP:List Value}{k n:Nat}{v:Value}(aP:xs.length=n)(h:cP[k]?=some v):(xs++cP)[n+k]?=some v:=by
  subst aP;rw [List.getElem?_append_right (by omega),Nat.add_sub_cancel_left];exact h
theorem Am{xs cP:List Value}{k:Nat}{v:Value}(h:k<xs.length):(xs++cP).set k v=xs.set k v++cP:=by rw [List.set_append_left _ _ h]
theorem xk{xs cP:List Value}{k n:Nat}{v:Value}(aP:xs.length=n):(xs++cP).set (n+k) v=xs++cP.set k v:=by
  subst aP;rw [List.set_append_right _ _ (by omega),Nat.add_sub_cancel_left]
abbrev ea(n:Int):List Value:=[.int .i64 n]
theorem OI{α:Type}{a2:α→List Value}{l:List α}{a:α}:l.flatMap a2++a2 a=(l++[a]).flatMap a2:=by
  rw [List.flatMap_append];simp
theorem Take.skip{α:Type}{y:α}:∀{L S R:List α},Take L S R→Take L (y::S) (y::R)
  |[],_,_,.nil _=> .nil _
  |_::_,_,_,.cons h t=> .cons (.there _ h) (Take.skip t)
section
variable{cB:Bool}{P:Program}{B:Nat}{A:e0}{r:Option Nat}{N:Nat}{ao:List Nat}{E:Env}{S R:List (ar B)}{Q:fw B}
def an.bt{α:Type}:an α:=⟨none,0,[],fun _=>rfl,by simp,by simp⟩
theorem an.fk{α:Type}:∀bu,(an.bt:an α).bn=some bu→∃g,bu=⟨g,0,none⟩:=by intro bu h;cases h
theorem gE{α:Type}{c:Code}(a2:α→List Value)(e aN:Nat)(h:X P B A r N c ao E (row (.slice (an.bt:an α).bn (an.bt:an α).l.length (an.bt:an α).c) e aN (an.bt:an α).l.length ((an.bt:an α).l.flatMap a2)::S) Q):X P B A r N c ao E S Q:=OE e aN h
theorem p0{α:Type}{ops:Array Oper}{l:List Oper}(a2:α→List Value)(e aN:Nat)(h:cg P B A r N ops l ao E (row (.slice (an.bt:an α).bn (an.bt:an α).l.length (an.bt:an α).c) e aN (an.bt:an α).l.length ((an.bt:an α).l.flatMap a2)::S) Q):cg P B A r N ops l ao E S Q:=WL e aN h
theorem Nl{ops:Array Oper}{j g:Nat}{a:Act}(ab:(ops[j]?).bind (·.dst)=some g)(ae:g<N)(av:E.get g=some undef)(aq:dO N ao E a):yielded ops a.tmps j=none:=by
  have bl:=aq.get g _ av
  have ey:g<a.tmps.size:=by rw [aq.size];exact ae
  have:a.tmps[g]?=some undef:=by
    rw [Array.getD_eq_getD_getElem?,Array.getElem?_eq_getElem ey]at bl
    rw [Array.getElem?_eq_getElem ey]
    simpa using bl
  simp [yielded,ab,this,undef]
theorem XK{ops:Array Oper}{rest:List Oper}{d:Nat}{op:Op}{bg:TypeId}{pos:String}{a8:Array Edge}{j:Nat}{b:Bool}(g:Nat)(ab:(ops[j]?).bind (·.dst)=some g)(ae:Nat.blt g N=true)(av:E.get g=some undef)
    (aJ:Nat.blt d N=true) (h:cg P B A r N ops rest ao ((d,undef)::E) S Q):cg P B A r N ops (⟨some d,op,bg,pos,a8,some (j,b)⟩::rest) ao E S Q:=by
  intro a w aq aH
  have aZ:=Nl (ops:=ops) ab (by simpa using ae) av aq
  simp only [wpListIn,Region.wanted,aZ]
  rw [if_neg (by simp)]
  exact⟨fun _ _=>trivial,h _ w (aq.put (by simpa using aJ)) aH⟩
theorem pY{ops:Array Oper}{K:List (ar B)}{n d:Nat}{listed:Array Bool}{op:Op}{bg:TypeId}{pos:String}{a8:Array Edge}{j:Nat}{b:Bool}(i:Nat)(t:Nat)(af:ops[i]?=some ⟨some d,op,bg,pos,a8,some (j,b)⟩)(jJ:r9 ops=true)(cN:(cB||(m7 ops listed&&closed ops listed&&after ops i))=true)
    (bs:Region.free .any ops listed i=true) (a4:(Region.ready .any ops listed).contains i=true) (kq:∀c ao E S,¬Q (.panic c) ao E S) (ab:(ops[j]?).bind (·.dst)=some t) (ae:Nat.blt t N=true) (av:E.get t=some undef) (aJ:Nat.blt d N=true)
    (h:eY cB P B A r N ops K n (listed.setIfInBounds i true) ao ((d,undef)::E) S Q):eY cB P B A r N ops K (n+1) listed ao E S Q:=by
  intro a w aq aH
  have aZ:=Nl (ops:=ops) ab (by simpa using ae) av aq
  simp only [Bool.or_eq_true,Bool.and_eq_true,and_assoc]at cN
  refine Nw af rfl jJ (fun c a w ⟨ao,E,S,_,_,q⟩=>kq c ao E S q) n listed a w cN (Region.free_spec af bs) (by simpa using a4) (.inr ⟨by simp [Region.wanted,aZ],rfl⟩) ?_
  exact h _ w (aq.put (by simpa using aJ)) aH
def G3(P:Program)(B:Nat)(A:e0)(r:Option Nat)(N:Nat){α:Type}(I:α→Prop)(iB:α→Env)(iC:α→List (ar B))(ao:List Nat)(Q:fw B):fw B
  | .normal,kV,E,S=>kV=ao∧∃x R,I x∧(iB x).sub E∧Take (iC x) S R
  |e,kV,E,S=>Q e kV E S
theorem jT{x y:Code}{α:Type}(I:α→Prop)(iB:α→Env)(iC:α→List (ar B))(ab:X P B A r N x ao E S (G3 P B A r N I iB iC ao Q))(ae:∀z,I z→X P B A r N y ao (iB z) (iC z) Q):X P B A r N (x.seq y) ao E S Q:=by
  refine cC (fun a w aq aH=>wpIn_mono (ab a w aq aH) ?_)
  rintro e dk kP ⟨Ec,Ix,aU,ta,zz,cy⟩
  cases e with
  |normal=>
    obtain⟨rfl,z,aiK,EZ,cn,c9⟩:=cy
    exact⟨Ec,iB z,iC z,ta.sub cn,zz.nz c9,ae z EZ⟩
  |_=>exact⟨Ec,Ix,aU,ta,zz,cy⟩
theorem V8{α:Type}{I:α→Prop}{iB:α→Env}{iC:α→List (ar B)}(z:α)(ab:I z)(ae:(iB z).sub E)(av:∃R,Take (iC z) S R):G3 P B A r N I iB iC ao Q .normal ao E S:=let⟨R,av⟩:=av;⟨rfl,z,R,ab,ae,av⟩
inductive nA{α:Type}:List α→Nat→α→List α→Prop
  |zero (x:α) (l:List α) (v:α):nA (x::l) 0 v (v::l)
  |succ {x:α} {l gf:List α} {n:Nat} {v:α} (h:nA l n v gf):nA (x::l) (n+1) v (x::gf)
theorem nA.eq{α:Type}{l gf:List α}{n:Nat}{v:α}(h:nA l n v gf):l.set n v=gf∧n<l.length:=by
  induction h with
  |zero x l v=>simp
  |succ h ih=>simp [ih.1,ih.2]
theorem jr{aF ga:List Value}{t b k:Nat}{x y:Operand}{dv:TypeId}{v:Value}(al:aX E x=some (.pointer (some ⟨b,k,none⟩)))(aZ:aX E y=some v)(ab:v.oneCell'=true)(dV:Out (U b aF dv) S R)(aL:hA P t=some (false,1))
    (a7:nA aF k v ga):pG P B A N ao E S (.store t x y) (U b ga dv::R):=
  js al aZ ab dV aL (by simpa using a7.eq.2) a7.eq.1
def an.Own{α:Type}(a:an α):Prop:=∀bu,a.bn=some bu→∃g,bu=⟨g,0,none⟩
abbrev an.v{α:Type}(a:an α):Value:= .slice a.bn a.l.length a.c
theorem dT{α:Type}{a2:α→List Value}{a:an α}{e aN n:Nat}(h:a.Own)(aP:n=a.l.length):dI (row (B:=B) (.slice a.bn a.l.length a.c) e aN n (a.l.flatMap a2)) a.bu (a.l.flatMap a2):=by
  subst aP
  cases aq:a.bn with
  |none=>rw [a.nil aq];intro D w _ k ai;simp at ai
  |some bu=>
    obtain⟨g,rfl⟩:=h bu aq
    have:a.bu=⟨g,0,none⟩:=by simp [an.bu,aq]
    rw [this]
    exact QY
theorem Gd{α:Type}{a2:α→List Value}{l:List α}{v:Value}{e aN n:Nat}{xs:List Value}{w:World}(h:bC B A S w)(aq:Out (row v e aN n xs) S R)(aP:n=l.length):∃a:an α,a.l=l∧a.Own∧v= .slice a.bn a.l.length a.c:=by
  obtain⟨D,bO⟩:=h.mem aq
  obtain⟨⟨ab,ae⟩,_⟩:=bO
  subst aP
  rcases ae with⟨rfl,b5⟩|⟨g,cap,dR,rfl,_,_,HE,oO,_⟩
  · have:l=[]:=List.length_eq_zero_iff.1 b5
    subst this
    exact⟨⟨none,0,[],fun _=>rfl,by simp,by simp⟩,rfl,(by intro bu h;cases h),rfl⟩
  · refine⟨⟨some ⟨g,0,none⟩,cap,l,(by intro h;cases h),?_,HE⟩,rfl,(by intro bu h;cases h;exact⟨g,rfl⟩),rfl⟩
    unfold maxLen at oO;omega
theorem FB{fn:Func}{p t b n q:Nat}{aF:List Value}{dv:TypeId}{aU:List (ar B)}{v:Value}(h:fn.results= #[.cell p t,.tmp q])(aC:E.get p=some (.pointer (some ⟨b,0,none⟩)))(aq:Out (U b aF dv) S aU)(aL:hA P t=some (true,n))(aP:aF.length=n)(bF:E.get q=some v):
    ∀a w,dO N ao E a→bC B A S w→(results fn a.tmps).run P w= .ok (.tuple #[.agg aF.toArray,v]) w:=by
  intro a w ei aH
  obtain⟨D,bO⟩:=aH.mem aq
  have aE:=Ah (P:=P) (w:=w) (p:=⟨b,0,none⟩) (bK:=aF) aL aP (fun k ai=>lQ D w bO k (by omega))
  simp only [Instr.loadAt,Instr.sureAddr,Sem.run_bind,Sem.run_pure,Result.andThen_ok]at aE
  have n8:a.tmps[p]?.getD undef= .pointer (some ⟨b,0,none⟩):=by have:=ei.get p _ aC;simpa [Array.getD_eq_getD_getElem?]using this
  have rk:a.tmps[q]?.getD undef=v:=by have:=ei.get q _ bF;simpa [Array.getD_eq_getD_getElem?]using this
  simp [results,h,n8,rk,asAddr,aE]
end
end Go.Sl
end
section
namespace Go.Sl
open Go Go.ChangeShapes Go.WideShapes Go.ChangeAt Go.RowKit
variable{P:Program}{W:World}{H:Type}{a2:TypeId×Value→H}
theorem XL{n:String}{g t e len:Nat}{k:IntKind}{cl:List Int}(aP:P.globalNamed n=some g)(aL:(P.globals[g]?).map (·.type)=some t)(hu:P.underlying t=some (.array len e))(he:P.underlying e=some (.int k))(a7:P.cellsOf e=1)(aE:cl.length=len)
    (h:laidMet P [(n,.agg (cl.map fun m=> .lit (.int k m)))] W):dI (D8 (B:=W.heap.size) W) ⟨g,0,none⟩ (cl.map fun m=> .int k m):=by
  obtain⟨bX,⟨l7,t0,ag9,f0,Iz,fL,L4,HJ,qv,L5,_⟩,_⟩:=h
  obtain rfl:=Option.some.inj (aP.symm.trans L4)
  obtain rfl:=Option.some.inj (aL.symm.trans HJ)
  obtain⟨xs,m,_,al,hlen,jI,Uf⟩:=DataW.trod_array hu L5
  simp only [Prod.mk.injEq,DataW.agg.injEq]at al
  refine aa2 fun i af=>?_
  have HK:i<cl.length:=by simpa using af
  have ab:=Uf i (by omega)
  have ae:i<xs.length:=by omega
  rw [List.getElem?_eq_getElem ae,a7,Nat.mul_one]at ab
  obtain⟨v,cL,pH,_⟩:=DataW.trod_int he ab
  have av:(xs.map (·.1))[i]?=some (.lit (.int k v)):=by simp [ae,pH]
  rw [←al.1]at av
  simp [HK]at av
  have adq:ag9[i]?=some (.int k v):=by
    have:=congrArg (·[0]?) cL
    simpa [List.getElem?_take,List.getElem?_drop]using this
  have hw:=World.var?_cell aP qv i
  rw [adq]at hw
  have cb:(⟨g,0,none⟩:Addr).add i=⟨g,i,none⟩:=by rw [nq,Nat.zero_add]
  refine⟨?_,?_⟩
  · rcases Nat.lt_or_ge g W.heap.size with h|h
    · exact h
    · simp [World.cell?,Array.getElem?_eq_none h]at hw
  · rw [cb,hw];simp [HK,av]
theorem Y4{C:Checked}{os:Os}{f:FuncId}{fn:Func}{s:ChangeSpec}{w0:TypeId}{laid:List (String×DataW Unit)}(own:ownKnob C.prog.godebug=none)(started:os.Started)(aa6:C.prog.inits.idxOf? f=none)(L6:C.prog.funcs[f]?=some fn)
    (laidOut:laidOutB C.prog=true) (readable:fn.params.toList.all (fun t=>C.prog.readableRec t&&decide (t<C.prog.types.size))=true) (Sb:s.vars=[])
    (adr:∀(ao:List (DataW H)),ao.length=fn.params.size→(s.fn H ao).results=[.lit (.bool true)]∧(s.fn H ao).args=ao∧(s.fn H ao).vars=[]) (iv:fn.resultTypes= #[w0]) (aha:C.prog.underlying w0=some .bool)
    (witness:∃(w:World) (tape:Tape) (i:Input),w.os=os∧(w.forCall tape i).Shaped C.prog∧i.vars=[]∧Input.okWide C.prog (w.forCall tape i) .any w.heap.size f i∧
      ((s.pre a2 C.prog fn [] false (w.forCall tape i).memory i.args∧laidMetH C.prog laid (w.forCall tape i).memory)∧sizedMet a2 C.prog fn (OpenSpec.ofChange s) false (w.forCall tape i).memory i.args)∧({}:Assume).holds C.prog (lone (Frame.enter C.prog f i.args .normal) [] (w.forCall tape i)))
    (walk:∀(W:World) (args:Array Value),laidMetH C.prog laid W→C6 C.prog W fn.params.toList args.toList→Calls C.prog f args W fun e ca=>e= .returned (.bool true)∧Below W.heap.size W ca):
    ReturnsInHanded {} C os f .any (fun w args=>(s.pre a2 C.prog fn [] false w args∧laidMetH C.prog laid w)∧sizedMet a2 C.prog fn (OpenSpec.ofChange s) false w args) (s.post a2 C.prog fn false true false false):=by
  refine returnsInHanded_of_change_and (C:=C) (X:=fun w _=>laidMetH C.prog laid w) (fun _ _ _ fv h=>h.of_heap fv) own started aa6 L6 witness ?_
  intro W base args ao gs before Ln w1 ai8 _ eM _
  have ahb:=w1
  obtain⟨p,q,bY,VD,rfl,ajB,qq⟩:=w1
  rw [Sb]at VD
  obtain⟨rfl,rfl⟩:=trodVars_none VD
  have ads:∀(j:Nat) t v,fn.params[j]?=some t→args[j]?=some v→Value.okWide C.prog W .any base t v:=Ln
  have ei:C6 C.prog W fn.params.toList args.toList:=NW (fun j t v ab ae=>⟨base,ads j t v (by simpa using ab) (by simpa using ae)⟩) bY
  refine(walk W args eM ei).mono fun e akC ⟨he,Ug⟩=>?_
  subst he
  obtain⟨MW,bF⟩:=OG laidOut Ug (fun t aL=>by have:=List.all_eq_true.1 readable t aL;simpa using this) bY
  have hlen:ao.length=fn.params.size:=by
    have:∀{aG:List TypeId} {bK:List Value} {ao:List (DataW H)} {bX:List MemPlace},DataW.TrodAll a2 C.prog W 0 (fun _=>true) true aG bK ao bX→ao.length=aG.length:=by
      intro aG
      induction aG with
      |nil=>intro bK ao bX h;cases bK<;>cases ao<;>simp_all [DataW.TrodAll]
      |cons t aG ih=>
        intro bK ao bX h
        obtain⟨gW,Ue,d0,Bi,Iz,fL,rfl,rfl,rfl,b5,BR⟩:=trodAll_cons h
        simp [ih BR]
    simpa using this bY
  obtain⟨cb,cq,fP⟩:=adr (ao++[]) (by simpa using hlen)
  refine⟨_,rfl,ao,[],_,[],MW,[],ahb,?_,?_,?_,Ug.frame _,fun h=>by cases h⟩
  · rw [cb,iv];exact trodAll_mk1 (shut_bool aha _)
  · rw [cq];simpa using bF
  · rw [Sb,fP];rfl
end Go.Sl
end
section
namespace Go.Sl
open Go
variable{P:Program}{B:Nat}{A:e0}{r:Option Nat}{N:Nat}{ao:List Nat}{E:Env}{S R:List (ar B)}{Q:fw B}
theorem Y5{x:Operand}{t:Nat}{m:Int}{a:BitVec 32}(al:aX E x=some (.int .u32 m))(a5:BitVec.ofInt 32 m=a):dw P B A N ao E S (.unOp .neg t x) (.int .u32 ((-a).toNat:Int)):=
  ⟨by simp,by simp,fun ac w bg pos a8 g d aq aH=>by
    have cb:=Fv m a a5
    have:IntKind.u32.wrap (0-m)=((-a).toNat:Int):=by
      simp [IntKind.wrap,IntKind.bits,IntKind.signed,BitVec.toNat_neg];omega
    simp only [execOp,aq.aX al,Op.unary,Op.intArith,this]
    rfl⟩
theorem XM{t i:Nat}{x y:Operand}{s:ByteArray}{k:IntKind}{m:Int}{b:UInt8}(al:aX E x=some (.string s))(aZ:aX E y=some (.int k m))(hu:P.underlying t=some .string)(hm:m=(i:Int))(aR:s[i]?=some b):
    dw P B A N ao E S (.index t x y) (.int .u8 (b.toNat:Int)):=
  ⟨by simp,by simp,fun ac w bg pos a8 g d aq aH=>by
    subst hm
    simp [execOp,aq.aX al,aq.aX aZ,Instr.index,asIntOf,run_underlying hu,aR]⟩
theorem Sc{K:ar B}{xs:List Value}{t b k:Nat}{x:Operand}{v:Value}(al:aX E x=some (.pointer (some ⟨b,k,none⟩)))(dV:Out K S R)(a4:dI K ⟨b,0,none⟩ xs)(aL:hA P t=some (false,1))(cL:xs[k]?=some v):dw P B A N ao E S (.load t x) v:=
  Hj (bu:=⟨b,0,none⟩) (k:=k) (by rw [nq,Nat.zero_add];exact al) dV a4 aL cL
end Go.Sl
end
section
namespace Go.Sl
open Go
variable{cB:Bool}{P:Program}{B:Nat}{A:e0}{r:Option Nat}{N:Nat}{ao:List Nat}{E:Env}{S R kn:List (ar B)}{Q:fw B}{ops:Array Oper}{rest:List Oper}
variable{d:Nat}{op:Op}{bg:TypeId}{pos:String}{a8:Array Edge}{g:Option (Nat×Bool)}{v:Value}
theorem Out.gi{α:Type}{x:α}{S R:List α}:∀{L:List α},Out x S R→Out x (L++S) (L++R)
  |[],h=>h
  |y::L,h=> .there y (Out.gi (L:=L) h)
theorem Take.pre{α:Type}:∀(L S:List α),Take L (L++S) S
  |[],S=> .nil S
  |x::L,S=> .cons (.here x _) (Take.pre L S)
def an.lit{α:Type}(b:Nat)(l:List α)(h:l.length≤9223372036854775807):an α:=⟨some ⟨b,0,none⟩,l.length,l,(by intro h;cases h),h,Nat.le_refl _⟩
theorem an.vK{α:Type}{b:Nat}{l:List α}{h:l.length≤9223372036854775807}:(an.lit b l h).Own:=by intro bu e;cases e;exact⟨b,rfl⟩
theorem bC.JI{b n e aN:Nat}{aF:List Value}{w:World}(h:bC B A S w)(aq:Out (U b aF e) S R)(aE:aF.length=n*aN)(aP:n≤maxLen):bC B A (row (.slice (some ⟨b,0,none⟩) n n) e aN n aF::R) w:=by
  obtain⟨D,⟨dm,dY,bU,aJ,gM,aH⟩,ae,av,aV,bN,c0⟩:=h.take (.cons aq (.nil _))
  have HD:D b:=(bU b).2 (.inl ((gM.1 b).2 rfl))
  refine⟨D,⟨dm,dY,bU,aJ,⟨⟨aE,.inr ⟨b,n,aF.toArray,rfl,(ae b HD).1,gM.2,Nat.le_refl _,aP,by simpa using aE,?_⟩⟩,fun k=>?_⟩,aH⟩,ae,av,aV,bN,c0⟩
  · rw [←aE];simp
  · rw [gM.1 k];simp [Value.ownBlock];exact eq_comm
theorem FM{b e:Nat}{aF:List Value}{l:List Oper}(n aN:Nat)(aq:Out (U b aF e) S R)(aE:Nat.beq aF.length (n*aN)=true)(aP:Nat.ble n 9223372036854775807=true)(h:cg P B A r N ops l ao E (row (.slice (some ⟨b,0,none⟩) n n) e aN n aF::R) Q):cg P B A r N ops l ao E S Q:=
  fun a w ei aH=>h a w ei (aH.JI aq (Nat.eq_of_beq_eq_true aE) (by unfold maxLen;have:=Nat.le_of_ble_eq_true aP;omega))
theorem Nj{w:World}{t bg e c:Nat}{i:TypeInfo}{aN n:Nat}{v:Value}{xs:List Value}(aL:P.underlying t=some (.slice e))(af:P.info? e=some i)(jW:w.ownsRow B e aN v n xs):
    (Builtin.append_ #[t,t] bg #[v,.slice none 0 c]).run P w= .ok v w:=by
  rcases jW.2 with⟨rfl,rfl⟩|⟨g,cap,dR,rfl,_,_,HE,_⟩
  · simp [Builtin.append_,run_underlying aL,sizeOf,typeInfo,af,Builtin.lenOf,Builtin.firstCells]
  · simp [Builtin.append_,run_underlying aL,sizeOf,typeInfo,af,Builtin.lenOf,Builtin.firstCells,HE,storeCells]
theorem Wm{α:Type}{a2:α→List Value}{t e aN jf n:Nat}{z xs:List Value}{x y:Operand}{K:ar B}{b:an α}(hw:Want ops N E g)(al:aX E x=some v)(aZ:aX E y=some (.slice b.bn b.l.length b.c))(aL:jA P t=some (e,aN,jf,z))
    (gM:Out (row v e aN n xs) S R) (hI:Out K S kn) (a4:dI K b.bu (b.l.flatMap a2)) (he:∀a,(a2 a).length=aN) (ab:∀a,(a2 a).all (·.oneCell')=true) (qs:n+b.l.length≤maxLen) (n7:(n+b.l.length)*jf≤140737488355328) (aJ:Nat.blt d N=true)
    (h:∀fU,cg P B A r N ops rest ao ((d,fU)::E) (row fU e aN (n+b.l.length) (xs++b.l.flatMap a2)::R) Q):
    cg P B A r N ops (⟨some d,.call {callee:= .builtin .append,args:= #[x,y],argTypes:= #[t,t]},bg,pos,a8,g⟩::rest) ao E S Q:=by
  cases aR:b.bn with
  |some bu=>
    have tZ:b.bu=bu:=by simp [an.bu,aR]
    rw [aR]at aZ;rw [tZ]at a4
    exact IX hw al aZ aL gM hI a4 (rM he _) (fun u hu=>by
      obtain⟨a,_,a5⟩:=List.mem_flatMap.1 hu
      exact List.all_eq_true.1 (ab a) u a5) qs n7 aJ (fun fU _=>h fU)
  |none=>
    have aE:=b.nil aR
    rw [aR,aE]at aZ
    have dj:∀w,bC B A S w→bC B A (row v e aN (n+b.l.length) (xs++b.l.flatMap a2)::R) w:=fun w aH=>by
      rw [aE];simpa using aH.take (.cons gM (.nil _))
    exact tD (α:=Unit) (fun _=>v) (fun _=>row v e aN (n+b.l.length) (xs++b.l.flatMap a2)::R) (fun _=>True) hw (by simp) aJ (fun a w aq aH=>by
      obtain⟨i,cd,hu,af,_⟩:=xj aL
      have kh:=dj w aH
      obtain⟨D,bO⟩:=kh.mem (.here _ _)
      refine⟨(),w,?_,kh,trivial⟩
      have hG:=Nj (P:=P) (bg:=bg) (c:=b.c) hu af bO.1
      simp [execOp,resolve,invoke,builtin,aq.aX al,aq.aX aZ,hG]) (fun _ _=>h v)
theorem xr{α:Type}{a2:α→List Value}{c:an α}{y:α}{t e aN jf k:Nat}{z:List Value}{x h9:Operand}{K:ar B}{bu:Addr}(hw:Want ops N E g)(al:aX E x=some (.slice c.bn c.l.length c.c))(aZ:aX E h9=some (.slice (some bu) 1 k))(aL:jA P t=some (e,aN,jf,z))
    (gM:Out (row (.slice c.bn c.l.length c.c) e aN c.l.length (c.l.flatMap a2)) S R) (hI:Out K S kn) (a4:dI K bu (a2 y)) (aE:Nat.beq (a2 y).length aN=true) (ab:(a2 y).all (·.oneCell')=true) (qs:c.l.length+1≤9223372036854775807-1000) (n7:(c.l.length+1)*jf≤140737488355328) (aJ:Nat.blt d N=true)
    (h:∀bW:an α,bW.l=c.l++[y]→bW.Own→cg P B A r N ops rest ao ((d,.slice bW.bn bW.l.length bW.c)::E) (row (.slice bW.bn bW.l.length bW.c) e aN bW.l.length (bW.l.flatMap a2)::R) Q):
    cg P B A r N ops (⟨some d,.call {callee:= .builtin .append,args:= #[x,h9],argTypes:= #[t,t]},bg,pos,a8,g⟩::rest) ao E S Q:=by
  refine IX hw al aZ aL gM hI a4 (by rw [Nat.eq_of_beq_eq_true aE,Nat.one_mul]) (fun u hu=>List.all_eq_true.1 ab u hu) (by unfold maxLen;omega) n7 aJ (fun fU _=>?_)
  refine Ji (fun w aH=>Gd (l:=c.l++[y]) (a2:=a2) aH (.here _ _) (by simp)) ?_
  rintro⟨bW,rl,jW,rfl⟩
  have:=h bW rl jW
  rw [show c.l.length+1=bW.l.length from by rw [rl];simp,show c.l.flatMap a2++a2 y=bW.l.flatMap a2 from by rw [OI,rl]]
  exact this
theorem j7{α:Type}{a2:α→List Value}{c b:an α}{t e aN jf:Nat}{z:List Value}{x h9:Operand}{K:ar B}(hw:Want ops N E g)(al:aX E x=some (.slice c.bn c.l.length c.c))(aZ:aX E h9=some (.slice b.bn b.l.length b.c))(aL:jA P t=some (e,aN,jf,z))
    (gM:Out (row (.slice c.bn c.l.length c.c) e aN c.l.length (c.l.flatMap a2)) S R) (hI:Out K S kn) (a4:dI K b.bu (b.l.flatMap a2)) (he:∀a,(a2 a).length=aN) (ab:∀a,(a2 a).all (·.oneCell')=true) (qs:c.l.length+b.l.length≤9223372036854775807-1000) (n7:(c.l.length+b.l.length)*jf≤140737488355328) (aJ:Nat.blt d N=true)
    (h:∀bW:an α,bW.l=c.l++b.l→bW.Own→cg P B A r N ops rest ao ((d,.slice bW.bn bW.l.length bW.c)::E) (row (.slice bW.bn bW.l.length bW.c) e aN bW.l.length (bW.l.flatMap a2)::R) Q):
    cg P B A r N ops (⟨some d,.call {callee:= .builtin .append,args:= #[x,h9],argTypes:= #[t,t]},bg,pos,a8,g⟩::rest) ao E S Q:=by
  refine Wm hw al aZ aL gM hI a4 he ab (by unfold maxLen;omega) n7 aJ (fun fU=>?_)
  refine Ji (fun w aH=>Gd (l:=c.l++b.l) (a2:=a2) aH (.here _ _) (by simp)) ?_
  rintro⟨bW,rl,jW,rfl⟩
  have:=h bW rl jW
  rw [show c.l.length+b.l.length=bW.l.length from by rw [rl];simp,show c.l.flatMap a2++b.l.flatMap a2=bW.l.flatMap a2 from by rw [rl,List.flatMap_append]]
  exact this
theorem Cs{n:Nat}{listed:Array Bool}{i:Nat}{K:List (ar B)}{f:FuncId}{xs:List Operand}{args:List Value}{dC:Array TypeId}{pre F Z:List (ar B)}{post:Value→List (ar B)→Prop}
    (af:ops[i]?=some ⟨some d,.call {callee:= .value (.func f),args:=xs.toArray,argTypes:=dC},bg,pos,a8,g⟩) (hw:Want ops N E g) (he:Go.Proofs.Enters P f) (a5:g9 E xs=some args) (jm:hh K S Z) (bs:di P B f args pre post) (aL:Take pre Z F) (aJ:Nat.blt d N=true)
    (h:∀v bc,post v bc→∃bh nj R,hh K bh nj∧Take nj (bc++F) R∧eY cB P B A r N ops K n (listed.setIfInBounds i true) ao ((d,v)::E) bh Q):jO cB P B A r N ops K n listed i ao E S Q:=
  PW af hw he a5 bs (by rw [jm.eq];exact aL) aJ fun v bc aC=>by
    obtain⟨bh,nj,R,ab,ae,av⟩:=h v bc aC
    exact⟨bh,⟨R,by rw [ab.eq];exact ae⟩,av⟩
theorem adt{α:Type}{a2:α→List Value}{aN:Nat}(he:∀a,(a2 a).length=aN){K:ar B}{bu:Addr}{l:List α}{t i k n:Nat}{a:α}{x:Operand}{bK:List Value}(al:aX E x=some (.pointer (some (bu.add (i*aN+k)))))(dV:Out K S R)(a4:dI K bu (l.flatMap a2))(aL:hA P t=some (true,n))
    (af:l[i]?=some a) (aP:Nat.ble (k+n) aN=true) (cL:((a2 a).drop k).take n=bK):dw P B A N ao E S (.load t x) (.agg bK.toArray):=
  KT al dV a4 aL (Nat.ble_eq_true_of_le (by
    have:=(List.getElem?_eq_some_iff.1 af).1
    have ae:=Nat.le_of_ble_eq_true aP
    have av:(i+1)*aN≤l.length*aN:=Nat.mul_le_mul_right _ this
    rw [Nat.succ_mul]at av
    rw [rM he];omega)) (by
    rw [←cL, ←IQ he l i a af, ←List.drop_drop,List.drop_take,List.take_take]
    have ae:=Nat.le_of_ble_eq_true aP
    rw [Nat.min_eq_left (by omega)])
theorem qV{n i:Nat}{listed:Array Bool}{K:List (ar B)}{t e aN m jf:Nat}{z aF:List Value}{parts:List (Nat×Operand)}{bX:List (Nat×Value)}(af:ops[i]?=some ⟨some d,.buildSlice t m parts.toArray,bg,pos,a8,g⟩)(hw:Want ops N E g)(aC:r7 E parts=some bX)(aL:jA P t=some (e,aN,jf,z))
    (l3:m*aN≤16777216) (qe:0<m) (vb:aF.length=m*aN) (bs:rV ((List.range m).map fun i=>(i*aN,aN)) ((List.range (m*aN)).map (z.toArray[· %z.length]!)) bX=some aF) (ey:bX.all (fun p=>Nat.blt p.1 m)=true) (aJ:Nat.blt d N=true)
    (h:∀b,eY cB P B A r N ops K n (listed.setIfInBounds i true) ao ((d,.slice (some ⟨b,0,none⟩) m m)::E) (U b aF e::S) Q):jO cB P B A r N ops K n listed i ao E S Q:=by
  refine AN (α:=Nat) (fun b=> .slice (some ⟨b,0,none⟩) m m) (fun b=>U b aF e::S) (fun _=>True) af hw (by simp) aJ (fun a w aq aH=>?_) (fun b _=>h b)
  obtain⟨inf,cd,hu,n1,aS,fB,tU,Bl,ly,wF⟩:=xj aL
  have cb:=aq.r7 aC
  have Lk:z.length=cd.cells.size:=by rw [←wF];simp
  have Ea:z.toArray=cd.cells:=by rw [←wF]
  refine⟨w.heap.size,w.alloc (.cells aF.toArray e),?_,?_,trivial⟩
  · have gr:¬(16777216<m*aN):=by omega
    have b5:m*aN≠0:=by have:=Nat.mul_pos qe ly;omega
    rw [Ea,Lk]at bs
    simp only [execOp,Instr.buildSlice,Sem.run_bind,run_underlying hu,Result.andThen_ok,sizeOf,typeInfo,run_program,n1,Sem.run_pure,fB]
    simp only [show(2:Nat)^24=16777216 from rfl,gt_iff_lt,gr,if_false,Sem.run_bind,Sem.run_pure,Result.andThen_ok,b5,zeroValue,typeInfo,run_program,n1,aS]
    have cq:(parts.toArray.map fun x=>match x with|(i,x)=>(i,a.eval x)).toList=bX:=by rw [←cb];simp
    have fP:Instr.fill (fun i=>some (i*aN,aN)) ((Array.range (m*aN)).map fun x=>cd.cells[x%cd.cells.size]!) bX=some aF.toArray:=by
      have:=FG (place:=fun i=>some (i*aN,aN)) (fun p aC=>by have:=List.all_eq_true.1 ey p aC;simp at this;simp [this]) bs
      rw [←this]
      congr 1
      apply Array.ext'
      simp [Array.toList_range]
    simp only [cq,fP,newRow,Sem.run_bind,run_newObj_alloc,Result.andThen_ok,Sem.run_pure]
  · have ab:bC B A ([U w.heap.size aF e]++(K++S)) (w.alloc (.cells aF.toArray e)):=by simpa using aH.new (.cells aF.toArray e)
    simpa using ab.mid
def nB(P:Program)(N:Nat)(ao:List Nat)(E:Env)(op:Op)(v:Value):Prop:=
  (∀c,op≠ .defer c)∧(∀aF b,op≠ .select aF b)∧∀a w bg pos a8 g d,dO N ao E a→(execOp a.eval ⟨d,op,bg,pos,a8,g⟩).run P w= .ok (.value v) w
theorem dD{op:Op}{v:Value}(aC:ty E op=some v):nB P N ao E op v:=
  ⟨by rintro c rfl;simp [ty]at aC,by rintro aF b rfl;simp [ty]at aC,fun a w bg pos a8 g d aq=>run_pure aC aq⟩
theorem Nt{Inv:World→Prop}{Q:Exit→Act→World→Prop}{i:Nat}{kB:Oper}{v:Value}(af:ops[i]?=some kB)(wI:kB.dst.isSome=true)(jJ:r9 ops=true)(kq:∀c a w,¬Q (.panic c) a w):
    ∀(pz:Nat) (listed:Array Bool) (a:Act) (w:World),
      (∀j kW,ops[j]?=some kW→j≠i→listed.getD j true=false→(∀e∈kW.after,Region.binds .any e=true→e.on≠i)→kB.apart ops kW=true)→
      i∈Region.ready .any ops listed→sw (fun _=>True) P ops kB v a→
      oE cB Inv r P ops Q pz (listed.setIfInBounds i true) (a.put kB.dst v) w→oE cB Inv r P ops Q (pz+1) listed a w:=by
  intro pz
  induction pz with
  |zero=>
    intro listed a w y3 a4 aZ H
    refine⟨fun cN=>H.inv (by rw [Bool.or_eq_true]at cN;rcases cN with h|h;simp [h];rw [Cr h af wI];simp),fun h=>(by rw [h]at a4;cases a4),fun j aI=>?_⟩
    by_cases oU:j=i
    · subst oU;exact aZ.op (xg jJ af).1 af trivial H
    · have:=ready_mono aI oU
      rw [H.2.1]at this
      cases this
  |succ pz ih=>
    intro listed a w y3 a4 aZ H
    refine⟨fun cN=>H.inv (by rw [Bool.or_eq_true]at cN;rcases cN with h|h;simp [h];rw [Cr h af wI];simp),fun h=>(by rw [h]at a4;cases a4),fun j aI=>?_⟩
    by_cases oU:j=i
    · subst oU;exact aZ.op (xg jJ af).1 af trivial H
    · have ab:=H.2.2 j (ready_mono aI oU)
      obtain⟨DJ,kW,vc,lu⟩:=mem_ready.1 aI
      have Lm:∀e∈kW.after,Region.binds .any e=true→e.on≠i:=fun e he aR wJ=>by
        have ab:=lu e he aR
        have b5:=(mem_ready.1 a4).1
        rw [wJ]at ab
        rcases Nat.lt_or_ge i listed.size with eE|eE
        · simp [eE]at b5 ab;rw [b5]at ab;cases ab
        · simp [Array.getElem?_eq_none eE]at ab
      have ae:=Ns vc (y3 j kW vc oU DJ Lm) (xg jJ af) (xg jJ vc) kq aZ ab
      have Kp:∀k ok,ops[k]?=some ok→k≠i→(listed.setIfInBounds j true).getD k true=false→
          (∀e∈ok.after,Region.binds .any e=true→e.on≠i)→kB.apart ops ok=true:=fun k ok ai Bp Ed cN=>by
        refine y3 k ok ai Bp ?_ cN
        by_cases rj:j=k
        · subst rj;exact DJ
        · rw [getD_set_ne true rj]at Ed;exact Ed
      refine wpOpIn_mono (fun jl ca av=>ih (listed.setIfInBounds j true) jl ca Kp (ready_mono a4 (Ne.symm oU)) av.1 ?_) ae
      rw [Array.setIfInBounds_comm _ _ oU]
      exact av.2
theorem PX{n:Nat}{listed:Array Bool}{K:List (ar B)}{v:Value}(i:Nat)(af:ops[i]?=some ⟨some d,op,bg,pos,a8,g⟩)(jJ:r9 ops=true)
    (bs:Region.free .any ops listed i=true) (a4:(Region.ready .any ops listed).contains i=true) (kq:∀c ao E S,¬Q (.panic c) ao E S) (hw:Want ops N E g) (aC:nB P N ao E op v) (aJ:Nat.blt d N=true)
    (h:eY cB P B A r N ops K n (listed.setIfInBounds i true) ao ((d,v)::E) S Q):eY cB P B A r N ops K (n+1) listed ao E S Q:=by
  intro a w aq aH
  refine Nt af rfl jJ (fun c a w ⟨ao,E,S,_,_,q⟩=>kq c ao E S q) n listed a w (Region.free_spec af bs) (by simpa using a4) (.inl ⟨Want.wanted (o:=⟨some d,op,bg,pos,a8,g⟩) hw aq,fun w _=>aC.2.2 a w bg pos a8 g (some d) aq⟩) ?_
  exact h _ w (aq.put (by simpa using aJ)) aH
theorem XN{n:Nat}{listed:Array Bool}{K:List (ar B)}{j:Nat}{b h3:Bool}(i:Nat)(t:Nat)(af:ops[i]?=some ⟨some d,op,bg,pos,a8,some (j,b)⟩)(jJ:r9 ops=true)
    (bs:Region.free .any ops listed i=true) (a4:(Region.ready .any ops listed).contains i=true) (kq:∀c ao E S,¬Q (.panic c) ao E S) (ab:(ops[j]?).bind (·.dst)=some t) (ae:Nat.blt t N=true) (av:E.get t=some (.bool h3)) (aR:h3=!b) (aJ:Nat.blt d N=true)
    (h:eY cB P B A r N ops K n (listed.setIfInBounds i true) ao ((d,undef)::E) S Q):eY cB P B A r N ops K (n+1) listed ao E S Q:=by
  intro a w aq aH
  have aZ:=IN (ops:=ops) ab (by simpa using ae) av aq
  refine Nt af rfl jJ (fun c a w ⟨ao,E,S,_,_,q⟩=>kq c ao E S q) n listed a w (Region.free_spec af bs) (by simpa using a4) (.inr ⟨by simp only [Region.wanted,aZ];subst aR;cases b<;>rfl,rfl⟩) ?_
  exact h _ w (aq.put (by simpa using aJ)) aH
def hK(K:ar B):Prop:=∀D w,K.holds D w→∀k,¬D k
theorem Y6(W:World):hK (D8 (B:=B) W):=fun D w h=>h.1
theorem ee.dup{K:ar B}{D:Nat→Prop}{w:World}(h:ee S D w)(aq:Out K S R)(aJ:hK K):ee (K::S) D w:=by
  obtain⟨dm,dY,bU,gT,bO,rE⟩:=aq.mP h
  refine⟨dm,D,fun k=>⟨.inr,fun h=>h.elim (fun h=>(aJ _ _ bO k h).elim) id⟩,fun k ab _=>aJ _ _ bO k ab,bO,h⟩
theorem bC.dup{K:ar B}{w:World}(h:bC B A S w)(aq:Out K S R)(aJ:hK K):bC B A (K::S) w:=by
  obtain⟨D,ab,ae⟩:=h
  exact⟨D,ab.dup aq aJ,ae⟩
theorem AO{K:ar B}{c:Code}(aJ:hK K)(aq:Out K S R)(h:X P B A r N c ao E (K::S) Q):X P B A r N c ao E S Q:=fun a w ei aH=>h a w ei (aH.dup aq aJ)
def ze(P:Program)(t:Nat):Option Nat:=match P.underlying t with
  |some (.array n e)=>match P.info? e with
    |some i=>if i.size=1∧(p4 P e=false)∧(P.underlying e).isSome then some n else none
    |none=>none
  |_=>none
theorem xl{t n j:Nat}{x y:Operand}{aF:List Value}{k:IntKind}{m:Int}{v:Value}(al:aX E x=some (.agg aF.toArray))(aZ:aX E y=some (.int k m))(aL:ze P t=some n)(hm:m=(j:Int))(aI:j<n)(cL:aF[j]?=some v):dw P B A N ao E S (.index t x y) v:=
  ⟨by simp,by simp,fun a w bg pos a8 g d aq aH=>by
    unfold ze at aL
    split at aL
    · rename_i aiG e hu
      split at aL
      · rename_i i af
        split at aL
        · rename_i a7
          simp at aL;subst aL hm
          obtain⟨tV,Ee⟩:=Option.isSome_iff_exists.1 a7.2.2
          have ab:aF[j]?=some v:=cL
          simp [execOp,aq.aX al,aq.aX aZ,Instr.index,asIntOf,run_underlying hu,aI,sizeOf,typeInfo,af,a7.1,part,FL Ee,a7.2.1,ab]
        · cases aL
      · cases aL
    · cases aL⟩
theorem Y7{t n aN j k hx:Nat}{bu:Addr}{x i:Operand}{cT:IntKind}{m:Int}(al:aX E x=some (.pointer (some (bu.add k))))(af:aX E i=some (.int cT m))(aL:p9 P t=some (n,aN))
    (hm:m=(j:Int)) (aI:j<n) (pF:k+j*aN=hx):dw P B A N ao E S (.indexAddr t x i) (.pointer (some (bu.add hx))):=
  ⟨by simp,by simp,fun a w bg pos a8 g d aq aH=>by
    obtain⟨e,inf,hu,n1,fB,aP⟩:=FE aL
    subst hm fB pF
    simp [execOp,aq.aX al,aq.aX af,Instr.indexAt,asIntOf,run_underlying hu,Instr.sureAddr,sizeOf,typeInfo,n1,Nat.not_le.2 aI,II]⟩
def vP(P:Program)(t:Nat):Bool:=match P.underlying t with
  |some (.pointer _)=>true
  |_=>false
theorem V3{t:Nat}{p:Option Addr}(aL:vP P t=true)(w:World):∀d,(Op.equalIn (d+1) t (.pointer p) (.pointer none)).run P w= .ok p.isNone w:=by
  intro d
  unfold vP at aL
  unfold Op.equalIn
  split at aL
  · rename_i hu
    cases p<;>simp [run_underlying hu]
  · cases aL
theorem Ct{t gd:Nat}{x y:Operand}{p:Option Addr}{b:Bool}{e1:BinOp}(al:aX E x=some (.pointer p))(aZ:aX E y=some (.pointer none))(aL:vP P t=true)(aR:(match e1 with| .eql=>p.isNone=b| .neq=>(!p.isNone)=b|_=>False)):dw P B A N ao E S (.binOp e1 t x y gd) (.bool b):=
  ⟨by simp,by simp,fun a w bg pos a8 g d aq aH=>by
    have e:=V3 (P:=P) (p:=p) aL w 9999
    cases e1<;>simp only at aR<;>subst aR
    · simp [execOp,aq.aX al,aq.aX aZ,eqGuard,binOp,Op.equal,Op.maxDepth,e]
    · simp [execOp,aq.aX al,aq.aX aZ,eqGuard,binOp,Op.equal,Op.maxDepth,e]⟩
theorem tu{fn:Func}{t u x:Nat}{v1 v2 rF:Value}{T:World→Prop}(h:fn.results= #[.tmp t,.tmp u,.tmp x])(ab:E.get t=some v1)(ae:E.get u=some v2)(av:E.get x=some rF):
    ∀a w,dO N ao E a→T w→(results fn a.tmps).run P w= .ok (.tuple #[v1,v2,rF]) w:=by
  intro a w aq _
  have cb:a.tmps[t]?.getD undef=v1:=by have:=aq.get t _ ab;simpa [Array.getD_eq_getD_getElem?]using this
  have cq:a.tmps[u]?.getD undef=v2:=by have:=aq.get u _ ae;simpa [Array.getD_eq_getD_getElem?]using this
  have fP:a.tmps[x]?.getD undef=rF:=by have:=aq.get x _ av;simpa [Array.getD_eq_getD_getElem?]using this
  simp [results,h,cb,cq,fP]
theorem Fx{fn:Func}{p t b n q bR:Nat}{aF:List Value}{dv:TypeId}{aU:List (ar B)}{v v2:Value}(h:fn.results= #[.cell p t,.tmp q,.tmp bR])(aC:E.get p=some (.pointer (some ⟨b,0,none⟩)))(aq:Out (U b aF dv) S aU)(aL:hA P t=some (true,n))(aP:aF.length=n)(bF:E.get q=some v)(Ef:E.get bR=some v2):
    ∀a w,dO N ao E a→bC B A S w→(results fn a.tmps).run P w= .ok (.tuple #[.agg aF.toArray,v,v2]) w:=by
  intro a w ei aH
  obtain⟨D,bO⟩:=aH.mem aq
  have aE:=Ah (P:=P) (w:=w) (p:=⟨b,0,none⟩) (bK:=aF) aL aP (fun k ai=>lQ D w bO k (by omega))
  simp only [Instr.loadAt,Instr.sureAddr,Sem.run_bind,Sem.run_pure,Result.andThen_ok]at aE
  have n8:a.tmps[p]?.getD undef= .pointer (some ⟨b,0,none⟩):=by have:=ei.get p _ aC;simpa [Array.getD_eq_getD_getElem?]using this
  have rk:a.tmps[q]?.getD undef=v:=by have:=ei.get q _ bF;simpa [Array.getD_eq_getD_getElem?]using this
  have afA:a.tmps[bR]?.getD undef=v2:=by have:=ei.get bR _ Ef;simpa [Array.getD_eq_getD_getElem?]using this
  simp [results,h,n8,rk,afA,asAddr,aE]
theorem AB{fn:Func}{p q t gd b h3:Nat}{v fU:Value}{dv zC:TypeId}{aU bh:List (ar B)}(h:fn.results= #[.cell p t,.cell q gd])(aC:E.get p=some (.pointer (some ⟨b,0,none⟩)))(bF:E.get q=some (.pointer (some ⟨h3,0,none⟩)))(aq:Out (U b [v] dv) S aU)(dV:Out (U h3 [fU] zC) S bh)(aL:hA P t=some (false,1))(wG:hA P gd=some (false,1)):
    ∀a w,dO N ao E a→bC B A S w→(results fn a.tmps).run P w= .ok (.tuple #[v,fU]) w:=by
  intro a w ei aH
  obtain⟨D,bO⟩:=aH.mem aq
  obtain⟨su,zD⟩:=aH.mem dV
  have aE:=ux (P:=P) (w:=w) (p:=⟨b,0,none⟩) aL (v:=v) (lQ D w bO 0 (by simp))
  have oV:=ux (P:=P) (w:=w) (p:=⟨h3,0,none⟩) wG (v:=fU) (lQ su w zD 0 (by simp))
  simp only [Instr.loadAt,Instr.sureAddr,Sem.run_bind,Sem.run_pure,Result.andThen_ok]at aE oV
  have n8:a.tmps[p]?.getD undef= .pointer (some ⟨b,0,none⟩):=by have:=ei.get p _ aC;simpa [Array.getD_eq_getD_getElem?]using this
  have rk:a.tmps[q]?.getD undef= .pointer (some ⟨h3,0,none⟩):=by have:=ei.get q _ bF;simpa [Array.getD_eq_getD_getElem?]using this
  simp [results,h,n8,rk,asAddr,aE,oV]
def vv(E:Env)(afB k:Nat):Option Operand→Prop
  |none=>k=afB
  |some x=>∃cT,aX E x=some (.int cT (k:Int))
theorem PY{t e aN n c l h m:Nat}{bn:Option Addr}{x:Operand}{ec af vw:Option Operand}(al:aX E x=some (.slice bn n c))(aL:iZ P t=some (e,aN))(vd:vv E 0 l ec)(zE:vv E n h af)(zF:vv E c m vw)(hm:af=none→vw=none)
    (ab:l≤h) (ae:h≤m) (av:m≤c):dw P B A N ao E S (.slice t x ec af vw) (.slice (if m=l then bn else bn.map (·.add (l*aN))) (h-l) (m-l)):=
  ⟨by simp,by simp,fun a w bg pos a8 g d aq aH=>by
    obtain⟨inf,hu,n1,fB⟩:=Ce aL
    subst fB
    have key:(Instr.sliceBounds true n c (ec.map a.eval) (af.map a.eval) (vw.map a.eval)).run P w= .ok (l,h,m) w:=by
      cases vw with
      |none=>
        have HL:m=c:=zF
        subst HL
        cases af with
        |none=>
          have:h=n:=zE
          subst this
          cases ec with
          |none=>have:l=0:=vd;subst this;simp [Instr.sliceBounds]
          |some o=>obtain⟨cT,he⟩:=vd;simp [Instr.sliceBounds,aq.aX he,run_sliceBound (P:=P) (w:=w) cT l h _ (by omega) (by omega)]
        |some gC=>
          obtain⟨Bq,tY⟩:=zE
          cases ec with
          |none=>have:l=0:=vd;subst this;simp [Instr.sliceBounds,aq.aX tY,run_sliceBound (P:=P) (w:=w) Bq h m _ (by omega) (by omega)]
          |some o=>obtain⟨cT,he⟩:=vd;simp [Instr.sliceBounds,aq.aX he,aq.aX tY,run_sliceBound (P:=P) (w:=w) cT l h _ (by omega) (by omega),run_sliceBound (P:=P) (w:=w) Bq h m _ (by omega) (by omega)]
      |some ajC=>
        obtain⟨S5,S6⟩:=zF
        cases af with
        |none=>cases hm rfl
        |some gC=>
          obtain⟨Bq,tY⟩:=zE
          cases ec with
          |none=>have:l=0:=vd;subst this;simp [Instr.sliceBounds,aq.aX tY,aq.aX S6,run_sliceBound (P:=P) (w:=w) Bq h m _ (by omega) (by omega),run_sliceBound (P:=P) (w:=w) S5 m c _ (by omega) (by omega)]
          |some o=>obtain⟨cT,he⟩:=vd;simp [Instr.sliceBounds,aq.aX he,aq.aX tY,aq.aX S6,run_sliceBound (P:=P) (w:=w) cT l h _ (by omega) (by omega),run_sliceBound (P:=P) (w:=w) Bq h m _ (by omega) (by omega),run_sliceBound (P:=P) (w:=w) S5 m c _ (by omega) (by omega)]
    simp [execOp,aq.aX al,Instr.sliceAt,Instr.slice,run_underlying hu,key,sizeOf,typeInfo,n1]⟩
def an.cut{α:Type}(a:an α)(aN l h m:Nat)(ab:l≤h)(ae:h≤a.l.length)(av:h≤m):an α where
  bn:=if m=l then a.bn else a.bn.map (·.add (l*aN))
  c:=m-l
  l:=(a.l.drop l).take (h-l)
  nil:=fun e=>by
    have:a.bn=none:=by
      split at e
      · exact e
      · simpa using e
    rw [a.nil this];simp
  small:=by have:=a.small;simp;omega
  cap:=by simp;omega
theorem xm{α:Type}{a:an α}{t e aN l h m:Nat}{x:Operand}{ec af vw:Option Operand}(al:aX E x=some (.slice a.bn a.l.length a.c))(aL:iZ P t=some (e,aN))(vd:vv E 0 l ec)(zE:vv E a.l.length h af)(zF:vv E a.c m vw)(hm:af=none→vw=none)
    (ab:l≤h) (ae:h≤a.l.length) (av:h≤m) (aV:m≤a.c):dw P B A N ao E S (.slice t x ec af vw) (a.cut aN l h m ab ae av).v:=by
  have:=PY (P:=P) (A:=A) (N:=N) (ao:=ao) (S:=S) al aL vd zE zF hm ab av aV
  have e:(a.cut aN l h m ab ae av).l.length=h-l:=by simp [an.cut];omega
  unfold an.v
  rw [e];exact this
theorem C7{α:Type}{a2:α→List Value}{a:an α}{K:ar B}{aN l h m:Nat}{ab:l≤h}{ae:h≤a.l.length}{av:h≤m}(he:∀a,(a2 a).length=aN)(a4:dI K a.bu (a.l.flatMap a2)):dI K (a.cut aN l h m ab ae av).bu ((a.cut aN l h m ab ae av).l.flatMap a2):=by
  intro D w bO k ai
  rw [rM he]at ai
  have hlen:(a.cut aN l h m ab ae av).l.length=h-l:=by simp [an.cut];omega
  rw [hlen]at ai
  have ey:l<h:=by
    rcases Nat.lt_or_ge l h with eE|eE
    · exact eE
    · rw [Nat.sub_eq_zero_of_le eE]at ai;simp at ai
  have mh:m≠l:=by omega
  have gr:a.bn≠none:=fun e=>by have:=a.nil e;rw [this]at ae;simp at ae;omega
  obtain⟨bu,tZ⟩:=Option.ne_none_iff_exists'.1 gr
  have cb:(a.cut aN l h m ab ae av).bu=a.bu.add (l*aN):=by simp [an.cut,an.bu,mh,tZ]
  have aH:(h-l)*aN+l*aN=h*aN:=by rw [←Nat.add_mul];congr 1;omega
  have hJ:h*aN≤a.l.length*aN:=Nat.mul_le_mul_right _ ae
  have:=a4 D w bO (l*aN+k) (by rw [rM he];omega)
  rw [cb,II,this]
  have key:(a.l.flatMap a2)=(a.l.take l).flatMap a2++((a.l.drop l).take (h-l)).flatMap a2++(a.l.drop h).flatMap a2:=by
    rw [←List.flatMap_append, ←List.flatMap_append]
    congr 1
    conv=>lhs;rw [←List.take_append_drop l a.l, ←List.take_append_drop (h-l) (a.l.drop l),List.drop_drop]
    rw [show l+(h-l)=h by omega,List.append_assoc]
  have aV:((a.l.take l).flatMap a2).length=l*aN:=by rw [rM he,List.length_take,Nat.min_eq_left (by omega)]
  have bN:(((a.l.drop l).take (h-l)).flatMap a2).length=(h-l)*aN:=by rw [rM he,List.length_take,List.length_drop,Nat.min_eq_left (by omega)]
  rw [key,List.append_assoc,List.getElem?_append_right (by omega),aV,Nat.add_sub_cancel_left,List.getElem?_append_left (by omega)]
  rfl
end Go.Sl
end
section
namespace Go.Sl
open Go
variable{cB:Bool}{P:Program}{B:Nat}{A:e0}{r:Option Nat}{N:Nat}{ao:List Nat}{E fK:Env}{S R L F:List (ar B)}{Q ik:fw B}{ops:Array Oper}{rest:List Oper}
variable{d:Nat}{op:Op}{bg:TypeId}{pos:String}{a8:Array Edge}{g:Option (Nat×Bool)}{v:Value}{w ca:World}
abbrev str(l:List UInt8):Value:= .string ⟨l.toArray⟩
abbrev m8(b:UInt8):List Value:=[.int .u8 (b.toNat:Int)]
theorem WM(a b:List UInt8):(⟨a.toArray⟩:ByteArray)++⟨b.toArray⟩=⟨(a++b).toArray⟩:=by
  apply ByteArray.ext;rw [ByteArray.data_append];simp
theorem Ny(aW:ByteArray):∀(n i:Nat) (r:List UInt8),aW.size-i=n→ByteArray.toList.loop aW i r=r.reverse++aW.data.toList.drop i
  |0,i,r,h=>by
    rw [ByteArray.toList.loop,if_neg (by omega),List.drop_eq_nil_of_le (by have:aW.size=aW.data.size:=rfl;simp;omega),List.append_nil]
  |n+1,i,r,h=>by
    have aH:aW.size=aW.data.size:=rfl
    have af:i<aW.data.toList.length:=by simp;omega
    rw [ByteArray.toList.loop,if_pos (by omega),Ny aW n (i+1) _ (by omega),List.drop_eq_getElem_cons af,List.reverse_cons,List.append_assoc]
    have HK:i<aW.data.size:=by omega
    have e:aW.get! i=aW.data.toList[i]:=by show aW.data[i]! =_;rw [getElem!_pos aW.data i HK];simp
    rw [e];simp
theorem Nz(l:List UInt8):ByteArray.toList ⟨l.toArray⟩=l:=by
  rw [ByteArray.toList,Ny _ _ 0 [] rfl];simp
theorem gw{x y:Operand}{t gd:Nat}{a b:List UInt8}(al:aX E x=some (str a))(aZ:aX E y=some (str b))(h:a.length+b.length≤9223372036854775807):dw P B A N ao E S (.binOp .add t x y gd) (str (a++b)):=
  ⟨by simp,by simp,fun ac w bg pos a8 g d aq aH=>by
    have ab:¬(((⟨a.toArray⟩:ByteArray).size+(⟨b.toArray⟩:ByteArray).size:Nat):Int)>IntKind.i64.max:=by
      show¬(((a.toArray.size+b.toArray.size:Nat):Int)>9223372036854775807)
      simp;omega
    simp only [execOp,aq.aX al,aq.aX aZ]
    have ae:((⟨a.toArray⟩:ByteArray).size:Int)=a.length:=by show((a.toArray.size:Nat):Int)=_;simp
    have av:((⟨b.toArray⟩:ByteArray).size:Int)=b.length:=by show((b.toArray.size:Nat):Int)=_;simp
    simp [eqGuard,binOp,Op.stringOp,WM,ae,av]
    omega⟩
theorem k6{x y:Operand}{t gd:Nat}{a b:List UInt8}{q:Bool}{e1:BinOp}(al:aX E x=some (str a))(aZ:aX E y=some (str b))(bF:(match e1 with| .eql=>(a==b)=q| .neq=>(!(a==b))=q|_=>False)):dw P B A N ao E S (.binOp e1 t x y gd) (.bool q):=
  ⟨by simp,by simp,fun ac w bg pos a8 g d aq aH=>by
    cases e1<;>simp only at bF<;>subst bF
    · simp [execOp,aq.aX al,aq.aX aZ,eqGuard,binOp,Op.stringOp,Nz]
    · simp [execOp,aq.aX al,aq.aX aZ,eqGuard,binOp,Op.stringOp,Nz]⟩
def Lo(P:Program)(s t:Nat):Bool:=match P.underlying s,P.underlying t with
  |some (.slice e),some .string=>(match P.underlying e with|some (.int .u8)=>true|_=>false)
  |_,_=>false
theorem NX:∀l:List UInt8,l.flatMap m8=l.map fun b=>Value.int .u8 (b.toNat:Int)
  |[]=>rfl
  |b::l=>by rw [List.flatMap_cons,NX l];rfl
theorem GF{x:Operand}{s t:Nat}{a:an UInt8}{l:List UInt8}{K:ar B}(al:aX E x=some (.slice a.bn a.l.length a.c))(dV:Out K S R)(a4:dI K a.bu (l.flatMap m8))(aE:l.length=a.l.length)(aL:Lo P s t=true):dw P B A N ao E S (.convert s t x) (str l):=
  ⟨by simp,by simp,fun ac w bg pos a8 g d aq aH=>by
    obtain⟨D,bO⟩:=aH.mem dV
    have a7:=a4 D w bO
    unfold Lo at aL
    split at aL
    · rename_i e hu Uh
      split at aL
      · rename_i Ui
        have Ln:(convert s t (.slice a.bn a.l.length a.c)).run P w= .ok (str l) w:=by
          cases S7:a.bn with
          |none=>
            have:l=[]:=List.length_eq_zero_iff.1 (by rw [aE,a.nil S7];rfl)
            subst this
            exact run_convert_bytes_nil w s e hu Ui _ _ t Uh
          |some bu=>
            have tZ:a.bu=bu:=by simp [an.bu,S7]
            rw [tZ]at a7
            have sj:l.flatMap m8=l.map fun b=>Value.int .u8 (b.toNat:Int):=NX l
            rw [sj]at a7
            have ahc:(loadCells bu a.l.length).run P w= .ok ((l.map fun b=>(b.toNat:Int)).map (Value.int .u8)).toArray w:=by
              have:=run_loadCells_list (P:=P) w bu (l.map fun b=>Value.int .u8 (b.toNat:Int)) (fun j v aI=>by
                rw [a7 j (List.getElem?_eq_some_iff.1 aI).1];exact aI)
              rw [List.map_map]
              simpa [aE,Function.comp_def]using this
            rw [run_convert_bytes_string w s t e _ _ _ hu Ui Uh,run_bytesToString w _ _ _ _ ahc,foldl_push_bytes]
            have:(l.map fun b=>(b.toNat:Int)).map (fun n=>UInt8.ofNat n.toNat)=l:=by
              rw [List.map_map];conv=>rhs;rw [←List.map_id l]
              apply List.map_congr_left;intro b _;simp
            rw [this];simp [ByteArray.empty,ByteArray.emptyWithCapacity];rfl
        simp [execOp,aq.aX al,Ln]
      · cases aL
    · cases aL⟩
theorem bC.IZ{b n c e aN:Nat}{xs:List Value}(h:bC B A (row (.slice (some ⟨b,0,none⟩) n c) e aN n xs::S) w):
    ∃dR:List Value,bC B A (U b dR e::S) w∧xs.length=n*aN∧B≤b∧n≤c∧c≤maxLen∧dR.length=c*aN∧dR.take (n*aN)=xs:=by
  obtain⟨D,⟨dm,dY,bU,aJ,⟨⟨ab,ae⟩,av⟩,aH⟩,a4⟩:=h
  rcases ae with⟨ae,_⟩|⟨g,cap,dR,cL,bl,fv,aP,Lp,Lq,x2⟩
  · cases ae
  · cases cL
    refine⟨dR.toList,⟨D,⟨dm,dY,bU,aJ,⟨fun k=>?_,fv⟩,aH⟩,a4⟩,ab,bl,aP,Lp,by simpa using Lq,x2⟩
    rw [av k];simp [Value.ownBlock,eq_comm]
theorem bC.FN{b n c e aN:Nat}{xs dR:List Value}(h:bC B A (U b dR e::S) w)(ab:xs.length=n*aN)(bl:B≤b)(aP:n≤c)(Lp:c≤maxLen)(Lq:dR.length=c*aN)(x2:dR.take (n*aN)=xs):
    bC B A (row (.slice (some ⟨b,0,none⟩) n c) e aN n xs::S) w:=by
  obtain⟨D,⟨dm,dY,bU,aJ,⟨av,fv⟩,aH⟩,a4⟩:=h
  refine⟨D,⟨dm,dY,bU,aJ,⟨⟨ab,.inr ⟨b,c,dR.toArray,rfl,bl,fv,aP,Lp,by simpa using Lq,by simpa using x2⟩⟩,fun k=>?_⟩,aH⟩,a4⟩
  rw [av k];simp [Value.ownBlock,eq_comm]
theorem vZ{α:Type}{a2:α→List Value}{bn:Option Addr}{c n:Nat}{xs qw:List α}{t e i:Nat}{y:α}{x z:Operand}(jW:∀bu,bn=some bu→∃g,bu=⟨g,0,none⟩)
    (al:aX E x=some (.pointer (some ((bn.getD ⟨0,0,none⟩).add (i*1))))) (aZ:aX E z=some v) (he:∀a,(a2 a).length=1) (cL:a2 y=[v]) (ab:v.oneCell'=true) (dV:Out (row (.slice bn n c) e 1 n (xs.flatMap a2)) S R) (aL:hA P t=some (false,1))
    (af:i<xs.length) (kh:xs.set i y=qw):pG P B A N ao E S (.store t x z) (row (.slice bn n c) e 1 n (qw.flatMap a2)::R):=
  ⟨by simp,fun a w bg pos a8 g aq aH=>by
    have sj:∀l:List α,(l.flatMap a2).length=l.length:=fun l=>by have:=rM (aN:=1) he (l:=l);simpa using this
    have fo:bC B A (row (.slice bn n c) e 1 n (xs.flatMap a2)::R) w:=aH.take (.cons dV (.nil _))
    cases bn with
    |none=>
      obtain⟨D,⟨⟨ae,av⟩,_⟩⟩:=fo.mem (.here _ _)
      rcases av with⟨_,av⟩|⟨g,cap,dR,cL,_⟩
      · rw [sj]at ae;omega
      · cases cL
    |some bu=>
      obtain⟨b,rfl⟩:=jW bu rfl
      have al:aX E x=some (.pointer (some ⟨b,i,none⟩)):=by rw [al];simp [nq]
      obtain⟨dR,aR,a1,a3,bI,cv,eX,fJ⟩:=fo.IZ
      rw [sj]at a1
      obtain⟨D,mf⟩:=aR.mem (.here _ _)
      refine⟨w.setCell ⟨b,i,none⟩ v,by simp [execOp,aq.aX al,aq.aX aZ,IP (k:=i) ab aL (by omega) mf.2],?_⟩
      refine(aR.store i v).FN (by rw [sj, ←kh,List.length_set];exact a1) a3 bI cv (by simpa using eX) ?_
      have xR:∀(l:List α) (i:Nat),i<l.length→(l.flatMap a2).set i v=(l.set i y).flatMap a2:=by
        intro l
        induction l with
        |nil=>intro i af;simp at af
        |cons a l ih=>
          intro i af
          obtain⟨u,hu⟩:∃u,a2 a=[u]:=List.length_eq_one_iff.1 (he a)
          cases i with
          |zero=>simp [List.flatMap_cons,hu,cL]
          |succ i=>simp [List.flatMap_cons,hu];exact ih i (by simpa using af)
      rw [List.take_set,fJ,xR xs i af,kh]⟩
theorem sD{α:Type}{a2:α→List Value}{a:an α}{xs:List α}{e aN n:Nat}(h:a.Own)(aP:n=a.l.length)(aE:xs.length=a.l.length):dI (row (B:=B) (.slice a.bn a.l.length a.c) e aN n (xs.flatMap a2)) a.bu (xs.flatMap a2):=by
  subst aP
  cases aq:a.bn with
  |none=>
    have:xs=[]:=List.length_eq_zero_iff.1 (by rw [aE,a.nil aq];rfl)
    subst this;intro D w _ k ai;simp at ai
  |some bu=>
    obtain⟨g,rfl⟩:=h bu aq
    have:a.bu=⟨g,0,none⟩:=by simp [an.bu,aq]
    rw [this]
    exact QY
theorem bC.Y8{b:Nat}{aF:List Value}{e:TypeId}(h:bC B A (U b aF e::S) w):B≤b:=by
  obtain⟨D,⟨dm,dY,bU,aJ,⟨av,fv⟩,aH⟩,a4,_⟩:=h
  exact(a4 b ((bU b).2 (.inl ((av b).2 rfl)))).1
theorem XO{α:Type}{code:Code}{b e:Nat}(a2:α→List Value)(l:List α)(aE:l.length≤9223372036854775807)(he:∀a,(a2 a).length=1)(hm:l.length≤maxLen){aF:List Value}(vb:l.flatMap a2=aF)(aq:Out (U b aF e) S R)
    (h:X P B A r N code ao E (row (.slice (an.lit b l aE).bn (an.lit b l aE).l.length (an.lit b l aE).c) e 1 (an.lit b l aE).l.length ((an.lit b l aE).l.flatMap a2)::R) Q):X P B A r N code ao E S Q:=by
  subst vb
  intro a w ei aH
  have ab:=aH.take (.cons aq (.nil _))
  have sj:(l.flatMap a2).length=l.length*1:=by have:=rM (aN:=1) he (l:=l);simpa using this
  exact h a w ei (ab.FN sj ab.Y8 (Nat.le_refl _) hm sj (by show List.take (l.length*1) (l.flatMap a2)=l.flatMap a2;rw [←sj];exact List.take_length))
theorem iW{t n e aN j c hx:Nat}{bu:Option Addr}{x i:Operand}{k:IntKind}{m:Int}(al:aX E x=some (.slice bu n c))(af:aX E i=some (.int k m))(aL:iZ P t=some (e,aN))
    (aS:bu=none→n=0) (hm:m=(j:Int)) (aI:j<n) (pF:j*aN=hx):nB P N ao E (.indexAddr t x i) (.pointer (some ((bu.getD ⟨0,0,none⟩).add hx))):=by
  cases bu with
  |none=>have:=aS rfl;omega
  |some bu=>
    exact⟨by simp,by simp,fun a w bg pos a8 g d aq=>by
      obtain⟨inf,hu,n1,fB⟩:=Ce aL
      subst hm fB pF
      simp [execOp,aq.aX al,aq.aX af,Instr.indexAt,asIntOf,run_underlying hu,sizeOf,typeInfo,n1,Nat.not_le.2 aI]⟩
theorem XP{t e aN jf n m c:Nat}{z xs news:List Value}{x y:Operand}{K:ar B}{bu:Addr}{kn:List (ar B)}(al:aX E x=some v)(aZ:aX E y=some (.slice (some bu) m c))(aL:jA P t=some (e,aN,jf,z))
    (gM:Out (row v e aN n xs) S R) (hI:Out K S kn) (a4:dI K bu news) (aE:news.length=m*aN) (ab:∀u∈news,u.oneCell'=true) (qs:n+m≤maxLen) (n7:(n+m)*jf≤140737488355328):
    ∀a w,dO N ao E a→bC B A S w→∃fU ca,(execOp a.eval ⟨some d,.call {callee:= .builtin .append,args:= #[x,y],argTypes:= #[t,t]},bg,pos,a8,g⟩).run P w= .ok (.value fU) ca∧bC B A (row fU e aN (n+m) (xs++news)::R) ca∧(fU= .slice none 0 0↔v= .slice none 0 0∧m=0):=fun a w aq aH=>by
    obtain⟨i,cd,hu,af,aS,fB,tU,Bl,qe,_⟩:=xj aL
    obtain⟨E0,bO⟩:=aH.mem hI
    have h1:=aH.size
    obtain⟨D,⟨dm,dY,bU,gT,⟨jW,zx⟩,dj⟩,ae,av,aV,bN,c0⟩:=aH.take (.cons gM (.nil _))
    obtain⟨fU,ca,hG,Dt,qt,zc⟩:=run_append_own (P:=P) w B t bg e i cd aN jf hu af aS fB tU Bl qe v n xs jW bu m c news aE
      (fun j u aI=>by rw [a4 E0 w bO j (List.getElem?_eq_some_iff.1 aI).1,aI]) ab qs n7 h1
    refine⟨fU,ca,?_,?_,zc⟩
    · simp [execOp,resolve,invoke,builtin,aq.aX al,aq.aX aZ,hG]
    · have ey:=Dt.lt
      have hold:∀k,v.ownBlock=some k→D k:=fun k ai=>(bU k).2 (.inl ((zx k).2 ai))
      have xP:=Nm (P:=P) hu af aS fB jW aE (fun j u aI=>by rw [a4 E0 w bO j (List.getElem?_eq_some_iff.1 aI).1,aI]) ab qs (by rw [tU];exact n7) zc hG
      refine⟨fun k=>fU.ownBlock=some k∨dY k,⟨fun k=>fU.ownBlock=some k,dY,fun _=>Iff.rfl,fun k ai h7=>?_,⟨Dt,fun _=>Iff.rfl⟩,dj.m2 fun k ai=>?_⟩,fun k ai=>?_,fun k ai=>?_,⟨qt.os.trans aV.os,qt.tape.trans aV.tape,qt.output.trans aV.output,Nat.le_trans aV.size qt.size,fun k ai aP=>?_⟩,bN,c0⟩
      · rcases xP k ai with h|h
        · exact gT k ((zx k).2 h) h7
        · have:=(ae k ((bU k).2 (.inr h7))).2;omega
      · refine qt.block k ?_ ?_
        · rcases ai with ai|ai
          · omega
          · exact(ae k ((bU k).2 (.inr ai))).2
        · intro e
          rcases ai with ai|ai
          · have:=(ae k (hold k e.symm)).1;omega
          · exact gT k ((zx k).2 e.symm) ai
      · rcases ai with ai|ai
        · exact ey k ai
        · have:=ae k ((bU k).2 (.inr ai));have:=qt.size;omega
      · rcases ai with ai|ai
        · rcases xP k ai with h|h
          · exact av k (hold k h)
          · have:=aV.size;exact .inr (by omega)
        · exact av k ((bU k).2 (.inr ai))
      · have:=aV.size
        refine(qt.block k (by omega) (fun e=>?_)).trans (aV.same k ai aP)
        rcases av k (hold k e.symm)with h|h
        · exact aP h
        · omega
theorem V9{α:Type}{a2:α→List Value}{c b:an α}{t e aN jf:Nat}{z:List Value}{x h9:Operand}{K:ar B}{kn:List (ar B)}(al:aX E x=some (.slice c.bn c.l.length c.c))(aZ:aX E h9=some (.slice b.bn b.l.length b.c))(aL:jA P t=some (e,aN,jf,z))
    (gM:Out (row (.slice c.bn c.l.length c.c) e aN c.l.length (c.l.flatMap a2)) S R) (hI:Out K S kn) (a4:dI K b.bu (b.l.flatMap a2)) (he:∀a,(a2 a).length=aN) (ab:∀a,(a2 a).all (·.oneCell')=true) (qs:c.l.length+b.l.length≤9223372036854775807-1000) (n7:(c.l.length+b.l.length)*jf≤140737488355328):
    ∀a w,dO N ao E a→bC B A S w→∃(bW:an α) (ca:World),(execOp a.eval ⟨some d,.call {callee:= .builtin .append,args:= #[x,h9],argTypes:= #[t,t]},bg,pos,a8,g⟩).run P w= .ok (.value (.slice bW.bn bW.l.length bW.c)) ca∧bC B A (row (.slice bW.bn bW.l.length bW.c) e aN bW.l.length (bW.l.flatMap a2)::R) ca∧(bW.l=c.l++b.l∧bW.Own):=fun a w aq aH=>by
  have key:∃fU ca,(execOp a.eval ⟨some d,.call {callee:= .builtin .append,args:= #[x,h9],argTypes:= #[t,t]},bg,pos,a8,g⟩).run P w= .ok (.value fU) ca∧bC B A (row fU e aN (c.l.length+b.l.length) (c.l.flatMap a2++b.l.flatMap a2)::R) ca:=by
    cases aR:b.bn with
    |some bu=>
      have tZ:b.bu=bu:=by simp [an.bu,aR]
      rw [aR]at aZ;rw [tZ]at a4
      obtain⟨fU,ca,a1,a3,_⟩:=XP (N:=N) (ao:=ao) (d:=d) (bg:=bg) (pos:=pos) (a8:=a8) (g:=g) al aZ aL gM hI a4 (rM he _) (fun u hu=>by
        obtain⟨a,_,a5⟩:=List.mem_flatMap.1 hu
        exact List.all_eq_true.1 (ab a) u a5) (by unfold maxLen;omega) n7 a w aq aH
      exact⟨fU,ca,a1,a3⟩
    |none=>
      have aE:=b.nil aR
      rw [aR,aE]at aZ
      obtain⟨i,cd,hu,af,_⟩:=xj aL
      have kh:=aH.take (.cons gM (.nil _))
      obtain⟨D,bO⟩:=kh.mem (.here _ _)
      have hG:=Nj (P:=P) (bg:=bg) (c:=b.c) hu af bO.1
      exact⟨_,w,by simp [execOp,resolve,invoke,builtin,aq.aX al,aq.aX aZ,hG];rfl,by rw [aE];simpa using kh⟩
  obtain⟨fU,ca,a1,a3⟩:=key
  obtain⟨bW,rl,jW,rfl⟩:=Gd (l:=c.l++b.l) (a2:=a2) a3 (.here _ _) (by simp)
  refine⟨bW,ca,a1,?_,rl,jW⟩
  rw [show c.l.length+b.l.length=bW.l.length from by rw [rl];simp,show c.l.flatMap a2++b.l.flatMap a2=bW.l.flatMap a2 from by rw [rl,List.flatMap_append]]at a3
  exact a3
theorem Out.pre{α:Type}{x:α}{S R:List α}(h:Out x S R):∀(K:List α),Out x (K++S) (K++R)
  |[]=>h
  |y::K=> .there y (Out.pre h K)
theorem p1{α:Type}{a2:α→List Value}{c b:an α}{n i:Nat}{listed:Array Bool}{vx:List (ar B)}{t e aN jf:Nat}{z:List Value}{x h9:Operand}{K:ar B}{kn Z:List (ar B)}(af:ops[i]?=some ⟨some d,.call {callee:= .builtin .append,args:= #[x,h9],argTypes:= #[t,t]},bg,pos,a8,g⟩)(hw:Want ops N E g)
    (al:aX E x=some (.slice c.bn c.l.length c.c)) (aZ:aX E h9=some (.slice b.bn b.l.length b.c)) (aL:jA P t=some (e,aN,jf,z))
    (gM:Out (row (.slice c.bn c.l.length c.c) e aN c.l.length (c.l.flatMap a2)) S R) (jm:hh vx S Z) (hI:Out K Z kn) (a4:dI K b.bu (b.l.flatMap a2)) (he:∀a,(a2 a).length=aN) (ab:∀a,(a2 a).all (·.oneCell')=true) (qs:c.l.length+b.l.length≤9223372036854775807-1000) (n7:(c.l.length+b.l.length)*jf≤140737488355328) (aJ:Nat.blt d N=true)
    (h:∀bW:an α,bW.l=c.l++b.l→bW.Own→eY cB P B A r N ops vx n (listed.setIfInBounds i true) ao ((d,.slice bW.bn bW.l.length bW.c)::E) (row (.slice bW.bn bW.l.length bW.c) e aN bW.l.length (bW.l.flatMap a2)::R) Q):jO cB P B A r N ops vx n listed i ao E S Q:=by
  have jm:=jm.eq;subst jm
  refine AN (α:=an α) (fun bW=> .slice bW.bn bW.l.length bW.c) (fun bW=>row (.slice bW.bn bW.l.length bW.c) e aN bW.l.length (bW.l.flatMap a2)::R) (fun bW=>bW.l=c.l++b.l∧bW.Own) af hw (by simp) aJ (fun a w aq aH=>?_) (fun bW ⟨a1,a3⟩=>h bW a1 a3)
  obtain⟨bW,ca,a1,a3,bI⟩:=V9 (N:=N) (ao:=ao) (d:=d) (bg:=bg) (pos:=pos) (a8:=a8) (g:=g) al aZ aL (gM.pre vx) hI a4 he ab qs n7 a w aq aH
  refine⟨bW,ca,a1,?_,bI⟩
  have cv:bC B A ([row (.slice bW.bn bW.l.length bW.c) e aN bW.l.length (bW.l.flatMap a2)]++(vx++R)) ca:=a3
  simpa using cv.mid
def A4(P:Program)(t f:Nat):Option Nat:=match P.underlying t with
  |some (.struct lJ)=>match lJ[f]? with
    |some fd=>if p4 P fd.type=false∧(P.underlying fd.type).isSome then some fd.offset else none
    |none=>none
  |_=>none
theorem Cu{t f o:Nat}{x:Operand}{aF:List Value}(al:aX E x=some (.agg aF.toArray))(aL:A4 P t f=some o)(cL:aF[o]?=some v):dw P B A N ao E S (.field t x f) v:=
  ⟨by simp,by simp,fun a w bg pos a8 g d aq aH=>by
    unfold A4 at aL
    split at aL
    · rename_i lJ hu
      split at aL
      · rename_i fd bs
        split at aL
        · rename_i a7
          simp at aL;subst aL
          obtain⟨tV,Ee⟩:=Option.isSome_iff_exists.1 a7.2
          simp only [execOp,aq.aX al]
          simp [Instr.field,run_underlying hu,bs,part,asAgg,FL Ee,a7.1,cL]
        · cases aL
      · cases aL
    · cases aL⟩
theorem my{fn:Func}{p t b:Nat}{dv:TypeId}{aU:List (ar B)}(h:fn.results= #[.cell p t])(aC:E.get p=some (.pointer (some ⟨b,0,none⟩)))(aq:Out (U b [v] dv) S aU)(aL:hA P t=some (false,1)):
    ∀a w,dO N ao E a→bC B A S w→(results fn a.tmps).run P w= .ok v w:=by
  intro a w ei aH
  obtain⟨D,bO⟩:=aH.mem aq
  have aE:=ux (P:=P) (w:=w) (p:=⟨b,0,none⟩) aL (lQ D w bO 0 (by simp))
  simp only [Instr.loadAt,Instr.sureAddr,Sem.run_bind,Sem.run_pure,Result.andThen_ok]at aE
  have n8:a.tmps[p]?.getD undef= .pointer (some ⟨b,0,none⟩):=by have:=ei.get p _ aC;simpa [Array.getD_eq_getD_getElem?]using this
  simp [results,h,n8,asAddr,aE]
end Go.Sl
end
section
namespace Go.Sl
open Go
variable{cB:Bool}{P:Program}{B:Nat}{A:e0}{r:Option Nat}{N:Nat}{ao:List Nat}{E fK:Env}{S R L F:List (ar B)}{Q ik:fw B}{ops:Array Oper}{rest:List Oper}
theorem Q3{t:Nat}{l:List UInt8}{x:Operand}{dC:Array TypeId}(al:aX E x=some (str l))(has:dC[0]?=some t)(aL:P.underlying t=some .string):dw P B A N ao E S (.call {callee:= .builtin .len,args:= #[x],argTypes:=dC}) (.int .i64 (l.length:Int)):=
  ⟨by simp,by simp,fun a w bg pos a8 g d aq aH=>by
    have:(⟨l.toArray⟩:ByteArray).size=l.length:=by show l.toArray.size=_;simp
    simp [execOp,resolve,invoke,builtin,aq.aX al,Builtin.len_,has,run_underlying aL,goInt,this]⟩
theorem jq{t i:Nat}{x y:Operand}{l:List UInt8}{k:IntKind}{m:Int}{b:UInt8}(al:aX E x=some (str l))(aZ:aX E y=some (.int k m))(hu:P.underlying t=some .string)(hm:m=(i:Int))(aR:l[i]?=some b):
    dw P B A N ao E S (.index t x y) (.int .u8 (b.toNat:Int)):=by
  refine XM al aZ hu hm ?_
  obtain⟨h,e⟩:=List.getElem?_eq_some_iff.1 aR
  show(⟨l.toArray⟩:ByteArray)[i]?=some b
  have eE:i<(⟨l.toArray⟩:ByteArray).size:=by show i<l.toArray.size;simpa using h
  rw [getElem?_pos (⟨l.toArray⟩:ByteArray) i eE]
  show some (l.toArray[i]'_)=some b
  simp [e]
theorem Fu(l:List UInt8)(i j:Nat):(⟨l.toArray⟩:ByteArray).extract i j=⟨((l.drop i).take (j-i)).toArray⟩:=by
  apply ByteArray.ext
  rw [ByteArray.data_extract]
  simp [List.take_drop]
theorem np{t ec af:Nat}{x:Operand}{l p:List UInt8}{wK wL:Option Operand}(al:aX E x=some (str l))(aL:P.underlying t=some .string)(vd:vv E 0 ec wK)(zE:vv E l.length af wL)(ab:ec≤af)(ae:af≤l.length)
    (aC:(l.drop ec).take (af-ec)=p):dw P B A N ao E S (.slice t x wK wL none) (str p):=
  ⟨by simp,by simp,fun a w bg pos a8 g d aq aH=>by
    have fB:(⟨l.toArray⟩:ByteArray).size=l.length:=by show l.toArray.size=_;simp
    have key:∀(o:Option Operand) (MX k:Nat),vv E MX k o→∃r:Option Value,o.map a.eval=r∧(match r with|some v=>∃cT,v= .int cT (k:Int)|none=>k=MX):=by
      intro o MX k h
      cases o with
      |none=>exact⟨none,rfl,h⟩
      |some y=>obtain⟨cT,he⟩:=h;exact⟨some (.int cT k),by simp [aq.aX he],cT,rfl⟩
    obtain⟨uo,cb,c1⟩:=key wK _ _ vd
    obtain⟨tg,cq,bW⟩:=key wL _ _ zE
    have hG:(Instr.slice t (str l) uo tg none).run P w= .ok (str p) w:=by
      subst aC
      cases uo with
      |none=>
        simp only at c1;subst c1
        cases tg with
        |none=>simp only at bW;subst bW;simp [Instr.slice,run_underlying aL,Instr.sliceBounds,fB,Fu]
        |some v=>
          obtain⟨cT,rfl⟩:=bW
          simp [Instr.slice,run_underlying aL,Instr.sliceBounds,Instr.sliceBound,asIntOf,fB,Fu,ae]
      |some u=>
        obtain⟨cT,rfl⟩:=c1
        cases tg with
        |none=>simp only at bW;subst bW;simp [Instr.slice,run_underlying aL,Instr.sliceBounds,Instr.sliceBound,asIntOf,fB,Fu,ab]
        |some v=>
          obtain⟨Bq,rfl⟩:=bW
          simp [Instr.slice,run_underlying aL,Instr.sliceBounds,Instr.sliceBound,asIntOf,fB,Fu,ab,ae]
    simp only [execOp,aq.aX al,cb,cq]
    have e:(Instr.sliceAt t (str l) uo tg none).run P w= .ok (str p) w:=by
      rw [←hG];simp [Instr.sliceAt,run_underlying aL]
    simp only [Option.map_none]
    rw [Sem.run_bind,e];rfl⟩
theorem sF{fn:Func}{p q t gd b h3 n:Nat}{aF:List Value}{fU:Value}{dv zC:TypeId}{aU bh:List (ar B)}(h:fn.results= #[.cell p t,.cell q gd])(aC:E.get p=some (.pointer (some ⟨b,0,none⟩)))(bF:E.get q=some (.pointer (some ⟨h3,0,none⟩)))(aq:Out (U b aF dv) S aU)(dV:Out (U h3 [fU] zC) S bh)(aL:hA P t=some (true,n))(wG:hA P gd=some (false,1))(aP:aF.length=n):
    ∀a w,dO N ao E a→bC B A S w→(results fn a.tmps).run P w= .ok (.tuple #[.agg aF.toArray,fU]) w:=by
  intro a w ei aH
  obtain⟨D,bO⟩:=aH.mem aq
  obtain⟨su,zD⟩:=aH.mem dV
  have aE:=Ah (P:=P) (w:=w) (p:=⟨b,0,none⟩) (bK:=aF) aL aP (fun k ai=>lQ D w bO k (by omega))
  have oV:=ux (P:=P) (w:=w) (p:=⟨h3,0,none⟩) wG (v:=fU) (lQ su w zD 0 (by simp))
  simp only [Instr.loadAt,Instr.sureAddr,Sem.run_bind,Sem.run_pure,Result.andThen_ok]at aE oV
  have n8:a.tmps[p]?.getD undef= .pointer (some ⟨b,0,none⟩):=by have:=ei.get p _ aC;simpa [Array.getD_eq_getD_getElem?]using this
  have rk:a.tmps[q]?.getD undef= .pointer (some ⟨h3,0,none⟩):=by have:=ei.get q _ bF;simpa [Array.getD_eq_getD_getElem?]using this
  simp [results,h,n8,rk,asAddr,aE,oV]
theorem p5{n d i:Nat}{listed:Array Bool}{K Z:List (ar B)}{op:Op}{bg:TypeId}{pos:String}{a8:Array Edge}{g:Option (Nat×Bool)}{v:Value}(af:ops[i]?=some ⟨some d,op,bg,pos,a8,g⟩)(hw:Want ops N E g)(jm:hh K S Z)(aC:dw P B A N ao E Z op v)(aJ:Nat.blt d N=true)
    (h:eY cB P B A r N ops K n (listed.setIfInBounds i true) ao ((d,v)::E) S Q):jO cB P B A r N ops K n listed i ao E S Q:=
  AN (α:=Unit) (fun _=>v) (fun _=>S) (fun _=>True) af hw aC.1 aJ (fun a w aq aH=>⟨(),w,aC.2.2 a w bg pos a8 g (some d) aq (by rw [←jm.eq];exact aH),aH,trivial⟩) (fun _ _=>h)
theorem mz{x:Operand}{bu:Addr}(al:aX E x=some (.pointer (some bu))):nB P N ao E (.nilCheck x) (.pointer (some bu)):=
  ⟨by simp,by simp,fun a w bg pos a8 g d aq=>by simp [execOp,aq.aX al]⟩
theorem AD{s f b o off gC:Nat}{x:Operand}(al:aX E x=some (.pointer (some ⟨b,o,none⟩)))(bs:rQ P s f=some off)(dV:Nat.add o off=gC):nB P N ao E (.fieldAddr s x f) (.pointer (some ⟨b,gC,none⟩)):=
  ⟨by simp,by simp,fun a w bg pos a8 g d aq=>by
    have:o+off=gC:=dV
    simp [execOp,aq.aX al,FA _ bs,nq,this]⟩
theorem PZ{s f k off hx:Nat}{bu:Addr}{x:Operand}(al:aX E x=some (.pointer (some (bu.add k))))(bs:rQ P s f=some off)(ai:k+off=hx):nB P N ao E (.fieldAddr s x f) (.pointer (some (bu.add hx))):=
  ⟨by simp,by simp,fun a w bg pos a8 g d aq=>by
    have e:(bu.add k).add off=bu.add hx:=by
      subst ai;unfold Addr.add;by_cases af:k=0<;>by_cases aI:off=0<;>simp [af,aI,Nat.add_assoc]
    simp [execOp,aq.aX al,FA _ bs,e]⟩
theorem ns{t b o n aN j gC:Nat}{x i:Operand}{k:IntKind}{m:Int}(al:aX E x=some (.pointer (some ⟨b,o,none⟩)))(af:aX E i=some (.int k m))(aL:p9 P t=some (n,aN))
    (hm:m=(j:Int)) (aI:j<n) (dV:o+j*aN=gC):nB P N ao E (.indexAddr t x i) (.pointer (some ⟨b,gC,none⟩)):=
  ⟨by simp,by simp,fun a w bg pos a8 g d aq=>by
    obtain⟨e,inf,hu,n1,fB,aP⟩:=FE aL
    subst hm fB dV
    simp [execOp,aq.aX al,aq.aX af,Instr.indexAt,asIntOf,run_underlying hu,Instr.sureAddr,sizeOf,typeInfo,n1,Nat.not_le.2 aI,nq]⟩
theorem Q4{t n c e aN:Nat}{bu:Option Addr}{x:Operand}{dC:Array TypeId}(al:aX E x=some (.slice bu n c))(has:dC[0]?=some t)(aL:iZ P t=some (e,aN)):nB P N ao E (.call {callee:= .builtin .len,args:= #[x],argTypes:=dC}) (.int .i64 n):=
  ⟨by simp,by simp,fun a w bg pos a8 g d aq=>by
    obtain⟨inf,hu,_,_⟩:=Ce aL
    simp [execOp,resolve,invoke,builtin,aq.aX al,Builtin.len_,has,run_underlying hu,goInt]⟩
abbrev gq(l:List UInt8):List Value:=[str l]
end Go.Sl
end
section
namespace Go.Sl
open Go
variable{P:Program}{B:Nat}{A:e0}{r:Option Nat}{N:Nat}{ao:List Nat}{E fK:Env}{S R L F:List (ar B)}{Q ik:fw B}{ops:Array Oper}{rest:List Oper}
def bt:ar B where
  holds D _:=∀k,¬D k
  m2:=fun h _=>h
end Go.Sl
end
section
namespace Go.Sl
open Go
variable{P:Program}{B:Nat}{A:e0}{r:Option Nat}{N:Nat}{ao:List Nat}{E fK:Env}{S R L F:List (ar B)}{Q ik:fw B}{ops:Array Oper}{rest:List Oper}
variable{d:Nat}{op:Op}{bg:TypeId}{pos:String}{a8:Array Edge}{g:Option (Nat×Bool)}
theorem OJ{α:Type}{a2:α→List Value}{y:α}{cd:Value}(h:a2 y=[cd]):∀n,(List.replicate n y).flatMap a2=List.replicate n cd
  |0=>rfl
  |n+1=>by rw [List.replicate_succ,List.replicate_succ,List.flatMap_cons,h,OJ h n];rfl
theorem XQ{cd:Value}(n:Nat):madeCells #[cd] n=(List.replicate n cd).toArray:=by
  apply Array.ext'
  simp [madeCells]
  apply List.ext_getElem
  · simp
  · intro i ab ae
    simp [Nat.mod_one]
theorem P0{α:Type}(a2:α→List Value)(y:α){t e jf n:Nat}{cd:Value}{x h9:Operand}(hw:Want ops N E g)(al:aX E x=some (.int .i64 (n:Int)))(aZ:aX E h9=some (.int .i64 (n:Int)))(aL:jA P t=some (e,1,jf,[cd]))(he:a2 y=[cd])(aP:n*jf≤281474976710656)(qs:n≤9223372036854775807-1000)(aJ:Nat.blt d N=true)
    (h:∀c:an α,c.l=List.replicate n y→c.Own→cg P B A r N ops rest ao ((d,.slice c.bn c.l.length c.c)::E) (row (.slice c.bn c.l.length c.c) e 1 c.l.length (c.l.flatMap a2)::S) Q):cg P B A r N ops (⟨some d,.makeSlice t x h9,bg,pos,a8,g⟩::rest) ao E S Q:=by
  refine tD (α:=an α) (fun c=> .slice c.bn c.l.length c.c) (fun c=>row (.slice c.bn c.l.length c.c) e 1 c.l.length (c.l.flatMap a2)::S) (fun c=>c.l=List.replicate n y∧c.Own) hw (by simp) aJ (fun a w aq aH=>?_) (fun c a7=>h c a7.1 a7.2)
  obtain⟨i,z,hu,af,aS,fB,tU,Bl,ly,wF⟩:=xj aL
  have hlen:(List.replicate n y).length≤9223372036854775807:=by simp;omega
  have aR:(i.bytes:Int)*(n:Int)≤281474976710656:=by
    have:((i.bytes*n:Nat):Int)≤281474976710656:=by rw [tU,Nat.mul_comm];omega
    rwa [Int.natCast_mul]at this
  refine⟨an.lit w.heap.size (List.replicate n y) hlen,w.alloc (.cells (List.replicate n cd).toArray e),?_,?_,rfl,an.vK (b:=w.heap.size) (h:=hlen)⟩
  · have a4:=run_make (P:=P) w t e i z hu af aS .i64 .i64 (n:Int) (n:Int) (by omega) (Int.le_refl _) aR (by omega)
    have Uj:z.cells= #[cd]:=by apply Array.ext';rw [wF]
    rw [Uj,fB,Nat.mul_one]at a4
    simp only [Int.toNat_natCast]at a4
    rw [XQ]at a4
    simp [execOp,aq.aX al,aq.aX aZ,a4,an.lit]
  · have ab:=aH.new (.cells (List.replicate n cd).toArray e)
    have ae:=bC.JI (n:=n) (aN:=1) (aF:=List.replicate n cd) (e:=e) ab (.here _ _) (by simp) (by unfold maxLen;omega)
    have cb:(List.replicate n y).flatMap a2=List.replicate n cd:=OJ he n
    show bC B A (row (.slice (some ⟨w.heap.size,0,none⟩) (List.replicate n y).length (List.replicate n y).length) e 1 (List.replicate n y).length ((List.replicate n y).flatMap a2)::S) _
    rw [cb,List.length_replicate];exact ae
end Go.Sl
end
section
namespace Go.Sl
open Go
variable{P:Program}{B:Nat}{A:e0}{r:Option Nat}{N:Nat}{ao:List Nat}{E fK:Env}{S R L F:List (ar B)}{Q ik:fw B}{ops:Array Oper}{rest:List Oper}
def many(n:Nat)(F:Nat→ar B):ar B where
  holds D w:=ee ((List.range n).map F) D w
  m2:=ee.m2
theorem FH(F:Nat→ar B)(d:Nat):∀n,d<n→∃fY g8,∀G,(List.range n).map (bz F d G)=fY++G::g8
  |0,h=>by omega
  |n+1,h=>by
    by_cases e:d=n
    · subst e
      refine⟨(List.range d).map F,[],fun G=>?_⟩
      rw [List.range_succ,List.map_append]
      congr 1
      · apply List.map_congr_left;intro j aI
        exact fG F G (by have:=List.mem_range.1 aI;omega)
      · show [bz F d G d]=[G];rw [e4]
    · obtain⟨fY,g8,aH⟩:=FH F d n (by omega)
      refine⟨fY,g8++[F n],fun G=>?_⟩
      rw [List.range_succ,List.map_append,aH G]
      show _++[bz F d G n]=_
      rw [fG F G (fun h=>e h.symm)];simp
theorem OK{α:Type}(F:Nat→α)(d:Nat):bz F d (F d)=F:=by
  funext j;by_cases e:j=d
  · subst e;rw [e4]
  · rw [fG _ _ e]
theorem P1{α:Type}(F:Nat→α)(d:Nat)(a b:α):bz (bz F d a) d b=bz F d b:=by
  funext j;by_cases e:j=d
  · subst e;rw [e4,e4]
  · rw [fG _ _ e,fG _ _ e,fG _ _ e]
theorem bC.XR{n d:Nat}{F:Nat→ar B}{w:World}(aJ:d<n)(t:Take [many n F] S R)(h:bC B A S w):bC B A (F d::many n (bz F d bt)::R) w:=by
  obtain⟨fY,g8,aH⟩:=FH F d n aJ
  obtain⟨D,ab,ae⟩:=h.take t
  obtain⟨dm,dY,e,gT,a1,a3⟩:=ab
  have a1:ee ((List.range n).map F) dm w:=a1
  rw [←OK F d,aH (F d)]at a1
  obtain⟨jk,jB,fP,ua,e2,cD⟩:=(Out.gi (L:=fY) (Out.here (F d) g8)).mP a1
  have kp:ee ((List.range n).map (bz F d bt)) jB w:=by
    rw [aH bt]
    exact(Out.gi (L:=fY) (Out.here bt g8)).back ⟨fun _=>False,jB,fun k=>by simp,fun _ h _=>h,fun _ h=>h,cD⟩
  exact⟨D,⟨jk,fun k=>jB k∨dY k,fun k=>by rw [e k,fP k,or_assoc],fun k a b=>b.elim (ua k a) (fun b=>gT k ((fP k).2 (.inl a)) b),e2,jB,dY,fun _=>Iff.rfl,fun k a b=>gT k ((fP k).2 (.inr a)) b,kp,a3⟩,ae⟩
theorem bC.Y9{n d:Nat}{F:Nat→ar B}{G:ar B}{w:World}(aJ:d<n)(t:Take [G,many n (bz F d bt)] S R)(h:bC B A S w):bC B A (many n (bz F d G)::R) w:=by
  obtain⟨fY,g8,aH⟩:=FH F d n aJ
  obtain⟨D,ab,ae⟩:=h.take t
  obtain⟨dm,dY,e,gT,a1,jk,jB,fP,ua,bI,cv⟩:=ab
  have bI:ee ((List.range n).map (bz F d bt)) jk w:=bI
  rw [aH bt]at bI
  obtain⟨akD,aiL,yz,ajD,e2,cD⟩:=(Out.gi (L:=fY) (Out.here bt g8)).mP bI
  have BS:jk=aiL:=funext fun k=>propext ⟨fun h=>((yz k).1 h).resolve_left (e2 k),fun h=>(yz k).2 (.inr h)⟩
  subst BS
  have kp:ee ((List.range n).map (bz F d G)) (fun k=>dm k∨jk k) w:=by
    rw [aH G]
    exact(Out.gi (L:=fY) (Out.here G g8)).back ⟨dm,jk,fun _=>Iff.rfl,fun k a b=>gT k a ((fP k).2 (.inl b)),a1,cD⟩
  exact⟨D,⟨fun k=>dm k∨jk k,jB,fun k=>by rw [e k,fP k,or_assoc],fun k a b=>a.elim (fun a=>gT k a ((fP k).2 (.inr b))) (fun a=>ua k a b),kp,cv⟩,ae⟩
theorem Wd{l:List Oper}{n d:Nat}{F:Nat→ar B}(aJ:d<n)(t:Take [many n F] S R)(h:cg P B A r N ops l ao E (F d::many n (bz F d bt)::R) Q):cg P B A r N ops l ao E S Q:=fun a w aq aH=>h a w aq (aH.XR aJ t)
theorem Wn{l:List Oper}{n d:Nat}{F:Nat→ar B}{G:ar B}(aJ:d<n)(t:Take [G,many n (bz F d bt)] S R)(h:cg P B A r N ops l ao E (many n (bz F d G)::R) Q):cg P B A r N ops l ao E S Q:=fun a w aq aH=>h a w aq (aH.Y9 aJ t)
theorem CJ{n d:Nat}{F:Nat→ar B}{bu:Addr}{xs:List Value}(aJ:d<n)(h:dI (F d) bu xs):dI (many n F) bu xs:=fun D w hw k ai=>by
  obtain⟨fY,g8,aH⟩:=FH F d n aJ
  have hw:ee ((List.range n).map F) D w:=hw
  rw [←OK F d,aH (F d)]at hw
  obtain⟨jk,jB,fP,ua,e2,cD⟩:=(Out.gi (L:=fY) (Out.here (F d) g8)).mP hw
  exact h jk w e2 k ai
theorem WN{n:Nat}{F:Nat→ar B}{w:World}(h2:∀d,(F d).holds (fun _=>False) w)(h:bC B A S w):bC B A (many n F::S) w:=by
  obtain⟨D,ab,ae⟩:=h
  refine⟨D,⟨fun _=>False,D,fun k=>by simp,fun _ h _=>h,?_,ab⟩,ae⟩
  show ee ((List.range n).map F) (fun _=>False) w
  induction n with
  |zero=>exact fun _ h=>h
  |succ n ih=>
    rw [List.range_succ,List.map_append]
    exact ee.join (dm:=fun _=>False) (dY:=fun _=>False) (fun k=>by simp) (fun _ h _=>h) ih ⟨fun _=>False,fun _=>False,fun k=>by simp,fun _ h _=>h,h2 n,fun _ h=>h⟩
theorem Fy{e aN:Nat}{w:World}:(row (B:=B) (.slice none 0 0) e aN 0 []).holds (fun _=>False) w:=
  ⟨⟨by simp,.inl ⟨rfl,rfl⟩⟩,fun k=>by simp [Value.ownBlock]⟩
theorem Wo{c:Code}{n e aN:Nat}(h:X P B A r N c ao E (many n (fun _=>row (.slice none 0 0) e aN 0 [])::S) Q):X P B A r N c ao E S Q:=fun a w aq aH=>h a w aq (WN (fun _=>Fy) aH)
theorem WO{α:Type}{I:α→Prop}{iB:α→Env}{iC:α→List (ar B)}(h:Q .ret ao E S):G3 P B A r N I iB iC ao Q .ret ao E S:=h
end Go.Sl
end
section
namespace Go.Sl
open Go
variable{P:Program}{B:Nat}{A:e0}{r:Option Nat}{N:Nat}{ao:List Nat}{E fK:Env}{S R L F:List (ar B)}{Q ik:fw B}{ops:Array Oper}{rest:List Oper}
variable{d:Nat}{op:Op}{bg:TypeId}{pos:String}{a8:Array Edge}{g:Option (Nat×Bool)}
theorem CK{l:Nat}(h:Q .normal ao E S):X P B A r N (.label l) ao E S Q:=fun a w aq aH=>wpIn_label ⟨ao,E,S,aq,aH,h⟩
theorem Af{P:Program}{b:Frame}{a:Act}{k:List Item}{aF:List Frame}{w:World}{c:Code}:step P (lone (b.atR a (.code (.scope c)::k)) aF w)= .next (lone (b.atR a (.code c:: .inScope c::k)) aF w):=
  step_lone_go (by simp [stepG,stepG.exec,Frame.atR])
theorem V4{P:Program}{b:Frame}{a:Act}{k:List Item}{aF:List Frame}{w:World}{c:Code}:step P (lone (b.atR a (.inScope c::k)) aF w)= .next (lone (b.atR a k) aF w):=
  step_lone_go (by simp [stepG,stepG.exec,Frame.atR])
theorem Wp{F:Fence}{n:Nat}{Q:Exit→Act→World→Prop}{a:Act}{w:World}{c:Code}(h:c.wpIn F n P (fun e a w=>(∀l,e≠ .goto l)∧Q e a w) a w):(Code.scope c).wpIn F n P Q a w:=by
  intro b k aF Br aR a4
  have b5:(lone (b.atR a (.code (.scope c)::k)) aF w).fenced P F:=fenced_calm aR a4 rfl
  obtain⟨e,DK,DL,⟨bl,bF⟩,A5⟩:=h b (.inScope c::k) aF Br aR a4
  cases e with
  |normal=>exact⟨.normal,DK,DL,bF,.head b5 Af (StepsIn.trans A5 (.one (fenced_calm aR a4 rfl) V4))⟩
  |exit id=>
    have al:exitTo id (.inScope c::k)=exitTo id k:=by simp [exitTo]
    exact⟨.exit id,DK,DL,bF,fun hx ai=> .head b5 Af (A5.1 hx (by rw [al];exact ai)),
      fun zG ai=>let⟨afC,ab,ae⟩:=A5.2 zG (by rw [al];exact ai);⟨afC,ab,.head b5 Af ae⟩⟩
  |goto l=>exact(bl l rfl).elim
  |ret=>exact⟨_,DK,DL,bF,.of_steps (.one b5 Af) A5⟩
  |panic akE=>exact⟨_,DK,DL,bF,.of_steps (.one b5 Af) A5⟩
  |outgrown=>exact⟨_,DK,DL,bF,.of_steps (.one b5 Af) A5⟩
def Q5(Q:fw B):fw B
  | .goto _,_,_,_=>False
  |e,ao,E,S=>Q e ao E S
theorem Aq{c:Code}(h:X P B A r N c ao E S (Q5 Q)):X P B A r N (.scope c) ao E S Q:=fun a w aq aH=>Wp (wpIn_mono (h a w aq aH) (by
  rintro e dk kP ⟨Ec,Ix,aU,ta,zz,cy⟩
  cases e with
  |goto l=>exact cy.elim
  |_=>exact⟨by simp,Ec,Ix,aU,ta,zz,cy⟩))
theorem mb(h:Q .ret ao E S):Q5 Q .ret ao E S:=h
def qx:List (Int×Int)→Int→Option Int
  |[],_=>none
  |(a,c)::l,k=>if k=a then some c else qx l k
def x3(es:List MapEntry)(l:List (Int×Int)):Prop:=es.map (fun e=>(e.key,e.val))=l.map fun p=>(Value.int .i64 p.1,Value.int .i64 p.2)
def S8(b:Nat)(f:Int→Option Int):ar B where
  holds D w:=(∀k,D k↔k=b)∧∃es clock l,w.heap[b]?=some (.map es clock)∧x3 es.toList l∧∀k,qx l k=f k
  m2:=fun h aH=>by
    obtain⟨ab,es,ek,l,ae,av⟩:=h
    exact⟨ab,es,ek,l,(aH b (.inr ((ab b).2 rfl))).trans ae,av⟩
theorem IL:∀{es:List MapEntry} {l:List (Int×Int)} (k:Int) (i:Nat),x3 es l→∃r,Instr.findNow (.int .i64) (.int .i64 k) es i=some r∧r.map (·.2)=(qx l k).map (Value.int .i64)
  |[],[],k,i,_=>⟨none,rfl,rfl⟩
  |[],_::_,k,i,h=>by simp [x3]at h
  |_::_,[],k,i,h=>by simp [x3]at h
  |e::es,(a,c)::l,k,i,h=>by
    simp only [x3,List.map_cons,List.cons.injEq,Prod.mk.injEq]at h
    obtain⟨⟨ab,ae⟩,av⟩:=h
    simp only [Instr.findNow,ab,Instr.sameNow,if_true]
    by_cases cb:k=a
    · refine⟨some (i,e.val),by simp [cb],by simp [qx,cb,ae]⟩
    · obtain⟨r,a1,a3⟩:=IL k (i+1) av
      refine⟨r,?_,by simp [qx,cb,a3]⟩
      rw [show(k==a)=false by simp [cb]];exact a1
def zf(P:Program)(t:Nat):Bool:=match P.underlying t with
  |some (.map k e)=>match P.underlying k,P.underlying e,P.info? e with
    |some (.int .i64),some (.int .i64),some i=>match i.zero with
      |some (.int .i64 0)=>true
      |_=>false
    |_,_,_=>false
  |_=>false
theorem I0{t:Nat}(h:zf P t=true):∃k e i,P.underlying t=some (.map k e)∧P.underlying k=some (.int .i64)∧P.info? e=some i∧i.zero=some (.int .i64 0):=by
  unfold zf at h
  split at h
  · rename_i k e hu
    split at h
    · rename_i i ab ae av
      split at h
      · rename_i aS;exact⟨k,e,i,hu,ab,av,aS⟩
      · cases h
    · cases h
  · cases h
theorem IJ{BT:TypeId}{k:Int}{em:Bool}{n:Nat}{w:World}(aJ:P.underlying BT=some (.int .i64)):(Instr.checkKey em (n+1) BT (.int .i64 k)).run P w= .ok () w:=by
  unfold Instr.checkKey
  simp [run_underlying aJ]
theorem WQ{t b:Nat}{f:Int→Option Int}{k:Int}{D:Nat→Prop}{w:World}(aL:zf P t=true)(h:(S8 (B:=B) b f).holds D w)(ok:Bool):
    (Instr.lookup t (.map (some b)) (.int .i64 k) ok).run P w= .ok (if ok then .tuple #[.int .i64 ((f k).getD 0),.bool (f k).isSome]else .int .i64 ((f k).getD 0)) w:=by
  obtain⟨BT,e,i,ab,ae,av,aV⟩:=I0 aL
  obtain⟨_,es,ek,l,a1,a3,bI⟩:=h
  obtain⟨r,e2,cD⟩:=IL k 0 a3
  rw [bI]at cD
  cases bs:f k with
  |none=>
    rw [bs]at cD
    have a4:r=none:=by cases r with
      |none=>rfl
      |some p=>simp at cD
    subst a4
    cases ok<;>simp [Instr.lookup,run_underlying ab,MapKept.run_getObj_map a1,IJ ae,Instr.findKey,run_underlying ae,e2,zeroValue,typeInfo,av,aV]
  |some c=>
    rw [bs]at cD
    obtain⟨p,rfl⟩:∃p,r=some p:=by cases r with
      |none=>simp at cD
      |some p=>exact⟨p,rfl⟩
    simp at cD
    obtain⟨j,v⟩:=p
    simp only at cD;subst cD
    cases ok<;>simp [Instr.lookup,run_underlying ab,MapKept.run_getObj_map a1,IJ ae,Instr.findKey,run_underlying ae,e2]
theorem Za{cB:Bool}{K bc:List (ar B)}{n:Nat}{listed:Array Bool}(a7:∀w,bC B A (K++S) w→bC B A (K++bc) w)(h:eY cB P B A r N ops K n listed ao E bc Q):eY cB P B A r N ops K n listed ao E S Q:=
  fun a w aq aH=>h a w aq (a7 w aH)
theorem NY{cB:Bool}{K:List (ar B)}{m:Nat}{listed:Array Bool}{b e:Nat}{aF:List Value}(n aN:Nat)(aq:Out (U b aF e) S R)(aE:Nat.beq aF.length (n*aN)=true)(aP:Nat.ble n 9223372036854775807=true)(h:eY cB P B A r N ops K m listed ao E (row (.slice (some ⟨b,0,none⟩) n n) e aN n aF::R) Q):eY cB P B A r N ops K m listed ao E S Q:=
  Za (fun w aH=>by
    have ab:=aH.JI (aq.pre K) (Nat.eq_of_beq_eq_true aE) (by unfold maxLen;have:=Nat.le_of_ble_eq_true aP;omega)
    have ae:bC B A ([row (.slice (some ⟨b,0,none⟩) n n) e aN n aF]++(K++R)) w:=ab
    simpa using ae.mid) h
theorem di.dup{f:FuncId}{args:List Value}{K:ar B}{post:Value→List (ar B)→Prop}(h:di P B f args (K::S) post)(aq:Out K S R)(aJ:hK K):di P B f args S post:=fun w D aH bU h1=>h w D (aH.dup aq aJ) bU h1
end Go.Sl
end
section
namespace Go.Sl
open Go
variable{P:Program}{B:Nat}{A:e0}{r:Option Nat}{N:Nat}{ao:List Nat}{E fK:Env}{S aU R kn L F Fr own K:List (ar B)}{Q ik:fw B}{ops:Array Oper}{cB:Bool}
variable{d:Nat}{bg:TypeId}{pos:String}{a8:Array Edge}{g:Option (Nat×Bool)}
theorem An{n i:Nat}{listed:Array Bool}{l:Nat}{f:Operand}{xs:List Operand}{args:List Value}{dC:Array TypeId}{hM F Z:List (ar B)}{post:Bool→List (ar B)→Prop}
    (af:ops[i]?=some ⟨some d,.call {callee:= .value f,args:=xs.toArray,argTypes:=dC},bg,pos,a8,g⟩) (hw:Want ops N E g) (bs:aX E f=some (.func (.yield l) #[] #[])) (a5:g9 E xs=some args) (jm:hh K S Z) (aZ:oP P B l args hM post) (aL:Take hM Z F) (aJ:Nat.blt d N=true)
    (h:∀b bc,post b bc→∃bh nj R,hh K bh nj∧Take nj (bc++F) R∧eY cB P B A r N ops K n (listed.setIfInBounds i true) ao ((d,.bool b)::E) bh Q):jO cB P B A r N ops K n listed i ao E S Q:=by
  intro a w aq aH
  unfold wpOpIn
  simp only [af]
  rw [if_pos (Want.wanted (o:=⟨some d,.call {callee:= .value f,args:=xs.toArray,argTypes:=dC},bg,pos,a8,g⟩) hw aq)]
  refine⟨fun _ _=>trivial,?_⟩
  have jE:=aq.g9 a5
  have fB:=aH.size
  have kh:bC B A Z w:=by rw [←jm.eq];exact aH
  obtain⟨D,a1,a3,bI,cv,eX,fJ⟩:=kh.take aL
  obtain⟨ij,ng,bU,gT,iG,h2⟩:=a1.append
  obtain⟨fn,tmps,assign,body,hG,nt⟩:=aZ w ij iG (fun k ai=>a3 k ((bU k).2 (.inl ai))) fB
  rw [Oper.semAt_eq _ _ _ (by simp)]
  have e:(execOp a.eval ⟨some d,.call {callee:= .value f,args:=xs.toArray,argTypes:=dC},bg,pos,a8,g⟩).run P w= .ok (.round l fn tmps assign body) w:=by
    simp only [execOp,resolve,aq.aX bs,Sem.run_bind]
    simp [Deferred.ofValue,invoke,jE,hG]
  rw [e]
  refine⟨by simp [Fence.wide],?_⟩
  refine RoundIn.mono nt ?_
  rintro e ca ⟨b,bc,rfl,aC,fo⟩
  obtain⟨bh,nj,R,cy,bR,gD⟩:=h b bc aC
  refine gD _ ca (aq.put (by simpa using aJ)) ?_
  rw [cy.eq];exact(bC.pg a1 a3 bI cv eX fJ bU gT h2 fo).nz bR
variable{w:World}{v:Value}
theorem KV{α:Type}{a2:α→List Value}{bn:Option Addr}{c n aN k:Nat}{xs qw:List α}{t e i:Nat}{a y:α}{x z:Operand}(jW:∀bu,bn=some bu→∃g,bu=⟨g,0,none⟩)
    (al:aX E x=some (.pointer (some ((bn.getD ⟨0,0,none⟩).add (i*aN+k))))) (aZ:aX E z=some v) (he:∀a,(a2 a).length=aN) (ai:k<aN) (a5:xs[i]?=some a) (cL:(a2 a).set k v=a2 y) (ab:v.oneCell'=true) (dV:Out (row (.slice bn n c) e aN n (xs.flatMap a2)) S R) (aL:hA P t=some (false,1))
    (kh:xs.set i y=qw):pG P B A N ao E S (.store t x z) (row (.slice bn n c) e aN n (qw.flatMap a2)::R):=
  ⟨by simp,fun jl w bg pos a8 g aq aH=>by
    have af:i<xs.length:=(List.getElem?_eq_some_iff.1 a5).1
    have sj:∀l:List α,(l.flatMap a2).length=l.length*aN:=fun l=>rM (aN:=aN) he (l:=l)
    have fo:bC B A (row (.slice bn n c) e aN n (xs.flatMap a2)::R) w:=aH.take (.cons dV (.nil _))
    have ey:i*aN+k<xs.length*aN:=by
      have av:(i+1)*aN≤xs.length*aN:=Nat.mul_le_mul_right _ af
      rw [Nat.succ_mul]at av;omega
    cases bn with
    |none=>
      obtain⟨D,⟨⟨ae,av⟩,_⟩⟩:=fo.mem (.here _ _)
      rcases av with⟨_,av⟩|⟨g,cap,dR,cL,_⟩
      · rw [sj,av]at ae;omega
      · cases cL
    |some bu=>
      obtain⟨b,rfl⟩:=jW bu rfl
      have al:aX E x=some (.pointer (some ⟨b,i*aN+k,none⟩)):=by rw [al];simp [nq]
      obtain⟨dR,aR,a1,a3,bI,cv,eX,fJ⟩:=fo.IZ
      rw [sj]at a1
      have aP:n*aN≤c*aN:=Nat.mul_le_mul_right _ bI
      obtain⟨D,mf⟩:=aR.mem (.here _ _)
      refine⟨w.setCell ⟨b,i*aN+k,none⟩ v,by simp [execOp,aq.aX al,aq.aX aZ,IP (k:=i*aN+k) ab aL (by omega) mf.2],?_⟩
      refine(aR.store (i*aN+k) v).FN (by rw [sj, ←kh,List.length_set];exact a1) a3 bI cv (by simpa using eX) ?_
      have xR:∀(l:List α) (i:Nat),l[i]?=some a→(l.flatMap a2).set (i*aN+k) v=(l.set i y).flatMap a2:=by
        intro l
        induction l with
        |nil=>intro i af;simp at af
        |cons u l ih=>
          intro i af
          cases i with
          |zero=>
            have hu:u=a:=by simpa using af
            subst hu
            rw [Nat.zero_mul,Nat.zero_add,List.flatMap_cons,List.set_append_left _ _ (by rw [he];exact ai),cL];rfl
          |succ i=>
            rw [List.flatMap_cons,List.set_append_right _ _ (by rw [he,Nat.succ_mul];omega),he,show(i+1)*aN+k-aN=i*aN+k by rw [Nat.succ_mul];omega,ih i (by simpa using af)];rfl
      rw [List.take_set,fJ,xR xs i a5,kh]⟩
end Go.Sl
end
section
namespace Go.Sl
open Go
variable{P:Program}{B:Nat}{A:e0}{r:Option Nat}{N:Nat}{ao:List Nat}{E:Env}{S R:List (ar B)}{Q:fw B}
theorem Ar{x:Operand}{t:Nat}{m:Int}{a:BitVec 32}(al:aX E x=some (.int .u32 m))(a5:BitVec.ofInt 32 m=a):dw P B A N ao E S (.unOp .xor t x) (.int .u32 ((~~~a).toNat:Int)):=
  ⟨by simp,by simp,fun ac w bg pos a8 g d aq aH=>by
    have ab:BitVec.ofInt 32 (IntKind.u32.max)^^^BitVec.ofInt 32 m= ~~~a:=by
      rw [a5,show BitVec.ofInt 32 (IntKind.u32.max)=BitVec.allOnes 32 by decide,BitVec.allOnes_xor]
    have e:(Op.unary .xor (.int .u32 m):Sem Value)=pure (.int .u32 ((~~~a).toNat:Int)):=by
      show(pure (.int .u32 (IntKind.u32.wrap ((BitVec.ofInt 32 IntKind.u32.max^^^BitVec.ofInt 32 m).toNat:Int))):Sem Value)=_
      rw [ab,Gc]
    simp only [execOp,aq.aX al,e]
    rfl⟩
theorem A6{op:Op}{v fU:Value}(h:dw P B A N ao E S op v)(e:v=fU):dw P B A N ao E S op fU:=e▸h
theorem Sd{op:Op}{v fU:Value}(h:nB P N ao E op v)(e:v=fU):nB P N ao E op fU:=e▸h
variable{F L K Z:List (ar B)}{ops:Array Oper}{rest:List Oper}{d:Nat}{bg:TypeId}{pos:String}{a8:Array Edge}{g:Option (Nat×Bool)}{cB:Bool}
theorem NZ{bm:FuncId}{iP:Operand}{xs:List Operand}{args e7:List Value}{dC:Array TypeId}{a:Act}{w:World}(aq:dO N ao E a)(he:Go.Proofs.Enters P bm)(Eg:aX E iP=some (.func (.func bm) #[] e7.toArray))(a5:g9 E xs=some args):
    (execOp a.eval ⟨some d,.call {callee:= .value iP,args:=xs.toArray,argTypes:=dC},bg,pos,a8,g⟩).run P w= .ok (.enter bm (args++e7).toArray) w:=by
  have jE:=aq.g9 a5
  simp only [execOp,resolve,aq.aX Eg,Sem.run_bind]
  have ae:=he (args++e7).toArray w
  simp [Deferred.ofValue,invoke,jE]at ae⊢
  exact ae
theorem Ao{bm:FuncId}{iP:Operand}{xs:List Operand}{args e7:List Value}{dC:Array TypeId}{pre:List (ar B)}{post:Value→List (ar B)→Prop}(hw:Want ops N E g)(he:Go.Proofs.Enters P bm)(Eg:aX E iP=some (.func (.func bm) #[] e7.toArray))
    (a5:g9 E xs=some args) (bs:di P B bm (args++e7) pre post) (aL:Take pre S F) (aJ:Nat.blt d N=true)
    (h:∀v bc,post v bc→cg P B A r N ops rest ao ((d,v)::E) (bc++F) Q):
    cg P B A r N ops (⟨some d,.call {callee:= .value iP,args:=xs.toArray,argTypes:=dC},bg,pos,a8,g⟩::rest) ao E S Q:=by
  intro a w aq aH
  simp only [wpListIn]
  rw [if_pos (Want.wanted (o:=⟨some d,.call {callee:= .value iP,args:=xs.toArray,argTypes:=dC},bg,pos,a8,g⟩) hw aq)]
  refine⟨fun _ _=>trivial,?_⟩
  rw [Oper.semAt_eq _ _ _ (by simp)]
  rw [NZ aq he Eg a5]
  have kh:=aH.take aL
  obtain⟨D,a1,a3,bI,cv,eX,fJ⟩:=kh
  obtain⟨ij,ng,bU,gT,iG,h2⟩:=a1.append
  refine⟨by simp [Fence.wide],?_⟩
  refine CallsIn.mono (bs w ij iG (fun k ai=>a3 k ((bU k).2 (.inl ai))) aH.size) ?_
  rintro e ca ⟨v,bc,rfl,aC,fo⟩
  refine h v bc aC _ ca (aq.put (by simpa using aJ)) ?_
  exact bC.pg a1 a3 bI cv eX fJ bU gT h2 fo
theorem OL{n i:Nat}{listed:Array Bool}{bm:FuncId}{iP:Operand}{xs:List Operand}{args e7:List Value}{dC:Array TypeId}{pre F:List (ar B)}{post:Value→List (ar B)→Prop}
    (af:ops[i]?=some ⟨some d,.call {callee:= .value iP,args:=xs.toArray,argTypes:=dC},bg,pos,a8,g⟩) (hw:Want ops N E g) (he:Go.Proofs.Enters P bm) (Eg:aX E iP=some (.func (.func bm) #[] e7.toArray)) (a5:g9 E xs=some args) (jm:hh K S Z) (bs:di P B bm (args++e7) pre post) (aL:Take pre Z F) (aJ:Nat.blt d N=true)
    (h:∀v bc,post v bc→∃bh nj R,hh K bh nj∧Take nj (bc++F) R∧eY cB P B A r N ops K n (listed.setIfInBounds i true) ao ((d,v)::E) bh Q):jO cB P B A r N ops K n listed i ao E S Q:=by
  intro a w aq aH
  unfold wpOpIn
  simp only [af]
  rw [if_pos (Want.wanted (o:=⟨some d,.call {callee:= .value iP,args:=xs.toArray,argTypes:=dC},bg,pos,a8,g⟩) hw aq)]
  refine⟨fun _ _=>trivial,?_⟩
  rw [Oper.semAt_eq _ _ _ (by simp)]
  rw [NZ aq he Eg a5]
  have fB:=aH.size
  have kh:bC B A Z w:=by rw [←jm.eq];exact aH
  obtain⟨D,a1,a3,bI,cv,eX,fJ⟩:=kh.take aL
  obtain⟨ij,ng,bU,gT,iG,h2⟩:=a1.append
  refine⟨by simp [Fence.wide],?_⟩
  refine CallsIn.mono (bs w ij iG (fun k ai=>a3 k ((bU k).2 (.inl ai))) fB) ?_
  rintro e ca ⟨v,bc,rfl,aC,fo⟩
  obtain⟨bh,nj,R,cy,bR,gD⟩:=h v bc aC
  refine gD _ ca (aq.put (by simpa using aJ)) ?_
  rw [cy.eq];exact(bC.pg a1 a3 bI cv eX fJ bU gT h2 fo).nz bR
def S9(P:Program)(B:Nat)(bm:FuncId)(e7:List Value)(own:List (ar B))(W:ar B)(xs:List (List Value)):Prop:=
  ∀(l:Nat) (J hc:Nat→List (ar B)→Prop) (cV:List (ar B)),(∀i S,J i S→∃R,Out W S R)→J 0 cV→
    (∀i S,i<xs.length→J i S→oP P B l (xs.getD i []) S fun b bc=>(b=true∧J (i+1) bc)∨(b=false∧hc i bc))→
    di P B bm (.func (.yield l) #[] #[]::e7) (own++cV) fun _ bc=>∃aU,bc=own++aU∧(J xs.length aU∨∃i,i<xs.length∧hc i aU)
section
variable{fK:Env}{aU kn Fr own:List (ar B)}{ik:fw B}
theorem OM{W:ar B}{f:Operand}{bX:List Nat}{assign body:Code}{bm:FuncId}{e7:List Value}{xs:List (List Value)}(bs:aX E f=some (.func (.func bm) #[] e7.toArray))(he:Go.Proofs.Enters P bm)(tW:S9 P B bm e7 own W xs)
    (J:Nat→List (ar B)→Prop) (iO:Code→Nat→List (ar B)→Prop) (aL:Take (own++aU) S Fr) (bo:J 0 aU) (ahd:∀i S,J i S→∃R,Out W S R) (ly:bX.all (Nat.blt · N)=true) (hlen:∀x∈xs,x.length=bX.length)
    (nt:∀(l:Nat) (rec:Loop) (mr:e0) (i:Nat) (bc:List (ar B)),i<xs.length→J i bc→X P B mr (some l) N assign [] (Env.q0 bX (xs.getD i []) E) (obj l (.loop rec)::bc) (zd P mr N body l rec J iO i))
    (rW:∀ct bc,J xs.length bc→Q .normal (ct::ao) E (dl ct::(own++(bc++Fr))))
    (rX:∀ct c i bc,i<xs.length→iO c i bc→X P B A none N c (ct::ao) E (dl ct::(own++(bc++Fr))) Q):
    X P B A none N (.rangeFunc f bX.toArray assign body) ao E S Q:=by
  intro a w aq aH
  refine wpIn_rangeFunc ?_
  intro fn _
  have oQ:=(aH.take aL).new (.deferred (some []))
  have hJ:=oQ.new (.loop {state:= .ready,pending:=none,fn,tmps:=a.tmps,params:=bX.toArray,assign,body,defers:=w.heap.size})
  simp only [World.size_alloc]at hJ
  obtain⟨fQ,tX⟩:∃fQ,(w.alloc (.deferred (some []))).alloc (.loop {state:= .ready,pending:=none,fn,tmps:=a.tmps,params:=bX.toArray,assign,body,defers:=w.heap.size})=fQ:=⟨_,rfl⟩
  have j8:=run_enterLoop_outer (P:=P) (w:=w) fn a.tmps bX.toArray assign body
  rw [tX]at hJ j8
  generalize aE:w.heap.size+1=l at hJ j8
  generalize w.heap.size=ct at oQ hJ j8
  have oR:bC B A ((own++(obj l (.loop {state:= .ready,pending:=none,fn,tmps:=a.tmps,params:=bX.toArray,assign,body,defers:=ct})::([dl ct]++aU)))++Fr) fQ:=by
    have ab:bC B A ([obj l (.loop {state:= .ready,pending:=none,fn,tmps:=a.tmps,params:=bX.toArray,assign,body,defers:=ct}),dl ct]++(own++(aU++Fr))) fQ:=by simpa using hJ
    have ae:=ab.mid
    simpa using ae
  refine⟨l,[{target:= .collected ct,args:= #[]}],fQ,{target:= .fn (.func bm) e7.toArray,args:= #[.func (.yield l) #[] #[]]},fQ,bm, #[.func (.yield l) #[] #[]]++e7.toArray,fQ,j8,?_,fun _ _=>trivial,?_,fun _=>by simp_all [Fence.wide],?_⟩
  · simp only [resolve,aq.aX bs]
    simp [Deferred.ofValue,Act.eval]
  · simpa [invoke]using he (Value.func (.yield l) #[] #[]::e7).toArray fQ
  · have ei:dO N [] E {tmps:=a.tmps,defers:=[]}:=⟨aq.size,rfl,aq.get⟩
    have tL:=tW l (fun i S=>∃cS,S=obj l (.loop {state:= .ready,pending:=none,fn,tmps:=a.tmps,params:=bX.toArray,assign,body,defers:=ct})::([dl ct]++cS)∧J i cS)
      (fun i S=>∃c cS,S=obj l (.loop {state:= .done,pending:=some c,fn,tmps:=a.tmps,params:=bX.toArray,assign,body,defers:=ct})::([dl ct]++cS)∧iO c i cS) _ (fun i S ⟨cS,dj,av⟩=>by subst dj;obtain⟨R,h⟩:=ahd i cS av;exact⟨_,.there _ (Out.pre h [dl ct])⟩) ⟨aU,rfl,bo⟩
      (fun i S af ⟨cS,dj,oS⟩=>by
        subst dj
        exact Ai ei ly hlen af oS nt)
    have fB:=oR.size
    obtain⟨D,a1,a3,bI,cv,eX,fJ⟩:=oR
    obtain⟨ij,ng,bU,gT,iG,h2⟩:=a1.append
    have oz:=tL fQ ij iG (fun k ai=>a3 k ((bU k).2 (.inl ai))) fB
    have jE:(Value.func (.yield l) #[] #[]::e7).toArray= #[.func (.yield l) #[] #[]]++e7.toArray:=by simp
    rw [jE]at oz
    refine CallsIn.mono oz ?_
    rintro e E4 ⟨v,bh,rfl,aC,fo⟩
    have r8:=bC.pg a1 a3 bI cv eX fJ bU gT h2 fo
    have tM:dO N (ct::ao) E {a with defers:=[{target:= .collected ct,args:= #[]}]++a.defers}:=⟨aq.size,by simp [aq.qd,xp],aq.get⟩
    exact Aj (rec:=fun s c=>{state:=s,pending:=c,fn,tmps:=a.tmps,params:=bX.toArray,assign,body,defers:=ct}) (fun s c=>⟨rfl,rfl⟩) (kA:=[dl ct]) tM r8 aC (fun bc h=>rW ct bc h) (fun c i bc af h=>rX ct c i bc af h)
end
end Go.Sl
end
section
namespace Go.Sl
open Go
variable{P:Program}{B:Nat}{A:e0}{r:Option Nat}{N:Nat}{ao:List Nat}{E fK:Env}{S R L F:List (ar B)}{Q ik:fw B}{ops:Array Oper}{rest:List Oper}
def Lr(P:Program)(t f:Nat):Option (Nat×Nat):=match P.underlying t with
  |some (.struct lJ)=>match lJ[f]? with
    |some fd=>match P.info? fd.type with
      |some i=>if p4 P fd.type=true∧(P.underlying fd.type).isSome then some (fd.offset,i.size)else none
      |none=>none
    |none=>none
  |_=>none
theorem XS{t f o n:Nat}{x:Operand}{aF bK:List Value}(al:aX E x=some (.agg aF.toArray))(aL:Lr P t f=some (o,n))(cL:(aF.drop o).take n=bK):dw P B A N ao E S (.field t x f) (.agg bK.toArray):=
  ⟨by simp,by simp,fun a w bg pos a8 g d aq aH=>by
    unfold Lr at aL
    split at aL
    · rename_i lJ hu
      split at aL
      · rename_i fd bs
        split at aL
        · rename_i i n1
          split at aL
          · rename_i a7
            simp only [Option.some.injEq,Prod.mk.injEq]at aL
            obtain⟨ab,ae⟩:=aL
            obtain⟨tV,Ee⟩:=Option.isSome_iff_exists.1 a7.2
            have av:aF.toArray.extract o (o+n)=bK.toArray:=by
              rw [←cL];apply Array.ext'
              simp [List.extract_eq_take_drop]
            subst ab ae
            simp only [execOp,aq.aX al]
            simp [Instr.field,run_underlying hu,bs,part,asAgg,sizeOf,typeInfo,n1,FL Ee,a7.1]
            simpa using av
          · cases aL
        · cases aL
      · cases aL
    · cases aL⟩
theorem AP{c:Code}(F:Nat→ar B){i a:Nat}(af:i<2)(a5:a<2)(t:Take [F a,F (1-a)] S R)(h:X P B A r N c ao E (F i::F (1-i)::R) Q):X P B A r N c ao E S Q:=by
  by_cases e:i=a
  · subst e;exact fun b w aq aH=>h b w aq (aH.take t)
  · obtain rfl:i=1-a:=by omega
    have cq:1-(1-a)=a:=by omega
    rw [cq]at h
    exact fun b w aq aH=>h b w aq (by
      have ae:bC B A (F a::F (1-a)::R) w:=aH.take t
      exact ae.take (show Take [F (1-a),F a] (F a::F (1-a)::R) R from Take.cons (Out.there _ (Out.here _ _)) (Take.cons (Out.here _ _) (Take.nil _))))
end Go.Sl
end
section
namespace Go.Sl
open Go
variable{P:Program}{B:Nat}{A:e0}{r:Option Nat}{N:Nat}{ao:List Nat}{E fK:Env}{S R L F:List (ar B)}{Q ik:fw B}{ops:Array Oper}{rest:List Oper}
def all(l:List (ar B)):ar B where
  holds D w:=ee l D w
  m2:=ee.m2
theorem bC.all_nil{w:World}(h:bC B A S w):bC B A (all []::S) w:=by
  obtain⟨D,ab,ae⟩:=h
  exact⟨D,⟨fun _=>False,D,fun k=>by simp,fun _ h _=>h,fun _ h=>h,ab⟩,ae⟩
theorem tr{c:Code}(h:X P B A r N c ao E (all []::S) Q):X P B A r N c ao E S Q:=fun a w aq aH=>h a w aq aH.all_nil
theorem bC.P2{w:World}{l m:List (ar B)}(t:Take (l++[all m]) S R)(h:bC B A S w):bC B A (all (l++m)::R) w:=by
  have ab:=h.take t
  rw [List.append_assoc]at ab
  obtain⟨D,g,a3⟩:=ab
  obtain⟨dm,dY,e,aJ,e2,cD⟩:=g.append
  obtain⟨jk,jB,fP,ua,kp,od⟩:=cD
  have kp:ee m jk w:=kp
  refine⟨D,⟨fun k=>dm k∨jk k,jB,fun k=>by rw [e k,fP k,or_assoc],fun k a b=>a.elim (fun a=>aJ k a ((fP k).2 (.inr b))) (fun a=>ua k a b),?_,od⟩,a3⟩
  exact ee.join (fun _=>Iff.rfl) (fun k a b=>aJ k a ((fP k).2 (.inl b))) e2 kp
theorem WR{c:Code}(l:List (ar B)){m:List (ar B)}(t:Take (l++[all m]) S R)(h:X P B A r N c ao E (all (l++m)::R) Q):X P B A r N c ao E S Q:=fun a w aq aH=>h a w aq (aH.P2 t)
theorem Wq{c:List Oper}(l:List (ar B)){m:List (ar B)}(t:Take (l++[all m]) S R)(h:cg P B A r N ops c ao E (all (l++m)::R) Q):cg P B A r N ops c ao E S Q:=fun a w aq aH=>h a w aq (aH.P2 t)
theorem yE{c:Code}(a:ar B){m:List (ar B)}(t:Take [a,all m] S R)(h:X P B A r N c ao E (all (a::m)::R) Q):X P B A r N c ao E S Q:=WR [a] t h
theorem FC{c:List Oper}(a:ar B){m:List (ar B)}(t:Take [a,all m] S R)(h:cg P B A r N ops c ao E (all (a::m)::R) Q):cg P B A r N ops c ao E S Q:=Wq [a] t h
theorem nU{l:List (ar B)}{a:ar B}{bu:Addr}{xs:List Value}(h:a∈l)(a4:dI a bu xs):dI (all l) bu xs:=fun D w hw k ai=>by
  obtain⟨fY,g8,rfl⟩:=List.append_of_mem h
  have hw:ee (fY++a::g8) D w:=hw
  obtain⟨jk,jB,fP,ua,e2,cD⟩:=(Out.gi (L:=fY) (Out.here a g8)).mP hw
  exact a4 jk w e2 k ai
end Go.Sl
end
section
namespace Go.Sl
open Go
variable{P:Program}{B:Nat}{A:e0}{r:Option Nat}{N:Nat}{ao:List Nat}{E fK:Env}{S bc R L F K:List (ar B)}{Q ik:fw B}{ops:Array Oper}{rest:List Oper}{cB:Bool}
def gK(S bc:List (ar B)):Prop:=∀D w,ee S D w→ee bc D w
theorem gK.trans{T:List (ar B)}(h:gK S bc)(eE:gK bc T):gK S T:=fun D w q=>eE D w (h D w q)
theorem ov(t:Take L S R):gK S (L++R):=fun D w h=>t.mP h
theorem sL{l:List (ar B)}(t:Take l S R):gK S (all l::R):=fun D w h=>(t.mP h).append
theorem Ge{l:List (ar B)}(t:Take [all l] S R):gK S (l++R):=fun D w h=>by
  obtain⟨dm,dY,e,aJ,a1,a3⟩:=t.mP h
  exact ee.join e aJ a1 a3
theorem Cv{l m:List (ar B)}(t:Take [all (l++m)] S R):gK S (l++all m::R):=fun D w h=>by
  obtain⟨dm,dY,e,aJ,a1,a3⟩:=t.mP h
  have a1:ee (l++m) dm w:=a1
  obtain⟨jk,jB,fP,ua,e2,cD⟩:=a1.append
  refine ee.join (dm:=jk) (dY:=fun k=>jB k∨dY k) (fun k=>by rw [e k,fP k,or_assoc]) (fun k a b=>b.elim (ua k a) (fun b=>aJ k ((fP k).2 (.inl a)) b)) e2 ⟨jB,dY,fun _=>Iff.rfl,fun k a b=>aJ k ((fP k).2 (.inr a)) b,cD,a3⟩
theorem GG{l m:List (ar B)}(t:Take (l++[all m]) S R):gK S (all (l++m)::R):=fun D w h=>by
  have ab:=t.mP h
  rw [List.append_assoc]at ab
  obtain⟨dm,dY,e,aJ,e2,cD⟩:=ab.append
  obtain⟨jk,jB,fP,ua,kp,od⟩:=cD
  have kp:ee m jk w:=kp
  exact⟨fun k=>dm k∨jk k,jB,fun k=>by rw [e k,fP k,or_assoc],fun k a b=>a.elim (fun a=>aJ k a ((fP k).2 (.inr b))) (fun a=>ua k a b),ee.join (fun _=>Iff.rfl) (fun k a b=>aJ k a ((fP k).2 (.inl b))) e2 kp,od⟩
theorem yM(a:ar B){m:List (ar B)}(t:Take [a,all m] S R):gK S (all (a::m)::R):=GG (l:=[a]) t
theorem yR:gK S (all []::S):=fun D w h=>⟨fun _=>False,D,fun k=>by simp,fun _ h _=>h,fun _ h=>h,h⟩
theorem gK.cH{w:World}(h:gK S bc)(aH:bC B A S w):bC B A bc w:=let⟨D,ab,ae⟩:=aH;⟨D,h D w ab,ae⟩
theorem gK.pre(h:gK S bc):gK (K++S) (K++bc):=fun D w q=>by
  obtain⟨dm,dY,e,aJ,e2,cD⟩:=q.append
  exact ee.join e aJ e2 (h _ _ cD)
theorem sa{c:Code}(h:gK S bc)(k:X P B A r N c ao E bc Q):X P B A r N c ao E S Q:=fun a w aq aH=>k a w aq (h.cH aH)
theorem hr{c:List Oper}(h:gK S bc)(k:cg P B A r N ops c ao E bc Q):cg P B A r N ops c ao E S Q:=fun a w aq aH=>k a w aq (h.cH aH)
theorem adu{n i:Nat}{listed:Array Bool}(h:gK S bc)(k:jO cB P B A r N ops K n listed i ao E bc Q):jO cB P B A r N ops K n listed i ao E S Q:=fun a w aq aH=>k a w aq (h.pre.cH aH)
theorem N0:∀(bK aF:List Value) (pre:List Value),aF.length=bK.length→setAt (pre++aF) pre.length bK=pre++bK
  |[],aF,pre,h=>by rw [List.length_eq_zero_iff.1 h];rfl
  |v::bK,[],pre,h=>by cases h
  |v::bK,c::aF,pre,h=>by
    rw [setAt]
    have e:(pre++c::aF).set pre.length v=(pre++[v])++aF:=by simp
    have cq:pre.length+1=(pre++[v]).length:=by simp
    rw [e,cq,N0 bK aF (pre++[v]) (by simpa using h)];simp
theorem Ci:∀(bK aF pre:List Value),bK.length≤aF.length→setAt (pre++aF) pre.length bK=pre++bK++aF.drop bK.length
  |[],aF,pre,_=>by simp [setAt]
  |v::bK,[],pre,h=>by simp at h
  |v::bK,c::aF,pre,h=>by
    rw [setAt]
    have e:(pre++c::aF).set pre.length v=(pre++[v])++aF:=by simp
    have cq:pre.length+1=(pre++[v]).length:=by simp
    rw [e,cq,Ci bK aF (pre++[v]) (by simpa using h)];simp
theorem adv{c6 c1 bW eF z:List Value}{fx et hV z9 iQ E5:Nat}(b5:c6.length=fx)(ab:c1.length=et)(ae:bW.length=hV)(av:eF.length=z9)(cq:iQ=fx+et)(fP:E5=fx+et+hV)(aS:z.length=fx+et+hV+z9):
    rV [(0,fx),(fx,et),(iQ,hV),(E5,z9)] z [(0,.agg c6.toArray),(1,.agg c1.toArray),(2,.agg bW.toArray),(3,.agg eF.toArray)]=some (c6++c1++bW++eF):=by
  subst b5 ab ae av cq fP
  have dZ:=Ci c6 z [] (by omega)
  simp only [List.nil_append,List.length_nil]at dZ
  have dk:=Ci c1 (z.drop c6.length) c6 (by rw [List.length_drop];omega)
  have cI:=Ci bW ((z.drop c6.length).drop c1.length) (c6++c1) (by rw [List.length_drop,List.length_drop];omega)
  have rG:=Ci eF (((z.drop c6.length).drop c1.length).drop bW.length) (c6++c1++bW) (by rw [List.length_drop,List.length_drop,List.length_drop];omega)
  have yA:((((z.drop c6.length).drop c1.length).drop bW.length).drop eF.length)=[]:=by rw [List.drop_drop,List.drop_drop,List.drop_drop,List.drop_eq_nil_iff];omega
  rw [List.length_append]at cI
  rw [List.length_append,List.length_append]at rG
  have b:∀m k:Nat,m≤k→(Nat.beq m m&&Nat.ble m k)=true:=fun m k h=>by simp [h]
  simp only [rV,List.getElem?_cons_zero,List.getElem?_cons_succ,Value.cells]
  rw [show(Nat.beq c6.toArray.toList.length c6.length&&Nat.ble (0+c6.length) z.length)=true by simp;omega]
  simp only [cond_true]
  rw [dZ]
  rw [show(Nat.beq c1.toArray.toList.length c1.length&&Nat.ble (c6.length+c1.length) (c6++z.drop c6.length).length)=true by simp;omega]
  simp only [cond_true]
  rw [dk]
  rw [show(Nat.beq bW.toArray.toList.length bW.length&&Nat.ble (c6.length+c1.length+bW.length) (c6++c1++(z.drop c6.length).drop c1.length).length)=true by simp;omega]
  simp only [cond_true]
  rw [cI]
  rw [show(Nat.beq eF.toArray.toList.length eF.length&&Nat.ble (c6.length+c1.length+bW.length+eF.length) (c6++c1++bW++((z.drop c6.length).drop c1.length).drop bW.length).length)=true by simp;omega]
  simp only [cond_true]
  rw [rG,yA,List.append_nil]
theorem G4{aF z:List Value}{aN:Nat}(h:aF.length=aN):rV ((List.range 1).map fun i=>(i*aN,aN)) ((List.range (1*aN)).map (z.toArray[· %z.length]!)) [(0,.agg aF.toArray)]=some aF:=by
  have e:(List.range 1).map (fun i=>(i*aN,aN))=[(0,aN)]:=by simp
  rw [e]
  generalize aS:(List.range (1*aN)).map (z.toArray[· %z.length]!)=MY
  have aE:MY.length=aF.length:=by rw [←aS];simp [h]
  simp only [rV,List.getElem?_cons_zero,Value.cells]
  rw [show(Nat.beq aF.toArray.toList.length aN&&Nat.ble (0+aN) MY.length)=true by simp [h,aE]]
  have:=N0 aF MY [] aE
  simpa using this
theorem yN{c:List Oper}(t:Take L S R)(h:cg P B A r N ops c ao E L Q):cg P B A r N ops c ao E S Q:=fun a w aq aH=>h a w aq (aH.nz t)
theorem GH{c:Code}(t:Take L S R)(h:X P B A r N c ao E L Q):X P B A r N c ao E S Q:=fun a w aq aH=>h a w aq (aH.nz t)
theorem yO{fn:Func}{p q u t gd t2 b h3 aK:Nat}{v:Value}{fU v2:Value}{dv zC L7:TypeId}{aU bh cS:List (ar B)}(h:fn.results= #[.cell p t,.cell q gd,.cell u t2])(aC:E.get p=some (.pointer (some ⟨b,0,none⟩)))(bF:E.get q=some (.pointer (some ⟨h3,0,none⟩)))(hu:E.get u=some (.pointer (some ⟨aK,0,none⟩)))(aq:Out (U b [v] dv) S aU)(dV:Out (U h3 [fU] zC) S bh)(hI:Out (U aK [v2] L7) S cS)(aL:hA P t=some (false,1))(wG:hA P gd=some (false,1))(L8:hA P t2=some (false,1)):
    ∀a w,dO N ao E a→bC B A S w→(results fn a.tmps).run P w= .ok (.tuple #[v,fU,v2]) w:=by
  intro a w ei aH
  obtain⟨D,bO⟩:=aH.mem aq
  obtain⟨su,zD⟩:=aH.mem dV
  obtain⟨dY,L9⟩:=aH.mem hI
  have aE:=ux (P:=P) (w:=w) (p:=⟨b,0,none⟩) aL (v:=v) (lQ D w bO 0 (by simp))
  have oV:=ux (P:=P) (w:=w) (p:=⟨h3,0,none⟩) wG (v:=fU) (lQ su w zD 0 (by simp))
  have qy:=ux (P:=P) (w:=w) (p:=⟨aK,0,none⟩) L8 (v:=v2) (lQ dY w L9 0 (by simp))
  simp only [Instr.loadAt,Instr.sureAddr,Sem.run_bind,Sem.run_pure,Result.andThen_ok]at aE oV qy
  have n8:a.tmps[p]?.getD undef= .pointer (some ⟨b,0,none⟩):=by have:=ei.get p _ aC;simpa [Array.getD_eq_getD_getElem?]using this
  have rk:a.tmps[q]?.getD undef= .pointer (some ⟨h3,0,none⟩):=by have:=ei.get q _ bF;simpa [Array.getD_eq_getD_getElem?]using this
  have Ma:a.tmps[u]?.getD undef= .pointer (some ⟨aK,0,none⟩):=by have:=ei.get u _ hu;simpa [Array.getD_eq_getD_getElem?]using this
  simp [results,h,n8,rk,Ma,asAddr,aE,oV,qy]
theorem Gf{fn:Func}{p q u t gd t2 b h3 aK:Nat}{aF:List Value}{n:Nat}{fU v2:Value}{dv zC L7:TypeId}{aU bh cS:List (ar B)}(h:fn.results= #[.cell p t,.cell q gd,.cell u t2])(aC:E.get p=some (.pointer (some ⟨b,0,none⟩)))(bF:E.get q=some (.pointer (some ⟨h3,0,none⟩)))(hu:E.get u=some (.pointer (some ⟨aK,0,none⟩)))(aq:Out (U b aF dv) S aU)(dV:Out (U h3 [fU] zC) S bh)(hI:Out (U aK [v2] L7) S cS)(aL:hA P t=some (true,n))(wG:hA P gd=some (false,1))(L8:hA P t2=some (false,1))(aP:aF.length=n):
    ∀a w,dO N ao E a→bC B A S w→(results fn a.tmps).run P w= .ok (.tuple #[.agg aF.toArray,fU,v2]) w:=by
  intro a w ei aH
  obtain⟨D,bO⟩:=aH.mem aq
  obtain⟨su,zD⟩:=aH.mem dV
  obtain⟨dY,L9⟩:=aH.mem hI
  have aE:=Ah (P:=P) (w:=w) (p:=⟨b,0,none⟩) (bK:=aF) aL aP (fun k ai=>lQ D w bO k (by omega))
  have oV:=ux (P:=P) (w:=w) (p:=⟨h3,0,none⟩) wG (v:=fU) (lQ su w zD 0 (by simp))
  have qy:=ux (P:=P) (w:=w) (p:=⟨aK,0,none⟩) L8 (v:=v2) (lQ dY w L9 0 (by simp))
  simp only [Instr.loadAt,Instr.sureAddr,Sem.run_bind,Sem.run_pure,Result.andThen_ok]at aE oV qy
  have n8:a.tmps[p]?.getD undef= .pointer (some ⟨b,0,none⟩):=by have:=ei.get p _ aC;simpa [Array.getD_eq_getD_getElem?]using this
  have rk:a.tmps[q]?.getD undef= .pointer (some ⟨h3,0,none⟩):=by have:=ei.get q _ bF;simpa [Array.getD_eq_getD_getElem?]using this
  have Ma:a.tmps[u]?.getD undef= .pointer (some ⟨aK,0,none⟩):=by have:=ei.get u _ hu;simpa [Array.getD_eq_getD_getElem?]using this
  simp [results,h,n8,rk,Ma,asAddr,aE,oV,qy]
end Go.Sl
end
section
namespace Go.Sl
open Go
variable{P:Program}{B:Nat}{A:e0}{r:Option Nat}{N:Nat}{ao:List Nat}{E fK:Env}{S bc R L F Fr own:List (ar B)}{Q ik:fw B}{ops:Array Oper}{rest:List Oper}
theorem C8(l cV:List (ar B)):gK (l++cV) (cV++l):=fun D w h=>by
  obtain⟨dm,dY,e,aJ,a1,a3⟩:=h.append
  exact ee.join (fun k=>(e k).trans Or.comm) (fun k a b=>aJ k b a) a3 a1
def A7{α:Type}(P:Program)(B:Nat)(bm:FuncId)(e7:List Value)(own V:List (ar B))(p:α→Prop)(xs:α→List (List Value))(pb:α→List (ar B)):Prop:=
  ∀(l:Nat) (J hc:α→Nat→List (ar B)→Prop) (cV:List (ar B)),(∀x,p x→J x 0 (cV++(pb x++V)))→
    (∀x i S,p x→i<(xs x).length→J x i S→oP P B l ((xs x).getD i []) S fun b bc=>(b=true∧J x (i+1) bc)∨(b=false∧hc x i bc))→
    di P B bm (.func (.yield l) #[] #[]::e7) (own++(cV++V)) fun _ bc=>∃x,p x∧∃aU,bc=own++aU∧(J x (xs x).length aU∨∃i,i<(xs x).length∧hc x i aU)
theorem ON{α:Type}{p:α→Prop}{xs:α→List (List Value)}{V cV:List (ar B)}{pb:α→List (ar B)}{f:Operand}{bX:List Nat}{assign body:Code}{bm:FuncId}{e7:List Value}(bs:aX E f=some (.func (.func bm) #[] e7.toArray))(he:Go.Proofs.Enters P bm)(tW:A7 P B bm e7 own V p xs pb)
    (J:α→Nat→List (ar B)→Prop) (iO:α→Code→Nat→List (ar B)→Prop) (aL:Take (own++(cV++V)) S Fr) (bo:∀x,p x→J x 0 (cV++(pb x++V))) (ly:bX.all (Nat.blt · N)=true) (hlen:∀x,p x→∀y∈xs x,y.length=bX.length)
    (nt:∀(x:α) (l:Nat) (rec:Loop) (mr:e0) (i:Nat) (bc:List (ar B)),p x→i<(xs x).length→J x i bc→X P B mr (some l) N assign [] (Env.q0 bX ((xs x).getD i []) E) (obj l (.loop rec)::bc) (zd P mr N body l rec (J x) (iO x) i))
    (rW:∀x ct bc,p x→J x (xs x).length bc→Q .normal (ct::ao) E (dl ct::(own++(bc++Fr))))
    (rX:∀x ct c i bc,p x→i<(xs x).length→iO x c i bc→X P B A none N c (ct::ao) E (dl ct::(own++(bc++Fr))) Q):
    X P B A none N (.rangeFunc f bX.toArray assign body) ao E S Q:=by
  intro a w aq aH
  refine wpIn_rangeFunc ?_
  intro fn _
  have oQ:=(aH.take aL).new (.deferred (some []))
  have hJ:=oQ.new (.loop {state:= .ready,pending:=none,fn,tmps:=a.tmps,params:=bX.toArray,assign,body,defers:=w.heap.size})
  simp only [World.size_alloc]at hJ
  obtain⟨fQ,tX⟩:∃fQ,(w.alloc (.deferred (some []))).alloc (.loop {state:= .ready,pending:=none,fn,tmps:=a.tmps,params:=bX.toArray,assign,body,defers:=w.heap.size})=fQ:=⟨_,rfl⟩
  have j8:=run_enterLoop_outer (P:=P) (w:=w) fn a.tmps bX.toArray assign body
  rw [tX]at hJ j8
  generalize aE:w.heap.size+1=l at hJ j8
  generalize w.heap.size=ct at oQ hJ j8
  have oR:bC B A ((own++(obj l (.loop {state:= .ready,pending:=none,fn,tmps:=a.tmps,params:=bX.toArray,assign,body,defers:=ct})::([dl ct]++(cV++V))))++Fr) fQ:=by
    have ab:bC B A ([obj l (.loop {state:= .ready,pending:=none,fn,tmps:=a.tmps,params:=bX.toArray,assign,body,defers:=ct}),dl ct]++(own++((cV++V)++Fr))) fQ:=by simpa using hJ
    have ae:=ab.mid
    simpa using ae
  refine⟨l,[{target:= .collected ct,args:= #[]}],fQ,{target:= .fn (.func bm) e7.toArray,args:= #[.func (.yield l) #[] #[]]},fQ,bm, #[.func (.yield l) #[] #[]]++e7.toArray,fQ,j8,?_,fun _ _=>trivial,?_,fun _=>by simp_all [Fence.wide],?_⟩
  · simp only [resolve,aq.aX bs]
    simp [Deferred.ofValue,Act.eval]
  · simpa [invoke]using he (Value.func (.yield l) #[] #[]::e7).toArray fQ
  · have ei:dO N [] E {tmps:=a.tmps,defers:=[]}:=⟨aq.size,rfl,aq.get⟩
    have tL:=tW l (fun x i S=>∃cS,S=obj l (.loop {state:= .ready,pending:=none,fn,tmps:=a.tmps,params:=bX.toArray,assign,body,defers:=ct})::([dl ct]++cS)∧J x i cS)
      (fun x i S=>∃c cS,S=obj l (.loop {state:= .done,pending:=some c,fn,tmps:=a.tmps,params:=bX.toArray,assign,body,defers:=ct})::([dl ct]++cS)∧iO x c i cS)
      (obj l (.loop {state:= .ready,pending:=none,fn,tmps:=a.tmps,params:=bX.toArray,assign,body,defers:=ct})::([dl ct]++cV)) (fun x al=>⟨cV++(pb x++V),rfl,bo x al⟩)
      (fun x i S al af ⟨cS,dj,oS⟩=>by
        subst dj
        exact Ai ei ly (hlen x al) af oS (fun l rec mr i bc=>nt x l rec mr i bc al))
    have fB:=oR.size
    obtain⟨D,a1,a3,bI,cv,eX,fJ⟩:=oR
    obtain⟨ij,ng,bU,gT,iG,h2⟩:=a1.append
    have oz:=tL fQ ij iG (fun k ai=>a3 k ((bU k).2 (.inl ai))) fB
    have jE:(Value.func (.yield l) #[] #[]::e7).toArray= #[.func (.yield l) #[] #[]]++e7.toArray:=by simp
    rw [jE]at oz
    refine CallsIn.mono oz ?_
    rintro e E4 ⟨v,bh,rfl,⟨x,al,aC⟩,fo⟩
    have r8:=bC.pg a1 a3 bI cv eX fJ bU gT h2 fo
    have tM:dO N (ct::ao) E {a with defers:=[{target:= .collected ct,args:= #[]}]++a.defers}:=⟨aq.size,by simp [aq.qd,xp],aq.get⟩
    exact Aj (rec:=fun s c=>{state:=s,pending:=c,fn,tmps:=a.tmps,params:=bX.toArray,assign,body,defers:=ct}) (fun s c=>⟨rfl,rfl⟩) (kA:=[dl ct]) tM r8 aC (fun bc h=>rW x ct bc al h) (fun c i bc af h=>rX x ct c i bc al af h)
theorem di.frame{f:FuncId}{args:List Value}{pre:List (ar B)}{post:Value→List (ar B)→Prop}(h:di P B f args pre post)(F:List (ar B)):di P B f args (pre++F) (fun v S=>∃aU,S=aU++F∧post v aU):=by
  intro w D aH bU h1
  obtain⟨dm,dY,e,aJ,e2,cD⟩:=aH.append
  refine CallsIn.mono (h w dm e2 (fun k ai=>bU k ((e k).2 (.inl ai))) h1) ?_
  rintro x ca ⟨v,bc,rfl,aC,fo⟩
  exact⟨v,bc++F,rfl,⟨bc,rfl,aC⟩,bC.pg (A:=⟨w,D⟩) aH bU (fun k ai=> .inl ai) (u9.refl _ _) h1 (fun k ai=>(bU k ai).1) e aJ cD fo⟩
end Go.Sl
end
section
namespace Go.Sl
open Go
variable{P:Program}{B:Nat}{A:e0}{S bc R L F K:List (ar B)}{f:FuncId}{args:List Value}{pre Ta:List (ar B)}{post tC:Value→List (ar B)→Prop}
def ex{α:Type}(F:α→List (ar B)):ar B where
  holds D w:=∃x,ee (F x) D w
  m2:=fun⟨x,h⟩ aH=>⟨x,ee.m2 h aH⟩
theorem pq{α:Type}{F:α→List (ar B)}(x:α)(t:Take (F x) S R):gK S (ex F::R):=fun D w h=>by
  obtain⟨dm,dY,e,aJ,e2,cD⟩:=(t.mP h).append
  exact⟨dm,dY,e,aJ,⟨x,e2⟩,cD⟩
theorem ox{α:Type}{F:α→List (ar B)}(h:∀x,di P B f args (F x++pre) post):di P B f args (ex F::pre) post:=by
  intro w D aH bU h1
  obtain⟨dm,dY,e,aJ,⟨x,e2⟩,cD⟩:=aH
  exact h x w D (ee.join e aJ e2 cD) bU h1
theorem p6(h:di P B f args pre post)(c:gK Ta pre):di P B f args Ta post:=fun w D aH bU h1=>h w D (c D w aH) bU h1
theorem j9(h:di P B f args pre post)(aC:∀v S,post v S→∃aU bc R,gK S aU∧Take bc aU R∧tC v bc):di P B f args pre tC:=fun w D aH bU h1=>
  (h w D aH bU h1).mono fun _ _ ⟨v,bc,e,p,cH⟩=>by
    obtain⟨aU,bh,R,c,t,q⟩:=aC v bc p
    exact⟨v,bh,e,q,(c.cH cH).nz t⟩
section
variable[m6]{r:Option Nat}{N:Nat}{c:Code}{ao:List Nat}{E:Env}{Q:fw B}{m i:Nat}
def zg(P:Program)(B:Nat)(A:e0)(r:Option Nat)(N:Nat)(c:Code)(Q:fw B):Nat→fw B
  |0,.normal,_,_,_=>False
  |m+1,.normal,ao,E,S=>X P B A r N c ao E S (zg P B A r N c Q m)
  |_,e,ao,E,S=>Q e ao E S
theorem N1:∀(m:Nat) {ao:List Nat} {E:Env} {S:List (ar B)},X P B A r N c ao E S (zg P B A r N c Q m)→∀a w,dO N ao E a→bC B A S w→Code.roundsIn (nh r) 0 P c (we B A N Q) (m+1) a w
  |0,ao,E,S,h,a,w,aq,aH=>wpIn_mono (h a w aq aH) fun e a w ⟨ao,E,S,ab,ae,av⟩=>by
    cases e with
    |normal=>exact av.elim
    |_=>exact⟨ao,E,S,ab,ae,av⟩
  |m+1,ao,E,S,h,a,w,aq,aH=>wpIn_mono (h a w aq aH) fun e a w ⟨ao,E,S,ab,ae,av⟩=>by
    cases e with
    |normal=>exact N1 m av a w ab ae
    |_=>exact⟨ao,E,S,ab,ae,av⟩
theorem P3(m:Nat)(h:X P B A r N c ao E S (zg P B A r N c Q m)):X P B A r N (.loop c) ao E S Q:=fun a w aq aH=>wpIn_loop_rounds (m+1) (N1 m h a w aq aH)
theorem I1(h:X P B A r N c ao E S (zg P B A r N c Q m)):zg P B A r N c Q (m+1) .normal ao E S:=h
theorem Jl(h:Q .ret ao E S):zg P B A r N c Q m .ret ao E S:=by cases m<;>exact h
theorem N2(h:Q (.exit i) ao E S):zg P B A r N c Q m (.exit i) ao E S:=by cases m<;>exact h
end
end Go.Sl
end
section
namespace Go.Sl
open Go
variable{P:Program}{B:Nat}{A:e0}{N:Nat}{ao:List Nat}{E:Env}{S bc R L F K:List (ar B)}{Q:fw B}
def zh(P:Program)(B:Nat)(f:FuncId)(args:List Value)(pre:List (ar B))(post:Value→List (ar B)→Prop):Prop:=
  ∀w D,ee pre D w→(∀k,D k→B≤k∧k<w.heap.size)→B≤w.heap.size→
    CallsDIn (nh none) 0 P f args.toArray .returning w fun e u ca=>u= .returning∧∃v bc,e= .returned v∧post v bc∧bC B ⟨w,D⟩ bc ca
def Se(P:Program)(B:Nat)(A:e0)(N:Nat)(fn:Func)(post:Value→List (ar B)→Prop):fw B
  | .normal,ao,E,S| .ret,ao,E,S=>ao=[]∧∃v,(∀a w,dO N ao E a→bC B A S w→(results fn a.tmps).run P w= .ok v w)∧∃hC R,Take hC S R∧post v hC
  |_,_,_,_=>False
theorem OO{fn:Func}{post:Value→List (ar B)→Prop}{v:Value}(t:Take ([]:List (ar B)) S L)(a4:∀a w,dO N [] E a→bC B A S w→(results fn a.tmps).run P w= .ok v w)(h:∃hC,post v hC∧∃R,Take hC S R):
    Se P B A N fn post .normal [] E S:=let⟨hC,aC,R,t2⟩:=h;⟨rfl,v,a4,hC,R,t2,aC⟩
theorem WS{f:FuncId}{fn:Func}{c:Code}{args:List Value}{pre:List (ar B)}{post:Value→List (ar B)→Prop}(bs:P.funcs[f]?=some fn)(aR:fn.body=some c)
    (aP:args.length≤N) (oe:fn.ntmps=N)
    (h:∀w D,X P B ⟨w,D⟩ none N c [] (Env.qZ 0 args) pre (Se P B ⟨w,D⟩ N fn post)):zh P B f args pre post:=by
  intro w D aH bU h1
  refine callsDIn_of_wp bs aR trivial (wpIn_mono (h w D _ w ?_ ⟨D,aH,bU,fun k ai=> .inl ai,u9.refl _ _,h1,fun k ai=>(bU k ai).1⟩) ?_)
  · refine⟨by simp [oe];omega,rfl,fun t v aL=>?_⟩
    obtain⟨_,ae⟩:=Env.FD _ _ _ _ aL
    rw [Nat.sub_zero]at ae
    have av:=(List.getElem?_eq_some_iff.1 ae).1
    rw [Array.getD_eq_getD_getElem?,Array.getElem?_append_left (by simpa using av)]
    simpa using congrArg (·.getD undef) ae
  · rintro e jl ca ⟨kV,fK,bc,ok,cH,q⟩
    cases e with
    |normal=>
      obtain⟨rfl,v,a4,hC,R,t,aC⟩:=q
      exact⟨by rw [ok.qd];rfl,v,a4 jl ca ok cH,v,hC,rfl,aC,cH.nz t⟩
    |ret=>
      obtain⟨rfl,v,a4,hC,R,t,aC⟩:=q
      exact⟨by rw [ok.qd];rfl,v,a4 jl ca ok cH,v,hC,rfl,aC,cH.nz t⟩
    |_=>exact q.elim
theorem zh.mono{f:FuncId}{args:List Value}{pre:List (ar B)}{post tC:Value→List (ar B)→Prop}(h:zh P B f args pre post)(aC:∀v S,post v S→tC v S):zh P B f args pre tC:=
  fun w D ab ae av=>CallsDIn.mono (h w D ab ae av) fun _ _ _ ⟨hu,v,bc,e,p,cH⟩=>⟨hu,v,bc,e,aC _ _ p,cH⟩
def adw(P:Program)(B:Nat)(g:FuncId)(bK:List Value)(post:Value→List (ar B)→Prop):fw B
  | .normal,ao,_,S| .ret,ao,_,S=>ao=[]∧∃L R,Take L S R∧zh P B g bK L fun _ bh=>∃cS E3,Take cS (bh++R) E3∧post (.tuple #[]) cS
  |_,_,_,_=>False
theorem WT{f g:FuncId}{fn:Func}{rest:Code}{id d t0:Nat}{Mb Eh:TypeId}{mX fE:String}{f1 f2:Array Edge}{dC:Array TypeId}{args:List Value}{v:Value}{pre:List (ar B)}{post:Value→List (ar B)→Prop}(bs:P.funcs[f]?=some fn)
    (aR:fn.body=some (.seq (.region id #[⟨some d,.move (.tmp t0),Mb,mX,f1,none⟩,⟨none,.defer {callee:= .value (.func g),args:= #[.tmp d],argTypes:=dC},Eh,fE,f2,none⟩] false) rest))
    (aP:args.length≤N) (oe:fn.ntmps=N) (aJ:Nat.blt d N=true) (cL:(Env.qZ 0 args).get t0=some v) (iv:fn.results= #[]) (bl:Go.Proofs.Enters P g)
    (h:∀w D (MZ:m6),MZ.l=[{target:= .fn (.func g) #[],args:= #[v]}]→ @X MZ P B ⟨w,D⟩ none N rest [] ((d,v)::Env.qZ 0 args) pre (adw P B g [v] post)):di P B f args pre post:=by
  intro w D aH bU h1
  refine callsIn_of_wp_marks bs aR trivial ?_
  have Mc:dO N [] (Env.qZ 0 args) {tmps:=args.toArray++Array.replicate (fn.ntmps-args.toArray.size) undef,defers:=[]}:=by
    refine⟨by simp [oe];omega,rfl,fun t v aL=>?_⟩
    obtain⟨_,ae⟩:=Env.FD _ _ _ _ aL
    rw [Nat.sub_zero]at ae
    have av:=(List.getElem?_eq_some_iff.1 ae).1
    rw [Array.getD_eq_getD_getElem?,Array.getElem?_append_left (by simpa using av)]
    simpa using congrArg (·.getD undef) ae
  have ahe:bC B ⟨w,D⟩ pre w:=⟨D,aH,bU,fun k ai=> .inl ai,u9.refl _ _,h1,fun k ai=>(bU k ai).1⟩
  generalize ({tmps:=args.toArray++Array.replicate (fn.ntmps-args.toArray.size) undef,defers:=[]}:Act)=dZ at Mc
  have ahf:dZ.eval (.tmp t0)=v:=Mc.aX (x:= .tmp t0) cL
  refine wpIn_seq (wpIn_region_lit (l:=[⟨some d,.move (.tmp t0),Mb,mX,f1,none⟩,⟨none,.defer {callee:= .value (.func g),args:= #[.tmp d],argTypes:=dC},Eh,fE,f2,none⟩]) ?_)
  have ta:dO N [] ((d,v)::Env.qZ 0 args) (dZ.put (some d) v):=Mc.put (by simpa using aJ)
  have Uk:(dZ.put (some d) v).eval (.tmp d)=v:=ta.aX (x:= .tmp d) (by simp [Sl.aX,Env.get])
  simp only [wpListIn,Region.wanted,if_true]
  refine⟨fun _ _=>trivial,?_⟩
  rw [Oper.semAt_eq _ _ _ (by simp)]
  have cb:(execOp dZ.eval ⟨some d,.move (.tmp t0),Mb,mX,f1,none⟩).run P w= .ok (.value v) w:=by simp [execOp,ahf]
  rw [cb]
  show _∧_
  refine⟨fun _ _=>trivial,?_⟩
  change Oper.uponIn (nh none) 0 P _ (dZ.put (some d) v) _ _ (Sem.run P (Oper.semAt (nh none).round (dZ.put (some d) v).eval _) w)
  generalize dZ.put (some d) v=dk at ta Uk⊢
  have cq:(execOp dk.eval ⟨none,.defer {callee:= .value (.func g),args:= #[.tmp d],argTypes:=dC},Eh,fE,f2,none⟩).run P w= .ok (.defer {target:= .fn (.func g) #[],args:= #[v]}) w:=by
    have Ul:dk.tmps.getD d undef=v:=Uk
    rw [Array.getD_eq_getD_getElem?]at Ul
    simp [execOp,resolve,Deferred.ofValue,Act.eval,Ul]
  rw [show Oper.semAt (nh none).round dk.eval {dst:=none,op:=Op.defer {callee:= .value (.func g),args:= #[.tmp d],argTypes:=dC},type:=Eh,pos:=fE,after:=f2,guard:=none}=execOp dk.eval {dst:=none,op:=Op.defer {callee:= .value (.func g),args:= #[.tmp d],argTypes:=dC},type:=Eh,pos:=fE,after:=f2,guard:=none}from rfl,cq]
  show rest.wpIn (nh none) 0 P _ {dk with defers:=_::dk.defers} w
  have Uc: @dO ⟨[{target:= .fn (.func g) #[],args:= #[v]}]⟩ N [] ((d,v)::Env.qZ 0 args) {dk with defers:={target:= .fn (.func g) #[],args:= #[v]}::dk.defers}:=
    by
      have ab:dk.defers=[]:=by rw [ta.qd,xp];rfl
      refine @dO.mk ⟨[{target:= .fn (.func g) #[],args:= #[v]}]⟩ N [] ((d,v)::Env.qZ 0 args) {dk with defers:={target:= .fn (.func g) #[],args:= #[v]}::dk.defers} ta.size ?_ ta.get
      show _::dk.defers=_
      rw [ab];rfl
  refine wpIn_mono (h w D ⟨[{target:= .fn (.func g) #[],args:= #[v]}]⟩ rfl _ w Uc ahe) ?_
  rintro e jl ca ⟨kV,fK,bc,ok,cH,q⟩
  have fin:(kV=[]∧∃L R,Take L bc R∧zh P B g [v] L fun _ bh=>∃cS E3,Take cS (bh++R) E3∧post (.tuple #[]) cS)→
      LeavesInM (nh none) 0 P fn jl.tmps (fun e ca=>∃v bc,e= .returned v∧post v bc∧bC B ⟨w,D⟩ bc ca) jl.defers .returning ca:=by
    rintro⟨rfl,L,R,t,a7⟩
    obtain⟨su,a1,a3,bI,cv,eX,fJ⟩:=cH.take t
    obtain⟨ij,ng,bU,gT,iG,h2⟩:=a1.append
    have ahg:= @dO.qd ⟨[{target:= .fn (.func g) #[],args:= #[v]}]⟩ N [] fK jl ok
    rw [ahg]
    refine⟨by simp,.inr ⟨by simp [Fence.wide],.func g, #[],g, #[v],rfl,by simp [invoke,bl #[v] ca],fun _ _=>trivial,?_⟩⟩
    refine CallsDIn.mono (a7 ca ij iG (fun k ai=>a3 k ((bU k).2 (.inl ai))) (Nat.le_trans eX cv.size)) ?_
    rintro e u j2 ⟨rfl,v2,bh,rfl,⟨cS,E3,t3,aC⟩,fo⟩
    have ahh:=bC.pg a1 a3 bI cv eX fJ bU gT h2 fo
    exact⟨.tuple #[],results_none iv _ _ _,_,cS,rfl,aC,ahh.nz t3⟩
  cases e with
  |normal=>exact fin q
  |ret=>exact fin q
  |_=>exact q.elim
end Go.Sl
end
section
namespace Go.Sl
open Go
variable{P:Program}{B:Nat}{A:e0}{r:Option Nat}{N:Nat}{ao:List Nat}{E fK:Env}{S aU R kn L F Fr own:List (ar B)}{Q ik:fw B}{ops:Array Oper}{rest:List Oper}{o:Oper}
def Tb(P:Program)(B:Nat)(bm:FuncId)(e7:List Value)(own DM:List (ar B))(xs:List (List Value)):Prop:=
  ∀(l:Nat) (J hc:Nat→List (ar B)→Prop) (cV:List (ar B)),J 0 cV→
    (∀i S,i<xs.length→J i S→oP P B l (xs.getD i []) S fun b bc=>(b=true∧J (i+1) bc)∨(b=false∧hc i bc))→
    di P B bm (.func (.yield l) #[] #[]::e7) (own++cV) fun _ bc=>∃aU,bc=DM++aU∧(J xs.length aU∨∃i,i<xs.length∧hc i aU)
theorem OP{DM:List (ar B)}{f:Operand}{bX:List Nat}{assign body:Code}{bm:FuncId}{e7:List Value}{xs:List (List Value)}(bs:aX E f=some (.func (.func bm) #[] e7.toArray))(he:Go.Proofs.Enters P bm)(tW:Tb P B bm e7 own DM xs)
    (J:Nat→List (ar B)→Prop) (iO:Code→Nat→List (ar B)→Prop) (aL:Take (own++aU) S Fr) (bo:J 0 aU) (ly:bX.all (Nat.blt · N)=true) (hlen:∀x∈xs,x.length=bX.length)
    (nt:∀(l:Nat) (rec:Loop) (mr:e0) (i:Nat) (bc:List (ar B)),i<xs.length→J i bc→X P B mr (some l) N assign [] (Env.q0 bX (xs.getD i []) E) (obj l (.loop rec)::bc) (zd P mr N body l rec J iO i))
    (rW:∀ct bc,J xs.length bc→Q .normal (ct::ao) E (dl ct::(DM++(bc++Fr))))
    (rX:∀ct c i bc,i<xs.length→iO c i bc→X P B A none N c (ct::ao) E (dl ct::(DM++(bc++Fr))) Q):
    X P B A none N (.rangeFunc f bX.toArray assign body) ao E S Q:=by
  intro a w aq aH
  refine wpIn_rangeFunc ?_
  intro fn _
  have oQ:=(aH.take aL).new (.deferred (some []))
  have hJ:=oQ.new (.loop {state:= .ready,pending:=none,fn,tmps:=a.tmps,params:=bX.toArray,assign,body,defers:=w.heap.size})
  simp only [World.size_alloc]at hJ
  obtain⟨fQ,tX⟩:∃fQ,(w.alloc (.deferred (some []))).alloc (.loop {state:= .ready,pending:=none,fn,tmps:=a.tmps,params:=bX.toArray,assign,body,defers:=w.heap.size})=fQ:=⟨_,rfl⟩
  have j8:=run_enterLoop_outer (P:=P) (w:=w) fn a.tmps bX.toArray assign body
  rw [tX]at hJ j8
  generalize aE:w.heap.size+1=l at hJ j8
  generalize w.heap.size=ct at oQ hJ j8
  have oR:bC B A ((own++(obj l (.loop {state:= .ready,pending:=none,fn,tmps:=a.tmps,params:=bX.toArray,assign,body,defers:=ct})::([dl ct]++aU)))++Fr) fQ:=by
    have ab:bC B A ([obj l (.loop {state:= .ready,pending:=none,fn,tmps:=a.tmps,params:=bX.toArray,assign,body,defers:=ct}),dl ct]++(own++(aU++Fr))) fQ:=by simpa using hJ
    have ae:=ab.mid
    simpa using ae
  refine⟨l,[{target:= .collected ct,args:= #[]}],fQ,{target:= .fn (.func bm) e7.toArray,args:= #[.func (.yield l) #[] #[]]},fQ,bm, #[.func (.yield l) #[] #[]]++e7.toArray,fQ,j8,?_,fun _ _=>trivial,?_,fun _=>by simp_all [Fence.wide],?_⟩
  · simp only [resolve,aq.aX bs]
    simp [Deferred.ofValue,Act.eval]
  · simpa [invoke]using he (Value.func (.yield l) #[] #[]::e7).toArray fQ
  · have ei:dO N [] E {tmps:=a.tmps,defers:=[]}:=⟨aq.size,rfl,aq.get⟩
    have tL:=tW l (fun i S=>∃cS,S=obj l (.loop {state:= .ready,pending:=none,fn,tmps:=a.tmps,params:=bX.toArray,assign,body,defers:=ct})::([dl ct]++cS)∧J i cS)
      (fun i S=>∃c cS,S=obj l (.loop {state:= .done,pending:=some c,fn,tmps:=a.tmps,params:=bX.toArray,assign,body,defers:=ct})::([dl ct]++cS)∧iO c i cS) _ ⟨aU,rfl,bo⟩
      (fun i S af ⟨cS,dj,oS⟩=>by
        subst dj
        exact Ai ei ly hlen af oS nt)
    have fB:=oR.size
    obtain⟨D,a1,a3,bI,cv,eX,fJ⟩:=oR
    obtain⟨ij,ng,bU,gT,iG,h2⟩:=a1.append
    have oz:=tL fQ ij iG (fun k ai=>a3 k ((bU k).2 (.inl ai))) fB
    have jE:(Value.func (.yield l) #[] #[]::e7).toArray= #[.func (.yield l) #[] #[]]++e7.toArray:=by simp
    rw [jE]at oz
    refine CallsIn.mono oz ?_
    rintro e E4 ⟨v,bh,rfl,aC,fo⟩
    have r8:=bC.pg a1 a3 bI cv eX fJ bU gT h2 fo
    have tM:dO N (ct::ao) E {a with defers:=[{target:= .collected ct,args:= #[]}]++a.defers}:=⟨aq.size,by simp [aq.qd,xp],aq.get⟩
    exact Aj (rec:=fun s c=>{state:=s,pending:=c,fn,tmps:=a.tmps,params:=bX.toArray,assign,body,defers:=ct}) (fun s c=>⟨rfl,rfl⟩) (kA:=[dl ct]) tM r8 aC (fun bc h=>rW ct bc h) (fun c i bc af h=>rX ct c i bc af h)
theorem XT{α:Type}{a2:α→List Value}{a:an α}{e aN:Nat}{D:Nat→Prop}{w:World}(h:(row (B:=B) (.slice a.bn a.l.length a.c) e aN a.l.length (a.l.flatMap a2)).holds D w):(row (B:=B) (.slice a.bn 0 a.c) e aN 0 []).holds D w:=by
  obtain⟨⟨ab,ae⟩,av⟩:=h
  refine⟨⟨by simp,?_⟩,fun k=>(av k).trans (by cases a.bn<;>rfl)⟩
  rcases ae with⟨ae,aV⟩|⟨g,cap,dR,cL,bl,fv,bN,c0,fO,gk⟩
  · left
    injection ae with cb cq fP
    rw [cb,fP];exact⟨rfl,rfl⟩
  · right
    injection cL with cb cq fP
    exact⟨g,cap,dR,by rw [cb,fP],bl,fv,Nat.zero_le _,c0,fO,by simp⟩
def an.tb{α:Type}(a:an α):an α:=⟨a.bn,a.c,[],fun _=>rfl,Nat.zero_le _,Nat.zero_le _⟩
theorem an.Zb{α:Type}{a:an α}(h:a.Own):a.tb.Own:=h
theorem Zc{α:Type}{a2:α→List Value}{a:an α}{e aN:Nat}(t:Out (row (.slice a.bn a.l.length a.c) e aN a.l.length (a.l.flatMap a2)) S R):gK S (row (.slice a.tb.bn a.tb.l.length a.tb.c) e aN a.tb.l.length (a.tb.l.flatMap a2)::R):=fun D w h=>by
  obtain⟨dm,dY,cb,aJ,e2,cD⟩:=t.mP h
  have kp:(row (B:=B) (.slice a.bn 0 a.c) e aN 0 []).holds dm w:=XT e2
  exact⟨dm,dY,cb,aJ,kp,cD⟩
theorem XU{t e aN n c:Nat}{bn:Option Addr}{x:Operand}{y:Operand}{k:IntKind}(al:aX E x=some (.slice bn n c))(aZ:aX E y=some (.int k 0))(aL:iZ P t=some (e,aN)):dw P B A N ao E S (.slice t x none (some y) none) (.slice bn 0 c):=by
  have h:dw P B A N ao E S (.slice t x none (some y) none) (.slice (if c=0 then bn else bn.map (·.add (0*aN))) (0-0) (c-0)):=PY (A:=A) (N:=N) (ao:=ao) (S:=S) (l:=0) (h:=0) (m:=c) al aL (ec:=none) (af:=some y) (vw:=none) rfl ⟨k,aZ⟩ rfl (fun e=>by cases e) (Nat.le_refl _) (Nat.zero_le _) (Nat.le_refl _)
  have cb:(if c=0 then bn else bn.map (·.add (0*aN)))=bn:=by
    split
    · rfl
    · cases bn with
      |none=>rfl
      |some a=>simp [Addr.add]
  rw [cb]at h
  exact h
theorem adx{f:FuncId}{xs:List Operand}{args:List Value}{dC:Array TypeId}{v:Value}(a5:g9 E xs=some args)(a4:∀w,(callFunc f args.toArray).run P w= .ok (.value v) w):dw P B A N ao E S (.call {callee:= .value (.func f),args:=xs.toArray,argTypes:=dC}) v:=
  ⟨by simp,by simp,fun a w bg pos a8 g d aq aH=>by
    have jE:=aq.g9 a5
    simp [execOp,resolve,Act.eval,Deferred.ofValue,invoke,jE,a4 w]⟩
end Go.Sl
end
section
namespace Go.Sl
open Go
variable{P:Program}{B:Nat}{A:e0}{r:Option Nat}{N:Nat}{ao:List Nat}{E fK:Env}{S aU R kn L F Fr own:List (ar B)}{Q ik:fw B}{ops:Array Oper}{rest:List Oper}{o:Oper}
def Tc(P:Program)(B:Nat)(bm:FuncId)(e7:List Value)(own:List (ar B))(xs:List (List Value)):Prop:=
  ∀(l:Nat) (J hc:Nat→List (ar B)→Prop) (cV:List (ar B)),(∀i S,¬hc i S)→J 0 cV→
    (∀i S,i<xs.length→J i S→oP P B l (xs.getD i []) S fun b bc=>(b=true∧J (i+1) bc)∨(b=false∧hc i bc))→
    di P B bm (.func (.yield l) #[] #[]::e7) (own++cV) fun _ bc=>∃aU,bc=own++aU∧(J xs.length aU∨∃i,i<xs.length∧hc i aU)
theorem oP.mono{l:Nat}{args:List Value}{pre:List (ar B)}{post tC:Bool→List (ar B)→Prop}(h:oP P B l args pre post)(aC:∀b S,post b S→tC b S):oP P B l args pre tC:=fun w D ab ae av=>by
  obtain⟨fn,tmps,assign,body,hG,nt⟩:=h w D ab ae av
  exact⟨fn,tmps,assign,body,hG,RoundIn.mono nt fun _ _ ⟨b,bc,e,q,cH⟩=>⟨b,bc,e,aC _ _ q,cH⟩⟩
theorem XV{f:Operand}{bX:List Nat}{assign body:Code}{bm:FuncId}{e7:List Value}{xs:List (List Value)}(bs:aX E f=some (.func (.func bm) #[] e7.toArray))(he:Go.Proofs.Enters P bm)(tW:Tc P B bm e7 own xs)
    (J:Nat→List (ar B)→Prop) (iO:Code→Nat→List (ar B)→Prop) (ahi:∀c i S,¬iO c i S) (aL:Take (own++aU) S Fr) (bo:J 0 aU) (ly:bX.all (Nat.blt · N)=true) (hlen:∀x∈xs,x.length=bX.length)
    (nt:∀(l:Nat) (rec:Loop) (mr:e0) (i:Nat) (bc:List (ar B)),i<xs.length→J i bc→X P B mr (some l) N assign [] (Env.q0 bX (xs.getD i []) E) (obj l (.loop rec)::bc) (zd P mr N body l rec J iO i))
    (rW:∀ct bc,J xs.length bc→Q .normal (ct::ao) E (dl ct::(own++(bc++Fr))))
    (rX:∀ct c i bc,i<xs.length→iO c i bc→X P B A none N c (ct::ao) E (dl ct::(own++(bc++Fr))) Q):
    X P B A none N (.rangeFunc f bX.toArray assign body) ao E S Q:=by
  intro a w aq aH
  refine wpIn_rangeFunc ?_
  intro fn _
  have oQ:=(aH.take aL).new (.deferred (some []))
  have hJ:=oQ.new (.loop {state:= .ready,pending:=none,fn,tmps:=a.tmps,params:=bX.toArray,assign,body,defers:=w.heap.size})
  simp only [World.size_alloc]at hJ
  obtain⟨fQ,tX⟩:∃fQ,(w.alloc (.deferred (some []))).alloc (.loop {state:= .ready,pending:=none,fn,tmps:=a.tmps,params:=bX.toArray,assign,body,defers:=w.heap.size})=fQ:=⟨_,rfl⟩
  have j8:=run_enterLoop_outer (P:=P) (w:=w) fn a.tmps bX.toArray assign body
  rw [tX]at hJ j8
  generalize aE:w.heap.size+1=l at hJ j8
  generalize w.heap.size=ct at oQ hJ j8
  have oR:bC B A ((own++(obj l (.loop {state:= .ready,pending:=none,fn,tmps:=a.tmps,params:=bX.toArray,assign,body,defers:=ct})::([dl ct]++aU)))++Fr) fQ:=by
    have ab:bC B A ([obj l (.loop {state:= .ready,pending:=none,fn,tmps:=a.tmps,params:=bX.toArray,assign,body,defers:=ct}),dl ct]++(own++(aU++Fr))) fQ:=by simpa using hJ
    have ae:=ab.mid
    simpa using ae
  refine⟨l,[{target:= .collected ct,args:= #[]}],fQ,{target:= .fn (.func bm) e7.toArray,args:= #[.func (.yield l) #[] #[]]},fQ,bm, #[.func (.yield l) #[] #[]]++e7.toArray,fQ,j8,?_,fun _ _=>trivial,?_,fun _=>by simp_all [Fence.wide],?_⟩
  · simp only [resolve,aq.aX bs]
    simp [Deferred.ofValue,Act.eval]
  · simpa [invoke]using he (Value.func (.yield l) #[] #[]::e7).toArray fQ
  · have ei:dO N [] E {tmps:=a.tmps,defers:=[]}:=⟨aq.size,rfl,aq.get⟩
    have tL:=tW l (fun i S=>∃cS,S=obj l (.loop {state:= .ready,pending:=none,fn,tmps:=a.tmps,params:=bX.toArray,assign,body,defers:=ct})::([dl ct]++cS)∧J i cS)
      (fun i S=>∃c cS,S=obj l (.loop {state:= .done,pending:=some c,fn,tmps:=a.tmps,params:=bX.toArray,assign,body,defers:=ct})::([dl ct]++cS)∧iO c i cS) _ (fun i S ⟨c,cS,_,h⟩=>ahi c i cS h) ⟨aU,rfl,bo⟩
      (fun i S af ⟨cS,dj,oS⟩=>by
        subst dj
        exact Ai ei ly hlen af oS nt)
    have fB:=oR.size
    obtain⟨D,a1,a3,bI,cv,eX,fJ⟩:=oR
    obtain⟨ij,ng,bU,gT,iG,h2⟩:=a1.append
    have oz:=tL fQ ij iG (fun k ai=>a3 k ((bU k).2 (.inl ai))) fB
    have jE:(Value.func (.yield l) #[] #[]::e7).toArray= #[.func (.yield l) #[] #[]]++e7.toArray:=by simp
    rw [jE]at oz
    refine CallsIn.mono oz ?_
    rintro e E4 ⟨v,bh,rfl,aC,fo⟩
    have r8:=bC.pg a1 a3 bI cv eX fJ bU gT h2 fo
    have tM:dO N (ct::ao) E {a with defers:=[{target:= .collected ct,args:= #[]}]++a.defers}:=⟨aq.size,by simp [aq.qd,xp],aq.get⟩
    exact Aj (rec:=fun s c=>{state:=s,pending:=c,fn,tmps:=a.tmps,params:=bX.toArray,assign,body,defers:=ct}) (fun s c=>⟨rfl,rfl⟩) (kA:=[dl ct]) tM r8 aC (fun bc h=>rW ct bc h) (fun c i bc af h=>rX ct c i bc af h)
end Go.Sl
end
section
namespace Go.Sl
open Go
variable{P:Program}{B:Nat}{A:e0}{r:Option Nat}{N:Nat}{ao:List Nat}{E fK:Env}{S bc R L F:List (ar B)}{Q ik:fw B}{ops:Array Oper}{rest:List Oper}
theorem XW{l gf:List (ar B)}(h:l.Perm gf):∀{D w},ee l D w→ee gf D w:=by
  induction h with
  |nil=>intro D w h;exact h
  |cons x _ ih=>intro D w ⟨dm,dY,e,aJ,ab,ae⟩;exact⟨dm,dY,e,aJ,ab,ih ae⟩
  |swap x y l=>intro D w h;exact(Out.there y (Out.here x l)).mP h
  |trans _ _ ahj ahk=>intro D w h;exact ahk (ahj h)
theorem JJ{l gf:List (ar B)}(h:l.Perm gf)(t:Out (all l) S R):gK S (all gf::R):=fun D w q=>by
  obtain⟨dm,dY,e,aJ,ab,ae⟩:=t.mP q
  exact⟨dm,dY,e,aJ,XW h ab,ae⟩
theorem tv{a:ar B}{l gf:List (ar B)}(h:l.Perm (a::gf))(t:Out (all l) S R):gK S (a::all gf::R):=
  (JJ h t).trans (Cv (l:=[a]) (m:=gf) (.cons (.here _ _) (.nil _)))
theorem tz{a:ar B}{l gf:List (ar B)}(h:(a::gf).Perm l)(t:Take [a,all gf] S R):gK S (all l::R):=
  (yM a t).trans (JJ h (.here _ _))
def x4(L:List (ar B))(b k:Nat)(v:Value):Prop:=∃aF t,U b aF t∈L∧aF[k]?=some v
theorem jF{b k t:Nat}{x:Operand}{v:Value}(h:x4 L b k v)(al:aX E x=some (.pointer (some ⟨b,k,none⟩)))(dV:Out (all L) S R)(aL:hA P t=some (false,1)):dw P B A N ao E S (.load t x) v:=by
  obtain⟨aF,dv,hm,cL⟩:=h
  exact Sc al dV (nU hm lQ) aL cL
def ha(t:Value):List Nat→Value
  |[]=>t
  |b::_=> .pointer (some ⟨b,0,none⟩)
theorem Du{t gd:Nat}{x y:Operand}{aW:List Nat}(al:aX E x=some (ha (.pointer none) aW))(aZ:aX E y=some (.pointer none))(aL:vP P t=true):dw P B A N ao E S (.binOp .neq t x y gd) (.bool (!aW.isEmpty)):=by
  cases aW with
  |nil=>exact Ct al aZ aL rfl
  |cons b aW=>exact Ct al aZ aL rfl
theorem ady{t gd:Nat}{x y:Operand}{aW:List Nat}(al:aX E x=some (ha (.pointer none) aW))(aZ:aX E y=some (.pointer none))(aL:vP P t=true):dw P B A N ao E S (.binOp .eql t x y gd) (.bool aW.isEmpty):=by
  cases aW with
  |nil=>exact Ct al aZ aL rfl
  |cons b aW=>exact Ct al aZ aL rfl
end Go.Sl
end
section
namespace Go.Sl
open Go
variable{P:Program}{B:Nat}{A:e0}{r:Option Nat}{N:Nat}{ao:List Nat}{E fK:Env}{S bc R L F:List (ar B)}{Q ik:fw B}{ops:Array Oper}{rest:List Oper}{d:Nat}{bg:TypeId}{pos:String}{a8:Array Edge}{g:Option (Nat×Bool)}
structure wh(es:Array MapEntry)(ek:Nat)(l:List (Int×Int)):Prop where
  HM:x3 es.toList l
  born:∀x∈es.toList,x.born<ek
  oh:(es.toList.map (·.born)).Nodup
def rb(b:Nat)(l:List (Int×Int)):ar B:=ex (fun z:{z:Array MapEntry×Nat//wh z.1 z.2 l}=>[obj b (.map z.1.1 z.1.2)])
def Bs(b r:Nat)(l:List (Int×Int))(n:Nat):ar B:=ex (fun z:{z:Array MapEntry×Nat×Array Nat×Nat//wh z.1 z.2.1 l∧z.2.1≤z.2.2.2∧(leftOf z.1 z.2.2.1).size=n}=>[obj b (.map z.1.1 z.1.2.1),obj r (.mapIter (some b) z.1.2.1 z.1.2.2.1 z.1.2.2.2)])
def Md(b r:Nat)(l:List (Int×Int))(p:Int×Int)(n:Nat):ar B:=ex (fun z:{z:Array MapEntry×Nat×Array Nat×MapEntry//wh z.1 z.2.1 l∧z.2.2.2∈z.1.toList∧z.2.2.2.key= .int .i64 p.1∧z.2.2.2.val= .int .i64 p.2∧(leftOf z.1 (z.2.2.1.push z.2.2.2.born)).size=n}=>[obj b (.map z.1.1 z.1.2.1),obj r (.mapIter (some b) z.1.2.1 (z.1.2.2.1.push z.1.2.2.2.born) z.1.2.1)])
theorem bC.C9{α:Type}{F:α→List (ar B)}{w:World}(t:Out (ex F) S R)(h:bC B A S w):∃x,bC B A (F x++R) w:=by
  obtain⟨D,⟨dm,dY,e,aJ,⟨x,e2⟩,cD⟩,r⟩:=h.take (.cons t (.nil _))
  exact⟨x,D,ee.join e aJ e2 cD,r⟩
theorem bC.at_{b:Nat}{o:Obj}{w:World}(h:bC B A S w)(t:Out (obj b o) S R):w.heap[b]?=some o:=by
  obtain⟨D,ab⟩:=h.mem t
  exact ab.2
theorem Zd{t:Nat}(hw:Want ops N E g)(aJ:Nat.blt d N=true)
    (h:∀b,cg P B A r N ops rest ao ((d,.map (some b))::E) (rb b []::S) Q):cg P B A r N ops (⟨some d,.makeMap t none,bg,pos,a8,g⟩::rest) ao E S Q:=
  tD (α:=Nat) (fun b=> .map (some b)) (fun b=>rb b []::S) (fun _=>True) hw (by simp) aJ (fun a w aq aH=>by
    refine⟨w.heap.size,w.alloc (.map #[] 0),by simp [execOp,show(Instr.makeMap t none).run P w= .ok (.map (some w.heap.size)) (w.alloc (.map #[] 0))from rfl],?_,trivial⟩
    exact(pq (F:=fun z:{z:Array MapEntry×Nat//wh z.1 z.2 []}=>[obj w.heap.size (.map z.1.1 z.1.2)]) ⟨(#[],0),⟨rfl,fun x al=>absurd al (by simp),by simp⟩⟩ (.cons (.here _ _) (.nil _))).cH (aH.new (.map #[] 0))) (fun b _=>h b)
theorem aa7{t b:Nat}{l:List (Int×Int)}{k v:Int}{x y z:Operand}(al:aX E x=some (.map (some b)))(aZ:aX E y=some (.int .i64 k))(aS:aX E z=some (.int .i64 v))(dV:Out (rb b l) S R)(aL:zf P t=true)(ai:qx l k=none):pG P B A N ao E S (.mapUpdate t x y z) (rb b (l++[(k,v)])::R):=
  ⟨by simp,fun a w bg pos a8 g aq aH=>by
    obtain⟨⟨⟨es,ek⟩,hm⟩,ab⟩:=aH.C9 dV
    have a1:w.heap[b]?=some (.map es ek):=ab.at_ (.here _ _)
    obtain⟨BT,e,i,Bk,ae,av,aV⟩:=I0 aL
    obtain⟨r,e2,cD⟩:=IL k 0 hm.HM
    rw [ai]at cD
    have a4:r=none:=by cases r with
      |none=>rfl
      |some p=>simp at cD
    subst a4
    have ey:=(Array.getElem?_eq_some_iff.1 a1).1
    refine⟨{w with heap:=w.heap.setIfInBounds b (.map (es.push {key:= .int .i64 k,val:= .int .i64 v,born:=ek}) (ek+1))},by simp [execOp,aq.aX al,aq.aX aZ,aq.aX aS,Instr.mapUpdate,run_underlying Bk,MapKept.run_getObj_map a1,IJ ae,Instr.findKey,run_underlying ae,e2,MapKept.run_setObj_map _ a1],?_⟩
    have bN:=bC.set ab (ca:={w with heap:=w.heap.setIfInBounds b (.map (es.push {key:= .int .i64 k,val:= .int .i64 v,born:=ek}) (ek+1))}) (gC:= .map (es.push {key:= .int .i64 k,val:= .int .i64 v,born:=ek}) (ek+1)) (by simp [ey]) (fun k ai=>by simp [Ne.symm ai]) (by simp) rfl rfl rfl
    exact(pq (F:=fun z:{z:Array MapEntry×Nat//wh z.1 z.2 (l++[(k,v)])}=>[obj b (.map z.1.1 z.1.2)]) ⟨(es.push {key:= .int .i64 k,val:= .int .i64 v,born:=ek},ek+1),by have:=hm.HM;unfold x3 at this⊢;simp [this],fun x al=>by
        simp only [Array.toList_push,List.mem_append,List.mem_singleton]at al
        rcases al with al|rfl
        · exact Nat.lt_succ_of_lt (hm.born x al)
        · exact Nat.lt_succ_self _,by
        simp only [Array.toList_push,List.map_append,List.map_cons,List.map_nil]
        refine List.nodup_append.2 ⟨hm.oh,by simp,?_⟩
        intro a a5 b aR
        simp only [List.mem_singleton]at aR
        subst aR
        obtain⟨x,al,rfl⟩:=List.mem_map.1 a5
        exact Nat.ne_of_lt (hm.born x al)⟩ (.cons (.here _ _) (.nil _))).cH bN⟩
theorem Ze{t b:Nat}{l:List (Int×Int)}{k:Int}{x y:Operand}(al:aX E x=some (.map (some b)))(aZ:aX E y=some (.int .i64 k))(dV:Out (rb b l) S R)(aL:zf P t=true):dw P B A N ao E S (.lookup t x y true) (.tuple #[.int .i64 ((qx l k).getD 0),.bool (qx l k).isSome]):=
  ⟨by simp,by simp,fun a w bg pos a8 g d aq aH=>by
    obtain⟨⟨⟨es,ek⟩,hm⟩,ab⟩:=aH.C9 dV
    obtain⟨D,bO⟩:=ab.mem (.here _ _)
    have ae:(S8 (B:=B) b (qx l)).holds D w:=⟨bO.1,es,ek,l,bO.2,hm.HM,fun _=>rfl⟩
    simp [execOp,aq.aX al,aq.aX aZ,WQ aL ae]⟩
theorem WU{t b:Nat}{l:List (Int×Int)}{x:Operand}(al:aX E x=some (.map (some b)))(dV:Out (rb b l) S R)(aL:zf P t=true)(hw:Want ops N E g)(aJ:Nat.blt d N=true)
    (h:∀i n,cg P B A r N ops rest ao ((d,.pointer (some ⟨i,0,none⟩))::E) (Bs b i l n::R) Q):cg P B A r N ops (⟨some d,.range t x,bg,pos,a8,g⟩::rest) ao E S Q:=
  tD (α:=Nat×Nat) (fun z=> .pointer (some ⟨z.1,0,none⟩)) (fun z=>Bs b z.1 l z.2::R) (fun _=>True) hw (by simp) aJ (fun a w aq aH=>by
    obtain⟨⟨⟨es,ek⟩,hm⟩,ab⟩:=aH.C9 dV
    have a1:w.heap[b]?=some (.map es ek):=ab.at_ (.here _ _)
    obtain⟨BT,e,i,Bk,_⟩:=I0 aL
    refine⟨(w.heap.size,(leftOf es #[]).size),w.alloc (.mapIter (some b) ek #[] ek),by simp [execOp,aq.aX al,run_range_map w t BT e b es ek Bk a1],?_,trivial⟩
    exact(pq (F:=fun z:{z:Array MapEntry×Nat×Array Nat×Nat//wh z.1 z.2.1 l∧z.2.1≤z.2.2.2∧(leftOf z.1 z.2.2.1).size=(leftOf es #[]).size}=>[obj b (.map z.1.1 z.1.2.1),obj w.heap.size (.mapIter (some b) z.1.2.1 z.1.2.2.1 z.1.2.2.2)]) ⟨(es,ek, #[],ek),hm,Nat.le_refl _,rfl⟩ (.cons (.there _ (.here _ _)) (.cons (.here _ _) (.nil _)))).cH (ab.new (.mapIter (some b) ek #[] ek))) (fun z _=>h z.1 z.2)
theorem WV{es:Array MapEntry}{seen:Array Nat}{e:MapEntry}(h:e∈(leftOf es seen).toList):(leftOf es (seen.push e.born)).size<(leftOf es seen).size∧e∈es.toList:=by
  unfold leftOf at h⊢
  have eE:e∈es.toList∧seen.contains e.born=false:=by simpa using h
  refine⟨?_,eE.1⟩
  have aH:∀s:Array Nat,(es.filter fun e=>!s.contains e.born).size=(es.toList.filter fun e=>!s.contains e.born).length:=fun s=>by
    rw [show(es.filter fun e=>!s.contains e.born).size=(es.filter fun e=>!s.contains e.born).toList.length from(Array.length_toList).symm,Array.toList_filter]
  rw [aH,aH]
  exact filter_lt _ _ (fun x al=>by
    simp only [Array.contains_push,Bool.not_or,Bool.and_eq_true]at al
    exact al.1) e (by rw [eE.2];rfl) (by simp) _ eE.1
theorem aa8{es:List MapEntry}{l:List (Int×Int)}(h:x3 es l){e:MapEntry}(he:e∈es):∃p∈l,e.key= .int .i64 p.1∧e.val= .int .i64 p.2:=by
  have:(e.key,e.val)∈l.map fun p=>(Value.int .i64 p.1,Value.int .i64 p.2):=by rw [←h];exact List.mem_map.2 ⟨e,he,rfl⟩
  obtain⟨p,aC,bF⟩:=List.mem_map.1 this
  simp only [Prod.mk.injEq]at bF
  exact⟨p,aC,bF.1.symm,bF.2.symm⟩
theorem XX{b i n:Nat}{l:List (Int×Int)}{x:Operand}(al:aX E x=some (.pointer (some ⟨i,0,none⟩)))(dV:Out (Bs b i l n) S R)(hw:Want ops N E g)(aJ:Nat.blt d N=true)
    (b5:cg P B A r N ops rest ao ((d,.tuple #[.bool false])::E) (rb b l::R) Q)
    (ab:∀p m,p∈l→m<n→cg P B A r N ops rest ao ((d,.tuple #[.bool true,.int .i64 p.1,.int .i64 p.2])::E) (Md b i l p m::R) Q):cg P B A r N ops (⟨some d,.next x false,bg,pos,a8,g⟩::rest) ao E S Q:=
  tD (α:=Option ((Int×Int)×Nat)) (fun z=>match z with|none=> .tuple #[.bool false]|some z=> .tuple #[.bool true,.int .i64 z.1.1,.int .i64 z.1.2]) (fun z=>match z with|none=>rb b l::R|some z=>Md b i l z.1 z.2::R) (fun z=>match z with|none=>True|some z=>z.1∈l∧z.2<n) hw (by simp) aJ (fun a w aq aH=>by
    obtain⟨⟨⟨es,ek,seen,c6⟩,hm,a7,aP⟩,ae⟩:=aH.C9 dV
    have a1:w.heap[b]?=some (.map es ek):=ae.at_ (.here _ _)
    have a3:w.heap[i]?=some (.mapIter (some b) ek seen c6):=ae.at_ (.there _ (.here _ _))
    rcases run_next_at (P:=P) w bg i b ek c6 seen es ek a3 a1 hm.born a7 with⟨cy,bR⟩|⟨e,he,kP,ahl,bR⟩
    · refine⟨none,w,by simp [execOp,aq.aX al,bR],?_,trivial⟩
      exact(pq (F:=fun z:{z:Array MapEntry×Nat//wh z.1 z.2 l}=>[obj b (.map z.1.1 z.1.2)]) ⟨(es,ek),hm⟩ (.cons (.here _ _) (.nil _))).cH (ae.nz (L:=obj b (.map es ek)::R) (.cons (.here _ _) (show Take R (obj i _::R) _ from .skip (Take.self _))))
    · obtain⟨aE,Um⟩:=WV he
      obtain⟨p,aC,ai,cL⟩:=aa8 hm.HM Um
      have av:bC B A ([obj i (.mapIter (some b) ek seen c6)]++(obj b (.map es ek)::R)) kP:=by
        have aV:bC B A ([obj i (.mapIter (some b) ek seen c6)]++(obj b (.map es ek)::R)) w:=ae.take (L:=[obj i (.mapIter (some b) ek seen c6)]) (.cons (.there _ (.here _ _)) (.nil _))
        rcases ahl with rfl|rfl
        · exact aV
        · exact aV.drew
      have bI:kP.heap[i]?=some (.mapIter (some b) ek seen c6):=av.at_ (.here _ _)
      have ey:=(Array.getElem?_eq_some_iff.1 bI).1
      refine⟨some (p,(leftOf es (seen.push e.born)).size),ChangeMaps.setBlock kP i (.mapIter (some b) ek (seen.push e.born) ek),by simp [execOp,aq.aX al,bR,ai,cL],?_,aC,by have aP:(leftOf es seen).size=n:=aP;show(leftOf es (seen.push e.born)).size<n;omega⟩
      have bN:=bC.set (S:=obj b (.map es ek)::R) av (ca:=ChangeMaps.setBlock kP i (.mapIter (some b) ek (seen.push e.born) ek)) (gC:= .mapIter (some b) ek (seen.push e.born) ek) (by simp [ChangeMaps.setBlock,ey]) (fun k ai=>by simp [ChangeMaps.setBlock,Ne.symm ai]) (by simp [ChangeMaps.setBlock]) rfl rfl rfl
      exact(pq (F:=fun z:{z:Array MapEntry×Nat×Array Nat×MapEntry//wh z.1 z.2.1 l∧z.2.2.2∈z.1.toList∧z.2.2.2.key= .int .i64 p.1∧z.2.2.2.val= .int .i64 p.2∧(leftOf z.1 (z.2.2.1.push z.2.2.2.born)).size=(leftOf es (seen.push e.born)).size}=>[obj b (.map z.1.1 z.1.2.1),obj i (.mapIter (some b) z.1.2.1 (z.1.2.2.1.push z.1.2.2.2.born) z.1.2.1)]) ⟨(es,ek,seen,e),hm,Um,ai,cL,rfl⟩ (.cons (.there _ (.here _ _)) (.cons (.here _ _) (.nil _)))).cH bN) (fun z aS=>match z,aS with|none,_=>b5|some z,aS=>ab z.1 z.2 aS.1 aS.2)
theorem WW{b i n:Nat}{l:List (Int×Int)}{p:Int×Int}{x:Operand}(al:aX E x=some (.pointer (some ⟨i,0,none⟩)))(dV:Out (Md b i l p n) S R)(hw:Want ops N E g)(aJ:Nat.blt d N=true)
    (h:cg P B A r N ops rest ao ((d,.tuple #[.int .i64 p.1,.int .i64 p.2])::E) (Bs b i l n::R) Q):cg P B A r N ops (⟨some d,.entry x,bg,pos,a8,g⟩::rest) ao E S Q:=
  tD (α:=Unit) (fun _=> .tuple #[.int .i64 p.1,.int .i64 p.2]) (fun _=>Bs b i l n::R) (fun _=>True) hw (by simp) aJ (fun a w aq aH=>by
    obtain⟨⟨⟨es,ek,seen,e⟩,hm,he,ai,cL,aP⟩,ae⟩:=aH.C9 dV
    have a1:w.heap[b]?=some (.map es ek):=ae.at_ (.here _ _)
    have a3:w.heap[i]?=some (.mapIter (some b) ek (seen.push e.born) ek):=ae.at_ (.there _ (.here _ _))
    have ai:e.key= .int .i64 p.1:=ai
    have cL:e.val= .int .i64 p.2:=cL
    refine⟨(),w,by simp [execOp,aq.aX al,run_entry_at w i b ek seen es ek e a3 a1 he hm.oh,ai,cL],?_,trivial⟩
    exact(pq (F:=fun z:{z:Array MapEntry×Nat×Array Nat×Nat//wh z.1 z.2.1 l∧z.2.1≤z.2.2.2∧(leftOf z.1 z.2.2.1).size=n}=>[obj b (.map z.1.1 z.1.2.1),obj i (.mapIter (some b) z.1.2.1 z.1.2.2.1 z.1.2.2.2)]) ⟨(es,ek,seen.push e.born,ek),hm,Nat.le_refl _,aP⟩ (.cons (.here _ _) (.cons (.here _ _) (.nil _)))).cH ae) (fun _ _=>h)
end Go.Sl
end
section
namespace Go.Sl
open Go
variable{P:Program}{cB:Bool}{B:Nat}{A:e0}{r:Option Nat}{N:Nat}{ao:List Nat}{E fK:Env}{S bc R L F K:List (ar B)}{Q ik:fw B}{ops:Array Oper}{rest:List Oper}{d:Nat}{bg:TypeId}{pos:String}{a8:Array Edge}{g:Option (Nat×Bool)}
theorem bC.aa9{b:Nat}{aF ga:List Value}{e:TypeId}{w:World}(h:bC B A (U b aF e::S) w):bC B A (U b ga e::S) (w.setRow b ga.toArray):=by
  obtain⟨D,mf⟩:=h.mem (.here _ _)
  exact h.set (setRow_heap w b _ _ _ _ mf.2) (fun j aI=>setRow_other w b j _ aI) (by simp [World.setRow]) rfl rfl rfl
theorem FO:∀l:List Int,l.flatMap ea=l.map (Value.int .i64)
  |[]=>rfl
  |b::l=>by rw [List.flatMap_cons,FO l];rfl
abbrev shl(l:List Int):List Int:=l.drop 1++l.drop (l.length-1)
theorem P4{l:List Int}(h:1≤l.length):(shl l).length=l.length:=by simp [shl];try omega
theorem XY{z c:an Int}{n i t e jf:Nat}{gX:List Value}{listed:Array Bool}{vx:List (ar B)}{x h9:Operand}(af:ops[i]?=some ⟨some d,.call {callee:= .builtin .copy,args:= #[x,h9],argTypes:= #[t,t]},bg,pos,a8,g⟩)(hw:Want ops N E g)
    (al:aX E x=some (.slice z.bn z.l.length z.c)) (aZ:aX E h9=some (.slice c.bn c.l.length c.c)) (aL:jA P t=some (e,1,jf,gX)) (ahm:z.Own) (ab:1≤z.l.length) {ae:z.l.length≤z.l.length} {av:z.l.length≤z.c} (a7:c=z.cut 1 1 z.l.length z.c ab ae av)
    (gM:Out (row (.slice z.bn z.l.length z.c) e 1 z.l.length (z.l.flatMap ea)) S R) (aJ:Nat.blt d N=true)
    (h:eY cB P B A r N ops vx n (listed.setIfInBounds i true) ao ((d,.int .i64 (z.l.length-1:Nat))::E) (row (.slice z.bn z.l.length z.c) e 1 z.l.length ((shl z.l).flatMap ea)::R) Q):jO cB P B A r N ops vx n listed i ao E S Q:=by
  obtain⟨b,aR⟩:∃b,z.bn=some ⟨b,0,none⟩:=by
    cases aS:z.bn with
    |none=>have:=z.nil aS;rw [this]at ab;simp at ab
    |some bu=>obtain⟨b,rfl⟩:=ahm bu aS;exact⟨b,rfl⟩
  have hlen:c.l.length=z.l.length-1:=by rw [a7];show((z.l.drop 1).take (z.l.length-1)).length=_;simp
  have jK:=P4 ab
  refine AN (α:=Unit) (fun _=> .int .i64 (z.l.length-1:Nat)) (fun _=>row (.slice z.bn z.l.length z.c) e 1 z.l.length ((shl z.l).flatMap ea)::R) (fun _=>True) af hw (by simp) aJ (fun a w aq aH=>?_) (fun _ _=>h)
  have fo:=aH.take (.cons (gM.pre vx) (.nil _))
  rw [aR]at fo al
  obtain⟨dR,x5,a1,a3,bI,cv,eX,fJ⟩:=fo.IZ
  obtain⟨D,mf⟩:=x5.mem (.here _ _)
  obtain⟨i,cd,hu,ahn,aS,fB,_⟩:=xj aL
  rw [FO]at fJ
  rw [Nat.mul_one]at fJ eX
  have jZ:dR.length=z.c:=eX
  have Uj:z.l.length≤z.c:=z.cap
  have AQ:∀j v,((z.l.drop 1).map (Value.int .i64))[j]?=some v→w.cell? ((c.bn.getD ⟨0,0,none⟩).add j)=some v:=by
    intro j v aI
    have wM:j<z.l.length-1:=by have:=(List.getElem?_eq_some_iff.1 aI).1;simpa using this
    have gr:z.c≠1:=by omega
    have jg:c.bn=some ⟨b,1,none⟩:=by
      rw [a7];show(if z.c=1 then z.bn else z.bn.map (·.add (1*1)))=_
      rw [if_neg gr,aR];rfl
    rw [jg]
    show w.cell? ((⟨b,1,none⟩:Addr).add j)=_
    rw [nq,cell_of_row w b (1+j) _ e (0,0) mf.2]
    have lz:dR[1+j]?=some v:=by
      have:(dR.take z.l.length)[1+j]?=some v:=by rw [fJ,List.getElem?_map, ←aI,List.getElem?_map,List.getElem?_drop]
      rwa [List.getElem?_take_of_lt (by omega)]at this
    simpa using lz
  have DN:((z.l.drop 1).map (Value.int .i64)).length=z.l.length-1:=by simp
  by_cases qz:c.bn=none
  · exfalso
    rw [a7]at qz
    change (if z.c=1 then z.bn else z.bn.map (·.add (1*1)))=none at qz
    rw [aR]at qz;split at qz<;>cases qz
  obtain⟨M0,aho⟩:=Option.ne_none_iff_exists'.1 qz
  rw [aho]at AQ aZ
  have hG:=run_copy_row P w t t bg e b 0 z.l.length z.c M0 c.l.length c.c dR.toArray e ((z.l.drop 1).map (Value.int .i64)) hu (by rw [ahn];simp [fB]) mf.2 (by rw [DN,hlen];exact(Nat.min_eq_left (Nat.sub_le _ _)).symm) AQ (by rw [DN];simp;omega) (by intro v cL;obtain⟨u,_,rfl⟩:=List.mem_map.1 cL;rfl)
  rw [DN]at hG
  generalize ahp:w.setRow b (dR.toArray.toList.take 0++(z.l.drop 1).map (Value.int .i64)++dR.toArray.toList.drop (0+(z.l.length-1))).toArray=kP at hG
  refine⟨(),kP,by simp [execOp,resolve,invoke,builtin,aq.aX al,aq.aX aZ,hG,goInt],?_,trivial⟩
  subst ahp
  have mY:=(x5.aa9 (ga:=dR.take 0++(z.l.drop 1).map (Value.int .i64)++dR.drop (0+(z.l.length-1)))).FN (n:=z.l.length) (c:=z.c) (aN:=1) (xs:=(shl z.l).flatMap ea) (by rw [FO,List.length_map,jK,Nat.mul_one]) a3 bI cv (by simp;omega) (by
    rw [FO,Nat.mul_one,List.map_append,List.take_zero,List.nil_append,Nat.zero_add,List.take_append,DN,List.take_of_length_le (by rw [DN];omega)]
    congr 1
    rw [show z.l.length-(z.l.length-1)=1 by omega,List.map_drop, ←fJ,List.drop_take,show z.l.length-(z.l.length-1)=1 by omega])
  rw [aR]
  have E6:bC B A ([row (.slice (some ⟨b,0,none⟩) z.l.length z.c) e 1 z.l.length ((shl z.l).flatMap ea)]++(vx++R)) _:=mY
  simpa using E6.mid
end Go.Sl
end
