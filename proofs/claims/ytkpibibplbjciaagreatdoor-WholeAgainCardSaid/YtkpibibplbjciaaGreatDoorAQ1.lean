/- A part of the proof of WholeAgain: it hangs on nothing beside the given files. -/
import Derived.WalkKit
import Derived.RangeFuncNested
import Derived.RangeFuncLeaves
import Derived.OrdersIn
import Derived.Shelf.Abstract
import Derived.DeepKeys
import Derived.ProofKit
import Derived.OpenShut
import Derived.ShutString
import Derived.ChangeOld
import Derived.Below
import Derived.Carry
import Derived.Deep.Slices
import Derived.LaidLaws
import Derived.LaidHandle
import Derived.MakeChecks
import Derived.FnData
import Derived.Stop.Joined
import Derived.Laws.OwnMore
import Derived.Laws.AppendOwn
import Derived.Laws.BytesArg
import Derived.Laws.MakeOwn
import Derived.MapKept
import Derived.LoopNIn
import Derived.KernelRfl
import Derived.Lib.Bytealg
set_option linter.unusedVariables false
set_option linter.unusedSectionVars false
set_option linter.unusedSimpArgs false
section
namespace Go.Sl
open Go
structure ao(B:Nat) where
  holds:(Nat→Prop)→World→Prop
  lQ:∀{D:Nat→Prop} {w b3:World},holds D w→(∀k,k<B∨D k→b3.heap[k]?=w.heap[k]?)→holds D b3
variable{B:Nat}
def obj(b:Nat)(o:Obj):ao B where
  holds D w:=(∀k,D k↔k=b)∧w.heap[b]?=some o
  lQ:=fun h aB=>⟨h.1,(aB b (.inr ((h.1 b).2 rfl))).trans h.2⟩
abbrev aa(b:Nat)(au:List Value)(t:TypeId):ao B:=obj b (.cells au.toArray t (0,0))
def uX(W:World):ao B where
  holds D w:=(∀k,¬D k)∧∀k,k<B→w.heap[k]?=W.heap[k]?
  lQ:=fun h aB=>⟨h.1,fun k aj=>(aB k (.inl aj)).trans (h.2 k aj)⟩
def row(v:Value)(e:TypeId)(aH n:Nat)(xs:List Value):ao B where
  holds D w:=w.ownsRow B e aH v n xs∧∀k,D k↔v.ownBlock=some k
  lQ:=fun {D w b3} h aB=>by
    obtain⟨⟨ab,af⟩,az⟩:=h
    refine⟨⟨ab,?_⟩,az⟩
    rcases af with af|⟨g,cap,gU,ck,bh,eJ,r⟩
    · exact .inl af
    · exact .inr ⟨g,cap,gU,ck,bh,(aB g (.inr ((az g).2 (by rw [ck];rfl)))).trans eJ,r⟩
def dR:List (ao B)→(Nat→Prop)→World→Prop
  |[],D,_=>∀k,¬D k
  |A::L,D,w=>∃dk dX,(∀k,D k↔dk k∨dX k)∧(∀k,dk k→dX k→False)∧A.holds dk w∧dR L dX w
theorem dR.lQ:∀{L:List (ao B)} {D:Nat→Prop} {w b3:World},dR L D w→(∀k,k<B∨D k→b3.heap[k]?=w.heap[k]?)→dR L D b3
  |[],_,_,_,h,_=>h
  |A::L,D,w,b3,⟨dk,dX,bZ,aD,ab,af⟩,aB=>
    ⟨dk,dX,bZ,aD,A.lQ ab (fun k aj=>aB k (aj.imp id fun h=>(bZ k).2 (.inl h))),dR.lQ af (fun k aj=>aB k (aj.imp id fun h=>(bZ k).2 (.inr h)))⟩
theorem dR.append:∀{hj hp:List (ao B)} {D:Nat→Prop} {w:World},dR (hj++hp) D w→
    ∃dk dX,(∀k,D k↔dk k∨dX k)∧(∀k,dk k→dX k→False)∧dR hj dk w∧dR hp dX w
  |[],hp,D,w,h=>⟨fun _=>False,D,fun k=>by simp,fun _ h _=>h,fun _ h=>h,h⟩
  |A::hj,hp,D,w,⟨Bn,IG,bZ,aD,aO,bb⟩=>by
    obtain⟨dk,dX,ms,tq,ab,af⟩:=dR.append bb
    refine⟨fun k=>Bn k∨dk k,dX,fun k=>?_,fun k h af=>?_,⟨Bn,dk,fun k=>Iff.rfl,fun k aO ab=>aD k aO ((ms k).2 (.inl ab)),aO,ab⟩,af⟩
    · rw [bZ k,ms k,or_assoc]
    · rcases h with h|h
      · exact aD k h ((ms k).2 (.inr af))
      · exact tq k h af
theorem dR.join:∀{hj hp:List (ao B)} {D dk dX:Nat→Prop} {w:World},(∀k,D k↔dk k∨dX k)→(∀k,dk k→dX k→False)→dR hj dk w→dR hp dX w→dR (hj++hp) D w
  |[],hp,D,dk,dX,w,bZ,_,ab,af=>by
    have:D=dX:=funext fun k=>propext ⟨fun h=>((bZ k).1 h).resolve_left (ab k),fun h=>(bZ k).2 (.inr h)⟩
    rw [this];exact af
  |A::hj,hp,D,dk,dX,w,bZ,aD,⟨Bn,IG,ms,tq,aO,bb⟩,af=>
    ⟨Bn,fun k=>IG k∨dX k,fun k=>by rw [bZ k,ms k,or_assoc],fun k ab h=>h.elim (tq k ab) (fun af=>aD k ((ms k).2 (.inl ab)) af),aO,
      dR.join (fun _=>Iff.rfl) (fun k h af=>aD k ((ms k).2 (.inr h)) af) bb af⟩
inductive Out{α:Type}:α→List α→List α→Prop
  |here (x:α) (S:List α):Out x (x::S) S
  |there {x:α} {S R:List α} (y:α) (h:Out x S R):Out x (y::S) (y::R)
inductive Take{α:Type}:List α→List α→List α→Prop
  |nil (S:List α):Take [] S S
  |cons {x:α} {L S R T:List α} (h:Out x S R) (t:Take L R T):Take (x::L) S T
inductive gJ{α:Type}:List α→List α→List α→Prop
  |nil (S:List α):gJ [] S S
  |cons {x:α} {L S T:List α} (h:gJ L S T):gJ (x::L) S (x::T)
theorem gJ.eq{α:Type}{L S T:List α}(h:gJ L S T):L++S=T:=by
  induction h with
  |nil S=>rfl
  |cons h ih=>rw [List.cons_append,ih]
theorem Take.self{α:Type}:∀(S:List α),Take S S []
  |[]=> .nil _
  |x::S=> .cons (.here x S) (Take.self S)
theorem Out.n5{x:ao B}{S R:List (ao B)}(h:Out x S R):∀{D w},dR S D w→dR (x::R) D w:=by
  induction h with
  |here S=>exact fun h=>h
  |there y h ih=>
    intro D w ⟨dk,dX,bZ,aD,ab,af⟩
    obtain⟨kc,k1,ms,tq,az,a5⟩:=ih af
    refine⟨kc,fun k=>dk k∨k1 k,fun k=>?_,fun k aj h=>?_,az,dk,k1,fun _=>Iff.rfl,fun k aj h=>aD k aj ((ms k).2 (.inr h)),ab,a5⟩
    · rw [bZ k,ms k];exact⟨fun h=>h.elim (fun h=> .inr (.inl h)) (fun h=>h.elim .inl (fun h=> .inr (.inr h))),fun h=>h.elim (fun h=> .inr (.inl h)) (fun h=>h.elim .inl (fun h=> .inr (.inr h)))⟩
    · exact h.elim (fun h=>aD k h ((ms k).2 (.inl aj))) (fun h=>tq k aj h)
theorem Take.n5{L S R:List (ao B)}(h:Take L S R):∀{D w},dR S D w→dR (L++R) D w:=by
  induction h with
  |nil S=>exact fun h=>h
  |cons h t ih=>
    intro D w eK
    obtain⟨dk,dX,bZ,aD,ab,af⟩:=h.n5 eK
    exact⟨dk,dX,bZ,aD,ab,ih af⟩
structure sc(l2:World)(dk:Nat→Prop)(w:World):Prop where
  os:w.os=l2.os
  tape:w.tape=l2.tape
  output:w.output=l2.output
  size:l2.heap.size≤w.heap.size
  same:∀k,k<l2.heap.size→¬dk k→w.heap[k]?=l2.heap[k]?
theorem sc.refl(w:World)(D:Nat→Prop):sc w D w:=⟨rfl,rfl,rfl,Nat.le_refl _,fun _ _ _=>rfl⟩
structure eD where
  l2:World
  dk:Nat→Prop
def bB(B:Nat)(A:eD)(S:List (ao B))(w:World):Prop:=
  ∃D,dR S D w∧(∀k,D k→B≤k∧k<w.heap.size)∧(∀k,D k→A.dk k∨A.l2.heap.size≤k)∧sc A.l2 A.dk w∧B≤A.l2.heap.size∧(∀k,A.dk k→B≤k)
variable{A:eD}{S R L:List (ao B)}{w b3:World}
theorem bB.size(h:bB B A S w):B≤w.heap.size:=let⟨_,_,_,_,br,bb,_⟩:=h;Nat.le_trans bb br.size
theorem bB.take(h:bB B A S w)(t:Take L S R):bB B A (L++R) w:=by
  obtain⟨D,ab,af⟩:=h
  exact⟨D,t.n5 ab,af⟩
theorem bB.drop(h:bB B A (L++R) w):bB B A L w:=by
  obtain⟨D,ab,af,az,a5⟩:=h
  obtain⟨dk,dX,bZ,_,aJ,_⟩:=ab.append
  exact⟨dk,aJ,fun k aj=>af k ((bZ k).2 (.inl aj)),fun k aj=>az k ((bZ k).2 (.inl aj)),a5⟩
theorem bB.mm(h:bB B A S w)(t:Take L S R):bB B A L w:=(h.take t).drop
theorem dR.new{D:Nat→Prop}{o:Obj}(h:dR S D w)(bZ:∀k,D k→B≤k∧k<w.heap.size)(hq:B≤w.heap.size):
    dR (obj w.heap.size o::S) (fun k=>k=w.heap.size∨D k) (w.alloc o):=
  ⟨fun k=>k=w.heap.size,D,fun _=>Iff.rfl,fun k aj aD=>by have:=(bZ k aD).2;omega,⟨fun _=>Iff.rfl,World.alloc_heap_new w o⟩,
    h.lQ (fun k aj=>Go.RowKit.Below.heap_alloc _ _ _ (by rcases aj with aj|aj;omega;exact(bZ k aj).2))⟩
end Go.Sl
end
section
namespace Go.Sl
open Go
variable{B:Nat}{A:eD}{S R L F:List (ao B)}{w b3:World}
theorem bB.new(h:bB B A S w)(o:Obj):bB B A (obj w.heap.size o::S) (w.alloc o):=by
  obtain⟨D,ab,af,az,a5,cd,c5⟩:=h
  refine⟨fun k=>k=w.heap.size∨D k,ab.new af (Nat.le_trans cd a5.size),fun k aj=>?_,fun k aj=>?_,⟨a5.os,a5.tape,a5.output,?_,fun k aj a7=>?_⟩,cd,c5⟩
  · simp only [World.size_alloc]
    rcases aj with rfl|aj
    · exact⟨Nat.le_trans cd a5.size,by omega⟩
    · have:=af k aj;omega
  · rcases aj with rfl|aj
    · exact .inr a5.size
    · exact az k aj
  · simp only [World.size_alloc];have:=a5.size;omega
  · rw [Go.RowKit.Below.heap_alloc _ _ _ (by have:=a5.size;omega)];exact a5.same k aj a7
theorem bB.set{b:Nat}{o fU:Obj}(h:bB B A (obj b o::S) w)(bb:b3.heap[b]?=some fU)(ap:∀k,k≠b→b3.heap[k]?=w.heap[k]?)
    (e0:b3.heap.size=w.heap.size) (HD:b3.os=w.os) (aR:b3.tape=w.tape) (v3:b3.output=w.output):bB B A (obj b fU::S) b3:=by
  obtain⟨D,⟨dk,dX,bZ,aD,jl,aB⟩,af,az,a5,cd,c5⟩:=h
  have DM:D b:=(bZ b).2 (.inl ((jl.1 b).2 rfl))
  refine⟨D,⟨dk,dX,bZ,aD,⟨jl.1,bb⟩,aB.lQ fun k aj=>ap k ?_⟩,fun k aj=>by rw [e0];exact af k aj,az,⟨HD.trans a5.os,aR.trans a5.tape,v3.trans a5.output,by rw [e0];exact a5.size,fun k aj a7=>?_⟩,cd,c5⟩
  · rintro rfl
    rcases aj with aj|aj
    · have:=(af k DM).1;omega
    · exact aD k ((jl.1 k).2 rfl) aj
  · rw [ap k,a5.same k aj a7]
    rintro rfl
    rcases az k DM with h|h
    · exact a7 h
    · omega
theorem bB.same(h:bB B A S w)(eJ:b3.heap=w.heap)(HD:b3.os=w.os)(aR:b3.tape=w.tape)(v3:b3.output=w.output):bB B A S b3:=by
  obtain⟨D,ab,af,az,a5,cd,c5⟩:=h
  exact⟨D,ab.lQ (fun k _=>by rw [eJ]),fun k aj=>by rw [eJ];exact af k aj,az,⟨HD.trans a5.os,aR.trans a5.tape,v3.trans a5.output,by rw [eJ];exact a5.size,fun k aj a7=>by rw [eJ];exact a5.same k aj a7⟩,cd,c5⟩
theorem bB.nO{pre a8:List (ao B)}{D hK l3:Nat→Prop}(ab:dR (pre++F) D w)(af:∀k,D k→B≤k∧k<w.heap.size)(az:∀k,D k→A.dk k∨A.l2.heap.size≤k)(a5:sc A.l2 A.dk w)(cd:B≤A.l2.heap.size)(c5:∀k,A.dk k→B≤k)
    (bZ:∀k,D k↔hK k∨l3 k) (aD:∀k,hK k→l3 k→False) (b7:dR F l3 w) (aE:bB B ⟨w,hK⟩ a8 b3):bB B A (a8++F) b3:=by
  obtain⟨qb,bM,bS,cD,cV,ff,gE⟩:=aE
  have e0:=cV.size
  have key:∀k,l3 k→k<w.heap.size∧¬hK k:=fun k aj=>⟨(af k ((bZ k).2 (.inr aj))).2,fun h=>aD k h aj⟩
  refine⟨fun k=>qb k∨l3 k,dR.join (fun _=>Iff.rfl) (fun k h eW=>?_) bM (b7.lQ fun k aj=>?_),fun k aj=>?_,fun k aj=>?_,⟨cV.os.trans a5.os,cV.tape.trans a5.tape,cV.output.trans a5.output,Nat.le_trans a5.size e0,fun k aj a7=>?_⟩,cd,c5⟩
  · rcases cD k h with ab|ab
    · exact aD k ab eW
    · have:=(key k eW).1;simp only at ab;omega
  · rcases aj with aj|aj
    · exact cV.same k (by simp only;simp only at ff;omega) (fun h=>by have:=gE k h;omega)
    · exact cV.same k (key k aj).1 (key k aj).2
  · rcases aj with aj|aj
    · exact bS k aj
    · have:=af k ((bZ k).2 (.inr aj));simp only at e0;omega
  · rcases aj with aj|aj
    · rcases cD k aj with h|h
      · exact az k ((bZ k).2 (.inl h))
      · have:=a5.size;simp only at h;exact .inr (by omega)
    · exact az k ((bZ k).2 (.inr aj))
  · by_cases mU:hK k
    · rcases az k ((bZ k).2 (.inl mU))with h|h
      · exact absurd h a7
      · omega
    · have fo:=a5.size
      exact(cV.same k (by simp only;omega) mU).trans (a5.same k aj a7)
theorem bB.mem{x:ao B}(h:bB B A S w)(ap:Out x S R):∃D,x.holds D w:=by
  obtain⟨D,ab,_⟩:=h
  obtain⟨dk,dX,_,_,az,_⟩:=ap.n5 ab
  exact⟨dk,az⟩
abbrev Env:=List (Nat×Value)
def Env.get:Env→Nat→Option Value
  |[],_=>none
  |(k,v)::E,t=>bif Nat.beq t k then some v else Env.get E t
def Env.sub:Env→Env→Prop
  |[],_=>True
  |(k,v)::E,fp=>fp.get k=some v∧Env.sub E fp
theorem Env.sub.get:∀{E fp:Env},E.sub fp→∀{t v},E.get t=some v→fp.get t=some v
  |[],_,_,_,_,h=>by cases h
  |(k,u)::E,fp,⟨ab,af⟩,t,v,h=>by
    simp only [Env.get]at h
    cases bb:Nat.beq t k with
    |true=>rw [bb]at h;simp at h;subst h;rw [Nat.eq_of_beq_eq_true bb];exact ab
    |false=>rw [bb]at h;exact Env.sub.get af h
class lW where
  l:List Deferred
instance Xw:lW:=⟨[]⟩
theorem uf:(@lW.l Xw)=[]:=rfl
variable[lW]
structure dq(N:Nat)(an:List Nat)(E:Env)(a:Act):Prop where
  size:a.tmps.size=N
  oF:a.defers=(an.map fun d=>{target:= .collected d,args:= #[]})++lW.l
  get:∀t v,E.get t=some v→a.tmps.getD t undef=v
def aX(E:Env):Operand→Option Value
  | .tmp t=>E.get t
  | .const v=>some v
  | .global g=>some (.pointer (some ⟨g,0,none⟩))
  | .func f=>some (.func (.func f) #[] #[])
variable{N d t:Nat}{an:List Nat}{E fp:Env}{a:Act}{v:Value}{x:Operand}
theorem dq.aX(h:dq N an E a)(av:aX E x=some v):a.eval x=v:=by
  cases x with
  |tmp t=>exact h.get t v av
  |const u=>simpa [Sl.aX,Act.eval]using av
  |global g=>simpa [Sl.aX,Act.eval]using av
  |func f=>simpa [Sl.aX,Act.eval]using av
theorem dq.sub(h:dq N an E a)(aB:fp.sub E):dq N an fp a:=⟨h.size,h.oF,fun t v aR=>h.get t v (aB.get aR)⟩
theorem dq.put(h:dq N an E a)(aD:d<N):dq N an ((d,v)::E) (a.put (some d) v):=by
  refine⟨by simp [Act.put,h.size],h.oF,fun t u aR=>?_⟩
  simp only [Env.get]at aR
  simp only [Act.put]
  cases bb:Nat.beq t d with
  |true=>
    rw [bb]at aR;simp at aR;subst aR
    obtain rfl:=Nat.eq_of_beq_eq_true bb
    have:t<a.tmps.size:=by rw [h.size];exact aD
    simp [Array.getD,this]
  |false=>
    rw [bb]at aR
    have kI:d≠t:=fun e=>by subst e;simp at bb
    have:=h.get t u aR
    rw [←this]
    simp [Array.getD_eq_getD_getElem?,kI]
end Go.Sl
end
section
namespace Go.Sl
open Go
abbrev l4(r:Option Nat):Fence:={Fence.wide with round:=r}
abbrev e7(B:Nat):=Exit→List Nat→Env→List (ao B)→Prop
section
variable[lW]
def ta(B:Nat)(A:eD)(N:Nat)(Q:e7 B):Exit→Act→World→Prop:=fun e a w=>∃an E S,dq N an E a∧bB B A S w∧Q e an E S
def X(P:Program)(B:Nat)(A:eD)(r:Option Nat)(N:Nat)(c:Code)(an:List Nat)(E:Env)(S:List (ao B))(Q:e7 B):Prop:=
  ∀a w,dq N an E a→bB B A S w→c.wpIn (l4 r) 0 P (ta B A N Q) a w
def zP(P:Program)(B:Nat)(A:eD)(r:Option Nat)(N:Nat)(y:Code)(Q:e7 B):e7 B
  | .normal,an,E,S=>X P B A r N y an E S Q
  |e,an,E,S=>Q e an E S
def sY{B:Nat}(id:Nat)(Q:e7 B):e7 B
  | .exit i,an,E,S=>bif Nat.beq i id then Q .normal an E S else Q (.exit i) an E S
  |e,an,E,S=>Q e an E S
end
variable{P:Program}{B:Nat}{A:eD}{r:Option Nat}{N:Nat}{c x y:Code}{an:List Nat}{E fp:Env}{S R L F:List (ao B)}{Q ic:e7 B}
section
variable[lW]
theorem dZ(h:X P B A r N x an E S (zP P B A r N y Q)):X P B A r N (.seq x y) an E S Q:=by
  intro a w ap aB
  refine wpIn_seq (wpIn_mono (h a w ap aB) ?_)
  rintro e ie b3 ⟨j8,fp,a8,ok,bz,q⟩
  cases e with
  |normal=>exact q ie b3 ok bz
  |_=>exact⟨j8,fp,a8,ok,bz,q⟩
theorem kk(h:Q .normal an E S):X P B A r N .skip an E S Q:=fun a w ap aB=>wpIn_skip ⟨an,E,S,ap,aB,h⟩
theorem rS(h:Q .ret an E S):X P B A r N .ret an E S Q:=fun a w ap aB=>wpIn_ret ⟨an,E,S,ap,aB,h⟩
theorem uj{id:Nat}(h:Q (.exit id) an E S):X P B A r N (.exit id) an E S Q:=fun a w ap aB=>wpIn_exit ⟨an,E,S,ap,aB,h⟩
theorem qY{id:Nat}(h:X P B A r N c an E S (sY id Q)):X P B A r N (.block id c) an E S Q:=by
  intro a w ap aB
  refine wpIn_block (wpIn_mono (h a w ap aB) ?_)
  rintro e ie b3 ⟨j8,fp,a8,ok,bz,q⟩
  cases e with
  |exit i=>
    simp only [Exit.inBlock]
    by_cases ak:i=id
    · subst ak
      simp only [if_true]
      exact⟨j8,fp,a8,ok,bz,by simpa [sY]using q⟩
    · have:Nat.beq i id=false:=by cases bb:Nat.beq i id with
        |true=>exact absurd (Nat.eq_of_beq_eq_true bb) ak
        |false=>rfl
      simp only [ak,if_false]
      exact⟨j8,fp,a8,ok,bz,by simpa [sY,this]using q⟩
  |_=>exact⟨j8,fp,a8,ok,bz,q⟩
theorem CR{o:Operand}{t:Bool}(ap:aX E o=some (.bool t))(ab:t=true→X P B A r N x an E S Q)(af:t=false→X P B A r N y an E S Q):X P B A r N (.cond o x y) an E S Q:=
  fun a w dy aB=>wpIn_cond_split (dy.aX ap) (fun h=>ab h a w dy aB) (fun h=>af h a w dy aB)
theorem B9{o:Operand}{t:Bool}(ap:aX E o=some (.bool t))(aR:t=true)(h:X P B A r N x an E S Q):X P B A r N (.cond o x y) an E S Q:=
  CR ap (fun _=>h) (fun h=>by rw [aR]at h;cases h)
theorem tZ{o:Operand}{t:Bool}(ap:aX E o=some (.bool t))(aR:t=false)(h:X P B A r N y an E S Q):X P B A r N (.cond o x y) an E S Q:=
  CR ap (fun h=>by rw [aR]at h;cases h) (fun _=>h)
def zQ{α:Type}(I:α→Prop)(hS:α→Env)(hT:α→List (ao B))(m:α→Nat)(x:α)(an:List Nat)(Q:e7 B):e7 B
  | .normal,j8,E,S=>j8=an∧∃gM R,I gM∧m gM<m x∧(hS gM).sub E∧Take (hT gM) S R
  |e,an,E,S=>Q e an E S
theorem dH{α:Type}(I:α→Prop)(hS:α→Env)(hT:α→List (ao B))(m:α→Nat)(qS:α)(b0:I qS)(ek:(hS qS).sub E)(eK:Take (hT qS) S R)
    (h:∀x,I x→X P B A r N c an (hS x) (hT x) (zQ I hS hT m x an Q)):X P B A r N (.loop c) an E S Q:=by
  intro a w ap aB
  have abo:∃x,I x∧dq N an (hS x) a∧bB B A (hT x) w:=⟨qS,b0,ap.sub ek,aB.mm eK⟩
  obtain⟨IH,ON⟩:∃IH:Act→World→Nat,∀a w,(∃x,I x∧dq N an (hS x) a∧bB B A (hT x) w)→∃x,I x∧dq N an (hS x) a∧bB B A (hT x) w∧m x=IH a w∧∀y,I y→dq N an (hS y) a→bB B A (hT y) w→m x≤m y:=by
    classical
    let Qd:Act→World→Nat→Prop:=fun a w k=>∃x,I x∧dq N an (hS x) a∧bB B A (hT x) w∧m x=k
    have least:∀(p:Nat→Prop),(∃k,p k)→∃k,p k∧∀j,p j→k≤j:=by
      intro p ⟨k,aj⟩
      induction k using Nat.strongRecOn with
      |_ k ih=>
        by_cases h:∃j,j<k∧p j
        · obtain⟨j,aY,aE⟩:=h;exact ih j aY aE
        · exact⟨k,aj,fun j aY=>Nat.le_of_not_lt fun er=>h ⟨j,er,aY⟩⟩
    refine⟨fun a w=>if h:∃k,Qd a w k then Classical.choose (least _ h)else 0,fun a w av=>?_⟩
    have h:∃k,Qd a w k:=let⟨x,ab,af,az⟩:=av;⟨m x,x,ab,af,az,rfl⟩
    simp only [dif_pos h]
    obtain⟨⟨x,ab,af,az,a5⟩,aJ⟩:=Classical.choose_spec (least _ h)
    exact⟨x,ab,af,az,a5,fun y bM bS cD=>by rw [a5];exact aJ _ ⟨y,bM,bS,cD,rfl⟩⟩
  refine wpIn_loop (fun a w=>∃x,I x∧dq N an (hS x) a∧bB B A (hT x) w) IH abo ?_
  intro a w vm
  obtain⟨x,ab,af,az,a5,cd⟩:=ON a w vm
  refine wpIn_mono (h x ab a w af az) ?_
  rintro e ie b3 ⟨j8,fp,a8,ok,bz,q⟩
  cases e with
  |normal=>
    obtain⟨rfl,gM,jo,bM,bS,cD,cV⟩:=q
    have OO:∃x,I x∧dq N j8 (hS x) ie∧bB B A (hT x) b3:=⟨gM,bM,ok.sub cD,bz.mm cV⟩
    refine⟨OO,?_⟩
    obtain⟨y,_,_,_,tG,II⟩:=ON ie b3 OO
    rw [←tG, ←a5]
    exact Nat.lt_of_le_of_lt (II gM bM (ok.sub cD) (bz.mm cV)) bS
  |_=>exact⟨j8,fp,a8,ok,bz,q⟩
end
def dQ(P:Program)(B:Nat)(f:FuncId)(args:List Value)(pre:List (ao B))(post:Value→List (ao B)→Prop):Prop:=
  ∀w D,dR pre D w→(∀k,D k→B≤k∧k<w.heap.size)→B≤w.heap.size→
    CallsIn (l4 none) 0 P f args.toArray w fun e b3=>∃v a8,e= .returned v∧post v a8∧bB B ⟨w,D⟩ a8 b3
def Env.pe:Nat→List Value→Env
  |_,[]=>[]
  |n,v::l=>(n,v)::Env.pe (n+1) l
theorem Env.BV:∀(l:List Value) (n t:Nat) (v:Value),(Env.pe n l).get t=some v→n≤t∧l[t-n]?=some v
  |[],_,_,_,h=>by cases h
  |u::l,n,t,v,h=>by
    simp only [Env.pe,Env.get]at h
    cases bb:Nat.beq t n with
    |true=>
      rw [bb]at h;simp at h;subst h
      obtain rfl:=Nat.eq_of_beq_eq_true bb
      simp
    |false=>
      rw [bb]at h
      obtain⟨ab,af⟩:=Env.BV l (n+1) t v h
      have:t-n=(t-(n+1))+1:=by omega
      exact⟨by omega,by rw [this];simpa using af⟩
abbrev du(d:Nat):ao B:=obj d (.deferred (some []))
def uK(P:Program)(B:Nat)(A:eD)(N:Nat)(fn:Func)(post:Value→List (ao B)→Prop):e7 B
  | .normal,an,E,S| .ret,an,E,S=>∃v L,Take (an.map du) S L∧(∀a w,dq N an E a→bB B A L w→(results fn a.tmps).run P w= .ok v w)∧∃hr R,Take hr L R∧post v hr
  |_,_,_,_=>False
theorem bB.tail{x:ao B}{w:World}(h:bB B A (x::S) w):bB B A S w:=by
  obtain⟨D,⟨dk,dX,bZ,aD,_,aB⟩,af,az,a5,cd,c5⟩:=h
  exact⟨dX,aB,fun k aj=>af k ((bZ k).2 (.inr aj)),fun k aj=>az k ((bZ k).2 (.inr aj)),a5,cd,c5⟩
theorem bB.Xx{d:Nat}{w:World}(h:bB B A (du d::S) w):w.heap[d]?=some (.deferred (some []))∧bB B A S (w.putObj d (.deferred none)):=by
  obtain⟨D,nh⟩:=h.mem (.here _ _)
  have aD:=(Array.getElem?_eq_some_iff.1 nh.2).1
  refine⟨nh.2,?_⟩
  have:=h.set (b3:=w.putObj d (.deferred none)) (fU:= .deferred none) (World.putObj_heap_same aD) (fun k aj=>World.putObj_heap_other aj) (by simp) rfl rfl rfl
  exact this.tail
theorem JM{fn:Func}{post:Value→List (ao B)→Prop}{l2:World}{dk:Nat→Prop}{v:Value}{kA:Array Value}{L:List (ao B)}
    (aE:∃hr R,Take hr L R∧post v hr):∀(an:List Nat) (w:World),bB B ⟨l2,dk⟩ (an.map du++L) w→
    (∀w,bB B ⟨l2,dk⟩ L w→(results fn kA).run P w= .ok v w)→
    LeavesInM (l4 none) 0 P fn kA (fun e b3=>∃v a8,e= .returned v∧post v a8∧bB B ⟨l2,dk⟩ a8 b3) (an.map fun d=>{target:= .collected d,args:= #[]}) .returning w
  |[],w,aB,bk=>by
    obtain⟨hr,R,t,aE⟩:=aE
    exact⟨v,bk w aB,v,hr,rfl,aE,bB.mm aB t⟩
  |d::an,w,aB,bk=>by
    obtain⟨ab,af⟩:=bB.Xx aB
    exact⟨by simp,.inl ⟨d,_,rfl,run_takeDeferred ab,JM aE an _ af bk⟩⟩
theorem Ff{f:FuncId}{fn:Func}{args:List Value}{pre:List (ao B)}{post:Value→List (ao B)→Prop}(br:P.funcs[f]?=some fn)(bb:fn.body=some c)
    (a7:args.length≤N) (jb:fn.ntmps=N)
    (h:∀w D,X P B ⟨w,D⟩ none N c [] (Env.pe 0 args) pre (uK P B ⟨w,D⟩ N fn post)):dQ P B f args pre post:=by
  intro w D aB bZ hq
  refine callsIn_of_wp_marks br bb trivial (wpIn_mono (h w D _ w ?_ ⟨D,aB,bZ,fun k aj=> .inl aj,sc.refl _ _,hq,fun k aj=>(bZ k aj).1⟩) ?_)
  · refine⟨by simp [jb];omega,rfl,fun t v aR=>?_⟩
    obtain⟨_,af⟩:=Env.BV _ _ _ _ aR
    rw [Nat.sub_zero]at af
    have az:=(List.getElem?_eq_some_iff.1 af).1
    rw [Array.getD_eq_getD_getElem?,Array.getElem?_append_left (by simpa using az)]
    simpa using congrArg (·.getD undef) af
  · rintro e ie b3 ⟨j8,fp,a8,ok,bz,q⟩
    have fin:∀{v L},Take (j8.map du) a8 L→(∀a b3,dq N j8 fp a→bB B ⟨w,D⟩ L b3→(results fn a.tmps).run P b3= .ok v b3)→(∃hr R,Take hr L R∧post v hr)→
        LeavesInM (l4 none) 0 P fn ie.tmps (fun e b3=>∃v a8,e= .returned v∧post v a8∧bB B ⟨w,D⟩ a8 b3) ie.defers .returning b3:=by
      intro v L t bk aE
      rw [ok.oF,uf,List.append_nil]
      exact JM aE j8 b3 (bz.take t) (fun w hw=>bk ie w ok hw)
    cases e with
    |normal=>obtain⟨v,L,t,bk,aE⟩:=q;exact fin t bk aE
    |ret=>obtain⟨v,L,t,bk,aE⟩:=q;exact fin t bk aE
    |_=>exact q.elim
theorem dQ.mono{f:FuncId}{args:List Value}{pre:List (ao B)}{post pj:Value→List (ao B)→Prop}(h:dQ P B f args pre post)(aE:∀v S,post v S→pj v S):dQ P B f args pre pj:=
  fun w D ab af az=>(h w D ab af az).mono fun _ _ ⟨v,a8,e,p,bz⟩=>⟨v,a8,e,aE _ _ p,bz⟩
section
variable[lW]
theorem B2(h:Q .ret an E S):zP P B A r N y Q .ret an E S:=h
theorem tS{i:Nat}(h:Q (.exit i) an E S):zP P B A r N y Q (.exit i) an E S:=h
theorem ik(h:X P B A r N y an E S Q):zP P B A r N y Q .normal an E S:=h
theorem Rh{i:Nat}(h:Q .ret an E S):sY i Q .ret an E S:=h
theorem EL{i:Nat}(h:Q .normal an E S):sY i Q .normal an E S:=h
theorem tT{i:Nat}(h:Q .normal an E S):sY i Q (.exit i) an E S:=by simpa [sY]using h
theorem Ri{i j:Nat}(bb:Nat.beq j i=false)(h:Q (.exit j) an E S):sY i Q (.exit j) an E S:=by simpa [sY,bb]using h
theorem Rj{α:Type}{I:α→Prop}{hS:α→Env}{hT:α→List (ao B)}{m:α→Nat}{x:α}{ym:List Nat}(h:Q .ret an E S):zQ I hS hT m x ym Q .ret an E S:=h
theorem tU{α:Type}{I:α→Prop}{hS:α→Env}{hT:α→List (ao B)}{m:α→Nat}{x:α}{ym:List Nat}{i:Nat}(h:Q (.exit i) an E S):zQ I hS hT m x ym Q (.exit i) an E S:=h
theorem eg{α:Type}{I:α→Prop}{hS:α→Env}{hT:α→List (ao B)}{m:α→Nat}{x:α}(gM:α)(ab:I gM)(af:m gM<m x)(az:(hS gM).sub E)(a5:∃R,Take (hT gM) S R):zQ I hS hT m x an Q .normal an E S:=
  let⟨R,a5⟩:=a5;⟨rfl,gM,R,ab,af,az,a5⟩
end
theorem cc{fn:Func}{post:Value→List (ao B)→Prop}{v:Value}(t:Take (an.map du) S L)(bk:∀a w,dq N an E a→bB B A L w→(results fn a.tmps).run P w= .ok v w)(h:∃hr,post v hr∧∃R,Take hr L R):
    uK P B A N fn post .ret an E S:=let⟨hr,aE,R,t2⟩:=h;⟨v,L,t,bk,hr,R,t2,aE⟩
theorem Cm{fn:Func}{post:Value→List (ao B)→Prop}{v:Value}(t:Take (an.map du) S L)(bk:∀a w,dq N an E a→bB B A L w→(results fn a.tmps).run P w= .ok v w)(h:∃hr,post v hr∧∃R,Take hr L R):
    uK P B A N fn post .normal an E S:=let⟨hr,aE,R,t2⟩:=h;⟨v,L,t,bk,hr,R,t2,aE⟩
section
variable[lW]
theorem zl{fn:Func}{t:Nat}{v:Value}{T:World→Prop}(h:fn.results= #[.tmp t])(ck:E.get t=some v):∀a w,dq N an E a→T w→(results fn a.tmps).run P w= .ok v w:=by
  intro a w ap _
  rw [results_tmp h,ap.get t v ck]
theorem ua{fn:Func}{T:World→Prop}(h:fn.results= #[]):∀a w,dq N an E a→T w→(results fn a.tmps).run P w= .ok (.tuple #[]) w:=fun a w _ _=>results_none h _ _ _
theorem zd{fn:Func}{t u:Nat}{v1 v2:Value}{T:World→Prop}(h:fn.results= #[.tmp t,.tmp u])(ab:E.get t=some v1)(af:E.get u=some v2):
    ∀a w,dq N an E a→T w→(results fn a.tmps).run P w= .ok (.tuple #[v1,v2]) w:=by
  intro a w ap _
  rw [results_tmp2 h,ap.get t _ ab,ap.get u _ af]
end
end Go.Sl
end
section
namespace Go.Sl
open Go
variable[lW]
variable{P:Program}{B:Nat}{A:eD}{r:Option Nat}{N:Nat}{an:List Nat}{E fp:Env}{S R L F:List (ao B)}{Q ic:e7 B}{ops:Array Oper}{rest:List Oper}{o:Oper}
def Want(ops:Array Oper)(N:Nat)(E:Env):Option (Nat×Bool)→Prop
  |none=>True
  |some (j,b)=>∃d,(ops[j]?).bind (·.dst)=some d∧d<N∧E.get d=some (.bool b)
theorem Want.no:Want ops N E none:=trivial
theorem Want.yes{j:Nat}{b:Bool}(d:Nat)(ab:(ops[j]?).bind (·.dst)=some d)(af:Nat.blt d N=true)(az:E.get d=some (.bool b)):Want ops N E (some (j,b)):=⟨d,ab,by simpa using af,az⟩
theorem EP{j d:Nat}{b:Bool}{a:Act}(ab:(ops[j]?).bind (·.dst)=some d)(af:d<N)(az:E.get d=some (.bool b))(ap:dq N an E a):yielded ops a.tmps j=some b:=by
  have bh:=ap.get d _ az
  have er:d<a.tmps.size:=by rw [ap.size];exact af
  have:a.tmps[d]?=some (.bool b):=by
    rw [Array.getD_eq_getD_getElem?,Array.getElem?_eq_getElem er]at bh
    rw [Array.getElem?_eq_getElem er]
    simpa using bh
  simp [yielded,ab,this]
theorem Want.wanted{a:Act}(h:Want ops N E o.guard)(ap:dq N an E a):Region.wanted o (yielded ops a.tmps)=true:=by
  unfold Region.wanted
  cases bh:o.guard with
  |none=>rfl
  |some p=>
    obtain⟨j,b⟩:=p
    rw [bh]at h
    obtain⟨d,ab,af,az⟩:=h
    simp [EP ab af az ap]
def b8(P:Program)(B:Nat)(A:eD)(r:Option Nat)(N:Nat)(ops:Array Oper)(l:List Oper)(an:List Nat)(E:Env)(S:List (ao B))(Q:e7 B):Prop:=
  ∀a w,dq N an E a→bB B A S w→wpListIn (l4 r) 0 P ops (ta B A N Q) l a w
theorem fl{id:Nat}{l:List Oper}(h:b8 P B A r N l.toArray l an E S Q):X P B A r N (.region id l.toArray false) an E S Q:=
  fun a w ap aB=>wpIn_region_lit (h a w ap aB)
theorem zx(h:Q .normal an E S):b8 P B A r N ops [] an E S Q:=fun a w ap aB=>wpListIn_nil ⟨an,E,S,ap,aB,h⟩
theorem hd{y:Code}(h:X P B A r N y an E S Q):b8 P B A r N ops [] an E S (zP P B A r N y Q):=zx h
theorem qi(L:List (ao B))(eK:Take L S R){l:List Oper}(h:b8 P B A r N ops l an E (L++R) Q):b8 P B A r N ops l an E S Q:=
  fun a w ap aB=>h a w ap (aB.take eK)
theorem Fg{p:Prop}{l:List Oper}(aE:∀w,bB B A S w→p)(h:p→b8 P B A r N ops l an E S Q):b8 P B A r N ops l an E S Q:=
  fun a w ap aB=>h (aE w aB) a w ap aB
theorem K4{d:Nat}{op:Op}{bd:TypeId}{pos:String}{a3:Array Edge}{j:Nat}{b hs:Bool}(g:Nat)(ab:(ops[j]?).bind (·.dst)=some g)(af:Nat.blt g N=true)(az:E.get g=some (.bool hs))(bb:hs=!b)
    (aD:Nat.blt d N=true) (h:b8 P B A r N ops rest an ((d,undef)::E) S Q):b8 P B A r N ops (⟨some d,op,bd,pos,a3,some (j,b)⟩::rest) an E S Q:=by
  intro a w ap aB
  have aZ:=EP (ops:=ops) ab (by simpa using af) az ap
  simp only [wpListIn,Region.wanted,aZ]
  rw [if_neg (by subst bb;cases b<;>simp)]
  exact⟨fun _ _=>trivial,h _ w (ap.put (by simpa using aD)) aB⟩
theorem kg{t:Nat}{b:Bool}{l:List Oper}(aR:E.get t=some (.bool b))(ab:b=true→b8 P B A r N ops l an ((t,.bool true)::E) S Q)(af:b=false→b8 P B A r N ops l an ((t,.bool false)::E) S Q):
    b8 P B A r N ops l an E S Q:=by
  intro a w ap aB
  have key:∀hs,b=hs→dq N an ((t,.bool hs)::E) a:=fun hs e=>⟨ap.size,ap.oF,fun u v hu=>by
    simp only [Env.get]at hu
    cases bb:Nat.beq u t with
    |true=>rw [bb]at hu;simp at hu;subst hu;rw [Nat.eq_of_beq_eq_true bb];rw [←e];exact ap.get _ _ aR
    |false=>rw [bb]at hu;exact ap.get _ _ hu⟩
  cases bb:b with
  |true=>exact ab bb a w (key _ bb) aB
  |false=>exact af bb a w (key _ bb) aB
theorem us{α:Type}{d:Nat}{op:Op}{bd:TypeId}{pos:String}{a3:Array Edge}{g:Option (Nat×Bool)}(v:α→Value)(a8:α→List (ao B))(p:α→Prop)(hw:Want ops N E g)(qH:∀c,op≠ .defer c)(aD:Nat.blt d N=true)
    (hG:∀a w,dq N an E a→bB B A S w→∃x b3,(execOp a.eval ⟨some d,op,bd,pos,a3,g⟩).run P w= .ok (.value (v x)) b3∧bB B A (a8 x) b3∧p x)
    (h:∀x,p x→b8 P B A r N ops rest an ((d,v x)::E) (a8 x) Q):b8 P B A r N ops (⟨some d,op,bd,pos,a3,g⟩::rest) an E S Q:=by
  intro a w ap aB
  obtain⟨x,b3,ab,af,az⟩:=hG a w ap aB
  simp only [wpListIn]
  rw [if_pos (Want.wanted (o:=⟨some d,op,bd,pos,a3,g⟩) hw ap)]
  refine⟨fun _ _=>trivial,?_⟩
  rw [Oper.semAt_eq _ _ _ qH,ab]
  exact h x az _ b3 (ap.put (by simpa using aD)) af
theorem Vi{d:Nat}{op:Op}{bd:TypeId}{pos:String}{a3:Array Edge}{g:Option (Nat×Bool)}{v:Value}(hw:Want ops N E g)(qH:∀c,op≠ .defer c)(aD:Nat.blt d N=true)
    (hG:∀a w,dq N an E a→bB B A S w→(execOp a.eval ⟨some d,op,bd,pos,a3,g⟩).run P w= .ok (.value v) w)
    (h:b8 P B A r N ops rest an ((d,v)::E) S Q):b8 P B A r N ops (⟨some d,op,bd,pos,a3,g⟩::rest) an E S Q:=
  us (α:=Unit) (fun _=>v) (fun _=>S) (fun _=>True) hw qH aD (fun a w ap aB=>⟨(),w,hG a w ap aB,aB,trivial⟩) (fun _ _=>h)
theorem Vj{op:Op}{bd:TypeId}{pos:String}{a3:Array Edge}{g:Option (Nat×Bool)}{a8:List (ao B)}(hw:Want ops N E g)(qH:∀c,op≠ .defer c)
    (hG:∀a w,dq N an E a→bB B A S w→∃b3,(execOp a.eval ⟨none,op,bd,pos,a3,g⟩).run P w= .ok .skip b3∧bB B A a8 b3)
    (h:b8 P B A r N ops rest an E a8 Q):b8 P B A r N ops (⟨none,op,bd,pos,a3,g⟩::rest) an E S Q:=by
  intro a w ap aB
  obtain⟨b3,ab,af⟩:=hG a w ap aB
  simp only [wpListIn]
  rw [if_pos (Want.wanted (o:=⟨none,op,bd,pos,a3,g⟩) hw ap)]
  refine⟨fun _ _=>trivial,?_⟩
  rw [Oper.semAt_eq _ _ _ qH,ab]
  exact h a b3 ap af
def gC(E:Env):List Operand→Option (List Value)
  |[]=>some []
  |x::l=>match aX E x,gC E l with
    |some v,some bx=>some (v::bx)
    |_,_=>none
theorem dq.gC{a:Act}(h:dq N an E a):∀{l:List Operand} {bx:List Value},gC E l=some bx→l.map a.eval=bx
  |[],bx,ck=>by simp [Sl.gC]at ck;simp [ck]
  |x::l,bx,ck=>by
    simp only [Sl.gC]at ck
    split at ck
    · rename_i v abp ab af
      simp at ck;subst ck
      simp [h.aX ab,h.gC af]
    · cases ck
def uu:BinOp→Int→Int→Option Bool
  | .eql,m,n=>some (m==n)
  | .neq,m,n=>some (m !=n)
  | .lss,m,n=>some (decide (m<n))
  | .leq,m,n=>some (decide (m≤n))
  | .gtr,m,n=>some (decide (m>n))
  | .geq,m,n=>some (decide (m≥n))
  |_,_,_=>none
def qZ(E:Env):Op→Option Value
  | .move x| .assign x=>aX E x
  | .pick c x y=>match aX E c with
    |some (.bool true)=>aX E x
    |some (.bool false)=>aX E y
    |_=>none
  | .binOp op _ x y _=>match aX E x,aX E y with
    |some (.int .i64 m),some (.int .i64 n)=>(uu op m n).map .bool
    |some (.int .u32 m),some (.int .u32 n)=>(uu op m n).map .bool
    |some (.int .u8 m),some (.int .u8 n)=>(uu op m n).map .bool
    |some (.int .u64 m),some (.int .u64 n)=>(uu op m n).map .bool
    |some (.int .i32 m),some (.int .i32 n)=>(uu op m n).map .bool
    |_,_=>none
  | .unOp .not _ x=>match aX E x with
    |some (.bool b)=>some (.bool (!b))
    |_=>none
  | .makeFunc fn first caps=>match gC E first.toList,gC E caps.toList with
    |some f,some c=>some (.func fn f.toArray c.toArray)
    |_,_=>none
  | .extract t i=>match aX E t with
    |some (.tuple bx)=>bx[i]?
    |_=>none
  |_=>none
theorem Tm{op:BinOp}{t:TypeId}{x y:Operand}{k:IntKind}{m n:Int}{b:Bool}{w:World}(h:uu op m n=some b):
    ((do eqGuard op t x y (.int k m) (.int k n);binOp op t (.int k m) (.int k n):Sem Value)).run P w= .ok (.bool b) w:=by
  cases op<;>simp [uu]at h<;>subst h<;>simp [eqGuard,binOp,Op.intCmp]
theorem Rk{k:IntKind}{d:Option Nat}{op:BinOp}{t fB bd:TypeId}{x y:Operand}{pos:String}{a3:Array Edge}{g:Option (Nat×Bool)}{m n:Int}{v:Value}{a:Act}{w:World}
    (ab:aX E x=some (.int k m)) (af:aX E y=some (.int k n)) (aE:(uu op m n).map Value.bool=some v) (ap:dq N an E a):
    (execOp a.eval ⟨d,.binOp op t x y fB,bd,pos,a3,g⟩).run P w= .ok (.value v) w:=by
  obtain⟨b,bb,rfl⟩:=Option.map_eq_some_iff.1 aE
  simp only [execOp,ap.aX ab,ap.aX af]
  rw [Sem.run_bind,Tm (P:=P) (w:=w) bb];rfl
theorem run_pure{d:Option Nat}{op:Op}{bd:TypeId}{pos:String}{a3:Array Edge}{g:Option (Nat×Bool)}{v:Value}{a:Act}{w:World}(aE:qZ E op=some v)(ap:dq N an E a):
    (execOp a.eval ⟨d,op,bd,pos,a3,g⟩).run P w= .ok (.value v) w:=by
  unfold qZ at aE
  split at aE
  · simp [execOp,ap.aX aE]
  · simp [execOp,ap.aX aE]
  · split at aE
    · rename_i ab;simp [execOp,ap.aX ab,asBool,ap.aX aE]
    · rename_i ab;simp [execOp,ap.aX ab,asBool,ap.aX aE]
    · cases aE
  · split at aE
    all_goals first
      |exact Rk (by assumption) (by assumption) aE ap
      |(simp at aE;done)
  · split at aE
    · rename_i ab;simp at aE;subst aE;simp [execOp,ap.aX ab,Op.unary]
    · cases aE
  · split at aE
    · rename_i f c ab af
      simp at aE;subst aE
      have dc:=ap.gC ab
      have dd:=ap.gC af
      simp only [execOp,Instr.makeFunc]
      rw [←dc, ←dd]
      simp [←List.map_toArray]
    · cases aE
  · split at aE
    · rename_i ab
      simp only [execOp,ap.aX ab,Instr.extract,aE]
      rfl
    · cases aE
  · cases aE
def dp(P:Program)(B:Nat)(A:eD)(N:Nat)(an:List Nat)(E:Env)(S:List (ao B))(op:Op)(v:Value):Prop:=
  (∀c,op≠ .defer c)∧(∀au b,op≠ .select au b)∧∀a w bd pos a3 g d,dq N an E a→bB B A S w→(execOp a.eval ⟨d,op,bd,pos,a3,g⟩).run P w= .ok (.value v) w
theorem xL{d:Nat}{op:Op}{bd:TypeId}{pos:String}{a3:Array Edge}{g:Option (Nat×Bool)}{v:Value}(hw:Want ops N E g)(aE:dp P B A N an E S op v)(aD:Nat.blt d N=true)
    (h:b8 P B A r N ops rest an ((d,v)::E) S Q):b8 P B A r N ops (⟨some d,op,bd,pos,a3,g⟩::rest) an E S Q:=
  Vi hw aE.1 aD (fun a w ap aB=>aE.2.2 a w bd pos a3 g (some d) ap aB) h
def oW(P:Program)(B:Nat)(A:eD)(N:Nat)(an:List Nat)(E:Env)(S:List (ao B))(op:Op)(a8:List (ao B)):Prop:=
  (∀c,op≠ .defer c)∧∀a w bd pos a3 g,dq N an E a→bB B A S w→∃b3,(execOp a.eval ⟨none,op,bd,pos,a3,g⟩).run P w= .ok .skip b3∧bB B A a8 b3
theorem LW{op:Op}{bd:TypeId}{pos:String}{a3:Array Edge}{g:Option (Nat×Bool)}{a8:List (ao B)}(hw:Want ops N E g)(br:oW P B A N an E S op a8)
    (h:b8 P B A r N ops rest an E a8 Q):b8 P B A r N ops (⟨none,op,bd,pos,a3,g⟩::rest) an E S Q:=
  Vj hw br.1 (fun a w ap aB=>br.2 a w bd pos a3 g ap aB) h
theorem dp.fu{X:List (ao B)}{op:Op}{v:Value}(h:dp P B A N an E S op v):dp P B A N an E (S++X) op v:=
  ⟨h.1,h.2.1,fun a w bd pos a3 g d ap aB=>h.2.2 a w bd pos a3 g d ap aB.drop⟩
theorem dh{op:Op}{v:Value}(aE:qZ E op=some v):dp P B A N an E S op v:=
  ⟨by rintro c rfl;simp [qZ]at aE,by rintro au b rfl;simp [qZ]at aE,fun a w bd pos a3 g d ap _=>run_pure aE ap⟩
end Go.Sl
end
section
namespace Go.Sl
open Go
variable[lW]
variable{P:Program}{B:Nat}{A:eD}{r:Option Nat}{N:Nat}{an:List Nat}{E fp:Env}{S R L F:List (ao B)}{Q ic:e7 B}{ops:Array Oper}{rest:List Oper}{o:Oper}
variable{d:Nat}{op:Op}{bd:TypeId}{pos:String}{a3:Array Edge}{g:Option (Nat×Bool)}{v:Value}
def bU(P:Program)(s f:Nat):Option Nat:=
  match P.underlying s with
  |some (.struct fC)=>match fC[f]? with
    |some fd=>match P.info? fd.type with
      |some i=>if i.size=0 then none else some fd.offset
      |none=>none
    |none=>none
  |_=>none
def nS(P:Program)(t:Nat):Option (Nat×Nat):=
  match P.underlying t with
  |some (.array n e)=>match P.info? e with
    |some i=>if n≤1 then none else some (n,i.size)
    |none=>none
  |_=>none
def hz(P:Program)(t:Nat):Option (Nat×Nat):=
  match P.underlying t with
  |some (.slice e)=>match P.info? e with
    |some i=>some (e,i.size)
    |none=>none
  |_=>none
def cx(P:Program)(t:Nat):Option (Bool×Nat):=
  match P.underlying t,P.info? t with
  |some (.struct _),some i|some (.array _ _),some i=>some (true,i.size)
  |some _,some i=>some (false,i.size)
  |_,_=>none
def zeroOf(P:Program)(t:Nat):Option (List Value):=match P.info? t with
  |some i=>match i.zero with
    |some z=>some z.cells.toList
    |none=>none
  |none=>none
def q6(P:Program)(s t:Nat):Option IntKind:=match P.underlying s,P.underlying t with
  |some _,some (.int k)=>some k
  |_,_=>none
theorem BW{t n aH:Nat}(h:nS P t=some (n,aH)):∃e i,P.underlying t=some (.array n e)∧P.info? e=some i∧i.size=aH∧1<n:=by
  unfold nS at h
  split at h
  · rename_i adr e hu
    split at h
    · rename_i i ak
      split at h
      · cases h
      · simp at h;obtain⟨rfl,rfl⟩:=h
        exact⟨e,i,hu,ak,rfl,by omega⟩
    · cases h
  · cases h
theorem xn{t e aH:Nat}(h:hz P t=some (e,aH)):∃i,P.underlying t=some (.slice e)∧P.info? e=some i∧i.size=aH:=by
  unfold hz at h
  split at h
  · rename_i tH hu
    split at h
    · rename_i i ak
      simp at h;obtain⟨rfl,rfl⟩:=h
      exact⟨i,hu,ak,rfl⟩
    · cases h
  · cases h
theorem BN{t n:Nat}{b:Bool}(h:cx P t=some (b,n))(w:World):(isAgg t).run P w= .ok b w∧(sizeOf t).run P w= .ok n w:=by
  unfold cx at h
  split at h
  all_goals first
    | (rename_i hu ak
       simp at h;obtain⟨rfl,rfl⟩:=h
       refine⟨?_,by simp [sizeOf,typeInfo,ak]⟩
       simp [isAgg,run_underlying hu])
    | (rename_i afl afm DN aeu hu ak
       simp at h;obtain⟨rfl,rfl⟩:=h
       refine⟨?_,by simp [sizeOf,typeInfo,ak]⟩
       simp only [isAgg,Sem.run_bind,run_underlying hu,Result.andThen_ok])
    |cases h
theorem mG(b o n:Nat):(⟨b,o,none⟩:Addr).add n=⟨b,o+n,none⟩:=by unfold Addr.add;split<;>simp_all
theorem rO{x:Operand}{bl:Addr}(av:aX E x=some (.pointer (some bl))):dp P B A N an E S (.nilCheck x) (.pointer (some bl)):=
  ⟨by simp,by simp,fun a w bd pos a3 g d ap aB=>by simp [execOp,ap.aX av]⟩
theorem BU{s f off:Nat}(bl:Addr)(h:bU P s f=some off)(w:World):(Instr.fieldAt s (.pointer (some bl)) f).run P w= .ok (.pointer (some (bl.add off))) w:=by
  unfold bU at h
  split at h
  · rename_i fC hu
    split at h
    · rename_i fd br
      split at h
      · rename_i i ak
        split at h
        · cases h
        · rename_i kI
          simp at h;subst h
          simp [Instr.fieldAt,run_underlying hu,br,Instr.sureAddr,fieldPlace,sizeOf,typeInfo,ak,kI]
      · cases h
    · cases h
  · cases h
theorem MW{s f b o off fU:Nat}{x:Operand}(av:aX E x=some (.pointer (some ⟨b,o,none⟩)))(br:bU P s f=some off)(ey:Nat.add o off=fU):dp P B A N an E S (.fieldAddr s x f) (.pointer (some ⟨b,fU,none⟩)):=
  ⟨by simp,by simp,fun a w bd pos a3 g d ap aB=>by
    have:o+off=fU:=ey
    simp [execOp,ap.aX av,BU _ br,mG,this]⟩
theorem Vk{s f k off gF:Nat}{bl:Addr}{x:Operand}(av:aX E x=some (.pointer (some (bl.add k))))(br:bU P s f=some off)(aj:k+off=gF):dp P B A N an E S (.fieldAddr s x f) (.pointer (some (bl.add gF))):=
  ⟨by simp,by simp,fun a w bd pos a3 g d ap aB=>by
    have e:(bl.add k).add off=bl.add gF:=by
      subst aj;unfold Addr.add;by_cases ak:k=0<;>by_cases aY:off=0<;>simp [ak,aY,Nat.add_assoc]
    simp [execOp,ap.aX av,BU _ br,e]⟩
theorem m7{t b o n aH j fU:Nat}{x i:Operand}{k:IntKind}{m:Int}(av:aX E x=some (.pointer (some ⟨b,o,none⟩)))(ak:aX E i=some (.int k m))(aR:nS P t=some (n,aH))
    (hm:m=(j:Int)) (aY:j<n) (ey:o+j*aH=fU):dp P B A N an E S (.indexAddr t x i) (.pointer (some ⟨b,fU,none⟩)):=
  ⟨by simp,by simp,fun a w bd pos a3 g d ap aB=>by
    obtain⟨e,inf,hu,kV,e0,a7⟩:=BW aR
    subst hm e0 ey
    simp [execOp,ap.aX av,ap.aX ak,Instr.indexAt,asIntOf,run_underlying hu,Instr.sureAddr,sizeOf,typeInfo,kV,Nat.not_le.2 aY,mG]⟩
theorem Gd{t n e aH j c gF:Nat}{bl:Addr}{x i:Operand}{k:IntKind}{m:Int}(av:aX E x=some (.slice (some bl) n c))(ak:aX E i=some (.int k m))(aR:hz P t=some (e,aH))
    (hm:m=(j:Int)) (aY:j<n) (mU:j*aH=gF):dp P B A N an E S (.indexAddr t x i) (.pointer (some (bl.add gF))):=
  ⟨by simp,by simp,fun a w bd pos a3 g d ap aB=>by
    obtain⟨inf,hu,kV,e0⟩:=xn aR
    subst hm e0 mU
    simp [execOp,ap.aX av,ap.aX ak,Instr.indexAt,asIntOf,run_underlying hu,sizeOf,typeInfo,kV,Nat.not_le.2 aY]⟩
theorem hx{t n e aH j c gF:Nat}{bl:Option Addr}{x i:Operand}{k:IntKind}{m:Int}(av:aX E x=some (.slice bl n c))(ak:aX E i=some (.int k m))(aR:hz P t=some (e,aH))
    (cq:bl=none→n=0) (hm:m=(j:Int)) (aY:j<n) (mU:j*aH=gF):dp P B A N an E S (.indexAddr t x i) (.pointer (some ((bl.getD ⟨0,0,none⟩).add gF))):=by
  cases bl with
  |none=>have:=cq rfl;omega
  |some bl=>exact Gd av ak aR hm aY mU
theorem MX{t n c e aH:Nat}{bl:Option Addr}{x:Operand}{di:Array TypeId}(av:aX E x=some (.slice bl n c))(has:di[0]?=some t)(aR:hz P t=some (e,aH)):dp P B A N an E S (.call {callee:= .builtin .len,args:= #[x],argTypes:=di}) (.int .i64 n):=
  ⟨by simp,by simp,fun a w bd pos a3 g d ap aB=>by
    obtain⟨inf,hu,_,_⟩:=xn aR
    simp [execOp,resolve,invoke,builtin,ap.aX av,Builtin.len_,has,run_underlying hu,goInt]⟩
theorem pO{x y:Operand}{t fB:Nat}{m n:Int}(av:aX E x=some (.int .i64 m))(aZ:aX E y=some (.int .i64 n))(ab: -9223372036854775808≤m+n)(af:m+n≤9223372036854775807):dp P B A N an E S (.binOp .add t x y fB) (.int .i64 (m+n)):=
  ⟨by simp,by simp,fun a w bd pos a3 g d ap aB=>by
    simp [execOp,ap.aX av,ap.aX aZ,eqGuard,binOp,Op.intArith,IntWalk.i64_in (m+n) ⟨ab,af⟩]⟩
theorem MY{x y:Operand}{t fB:Nat}{m n:Int}(av:aX E x=some (.int .i64 m))(aZ:aX E y=some (.int .i64 n))(ab: -9223372036854775808≤m-n)(af:m-n≤9223372036854775807):dp P B A N an E S (.binOp .sub t x y fB) (.int .i64 (m-n)):=
  ⟨by simp,by simp,fun a w bd pos a3 g d ap aB=>by
    simp [execOp,ap.aX av,ap.aX aZ,eqGuard,binOp,Op.intArith,IntWalk.i64_in (m-n) ⟨ab,af⟩]⟩
theorem oz{x y:Operand}{t fB:Nat}{m n:Int}(av:aX E x=some (.int .i64 m))(aZ:aX E y=some (.int .i64 n))(ab: -9223372036854775808≤m*n)(af:m*n≤9223372036854775807):dp P B A N an E S (.binOp .mul t x y fB) (.int .i64 (m*n)):=
  ⟨by simp,by simp,fun a w bd pos a3 g d ap aB=>by
    simp [execOp,ap.aX av,ap.aX aZ,eqGuard,binOp,Op.intArith,IntWalk.i64_in (m*n) ⟨ab,af⟩]⟩
theorem Tn{x y:Operand}{t fB:Nat}{m n z:Int}{k:IntKind}{gd:BinOp}(av:aX E x=some (.int k m))(aZ:aX E y=some (.int k n))
    (cq:(match gd with| .add=>k.wrap (m+n)=z| .sub=>k.wrap (m-n)=z| .mul=>k.wrap (m*n)=z|_=>False)):dp P B A N an E S (.binOp gd t x y fB) (.int k z):=
  ⟨by simp,by simp,fun a w bd pos a3 g d ap aB=>by
    cases gd<;>simp only at cq<;>subst cq<;>simp [execOp,ap.aX av,ap.aX aZ,eqGuard,binOp,Op.intArith]⟩
theorem rK{x y:Operand}{t fB:Nat}{m n z:Int}{k:IntKind}{gd:BinOp}(av:aX E x=some (.int k m))(aZ:aX E y=some (.int k n))(b0:n≠0)
    (cq:(match gd with| .quo=>k.wrap (m.tdiv n)=z| .rem=>m.tmod n=z|_=>False)):dp P B A N an E S (.binOp gd t x y fB) (.int k z):=
  ⟨by simp,by simp,fun a w bd pos a3 g d ap aB=>by
    cases gd<;>simp only at cq<;>subst cq<;>simp [execOp,ap.aX av,ap.aX aZ,eqGuard,binOp,Op.intDiv,b0]⟩
theorem FC{x y:Operand}{t fB:Nat}{m n z:Int}{k gF:IntKind}{gd:BinOp}(av:aX E x=some (.int k m))(aZ:aX E y=some (.int gF n))(b0:0≤n)
    (cq:(match gd with
      | .shl=>k.wrap (m*2^(min n.toNat k.bits))=z
      | .shr=>m.fdiv (2^(min n.toNat k.bits))=z
      |_=>False)):dp P B A N an E S (.binOp gd t x y fB) (.int k z):=
  ⟨by simp,by simp,fun a w bd pos a3 g d ap aB=>by
    have:¬n<0:=by omega
    cases gd<;>simp only at cq<;>subst cq<;>simp [execOp,ap.aX av,ap.aX aZ,eqGuard,binOp,Op.shift,this]⟩
theorem kn{x:Operand}{s t:Nat}{m z:Int}{k gF:IntKind}(av:aX E x=some (.int gF m))(aR:q6 P s t=some k)(cq:k.wrap m=z):dp P B A N an E S (.convert s t x) (.int k z):=
  ⟨by simp,by simp,fun a w bd pos a3 g d ap aB=>by
    unfold q6 at aR
    split at aR
    · rename_i u aev aB hu
      simp at aR;subst aR cq
      cases u<;>simp [execOp,ap.aX av,convert,run_underlying aB,run_underlying hu,Conv.intToInt]
    · cases aR⟩
theorem GF{x y:Operand}{m n:Int}{k:IntKind}{di:Array TypeId}(av:aX E x=some (.int k m))(aZ:aX E y=some (.int k n)):dp P B A N an E S (.call {callee:= .builtin .min,args:= #[x,y],argTypes:=di}) (.int k (min m n)):=
  ⟨by simp,by simp,fun a w bd pos a3 g d ap aB=>by
    have e:(if n<m then n else m)=min m n:=by omega
    simp [execOp,resolve,invoke,builtin,ap.aX av,ap.aX aZ,run_min_int2,e]⟩
theorem xY{x y:Operand}{m n:Int}{k:IntKind}{di:Array TypeId}(av:aX E x=some (.int k m))(aZ:aX E y=some (.int k n)):dp P B A N an E S (.call {callee:= .builtin .max,args:= #[x,y],argTypes:=di}) (.int k (max m n)):=
  ⟨by simp,by simp,fun a w bd pos a3 g d ap aB=>by
    have e:(if m<n then n else m)=max m n:=by omega
    simp [execOp,resolve,invoke,builtin,ap.aX av,ap.aX aZ,run_max_int2,e]⟩
theorem Dc{x y:Operand}{t fB:Nat}{p q b:Bool}{gd:BinOp}(av:aX E x=some (.bool p))(aZ:aX E y=some (.bool q))(aR:P.underlying t=some .bool)
    (bb:(match gd with| .eql=>(p==q)=b| .neq=>(p !=q)=b|_=>False)):dp P B A N an E S (.binOp gd t x y fB) (.bool b):=
  ⟨by simp,by simp,fun a w bd pos a3 g d ap aB=>by
    cases gd<;>simp only at bb<;>subst bb
    · simp [execOp,ap.aX av,ap.aX aZ,eqGuard,run_eql_bool w t p q aR]
    · simp [execOp,ap.aX av,ap.aX aZ,eqGuard,run_neq_bool w t p q aR,bne]⟩
end Go.Sl
end
section
namespace Go.Sl
open Go
variable[lW]
variable{P:Program}{B:Nat}{A:eD}{r:Option Nat}{N:Nat}{an:List Nat}{E fp:Env}{S R L F:List (ao B)}{Q ic:e7 B}{ops:Array Oper}{rest:List Oper}{o:Oper}
variable{d:Nat}{op:Op}{bd:TypeId}{pos:String}{a3:Array Edge}{g:Option (Nat×Bool)}{v:Value}
def c1(K:ao B)(bl:Addr)(xs:List Value):Prop:=∀D w,K.holds D w→∀k,k<xs.length→w.cell? (bl.add k)=xs[k]?
theorem me{b:Nat}{au:List Value}{t:TypeId}{oe:Nat×Nat}:c1 (obj (B:=B) b (.cells au.toArray t oe)) ⟨b,0,none⟩ au:=by
  intro D w h k aj
  rw [mG,Nat.zero_add,cell_of_row w b k _ t oe h.2]
  simp
theorem Ge{W:World}{bl:Addr}{xs:List Value}(h:∀k,k<xs.length→bl.block<B∧W.cell? (bl.add k)=xs[k]?):c1 (uX (B:=B) W) bl xs:=fun D w hw k aj=>by
  rw [←(h k aj).2]
  have bb:(bl.add k).block=bl.block:=by unfold Addr.add;split<;>rfl
  exact World.cell?_of_block (hw.2 _ (by rw [bb];exact(h k aj).1))
theorem LX{b n c e aH:Nat}{xs:List Value}:c1 (row (B:=B) (.slice (some ⟨b,0,none⟩) n c) e aH n xs) ⟨b,0,none⟩ xs:=by
  intro D w h k aj
  rw [mG,Nat.zero_add]
  exact h.1.cellAt k (by rw [←h.1.1];exact aj)
theorem rI{t:Nat}{p:Addr}{w:World}(aR:cx P t=some (false,1))(ck:w.cell? p=some v):(Instr.loadAt t (.pointer (some p))).run P w= .ok v w:=by
  obtain⟨ab,af⟩:=BN aR w
  simp [Instr.loadAt,Instr.sureAddr,loadVar,ab,ck]
theorem vy{t n:Nat}{p:Addr}{w:World}{bx:List Value}(aR:cx P t=some (true,n))(a7:bx.length=n)(ck:∀k,k<n→w.cell? (p.add k)=bx[k]?):
    (Instr.loadAt t (.pointer (some p))).run P w= .ok (.agg bx.toArray) w:=by
  obtain⟨ab,af⟩:=BN aR w
  have aJ:(loadCells p n).run P w= .ok bx.toArray w:=by
    rw [←a7]
    exact run_loadCells_list (P:=P) w p bx (fun j v aY=>by
      have er:=(List.getElem?_eq_some_iff.1 aY).1
      rw [ck j (by omega),aY])
  simp [Instr.loadAt,Instr.sureAddr,loadVar,ab,af,aJ]
theorem BP(p:Addr)(i j:Nat):(p.add i).add j=p.add (i+j):=by
  unfold Addr.add;by_cases ak:i=0<;>by_cases aY:j=0<;>simp [ak,aY,Nat.add_assoc]
theorem G4{K:ao B}{bl:Addr}{xs:List Value}{t k:Nat}{x:Operand}(av:aX E x=some (.pointer (some (bl.add k))))(ey:Out K S R)(bk:c1 K bl xs)(aR:cx P t=some (false,1))
    (ck:xs[k]?=some v):dp P B A N an E S (.load t x) (v):=
  ⟨by simp,by simp,fun a w bd pos a3 g d ap aB=>by
    obtain⟨D,bc⟩:=aB.mem ey
    have bg:=bk D w bc k (List.getElem?_eq_some_iff.1 ck).1
    simp [execOp,ap.aX av,rI aR (bg.trans ck)]⟩
theorem fm{au:List Value}{t b k:Nat}{x:Operand}{dF:TypeId}{oe:Nat×Nat}(av:aX E x=some (.pointer (some ⟨b,k,none⟩)))(ey:Out (obj b (.cells au.toArray dF oe)) S R)(aR:cx P t=some (false,1))
    (ck:au[k]?=some v):dp P B A N an E S (.load t x) (v):=
  G4 (bl:=⟨b,0,none⟩) (k:=k) (by rw [mG,Nat.zero_add];exact av) ey me aR ck
theorem GG{K:ao B}{bl:Addr}{xs bx:List Value}{t k n:Nat}{x:Operand}(av:aX E x=some (.pointer (some (bl.add k))))(ey:Out K S R)(bk:c1 K bl xs)(aR:cx P t=some (true,n))
    (aJ:Nat.ble (k+n) xs.length=true) (ck:(xs.drop k).take n=bx):dp P B A N an E S (.load t x) (.agg bx.toArray):=
  ⟨by simp,by simp,fun a w bd pos a3 g d ap aB=>by
    obtain⟨D,bc⟩:=aB.mem ey
    have aJ:=Nat.le_of_ble_eq_true aJ
    have:=vy (P:=P) (w:=w) (p:=bl.add k) (bx:=bx) aR (by rw [←ck];simp;omega) (fun j aY=>by
      rw [BP,bk D w bc (k+j) (by omega), ←ck]
      simp [List.getElem?_drop,aY])
    simp [execOp,ap.aX av,this]⟩
theorem dw{au bx:List Value}{t b k n:Nat}{x:Operand}{dF:TypeId}{oe:Nat×Nat}(av:aX E x=some (.pointer (some ⟨b,k,none⟩)))(ey:Out (obj b (.cells au.toArray dF oe)) S R)(aR:cx P t=some (true,n))
    (aJ:Nat.ble (k+n) au.length=true) (ck:(au.drop k).take n=bx):dp P B A N an E S (.load t x) (.agg bx.toArray):=
  GG (bl:=⟨b,0,none⟩) (k:=k) (by rw [mG,Nat.zero_add];exact av) ey me aR aJ ck
theorem BX(e:TypeId)(u:Value)(w:World):(newVar e u).run P w= .ok ⟨w.heap.size,0,none⟩ (w.alloc (.cells u.cells e)):=by
  simp only [newVar,newRow,Sem.run_bind,run_newObj_alloc,Result.andThen_ok,Sem.run_pure]
theorem vz{t:Nat}{au:List Value}(hw:Want ops N E g)(cq:zeroOf P t=some au)(aD:Nat.blt d N=true)
    (h:∀b,b8 P B A r N ops rest an ((d,.pointer (some ⟨b,0,none⟩))::E) (aa b au t::S) Q):b8 P B A r N ops (⟨some d,.alloc t,bd,pos,a3,g⟩::rest) an E S Q:=
  us (α:=Nat) (fun b=> .pointer (some ⟨b,0,none⟩)) (fun b=>aa b au t::S) (fun _=>True) hw (by simp) aD (fun a w ap aB=>by
    unfold zeroOf at cq
    split at cq
    · rename_i i ak
      split at cq
      · rename_i z wx
        simp at cq
        refine⟨w.heap.size,w.alloc (.cells z.cells t),?_,?_,trivial⟩
        · simp [execOp,Instr.alloc,zeroValue,typeInfo,ak,wx,BX]
        · have:=aB.new (.cells z.cells t)
          subst cq
          simpa using this
      · cases cq
    · cases cq) (fun b _=>h b)
theorem Gf{t:Nat}{x:Operand}{au:List Value}(hw:Want ops N E g)(av:aX E x=some v)(bg:v.cells=au.toArray)(aD:Nat.blt d N=true)
    (h:∀b,b8 P B A r N ops rest an ((d,.pointer (some ⟨b,0,none⟩))::E) (aa b au t::S) Q):b8 P B A r N ops (⟨some d,.box t x,bd,pos,a3,g⟩::rest) an E S Q:=
  us (α:=Nat) (fun b=> .pointer (some ⟨b,0,none⟩)) (fun b=>aa b au t::S) (fun _=>True) hw (by simp) aD (fun a w ap aB=>by
    refine⟨w.heap.size,w.alloc (.cells au.toArray t),?_,aB.new _,trivial⟩
    simp [execOp,Instr.box,ap.aX av,BX,bg]) (fun b _=>h b)
theorem bB.store{b:Nat}{au:List Value}{dF:TypeId}{w:World}(h:bB B A (aa b au dF::S) w)(k:Nat)(u:Value):bB B A (aa b (au.set k u) dF::S) (w.setCell ⟨b,k,none⟩ u):=by
  obtain⟨D,nh⟩:=h.mem (.here _ _)
  refine h.set ?_ (fun j aY=>heap_setCell_other w ⟨b,k,none⟩ j u aY) (by simp) rfl rfl rfl
  have:=heap_setCell_same w b k au.toArray dF u nh.2
  simpa using this
theorem QD(ck:v.oneCell'=true):v.cells= #[v]:=by cases v<;>simp_all [Value.oneCell',Value.cells]
theorem EQ{b k t:Nat}{au:List Value}{dF:TypeId}{w:World}(ck:v.oneCell'=true)(aR:cx P t=some (false,1))(aj:k<au.length)(bb:w.heap[b]?=some (.cells au.toArray dF (0,0))):
    (Instr.storeAt t (.pointer (some ⟨b,k,none⟩)) v).run P w= .ok () (w.setCell ⟨b,k,none⟩ v):=by
  obtain⟨ab,af⟩:=BN aR w
  have bg:w.cell? ⟨b,k,none⟩=some au[k]:=by rw [cell_of_row w b k _ dF _ bb];simp [aj]
  have br:=frozen_of_row w b k _ dF bb
  simp [Instr.storeAt,Instr.sureAddr,storeVar,af,QD ck,storeCells,mG,run_store P w ⟨b,k,none⟩ v .plain ck,bg,br]
theorem iG{au fN:List Value}{t b k:Nat}{x y:Operand}{dF:TypeId}(av:aX E x=some (.pointer (some ⟨b,k,none⟩)))(aZ:aX E y=some v)(ab:v.oneCell'=true)(ey:Out (aa b au dF) S R)(aR:cx P t=some (false,1))
    (aj:Nat.blt k au.length=true) (bg:au.set k v=fN):oW P B A N an E S (.store t x y) (aa b fN dF::R):=
  ⟨by simp,fun a w bd pos a3 g ap aB=>by
    have iJ:bB B A (aa b au dF::R) w:=aB.take (.cons ey (.nil _))
    obtain⟨D,nh⟩:=iJ.mem (.here _ _)
    exact⟨_,by simp [execOp,ap.aX av,ap.aX aZ,EQ ab aR (by simpa using aj) nh.2],bg▸iJ.store k v⟩⟩
theorem Jb{b:Nat}{dF:TypeId}:∀(bx:List Value) (k i:Nat) (au:List Value) (w:World),(∀u∈bx,u.oneCell'=true)→k+i+bx.length≤au.length→bB B A (aa b au dF::S) w→
    ∃b3,(storeCells ⟨b,k,none⟩ bx i).run P w= .ok () b3∧bB B A (aa b (au.take (k+i)++bx++au.drop (k+i+bx.length)) dF::S) b3
  |[],k,i,au,w,_,aj,aB=>⟨w,by simp [storeCells],by simpa using aB⟩
  |u::bx,k,i,au,w,ab,aj,aB=>by
    simp at aj
    obtain⟨D,nh⟩:=aB.mem (.here _ _)
    have bg:w.cell? ⟨b,k+i,none⟩=some au[k+i]:=by rw [cell_of_row w b (k+i) _ dF _ nh.2];simp [show k+i<au.length by omega]
    have br:=frozen_of_row w b (k+i) _ dF nh.2
    obtain⟨b3,bk,iJ⟩:=Jb bx k (i+1) (au.set (k+i) u) _ (fun x av=>ab x (by simp [av])) (by simp;omega) (aB.store (k+i) u)
    refine⟨b3,?_,?_⟩
    · simp [storeCells,mG,run_store P w ⟨b,k+i,none⟩ u .plain (ab u (by simp)),bg,br,bk]
    · have e:(au.set (k+i) u).take (k+(i+1))++bx++(au.set (k+i) u).drop (k+(i+1)+bx.length)=au.take (k+i)++(u::bx)++au.drop (k+i+(u::bx).length):=by
        rw [List.drop_set_of_lt (by omega),show k+(i+1)=(k+i)+1 by omega,List.take_succ_eq_append_getElem (by simp;omega),List.take_set_of_le (by omega)]
        simp [Nat.add_assoc,Nat.add_comm 1]
      rw [e]at iJ
      exact iJ
theorem zR{au fN bx:List Value}{t b k n:Nat}{x y:Operand}{dF:TypeId}(av:aX E x=some (.pointer (some ⟨b,k,none⟩)))(aZ:aX E y=some (.agg bx.toArray))(ab:∀u∈bx,u.oneCell'=true)(ey:Out (aa b au dF) S R)(aR:cx P t=some (true,n))
    (a7:bx.length=n) (aj:Nat.ble (k+n) au.length=true) (bg:au.take k++bx++au.drop (k+n)=fN):oW P B A N an E S (.store t x y) (aa b fN dF::R):=
  ⟨by simp,fun a w bd pos a3 g ap aB=>by
    obtain⟨_,af⟩:=BN aR w
    have aj:=Nat.le_of_ble_eq_true aj
    obtain⟨b3,bk,iJ⟩:=Jb (P:=P) bx k 0 au w ab (by omega) (aB.take (.cons ey (.nil _)))
    refine⟨b3,?_,by rw [←bg, ←a7];simpa using iJ⟩
    simp [execOp,ap.aX av,ap.aX aZ,Instr.storeAt,Instr.sureAddr,storeVar,af,Value.cells,a7,bk]⟩
theorem hA{au bx:List Value}{t b n:Nat}{x y:Operand}{dF:TypeId}(av:aX E x=some (.pointer (some ⟨b,0,none⟩)))(aZ:aX E y=some (.agg bx.toArray))(ab:bx.all (·.oneCell')=true)(ey:Out (aa b au dF) S R)(aR:cx P t=some (true,n))
    (a7:Nat.beq bx.length n=true) (aj:Nat.beq au.length n=true):oW P B A N an E S (.store t x y) (aa b bx dF::R):=
  zR (fN:=bx) av aZ (fun u hu=>List.all_eq_true.1 ab u hu) ey aR (Nat.eq_of_beq_eq_true a7) (by have:=Nat.eq_of_beq_eq_true aj;simp [this]) (by have:=Nat.eq_of_beq_eq_true aj;simp [←this])
theorem lP{f:FuncId}{xs:List Operand}{args:List Value}{di:Array TypeId}{pre:List (ao B)}{post:Value→List (ao B)→Prop}(hw:Want ops N E g)(he:Go.Proofs.Enters P f)
    (aO:gC E xs=some args) (br:dQ P B f args pre post) (aR:Take pre S F) (aD:Nat.blt d N=true)
    (h:∀v a8,post v a8→b8 P B A r N ops rest an ((d,v)::E) (a8++F) Q):
    b8 P B A r N ops (⟨some d,.call {callee:= .value (.func f),args:=xs.toArray,argTypes:=di},bd,pos,a3,g⟩::rest) an E S Q:=by
  intro a w ap aB
  simp only [wpListIn]
  rw [if_pos (Want.wanted (o:=⟨some d,.call {callee:= .value (.func f),args:=xs.toArray,argTypes:=di},bd,pos,a3,g⟩) hw ap)]
  refine⟨fun _ _=>trivial,?_⟩
  have iD:=ap.gC aO
  rw [Oper.semAt_eq _ _ _ (by simp)]
  have hG:(execOp a.eval ⟨some d,.call {callee:= .value (.func f),args:=xs.toArray,argTypes:=di},bd,pos,a3,g⟩).run P w= .ok (.enter f args.toArray) w:=by
    simp [execOp,resolve,Act.eval,Deferred.ofValue,invoke,iD,he args.toArray w]
  rw [hG]
  have iJ:=aB.take aR
  obtain⟨D,bM,bS,cD,cV,ff,gE⟩:=iJ
  obtain⟨hK,l3,bZ,fO,h0,b7⟩:=bM.append
  refine⟨by simp [Fence.wide],?_⟩
  refine CallsIn.mono (br w hK h0 (fun k aj=>bS k ((bZ k).2 (.inl aj))) aB.size) ?_
  rintro e b3 ⟨v,a8,rfl,aE,et⟩
  refine h v a8 aE _ b3 (ap.put (by simpa using aD)) ?_
  exact bB.nO bM bS cD cV ff gE bZ fO b7 et
theorem Ka{f:FuncId}{xs:List Operand}{args:List Value}{di:Array TypeId}{u:Value}(hw:Want ops N E g)(he:Go.Proofs.Enters P f)
    (aO:gC E xs=some args) (br:dQ P B f args [] (fun v S=>v=u∧S=[])) (aD:Nat.blt d N=true)
    (h:b8 P B A r N ops rest an ((d,u)::E) S Q):
    b8 P B A r N ops (⟨some d,.call {callee:= .value (.func f),args:=xs.toArray,argTypes:=di},bd,pos,a3,g⟩::rest) an E S Q:=
  lP hw he aO br (.nil _) aD (fun _ _ ⟨ck,eK⟩=>by subst ck eK;exact h)
theorem Out.back{x:ao B}{S R:List (ao B)}(h:Out x S R):∀{D w},dR (x::R) D w→dR S D w:=by
  induction h with
  |here S=>exact fun h=>h
  |there y h ih=>
    intro D w ⟨dk,dX,bZ,aD,ab,kc,k1,ms,tq,az,a5⟩
    refine⟨kc,fun k=>dk k∨k1 k,fun k=>?_,fun k aj h=>?_,az,ih ⟨dk,k1,fun _=>Iff.rfl,fun k aj h=>aD k aj ((ms k).2 (.inr h)),ab,a5⟩⟩
    · rw [bZ k,ms k];exact⟨fun h=>h.elim (fun h=> .inr (.inl h)) (fun h=>h.elim .inl (fun h=> .inr (.inr h))),fun h=>h.elim (fun h=> .inr (.inl h)) (fun h=>h.elim .inl (fun h=> .inr (.inr h)))⟩
    · exact h.elim (fun h=>aD k h ((ms k).2 (.inl aj))) (fun h=>tq k aj h)
theorem Take.back{L S R:List (ao B)}(h:Take L S R):∀{D w},dR (L++R) D w→dR S D w:=by
  induction h with
  |nil S=>exact fun h=>h
  |cons h t ih=>
    intro D w ⟨dk,dX,bZ,aD,ab,af⟩
    exact h.back ⟨dk,dX,bZ,aD,ab,ih af⟩
theorem bB.Vl{L R:List (ao B)}{w:World}(h:bB B A (L++R) w)(t:Take L S R):bB B A S w:=by
  obtain⟨D,ab,af⟩:=h
  exact⟨D,t.back ab,af⟩
theorem Kb{f:FuncId}{xs:List Operand}{args:List Value}{di:Array TypeId}{u:Value}{pre:List (ao B)}(hw:Want ops N E g)(he:Go.Proofs.Enters P f)
    (aO:gC E xs=some args) (br:dQ P B f args pre (fun v S=>v=u∧S=pre)) (aR:Take pre S F) (aD:Nat.blt d N=true)
    (h:b8 P B A r N ops rest an ((d,u)::E) S Q):
    b8 P B A r N ops (⟨some d,.call {callee:= .value (.func f),args:=xs.toArray,argTypes:=di},bd,pos,a3,g⟩::rest) an E S Q:=
  lP hw he aO br aR aD (fun _ _ ⟨ck,eK⟩=>by subst ck eK;exact fun a w ap aB=>h a w ap (aB.Vl aR))
end Go.Sl
end
section
namespace Go.Sl
open Go
variable[lW]
variable{P:Program}{B:Nat}{A:eD}{r:Option Nat}{N:Nat}{an:List Nat}{E fp:Env}{S R jo L F:List (ao B)}{Q ic:e7 B}{ops:Array Oper}{rest:List Oper}{o:Oper}
variable{d:Nat}{op:Op}{bd:TypeId}{pos:String}{a3:Array Edge}{g:Option (Nat×Bool)}{v:Value}
def pT(E:Env):List (Nat×Operand)→Option (List (Nat×Value))
  |[]=>some []
  |(i,x)::l=>match aX E x,pT E l with
    |some v,some bx=>some ((i,v)::bx)
    |_,_=>none
theorem dq.pT{a:Act}(h:dq N an E a):∀{l:List (Nat×Operand)} {bx:List (Nat×Value)},pT E l=some bx→l.map (fun(i,x)=>(i,a.eval x))=bx
  |[],bx,ck=>by simp [Sl.pT]at ck;simp [ck]
  |(i,x)::l,bx,ck=>by
    simp only [Sl.pT]at ck
    split at ck
    · rename_i v abp ab af
      simp at ck;subst ck
      simp [h.aX ab,h.pT af]
    · cases ck
def gH(P:Program)(t:Nat):Option (List Value×List (Nat×Nat)):=
  match P.info? t,P.underlying t with
  |some it,some (.struct fC)=>match it.zero,fC.toList.mapM (fun f=>(P.info? f.type).map fun i=>(f.offset,i.size))with
    |some z,some pl=>some (z.cells.toList,pl)
    |_,_=>none
  |_,_=>none
def setAt:List Value→Nat→List Value→List Value
  |au,_,[]=>au
  |au,off,v::bx=>setAt (au.set off v) (off+1) bx
def oA(pl:List (Nat×Nat)):List Value→List (Nat×Value)→Option (List Value)
  |au,[]=>some au
  |au,(i,v)::rest=>match pl[i]? with
    |none=>none
    |some (off,size)=>bif Nat.beq v.cells.toList.length size&&Nat.ble (off+size) au.length then oA pl (setAt au off v.cells.toList) rest else none
theorem Jm:∀(bx:List Value) (au:List Value) (off n:Nat),(bx.zipIdx n).foldl (fun(au:Array Value) (c,j)=>au.setIfInBounds (off+j) c) au.toArray=(setAt au (off+n) bx).toArray
  |[],au,off,n=>by simp [setAt]
  |v::bx,au,off,n=>by
    simp only [List.zipIdx_cons,List.foldl_cons,setAt]
    rw [show(au.toArray.setIfInBounds (off+n) v)=(au.set (off+n) v).toArray by simp]
    exact Jm bx _ off (n+1)
theorem BY{place:Nat→Option (Nat×Nat)}{pl:List (Nat×Nat)}:∀{bV:List (Nat×Value)} {z au:List Value},(∀p∈bV,place p.1=pl[p.1]?)→oA pl z bV=some au→Instr.fill place z.toArray bV=some au.toArray
  |[],z,au,_,h=>by simp [oA]at h;simp [Instr.fill,h]
  |(i,v)::rest,z,au,sd,h=>by
    have OP:=sd (i,v) (by simp)
    simp only at OP
    simp only [oA]at h
    simp only [Instr.fill,OP]
    split at h
    · cases h
    · rename_i off size ak
      rw [ak]
      cases bb:(Nat.beq v.cells.toList.length size&&Nat.ble (off+size) z.length)with
      |false=>rw [bb]at h;cases h
      |true=>
        rw [bb]at h
        simp only [Bool.and_eq_true]at bb
        have ab:=Nat.eq_of_beq_eq_true bb.1
        have af:=Nat.le_of_ble_eq_true bb.2
        have OQ:v.cells.size=size:=by simpa using ab
        simp only [OQ,List.size_toArray]
        rw [if_neg (by simp;omega)]
        have e:=Jm v.cells.toList z off 0
        rw [←Array.foldl_toList,Array.toList_zipIdx,e]
        exact BY (fun p aE=>sd p (by simp [aE])) h
theorem QL{t:Nat}{z:List Value}{pl:List (Nat×Nat)}{bV:List (Nat×Value)}{au:List Value}(h:gH P t=some (z,pl))(br:oA pl z bV=some au):P.built t bV=some au.toArray:=by
  unfold gH at h
  unfold Program.built
  split at h
  · rename_i it fC ak hu
    split at h
    · rename_i ads abq cq aE
      simp at h;obtain⟨rfl,rfl⟩:=h
      simp only [ak,hu,cq,aE]
      have:=BY (place:=(abq.toArray[·]?)) (fun p _=>by simp) br
      simpa using this
    · cases h
  · cases h
theorem qj{t:Nat}{parts:List (Nat×Operand)}{z:List Value}{pl:List (Nat×Nat)}{bV:List (Nat×Value)}(au:List Value)(aE:pT E parts=some bV)(aR:gH P t=some (z,pl))
    (br:oA pl z bV=some au):dp P B A N an E S (.build t parts.toArray) (.agg au.toArray):=
  ⟨by simp,by simp,fun a w bd pos a3 g d ap aB=>by
    have e:=ap.pT aE
    have:=run_build (P:=P) w t (parts.map fun(i,x)=>(i,a.eval x)).toArray au.toArray (by rw [e];exact QL aR br)
    simp only [execOp,List.map_toArray,Sem.run_bind,this,Result.andThen_ok,Sem.run_pure]⟩
theorem Vm{t:Nat}{au:List Value}(cq:zeroOf P t=some au)(aj:(match P.underlying t with|some (.struct _)=>(gH P t).isSome|some (.array _ e)=>(P.info? e).isSome|_=>false)=true):dp P B A N an E S (.build t #[]) (.agg au.toArray):=
  ⟨by simp,by simp,fun a w bd pos a3 g d ap aB=>by
    have bb:P.built t []=some au.toArray:=by
      unfold zeroOf at cq
      split at cq
      · rename_i i ak
        split at cq
        · rename_i z wx
          simp at cq;subst cq
          unfold Program.built
          split at aj
          · rename_i fC hu
            unfold gH at aj
            simp only [ak,hu]at aj⊢
            split at aj
            · rename_i ads pl ab af
              rw [wx]at ab;cases ab
              simp [af,wx,Instr.fill]
            · cases aj
          · rename_i n e hu
            simp only [ak,hu,wx]
            cases uY:P.info? e with
            |none=>simp [uY]at aj
            |some afn=>simp [Instr.fill]
          · cases aj
        · cases cq
      · cases cq
    have:=run_build (P:=P) w t #[] au.toArray bb
    simp only [execOp,Array.map_empty,Sem.run_bind,this,Result.andThen_ok,Sem.run_pure]⟩
def iK(P:Program)(t:Nat):Option (Nat×Nat×Nat×List Value):=
  match P.underlying t with
  |some (.slice e)=>match P.info? e with
    |some i=>match i.zero with
      |some z=>if z.cells.size=i.size∧0<i.size then some (e,i.size,i.bytes,z.cells.toList)else none
      |none=>none
    |none=>none
  |_=>none
theorem vA{t e aH iv:Nat}{z:List Value}(h:iK P t=some (e,aH,iv,z)):∃i bq,P.underlying t=some (.slice e)∧P.info? e=some i∧i.zero=some bq∧i.size=aH∧i.bytes=iv∧bq.cells.size=aH∧0<aH∧bq.cells.toList=z:=by
  unfold iK at h
  split at h
  · rename_i tH hu
    split at h
    · rename_i i ak
      split at h
      · rename_i bq cq
        split at h
        · rename_i bg
          simp at h;obtain⟨rfl,rfl,rfl,rfl⟩:=h
          exact⟨i,bq,hu,ak,cq,rfl,rfl,bg.1,bg.2,rfl⟩
        · cases h
      · cases h
    · cases h
  · cases h
theorem bB.K5{e aH:Nat}{w:World}(h:bB B A S w):bB B A (row (.slice none 0 0) e aH 0 []::S) w:=by
  obtain⟨D,ab,af⟩:=h
  exact⟨D,⟨fun _=>False,D,fun k=>by simp,fun _ h _=>h,⟨World.ownsRow_nil _ _ _ _,fun k=>by simp [Value.ownBlock]⟩,ab⟩,af⟩
theorem Rl{l:List Oper}(e aH:Nat)(h:b8 P B A r N ops l an E (row (.slice none 0 0) e aH 0 []::S) Q):b8 P B A r N ops l an E S Q:=fun a w ap aB=>h a w ap aB.K5
theorem Kc{c:Code}(e aH:Nat)(h:X P B A r N c an E (row (.slice none 0 0) e aH 0 []::S) Q):X P B A r N c an E S Q:=fun a w ap aB=>h a w ap aB.K5
theorem Jf{w b3:World}{t bd e aH m c n:Nat}{i:TypeInfo}{bq v fi:Value}{xs news:List Value}{bl:Addr}(hu:P.underlying t=some (.slice e))(ak:P.info? e=some i)(cq:i.zero=some bq)(e0:i.size=aH)
    (iT:w.ownsRow B e aH v n xs) (aJ:news.length=m*aH) (GH:∀j u,news[j]?=some u→w.cell? (bl.add j)=some u) (ab:∀u∈news,u.oneCell'=true) (oX:n+m≤maxLen) (mV:(n+m)*i.bytes≤140737488355328)
    (v5:fi= .slice none 0 0↔v= .slice none 0 0∧m=0) (hG:(Builtin.append_ #[t,t] bd #[v,.slice (some bl) m c]).run P w= .ok fi b3):∀k,fi.ownBlock=some k→v.ownBlock=some k∨w.heap.size≤k:=by
  intro k aj
  subst e0
  have j9:n+m≤9223372036854775807:=by simp only [maxLen]at oX;omega
  rcases iT.2 with⟨rfl,rfl⟩|⟨g,cap,gU,rfl,aew,bh,DO,ns,qI,ad5⟩
  · by_cases hm:m=0
    · rw [v5.2 ⟨rfl,hm⟩]at aj;cases aj
    · have bk:=run_append_nil (P:=P) w t bd e i bq hu ak cq bl m c news aJ GH (by omega) (by omega) (by simp only [Nat.zero_add]at mV;omega)
      rw [hG]at bk
      cases bk
      simp [Value.ownBlock]at aj
      exact .inr (by omega)
  · by_cases MZ:n+m≤cap
    · have ZE:n*i.size+news.length≤gU.size:=by rw [aJ,qI, ←Nat.add_mul];exact Nat.mul_le_mul_right _ MZ
      have bk:=run_append_room (P:=P) w t bd e i hu ak g n cap gU bh bl m c news aJ GH ab MZ ZE
      rw [hG]at bk
      cases bk
      exact .inl aj
    · have bk:=run_append_grow (P:=P) w t bd e i bq hu ak cq ⟨g,0,none⟩ n cap xs iT.1 (iT.cells (g:=g) rfl) bl m c news aJ GH (by omega) (by omega) (growslice_fits (by omega) mV)
      rw [hG]at bk
      cases bk
      simp [Value.ownBlock]at aj
      exact .inr (by omega)
theorem EY{t e aH iv n m c:Nat}{z xs news:List Value}{x y:Operand}{K:ao B}{bl:Addr}(hw:Want ops N E g)(av:aX E x=some v)(aZ:aX E y=some (.slice (some bl) m c))(aR:iK P t=some (e,aH,iv,z))
    (jl:Out (row v e aH n xs) S R) (kY:Out K S jo) (bk:c1 K bl news) (aJ:news.length=m*aH) (ab:∀u∈news,u.oneCell'=true) (oX:n+m≤maxLen) (mV:(n+m)*iv≤140737488355328) (aD:Nat.blt d N=true)
    (h:∀fi,(fi= .slice none 0 0↔v= .slice none 0 0∧m=0)→b8 P B A r N ops rest an ((d,fi)::E) (row fi e aH (n+m) (xs++news)::R) Q):
    b8 P B A r N ops (⟨some d,.call {callee:= .builtin .append,args:= #[x,y],argTypes:= #[t,t]},bd,pos,a3,g⟩::rest) an E S Q:=
  us (α:=Value) id (fun fi=>row fi e aH (n+m) (xs++news)::R) (fun fi=>fi= .slice none 0 0↔v= .slice none 0 0∧m=0) hw (by simp) aD (fun a w ap aB=>by
    obtain⟨i,bq,hu,ak,cq,e0,tr,yn,pU,_⟩:=vA aR
    obtain⟨Bo,bc⟩:=aB.mem kY
    have hq:=aB.size
    obtain⟨D,⟨dk,dX,bZ,fO,⟨iT,wy⟩,eK⟩,af,az,a5,cd,c5⟩:=aB.take (.cons jl (.nil _))
    obtain⟨fi,b3,hG,zS,oY,v5⟩:=run_append_own (P:=P) w B t bd e i bq aH iv hu ak cq e0 tr yn pU v n xs iT bl m c news aJ
      (fun j u aY=>by rw [bk Bo w bc j (List.getElem?_eq_some_iff.1 aY).1,aY]) ab oX mV hq
    refine⟨fi,b3,?_,?_,v5⟩
    · simp [execOp,resolve,invoke,builtin,ap.aX av,ap.aX aZ,hG]
    · have er:=zS.lt
      have hold:∀k,v.ownBlock=some k→D k:=fun k aj=>(bZ k).2 (.inl ((wy k).2 aj))
      have z8:=Jf (P:=P) hu ak cq e0 iT aJ (fun j u aY=>by rw [bk Bo w bc j (List.getElem?_eq_some_iff.1 aY).1,aY]) ab oX (by rw [tr];exact mV) v5 hG
      refine⟨fun k=>fi.ownBlock=some k∨dX k,⟨fun k=>fi.ownBlock=some k,dX,fun _=>Iff.rfl,fun k aj jm=>?_,⟨zS,fun _=>Iff.rfl⟩,eK.lQ fun k aj=>?_⟩,fun k aj=>?_,fun k aj=>?_,⟨oY.os.trans a5.os,oY.tape.trans a5.tape,oY.output.trans a5.output,Nat.le_trans a5.size oY.size,fun k aj a7=>?_⟩,cd,c5⟩
      · rcases z8 k aj with h|h
        · exact fO k ((wy k).2 h) jm
        · have:=(af k ((bZ k).2 (.inr jm))).2;omega
      · refine oY.block k ?_ ?_
        · rcases aj with aj|aj
          · omega
          · exact(af k ((bZ k).2 (.inr aj))).2
        · intro e
          rcases aj with aj|aj
          · have:=(af k (hold k e.symm)).1;omega
          · exact fO k ((wy k).2 e.symm) aj
      · rcases aj with aj|aj
        · exact er k aj
        · have:=af k ((bZ k).2 (.inr aj));have:=oY.size;omega
      · rcases aj with aj|aj
        · rcases z8 k aj with h|h
          · exact az k (hold k h)
          · have:=a5.size;exact .inr (by omega)
        · exact az k ((bZ k).2 (.inr aj))
      · have:=a5.size
        refine(oY.block k (by omega) (fun e=>?_)).trans (a5.same k aj a7)
        rcases az k (hold k e.symm)with h|h
        · exact a7 h
        · omega) h
theorem js{t e aH n iv:Nat}{z au:List Value}{parts:List (Nat×Operand)}{bV:List (Nat×Value)}(hw:Want ops N E g)(aE:pT E parts=some bV)(aR:iK P t=some (e,aH,iv,z))
    (j9:n*aH≤16777216) (pU:0<n) (qI:au.length=n*aH) (br:oA ((List.range n).map fun i=>(i*aH,aH)) ((List.range (n*aH)).map (z.toArray[· %z.length]!)) bV=some au) (er:bV.all (fun p=>Nat.blt p.1 n)=true) (aD:Nat.blt d N=true)
    (h:∀b,b8 P B A r N ops rest an ((d,.slice (some ⟨b,0,none⟩) n n)::E) (aa b au e::S) Q):b8 P B A r N ops (⟨some d,.buildSlice t n parts.toArray,bd,pos,a3,g⟩::rest) an E S Q:=
  us (α:=Nat) (fun b=> .slice (some ⟨b,0,none⟩) n n) (fun b=>aa b au e::S) (fun _=>True) hw (by simp) aD (fun a w ap aB=>by
    obtain⟨i,bq,hu,ak,cq,e0,tr,yn,lY,uZ⟩:=vA aR
    have dc:=ap.pT aE
    have G5:z.length=bq.cells.size:=by rw [←uZ];simp
    have Az:z.toArray=bq.cells:=by rw [←uZ]
    refine⟨w.heap.size,w.alloc (.cells au.toArray e),?_,aB.new _,trivial⟩
    have kI:¬(16777216<n*aH):=by omega
    have b0:n*aH≠0:=by have:=Nat.mul_pos pU lY;omega
    rw [Az,G5]at br
    simp only [execOp,Instr.buildSlice,Sem.run_bind,run_underlying hu,Result.andThen_ok,sizeOf,typeInfo,run_program,ak,Sem.run_pure,e0]
    simp only [show(2:Nat)^24=16777216 from rfl,gt_iff_lt,kI,if_false,Sem.run_bind,Sem.run_pure,Result.andThen_ok,b0,zeroValue,typeInfo,run_program,ak,cq]
    have dd:(parts.toArray.map fun x=>match x with|(i,x)=>(i,a.eval x)).toList=bV:=by rw [←dc];simp
    have fD:Instr.fill (fun i=>some (i*aH,aH)) ((Array.range (n*aH)).map fun x=>bq.cells[x%bq.cells.size]!) bV=some au.toArray:=by
      have:=BY (place:=fun i=>some (i*aH,aH)) (fun p aE=>by have:=List.all_eq_true.1 er p aE;simp at this;simp [this]) br
      rw [←this]
      congr 1
      apply Array.ext'
      simp [Array.toList_range]
    simp only [dd,fD,newRow,Sem.run_bind,run_newObj_alloc,Result.andThen_ok,Sem.run_pure]) (fun b _=>h b)
theorem hF{b:Nat}{au:List Value}{t:TypeId}:c1 (aa (B:=B) b au t) ⟨b,0,none⟩ au:=me
theorem gA{fn:Func}{p t b n:Nat}{au:List Value}{dF:TypeId}{aP:List (ao B)}(h:fn.results= #[.cell p t])(aE:E.get p=some (.pointer (some ⟨b,0,none⟩)))(ap:Out (aa b au dF) S aP)(aR:cx P t=some (true,n))(a7:au.length=n):
    ∀a w,dq N an E a→bB B A S w→(results fn a.tmps).run P w= .ok (.agg au.toArray) w:=by
  intro a w dy aB
  obtain⟨D,bc⟩:=aB.mem ap
  have aJ:=vy (P:=P) (w:=w) (p:=⟨b,0,none⟩) (bx:=au) aR a7 (fun k aj=>me D w bc k (by omega))
  simp only [Instr.loadAt,Instr.sureAddr,Sem.run_bind,Sem.run_pure,Result.andThen_ok]at aJ
  have nt:a.tmps[p]?.getD undef= .pointer (some ⟨b,0,none⟩):=by have:=dy.get p _ aE;simpa [Array.getD_eq_getD_getElem?]using this
  simp [results,h,nt,asAddr,aJ]
end Go.Sl
end
section
namespace Go.Sl
open Go
variable[lW]
variable{P:Program}{B:Nat}{A:eD}{r:Option Nat}{N:Nat}{an:List Nat}{E fp:Env}{S R jo L F:List (ao B)}{Q ic:e7 B}{ops:Array Oper}{rest:List Oper}{o:Oper}
variable{d:Nat}{op:Op}{bd:TypeId}{pos:String}{a3:Array Edge}{g:Option (Nat×Bool)}{v:Value}
theorem ej(a:BitVec 32):BitVec.ofInt 32 (a.toNat:Int)=a:=by
  apply BitVec.eq_of_toNat_eq
  simp
theorem QG(n:Nat)(h:n<4294967296):IntKind.u32.wrap (n:Int)=(n:Int):=by
  simp [IntKind.wrap,IntKind.bits,IntKind.signed];omega
theorem Cn(a:BitVec 32):IntKind.u32.wrap (a.toNat:Int)=(a.toNat:Int):=QG _ a.isLt
theorem u64_in{m:Int}(b0:0≤m)(ab:m≤18446744073709551615):IntKind.u64.wrap m=m:=by
  simp [IntKind.wrap,IntKind.bits,IntKind.signed];omega
theorem u32_in{m:Int}(b0:0≤m)(ab:m≤4294967295):IntKind.u32.wrap m=m:=by
  simp [IntKind.wrap,IntKind.bits,IntKind.signed];omega
theorem u8_in{m:Int}(b0:0≤m)(ab:m≤255):IntKind.u8.wrap m=m:=by
  simp [IntKind.wrap,IntKind.bits,IntKind.signed];omega
theorem nQ{m:Int}(b0: -9223372036854775808≤m)(ab:m≤9223372036854775807):IntKind.i64.wrap m=m:=IntWalk.i64_in m ⟨b0,ab⟩
def ND:BinOp→BitVec 32→BitVec 32→Option (BitVec 32)
  | .and,a,b=>some (a&&&b)
  | .or,a,b=>some (a|||b)
  | .xor,a,b=>some (a^^^b)
  | .andNot,a,b=>some (a&&&~~~b)
  | .add,a,b=>some (a+b)
  | .sub,a,b=>some (a-b)
  | .mul,a,b=>some (a*b)
  |_,_,_=>none
theorem BQ(m:Int)(a:BitVec 32)(h:BitVec.ofInt 32 m=a):(m:Int)%4294967296=(a.toNat:Int):=by
  subst h
  simp [BitVec.toNat_ofInt]
  omega
theorem hH{x y:Operand}{t fB:Nat}{m n:Int}{a b c:BitVec 32}{gd:BinOp}(av:aX E x=some (.int .u32 m))(aZ:aX E y=some (.int .u32 n))(aO:BitVec.ofInt 32 m=a)(bb:BitVec.ofInt 32 n=b)
    (bg:ND gd a b=some c):dp P B A N an E S (.binOp gd t x y fB) (.int .u32 (c.toNat:Int)):=
  ⟨by simp,by simp,fun ac w bd pos a3 g d ap aB=>by
    have dc:=BQ m a aO
    have dd:=BQ n b bb
    cases gd<;>simp only [ND,Option.some.injEq,reduceCtorEq]at bg<;>subst bg
    · have:IntKind.u32.wrap (m+n)=((a+b).toNat:Int):=by
        simp [IntKind.wrap,IntKind.bits,IntKind.signed,BitVec.toNat_add];omega
      simp [execOp,ap.aX av,ap.aX aZ,eqGuard,binOp,Op.intArith,this]
    · have:IntKind.u32.wrap (m-n)=((a-b).toNat:Int):=by
        simp [IntKind.wrap,IntKind.bits,IntKind.signed,BitVec.toNat_sub];omega
      simp [execOp,ap.aX av,ap.aX aZ,eqGuard,binOp,Op.intArith,this]
    · have:IntKind.u32.wrap (m*n)=((a*b).toNat:Int):=by
        simp only [IntKind.wrap,IntKind.bits,IntKind.signed,BitVec.toNat_mul]
        simp
        rw [Int.mul_emod,dc,dd]
      simp [execOp,ap.aX av,ap.aX aZ,eqGuard,binOp,Op.intArith,this]
    all_goals
      simp only [execOp,ap.aX av,ap.aX aZ,eqGuard,binOp,Op.intBits,IntKind.bits,aO,bb,Cn]
      simp [-BitVec.toNat_and,-BitVec.toNat_or,-BitVec.toNat_xor,-BitVec.toNat_not]
      try rfl⟩
theorem zm{x y:Operand}{t fB:Nat}{m n:Int}{gF:IntKind}{a:BitVec 32}(av:aX E x=some (.int .u32 m))(aZ:aX E y=some (.int gF n))(aO:BitVec.ofInt 32 m=a)(b0:0≤n)(ab:n<32)
    :dp P B A N an E S (.binOp .shl t x y fB) (.int .u32 ((a<<<n.toNat).toNat:Int)):=
  FC av aZ b0 (by
    have dc:=BQ m a aO
    have hm:min n.toNat IntKind.u32.bits=n.toNat:=by simp [IntKind.bits];omega
    simp only [hm]
    simp only [IntKind.wrap,IntKind.bits,IntKind.signed,BitVec.toNat_shiftLeft,Nat.shiftLeft_eq]
    simp
    rw [Int.mul_emod,dc]
    conv=>rhs;rw [Int.mul_emod]
    have:((a.toNat:Int))%4294967296=a.toNat:=by have:=a.isLt;omega
    rw [this])
theorem sM{x y:Operand}{t fB:Nat}{m n:Int}{gF:IntKind}{a:BitVec 32}(av:aX E x=some (.int .u32 m))(aZ:aX E y=some (.int gF n))(aO:m=(a.toNat:Int))(b0:0≤n)(ab:n<32)
    :dp P B A N an E S (.binOp .shr t x y fB) (.int .u32 ((a>>>n.toNat).toNat:Int)):=
  FC av aZ b0 (by
    subst aO
    have hm:min n.toNat IntKind.u32.bits=n.toNat:=by simp [IntKind.bits];omega
    simp only [hm]
    rw [Int.fdiv_eq_ediv_of_nonneg _ (by exact Int.pow_nonneg (by omega))]
    simp [Nat.shiftRight_eq_div_pow])
theorem To{x y:Operand}{t fB:Nat}{m n:Int}{a b:BitVec 32}(av:aX E x=some (.int .u32 m))(aZ:aX E y=some (.int .u32 n))(aO:m=(a.toNat:Int))(bb:n=(b.toNat:Int))(b0:b≠0)
    :dp P B A N an E S (.binOp .rem t x y fB) (.int .u32 ((a%b).toNat:Int)):=
  rK av aZ (by subst bb;intro e;apply b0;apply BitVec.eq_of_toNat_eq;simp;omega) (by
    subst aO bb
    simp [Int.tmod_eq_emod_of_nonneg])
end Go.Sl
end
section
namespace Go.Sl
open Go
variable{P:Program}{B:Nat}{A:eD}{r:Option Nat}{N:Nat}{an:List Nat}{E fp:Env}{S R jo L F:List (ao B)}{Q ic:e7 B}{ops:Array Oper}{rest:List Oper}{o:Oper}
variable{d:Nat}{op:Op}{bd:TypeId}{pos:String}{a3:Array Edge}{g:Option (Nat×Bool)}{v:Value}
def NE:Option IntKind→Value→Bool
  |none,.bool _=>true
  |some k,.int gF _=>k==gF
  |_,_=>false
def ko:List (Option IntKind)→List Value→Bool
  |[],[]=>true
  |k::cP,v::bx=>NE k v&&ko cP bx
  |_,_=>false
def HE:Value→Value→Bool
  | .bool a,.bool b=>a==b
  | .int _ a,.int _ b=>a==b
  |_,_=>false
def l9:List Value→List Value→Bool
  |x::xs,y::cO=>HE x y&&l9 xs cO
  |_,_=>true
def rL(P:Program)(rec:TypeId→Option (List (Option IntKind))):Nat→List Field→Option (List (Option IntKind))
  |_,[]=>some []
  |off,f::fC=>match rec f.type,P.info? f.type with
    |some l,some i=>if f.name≠ "_"∧f.offset=off∧i.size=l.length then match rL P rec (off+l.length) fC with
        |some sy=>some (l++sy)
        |none=>none
      else none
    |_,_=>none
def kR(P:Program):Nat→TypeId→Option (List (Option IntKind))
  |0,_=>none
  |d+1,t=>match P.underlying t with
    |some .bool=>some [none]
    |some (.int k)=>some [some k]
    |some (.struct fC)=>if P.stoodInHeld t then none else rL P (kR P d) 0 fC.toList
    |some (.array n e)=>match kR P d e,P.info? e with
      |some l,some i=>if i.size=l.length then some (List.replicate n l).flatten else none
      |_,_=>none
    |_=>none
def m8(P:Program)(t:TypeId):Bool:=match P.underlying t with
  |some (.struct _)|some (.array _ _)=>true
  |_=>false
def qc(P:Program)(t:TypeId)(xs:List Value):Value:=if m8 P t then .agg xs.toArray else xs.headD undef
theorem tW:∀{cP:List (Option IntKind)} {xs:List Value},ko cP xs=true→xs.length=cP.length
  |[],[],_=>rfl
  |[],_::_,h=>by cases h
  |_::_,[],h=>by cases h
  |k::cP,x::xs,h=>by simp [ko]at h;simp [tW h.2]
theorem BR:∀{cP se:List (Option IntKind)} {xs:List Value},ko (cP++se) xs=true→ko cP (xs.take cP.length)=true∧ko se (xs.drop cP.length)=true
  |[],se,xs,h=>by simpa [ko]using h
  |k::cP,se,[],h=>by cases h
  |k::cP,se,x::xs,h=>by
    simp only [List.cons_append,ko,Bool.and_eq_true]at h
    obtain⟨ab,af⟩:=BR h.2
    simp [ko,h.1,ab,af]
theorem EK:∀(n:Nat) (xs cO:List Value),n≤xs.length→n≤cO.length→l9 xs cO=(l9 (xs.take n) (cO.take n)&&l9 (xs.drop n) (cO.drop n))
  |0,xs,cO,_,_=>by simp [l9]
  |n+1,[],_,h,_=>by simp at h
  |n+1,_::_,[],_,h=>by simp at h
  |n+1,x::xs,y::cO,h,eW=>by
    simp only [List.take_succ_cons,List.drop_succ_cons,l9]
    rw [EK n xs cO (by simpa using h) (by simpa using eW),Bool.and_assoc]
theorem B3{t:TypeId}{rh:TypeDesc}(hu:P.underlying t=some rh)(w:World):(isAgg t).run P w= .ok (m8 P t) w:=by
  unfold isAgg m8
  simp only [Sem.run_bind,run_underlying hu,Result.andThen_ok,hu]
  cases rh<;>rfl
theorem Ca{t:TypeId}{rh:TypeDesc}{i:TypeInfo}{l:List (Option IntKind)}{xs:List Value}{off:Nat}(hu:P.underlying t=some rh)(ak:P.info? t=some i)(aB:i.size=l.length)(aJ:0<l.length∨m8 P t=true)
    (h:ko l ((xs.drop off).take l.length)=true) (w:World):(part t xs.toArray off).run P w= .ok (qc P t ((xs.drop off).take l.length)) w:=by
  have hlen:=tW h
  unfold part qc
  simp only [Sem.run_bind,B3 hu,Result.andThen_ok]
  cases bb:m8 P t with
  |true=>
    simp only [if_true,Sem.run_bind,sizeOf,typeInfo,run_program,Result.andThen_ok,ak,Sem.run_pure,aB]
    congr 2
    simp [List.extract_eq_take_drop]
  |false=>
    have b0:0<l.length:=by rcases aJ with h|h;exact h;rw [bb]at h;cases h
    simp only [Bool.false_eq_true,if_false]
    simp at hlen
    have Ds:off<xs.length:=by omega
    simp only [List.getElem?_toArray,List.getElem?_eq_getElem Ds]
    simp only [Sem.run_pure]
    congr 1
    simp [List.head?_eq_getElem?,List.getElem?_drop,List.getElem?_eq_getElem Ds,b0]
theorem EN:∀{d:Nat} {t:TypeId} {l:List (Option IntKind)},kR P d t=some l→(∃rh,P.underlying t=some rh)∧(0<l.length∨m8 P t=true)
  |0,_,_,h=>by cases h
  |d+1,t,l,h=>by
    unfold kR at h
    unfold m8
    split at h
    · rename_i hu;simp at h;subst h;exact⟨⟨_,hu⟩,.inl (by simp)⟩
    · rename_i hu;simp at h;subst h;exact⟨⟨_,hu⟩,.inl (by simp)⟩
    · rename_i hu;exact⟨⟨_,hu⟩,.inr (by simp [hu])⟩
    · rename_i hu;exact⟨⟨_,hu⟩,.inr (by simp [hu])⟩
    · cases h
theorem K6{d f:Nat}(Bp:∀{t:TypeId} {l:List (Option IntKind)},kR P d t=some l→∀(xs cO:List Value) (w:World),ko l xs=true→ko l cO=true→(Op.equalIn f t (qc P t xs) (qc P t cO)).run P w= .ok (l9 xs cO) w):
    ∀(fC:List Field) (off:Nat) (l:List (Option IntKind)) (xs cO:List Value) (w:World),rL P (kR P d) off fC=some l→ko l (xs.drop off)=true→ko l (cO.drop off)=true→
      (Op.eqFields f xs.toArray cO.toArray fC).run P w= .ok (l9 (xs.drop off) (cO.drop off)) w
  |[],off,l,xs,cO,w,h,av,aZ=>by
    simp [rL]at h;subst h
    have ab:=tW av
    have af:=tW aZ
    rw [List.eq_nil_of_length_eq_zero ab]
    simp [Op.eqFields,l9]
  |fd::fC,off,l,xs,cO,w,h,av,aZ=>by
    unfold rL at h
    split at h
    · rename_i yO i aj ak
      split at h
      · rename_i bg
        obtain⟨a7,ap,aB⟩:=bg
        split at h
        · rename_i qT b7
          simp at h;subst h
          obtain⟨wz,DP⟩:=BR av
          obtain⟨wA,OR⟩:=BR aZ
          obtain⟨⟨rh,hu⟩,pU⟩:=EN aj
          have kd:=Ca (xs:=xs) hu ak aB pU wz w
          have gk:=Ca (xs:=cO) hu ak aB pU wA w
          have e:=Bp aj _ _ w wz wA
          rw [List.drop_drop]at DP OR
          have uL:=K6 Bp fC (off+yO.length) qT xs cO w b7 DP OR
          have DQ:=tW av
          have DR:=tW aZ
          simp only [List.length_append]at DQ DR
          subst ap
          simp only [Op.eqFields,a7,ne_eq,not_false_eq_true,if_true,Sem.run_bind,kd,gk,e,Result.andThen_ok]
          rw [EK yO.length (xs.drop fd.offset) (cO.drop fd.offset) (by omega) (by omega),List.drop_drop,List.drop_drop]
          cases bg:l9 ((xs.drop fd.offset).take yO.length) ((cO.drop fd.offset).take yO.length)with
          |false=>simp
          |true=>simpa using uL
        · cases h
      · cases h
    · cases h
theorem EZ{l:List (Option IntKind)}:∀{n:Nat} {xs:List Value},ko (List.replicate n l).flatten xs=true→∀i,i<n→ko l ((xs.drop (i*l.length)).take l.length)=true
  |0,_,_,i,ak=>by omega
  |n+1,xs,h,i,ak=>by
    rw [List.replicate_succ,List.flatten_cons]at h
    obtain⟨ab,af⟩:=BR h
    cases i with
    |zero=>simpa using ab
    |succ i=>
      have:=EZ af i (by omega)
      rw [List.drop_drop]at this
      rw [show(i+1)*l.length=l.length+i*l.length by rw [Nat.add_mul];omega]
      exact this
theorem K7{d f:Nat}(Bp:∀{t:TypeId} {l:List (Option IntKind)},kR P d t=some l→∀(xs cO:List Value) (w:World),ko l xs=true→ko l cO=true→(Op.equalIn f t (qc P t xs) (qc P t cO)).run P w= .ok (l9 xs cO) w)
    {e:TypeId} {l:List (Option IntKind)} {i:TypeInfo} (aj:kR P d e=some l) (ak:P.info? e=some i) (aB:i.size=l.length) (w:World):∀(n k:Nat) (xs cO:List Value),(∀j,j<k+n→ko l ((xs.drop (j*l.length)).take l.length)=true)→(∀j,j<k+n→ko l ((cO.drop (j*l.length)).take l.length)=true)→
      xs.length=(k+n)*l.length→cO.length=(k+n)*l.length→
      (Op.eqItems f e l.length xs.toArray cO.toArray (List.range' k n)).run P w= .ok (l9 (xs.drop (k*l.length)) (cO.drop (k*l.length))) w
  |0,k,xs,cO,av,aZ,lx,cu=>by
    rw [List.drop_eq_nil_of_le (by simp at lx;omega),List.drop_eq_nil_of_le (by simp at cu;omega)]
    simp [Op.eqItems,l9]
  |n+1,k,xs,cO,av,aZ,lx,cu=>by
    obtain⟨⟨rh,hu⟩,pU⟩:=EN aj
    have wz:=av k (by omega)
    have wA:=aZ k (by omega)
    have kd:=Ca (xs:=xs) hu ak aB pU wz w
    have gk:=Ca (xs:=cO) hu ak aB pU wA w
    have dc:=Bp aj _ _ w wz wA
    have uL:=K7 Bp aj ak aB w n (k+1) xs cO (fun j aY=>av j (by omega)) (fun j aY=>aZ j (by omega)) (by rw [lx];congr 1;omega) (by rw [cu];congr 1;omega)
    have hm:(k+1)*l.length=k*l.length+l.length:=by rw [Nat.add_mul];omega
    have DS:k*l.length+l.length≤(k+(n+1))*l.length:=by
      rw [←hm];exact Nat.mul_le_mul_right _ (by omega)
    simp only [List.range'_succ,Op.eqItems,Sem.run_bind,kd,gk,dc,Result.andThen_ok]
    rw [EK l.length (xs.drop (k*l.length)) (cO.drop (k*l.length)) (by simp;omega) (by simp;omega),List.drop_drop,List.drop_drop, ←hm]
    cases bg:l9 ((xs.drop (k*l.length)).take l.length) ((cO.drop (k*l.length)).take l.length)with
    |false=>simp
    |true=>simpa using uL
theorem FD:∀(d:Nat) {t:TypeId} {l:List (Option IntKind)},kR P d t=some l→∀(f:Nat),d≤f→∀(xs cO:List Value) (w:World),ko l xs=true→ko l cO=true→
    (Op.equalIn f t (qc P t xs) (qc P t cO)).run P w= .ok (l9 xs cO) w
  |0,_,_,h,_,_,_,_,_,_,_=>by cases h
  |d+1,t,l,h,f,br,xs,cO,w,av,aZ=>by
    obtain⟨f,rfl⟩:∃IJ,f=IJ+1:=⟨f-1,by omega⟩
    have DQ:=tW av
    have DR:=tW aZ
    unfold kR at h
    split at h
    · rename_i hu
      simp at h;subst h
      match xs,cO,av,aZ with
      |[.bool a],[.bool b],_,_=>simp [qc,m8,hu,run_equalIn_bool w f t a b hu,l9,HE]
    · rename_i k hu
      simp at h;subst h
      match xs,cO,av,aZ with
      |[.int eR a],[.int cB b],ab,af=>
        simp [ko,NE]at ab af
        subst ab af
        simp [qc,m8,hu,run_equalIn_int w f t k k a b hu,l9,HE]
    · rename_i fC hu
      split at h
      · cases h
      · rename_i et
        have aR:P.underlying t=some (.struct (P.fieldsOf t)):=by simp [Program.fieldsOf,hu]
        have abr:(P.fieldsOf t).toList=fC.toList:=by simp [Program.fieldsOf,hu]
        have:=K6 (P:=P) (d:=d) (f:=f) (fun aj xs cO w ab af=>FD d aj f (by omega) xs cO w ab af) fC.toList 0 l xs cO w h (by simpa using av) (by simpa using aZ)
        simp only [qc,m8,hu,if_true]
        rw [run_equalIn_struct w f t _ _ aR (by simpa using et),abr,this]
        simp
    · rename_i n e hu
      split at h
      · rename_i yO i aj ak
        split at h
        · rename_i aB
          simp at h;subst h
          simp only [List.length_flatten,List.map_replicate,List.sum_replicate_nat]at DQ DR
          have:=K7 (P:=P) (d:=d) (f:=f) (fun aj xs cO w ab af=>FD d aj f (by omega) xs cO w ab af) aj ak aB w n 0 xs cO (fun j aY=>EZ av j (by omega)) (fun j aY=>EZ aZ j (by omega)) (by simpa using DQ) (by simpa using DR)
          simp only [qc,m8,hu,if_true]
          have bg:P.cellsOf e=yO.length:=by rw [←aB];simp [Program.cellsOf,ak]
          rw [run_equalIn_array w f _ _ hu ak,bg,List.range_eq_range',this]
          simp
        · cases h
      · cases h
    · cases h
theorem Xy{x y:Operand}{t fB:Nat}{xs cO:List Value}{cP:List (Option IntKind)}{b:Bool}{gd:BinOp}(av:aX E x=some (.agg xs.toArray))(aZ:aX E y=some (.agg cO.toArray))(aR:kR P 12 t=some cP)(bh:P.eqGuardType P.depth t=false)
    (ab:ko cP xs=true) (af:ko cP cO=true) (aO:m8 P t=true) (bb:(match gd with| .eql=>l9 xs cO=b| .neq=>(!l9 xs cO)=b|_=>False)):dp P B A N an E S (.binOp gd t x y fB) (.bool b):=
  ⟨by simp,by simp,fun a w bd pos a3 g d ap aB=>by
    have e:=FD 12 aR 10000 (by omega) xs cO w ab af
    simp only [qc,aO,if_true]at e
    cases gd<;>simp only at bb<;>subst bb
    · simp [execOp,ap.aX av,ap.aX aZ,run_eqGuard_agg w _ t x y _ _ bh,run_eql_struct,e]
    · simp [execOp,ap.aX av,ap.aX aZ,run_eqGuard_agg w _ t x y _ _ bh,run_neq_struct,e]⟩
end Go.Sl
end
section
namespace Go.Sl
open Go
variable{P:Program}{B:Nat}{A:eD}{r:Option Nat}{N:Nat}{an:List Nat}{E fp:Env}{S aP R jo L F Fr own:List (ao B)}{Q ic:e7 B}{ops:Array Oper}{rest:List Oper}{o:Oper}
variable{d:Nat}{op:Op}{bd:TypeId}{pos:String}{a3:Array Edge}{g:Option (Nat×Bool)}{v:Value}
def nu(P:Program)(B:Nat)(l:Nat)(args:List Value)(pre:List (ao B))(post:Bool→List (ao B)→Prop):Prop:=
  ∀w D,dR pre D w→(∀k,D k→B≤k∧k<w.heap.size)→B≤w.heap.size→
    ∃fn tmps assign body,(Instr.yield l args.toArray).run P w= .ok (.round l fn tmps assign body) w∧
      RoundIn (l4 none) 0 P l fn tmps assign body w fun e b3=>∃b a8,e= .returned (.bool b)∧post b a8∧bB B ⟨w,D⟩ a8 b3
theorem dR.swap{hj hp:List (ao B)}{D:Nat→Prop}{w:World}(h:dR (hj++hp) D w):dR (hp++hj) D w:=by
  obtain⟨dk,dX,bZ,aD,ab,af⟩:=h.append
  exact dR.join (fun k=>by rw [bZ k];exact Or.comm) (fun k a b=>aD k b a) af ab
theorem bB.swap{hj hp:List (ao B)}{w:World}(h:bB B A (hj++hp) w):bB B A (hp++hj) w:=by
  obtain⟨D,ab,af⟩:=h
  exact⟨D,ab.swap,af⟩
theorem dR.mid{hj hp Bq:List (ao B)}{D:Nat→Prop}{w:World}(h:dR (hj++(hp++Bq)) D w):dR (hp++(hj++Bq)) D w:=by
  obtain⟨dk,dX,bZ,aD,ab,af⟩:=h.append
  obtain⟨kc,k1,ms,tq,az,a5⟩:=af.append
  refine dR.join (dk:=kc) (dX:=fun k=>dk k∨k1 k) (fun k=>?_) (fun k a b=>?_) az (dR.join (fun _=>Iff.rfl) (fun k a b=>aD k a ((ms k).2 (.inr b))) ab a5)
  · rw [bZ k,ms k];exact⟨fun h=>h.elim (fun h=> .inr (.inl h)) (fun h=>h.elim .inl (fun h=> .inr (.inr h))),fun h=>h.elim (fun h=> .inr (.inl h)) (fun h=>h.elim .inl (fun h=> .inr (.inr h)))⟩
  · exact b.elim (fun b=>aD k b ((ms k).2 (.inl a))) (fun b=>tq k a b)
theorem bB.mid{hj hp Bq:List (ao B)}{w:World}(h:bB B A (hj++(hp++Bq)) w):bB B A (hp++(hj++Bq)) w:=by
  obtain⟨D,ab,af⟩:=h
  exact⟨D,ab.mid,af⟩
theorem iB{l:Nat}{f:Operand}{xs:List Operand}{args:List Value}{di:Array TypeId}(own:List (ao B)){hU:List (ao B)}{post:Bool→List (ao B)→Prop}(hw:Want ops N E g)(br:aX E f=some (.func (.yield l) #[] #[]))
    (aO:gC E xs=some args) (aZ:nu P B l args hU post) (aD:Nat.blt d N=true)
    (h:∀b a8,post b a8→b8 P B A r N ops rest an ((d,.bool b)::E) (own++a8) Q):
    b8 P B A r N ops (⟨some d,.call {callee:= .value f,args:=xs.toArray,argTypes:=di},bd,pos,a3,g⟩::rest) an E (own++hU) Q:=by
  intro a w ap aB
  simp only [wpListIn]
  rw [if_pos (Want.wanted (o:=⟨some d,.call {callee:= .value f,args:=xs.toArray,argTypes:=di},bd,pos,a3,g⟩) hw ap)]
  refine⟨fun _ _=>trivial,?_⟩
  have iD:=ap.gC aO
  have e0:=aB.size
  obtain⟨D,bM,bS,cD,cV,ff,gE⟩:=aB.swap
  obtain⟨hK,l3,bZ,fO,h0,b7⟩:=bM.append
  obtain⟨fn,tmps,assign,body,hG,mf⟩:=aZ w hK h0 (fun k aj=>bS k ((bZ k).2 (.inl aj))) e0
  rw [Oper.semAt_eq _ _ _ (by simp)]
  have e:(execOp a.eval ⟨some d,.call {callee:= .value f,args:=xs.toArray,argTypes:=di},bd,pos,a3,g⟩).run P w= .ok (.round l fn tmps assign body) w:=by
    simp only [execOp,resolve,ap.aX br,Sem.run_bind]
    simp [Deferred.ofValue,invoke,iD,hG]
  rw [e]
  refine⟨by simp [Fence.wide],?_⟩
  refine RoundIn.mono mf ?_
  rintro e b3 ⟨b,a8,rfl,aE,et⟩
  refine h b a8 aE _ b3 (ap.put (by simpa using aD)) ?_
  exact(bB.nO bM bS cD cV ff gE bZ fO b7 et).swap
def mW(P:Program)(B:Nat)(cf:FuncId)(cL:List Value)(own:List (ao B))(xs:List (List Value)):Prop:=
  ∀(l:Nat) (J gN:Nat→List (ao B)→Prop) (cb:List (ao B)),J 0 cb→
    (∀i S,i<xs.length→J i S→nu P B l (xs.getD i []) S fun b a8=>(b=true∧J (i+1) a8)∨(b=false∧gN i a8))→
    dQ P B cf (.func (.yield l) #[] #[]::cL) (own++cb) fun _ a8=>∃aP,a8=own++aP∧(J xs.length aP∨∃i,i<xs.length∧gN i aP)
def Env.pf:List Nat→List Value→Env→Env
  |t::bf,v::bx,E=>Env.pf bf bx ((t,v)::E)
  |_,_,E=>E
theorem dq.K8{N:Nat}:∀{bf:List Nat} {bx:List Value} {E:Env} {kA:Array Value},(∀t∈bf,t<N)→dq N [] E {tmps:=kA,defers:=[]}→
    dq N [] (Env.pf bf bx E) {tmps:=((bf.zip bx).foldl (fun tmps (t,a)=>tmps.setIfInBounds t a) kA),defers:=[]}
  |[],bx,E,kA,_,h=>by simpa [Env.pf]using h
  |t::bf,[],E,kA,_,h=>by simpa [Env.pf]using h
  |t::bf,v::bx,E,kA,aR,h=>by
    have ab:dq N [] ((t,v)::E) {tmps:=kA.setIfInBounds t v,defers:=[]}:=h.put (aR t (by simp))
    exact dq.K8 (bf:=bf) (bx:=bx) (fun t ts=>aR t (by simp [ts])) ab
theorem dq.pf{N:Nat}{bf:List Nat}{bx:List Value}{E:Env}{kA:Array Value}(aR:∀t∈bf,t<N)(h:dq N [] E {tmps:=kA,defers:=[]}):
    dq N [] (Env.pf bf bx E) {tmps:=((bf.toArray.zip bx.toArray).foldl (fun tmps (t,a)=>tmps.setIfInBounds t a) kA),defers:=[]}:=by
  have:=dq.K8 (bx:=bx) aR h
  rw [←Array.foldl_toList]
  simpa using this
def ZF(l:Nat)(rec:Loop)(J:Nat→List (ao B)→Prop)(h4:Code→Nat→List (ao B)→Prop)(i:Nat):e7 B
  | .normal,_,_,S=>∃cF R,Take (obj l (.loop rec)::cF) S R∧J (i+1) cF
  | .ret,_,_,S=>∃cF R,Take (obj l (.loop rec)::cF) S R∧h4 .ret i cF
  | .exit id,_,_,S=>∃cF R,Take (obj l (.loop rec)::cF) S R∧h4 (.exit id) i cF
  |_,_,_,_=>False
def v7(P:Program)(A:eD)(N:Nat)(body:Code)(l:Nat)(rec:Loop)(J:Nat→List (ao B)→Prop)(h4:Code→Nat→List (ao B)→Prop)(i:Nat):e7 B
  | .normal,an,E,S=>an=[]∧∃cF R,Take (obj l (.loop rec)::cF) S R∧∀NF,X P B A (some l) N body [] E (obj l (.loop NF)::cF) (ZF l NF J h4 i)
  |_,_,_,_=>False
theorem bB.put{l:Nat}{o fU:Obj}{w:World}(h:bB B A (obj l o::S) w):bB B A (obj l fU::S) (w.putObj l fU):=by
  obtain⟨D,nh⟩:=h.mem (.here _ _)
  exact h.set (World.putObj_heap_same (Array.getElem?_eq_some_iff.1 nh.2).1) (fun k aj=>World.putObj_heap_other aj) (by simp) rfl rfl rfl
theorem bB.head{l:Nat}{o:Obj}{w:World}(h:bB B A (obj l o::S) w):w.heap[l]?=some o:=by
  obtain⟨D,nh⟩:=h.mem (.here _ _)
  exact nh.2
theorem xp{bV:List Nat}{assign body:Code}{J:Nat→List (ao B)→Prop}{h4:Code→Nat→List (ao B)→Prop}{xs:List (List Value)}{i l fn ch:Nat}{kA:Array Value}{a8 jC:List (ao B)}(dy:dq N [] E {tmps:=kA,defers:=[]})
    (lY:bV.all (Nat.blt · N)=true) (hlen:∀x∈xs,x.length=bV.length) (ak:i<xs.length) (bt:J i a8)
    (mf:∀(l:Nat) (rec:Loop) (lo:eD) (i:Nat) (a8:List (ao B)),i<xs.length→J i a8→X P B lo (some l) N assign [] (Env.pf bV (xs.getD i []) E) (obj l (.loop rec)::a8) (v7 P lo N body l rec J h4 i)):
    nu P B l (xs.getD i []) (obj l (.loop {state:= .ready,pending:=none,fn,tmps:=kA,params:=bV.toArray,assign,body,defers:=ch})::(jC++a8)) fun b aQ=>
      (b=true∧∃cF,aQ=obj l (.loop {state:= .ready,pending:=none,fn,tmps:=kA,params:=bV.toArray,assign,body,defers:=ch})::(jC++cF)∧J (i+1) cF)∨
      (b=false∧∃c cF,aQ=obj l (.loop {state:= .done,pending:=some c,fn,tmps:=kA,params:=bV.toArray,assign,body,defers:=ch})::(jC++cF)∧h4 c i cF):=by
  intro w D aB bZ hq
  have et:bB B ⟨w,D⟩ (obj l (.loop {state:= .ready,pending:=none,fn,tmps:=kA,params:=bV.toArray,assign,body,defers:=ch})::(jC++a8)) w:=⟨D,aB,bZ,fun k aj=> .inl aj,sc.refl _ _,hq,fun k aj=>(bZ k aj).1⟩
  have aJ:=et.head
  have iL:(xs.getD i []).length=bV.length:=hlen _ (by simp [List.getD,List.getElem?_eq_getElem ak])
  have aZ:=run_yield (P:=P) (args:=(xs.getD i []).toArray) aJ (by simp only [List.size_toArray];exact iL)
  refine⟨_,_,_,_,aZ,roundIn_of_wpIn trivial ?_⟩
  have pV:bB B ⟨w,D⟩ ((obj l (.loop {state:= .ready,pending:=none,fn,tmps:=kA,params:=bV.toArray,assign,body,defers:=ch})::a8)++jC) w:=by
    have:bB B ⟨w,D⟩ (jC++(obj l (.loop {state:= .ready,pending:=none,fn,tmps:=kA,params:=bV.toArray,assign,body,defers:=ch})::a8)) w:=bB.mid (hj:=[_]) et
    exact this.swap
  obtain⟨qb,eR,cB,lp,tG,II,adt⟩:=pV
  obtain⟨hK,l3,HF,fO,h0,b7⟩:=eR.append
  have aE:=mf l {state:= .ready,pending:=none,fn,tmps:=kA,params:=bV.toArray,assign,body,defers:=ch} ⟨w,hK⟩ i a8 ak bt _ w
    (dq.pf (bx:=xs.getD i []) (fun t aR=>by have:=List.all_eq_true.1 lY t aR;simpa using this) dy)
    ⟨hK,h0,fun k aj=>cB k ((HF k).2 (.inl aj)),fun k aj=> .inl aj,sc.refl _ _,hq,fun k aj=>(cB k ((HF k).2 (.inl aj))).1⟩
  have join:∀{T:List (ao B)} {b3:World},bB B ⟨w,hK⟩ T b3→bB B ⟨w,D⟩ (T++jC) b3:=fun h=>bB.nO eR cB lp tG II adt HF fO b7 h
  refine wpIn_mono aE ?_
  rintro e cE l2 ⟨AA,Ez,aP,lh,wB,bY⟩
  cases e with
  |normal=>
    obtain⟨rfl,cF,Br,t3,bb⟩:=bY
    have HG:=wB.mm t3
    have AB:=HG.head
    refine⟨_,run_beginRound AB rfl,?_⟩
    have Xz:=bb _ cE _ lh (HG.put (fU:= .loop {state:= .busy,pending:=none,fn,tmps:=kA,params:=bV.toArray,assign,body,defers:=ch}))
    refine wpIn_mono Xz ?_
    rintro dd c2 hV ⟨aex,afo,lI,OS,HH,bK⟩
    cases dd with
    |normal=>
      obtain⟨nH,Qe,t5,p1⟩:=bK
      have u0:=HH.mm t5
      refine⟨_,_,run_endRound none u0.head,true,_,rfl,.inl ⟨rfl,nH,rfl,p1⟩,?_⟩
      have af:=(join (u0.put (fU:= .loop {state:= .ready,pending:=none,fn,tmps:=kA,params:=bV.toArray,assign,body,defers:=ch}))).swap
      exact bB.mid (hj:=jC) (hp:=[_]) af
    |ret=>
      obtain⟨nH,Qe,t5,p1⟩:=bK
      have u0:=HH.mm t5
      refine⟨_,_,run_endRound (some .ret) u0.head,false,_,rfl,.inr ⟨rfl,.ret,nH,rfl,p1⟩,?_⟩
      have af:=(join (u0.put (fU:= .loop {state:= .done,pending:=some .ret,fn,tmps:=kA,params:=bV.toArray,assign,body,defers:=ch}))).swap
      exact bB.mid (hj:=jC) (hp:=[_]) af
    |exit id=>
      obtain⟨nH,Qe,t5,p1⟩:=bK
      have u0:=HH.mm t5
      refine⟨_,_,run_endRound (some (.exit id)) u0.head,false,_,rfl,.inr ⟨rfl,.exit id,nH,rfl,p1⟩,?_⟩
      have af:=(join (u0.put (fU:= .loop {state:= .done,pending:=some (.exit id),fn,tmps:=kA,params:=bV.toArray,assign,body,defers:=ch}))).swap
      exact bB.mid (hj:=jC) (hp:=[_]) af
    |_=>exact bK.elim
  |_=>exact bY.elim
end Go.Sl
end
section
namespace Go.Sl
open Go
variable{P:Program}{B:Nat}{A:eD}{r:Option Nat}{N:Nat}{an:List Nat}{E fp:Env}{S aP R jo L F Fr own:List (ao B)}{Q ic:e7 B}{ops:Array Oper}{rest:List Oper}{o:Oper}
theorem xq{l:Nat}{rec:LoopState→Option Code→Loop}(uL:∀s c,(rec s c).state=s∧(rec s c).pending=c){jC:List (ao B)}{J:Nat→List (ao B)→Prop}{h4:Code→Nat→List (ao B)→Prop}{n:Nat}{a:Act}{j8:List Nat}{w:World}{aQ:List (ao B)}
    (dy:dq N j8 E a) (et:bB B A (aQ++Fr) w)
    (h:∃aP,aQ=own++aP∧((∃cF,aP=obj l (.loop (rec .ready none))::(jC++cF)∧J n cF)∨∃i,i<n∧∃c cF,aP=obj l (.loop (rec .done (some c)))::(jC++cF)∧h4 c i cF))
    (pP:∀a8,J n a8→Q .normal j8 E (jC++(own++(a8++Fr)))) (pQ:∀c i a8,i<n→h4 c i a8→X P B A r N c j8 E (jC++(own++(a8++Fr))) Q):
    ∃jump IK,(Instr.endLoop l).run P w= .ok jump IK∧(match jump with
      |none=>ta B A N Q .normal a IK
      |some c=>c.wpIn (l4 r) 0 P (ta B A N Q) a IK):=by
  have Qf:∀{o:Obj} {cF:List (ao B)},bB B A ((own++obj l o::(jC++cF))++Fr) w→bB B A (obj l o::(jC++(own++(cF++Fr)))) w:=by
    intro o cF h
    have ab:bB B A (own++([obj l o]++((jC++cF)++Fr))) w:=by simpa using h
    have af:bB B A ([obj l o]++(own++((jC++cF)++Fr))) w:=ab.mid
    have az:bB B A (([obj l o]++own)++(jC++(cF++Fr))) w:=by simpa using af
    have a5:bB B A (jC++(([obj l o]++own)++(cF++Fr))) w:=az.mid
    have cd:bB B A (jC++([obj l o]++(own++(cF++Fr)))) w:=by simpa using a5
    exact cd.mid
  obtain⟨aP,rfl,(⟨cF,rfl,bt⟩|⟨i,ak,c,cF,rfl,av⟩)⟩:=h
  · have ab:=Qf et
    have:=run_endLoop (P:=P) ab.head (by rw [(uL _ _).1];simp)
    rw [(uL _ _).2]at this
    exact⟨none,_,this,j8,E,_,dy,(ab.put (fU:=_)).tail,pP cF bt⟩
  · have ab:=Qf et
    have:=run_endLoop (P:=P) ab.head (by rw [(uL _ _).1];simp)
    rw [(uL _ _).2]at this
    exact⟨some c,_,this,pQ c i cF ak av a _ dy (ab.put (fU:=_)).tail⟩
theorem kh{f:Operand}{bV:List Nat}{assign body:Code}{cf:FuncId}{cL:List Value}{xs:List (List Value)}(br:aX E f=some (.func (.func cf) #[] cL.toArray))(he:Go.Proofs.Enters P cf)(ri:mW P B cf cL own xs)
    (J:Nat→List (ao B)→Prop) (h4:Code→Nat→List (ao B)→Prop) (aR:Take (own++aP) S Fr) (bt:J 0 aP) (lY:bV.all (Nat.blt · N)=true) (hlen:∀x∈xs,x.length=bV.length)
    (mf:∀(l:Nat) (rec:Loop) (lo:eD) (i:Nat) (a8:List (ao B)),i<xs.length→J i a8→X P B lo (some l) N assign [] (Env.pf bV (xs.getD i []) E) (obj l (.loop rec)::a8) (v7 P lo N body l rec J h4 i))
    (pP:∀ch a8,J xs.length a8→Q .normal (ch::an) E (du ch::(own++(a8++Fr))))
    (pQ:∀ch c i a8,i<xs.length→h4 c i a8→X P B A none N c (ch::an) E (du ch::(own++(a8++Fr))) Q):
    X P B A none N (.rangeFunc f bV.toArray assign body) an E S Q:=by
  intro a w ap aB
  refine wpIn_rangeFunc ?_
  intro fn _
  have n6:=(aB.take aR).new (.deferred (some []))
  have g4:=n6.new (.loop {state:= .ready,pending:=none,fn,tmps:=a.tmps,params:=bV.toArray,assign,body,defers:=w.heap.size})
  simp only [World.size_alloc]at g4
  obtain⟨fg,rj⟩:∃fg,(w.alloc (.deferred (some []))).alloc (.loop {state:= .ready,pending:=none,fn,tmps:=a.tmps,params:=bV.toArray,assign,body,defers:=w.heap.size})=fg:=⟨_,rfl⟩
  have jh:=run_enterLoop_outer (P:=P) (w:=w) fn a.tmps bV.toArray assign body
  rw [rj]at g4 jh
  generalize aJ:w.heap.size+1=l at g4 jh
  generalize w.heap.size=ch at n6 g4 jh
  have nv:bB B A ((own++(obj l (.loop {state:= .ready,pending:=none,fn,tmps:=a.tmps,params:=bV.toArray,assign,body,defers:=ch})::([du ch]++aP)))++Fr) fg:=by
    have ab:bB B A ([obj l (.loop {state:= .ready,pending:=none,fn,tmps:=a.tmps,params:=bV.toArray,assign,body,defers:=ch}),du ch]++(own++(aP++Fr))) fg:=by simpa using g4
    have af:=ab.mid
    simpa using af
  refine⟨l,[{target:= .collected ch,args:= #[]}],fg,{target:= .fn (.func cf) cL.toArray,args:= #[.func (.yield l) #[] #[]]},fg,cf, #[.func (.yield l) #[] #[]]++cL.toArray,fg,jh,?_,fun _ _=>trivial,?_,fun _=>by simp_all [Fence.wide],?_⟩
  · simp only [resolve,ap.aX br]
    simp [Deferred.ofValue,Act.eval]
  · simpa [invoke]using he (Value.func (.yield l) #[] #[]::cL).toArray fg
  · have dy:dq N [] E {tmps:=a.tmps,defers:=[]}:=⟨ap.size,rfl,ap.get⟩
    have q7:=ri l (fun i S=>∃cF,S=obj l (.loop {state:= .ready,pending:=none,fn,tmps:=a.tmps,params:=bV.toArray,assign,body,defers:=ch})::([du ch]++cF)∧J i cF)
      (fun i S=>∃c cF,S=obj l (.loop {state:= .done,pending:=some c,fn,tmps:=a.tmps,params:=bV.toArray,assign,body,defers:=ch})::([du ch]++cF)∧h4 c i cF) _ ⟨aP,rfl,bt⟩
      (fun i S ak ⟨cF,eK,nw⟩=>by
        subst eK
        exact xp dy lY hlen ak nw mf)
    have e0:=nv.size
    obtain⟨D,bM,bS,cD,cV,ff,gE⟩:=nv
    obtain⟨hK,l3,bZ,fO,h0,b7⟩:=bM.append
    have m9:=q7 fg hK h0 (fun k aj=>bS k ((bZ k).2 (.inl aj))) e0
    have iD:(Value.func (.yield l) #[] #[]::cL).toArray= #[.func (.yield l) #[] #[]]++cL.toArray:=by simp
    rw [iD]at m9
    refine CallsIn.mono m9 ?_
    rintro e Bs ⟨v,aQ,rfl,aE,et⟩
    have pV:=bB.nO bM bS cD cV ff gE bZ fO b7 et
    have q8:dq N (ch::an) E {a with defers:=[{target:= .collected ch,args:= #[]}]++a.defers}:=⟨ap.size,by simp [ap.oF,uf],ap.get⟩
    exact xq (rec:=fun s c=>{state:=s,pending:=c,fn,tmps:=a.tmps,params:=bV.toArray,assign,body,defers:=ch}) (fun s c=>⟨rfl,rfl⟩) (jC:=[du ch]) q8 pV aE (fun a8 h=>pP ch a8 h) (fun c i a8 ak h=>pQ ch c i a8 ak h)
theorem Cb{EA:Nat}{G6:Loop}{adu:List (ao B)}{f:Operand}{bV:List Nat}{assign body:Code}{cf:FuncId}{cL:List Value}{xs:List (List Value)}(rk:Out (obj EA (.loop G6)) S adu)(br:aX E f=some (.func (.func cf) #[] cL.toArray))(he:Go.Proofs.Enters P cf)(ri:mW P B cf cL own xs)
    (J:Nat→List (ao B)→Prop) (h4:Code→Nat→List (ao B)→Prop) (aR:Take (own++aP) S Fr) (bt:J 0 aP) (lY:bV.all (Nat.blt · N)=true) (hlen:∀x∈xs,x.length=bV.length)
    (mf:∀(l:Nat) (rec:Loop) (lo:eD) (i:Nat) (a8:List (ao B)),i<xs.length→J i a8→X P B lo (some l) N assign [] (Env.pf bV (xs.getD i []) E) (obj l (.loop rec)::a8) (v7 P lo N body l rec J h4 i))
    (pP:∀a8,J xs.length a8→Q .normal an E (own++(a8++Fr)))
    (pQ:∀c i a8,i<xs.length→h4 c i a8→X P B A (some EA) N c an E (own++(a8++Fr)) Q):
    X P B A (some EA) N (.rangeFunc f bV.toArray assign body) an E S Q:=by
  intro a w ap aB
  obtain⟨ax,XA⟩:=aB.mem rk
  have abt:=XA.2
  refine wpIn_rangeFunc ?_
  intro fn _
  have jh:=run_enterLoop_inner (P:=P) (w:=w) abt fn a.tmps bV.toArray assign body
  have g4:=(aB.take aR).new (.loop {state:= .ready,pending:=none,fn,tmps:=a.tmps,params:=bV.toArray,assign,body,defers:=G6.defers})
  generalize G6.defers=ch at jh g4
  obtain⟨fg,rj⟩:∃fg,w.alloc (.loop {state:= .ready,pending:=none,fn,tmps:=a.tmps,params:=bV.toArray,assign,body,defers:=ch})=fg:=⟨_,rfl⟩
  rw [rj]at g4 jh
  generalize w.heap.size=l at g4 jh
  have nv:bB B A ((own++(obj l (.loop {state:= .ready,pending:=none,fn,tmps:=a.tmps,params:=bV.toArray,assign,body,defers:=ch})::([]++aP)))++Fr) fg:=by
    have ab:bB B A ([obj l (.loop {state:= .ready,pending:=none,fn,tmps:=a.tmps,params:=bV.toArray,assign,body,defers:=ch})]++(own++(aP++Fr))) fg:=by simpa using g4
    have af:=ab.mid
    simpa using af
  refine⟨l,[],fg,{target:= .fn (.func cf) cL.toArray,args:= #[.func (.yield l) #[] #[]]},fg,cf, #[.func (.yield l) #[] #[]]++cL.toArray,fg,jh,?_,fun _ _=>trivial,?_,fun _=>by simp_all [Fence.wide],?_⟩
  · simp only [resolve,ap.aX br]
    simp [Deferred.ofValue,Act.eval]
  · simpa [invoke]using he (Value.func (.yield l) #[] #[]::cL).toArray fg
  · have dy:dq N [] E {tmps:=a.tmps,defers:=[]}:=⟨ap.size,rfl,ap.get⟩
    have q7:=ri l (fun i S=>∃cF,S=obj l (.loop {state:= .ready,pending:=none,fn,tmps:=a.tmps,params:=bV.toArray,assign,body,defers:=ch})::([]++cF)∧J i cF)
      (fun i S=>∃c cF,S=obj l (.loop {state:= .done,pending:=some c,fn,tmps:=a.tmps,params:=bV.toArray,assign,body,defers:=ch})::([]++cF)∧h4 c i cF) _ ⟨aP,rfl,bt⟩
      (fun i S ak ⟨cF,eK,nw⟩=>by
        subst eK
        exact xp dy lY hlen ak nw mf)
    have e0:=nv.size
    obtain⟨D,bM,bS,cD,cV,ff,gE⟩:=nv
    obtain⟨hK,l3,bZ,fO,h0,b7⟩:=bM.append
    have m9:=q7 fg hK h0 (fun k aj=>bS k ((bZ k).2 (.inl aj))) e0
    have iD:(Value.func (.yield l) #[] #[]::cL).toArray= #[.func (.yield l) #[] #[]]++cL.toArray:=by simp
    rw [iD]at m9
    refine CallsIn.mono m9 ?_
    rintro e Bs ⟨v,aQ,rfl,aE,et⟩
    have pV:=bB.nO bM bS cD cV ff gE bZ fO b7 et
    have q8:dq N an E {a with defers:=[]++a.defers}:=⟨ap.size,by simp [ap.oF,uf],ap.get⟩
    exact xq (rec:=fun s c=>{state:=s,pending:=c,fn,tmps:=a.tmps,params:=bV.toArray,assign,body,defers:=ch}) (fun s c=>⟨rfl,rfl⟩) (jC:=[]) q8 pV aE (fun a8 h=>pP a8 h) (fun c i a8 ak h=>pQ c i a8 ak h)
end Go.Sl
end
section
namespace Go.Sl
open Go
variable{P:Program}{B:Nat}{A:eD}{r:Option Nat}{N:Nat}{an:List Nat}{E fp:Env}{S aP aQ R jo L F K:List (ao B)}{Q ic:e7 B}{ops:Array Oper}{rest:List Oper}{o:Oper}{cz:Bool}
def lX(ops:Array Oper)(listed:Array Bool):Bool:=(List.range ops.size).all fun j=>!(listed.getD j false)||((ops[j]?).map (·.dst.isSome)).getD true
def vS(ops:Array Oper):Nat→Nat→Nat→Bool
  |0,_,_=>false
  |n+1,j,i=>match ops[j]? with
    |some o=>o.after.toList.any (fun e=>Region.binds .any e&&e.on==i)||o.after.toList.any (fun e=>Region.binds .any e&&vS ops n e.on i)
    |none=>false
def closed(ops:Array Oper)(listed:Array Bool):Bool:=(List.range ops.size).all fun j=>!(listed.getD j false)||((ops[j]?).map (fun o=>o.after.toList.all fun e=>!(Region.binds .any e)||listed.getD e.on false)).getD true
def after(ops:Array Oper)(i:Nat):Bool:=(List.range ops.size).all fun j=>((ops[j]?).map (fun o=>o.dst.isSome||vS ops ops.size j i)).getD true
theorem Jg{listed:Array Bool}(bg:closed ops listed=true):∀(n j i:Nat) (o:Oper),vS ops n j i=true→ops[j]?=some o→(∀e∈o.after,Region.binds .any e=true→listed.getD e.on false=true)→listed.getD i false=true
  |0,_,_,_,h,_,_=>by simp [vS]at h
  |n+1,j,i,o,h,ap,aJ=>by
    simp only [vS,ap,Bool.or_eq_true,List.any_eq_true]at h
    rcases h with⟨e,he,h⟩|⟨e,he,h⟩
    · simp at h
      rw [←h.2];exact aJ e (Array.mem_toList_iff.1 he) h.1
    · simp only [Bool.and_eq_true]at h
      have ab:=aJ e (Array.mem_toList_iff.1 he) h.1
      cases aj:ops[e.on]? with
      |none=>
        have:=h.2
        cases n with
        |zero=>simp [vS]at this
        |succ n=>simp [vS,aj]at this
      |some fU=>
        refine Jg bg n e.on i fU h.2 aj fun tH wC abu=>?_
        have:=List.all_eq_true.1 bg e.on (List.mem_range.2 (Array.getElem?_eq_some_iff.1 aj).1)
        simp only [aj,ab,Option.map_some,Option.getD_some,Bool.not_true,Bool.false_or,List.all_eq_true]at this
        have:=this tH (Array.mem_toList_iff.2 wC)
        simpa [abu]using this
theorem QU{listed:Array Bool}{j:Nat}{o:Oper}(bg:closed ops listed=true)(ap:ops[j]?=some o)(aJ:∀e∈o.after,Region.binds .any e=true→listed.getD e.on false=true):closed ops (listed.setIfInBounds j true)=true:=by
  have up:∀k,listed.getD k false=true→(listed.setIfInBounds j true).getD k false=true:=fun k aj=>by
    by_cases n7:j=k
    · subst n7
      have:j<listed.size:=by
        rcases Nat.lt_or_ge j listed.size with h|h
        · exact h
        · simp [Array.getD,Nat.not_lt.2 h]at aj
      simp [this]
    · rw [getD_set_ne false n7];exact aj
  refine List.all_eq_true.2 fun k aj=>?_
  have:=List.all_eq_true.1 bg k aj
  by_cases n7:j=k
  · subst n7
    simp only [ap,Option.map_some,Option.getD_some,Bool.or_eq_true,List.all_eq_true]
    refine .inr fun e he=>?_
    cases bb:Region.binds .any e with
    |false=>simp
    |true=>simp only [Bool.not_true,Bool.false_eq_true,false_or];exact up _ (aJ e (Array.mem_toList_iff.1 he) bb)
  · rw [getD_set_ne false n7]
    cases DT:listed.getD k false with
    |false=>simp
    |true=>
      rw [DT]at this
      cases kJ:ops[k]? with
      |none=>simp
      |some ok=>
        rw [kJ]at this
        simp only [Option.map_some,Option.getD_some,Bool.not_true,Bool.false_or,List.all_eq_true]at this⊢
        intro e he
        have:=this e he
        cases bb:Region.binds .any e with
        |false=>simp
        |true=>simp [bb]at this;simp only [Bool.not_true,Bool.false_or];exact up _ (by simpa using this)
theorem QV{i j:Nat}{o:Oper}{listed:Array Bool}(bg:closed ops listed=true)(h:after ops i=true)(ap:ops[j]?=some o)(aD:o.dst.isSome=false)(aJ:∀e∈o.after,Region.binds .any e=true→listed.getD e.on false=true):listed.getD i false=true:=by
  have aY:j<ops.size:=(Array.getElem?_eq_some_iff.1 ap).1
  have:=List.all_eq_true.1 h j (List.mem_range.2 aY)
  simp only [ap,Option.map_some,Option.getD_some,aD,Bool.false_or]at this
  exact Jg bg _ _ _ _ this ap aJ
theorem ze{listed:Array Bool}{j:Nat}{o:Oper}(h:lX ops listed=true)(ap:ops[j]?=some o)(aD:o.dst.isSome=true):lX ops (listed.setIfInBounds j true)=true:=by
  refine List.all_eq_true.2 fun k aj=>?_
  by_cases n7:k=j
  · subst n7;simp [ap,aD]
  · have:=List.all_eq_true.1 h k aj
    rw [getD_set_ne false (Ne.symm n7)]
    exact this
def ni(cz:Bool)(Inv:World→Prop)(r:Option Nat)(P:Program)(ops:Array Oper)(Q:Exit→Act→World→Prop):Nat→Array Bool→Act→World→Prop
  |0,listed,a,w=>((cz||lX ops listed)=true→Inv w)∧Region.ready .any ops listed=[]∧Q .normal a w
  |n+1,listed,a,w=>((cz||lX ops listed)=true→Inv w)∧(Region.ready .any ops listed=[]→Q .normal a w)∧
      ∀i∈Region.ready .any ops listed,wpOpIn (l4 r) 0 P ops Q i (ni cz Inv r P ops Q n (listed.setIfInBounds i true)) a w
theorem ni.inv{Inv:World→Prop}{Q:Exit→Act→World→Prop}:∀{n:Nat} {listed:Array Bool} {a:Act} {w:World},ni cz Inv r P ops Q n listed a w→(cz||lX ops listed)=true→Inv w
  |0,_,_,_,h=>h.1
  |_+1,_,_,_,h=>h.1
theorem ni.any{Inv:World→Prop}{Q:Exit→Act→World→Prop}:∀{n:Nat} {listed:Array Bool} {a:Act} {w:World},ni cz Inv r P ops Q n listed a w→wpAnyIn (l4 r) 0 P .any ops Q n listed a w
  |0,_,_,_,h=>h.2
  |n+1,_,_,_,h=>⟨h.2.1,fun i ak=>wpOpIn_mono (fun _ _ h=>ni.any h) (h.2.2 i ak)⟩
def pW(ops:Array Oper):Bool:=ops.all fun o=>match o.op with| .select .. =>false| .defer .. =>false|_=>true
theorem tX(h:pW ops=true){j:Nat}(ap:ops[j]?=some o):(∀c,o.op≠ .defer c)∧∀au b,o.op≠ .select au b:=by
  have:=(Array.all_eq_true_iff_forall_mem.1 h) o (Array.mem_of_getElem? ap)
  constructor
  · rintro c e;rw [e]at this;cases this
  · rintro au b e;rw [e]at this;cases this
def qd(Inv:World→Prop)(P:Program)(ops:Array Oper)(o:Oper)(v:Value)(a:Act):Prop:=
  (Region.wanted o (yielded ops a.tmps)=true∧∀w,Inv w→(execOp a.eval o).run P w= .ok (.value v) w)∨(Region.wanted o (yielded ops a.tmps)=false∧v=undef)
theorem qd.same{Inv:World→Prop}{v:Value}{a ie:Act}(aZ:qd Inv P ops o v a)(he:execOp ie.eval o=execOp a.eval o)(hw:Region.wanted o (yielded ops ie.tmps)=Region.wanted o (yielded ops a.tmps)):qd Inv P ops o v ie:=by
  unfold qd at*
  rw [he,hw]
  exact aZ
theorem qd.op{Inv:World→Prop}{Q:Exit→Act→World→Prop}{v:Value}{a:Act}{w:World}{i:Nat}{K:Act→World→Prop}(qH:∀c,o.op≠ .defer c)(ak:ops[i]?=some o)(aZ:qd Inv P ops o v a)(hw:Inv w)(h:K (a.put o.dst v) w):
    wpOpIn (l4 r) 0 P ops Q i K a w:=by
  unfold wpOpIn
  simp only [ak]
  rcases aZ with⟨ab,af⟩|⟨ab,rfl⟩
  · simp only [ab,if_true,Oper.wpIn]
    refine⟨fun _ _=>trivial,?_⟩
    rw [Oper.semAt_eq _ _ _ qH,af w hw]
    exact h
  · simp only [ab,Bool.false_eq_true,if_false]
    exact⟨fun _ _=>trivial,h⟩
theorem Jn{Inv:World→Prop}{Q:Exit→Act→World→Prop}{j:Nat}{jD ke:Oper}{v:Value}(aY:ops[j]?=some ke)(abv:jD.apart ops ke=true)(iM:(∀c,jD.op≠ .defer c)∧∀au b,jD.op≠ .select au b)(fO:(∀c,ke.op≠ .defer c)∧∀au b,ke.op≠ .select au b)
    (jX:∀c a w,¬Q (.panic c) a w) {K:Act→World→Prop} {a:Act} {w:World} (aZ:qd Inv P ops jD v a) (h:wpOpIn (l4 r) 0 P ops Q j K (a.put jD.dst v) w):
    wpOpIn (l4 r) 0 P ops Q j (fun ie b3=>qd Inv P ops jD v ie∧K (ie.put jD.dst v) b3) a w:=by
  obtain⟨ab,af,az⟩:=Oper.apart_spec abv
  have tb:∀(a:Act),qd Inv P ops jD v a→∀u,qd Inv P ops jD v (a.put ke.dst u):=fun a aZ u=>
    aZ.same (execOp_put jD iM.2 a ke.dst u az) (wanted_put jD a ke.dst u az)
  unfold wpOpIn at*
  simp only [aY]at*
  rw [wanted_put ke a jD.dst v ab]at h
  split
  · rename_i hw
    simp only [hw,if_true]at h
    unfold Oper.wpIn at*
    refine⟨fun _ _=>trivial,?_⟩
    have h:=h.2
    rw [Oper.semAt_eq _ _ _ fO.1,execOp_put ke fO.2 a jD.dst v ab]at h
    rw [Oper.semAt_eq _ _ _ fO.1]
    generalize (execOp a.eval ke).run P w=cG at*
    cases cG with
    |ok x b3=>
      cases x<;>simp only [Oper.uponIn]at h⊢
      case value u=>exact⟨tb a aZ u,by rw [←Act.put_comm a v u af];exact h⟩
      case skip=>exact⟨tb a aZ _,by rw [←Act.put_comm a v undef af];exact h⟩
      case defer d=>
        have XB:qd Inv P ops jD v {a with defers:=d::a.defers}:=aZ.same rfl rfl
        refine⟨tb _ XB _,?_⟩
        rw [←Act.put_comm _ v undef af, ←Act.put_defers]
        exact h
      case enter f args=>
        refine⟨h.1,CallsIn.mono h.2 fun e OT he=>?_⟩
        cases e with
        |returned u=>exact⟨tb a aZ u,by rw [←Act.put_comm a v u af];exact he⟩
        |panicked c=>exact(jX _ _ _ he).elim
        |outgrown=>exact he
      case row row args=>exact⟨h.1,RowsIn.mono h.2 fun u OT he=>⟨tb a aZ u,by rw [←Act.put_comm a v u af];exact he⟩⟩
      case round l f tmps assign body=>
        refine⟨h.1,RoundIn.mono h.2 fun e OT he=>?_⟩
        cases e with
        |returned u=>exact⟨tb a aZ u,by rw [←Act.put_comm a v u af];exact he⟩
        |panicked c=>exact(jX _ _ _ he).elim
        |outgrown=>exact he
    |halt x b3=>
      cases x<;>simp only [Oper.uponIn]at h⊢
      case panic u=>exact(jX _ _ _ h).elim
  · rename_i hw
    simp only [hw]at h
    exact⟨fun _ _=>trivial,tb a aZ _,by rw [←Act.put_comm a v undef af];exact h.2⟩
theorem Js{Inv:World→Prop}{Q:Exit→Act→World→Prop}{i:Nat}{jD:Oper}{v:Value}(ak:ops[i]?=some jD)(AD:jD.dst.isSome=true)(iM:pW ops=true)(jX:∀c a w,¬Q (.panic c) a w):
    ∀(jO:Nat) (listed:Array Bool) (a:Act) (w:World),(cz=true∨(lX ops listed=true∧closed ops listed=true∧after ops i=true))→
      (∀j ke,ops[j]?=some ke→j≠i→listed.getD j true=false→(∀e∈ke.after,Region.binds .any e=true→e.on≠i)→jD.apart ops ke=true)→
      i∈Region.ready .any ops listed→qd Inv P ops jD v a→
      ni cz Inv r P ops Q jO (listed.setIfInBounds i true) (a.put jD.dst v) w→ni cz Inv r P ops Q (jO+1) listed a w:=by
  intro jO
  induction jO with
  |zero=>
    intro listed a w bg vT bk aZ H
    have hinv:Inv w:=H.inv (by rcases bg with rfl|⟨cR,_⟩;rfl;rw [ze cR ak AD];simp)
    refine⟨fun _=>hinv,fun h=>(by rw [h]at bk;cases bk),fun j aY=>?_⟩
    by_cases nx:j=i
    · subst nx;exact aZ.op (tX iM ak).1 ak hinv H
    · have:=ready_mono aY nx
      rw [H.2.1]at this
      cases this
  |succ jO ih=>
    intro listed a w bg vT bk aZ H
    have hinv:Inv w:=H.inv (by rcases bg with rfl|⟨cR,_⟩;rfl;rw [ze cR ak AD];simp)
    refine⟨fun _=>hinv,fun h=>(by rw [h]at bk;cases bk),fun j aY=>?_⟩
    by_cases nx:j=i
    · subst nx;exact aZ.op (tX iM ak).1 ak hinv H
    · have ab:=H.2.2 j (ready_mono aY nx)
      obtain⟨z9,ke,sf,lb⟩:=mem_ready.1 aY
      have G7:∀e∈ke.after,Region.binds .any e=true→e.on≠i:=fun e he bb tt=>by
        have ab:=lb e he bb
        have b0:=(mem_ready.1 bk).1
        rw [tt]at ab
        rcases Nat.lt_or_ge i listed.size with eW|eW
        · simp [eW]at b0 ab;rw [b0]at ab;cases ab
        · simp [Array.getElem?_eq_none eW]at ab
      have af:=Jn sf (vT j ke sf nx z9 G7) (tX iM ak) (tX iM sf) jX aZ ab
      have Gg:∀k ok,ops[k]?=some ok→k≠i→(listed.setIfInBounds j true).getD k true=false→
          (∀e∈ok.after,Region.binds .any e=true→e.on≠i)→jD.apart ops ok=true:=fun k ok aj HI wD cR=>by
        refine vT k ok aj HI ?_ cR
        by_cases n7:j=k
        · subst n7;exact z9
        · rw [getD_set_ne true n7]at wD;exact wD
      have abw:cz=true∨(lX ops (listed.setIfInBounds j true)=true∧closed ops (listed.setIfInBounds j true)=true∧after ops i=true):=by
        rcases bg with bg|⟨cR,hh,HJ⟩
        · exact .inl bg
        have fO:ke.dst.isSome=true:=by
          cases aD:ke.dst.isSome with
          |true=>rfl
          |false=>
            have ab:=QV hh HJ sf aD lb
            have b0:=(mem_ready.1 bk).1
            rcases Nat.lt_or_ge i listed.size with eW|eW
            · simp [eW]at b0 ab;rw [b0]at ab;cases ab
            · simp [Array.getD,Nat.not_lt.2 eW]at ab
        exact .inr ⟨ze cR sf fO,QU hh sf lb,HJ⟩
      refine wpOpIn_mono (fun ie b3 az=>ih (listed.setIfInBounds j true) ie b3 abw Gg (ready_mono bk (Ne.symm nx)) az.1 ?_) af
      rw [Array.setIfInBounds_comm _ _ nx]
      exact az.2
def eE(cz:Bool)(P:Program)(B:Nat)(A:eD)(r:Option Nat)(N:Nat)(ops:Array Oper)(K:List (ao B))(n:Nat)(listed:Array Bool)(an:List Nat)(E:Env)(S:List (ao B))(Q:e7 B):Prop:=
  ∀a w,dq N an E a→bB B A (K++S) w→ni cz (fun w=>∃X,bB B A (K++X) w) r P ops (ta B A N Q) n listed a w
theorem c8{id:Nat}{l:List Oper}(K:List (ao B))(hm:P.follows .mixedOrders=true)(aR:Take K S aP)(h:eE false P B A r N l.toArray K l.length (Array.replicate l.length false) an E aP Q):X P B A r N (.region id l.toArray true) an E S Q:=by
  intro a w ap aB
  refine wpIn_region_any hm ?_
  have:=(h a {w with drawn:=w.drawn+1} ap ((aB.take aR).same rfl rfl rfl rfl)).any
  simpa using this
theorem ki{id:Nat}{l:List Oper}(K:List (ao B))(hm:P.follows .mixedOrders=true)(aR:Take K S aP)(h:eE true P B A r N l.toArray K l.length (Array.replicate l.length false) an E aP Q):X P B A r N (.region id l.toArray true) an E S Q:=by
  intro a w ap aB
  refine wpIn_region_any hm ?_
  have:=(h a {w with drawn:=w.drawn+1} ap ((aB.take aR).same rfl rfl rfl rfl)).any
  simpa using this
theorem K9{n:Nat}{listed:Array Bool}(bk:Region.ready .any ops listed=[])(h:Q .normal an E (K++S)):eE cz P B A r N ops K n listed an E S Q:=by
  intro a w ap aB
  cases n with
  |zero=>exact⟨fun _=>⟨S,aB⟩,bk,an,E,_,ap,aB,h⟩
  |succ n=>exact⟨fun _=>⟨S,aB⟩,fun _=>⟨an,E,_,ap,aB,h⟩,by rw [bk];simp⟩
theorem LY{n d:Nat}{listed:Array Bool}{op:Op}{bd:TypeId}{pos:String}{a3:Array Edge}{g:Option (Nat×Bool)}{v:Value}(i:Nat)(ak:ops[i]?=some ⟨some d,op,bd,pos,a3,g⟩)(iM:pW ops=true)(cR:(cz||(lX ops listed&&closed ops listed&&after ops i))=true)
    (br:Region.free .any ops listed i=true) (bk:(Region.ready .any ops listed).contains i=true) (jX:∀c an E S,¬Q (.panic c) an E S) (hw:Want ops N E g) (aE:dp P B A N an E K op v) (aD:Nat.blt d N=true)
    (h:eE cz P B A r N ops K n (listed.setIfInBounds i true) an ((d,v)::E) S Q):eE cz P B A r N ops K (n+1) listed an E S Q:=by
  intro a w ap aB
  simp only [Bool.or_eq_true,Bool.and_eq_true,and_assoc]at cR
  refine Js ak rfl iM (fun c a w ⟨an,E,S,_,_,q⟩=>jX c an E S q) n listed a w cR (Region.free_spec ak br) (by simpa using bk) (.inl ⟨Want.wanted (o:=⟨some d,op,bd,pos,a3,g⟩) hw ap,fun w ⟨X,adv⟩=>aE.fu.2.2 a w bd pos a3 g (some d) ap adv⟩) ?_
  exact h _ w (ap.put (by simpa using aD)) aB
theorem vB{n t:Nat}{listed:Array Bool}{b:Bool}(aR:E.get t=some (.bool b))(ab:b=true→eE cz P B A r N ops K n listed an ((t,.bool true)::E) S Q)(af:b=false→eE cz P B A r N ops K n listed an ((t,.bool false)::E) S Q):
    eE cz P B A r N ops K n listed an E S Q:=by
  intro a w ap aB
  have key:∀hs,b=hs→dq N an ((t,.bool hs)::E) a:=fun hs e=>⟨ap.size,ap.oF,fun u v hu=>by
    simp only [Env.get]at hu
    cases bb:Nat.beq u t with
    |true=>rw [bb]at hu;simp at hu;subst hu;rw [Nat.eq_of_beq_eq_true bb];rw [←e];exact ap.get _ _ aR
    |false=>rw [bb]at hu;exact ap.get _ _ hu⟩
  cases bb:b with
  |true=>exact ab bb a w (key _ bb) aB
  |false=>exact af bb a w (key _ bb) aB
theorem ni.ZG{I adw:World→Prop}{ic:Exit→Act→World→Prop}(n:Nat):∀(listed:Array Bool) (a:Act) (w:World),lX ops listed=false→ni false I r P ops ic n listed a w→ni false adw r P ops ic n listed a w:=by
  have tb:∀(listed:Array Bool) (i:Nat),lX ops listed=false→lX ops (listed.setIfInBounds i true)=false:=by
    intro listed i h
    cases eW:lX ops (listed.setIfInBounds i true)with
    |false=>rfl
    |true=>
      rw [←h]
      symm
      refine List.all_eq_true.2 fun k aj=>?_
      have:=List.all_eq_true.1 eW k aj
      by_cases wE:k=i
      · subst wE
        by_cases aJ:k<listed.size
        · simp [aJ]at this
          cases aD:(Option.map (fun o:Oper=>o.dst.isSome) ops[k]?).getD true<;>simp_all
        · simp [Array.getD,aJ]
      · rw [getD_set_ne false (Ne.symm wE)]at this;exact this
  induction n with
  |zero=>intro listed a w a7 h;exact⟨fun eW=>(by simp [a7]at eW),h.2⟩
  |succ n ih=>intro listed a w a7 h;exact⟨fun eW=>(by simp [a7]at eW),h.2.1,fun i ak=>wpOpIn_mono (fun ie b3 eW=>ih _ ie b3 (tb _ _ a7) eW) (h.2.2 i ak)⟩
theorem R3{n:Nat}{listed:Array Bool}(cR:lX ops listed=false)(h:eE false P B A r N ops [] n listed an E S Q):∀a w,dq N an E a→bB B A S w→ni false (fun w=>∃X,bB B A (K++X) w) r P ops (ta B A N Q) n listed a w:=by
  intro a w ap aB
  exact ni.ZG n listed a w cR (h a w ap aB)
def jc(cz:Bool)(P:Program)(B:Nat)(A:eD)(r:Option Nat)(N:Nat)(ops:Array Oper)(K:List (ao B))(n:Nat)(listed:Array Bool)(i:Nat)(an:List Nat)(E:Env)(S:List (ao B))(Q:e7 B):Prop:=
  ∀a w,dq N an E a→bB B A (K++S) w→wpOpIn (l4 r) 0 P ops (ta B A N Q) i (ni cz (fun w=>∃X,bB B A (K++X) w) r P ops (ta B A N Q) n (listed.setIfInBounds i true)) a w
theorem LZ{n:Nat}{listed:Array Bool}(IL:List Nat)(bk:Region.ready .any ops listed=IL)(kI:(!IL.isEmpty)=true)(h:∀i∈IL,jc cz P B A r N ops K n listed i an E S Q):eE cz P B A r N ops K (n+1) listed an E S Q:=by
  intro a w ap aB
  refine⟨fun _=>⟨S,aB⟩,fun b0=>?_,fun i ak=>h i (bk▸ak) a w ap aB⟩
  rw [bk]at b0;subst b0;cases kI
theorem zy{n:Nat}{listed:Array Bool}(i:Nat)(bk:Region.ready .any ops listed=[i])(h:jc cz P B A r N ops K n listed i an E S Q):eE cz P B A r N ops K (n+1) listed an E S Q:=
  LZ [i] bk rfl (fun j aY=>by simp at aY;subst aY;exact h)
theorem ju{n:Nat}{listed:Array Bool}(i j:Nat)(bk:Region.ready .any ops listed=[i,j])(ab:jc cz P B A r N ops K n listed i an E S Q)(af:jc cz P B A r N ops K n listed j an E S Q):eE cz P B A r N ops K (n+1) listed an E S Q:=
  LZ [i,j] bk rfl (fun k aj=>by
    have mU:k=i∨k=j:=by simpa using aj
    rcases mU with e|e
    · rw [e];exact ab
    · rw [e];exact af)
theorem zT{α:Type}{n d:Nat}{listed:Array Bool}{op:Op}{bd:TypeId}{pos:String}{a3:Array Edge}{g:Option (Nat×Bool)}{i:Nat}(v:α→Value)(a8:α→List (ao B))(p:α→Prop)(ak:ops[i]?=some ⟨some d,op,bd,pos,a3,g⟩)(hw:Want ops N E g)(qH:∀c,op≠ .defer c)(aD:Nat.blt d N=true)
    (hG:∀a w,dq N an E a→bB B A (K++S) w→∃x b3,(execOp a.eval ⟨some d,op,bd,pos,a3,g⟩).run P w= .ok (.value (v x)) b3∧bB B A (K++a8 x) b3∧p x)
    (h:∀x,p x→eE cz P B A r N ops K n (listed.setIfInBounds i true) an ((d,v x)::E) (a8 x) Q):jc cz P B A r N ops K n listed i an E S Q:=by
  intro a w ap aB
  obtain⟨x,b3,ab,af,az⟩:=hG a w ap aB
  unfold wpOpIn
  simp only [ak]
  rw [if_pos (Want.wanted (o:=⟨some d,op,bd,pos,a3,g⟩) hw ap)]
  refine⟨fun _ _=>trivial,?_⟩
  rw [Oper.semAt_eq _ _ _ qH,ab]
  exact h x az _ b3 (ap.put (by simpa using aD)) af
theorem Vn{n:Nat}{listed:Array Bool}{op:Op}{bd:TypeId}{pos:String}{a3:Array Edge}{g:Option (Nat×Bool)}{i:Nat}{a8:List (ao B)}(ak:ops[i]?=some ⟨none,op,bd,pos,a3,g⟩)(hw:Want ops N E g)(qH:∀c,op≠ .defer c)
    (hG:∀a w,dq N an E a→bB B A (K++S) w→∃b3,(execOp a.eval ⟨none,op,bd,pos,a3,g⟩).run P w= .ok .skip b3∧bB B A (K++a8) b3)
    (h:eE cz P B A r N ops K n (listed.setIfInBounds i true) an E a8 Q):jc cz P B A r N ops K n listed i an E S Q:=by
  intro a w ap aB
  obtain⟨b3,ab,af⟩:=hG a w ap aB
  unfold wpOpIn
  simp only [ak]
  rw [if_pos (Want.wanted (o:=⟨none,op,bd,pos,a3,g⟩) hw ap)]
  refine⟨fun _ _=>trivial,?_⟩
  rw [Oper.semAt_eq _ _ _ qH,ab]
  exact h _ b3 ap af
theorem La{n d:Nat}{listed:Array Bool}{bd:TypeId}{pos:String}{a3:Array Edge}{g:Option (Nat×Bool)}{i:Nat}{f:FuncId}{xs:List Operand}{args:List Value}{di:Array TypeId}{pre F:List (ao B)}{post:Value→List (ao B)→Prop}
    (ak:ops[i]?=some ⟨some d,.call {callee:= .value (.func f),args:=xs.toArray,argTypes:=di},bd,pos,a3,g⟩) (hw:Want ops N E g) (he:Go.Proofs.Enters P f) (aO:gC E xs=some args) (br:dQ P B f args pre post) (aR:Take pre (K++S) F) (aD:Nat.blt d N=true)
    (h:∀v a8,post v a8→∃aQ,(∃R,Take (K++aQ) (a8++F) R)∧eE cz P B A r N ops K n (listed.setIfInBounds i true) an ((d,v)::E) aQ Q):jc cz P B A r N ops K n listed i an E S Q:=by
  intro a w ap aB
  unfold wpOpIn
  simp only [ak]
  rw [if_pos (Want.wanted (o:=⟨some d,.call {callee:= .value (.func f),args:=xs.toArray,argTypes:=di},bd,pos,a3,g⟩) hw ap)]
  refine⟨fun _ _=>trivial,?_⟩
  have iD:=ap.gC aO
  rw [Oper.semAt_eq _ _ _ (by simp)]
  have hG:(execOp a.eval ⟨some d,.call {callee:= .value (.func f),args:=xs.toArray,argTypes:=di},bd,pos,a3,g⟩).run P w= .ok (.enter f args.toArray) w:=by
    simp [execOp,resolve,Act.eval,Deferred.ofValue,invoke,iD,he args.toArray w]
  rw [hG]
  have e0:=aB.size
  obtain⟨D,bM,bS,cD,cV,ff,gE⟩:=aB.take aR
  obtain⟨hK,l3,bZ,fO,h0,b7⟩:=bM.append
  refine⟨by simp [Fence.wide],?_⟩
  refine CallsIn.mono (br w hK h0 (fun k aj=>bS k ((bZ k).2 (.inl aj))) e0) ?_
  rintro e b3 ⟨v,a8,rfl,aE,et⟩
  obtain⟨aQ,⟨R,t2⟩,av⟩:=h v a8 aE
  exact av _ b3 (ap.put (by simpa using aD)) ((bB.nO bM bS cD cV ff gE bZ fO b7 et).mm t2)
theorem R4{n d:Nat}{listed:Array Bool}{bd:TypeId}{pos:String}{a3:Array Edge}{g:Option (Nat×Bool)}{i:Nat}{f:FuncId}{xs:List Operand}{args:List Value}{di:Array TypeId}{u:Value}
    (ak:ops[i]?=some ⟨some d,.call {callee:= .value (.func f),args:=xs.toArray,argTypes:=di},bd,pos,a3,g⟩) (hw:Want ops N E g) (he:Go.Proofs.Enters P f) (aO:gC E xs=some args) (br:dQ P B f args [] (fun v S=>v=u∧S=[])) (aD:Nat.blt d N=true)
    (h:eE cz P B A r N ops K n (listed.setIfInBounds i true) an ((d,u)::E) S Q):jc cz P B A r N ops K n listed i an E S Q:=
  La ak hw he aO br (.nil _) aD (fun v a8 ⟨ck,eK⟩=>by subst ck eK;exact⟨S,⟨[],Take.self _⟩,h⟩)
theorem R5{n d:Nat}{listed:Array Bool}{bd:TypeId}{pos:String}{a3:Array Edge}{g:Option (Nat×Bool)}{i:Nat}{f:FuncId}{xs:List Operand}{args:List Value}{di:Array TypeId}{pre F:List (ao B)}{α:Type}{u:α→Value}{T:α→List (ao B)}{p:α→Prop}{Z:List (ao B)}
    (ak:ops[i]?=some ⟨some d,.call {callee:= .value (.func f),args:=xs.toArray,argTypes:=di},bd,pos,a3,g⟩) (hw:Want ops N E g) (he:Go.Proofs.Enters P f) (aO:gC E xs=some args) (ig:gJ K S Z) (br:dQ P B f args pre (fun v S=>∃x,p x∧v=u x∧S=T x++pre)) (aR:Take pre Z F) (aD:Nat.blt d N=true)
    (h:∀x,p x→eE cz P B A r N ops K n (listed.setIfInBounds i true) an ((d,u x)::E) (T x++S) Q):jc cz P B A r N ops K n listed i an E S Q:=by
  intro a w ap aB
  unfold wpOpIn
  simp only [ak]
  rw [if_pos (Want.wanted (o:=⟨some d,.call {callee:= .value (.func f),args:=xs.toArray,argTypes:=di},bd,pos,a3,g⟩) hw ap)]
  refine⟨fun _ _=>trivial,?_⟩
  have iD:=ap.gC aO
  rw [Oper.semAt_eq _ _ _ (by simp)]
  have hG:(execOp a.eval ⟨some d,.call {callee:= .value (.func f),args:=xs.toArray,argTypes:=di},bd,pos,a3,g⟩).run P w= .ok (.enter f args.toArray) w:=by
    simp [execOp,resolve,Act.eval,Deferred.ofValue,invoke,iD,he args.toArray w]
  rw [hG]
  have e0:=aB.size
  have iJ:bB B A Z w:=by rw [←ig.eq];exact aB
  obtain⟨D,bM,bS,cD,cV,ff,gE⟩:=iJ.take aR
  obtain⟨hK,l3,bZ,fO,h0,b7⟩:=bM.append
  refine⟨by simp [Fence.wide],?_⟩
  refine CallsIn.mono (br w hK h0 (fun k aj=>bS k ((bZ k).2 (.inl aj))) e0) ?_
  rintro e b3 ⟨v,a8,rfl,⟨x,aE,rfl,rfl⟩,et⟩
  have ab:=bB.nO bM bS cD cV ff gE bZ fO b7 et
  rw [List.append_assoc]at ab
  have af:bB B A (T x++(K++S)) b3:=by
    obtain⟨qb,eR,cB⟩:=ab
    obtain⟨Bn,IG,ZH,ZI,w6,tI⟩:=eR.append
    exact⟨qb,dR.join ZH ZI w6 (by rw [ig.eq];exact aR.back tI),cB⟩
  exact h x aE _ b3 (ap.put (by simpa using aD)) af.mid
theorem jt{n d t i:Nat}{listed:Array Bool}{bd:TypeId}{pos:String}{a3:Array Edge}{g:Option (Nat×Bool)}{au:List Value}(ak:ops[i]?=some ⟨some d,.alloc t,bd,pos,a3,g⟩)(hw:Want ops N E g)(cq:zeroOf P t=some au)(aD:Nat.blt d N=true)
    (h:∀b,eE cz P B A r N ops K n (listed.setIfInBounds i true) an ((d,.pointer (some ⟨b,0,none⟩))::E) (aa b au t::S) Q):jc cz P B A r N ops K n listed i an E S Q:=
  zT (α:=Nat) (fun b=> .pointer (some ⟨b,0,none⟩)) (fun b=>aa b au t::S) (fun _=>True) ak hw (by simp) aD (fun a w ap aB=>by
    unfold zeroOf at cq
    split at cq
    · rename_i i ak
      split at cq
      · rename_i z wx
        simp at cq
        refine⟨w.heap.size,w.alloc (.cells z.cells t),?_,?_,trivial⟩
        · simp [execOp,Instr.alloc,zeroValue,typeInfo,ak,wx,BX]
        · have:=aB.new (.cells z.cells t)
          subst cq
          exact bB.mid (hj:=[_]) (by simpa using this)
      · cases cq
    · cases cq) (fun b _=>h b)
theorem L0{n d t i:Nat}{listed:Array Bool}{bd:TypeId}{pos:String}{a3:Array Edge}{g:Option (Nat×Bool)}{au:List Value}{x:Operand}{v:Value}(ak:ops[i]?=some ⟨some d,.box t x,bd,pos,a3,g⟩)(hw:Want ops N E g)(av:aX E x=some v)(bg:v.cells=au.toArray)(aD:Nat.blt d N=true)
    (h:∀b,eE cz P B A r N ops K n (listed.setIfInBounds i true) an ((d,.pointer (some ⟨b,0,none⟩))::E) (aa b au t::S) Q):jc cz P B A r N ops K n listed i an E S Q:=
  zT (α:=Nat) (fun b=> .pointer (some ⟨b,0,none⟩)) (fun b=>aa b au t::S) (fun _=>True) ak hw (by simp) aD (fun a w ap aB=>by
    refine⟨w.heap.size,w.alloc (.cells au.toArray t),?_,bB.mid (hj:=[_]) (aB.new _),trivial⟩
    simp [execOp,Instr.box,ap.aX av,BX,bg]) (fun b _=>h b)
theorem Kd{n d:Nat}{listed:Array Bool}{bd:TypeId}{pos:String}{a3:Array Edge}{g:Option (Nat×Bool)}{i:Nat}{f:FuncId}{xs:List Operand}{args:List Value}{di:Array TypeId}{pre F:List (ao B)}{u:Value}{Z:List (ao B)}
    (ak:ops[i]?=some ⟨some d,.call {callee:= .value (.func f),args:=xs.toArray,argTypes:=di},bd,pos,a3,g⟩) (hw:Want ops N E g) (he:Go.Proofs.Enters P f) (aO:gC E xs=some args) (ig:gJ K S Z) (br:dQ P B f args pre (fun v S=>v=u∧S=pre)) (aR:Take pre Z F) (aD:Nat.blt d N=true)
    (h:eE cz P B A r N ops K n (listed.setIfInBounds i true) an ((d,u)::E) S Q):jc cz P B A r N ops K n listed i an E S Q:=
  R5 (α:=Unit) (u:=fun _=>u) (T:=fun _=>[]) (p:=fun _=>True) ak hw he aO ig (br.mono (fun v S ⟨ab,af⟩=>⟨(),trivial,ab,af⟩)) aR aD (fun _ _=>h)
theorem L1{n i:Nat}{listed:Array Bool}{op:Op}{bd:TypeId}{pos:String}{a3:Array Edge}{g:Option (Nat×Bool)}{T a8:List (ao B)}(ak:ops[i]?=some ⟨none,op,bd,pos,a3,g⟩)(hw:Want ops N E g)(gO:gJ K S T)(br:oW P B A N an E T op a8)
    (cR:lX ops (listed.setIfInBounds i true)=false) (h:eE false P B A r N ops [] n (listed.setIfInBounds i true) an E a8 Q):jc false P B A r N ops K n listed i an E S Q:=by
  intro a w ap aB
  rw [gO.eq]at aB
  obtain⟨b3,ab,af⟩:=br.2 a w bd pos a3 g ap aB
  unfold wpOpIn
  simp only [ak]
  rw [if_pos (Want.wanted (o:=⟨none,op,bd,pos,a3,g⟩) hw ap)]
  refine⟨fun _ _=>trivial,?_⟩
  rw [Oper.semAt_eq _ _ _ br.1,ab]
  have key:=R3 (K:=K) cR h
  exact key a b3 ap af
theorem mg{n i:Nat}{listed:Array Bool}{op:Op}{bd:TypeId}{pos:String}{a3:Array Edge}{g:Option (Nat×Bool)}{T Qg a8:List (ao B)}(ak:ops[i]?=some ⟨none,op,bd,pos,a3,g⟩)(hw:Want ops N E g)(gO:gJ K S T)(br:oW P B A N an E T op Qg)(aR:Take K Qg a8)
    (h:eE cz P B A r N ops K n (listed.setIfInBounds i true) an E a8 Q):jc cz P B A r N ops K n listed i an E S Q:=
  Vn ak hw br.1 (fun a w ap aB=>by
    rw [gO.eq]at aB
    obtain⟨b3,ab,af⟩:=br.2 a w bd pos a3 g ap aB
    exact⟨b3,ab,af.take aR⟩) h
end Go.Sl
end
section
namespace Go.Sl
open Go Go.ChangeShapes Go.WideShapes Go.ChangeAt Go.RowKit
variable{P:Program}{B:Nat}{A:eD}{N:Nat}{an:List Nat}{E:Env}{S R:List (ao B)}
structure ai(α:Type) where
  b1:Option Addr
  c:Nat
  l:List α
  nil:b1=none→l=[]
  small:l.length≤9223372036854775807
  cap:l.length≤c
def ai.bl{α:Type}(x:ai α):Addr:=x.b1.getD ⟨0,0,none⟩
abbrev ai.n{α:Type}(x:ai α):Nat:=x.l.length
theorem ai.en{α:Type}(x:ai α):x.b1=none→x.n=0:=fun h=>by simp [ai.n,x.nil h]
theorem pL{α:Type}{aW:α→List Value}{aH:Nat}(he:∀a,(aW a).length=aH):∀(l:List α),(l.flatMap aW).length=l.length*aH
  |[]=>by simp
  |a::l=>by rw [List.flatMap_cons,List.length_append,he,pL he l,List.length_cons,Nat.succ_mul,Nat.add_comm]
theorem Fh{α:Type}{aW:α→List Value}{aH:Nat}(he:∀a,(aW a).length=aH):∀(l:List α) (i:Nat) (k:Nat) (a:α),l[i]?=some a→k<aH→(l.flatMap aW)[i*aH+k]?=(aW a)[k]?
  |[],_,_,_,h,_=>by simp at h
  |b::l,0,k,a,h,aj=>by
    simp at h;subst h
    rw [List.flatMap_cons,Nat.zero_mul,Nat.zero_add,List.getElem?_append_left (by rw [he];exact aj)]
  |b::l,i+1,k,a,h,aj=>by
    rw [List.flatMap_cons,List.getElem?_append_right (by rw [he,Nat.succ_mul];omega),he]
    rw [show(i+1)*aH+k-aH=i*aH+k by rw [Nat.succ_mul];omega]
    exact Fh he l i k a (by simpa using h) aj
theorem ER{α:Type}{aW:α→List Value}{aH:Nat}(he:∀a,(aW a).length=aH):∀(l:List α) (i:Nat) (a:α),l[i]?=some a→((l.flatMap aW).drop (i*aH)).take aH=aW a
  |[],_,_,h=>by simp at h
  |b::l,0,a,h=>by
    simp at h;subst h
    rw [List.flatMap_cons,Nat.zero_mul,List.drop_zero,List.take_append_of_le_length (by rw [he];exact Nat.le_refl _), ←he b,List.take_length]
  |b::l,i+1,a,h=>by
    rw [List.flatMap_cons,Nat.succ_mul,Nat.add_comm, ←List.drop_drop]
    conv=>lhs;rw [←he b]
    rw [List.drop_left,he b]
    exact ER he l i a (by simpa using h)
section
variable[lW]
theorem eO{α:Type}{aW:α→List Value}{aH:Nat}(he:∀a,(aW a).length=aH){K:ao B}{bl:Addr}{l:List α}{t i k:Nat}{a:α}{x:Operand}{v:Value}(av:aX E x=some (.pointer (some (bl.add (i*aH+k)))))(ey:Out K S R)(bk:c1 K bl (l.flatMap aW))(aR:cx P t=some (false,1))
    (ak:l[i]?=some a) (ck:(aW a)[k]?=some v):dp P B A N an E S (.load t x) v:=
  G4 av ey bk aR (by rw [Fh he l i k a ak (by have:=(List.getElem?_eq_some_iff.1 ck).1;rw [he]at this;exact this)];exact ck)
theorem hN{α:Type}{aW:α→List Value}{aH:Nat}(he:∀a,(aW a).length=aH){K:ao B}{bl:Addr}{l:List α}{t i:Nat}{a:α}{x:Operand}(av:aX E x=some (.pointer (some (bl.add (i*aH)))))(ey:Out K S R)(bk:c1 K bl (l.flatMap aW))(aR:cx P t=some (true,aH))
    (ak:l[i]?=some a):dp P B A N an E S (.load t x) (.agg (aW a).toArray):=
  GG av ey bk aR (Nat.ble_eq_true_of_le (by
    have:=(List.getElem?_eq_some_iff.1 ak).1
    rw [pL he, ←Nat.succ_mul];exact Nat.mul_le_mul_right _ this)) (ER he l i a ak)
end
def kF:List (Option IntKind)→List Value→Bool
  |[],[]=>true
  |none::cP,.bool _::bx=>kF cP bx
  |some k::cP,.int gF m::bx=>k==gF&&(Lit.int k m).wf&&kF cP bx
  |_,_=>false
theorem BS:∀{cP se:List (Option IntKind)} {xs cO:List Value},kF cP xs=true→kF se cO=true→kF (cP++se) (xs++cO)=true
  |[],_,[],_,_,h=>h
  |[],_,_::_,_,h,_=>by simp [kF]at h
  |none::cP,se,v::xs,cO,h,eW=>by cases v<;>simp [kF]at h⊢;exact BS h eW
  |some k::cP,se,v::xs,cO,h,eW=>by cases v<;>simp [kF]at h⊢;exact⟨h.1,BS h.2 eW⟩
  |none::cP,_,[],_,h,_=>by simp [kF]at h
  |some k::cP,_,[],_,h,_=>by simp [kF]at h
def qz(e:Nat→Int):Nat→List (Option IntKind)→List Value
  |_,[]=>[]
  |i,none::cP=> .bool (e i==1)::qz e (i+1) cP
  |i,some k::cP=> .int k (e i)::qz e (i+1) cP
def tc(e:Nat→Int):Nat→List (Option IntKind)→Prop
  |_,[]=>True
  |i,none::cP=>tc e (i+1) cP
  |i,some k::cP=>(Lit.int k (e i)).wf=true∧tc e (i+1) cP
theorem Cc{e tH:Nat→Int}:∀{cP:List (Option IntKind)} {i:Nat},(∀j,i≤j→e j=tH j)→qz e i cP=qz tH i cP∧(tc e i cP↔tc tH i cP)
  |[],_,_=>⟨rfl,Iff.rfl⟩
  |none::cP,i,h=>by
    have:=Cc (cP:=cP) (i:=i+1) (fun j aY=>h j (by omega))
    exact⟨by simp only [qz,h i (Nat.le_refl _),this.1],by simp only [tc,this.2]⟩
  |some k::cP,i,h=>by
    have:=Cc (cP:=cP) (i:=i+1) (fun j aY=>h j (by omega))
    exact⟨by simp only [qz,h i (Nat.le_refl _),this.1],by simp only [tc,h i (Nat.le_refl _),this.2]⟩
theorem E0:∀{cP:List (Option IntKind)} {xs:List Value} (i:Nat),kF cP xs=true→∃e,xs=qz e i cP∧tc e i cP
  |[],[],i,_=>⟨fun _=>0,rfl,trivial⟩
  |[],_::_,_,h=>by simp [kF]at h
  |none::cP,v::xs,i,h=>by
    cases v<;>simp [kF]at h
    rename_i b
    obtain⟨e,ab,af⟩:=E0 (i+1) h
    have key:=Cc (e:=e) (tH:=fun j=>if j=i then(if b then 1 else 0)else e j) (cP:=cP) (i:=i+1) (fun j aY=>by rw [if_neg (by omega)])
    refine⟨fun j=>if j=i then(if b then 1 else 0)else e j,?_,?_⟩
    · simp only [qz,if_true,ab,key.1];cases b<;>rfl
    · exact key.2.1 af
  |some k::cP,v::xs,i,h=>by
    cases v<;>simp [kF]at h
    rename_i gF m
    obtain⟨⟨rfl,hw⟩,h⟩:=h
    obtain⟨e,ab,af⟩:=E0 (i+1) h
    have key:=Cc (e:=e) (tH:=fun j=>if j=i then m else e j) (cP:=cP) (i:=i+1) (fun j aY=>by rw [if_neg (by omega)])
    refine⟨fun j=>if j=i then m else e j,?_,?_⟩
    · simp only [qz,if_true,ab,key.1]
    · refine⟨by simpa using hw,key.2.1 af⟩
  |none::cP,[],_,h=>by simp [kF]at h
  |some k::cP,[],_,h=>by simp [kF]at h
variable{H:Type}{aW:TypeId×Value→H}{W:World}{base:Nat}{spare:Nat→Bool}{held:Bool}
theorem y4{t:TypeId}{i:TypeInfo}(h:P.info? t=some i):P.cellsOf t=i.size:=by simp [Program.cellsOf,h]
theorem QW{rec:TypeId→Option (List (Option IntKind))}{au:List Value}:∀(fC:List Field) (off:Nat) (cP:List (Option IntKind)),rL P rec off fC=some cP→off+cP.length=au.length→
    (∀f∈fC,∀l,rec f.type=some l→kF l ((au.drop f.offset).take (P.cellsOf f.type))=true)→kF cP (au.drop off)=true:=by
  intro fC
  induction fC with
  |nil=>intro off cP h aJ _;simp [rL]at h;subst h;simp at aJ;subst aJ;simp [kF]
  |cons f fC ih=>
    intro off cP h aJ br
    simp only [rL]at h
    split at h
    · rename_i l i ab af
      split at h
      · rename_i bg
        split at h
        · rename_i sy az
          simp at h;subst h
          have aO:=br f (by simp) l ab
          rw [bg.2.1,y4 af,bg.2.2]at aO
          have bb:=ih (off+l.length) sy az (by simp at aJ;omega) (fun g bh=>br g (by simp [bh]))
          have e:au.drop off=(au.drop off).take l.length++au.drop (off+l.length):=by rw [←List.drop_drop,List.take_append_drop]
          rw [e]
          exact BS aO bb
        · cases h
      · cases h
    · cases h
theorem Rm{l:List (Option IntKind)}{au:List Value}:∀(n off:Nat),off+n*l.length=au.length→(∀i,i<n→kF l ((au.drop (off+i*l.length)).take l.length)=true)→
    kF (List.replicate n l).flatten (au.drop off)=true:=by
  intro n
  induction n with
  |zero=>intro off aJ _;simp at aJ;subst aJ;simp [kF]
  |succ n ih=>
    intro off aJ h
    have aO:=h 0 (by omega)
    have bb:=ih (off+l.length) (by rw [Nat.succ_mul]at aJ;omega) (fun i ak=>by have:=h (i+1) (by omega);rw [Nat.succ_mul]at this;rw [show off+l.length+i*l.length=off+(i*l.length+l.length)by omega];exact this)
    have e:au.drop off=(au.drop off).take l.length++au.drop (off+l.length):=by rw [←List.drop_drop,List.take_append_drop]
    rw [e,List.replicate_succ,List.flatten_cons]
    exact BS (by simpa using aO) bb
theorem QM:∀(d:Nat) {t:TypeId} {cP:List (Option IntKind)},kR P d t=some cP→(∃i,P.info? t=some i∧i.size=cP.length)→∀{jO:Nat} {au:List Value} {x:DataW H×List MemPlace},DataW.trod aW P W base spare held jO t au=some x→kF cP au=true:=by
  intro d
  induction d with
  |zero=>intro t cP h;simp [kR]at h
  |succ d ih=>
    intro t cP h ak jO au x av
    obtain⟨inf,kV,e0⟩:=ak
    unfold kR at h
    split at h
    · rename_i hu
      simp at h;subst h
      obtain⟨b,rfl,_⟩:=DataW.trod_bool hu av
      rfl
    · rename_i k hu
      simp at h;subst h
      obtain⟨n,rfl,_,hw⟩:=DataW.trod_int hu av
      simp [kF,hw]
    · rename_i fC hu
      split at h
      · cases h
      · obtain⟨xs,n,_,_,aJ,hlen,br⟩:=DataW.trod_struct hu av
        have:=QW (P:=P) (au:=au) fC.toList 0 cP h (by rw [aJ,y4 kV];omega) (fun f OU l jA=>by
          obtain⟨i,ak,he⟩:=List.getElem_of_mem OU
          have ab:=br i f (by rw [←he];simp at ak;simp [ak])
          have af:xs[i]?≠none:=by simp at ak;simp [hlen,ak]
          cases az:xs[i]? with
          |none=>exact absurd az af
          |some y=>
            rw [az]at ab
            obtain⟨OV,yo⟩:=EN jA
            obtain⟨v8,XC,iJ⟩:∃v8,P.info? f.type=some v8∧v8.size=l.length:=by
              clear ih av br ab
              have key:∀(gs:List Field) (off:Nat) (cP:List (Option IntKind)),rL P (kR P d) off gs=some cP→f∈gs→∃v8,P.info? f.type=some v8∧v8.size=l.length:=by
                intro gs
                induction gs with
                |nil=>intro _ _ _ h;cases h
                |cons g gs abx=>
                  intro off cP h hm
                  simp only [rL]at h
                  split at h
                  · rename_i EA i0 ab af
                    split at h
                    · rename_i bg
                      split at h
                      · rename_i sy az
                        rcases List.mem_cons.1 hm with rfl|hm
                        · rw [jA]at ab;simp at ab;subst ab;exact⟨i0,af,bg.2.2⟩
                        · exact abx _ _ az hm
                      · cases h
                    · cases h
                  · cases h
              exact key fC.toList 0 cP h OU
            exact ih jA ⟨v8,XC,iJ⟩ ab)
        simpa using this
    · rename_i n e hu
      split at h
      · rename_i l i aJ uY
        split at h
        · rename_i bg
          simp at h;subst h
          obtain⟨xs,m,_,_,hlen,iL,br⟩:=DataW.trod_array hu av
          have:=Rm (l:=l) (au:=au) n 0 (by rw [hlen,y4 kV,e0];simp) (fun j aY=>by
            have ab:=br j aY
            rw [y4 uY,bg]at ab
            have af:j<xs.length:=by omega
            rw [List.getElem?_eq_getElem af]at ab
            simpa using ih aJ ⟨i,uY,bg⟩ ab)
          simpa using this
        · cases h
      · cases h
    · cases h
theorem ai.Co{α:Type}{oG:α→List Value}{ok:α→Prop}{t e aH:Nat}{jO:Nat}{au:List Value}{x:DataW H×List MemPlace}(aR:hz P t=some (e,aH))(e0:0<aH)(av:DataW.trod aW P W 0 spare held jO t au=some x)
    (dec:∀n au x,DataW.trod aW P W 0 spare held n e au=some x→∃a,au=oG a∧ok a):
    ∃a:ai α,au=[.slice a.b1 a.n a.c]∧(∀y∈a.l,ok y)∧c1 (uX (B:=W.heap.size) W) a.bl (a.l.flatMap oG):=by
  obtain⟨inf,hu,kV,aB⟩:=xn aR
  have hi:P.cellsOf e=aH:=by rw [y4 kV,aB]
  rcases Deep.open_slice hu av with⟨rfl,_⟩|⟨a,len,cap,m,n,D,afp,rfl,bb,aJ,hm,pz,rfl,he⟩
  · exact⟨⟨none,0,[],fun _=>rfl,by simp,by simp⟩,rfl,by simp,Ge (by simp)⟩
  · have hle:len≤m:=by rw [pz];split<;>omega
    rw [hi]at he
    have lb:∀k,k≤len→∃l:List α,l.length=k∧(∀y∈l,ok y)∧(∀i y,l[i]?=some y→W.cells? 0 (a.add (i*aH)) aH=some (oG y)):=by
      intro k
      induction k with
      |zero=>intro _;exact⟨[],rfl,by simp,by simp⟩
      |succ k ih=>
        intro aj
        obtain⟨l,ab,af,az⟩:=ih (by omega)
        obtain⟨fN,bM,bS⟩:=he k (by omega)
        obtain⟨y,rfl,aZ⟩:=dec _ _ _ bS
        refine⟨l++[y],by simp [ab],?_,?_⟩
        · intro z cq;rcases List.mem_append.1 cq with h|h
          · exact af z h
          · simp at h;subst h;exact aZ
        · intro i z cq
          by_cases ak:i<l.length
          · exact az i z (by rwa [List.getElem?_append_left ak]at cq)
          · rw [List.getElem?_append_right (by omega)]at cq
            have:i-l.length=0:=by
              rcases Nat.eq_zero_or_pos (i-l.length)with h|h
              · exact h
              · rw [List.getElem?_eq_none (by simp;omega)]at cq;cases cq
            rw [this]at cq
            simp at cq;subst cq
            have:i=k:=by omega
            subst this;exact bM
    obtain⟨l,ab,af,az⟩:=lb len (Nat.le_refl _)
    refine⟨⟨some a,cap,l,(by intro h;cases h),(by rw [ab];unfold maxLen at hm;omega),(by omega)⟩,by simp [ai.n,ab],af,Ge ?_⟩
    have hlen:∀y∈l,(oG y).length=aH:=fun y aZ=>by
      obtain⟨i,ak,aby⟩:=List.getElem_of_mem aZ
      exact(World.cells?_some (az i y (by simp [ak,aby]))).2.1
    have key:∀(l:List α) (o:Nat),(∀y∈l,(oG y).length=aH)→(∀i y,l[i]?=some y→W.cells? 0 (a.add (o+i*aH)) aH=some (oG y))→∀k,k<(l.flatMap oG).length→a.block<W.heap.size∧W.cell? (a.add (o+k))=(l.flatMap oG)[k]?:=by
      intro l
      induction l with
      |nil=>intro o _ _ k aj;simp at aj
      |cons y l ih=>
        intro o hlen bg k aj
        have aZ:=hlen y (by simp)
        rw [List.flatMap_cons]at aj⊢
        by_cases mU:k<aH
        · have:=(World.cells?_some (bg 0 y rfl)).2.2 k mU
          rw [Nat.zero_mul,Nat.add_zero,BP]at this
          rw [List.getElem?_append_left (by omega)]
          refine⟨?_,this⟩
          rw [List.getElem?_eq_getElem (by omega)]at this
          have bb:(a.add (o+k)).block=a.block:=by unfold Addr.add;split<;>rfl
          rw [←bb]
          rcases Nat.lt_or_ge (a.add (o+k)).block W.heap.size with h|h
          · exact h
          · simp [World.cell?,Array.getElem?_eq_none h]at this
        · have:=ih (o+aH) (fun z cq=>hlen z (by simp [cq])) (fun i z cq=>by have:=bg (i+1) z (by simpa using cq);rw [Nat.succ_mul]at this;rw [show o+aH+i*aH=o+(i*aH+aH)by omega];exact this) (k-aH) (by rw [List.length_append]at aj;omega)
          rw [List.getElem?_append_right (by omega),aZ]
          rw [show o+aH+(k-aH)=o+k by omega]at this
          exact this
    intro k aj
    have:=key l 0 hlen (fun i y aZ=>by rw [Nat.zero_add];exact az i y aZ) k aj
    simpa [ai.bl]using this
theorem Ke{d t:Nat}{cP:List (Option IntKind)}(h:kR P d t=some cP)(ak:(P.info? t).map (·.size)=some cP.length){jO:Nat}{au:List Value}{x:DataW H×List MemPlace}(av:DataW.trod aW P W base spare held jO t au=some x):
    ∃e,au=qz e 0 cP∧tc e 0 cP:=by
  obtain⟨i,ab,af⟩:=Option.map_eq_some_iff.1 ak
  exact E0 0 (QM d h ⟨i,ab,af⟩ av)
theorem Vo{n:Int}(h:(Lit.int .u32 n).wf=true):∃a:BitVec 32,n=(a.toNat:Int):=by
  simp only [Lit.wf,Bool.and_eq_true,decide_eq_true_eq]at h
  have ab:IntKind.u32.min=0:=rfl
  have af:IntKind.u32.max=4294967295:=rfl
  exact⟨BitVec.ofNat 32 n.toNat,by rw [BitVec.toNat_ofNat];omega⟩
theorem afU{n:Int}(h:(Lit.int .i64 n).wf=true): -9223372036854775808≤n∧n≤9223372036854775807:=by
  simp only [Lit.wf,Bool.and_eq_true,decide_eq_true_eq]at h
  exact h
def zU(aW:TypeId×Value→H)(P:Program)(W:World)(base:Nat)(spare:Nat→Bool)(held:Bool):List TypeId→List Value→Prop
  |[],au=>au=[]
  |t::bf,au=>∃p q,au=p++q∧(∃n x,DataW.trod aW P W base spare held n t p=some x)∧zU aW P W base spare held bf q
def xM(P:Program):Nat→List Field→Option Nat
  |off,[]=>some off
  |off,f::fC=>if f.offset=off then xM P (off+P.cellsOf f.type) fC else none
theorem Kf{au:List Value}:∀(fC:List Field) (off:Nat),xM P off fC=some au.length→(∀f∈fC,∃n x,DataW.trod aW P W base spare held n f.type ((au.drop f.offset).take (P.cellsOf f.type))=some x)→zU aW P W base spare held (fC.map (·.type)) (au.drop off)
  |[],off,h,_=>by simp [xM]at h;subst h;simp [zU]
  |f::fC,off,h,br=>by
    simp only [xM]at h
    split at h
    · rename_i ap
      refine⟨(au.drop off).take (P.cellsOf f.type),au.drop (off+P.cellsOf f.type),by rw [←List.drop_drop,List.take_append_drop],?_,Kf fC _ h (fun g bh=>br g (List.mem_cons_of_mem _ bh))⟩
      rw [←ap];exact br f (List.mem_cons_self ..)
    · cases h
def yp(P:Program)(t:Nat):Option (List Nat):=match P.underlying t with
  |some (.struct fC)=>if xM P 0 fC.toList=some (P.cellsOf t)then some (fC.toList.map (·.type))else none
  |_=>none
theorem Kg{t:Nat}{bf:List Nat}(h:yp P t=some bf):∃fC,P.underlying t=some (.struct fC)∧xM P 0 fC.toList=some (P.cellsOf t)∧bf=fC.toList.map (·.type):=by
  unfold yp at h
  split at h
  · rename_i fC hu
    split at h
    · rename_i bg;simp at h;exact⟨fC,hu,bg,h.symm⟩
    · cases h
  · cases h
theorem Jh{t jO:Nat}{bf:List Nat}{au:List Value}{x:DataW H×List MemPlace}(h:yp P t=some bf)(av:DataW.trod aW P W base spare held jO t au=some x):
    zU aW P W base spare held bf au:=by
  obtain⟨fC,hu,bg,rfl⟩:=Kg h
  obtain⟨xs,n,_,_,aJ,hlen,br⟩:=DataW.trod_struct hu av
  have:=Kf (aW:=aW) (W:=W) (base:=base) (spare:=spare) (held:=held) (au:=au) fC.toList 0 (by rw [bg,aJ]) (fun f hm=>by
    obtain⟨i,ak,he⟩:=List.getElem_of_mem hm
    simp at ak
    have ab:=br i f (by rw [←he];simp [ak])
    have af:i<xs.length:=by omega
    rw [List.getElem?_eq_getElem af]at ab
    exact⟨_,_,ab⟩)
  simpa using this
theorem R6{f:FuncId}{args:Array Value}{w:World}{v:Value}{T:List (ao w.heap.size)}(gO:dR T (fun _=>False) w)(h:dQ P w.heap.size f args.toList T (fun u _=>u=v)):
    Calls P f args w fun e b3=>e= .returned v∧Go.RowKit.Below w.heap.size w b3:=by
  refine(callsIn_wide (n:=0)).1 (CallsIn.mono (h w (fun _=>False) gO (fun _ h=>h.elim) (Nat.le_refl _)) ?_)
  rintro e b3 ⟨u,a8,rfl,rfl,D,ab,af,az,a5,_⟩
  exact⟨rfl,a5.os,a5.tape,a5.output,a5.size,fun k aj=>a5.same k aj (fun h=>h)⟩
theorem R7(w:World):dR [uX (B:=w.heap.size) w] (fun _=>False) w:=
  ⟨fun _=>False,fun _=>False,by simp,fun _ h=>h.elim,⟨fun _ h=>h,fun _ _=>rfl⟩,fun _ h=>h⟩
def Dd(P:Program)(W:World)(t:TypeId)(v:Value):Prop:=
  (∃b,Value.okWide P W .any b t v)∧∃(H:Type) (aW:TypeId×Value→H) (jO:Nat) (x:DataW H×List MemPlace),DataW.trod aW P W 0 (fun _=>true) true jO t v.cells.toList=some x
def zz(P:Program)(W:World):List TypeId→List Value→Prop
  |[],[]=>True
  |t::bf,v::bx=>Dd P W t v∧zz P W bf bx
  |_,_=>False
theorem JN:∀{bf:List TypeId} {bx:List Value} {an:List (DataW H)} {bV:List MemPlace},(∀(j:Nat) t v,bf[j]?=some t→bx[j]?=some v→∃b,Value.okWide P W .any b t v)→DataW.TrodAll aW P W 0 (fun _=>true) true bf bx an bV→zz P W bf bx
  |[],[],_,_,_,_=>trivial
  |[],_::_,an,_,_,h=>by cases an<;>simp [DataW.TrodAll]at h
  |_::_,[],an,_,_,h=>by cases an<;>simp [DataW.TrodAll]at h
  |t::bf,v::bx,an,bV,ck,h=>by
    obtain⟨dY,OW,d0,ym,yP,jY,iD,rfl,rfl,b0,yQ⟩:=trodAll_cons h
    simp at iD
    obtain⟨rfl,rfl⟩:=iD
    obtain⟨jO,br⟩:=b0
    refine⟨⟨?_,H,aW,jO,_,br⟩,JN (fun j t v ab af=>ck (j+1) t v (by simpa using ab) (by simpa using af)) yQ⟩
    exact ck 0 t v rfl rfl
theorem Kh(aJ:laidOutB P=true){b3:World}(bb:Below W.heap.size W b3):∀{bf:List TypeId} {bx:List Value} {an:List (DataW H)} {bV:List MemPlace},(∀t∈bf,P.readableRec t=true∧t<P.types.size)→DataW.TrodAll aW P W 0 (fun _=>true) true bf bx an bV→
    ∃IM,DataW.TrodAll aW P b3 0 (fun b=>decide (b<W.heap.size)) true bf bx an IM
  |[],[],[],_,_,_=>⟨[],rfl⟩
  |[],[],_::_,_,_,h=>by simp [DataW.TrodAll]at h
  |[],_::_,an,_,_,h=>by cases an<;>simp [DataW.TrodAll]at h
  |_::_,[],an,_,_,h=>by cases an<;>simp [DataW.TrodAll]at h
  |t::bf,v::bx,an,bV,bk,h=>by
    obtain⟨dY,OW,d0,ym,yP,jY,iD,rfl,rfl,b0,yQ⟩:=trodAll_cons h
    simp at iD
    obtain⟨rfl,rfl⟩:=iD
    have DU:∀x∈yP,x.block<W.heap.size:=by obtain⟨m,hm⟩:=b0;exact DataW.trod_lt m _ _ _ hm
    obtain⟨q,bP⟩:=Kh aJ bb (fun t aR=>bk t (List.mem_cons_of_mem _ aR)) yQ
    have:=bk t (List.mem_cons_self ..)
    exact⟨_,trodAll_cons_mk (Below.trod aJ this.1 this.2 b0 bb DU) bP⟩
theorem QX{t:Nat}{bf:List Nat}{v:Value}(aB:yp P t=some bf)(h:Dd P W t v):∃(H:Type) (aW:TypeId×Value→H) (au:List Value),v= .agg au.toArray∧zU aW P W 0 (fun _=>true) true bf au:=by
  obtain⟨⟨b,ab⟩,H,aW,jO,x,af⟩:=h
  obtain⟨fC,hu,_,_⟩:=Kg aB
  obtain⟨au,rfl,_⟩:=okWide_struct hu ab
  exact⟨H,aW,au.toList,by simp,Jh aB af⟩
end Go.Sl
end
section
namespace Go.Sl
open Go
def bF{α:Type}(f:Nat→α)(k:Nat)(v:α):Nat→α:=fun j=>if j=k then v else f j
theorem e8{α:Type}(f:Nat→α)(k:Nat)(v:α):bF f k v k=v:=by simp [bF]
theorem fs{α:Type}(f:Nat→α){k j:Nat}(v:α)(h:j≠k):bF f k v j=f j:=by simp [bF,h]
def oH{α:Type}(c:α→Value)(n:Nat)(f:Nat→α):List Value:=(List.range n).map fun k=>c (f k)
theorem sI{α:Type}(c:α→Value)(n:Nat)(f:Nat→α):(oH c n f).length=n:=by simp [oH]
theorem vC{α:Type}{c:α→Value}{n:Nat}{f:Nat→α}{k:Nat}(h:k<n):(oH c n f)[k]?=some (c (f k)):=by simp [oH,h]
theorem Ki{α:Type}{c:α→Value}{n:Nat}{f:Nat→α}{k:Nat}{v:α}:(oH c n f).set k (c v)=oH c n (bF f k v):=by
  apply List.ext_getElem?
  intro i
  by_cases ak:i<n
  · by_cases wE:k=i
    · subst wE;simp [oH,ak,bF]
    · rw [List.getElem?_set_ne wE,vC ak,vC ak,fs _ _ (Ne.symm wE)]
  · rw [List.getElem?_eq_none (by simp [oH];omega),List.getElem?_eq_none (by simp [oH];omega)]
theorem Fi{α:Type}{c:α→Value}{n:Nat}{f g:Nat→α}(h:∀k,k<n→f k=g k):oH c n f=oH c n g:=by
  unfold oH;exact List.map_congr_left fun k aj=>by rw [h k (List.mem_range.1 aj)]
abbrev eG(n:Nat)(f:Nat→Int):List Value:=oH (fun m=> .int .i64 m) n f
abbrev NG(n:Nat)(f:Nat→Bool):List Value:=oH (fun m=> .bool m) n f
theorem vD{xs cO:List Value}{k:Nat}{v:Value}(h:xs[k]?=some v):(xs++cO)[k]?=some v:=by
  rw [List.getElem?_append_left (List.getElem?_eq_some_iff.1 h).1];exact h
theorem sJ{xs cO:List Value}{k n:Nat}{v:Value}(a7:xs.length=n)(h:cO[k]?=some v):(xs++cO)[n+k]?=some v:=by
  subst a7;rw [List.getElem?_append_right (by omega),Nat.add_sub_cancel_left];exact h
theorem xt{xs cO:List Value}{k:Nat}{v:Value}(h:k<xs.length):(xs++cO).set k v=xs.set k v++cO:=by rw [List.set_append_left _ _ h]
theorem ub{xs cO:List Value}{k n:Nat}{v:Value}(a7:xs.length=n):(xs++cO).set (n+k) v=xs++cO.set k v:=by
  subst a7;rw [List.set_append_right _ _ (by omega),Nat.add_sub_cancel_left]
abbrev ei(n:Int):List Value:=[.int .i64 n]
theorem Kj{α:Type}{aW:α→List Value}{l:List α}{a:α}:l.flatMap aW++aW a=(l++[a]).flatMap aW:=by
  rw [List.flatMap_append];simp
theorem Take.skip{α:Type}{y:α}:∀{L S R:List α},Take L S R→Take L (y::S) (y::R)
  |[],_,_,.nil _=> .nil _
  |_::_,_,_,.cons h t=> .cons (.there _ h) (Take.skip t)
section
variable{cz:Bool}{P:Program}{B:Nat}{A:eD}{r:Option Nat}{N:Nat}{an:List Nat}{E:Env}{S R:List (ao B)}{Q:e7 B}
def ai.bG{α:Type}:ai α:=⟨none,0,[],fun _=>rfl,by simp,by simp⟩
theorem ai.fY{α:Type}:∀bl,(ai.bG:ai α).b1=some bl→∃g,bl=⟨g,0,none⟩:=by intro bl h;cases h
theorem hy{α:Type}{c:Code}(aW:α→List Value)(e aH:Nat)(h:X P B A r N c an E (row (.slice (ai.bG:ai α).b1 (ai.bG:ai α).l.length (ai.bG:ai α).c) e aH (ai.bG:ai α).l.length ((ai.bG:ai α).l.flatMap aW)::S) Q):X P B A r N c an E S Q:=Kc e aH h
theorem nR{α:Type}{ops:Array Oper}{l:List Oper}(aW:α→List Value)(e aH:Nat)(h:b8 P B A r N ops l an E (row (.slice (ai.bG:ai α).b1 (ai.bG:ai α).l.length (ai.bG:ai α).c) e aH (ai.bG:ai α).l.length ((ai.bG:ai α).l.flatMap aW)::S) Q):b8 P B A r N ops l an E S Q:=Rl e aH h
theorem Jd{ops:Array Oper}{j g:Nat}{a:Act}(ab:(ops[j]?).bind (·.dst)=some g)(af:g<N)(az:E.get g=some undef)(ap:dq N an E a):yielded ops a.tmps j=none:=by
  have bh:=ap.get g _ az
  have er:g<a.tmps.size:=by rw [ap.size];exact af
  have:a.tmps[g]?=some undef:=by
    rw [Array.getD_eq_getD_getElem?,Array.getElem?_eq_getElem er]at bh
    rw [Array.getElem?_eq_getElem er]
    simpa using bh
  simp [yielded,ab,this,undef]
theorem R8{ops:Array Oper}{rest:List Oper}{d:Nat}{op:Op}{bd:TypeId}{pos:String}{a3:Array Edge}{j:Nat}{b:Bool}(g:Nat)(ab:(ops[j]?).bind (·.dst)=some g)(af:Nat.blt g N=true)(az:E.get g=some undef)
    (aD:Nat.blt d N=true) (h:b8 P B A r N ops rest an ((d,undef)::E) S Q):b8 P B A r N ops (⟨some d,op,bd,pos,a3,some (j,b)⟩::rest) an E S Q:=by
  intro a w ap aB
  have aZ:=Jd (ops:=ops) ab (by simpa using af) az ap
  simp only [wpListIn,Region.wanted,aZ]
  rw [if_neg (by simp)]
  exact⟨fun _ _=>trivial,h _ w (ap.put (by simpa using aD)) aB⟩
theorem R9{ops:Array Oper}{K:List (ao B)}{n d:Nat}{listed:Array Bool}{op:Op}{bd:TypeId}{pos:String}{a3:Array Edge}{j:Nat}{b:Bool}(i:Nat)(t:Nat)(ak:ops[i]?=some ⟨some d,op,bd,pos,a3,some (j,b)⟩)(iM:pW ops=true)(cR:(cz||(lX ops listed&&closed ops listed&&after ops i))=true)
    (br:Region.free .any ops listed i=true) (bk:(Region.ready .any ops listed).contains i=true) (jX:∀c an E S,¬Q (.panic c) an E S) (ab:(ops[j]?).bind (·.dst)=some t) (af:Nat.blt t N=true) (az:E.get t=some undef) (aD:Nat.blt d N=true)
    (h:eE cz P B A r N ops K n (listed.setIfInBounds i true) an ((d,undef)::E) S Q):eE cz P B A r N ops K (n+1) listed an E S Q:=by
  intro a w ap aB
  have aZ:=Jd (ops:=ops) ab (by simpa using af) az ap
  simp only [Bool.or_eq_true,Bool.and_eq_true,and_assoc]at cR
  refine Js ak rfl iM (fun c a w ⟨an,E,S,_,_,q⟩=>jX c an E S q) n listed a w cR (Region.free_spec ak br) (by simpa using bk) (.inr ⟨by simp [Region.wanted,aZ],rfl⟩) ?_
  exact h _ w (ap.put (by simpa using aD)) aB
def De(P:Program)(B:Nat)(A:eD)(r:Option Nat)(N:Nat){α:Type}(I:α→Prop)(hS:α→Env)(hT:α→List (ao B))(an:List Nat)(Q:e7 B):e7 B
  | .normal,j8,E,S=>j8=an∧∃x R,I x∧(hS x).sub E∧Take (hT x) S R
  |e,j8,E,S=>Q e j8 E S
theorem k5{x y:Code}{α:Type}(I:α→Prop)(hS:α→Env)(hT:α→List (ao B))(ab:X P B A r N x an E S (De P B A r N I hS hT an Q))(af:∀z,I z→X P B A r N y an (hS z) (hT z) Q):X P B A r N (x.seq y) an E S Q:=by
  refine dZ (fun a w ap aB=>wpIn_mono (ab a w ap aB) ?_)
  rintro e cE l2 ⟨AA,Ez,aP,lh,wB,bY⟩
  cases e with
  |normal=>
    obtain⟨rfl,z,adx,vm,ek,gO⟩:=bY
    exact⟨AA,hS z,hT z,lh.sub ek,wB.mm gO,af z vm⟩
  |_=>exact⟨AA,Ez,aP,lh,wB,bY⟩
theorem QH{α:Type}{I:α→Prop}{hS:α→Env}{hT:α→List (ao B)}(z:α)(ab:I z)(af:(hS z).sub E)(az:∃R,Take (hT z) S R):De P B A r N I hS hT an Q .normal an E S:=let⟨R,az⟩:=az;⟨rfl,z,R,ab,af,az⟩
inductive q9{α:Type}:List α→Nat→α→List α→Prop
  |zero (x:α) (l:List α) (v:α):q9 (x::l) 0 v (v::l)
  |succ {x:α} {l sy:List α} {n:Nat} {v:α} (h:q9 l n v sy):q9 (x::l) (n+1) v (x::sy)
theorem q9.eq{α:Type}{l sy:List α}{n:Nat}{v:α}(h:q9 l n v sy):l.set n v=sy∧n<l.length:=by
  induction h with
  |zero x l v=>simp
  |succ h ih=>simp [ih.1,ih.2]
theorem oB{au fN:List Value}{t b k:Nat}{x y:Operand}{dF:TypeId}{v:Value}(av:aX E x=some (.pointer (some ⟨b,k,none⟩)))(aZ:aX E y=some v)(ab:v.oneCell'=true)(ey:Out (aa b au dF) S R)(aR:cx P t=some (false,1))
    (bg:q9 au k v fN):oW P B A N an E S (.store t x y) (aa b fN dF::R):=
  iG av aZ ab ey aR (by simpa using bg.eq.2) bg.eq.1
def ai.Own{α:Type}(a:ai α):Prop:=∀bl,a.b1=some bl→∃g,bl=⟨g,0,none⟩
abbrev ai.v{α:Type}(a:ai α):Value:= .slice a.b1 a.l.length a.c
theorem eh{α:Type}{aW:α→List Value}{a:ai α}{e aH n:Nat}(h:a.Own)(a7:n=a.l.length):c1 (row (B:=B) (.slice a.b1 a.l.length a.c) e aH n (a.l.flatMap aW)) a.bl (a.l.flatMap aW):=by
  subst a7
  cases ap:a.b1 with
  |none=>rw [a.nil ap];intro D w _ k aj;simp at aj
  |some bl=>
    obtain⟨g,rfl⟩:=h bl ap
    have:a.bl=⟨g,0,none⟩:=by simp [ai.bl,ap]
    rw [this]
    exact LX
theorem Cp{α:Type}{aW:α→List Value}{l:List α}{v:Value}{e aH n:Nat}{xs:List Value}{w:World}(h:bB B A S w)(ap:Out (row v e aH n xs) S R)(a7:n=l.length):∃a:ai α,a.l=l∧a.Own∧v= .slice a.b1 a.l.length a.c:=by
  obtain⟨D,bc⟩:=h.mem ap
  obtain⟨⟨ab,af⟩,_⟩:=bc
  subst a7
  rcases af with⟨rfl,b0⟩|⟨g,cap,gU,rfl,_,_,DO,ns,_⟩
  · have:l=[]:=List.length_eq_zero_iff.1 b0
    subst this
    exact⟨⟨none,0,[],fun _=>rfl,by simp,by simp⟩,rfl,(by intro bl h;cases h),rfl⟩
  · refine⟨⟨some ⟨g,0,none⟩,cap,l,(by intro h;cases h),?_,DO⟩,rfl,(by intro bl h;cases h;exact⟨g,rfl⟩),rfl⟩
    unfold maxLen at ns;omega
theorem hc{fn:Func}{p t b n q:Nat}{au:List Value}{dF:TypeId}{aP:List (ao B)}{v:Value}(h:fn.results= #[.cell p t,.tmp q])(aE:E.get p=some (.pointer (some ⟨b,0,none⟩)))(ap:Out (aa b au dF) S aP)(aR:cx P t=some (true,n))(a7:au.length=n)(bP:E.get q=some v):
    ∀a w,dq N an E a→bB B A S w→(results fn a.tmps).run P w= .ok (.tuple #[.agg au.toArray,v]) w:=by
  intro a w dy aB
  obtain⟨D,bc⟩:=aB.mem ap
  have aJ:=vy (P:=P) (w:=w) (p:=⟨b,0,none⟩) (bx:=au) aR a7 (fun k aj=>me D w bc k (by omega))
  simp only [Instr.loadAt,Instr.sureAddr,Sem.run_bind,Sem.run_pure,Result.andThen_ok]at aJ
  have nt:a.tmps[p]?.getD undef= .pointer (some ⟨b,0,none⟩):=by have:=dy.get p _ aE;simpa [Array.getD_eq_getD_getElem?]using this
  have p2:a.tmps[q]?.getD undef=v:=by have:=dy.get q _ bP;simpa [Array.getD_eq_getD_getElem?]using this
  simp [results,h,nt,p2,asAddr,aJ]
end
open Go.ChangeShapes Go.WideShapes in
theorem Sa{P:Program}{W:World}{d t:Nat}{cP:List (Option IntKind)}{v:Value}(h:kR P d t=some cP)(ak:(P.info? t).map (·.size)=some cP.length)(aO:m8 P t=true)(ck:Dd P W t v):∃e,v= .agg (qz e 0 cP).toArray∧tc e 0 cP:=by
  obtain⟨⟨b,ab⟩,H,aW,jO,x,af⟩:=ck
  unfold m8 at aO
  have key:∃au,v= .agg au:=by
    unfold Value.okWide at ab
    split at ab
    · obtain⟨au,az,_⟩:=ab;exact⟨au,az⟩
    · obtain⟨au,az,_⟩:=ab;exact⟨au,az⟩
    · split at aO
      · rename_i bM bS _ f br;exact absurd br (bM f)
      · rename_i bM bS _ n f br;exact absurd br (bS n f)
      · cases aO
  obtain⟨au,rfl⟩:=key
  obtain⟨e,az,a5⟩:=Ke h ak af
  exact⟨e,by rw [←az];simp [Value.cells],a5⟩
end Go.Sl
end
section
namespace Go.Sl
open Go Go.ChangeShapes Go.WideShapes Go.ChangeAt Go.RowKit
variable{P:Program}{W:World}{H:Type}{aW:TypeId×Value→H}
theorem Sb{n:String}{g t e len:Nat}{k:IntKind}{cY:List Int}(a7:P.globalNamed n=some g)(aR:(P.globals[g]?).map (·.type)=some t)(hu:P.underlying t=some (.array len e))(he:P.underlying e=some (.int k))(bg:P.cellsOf e=1)(aJ:cY.length=len)
    (h:laidMet P [(n,.agg (cY.map fun m=> .lit (.int k m)))] W):c1 (uX (B:=W.heap.size) W) ⟨g,0,none⟩ (cY.map fun m=> .int k m):=by
  obtain⟨bV,⟨vn,t0,abz,f0,yP,jY,abA,AE,qJ,abB,_⟩,_⟩:=h
  obtain rfl:=Option.some.inj (a7.symm.trans abA)
  obtain rfl:=Option.some.inj (aR.symm.trans AE)
  obtain⟨xs,m,_,av,hlen,iL,HK⟩:=DataW.trod_array hu abB
  simp only [Prod.mk.injEq,DataW.agg.injEq]at av
  refine Ge fun i ak=>?_
  have DV:i<cY.length:=by simpa using ak
  have ab:=HK i (by omega)
  have af:i<xs.length:=by omega
  rw [List.getElem?_eq_getElem af,bg,Nat.mul_one]at ab
  obtain⟨v,ck,AF,_⟩:=DataW.trod_int he ab
  have az:(xs.map (·.1))[i]?=some (.lit (.int k v)):=by simp [af,AF]
  rw [←av.1]at az
  simp [DV]at az
  have XD:abz[i]?=some (.int k v):=by
    have:=congrArg (·[0]?) ck
    simpa [List.getElem?_take,List.getElem?_drop]using this
  have hw:=World.var?_cell a7 qJ i
  rw [XD]at hw
  have dc:(⟨g,0,none⟩:Addr).add i=⟨g,i,none⟩:=by rw [mG,Nat.zero_add]
  refine⟨?_,?_⟩
  · rcases Nat.lt_or_ge g W.heap.size with h|h
    · exact h
    · simp [World.cell?,Array.getElem?_eq_none h]at hw
  · rw [dc,hw];simp [DV,az]
theorem Tp{C:Checked}{os:Os}{f:FuncId}{fn:Func}{s:ChangeSpec}{w7:TypeId}{laid:List (String×DataW Unit)}(own:ownKnob C.prog.godebug=none)(started:os.Started)(Vp:C.prog.inits.idxOf? f=none)(HL:C.prog.funcs[f]?=some fn)
    (laidOut:laidOutB C.prog=true) (readable:fn.params.toList.all (fun t=>C.prog.readableRec t&&decide (t<C.prog.types.size))=true) (M0:s.vars=[])
    (XE:∀(an:List (DataW H)),an.length=fn.params.size→(s.fn H an).results=[.lit (.bool true)]∧(s.fn H an).args=an∧(s.fn H an).vars=[]) (oI:fn.resultTypes= #[w7]) (abC:C.prog.underlying w7=some .bool)
    (witness:∃(w:World) (tape:Tape) (i:Input),w.os=os∧(w.forCall tape i).Shaped C.prog∧i.vars=[]∧Input.okWide C.prog (w.forCall tape i) .any w.heap.size f i∧
      ((s.pre aW C.prog fn [] false (w.forCall tape i).memory i.args∧laidMetH C.prog laid (w.forCall tape i).memory)∧sizedMet aW C.prog fn (OpenSpec.ofChange s) false (w.forCall tape i).memory i.args)∧({}:Assume).holds C.prog (lone (Frame.enter C.prog f i.args .normal) [] (w.forCall tape i)))
    (walk:∀(W:World) (args:Array Value),laidMetH C.prog laid W→zz C.prog W fn.params.toList args.toList→Calls C.prog f args W fun e b3=>e= .returned (.bool true)∧Below W.heap.size W b3):
    ReturnsInHanded {} C os f .any (fun w args=>(s.pre aW C.prog fn [] false w args∧laidMetH C.prog laid w)∧sizedMet aW C.prog fn (OpenSpec.ofChange s) false w args) (s.post aW C.prog fn false true false false):=by
  refine returnsInHanded_of_change_and (C:=C) (X:=fun w _=>laidMetH C.prog laid w) (fun _ _ _ eJ h=>h.of_heap eJ) own started Vp HL witness ?_
  intro W base args an gs before G8 rB ad6 _ eL _
  have abD:=rB
  obtain⟨p,q,l5,Qh,rfl,aey,qH⟩:=rB
  rw [M0]at Qh
  obtain⟨rfl,rfl⟩:=trodVars_none Qh
  have XF:∀(j:Nat) t v,fn.params[j]?=some t→args[j]?=some v→Value.okWide C.prog W .any base t v:=G8
  have dy:zz C.prog W fn.params.toList args.toList:=JN (fun j t v ab af=>⟨base,XF j t v (by simpa using ab) (by simpa using af)⟩) l5
  refine(walk W args eL dy).mono fun e afq ⟨he,OX⟩=>?_
  subst he
  obtain⟨IM,bP⟩:=Kh laidOut OX (fun t aR=>by have:=List.all_eq_true.1 readable t aR;simpa using this) l5
  have hlen:an.length=fn.params.size:=by
    have:∀{bf:List TypeId} {bx:List Value} {an:List (DataW H)} {bV:List MemPlace},DataW.TrodAll aW C.prog W 0 (fun _=>true) true bf bx an bV→an.length=bf.length:=by
      intro bf
      induction bf with
      |nil=>intro bx an bV h;cases bx<;>cases an<;>simp_all [DataW.TrodAll]
      |cons t bf ih=>
        intro bx an bV h
        obtain⟨dY,OW,d0,ym,yP,jY,rfl,rfl,rfl,b0,yQ⟩:=trodAll_cons h
        simp [ih yQ]
    simpa using this l5
  obtain⟨dc,dd,fD⟩:=XE (an++[]) (by simpa using hlen)
  refine⟨_,rfl,an,[],_,[],IM,[],abD,?_,?_,?_,OX.frame _,fun h=>by cases h⟩
  · rw [dc,oI];exact trodAll_mk1 (shut_bool abC _)
  · rw [dd];simpa using bP
  · rw [M0,fD];rfl
end Go.Sl
end
section
namespace Go.Sl
open Go
variable{P:Program}{B:Nat}{A:eD}{r:Option Nat}{N:Nat}{an:List Nat}{E:Env}{S R:List (ao B)}{Q:e7 B}
theorem Tq{x:Operand}{t:Nat}{m:Int}{a:BitVec 32}(av:aX E x=some (.int .u32 m))(aO:BitVec.ofInt 32 m=a):dp P B A N an E S (.unOp .neg t x) (.int .u32 ((-a).toNat:Int)):=
  ⟨by simp,by simp,fun ac w bd pos a3 g d ap aB=>by
    have dc:=BQ m a aO
    have:IntKind.u32.wrap (0-m)=((-a).toNat:Int):=by
      simp [IntKind.wrap,IntKind.bits,IntKind.signed,BitVec.toNat_neg];omega
    simp only [execOp,ap.aX av,Op.unary,Op.intArith,this]
    rfl⟩
theorem Sc{t i:Nat}{x y:Operand}{s:ByteArray}{k:IntKind}{m:Int}{b:UInt8}(av:aX E x=some (.string s))(aZ:aX E y=some (.int k m))(hu:P.underlying t=some .string)(hm:m=(i:Int))(bb:s[i]?=some b):
    dp P B A N an E S (.index t x y) (.int .u8 (b.toNat:Int)):=
  ⟨by simp,by simp,fun ac w bd pos a3 g d ap aB=>by
    subst hm
    simp [execOp,ap.aX av,ap.aX aZ,Instr.index,asIntOf,run_underlying hu,bb]⟩
theorem XG{K:ao B}{xs:List Value}{t b k:Nat}{x:Operand}{v:Value}(av:aX E x=some (.pointer (some ⟨b,k,none⟩)))(ey:Out K S R)(bk:c1 K ⟨b,0,none⟩ xs)(aR:cx P t=some (false,1))(ck:xs[k]?=some v):dp P B A N an E S (.load t x) v:=
  G4 (bl:=⟨b,0,none⟩) (k:=k) (by rw [mG,Nat.zero_add];exact av) ey bk aR ck
end Go.Sl
end
section
namespace Go.Sl
open Go
variable{cz:Bool}{P:Program}{B:Nat}{A:eD}{r:Option Nat}{N:Nat}{an:List Nat}{E:Env}{S R jo:List (ao B)}{Q:e7 B}{ops:Array Oper}{rest:List Oper}
variable{d:Nat}{op:Op}{bd:TypeId}{pos:String}{a3:Array Edge}{g:Option (Nat×Bool)}{v:Value}
theorem Out.fu{α:Type}{x:α}{S R:List α}:∀{L:List α},Out x S R→Out x (L++S) (L++R)
  |[],h=>h
  |y::L,h=> .there y (Out.fu (L:=L) h)
theorem Take.pre{α:Type}:∀(L S:List α),Take L (L++S) S
  |[],S=> .nil S
  |x::L,S=> .cons (.here x _) (Take.pre L S)
def ai.lit{α:Type}(b:Nat)(l:List α)(h:l.length≤9223372036854775807):ai α:=⟨some ⟨b,0,none⟩,l.length,l,(by intro h;cases h),h,Nat.le_refl _⟩
theorem ai.ug{α:Type}{b:Nat}{l:List α}{h:l.length≤9223372036854775807}:(ai.lit b l h).Own:=by intro bl e;cases e;exact⟨b,rfl⟩
theorem bB.FE{b n e aH:Nat}{au:List Value}{w:World}(h:bB B A S w)(ap:Out (aa b au e) S R)(aJ:au.length=n*aH)(a7:n≤maxLen):bB B A (row (.slice (some ⟨b,0,none⟩) n n) e aH n au::R) w:=by
  obtain⟨D,⟨dk,dX,bZ,aD,jl,aB⟩,af,az,a5,cd,c5⟩:=h.take (.cons ap (.nil _))
  have DM:D b:=(bZ b).2 (.inl ((jl.1 b).2 rfl))
  refine⟨D,⟨dk,dX,bZ,aD,⟨⟨aJ,.inr ⟨b,n,au.toArray,rfl,(af b DM).1,jl.2,Nat.le_refl _,a7,by simpa using aJ,?_⟩⟩,fun k=>?_⟩,aB⟩,af,az,a5,cd,c5⟩
  · rw [←aJ];simp
  · rw [jl.1 k];simp [Value.ownBlock];exact eq_comm
theorem xr{b e:Nat}{au:List Value}{l:List Oper}(n aH:Nat)(ap:Out (aa b au e) S R)(aJ:Nat.beq au.length (n*aH)=true)(a7:Nat.ble n 9223372036854775807=true)(h:b8 P B A r N ops l an E (row (.slice (some ⟨b,0,none⟩) n n) e aH n au::R) Q):b8 P B A r N ops l an E S Q:=
  fun a w dy aB=>h a w dy (aB.FE ap (Nat.eq_of_beq_eq_true aJ) (by unfold maxLen;have:=Nat.le_of_ble_eq_true a7;omega))
theorem Jc{w:World}{t bd e c:Nat}{i:TypeInfo}{aH n:Nat}{v:Value}{xs:List Value}(aR:P.underlying t=some (.slice e))(ak:P.info? e=some i)(iT:w.ownsRow B e aH v n xs):
    (Builtin.append_ #[t,t] bd #[v,.slice none 0 c]).run P w= .ok v w:=by
  rcases iT.2 with⟨rfl,rfl⟩|⟨g,cap,gU,rfl,_,_,DO,_⟩
  · simp [Builtin.append_,run_underlying aR,sizeOf,typeInfo,ak,Builtin.lenOf,Builtin.firstCells]
  · simp [Builtin.append_,run_underlying aR,sizeOf,typeInfo,ak,Builtin.lenOf,Builtin.firstCells,DO,storeCells]
theorem QY{α:Type}{aW:α→List Value}{t e aH iv n:Nat}{z xs:List Value}{x y:Operand}{K:ao B}{b:ai α}(hw:Want ops N E g)(av:aX E x=some v)(aZ:aX E y=some (.slice b.b1 b.l.length b.c))(aR:iK P t=some (e,aH,iv,z))
    (jl:Out (row v e aH n xs) S R) (kY:Out K S jo) (bk:c1 K b.bl (b.l.flatMap aW)) (he:∀a,(aW a).length=aH) (ab:∀a,(aW a).all (·.oneCell')=true) (oX:n+b.l.length≤maxLen) (mV:(n+b.l.length)*iv≤140737488355328) (aD:Nat.blt d N=true)
    (h:∀fi,b8 P B A r N ops rest an ((d,fi)::E) (row fi e aH (n+b.l.length) (xs++b.l.flatMap aW)::R) Q):
    b8 P B A r N ops (⟨some d,.call {callee:= .builtin .append,args:= #[x,y],argTypes:= #[t,t]},bd,pos,a3,g⟩::rest) an E S Q:=by
  cases bb:b.b1 with
  |some bl=>
    have rl:b.bl=bl:=by simp [ai.bl,bb]
    rw [bb]at aZ;rw [rl]at bk
    exact EY hw av aZ aR jl kY bk (pL he _) (fun u hu=>by
      obtain⟨a,_,aO⟩:=List.mem_flatMap.1 hu
      exact List.all_eq_true.1 (ab a) u aO) oX mV aD (fun fi _=>h fi)
  |none=>
    have aJ:=b.nil bb
    rw [bb,aJ]at aZ
    have eK:∀w,bB B A S w→bB B A (row v e aH (n+b.l.length) (xs++b.l.flatMap aW)::R) w:=fun w aB=>by
      rw [aJ];simpa using aB.take (.cons jl (.nil _))
    exact us (α:=Unit) (fun _=>v) (fun _=>row v e aH (n+b.l.length) (xs++b.l.flatMap aW)::R) (fun _=>True) hw (by simp) aD (fun a w ap aB=>by
      obtain⟨i,bq,hu,ak,_⟩:=vA aR
      have iJ:=eK w aB
      obtain⟨D,bc⟩:=iJ.mem (.here _ _)
      refine⟨(),w,?_,iJ,trivial⟩
      have hG:=Jc (P:=P) (bd:=bd) (c:=b.c) hu ak bc.1
      simp [execOp,resolve,invoke,builtin,ap.aX av,ap.aX aZ,hG]) (fun _ _=>h v)
theorem vH{α:Type}{aW:α→List Value}{c:ai α}{y:α}{t e aH iv k:Nat}{z:List Value}{x gM:Operand}{K:ao B}{bl:Addr}(hw:Want ops N E g)(av:aX E x=some (.slice c.b1 c.l.length c.c))(aZ:aX E gM=some (.slice (some bl) 1 k))(aR:iK P t=some (e,aH,iv,z))
    (jl:Out (row (.slice c.b1 c.l.length c.c) e aH c.l.length (c.l.flatMap aW)) S R) (kY:Out K S jo) (bk:c1 K bl (aW y)) (aJ:Nat.beq (aW y).length aH=true) (ab:(aW y).all (·.oneCell')=true) (oX:c.l.length+1≤9223372036854775807-1000) (mV:(c.l.length+1)*iv≤140737488355328) (aD:Nat.blt d N=true)
    (h:∀bC:ai α,bC.l=c.l++[y]→bC.Own→b8 P B A r N ops rest an ((d,.slice bC.b1 bC.l.length bC.c)::E) (row (.slice bC.b1 bC.l.length bC.c) e aH bC.l.length (bC.l.flatMap aW)::R) Q):
    b8 P B A r N ops (⟨some d,.call {callee:= .builtin .append,args:= #[x,gM],argTypes:= #[t,t]},bd,pos,a3,g⟩::rest) an E S Q:=by
  refine EY hw av aZ aR jl kY bk (by rw [Nat.eq_of_beq_eq_true aJ,Nat.one_mul]) (fun u hu=>List.all_eq_true.1 ab u hu) (by unfold maxLen;omega) mV aD (fun fi _=>?_)
  refine Fg (fun w aB=>Cp (l:=c.l++[y]) (aW:=aW) aB (.here _ _) (by simp)) ?_
  rintro⟨bC,iq,iT,rfl⟩
  have:=h bC iq iT
  rw [show c.l.length+1=bC.l.length from by rw [iq];simp,show c.l.flatMap aW++aW y=bC.l.flatMap aW from by rw [Kj,iq]]
  exact this
theorem ma{α:Type}{aW:α→List Value}{c b:ai α}{t e aH iv:Nat}{z:List Value}{x gM:Operand}{K:ao B}(hw:Want ops N E g)(av:aX E x=some (.slice c.b1 c.l.length c.c))(aZ:aX E gM=some (.slice b.b1 b.l.length b.c))(aR:iK P t=some (e,aH,iv,z))
    (jl:Out (row (.slice c.b1 c.l.length c.c) e aH c.l.length (c.l.flatMap aW)) S R) (kY:Out K S jo) (bk:c1 K b.bl (b.l.flatMap aW)) (he:∀a,(aW a).length=aH) (ab:∀a,(aW a).all (·.oneCell')=true) (oX:c.l.length+b.l.length≤9223372036854775807-1000) (mV:(c.l.length+b.l.length)*iv≤140737488355328) (aD:Nat.blt d N=true)
    (h:∀bC:ai α,bC.l=c.l++b.l→bC.Own→b8 P B A r N ops rest an ((d,.slice bC.b1 bC.l.length bC.c)::E) (row (.slice bC.b1 bC.l.length bC.c) e aH bC.l.length (bC.l.flatMap aW)::R) Q):
    b8 P B A r N ops (⟨some d,.call {callee:= .builtin .append,args:= #[x,gM],argTypes:= #[t,t]},bd,pos,a3,g⟩::rest) an E S Q:=by
  refine QY hw av aZ aR jl kY bk he ab (by unfold maxLen;omega) mV aD (fun fi=>?_)
  refine Fg (fun w aB=>Cp (l:=c.l++b.l) (aW:=aW) aB (.here _ _) (by simp)) ?_
  rintro⟨bC,iq,iT,rfl⟩
  have:=h bC iq iT
  rw [show c.l.length+b.l.length=bC.l.length from by rw [iq];simp,show c.l.flatMap aW++b.l.flatMap aW=bC.l.flatMap aW from by rw [iq,List.flatMap_append]]
  exact this
theorem Fj{n:Nat}{listed:Array Bool}{i:Nat}{K:List (ao B)}{f:FuncId}{xs:List Operand}{args:List Value}{di:Array TypeId}{pre F Z:List (ao B)}{post:Value→List (ao B)→Prop}
    (ak:ops[i]?=some ⟨some d,.call {callee:= .value (.func f),args:=xs.toArray,argTypes:=di},bd,pos,a3,g⟩) (hw:Want ops N E g) (he:Go.Proofs.Enters P f) (aO:gC E xs=some args) (ig:gJ K S Z) (br:dQ P B f args pre post) (aR:Take pre Z F) (aD:Nat.blt d N=true)
    (h:∀v a8,post v a8→∃aQ l6 R,gJ K aQ l6∧Take l6 (a8++F) R∧eE cz P B A r N ops K n (listed.setIfInBounds i true) an ((d,v)::E) aQ Q):jc cz P B A r N ops K n listed i an E S Q:=
  La ak hw he aO br (by rw [ig.eq];exact aR) aD fun v a8 aE=>by
    obtain⟨aQ,l6,R,ab,af,az⟩:=h v a8 aE
    exact⟨aQ,⟨R,by rw [ab.eq];exact af⟩,az⟩
theorem XH{α:Type}{aW:α→List Value}{aH:Nat}(he:∀a,(aW a).length=aH){K:ao B}{bl:Addr}{l:List α}{t i k n:Nat}{a:α}{x:Operand}{bx:List Value}(av:aX E x=some (.pointer (some (bl.add (i*aH+k)))))(ey:Out K S R)(bk:c1 K bl (l.flatMap aW))(aR:cx P t=some (true,n))
    (ak:l[i]?=some a) (a7:Nat.ble (k+n) aH=true) (ck:((aW a).drop k).take n=bx):dp P B A N an E S (.load t x) (.agg bx.toArray):=
  GG av ey bk aR (Nat.ble_eq_true_of_le (by
    have:=(List.getElem?_eq_some_iff.1 ak).1
    have af:=Nat.le_of_ble_eq_true a7
    have az:(i+1)*aH≤l.length*aH:=Nat.mul_le_mul_right _ this
    rw [Nat.succ_mul]at az
    rw [pL he];omega)) (by
    rw [←ck, ←ER he l i a ak, ←List.drop_drop,List.drop_take,List.take_take]
    have af:=Nat.le_of_ble_eq_true a7
    rw [Nat.min_eq_left (by omega)])
theorem lN{n i:Nat}{listed:Array Bool}{K:List (ao B)}{t e aH m iv:Nat}{z au:List Value}{parts:List (Nat×Operand)}{bV:List (Nat×Value)}(ak:ops[i]?=some ⟨some d,.buildSlice t m parts.toArray,bd,pos,a3,g⟩)(hw:Want ops N E g)(aE:pT E parts=some bV)(aR:iK P t=some (e,aH,iv,z))
    (j9:m*aH≤16777216) (pU:0<m) (qI:au.length=m*aH) (br:oA ((List.range m).map fun i=>(i*aH,aH)) ((List.range (m*aH)).map (z.toArray[· %z.length]!)) bV=some au) (er:bV.all (fun p=>Nat.blt p.1 m)=true) (aD:Nat.blt d N=true)
    (h:∀b,eE cz P B A r N ops K n (listed.setIfInBounds i true) an ((d,.slice (some ⟨b,0,none⟩) m m)::E) (aa b au e::S) Q):jc cz P B A r N ops K n listed i an E S Q:=by
  refine zT (α:=Nat) (fun b=> .slice (some ⟨b,0,none⟩) m m) (fun b=>aa b au e::S) (fun _=>True) ak hw (by simp) aD (fun a w ap aB=>?_) (fun b _=>h b)
  obtain⟨inf,bq,hu,kV,cq,e0,tr,yn,lY,uZ⟩:=vA aR
  have dc:=ap.pT aE
  have G5:z.length=bq.cells.size:=by rw [←uZ];simp
  have Az:z.toArray=bq.cells:=by rw [←uZ]
  refine⟨w.heap.size,w.alloc (.cells au.toArray e),?_,?_,trivial⟩
  · have kI:¬(16777216<m*aH):=by omega
    have b0:m*aH≠0:=by have:=Nat.mul_pos pU lY;omega
    rw [Az,G5]at br
    simp only [execOp,Instr.buildSlice,Sem.run_bind,run_underlying hu,Result.andThen_ok,sizeOf,typeInfo,run_program,kV,Sem.run_pure,e0]
    simp only [show(2:Nat)^24=16777216 from rfl,gt_iff_lt,kI,if_false,Sem.run_bind,Sem.run_pure,Result.andThen_ok,b0,zeroValue,typeInfo,run_program,kV,cq]
    have dd:(parts.toArray.map fun x=>match x with|(i,x)=>(i,a.eval x)).toList=bV:=by rw [←dc];simp
    have fD:Instr.fill (fun i=>some (i*aH,aH)) ((Array.range (m*aH)).map fun x=>bq.cells[x%bq.cells.size]!) bV=some au.toArray:=by
      have:=BY (place:=fun i=>some (i*aH,aH)) (fun p aE=>by have:=List.all_eq_true.1 er p aE;simp at this;simp [this]) br
      rw [←this]
      congr 1
      apply Array.ext'
      simp [Array.toList_range]
    simp only [dd,fD,newRow,Sem.run_bind,run_newObj_alloc,Result.andThen_ok,Sem.run_pure]
  · have ab:bB B A ([aa w.heap.size au e]++(K++S)) (w.alloc (.cells au.toArray e)):=by simpa using aB.new (.cells au.toArray e)
    simpa using ab.mid
def mQ(P:Program)(N:Nat)(an:List Nat)(E:Env)(op:Op)(v:Value):Prop:=
  (∀c,op≠ .defer c)∧(∀au b,op≠ .select au b)∧∀a w bd pos a3 g d,dq N an E a→(execOp a.eval ⟨d,op,bd,pos,a3,g⟩).run P w= .ok (.value v) w
theorem fx{op:Op}{v:Value}(aE:qZ E op=some v):mQ P N an E op v:=
  ⟨by rintro c rfl;simp [qZ]at aE,by rintro au b rfl;simp [qZ]at aE,fun a w bd pos a3 g d ap=>run_pure aE ap⟩
theorem Jo{Inv:World→Prop}{Q:Exit→Act→World→Prop}{i:Nat}{jD:Oper}{v:Value}(ak:ops[i]?=some jD)(AD:jD.dst.isSome=true)(iM:pW ops=true)(jX:∀c a w,¬Q (.panic c) a w):
    ∀(jO:Nat) (listed:Array Bool) (a:Act) (w:World),
      (∀j ke,ops[j]?=some ke→j≠i→listed.getD j true=false→(∀e∈ke.after,Region.binds .any e=true→e.on≠i)→jD.apart ops ke=true)→
      i∈Region.ready .any ops listed→qd (fun _=>True) P ops jD v a→
      ni cz Inv r P ops Q jO (listed.setIfInBounds i true) (a.put jD.dst v) w→ni cz Inv r P ops Q (jO+1) listed a w:=by
  intro jO
  induction jO with
  |zero=>
    intro listed a w vT bk aZ H
    refine⟨fun cR=>H.inv (by rw [Bool.or_eq_true]at cR;rcases cR with h|h;simp [h];rw [ze h ak AD];simp),fun h=>(by rw [h]at bk;cases bk),fun j aY=>?_⟩
    by_cases nx:j=i
    · subst nx;exact aZ.op (tX iM ak).1 ak trivial H
    · have:=ready_mono aY nx
      rw [H.2.1]at this
      cases this
  |succ jO ih=>
    intro listed a w vT bk aZ H
    refine⟨fun cR=>H.inv (by rw [Bool.or_eq_true]at cR;rcases cR with h|h;simp [h];rw [ze h ak AD];simp),fun h=>(by rw [h]at bk;cases bk),fun j aY=>?_⟩
    by_cases nx:j=i
    · subst nx;exact aZ.op (tX iM ak).1 ak trivial H
    · have ab:=H.2.2 j (ready_mono aY nx)
      obtain⟨z9,ke,sf,lb⟩:=mem_ready.1 aY
      have G7:∀e∈ke.after,Region.binds .any e=true→e.on≠i:=fun e he bb tt=>by
        have ab:=lb e he bb
        have b0:=(mem_ready.1 bk).1
        rw [tt]at ab
        rcases Nat.lt_or_ge i listed.size with eW|eW
        · simp [eW]at b0 ab;rw [b0]at ab;cases ab
        · simp [Array.getElem?_eq_none eW]at ab
      have af:=Jn sf (vT j ke sf nx z9 G7) (tX iM ak) (tX iM sf) jX aZ ab
      have Gg:∀k ok,ops[k]?=some ok→k≠i→(listed.setIfInBounds j true).getD k true=false→
          (∀e∈ok.after,Region.binds .any e=true→e.on≠i)→jD.apart ops ok=true:=fun k ok aj HI wD cR=>by
        refine vT k ok aj HI ?_ cR
        by_cases n7:j=k
        · subst n7;exact z9
        · rw [getD_set_ne true n7]at wD;exact wD
      refine wpOpIn_mono (fun ie b3 az=>ih (listed.setIfInBounds j true) ie b3 Gg (ready_mono bk (Ne.symm nx)) az.1 ?_) af
      rw [Array.setIfInBounds_comm _ _ nx]
      exact az.2
theorem Lb{n:Nat}{listed:Array Bool}{K:List (ao B)}{v:Value}(i:Nat)(ak:ops[i]?=some ⟨some d,op,bd,pos,a3,g⟩)(iM:pW ops=true)
    (br:Region.free .any ops listed i=true) (bk:(Region.ready .any ops listed).contains i=true) (jX:∀c an E S,¬Q (.panic c) an E S) (hw:Want ops N E g) (aE:mQ P N an E op v) (aD:Nat.blt d N=true)
    (h:eE cz P B A r N ops K n (listed.setIfInBounds i true) an ((d,v)::E) S Q):eE cz P B A r N ops K (n+1) listed an E S Q:=by
  intro a w ap aB
  refine Jo ak rfl iM (fun c a w ⟨an,E,S,_,_,q⟩=>jX c an E S q) n listed a w (Region.free_spec ak br) (by simpa using bk) (.inl ⟨Want.wanted (o:=⟨some d,op,bd,pos,a3,g⟩) hw ap,fun w _=>aE.2.2 a w bd pos a3 g (some d) ap⟩) ?_
  exact h _ w (ap.put (by simpa using aD)) aB
theorem Sd{n:Nat}{listed:Array Bool}{K:List (ao B)}{j:Nat}{b hs:Bool}(i:Nat)(t:Nat)(ak:ops[i]?=some ⟨some d,op,bd,pos,a3,some (j,b)⟩)(iM:pW ops=true)
    (br:Region.free .any ops listed i=true) (bk:(Region.ready .any ops listed).contains i=true) (jX:∀c an E S,¬Q (.panic c) an E S) (ab:(ops[j]?).bind (·.dst)=some t) (af:Nat.blt t N=true) (az:E.get t=some (.bool hs)) (bb:hs=!b) (aD:Nat.blt d N=true)
    (h:eE cz P B A r N ops K n (listed.setIfInBounds i true) an ((d,undef)::E) S Q):eE cz P B A r N ops K (n+1) listed an E S Q:=by
  intro a w ap aB
  have aZ:=EP (ops:=ops) ab (by simpa using af) az ap
  refine Jo ak rfl iM (fun c a w ⟨an,E,S,_,_,q⟩=>jX c an E S q) n listed a w (Region.free_spec ak br) (by simpa using bk) (.inr ⟨by simp only [Region.wanted,aZ];subst bb;cases b<;>rfl,rfl⟩) ?_
  exact h _ w (ap.put (by simpa using aD)) aB
def dS(K:ao B):Prop:=∀D w,K.holds D w→∀k,¬D k
theorem Cq(W:World):dS (uX (B:=B) W):=fun D w h=>h.1
theorem dR.dup{K:ao B}{D:Nat→Prop}{w:World}(h:dR S D w)(ap:Out K S R)(aD:dS K):dR (K::S) D w:=by
  obtain⟨dk,dX,bZ,fO,bc,nI⟩:=ap.n5 h
  refine⟨dk,D,fun k=>⟨.inr,fun h=>h.elim (fun h=>(aD _ _ bc k h).elim) id⟩,fun k ab _=>aD _ _ bc k ab,bc,h⟩
theorem bB.dup{K:ao B}{w:World}(h:bB B A S w)(ap:Out K S R)(aD:dS K):bB B A (K::S) w:=by
  obtain⟨D,ab,af⟩:=h
  exact⟨D,ab.dup ap aD,af⟩
theorem zV{K:ao B}{c:Code}(aD:dS K)(ap:Out K S R)(h:X P B A r N c an E (K::S) Q):X P B A r N c an E S Q:=fun a w dy aB=>h a w dy (aB.dup ap aD)
def v9(P:Program)(t:Nat):Option Nat:=match P.underlying t with
  |some (.array n e)=>match P.info? e with
    |some i=>if i.size=1∧(m8 P e=false)∧(P.underlying e).isSome then some n else none
    |none=>none
  |_=>none
theorem uc{t n j:Nat}{x y:Operand}{au:List Value}{k:IntKind}{m:Int}{v:Value}(av:aX E x=some (.agg au.toArray))(aZ:aX E y=some (.int k m))(aR:v9 P t=some n)(hm:m=(j:Int))(aY:j<n)(ck:au[j]?=some v):dp P B A N an E S (.index t x y) v:=
  ⟨by simp,by simp,fun a w bd pos a3 g d ap aB=>by
    unfold v9 at aR
    split at aR
    · rename_i adr e hu
      split at aR
      · rename_i i ak
        split at aR
        · rename_i bg
          simp at aR;subst aR hm
          obtain⟨rh,iV⟩:=Option.isSome_iff_exists.1 bg.2.2
          have ab:au[j]?=some v:=ck
          simp [execOp,ap.aX av,ap.aX aZ,Instr.index,asIntOf,run_underlying hu,aY,sizeOf,typeInfo,ak,bg.1,part,B3 iV,bg.2.1,ab]
        · cases aR
      · cases aR
    · cases aR⟩
theorem Lc{t n aH j k gF:Nat}{bl:Addr}{x i:Operand}{iP:IntKind}{m:Int}(av:aX E x=some (.pointer (some (bl.add k))))(ak:aX E i=some (.int iP m))(aR:nS P t=some (n,aH))
    (hm:m=(j:Int)) (aY:j<n) (mU:k+j*aH=gF):dp P B A N an E S (.indexAddr t x i) (.pointer (some (bl.add gF))):=
  ⟨by simp,by simp,fun a w bd pos a3 g d ap aB=>by
    obtain⟨e,inf,hu,kV,e0,a7⟩:=BW aR
    subst hm e0 mU
    simp [execOp,ap.aX av,ap.aX ak,Instr.indexAt,asIntOf,run_underlying hu,Instr.sureAddr,sizeOf,typeInfo,kV,Nat.not_le.2 aY,BP]⟩
def uk(P:Program)(t:Nat):Bool:=match P.underlying t with
  |some (.pointer _)=>true
  |_=>false
theorem QE{t:Nat}{p:Option Addr}(aR:uk P t=true)(w:World):∀d,(Op.equalIn (d+1) t (.pointer p) (.pointer none)).run P w= .ok p.isNone w:=by
  intro d
  unfold uk at aR
  unfold Op.equalIn
  split at aR
  · rename_i hu
    cases p<;>simp [run_underlying hu]
  · cases aR
theorem Se{t fB:Nat}{x y:Operand}{p:Option Addr}{b:Bool}{gd:BinOp}(av:aX E x=some (.pointer p))(aZ:aX E y=some (.pointer none))(aR:uk P t=true)(bb:(match gd with| .eql=>p.isNone=b| .neq=>(!p.isNone)=b|_=>False)):dp P B A N an E S (.binOp gd t x y fB) (.bool b):=
  ⟨by simp,by simp,fun a w bd pos a3 g d ap aB=>by
    have e:=QE (P:=P) (p:=p) aR w 9999
    cases gd<;>simp only at bb<;>subst bb
    · simp [execOp,ap.aX av,ap.aX aZ,eqGuard,binOp,Op.equal,Op.maxDepth,e]
    · simp [execOp,ap.aX av,ap.aX aZ,eqGuard,binOp,Op.equal,Op.maxDepth,e]⟩
theorem Fk{fn:Func}{t u x:Nat}{v1 v2 IN:Value}{T:World→Prop}(h:fn.results= #[.tmp t,.tmp u,.tmp x])(ab:E.get t=some v1)(af:E.get u=some v2)(az:E.get x=some IN):
    ∀a w,dq N an E a→T w→(results fn a.tmps).run P w= .ok (.tuple #[v1,v2,IN]) w:=by
  intro a w ap _
  have dc:a.tmps[t]?.getD undef=v1:=by have:=ap.get t _ ab;simpa [Array.getD_eq_getD_getElem?]using this
  have dd:a.tmps[u]?.getD undef=v2:=by have:=ap.get u _ af;simpa [Array.getD_eq_getD_getElem?]using this
  have fD:a.tmps[x]?.getD undef=IN:=by have:=ap.get x _ az;simpa [Array.getD_eq_getD_getElem?]using this
  simp [results,h,dc,dd,fD]
theorem BT{fn:Func}{p t b n q bK:Nat}{au:List Value}{dF:TypeId}{aP:List (ao B)}{v v2:Value}(h:fn.results= #[.cell p t,.tmp q,.tmp bK])(aE:E.get p=some (.pointer (some ⟨b,0,none⟩)))(ap:Out (aa b au dF) S aP)(aR:cx P t=some (true,n))(a7:au.length=n)(bP:E.get q=some v)(tu:E.get bK=some v2):
    ∀a w,dq N an E a→bB B A S w→(results fn a.tmps).run P w= .ok (.tuple #[.agg au.toArray,v,v2]) w:=by
  intro a w dy aB
  obtain⟨D,bc⟩:=aB.mem ap
  have aJ:=vy (P:=P) (w:=w) (p:=⟨b,0,none⟩) (bx:=au) aR a7 (fun k aj=>me D w bc k (by omega))
  simp only [Instr.loadAt,Instr.sureAddr,Sem.run_bind,Sem.run_pure,Result.andThen_ok]at aJ
  have nt:a.tmps[p]?.getD undef= .pointer (some ⟨b,0,none⟩):=by have:=dy.get p _ aE;simpa [Array.getD_eq_getD_getElem?]using this
  have p2:a.tmps[q]?.getD undef=v:=by have:=dy.get q _ bP;simpa [Array.getD_eq_getD_getElem?]using this
  have ZJ:a.tmps[bK]?.getD undef=v2:=by have:=dy.get bK _ tu;simpa [Array.getD_eq_getD_getElem?]using this
  simp [results,h,nt,p2,ZJ,asAddr,aJ]
theorem xN{fn:Func}{p q t fB b hs:Nat}{v fi:Value}{dF wF:TypeId}{aP aQ:List (ao B)}(h:fn.results= #[.cell p t,.cell q fB])(aE:E.get p=some (.pointer (some ⟨b,0,none⟩)))(bP:E.get q=some (.pointer (some ⟨hs,0,none⟩)))(ap:Out (aa b [v] dF) S aP)(ey:Out (aa hs [fi] wF) S aQ)(aR:cx P t=some (false,1))(ts:cx P fB=some (false,1)):
    ∀a w,dq N an E a→bB B A S w→(results fn a.tmps).run P w= .ok (.tuple #[v,fi]) w:=by
  intro a w dy aB
  obtain⟨D,bc⟩:=aB.mem ap
  obtain⟨qb,wG⟩:=aB.mem ey
  have aJ:=rI (P:=P) (w:=w) (p:=⟨b,0,none⟩) aR (v:=v) (me D w bc 0 (by simp))
  have jA:=rI (P:=P) (w:=w) (p:=⟨hs,0,none⟩) ts (v:=fi) (me qb w wG 0 (by simp))
  simp only [Instr.loadAt,Instr.sureAddr,Sem.run_bind,Sem.run_pure,Result.andThen_ok]at aJ jA
  have nt:a.tmps[p]?.getD undef= .pointer (some ⟨b,0,none⟩):=by have:=dy.get p _ aE;simpa [Array.getD_eq_getD_getElem?]using this
  have p2:a.tmps[q]?.getD undef= .pointer (some ⟨hs,0,none⟩):=by have:=dy.get q _ bP;simpa [Array.getD_eq_getD_getElem?]using this
  simp [results,h,nt,p2,asAddr,aJ,jA]
def sz(E:Env)(ZK k:Nat):Option Operand→Prop
  |none=>k=ZK
  |some x=>∃iP,aX E x=some (.int iP (k:Int))
theorem Ld{t e aH n c l h m:Nat}{b1:Option Addr}{x:Operand}{gY ak sA:Option Operand}(av:aX E x=some (.slice b1 n c))(aR:hz P t=some (e,aH))(sg:sz E 0 l gY)(wH:sz E n h ak)(wI:sz E c m sA)(hm:ak=none→sA=none)
    (ab:l≤h) (af:h≤m) (az:m≤c):dp P B A N an E S (.slice t x gY ak sA) (.slice (if m=l then b1 else b1.map (·.add (l*aH))) (h-l) (m-l)):=
  ⟨by simp,by simp,fun a w bd pos a3 g d ap aB=>by
    obtain⟨inf,hu,kV,e0⟩:=xn aR
    subst e0
    have key:(Instr.sliceBounds true n c (gY.map a.eval) (ak.map a.eval) (sA.map a.eval)).run P w= .ok (l,h,m) w:=by
      cases sA with
      |none=>
        have abE:m=c:=wI
        subst abE
        cases ak with
        |none=>
          have:h=n:=wH
          subst this
          cases gY with
          |none=>have:l=0:=sg;subst this;simp [Instr.sliceBounds]
          |some o=>obtain⟨iP,he⟩:=sg;simp [Instr.sliceBounds,ap.aX he,run_sliceBound (P:=P) (w:=w) iP l h _ (by omega) (by omega)]
        |some fU=>
          obtain⟨yq,wC⟩:=wH
          cases gY with
          |none=>have:l=0:=sg;subst this;simp [Instr.sliceBounds,ap.aX wC,run_sliceBound (P:=P) (w:=w) yq h m _ (by omega) (by omega)]
          |some o=>obtain⟨iP,he⟩:=sg;simp [Instr.sliceBounds,ap.aX he,ap.aX wC,run_sliceBound (P:=P) (w:=w) iP l h _ (by omega) (by omega),run_sliceBound (P:=P) (w:=w) yq h m _ (by omega) (by omega)]
      |some aez=>
        obtain⟨NH,NI⟩:=wI
        cases ak with
        |none=>cases hm rfl
        |some fU=>
          obtain⟨yq,wC⟩:=wH
          cases gY with
          |none=>have:l=0:=sg;subst this;simp [Instr.sliceBounds,ap.aX wC,ap.aX NI,run_sliceBound (P:=P) (w:=w) yq h m _ (by omega) (by omega),run_sliceBound (P:=P) (w:=w) NH m c _ (by omega) (by omega)]
          |some o=>obtain⟨iP,he⟩:=sg;simp [Instr.sliceBounds,ap.aX he,ap.aX wC,ap.aX NI,run_sliceBound (P:=P) (w:=w) iP l h _ (by omega) (by omega),run_sliceBound (P:=P) (w:=w) yq h m _ (by omega) (by omega),run_sliceBound (P:=P) (w:=w) NH m c _ (by omega) (by omega)]
    simp [execOp,ap.aX av,Instr.sliceAt,Instr.slice,run_underlying hu,key,sizeOf,typeInfo,kV]⟩
def ai.cut{α:Type}(a:ai α)(aH l h m:Nat)(ab:l≤h)(af:h≤a.l.length)(az:h≤m):ai α where
  b1:=if m=l then a.b1 else a.b1.map (·.add (l*aH))
  c:=m-l
  l:=(a.l.drop l).take (h-l)
  nil:=fun e=>by
    have:a.b1=none:=by
      split at e
      · exact e
      · simpa using e
    rw [a.nil this];simp
  small:=by have:=a.small;simp;omega
  cap:=by simp;omega
theorem xu{α:Type}{a:ai α}{t e aH l h m:Nat}{x:Operand}{gY ak sA:Option Operand}(av:aX E x=some (.slice a.b1 a.l.length a.c))(aR:hz P t=some (e,aH))(sg:sz E 0 l gY)(wH:sz E a.l.length h ak)(wI:sz E a.c m sA)(hm:ak=none→sA=none)
    (ab:l≤h) (af:h≤a.l.length) (az:h≤m) (a5:m≤a.c):dp P B A N an E S (.slice t x gY ak sA) (a.cut aH l h m ab af az).v:=by
  have:=Ld (P:=P) (A:=A) (N:=N) (an:=an) (S:=S) av aR sg wH wI hm ab az a5
  have e:(a.cut aH l h m ab af az).l.length=h-l:=by simp [ai.cut];omega
  unfold ai.v
  rw [e];exact this
theorem L2{α:Type}{aW:α→List Value}{a:ai α}{K:ao B}{aH l h m:Nat}{ab:l≤h}{af:h≤a.l.length}{az:h≤m}(he:∀a,(aW a).length=aH)(bk:c1 K a.bl (a.l.flatMap aW)):c1 K (a.cut aH l h m ab af az).bl ((a.cut aH l h m ab af az).l.flatMap aW):=by
  intro D w bc k aj
  rw [pL he]at aj
  have hlen:(a.cut aH l h m ab af az).l.length=h-l:=by simp [ai.cut];omega
  rw [hlen]at aj
  have er:l<h:=by
    rcases Nat.lt_or_ge l h with eW|eW
    · exact eW
    · rw [Nat.sub_eq_zero_of_le eW]at aj;simp at aj
  have kx:m≠l:=by omega
  have kI:a.b1≠none:=fun e=>by have:=a.nil e;rw [this]at af;simp at af;omega
  obtain⟨bl,rl⟩:=Option.ne_none_iff_exists'.1 kI
  have dc:(a.cut aH l h m ab af az).bl=a.bl.add (l*aH):=by simp [ai.cut,ai.bl,kx,rl]
  have aB:(h-l)*aH+l*aH=h*aH:=by rw [←Nat.add_mul];congr 1;omega
  have g4:h*aH≤a.l.length*aH:=Nat.mul_le_mul_right _ af
  have:=bk D w bc (l*aH+k) (by rw [pL he];omega)
  rw [dc,BP,this]
  have key:(a.l.flatMap aW)=(a.l.take l).flatMap aW++((a.l.drop l).take (h-l)).flatMap aW++(a.l.drop h).flatMap aW:=by
    rw [←List.flatMap_append, ←List.flatMap_append]
    congr 1
    conv=>lhs;rw [←List.take_append_drop l a.l, ←List.take_append_drop (h-l) (a.l.drop l),List.drop_drop]
    rw [show l+(h-l)=h by omega,List.append_assoc]
  have a5:((a.l.take l).flatMap aW).length=l*aH:=by rw [pL he,List.length_take,Nat.min_eq_left (by omega)]
  have cd:(((a.l.drop l).take (h-l)).flatMap aW).length=(h-l)*aH:=by rw [pL he,List.length_take,List.length_drop,Nat.min_eq_left (by omega)]
  rw [key,List.append_assoc,List.getElem?_append_right (by omega),a5,Nat.add_sub_cancel_left,List.getElem?_append_left (by omega)]
  rfl
end Go.Sl
end
section
namespace Go.Sl
open Go
variable{cz:Bool}{P:Program}{B:Nat}{A:eD}{r:Option Nat}{N:Nat}{an:List Nat}{E fp:Env}{S R L F:List (ao B)}{Q ic:e7 B}{ops:Array Oper}{rest:List Oper}
variable{d:Nat}{op:Op}{bd:TypeId}{pos:String}{a3:Array Edge}{g:Option (Nat×Bool)}{v:Value}{w b3:World}
abbrev str(l:List UInt8):Value:= .string ⟨l.toArray⟩
abbrev pp(b:UInt8):List Value:=[.int .u8 (b.toNat:Int)]
theorem Rn(a b:List UInt8):(⟨a.toArray⟩:ByteArray)++⟨b.toArray⟩=⟨(a++b).toArray⟩:=by
  apply ByteArray.ext;rw [ByteArray.data_append];simp
theorem Jt(hE:ByteArray):∀(n i:Nat) (r:List UInt8),hE.size-i=n→ByteArray.toList.loop hE i r=r.reverse++hE.data.toList.drop i
  |0,i,r,h=>by
    rw [ByteArray.toList.loop,if_neg (by omega),List.drop_eq_nil_of_le (by have:hE.size=hE.data.size:=rfl;simp;omega),List.append_nil]
  |n+1,i,r,h=>by
    have aB:hE.size=hE.data.size:=rfl
    have ak:i<hE.data.toList.length:=by simp;omega
    rw [ByteArray.toList.loop,if_pos (by omega),Jt hE n (i+1) _ (by omega),List.drop_eq_getElem_cons ak,List.reverse_cons,List.append_assoc]
    have DV:i<hE.data.size:=by omega
    have e:hE.get! i=hE.data.toList[i]:=by show hE.data[i]! =_;rw [getElem!_pos hE.data i DV];simp
    rw [e];simp
theorem Ju(l:List UInt8):ByteArray.toList ⟨l.toArray⟩=l:=by
  rw [ByteArray.toList,Jt _ _ 0 [] rfl];simp
theorem fS{x y:Operand}{t fB:Nat}{a b:List UInt8}(av:aX E x=some (str a))(aZ:aX E y=some (str b))(h:a.length+b.length≤9223372036854775807):dp P B A N an E S (.binOp .add t x y fB) (str (a++b)):=
  ⟨by simp,by simp,fun ac w bd pos a3 g d ap aB=>by
    have ab:¬(((⟨a.toArray⟩:ByteArray).size+(⟨b.toArray⟩:ByteArray).size:Nat):Int)>IntKind.i64.max:=by
      show¬(((a.toArray.size+b.toArray.size:Nat):Int)>9223372036854775807)
      simp;omega
    simp only [execOp,ap.aX av,ap.aX aZ]
    have af:((⟨a.toArray⟩:ByteArray).size:Int)=a.length:=by show((a.toArray.size:Nat):Int)=_;simp
    have az:((⟨b.toArray⟩:ByteArray).size:Int)=b.length:=by show((b.toArray.size:Nat):Int)=_;simp
    simp [eqGuard,binOp,Op.stringOp,Rn,af,az]
    omega⟩
theorem k6{x y:Operand}{t fB:Nat}{a b:List UInt8}{q:Bool}{gd:BinOp}(av:aX E x=some (str a))(aZ:aX E y=some (str b))(bP:(match gd with| .eql=>(a==b)=q| .neq=>(!(a==b))=q|_=>False)):dp P B A N an E S (.binOp gd t x y fB) (.bool q):=
  ⟨by simp,by simp,fun ac w bd pos a3 g d ap aB=>by
    cases gd<;>simp only at bP<;>subst bP
    · simp [execOp,ap.aX av,ap.aX aZ,eqGuard,binOp,Op.stringOp,Ju]
    · simp [execOp,ap.aX av,ap.aX aZ,eqGuard,binOp,Op.stringOp,Ju]⟩
def G9(P:Program)(s t:Nat):Bool:=match P.underlying s,P.underlying t with
  |some (.slice e),some .string=>(match P.underlying e with|some (.int .u8)=>true|_=>false)
  |_,_=>false
theorem JO:∀l:List UInt8,l.flatMap pp=l.map fun b=>Value.int .u8 (b.toNat:Int)
  |[]=>rfl
  |b::l=>by rw [List.flatMap_cons,JO l];rfl
theorem Vq{x:Operand}{s t:Nat}{a:ai UInt8}{l:List UInt8}{K:ao B}(av:aX E x=some (.slice a.b1 a.l.length a.c))(ey:Out K S R)(bk:c1 K a.bl (l.flatMap pp))(aJ:l.length=a.l.length)(aR:G9 P s t=true):dp P B A N an E S (.convert s t x) (str l):=
  ⟨by simp,by simp,fun ac w bd pos a3 g d ap aB=>by
    obtain⟨D,bc⟩:=aB.mem ey
    have bg:=bk D w bc
    unfold G9 at aR
    split at aR
    · rename_i e hu OY
      split at aR
      · rename_i OZ
        have G8:(convert s t (.slice a.b1 a.l.length a.c)).run P w= .ok (str l) w:=by
          cases NJ:a.b1 with
          |none=>
            have:l=[]:=List.length_eq_zero_iff.1 (by rw [aJ,a.nil NJ];rfl)
            subst this
            exact run_convert_bytes_nil w s e hu OZ _ _ t OY
          |some bl=>
            have rl:a.bl=bl:=by simp [ai.bl,NJ]
            rw [rl]at bg
            have p3:l.flatMap pp=l.map fun b=>Value.int .u8 (b.toNat:Int):=JO l
            rw [p3]at bg
            have abF:(loadCells bl a.l.length).run P w= .ok ((l.map fun b=>(b.toNat:Int)).map (Value.int .u8)).toArray w:=by
              have:=run_loadCells_list (P:=P) w bl (l.map fun b=>Value.int .u8 (b.toNat:Int)) (fun j v aY=>by
                rw [bg j (List.getElem?_eq_some_iff.1 aY).1];exact aY)
              rw [List.map_map]
              simpa [aJ,Function.comp_def]using this
            rw [run_convert_bytes_string w s t e _ _ _ hu OZ OY,run_bytesToString w _ _ _ _ abF,foldl_push_bytes]
            have:(l.map fun b=>(b.toNat:Int)).map (fun n=>UInt8.ofNat n.toNat)=l:=by
              rw [List.map_map];conv=>rhs;rw [←List.map_id l]
              apply List.map_congr_left;intro b _;simp
            rw [this];simp [ByteArray.empty,ByteArray.emptyWithCapacity];rfl
        simp [execOp,ap.aX av,G8]
      · cases aR
    · cases aR⟩
theorem bB.JP{b n c e aH:Nat}{xs:List Value}(h:bB B A (row (.slice (some ⟨b,0,none⟩) n c) e aH n xs::S) w):
    ∃gU:List Value,bB B A (aa b gU e::S) w∧xs.length=n*aH∧B≤b∧n≤c∧c≤maxLen∧gU.length=c*aH∧gU.take (n*aH)=xs:=by
  obtain⟨D,⟨dk,dX,bZ,aD,⟨⟨ab,af⟩,az⟩,aB⟩,bk⟩:=h
  rcases af with⟨af,_⟩|⟨g,cap,gU,ck,bh,eJ,a7,Ha,Hb,tv⟩
  · cases af
  · cases ck
    refine⟨gU.toList,⟨D,⟨dk,dX,bZ,aD,⟨fun k=>?_,eJ⟩,aB⟩,bk⟩,ab,bh,a7,Ha,by simpa using Hb,tv⟩
    rw [az k];simp [Value.ownBlock,eq_comm]
theorem bB.E1{b n c e aH:Nat}{xs gU:List Value}(h:bB B A (aa b gU e::S) w)(ab:xs.length=n*aH)(bh:B≤b)(a7:n≤c)(Ha:c≤maxLen)(Hb:gU.length=c*aH)(tv:gU.take (n*aH)=xs):
    bB B A (row (.slice (some ⟨b,0,none⟩) n c) e aH n xs::S) w:=by
  obtain⟨D,⟨dk,dX,bZ,aD,⟨az,eJ⟩,aB⟩,bk⟩:=h
  refine⟨D,⟨dk,dX,bZ,aD,⟨⟨ab,.inr ⟨b,c,gU.toArray,rfl,bh,eJ,a7,Ha,by simpa using Hb,by simpa using tv⟩⟩,fun k=>?_⟩,aB⟩,bk⟩
  rw [az k];simp [Value.ownBlock,eq_comm]
theorem uv{α:Type}{aW:α→List Value}{b1:Option Addr}{c n:Nat}{xs p4:List α}{t e i:Nat}{y:α}{x z:Operand}(iT:∀bl,b1=some bl→∃g,bl=⟨g,0,none⟩)
    (av:aX E x=some (.pointer (some ((b1.getD ⟨0,0,none⟩).add (i*1))))) (aZ:aX E z=some v) (he:∀a,(aW a).length=1) (ck:aW y=[v]) (ab:v.oneCell'=true) (ey:Out (row (.slice b1 n c) e 1 n (xs.flatMap aW)) S R) (aR:cx P t=some (false,1))
    (ak:i<xs.length) (iJ:xs.set i y=p4):oW P B A N an E S (.store t x z) (row (.slice b1 n c) e 1 n (p4.flatMap aW)::R):=
  ⟨by simp,fun a w bd pos a3 g ap aB=>by
    have p3:∀l:List α,(l.flatMap aW).length=l.length:=fun l=>by have:=pL (aH:=1) he (l:=l);simpa using this
    have et:bB B A (row (.slice b1 n c) e 1 n (xs.flatMap aW)::R) w:=aB.take (.cons ey (.nil _))
    cases b1 with
    |none=>
      obtain⟨D,⟨⟨af,az⟩,_⟩⟩:=et.mem (.here _ _)
      rcases az with⟨_,az⟩|⟨g,cap,gU,ck,_⟩
      · rw [p3]at af;omega
      · cases ck
    |some bl=>
      obtain⟨b,rfl⟩:=iT bl rfl
      have av:aX E x=some (.pointer (some ⟨b,i,none⟩)):=by rw [av];simp [mG]
      obtain⟨gU,bb,bM,bS,cD,cV,ff,gE⟩:=et.JP
      rw [p3]at bM
      obtain⟨D,nh⟩:=bb.mem (.here _ _)
      refine⟨w.setCell ⟨b,i,none⟩ v,by simp [execOp,ap.aX av,ap.aX aZ,EQ (k:=i) ab aR (by omega) nh.2],?_⟩
      refine(bb.store i v).E1 (by rw [p3, ←iJ,List.length_set];exact bM) bS cD cV (by simpa using ff) ?_
      have kW:∀(l:List α) (i:Nat),i<l.length→(l.flatMap aW).set i v=(l.set i y).flatMap aW:=by
        intro l
        induction l with
        |nil=>intro i ak;simp at ak
        |cons a l ih=>
          intro i ak
          obtain⟨u,hu⟩:∃u,aW a=[u]:=List.length_eq_one_iff.1 (he a)
          cases i with
          |zero=>simp [List.flatMap_cons,hu,ck]
          |succ i=>simp [List.flatMap_cons,hu];exact ih i (by simpa using ak)
      rw [List.take_set,gE,kW xs i ak,iJ]⟩
theorem qk{α:Type}{aW:α→List Value}{a:ai α}{xs:List α}{e aH n:Nat}(h:a.Own)(a7:n=a.l.length)(aJ:xs.length=a.l.length):c1 (row (B:=B) (.slice a.b1 a.l.length a.c) e aH n (xs.flatMap aW)) a.bl (xs.flatMap aW):=by
  subst a7
  cases ap:a.b1 with
  |none=>
    have:xs=[]:=List.length_eq_zero_iff.1 (by rw [aJ,a.nil ap];rfl)
    subst this;intro D w _ k aj;simp at aj
  |some bl=>
    obtain⟨g,rfl⟩:=h bl ap
    have:a.bl=⟨g,0,none⟩:=by simp [ai.bl,ap]
    rw [this]
    exact LX
theorem bB.Tr{b:Nat}{au:List Value}{e:TypeId}(h:bB B A (aa b au e::S) w):B≤b:=by
  obtain⟨D,⟨dk,dX,bZ,aD,⟨az,eJ⟩,aB⟩,bk,_⟩:=h
  exact(bk b ((bZ b).2 (.inl ((az b).2 rfl)))).1
theorem Sf{α:Type}{code:Code}{b e:Nat}(aW:α→List Value)(l:List α)(aJ:l.length≤9223372036854775807)(he:∀a,(aW a).length=1)(hm:l.length≤maxLen){au:List Value}(qI:l.flatMap aW=au)(ap:Out (aa b au e) S R)
    (h:X P B A r N code an E (row (.slice (ai.lit b l aJ).b1 (ai.lit b l aJ).l.length (ai.lit b l aJ).c) e 1 (ai.lit b l aJ).l.length ((ai.lit b l aJ).l.flatMap aW)::R) Q):X P B A r N code an E S Q:=by
  subst qI
  intro a w dy aB
  have ab:=aB.take (.cons ap (.nil _))
  have p3:(l.flatMap aW).length=l.length*1:=by have:=pL (aH:=1) he (l:=l);simpa using this
  exact h a w dy (ab.E1 p3 ab.Tr (Nat.le_refl _) hm p3 (by show List.take (l.length*1) (l.flatMap aW)=l.flatMap aW;rw [←p3];exact List.take_length))
theorem h7{t n e aH j c gF:Nat}{bl:Option Addr}{x i:Operand}{k:IntKind}{m:Int}(av:aX E x=some (.slice bl n c))(ak:aX E i=some (.int k m))(aR:hz P t=some (e,aH))
    (cq:bl=none→n=0) (hm:m=(j:Int)) (aY:j<n) (mU:j*aH=gF):mQ P N an E (.indexAddr t x i) (.pointer (some ((bl.getD ⟨0,0,none⟩).add gF))):=by
  cases bl with
  |none=>have:=cq rfl;omega
  |some bl=>
    exact⟨by simp,by simp,fun a w bd pos a3 g d ap=>by
      obtain⟨inf,hu,kV,e0⟩:=xn aR
      subst hm e0 mU
      simp [execOp,ap.aX av,ap.aX ak,Instr.indexAt,asIntOf,run_underlying hu,sizeOf,typeInfo,kV,Nat.not_le.2 aY]⟩
theorem Sg{t e aH iv n m c:Nat}{z xs news:List Value}{x y:Operand}{K:ao B}{bl:Addr}{jo:List (ao B)}(av:aX E x=some v)(aZ:aX E y=some (.slice (some bl) m c))(aR:iK P t=some (e,aH,iv,z))
    (jl:Out (row v e aH n xs) S R) (kY:Out K S jo) (bk:c1 K bl news) (aJ:news.length=m*aH) (ab:∀u∈news,u.oneCell'=true) (oX:n+m≤maxLen) (mV:(n+m)*iv≤140737488355328):
    ∀a w,dq N an E a→bB B A S w→∃fi b3,(execOp a.eval ⟨some d,.call {callee:= .builtin .append,args:= #[x,y],argTypes:= #[t,t]},bd,pos,a3,g⟩).run P w= .ok (.value fi) b3∧bB B A (row fi e aH (n+m) (xs++news)::R) b3∧(fi= .slice none 0 0↔v= .slice none 0 0∧m=0):=fun a w ap aB=>by
    obtain⟨i,bq,hu,ak,cq,e0,tr,yn,pU,_⟩:=vA aR
    obtain⟨Bo,bc⟩:=aB.mem kY
    have hq:=aB.size
    obtain⟨D,⟨dk,dX,bZ,fO,⟨iT,wy⟩,eK⟩,af,az,a5,cd,c5⟩:=aB.take (.cons jl (.nil _))
    obtain⟨fi,b3,hG,zS,oY,v5⟩:=run_append_own (P:=P) w B t bd e i bq aH iv hu ak cq e0 tr yn pU v n xs iT bl m c news aJ
      (fun j u aY=>by rw [bk Bo w bc j (List.getElem?_eq_some_iff.1 aY).1,aY]) ab oX mV hq
    refine⟨fi,b3,?_,?_,v5⟩
    · simp [execOp,resolve,invoke,builtin,ap.aX av,ap.aX aZ,hG]
    · have er:=zS.lt
      have hold:∀k,v.ownBlock=some k→D k:=fun k aj=>(bZ k).2 (.inl ((wy k).2 aj))
      have z8:=Jf (P:=P) hu ak cq e0 iT aJ (fun j u aY=>by rw [bk Bo w bc j (List.getElem?_eq_some_iff.1 aY).1,aY]) ab oX (by rw [tr];exact mV) v5 hG
      refine⟨fun k=>fi.ownBlock=some k∨dX k,⟨fun k=>fi.ownBlock=some k,dX,fun _=>Iff.rfl,fun k aj jm=>?_,⟨zS,fun _=>Iff.rfl⟩,eK.lQ fun k aj=>?_⟩,fun k aj=>?_,fun k aj=>?_,⟨oY.os.trans a5.os,oY.tape.trans a5.tape,oY.output.trans a5.output,Nat.le_trans a5.size oY.size,fun k aj a7=>?_⟩,cd,c5⟩
      · rcases z8 k aj with h|h
        · exact fO k ((wy k).2 h) jm
        · have:=(af k ((bZ k).2 (.inr jm))).2;omega
      · refine oY.block k ?_ ?_
        · rcases aj with aj|aj
          · omega
          · exact(af k ((bZ k).2 (.inr aj))).2
        · intro e
          rcases aj with aj|aj
          · have:=(af k (hold k e.symm)).1;omega
          · exact fO k ((wy k).2 e.symm) aj
      · rcases aj with aj|aj
        · exact er k aj
        · have:=af k ((bZ k).2 (.inr aj));have:=oY.size;omega
      · rcases aj with aj|aj
        · rcases z8 k aj with h|h
          · exact az k (hold k h)
          · have:=a5.size;exact .inr (by omega)
        · exact az k ((bZ k).2 (.inr aj))
      · have:=a5.size
        refine(oY.block k (by omega) (fun e=>?_)).trans (a5.same k aj a7)
        rcases az k (hold k e.symm)with h|h
        · exact a7 h
        · omega
theorem QI{α:Type}{aW:α→List Value}{c b:ai α}{t e aH iv:Nat}{z:List Value}{x gM:Operand}{K:ao B}{jo:List (ao B)}(av:aX E x=some (.slice c.b1 c.l.length c.c))(aZ:aX E gM=some (.slice b.b1 b.l.length b.c))(aR:iK P t=some (e,aH,iv,z))
    (jl:Out (row (.slice c.b1 c.l.length c.c) e aH c.l.length (c.l.flatMap aW)) S R) (kY:Out K S jo) (bk:c1 K b.bl (b.l.flatMap aW)) (he:∀a,(aW a).length=aH) (ab:∀a,(aW a).all (·.oneCell')=true) (oX:c.l.length+b.l.length≤9223372036854775807-1000) (mV:(c.l.length+b.l.length)*iv≤140737488355328):
    ∀a w,dq N an E a→bB B A S w→∃(bC:ai α) (b3:World),(execOp a.eval ⟨some d,.call {callee:= .builtin .append,args:= #[x,gM],argTypes:= #[t,t]},bd,pos,a3,g⟩).run P w= .ok (.value (.slice bC.b1 bC.l.length bC.c)) b3∧bB B A (row (.slice bC.b1 bC.l.length bC.c) e aH bC.l.length (bC.l.flatMap aW)::R) b3∧(bC.l=c.l++b.l∧bC.Own):=fun a w ap aB=>by
  have key:∃fi b3,(execOp a.eval ⟨some d,.call {callee:= .builtin .append,args:= #[x,gM],argTypes:= #[t,t]},bd,pos,a3,g⟩).run P w= .ok (.value fi) b3∧bB B A (row fi e aH (c.l.length+b.l.length) (c.l.flatMap aW++b.l.flatMap aW)::R) b3:=by
    cases bb:b.b1 with
    |some bl=>
      have rl:b.bl=bl:=by simp [ai.bl,bb]
      rw [bb]at aZ;rw [rl]at bk
      obtain⟨fi,b3,bM,bS,_⟩:=Sg (N:=N) (an:=an) (d:=d) (bd:=bd) (pos:=pos) (a3:=a3) (g:=g) av aZ aR jl kY bk (pL he _) (fun u hu=>by
        obtain⟨a,_,aO⟩:=List.mem_flatMap.1 hu
        exact List.all_eq_true.1 (ab a) u aO) (by unfold maxLen;omega) mV a w ap aB
      exact⟨fi,b3,bM,bS⟩
    |none=>
      have aJ:=b.nil bb
      rw [bb,aJ]at aZ
      obtain⟨i,bq,hu,ak,_⟩:=vA aR
      have iJ:=aB.take (.cons jl (.nil _))
      obtain⟨D,bc⟩:=iJ.mem (.here _ _)
      have hG:=Jc (P:=P) (bd:=bd) (c:=b.c) hu ak bc.1
      exact⟨_,w,by simp [execOp,resolve,invoke,builtin,ap.aX av,ap.aX aZ,hG];rfl,by rw [aJ];simpa using iJ⟩
  obtain⟨fi,b3,bM,bS⟩:=key
  obtain⟨bC,iq,iT,rfl⟩:=Cp (l:=c.l++b.l) (aW:=aW) bS (.here _ _) (by simp)
  refine⟨bC,b3,bM,?_,iq,iT⟩
  rw [show c.l.length+b.l.length=bC.l.length from by rw [iq];simp,show c.l.flatMap aW++b.l.flatMap aW=bC.l.flatMap aW from by rw [iq,List.flatMap_append]]at bS
  exact bS
theorem Out.pre{α:Type}{x:α}{S R:List α}(h:Out x S R):∀(K:List α),Out x (K++S) (K++R)
  |[]=>h
  |y::K=> .there y (Out.pre h K)
theorem mb{α:Type}{aW:α→List Value}{c b:ai α}{n i:Nat}{listed:Array Bool}{Bt:List (ao B)}{t e aH iv:Nat}{z:List Value}{x gM:Operand}{K:ao B}{jo Z:List (ao B)}(ak:ops[i]?=some ⟨some d,.call {callee:= .builtin .append,args:= #[x,gM],argTypes:= #[t,t]},bd,pos,a3,g⟩)(hw:Want ops N E g)
    (av:aX E x=some (.slice c.b1 c.l.length c.c)) (aZ:aX E gM=some (.slice b.b1 b.l.length b.c)) (aR:iK P t=some (e,aH,iv,z))
    (jl:Out (row (.slice c.b1 c.l.length c.c) e aH c.l.length (c.l.flatMap aW)) S R) (ig:gJ Bt S Z) (kY:Out K Z jo) (bk:c1 K b.bl (b.l.flatMap aW)) (he:∀a,(aW a).length=aH) (ab:∀a,(aW a).all (·.oneCell')=true) (oX:c.l.length+b.l.length≤9223372036854775807-1000) (mV:(c.l.length+b.l.length)*iv≤140737488355328) (aD:Nat.blt d N=true)
    (h:∀bC:ai α,bC.l=c.l++b.l→bC.Own→eE cz P B A r N ops Bt n (listed.setIfInBounds i true) an ((d,.slice bC.b1 bC.l.length bC.c)::E) (row (.slice bC.b1 bC.l.length bC.c) e aH bC.l.length (bC.l.flatMap aW)::R) Q):jc cz P B A r N ops Bt n listed i an E S Q:=by
  have ig:=ig.eq;subst ig
  refine zT (α:=ai α) (fun bC=> .slice bC.b1 bC.l.length bC.c) (fun bC=>row (.slice bC.b1 bC.l.length bC.c) e aH bC.l.length (bC.l.flatMap aW)::R) (fun bC=>bC.l=c.l++b.l∧bC.Own) ak hw (by simp) aD (fun a w ap aB=>?_) (fun bC ⟨bM,bS⟩=>h bC bM bS)
  obtain⟨bC,b3,bM,bS,cD⟩:=QI (N:=N) (an:=an) (d:=d) (bd:=bd) (pos:=pos) (a3:=a3) (g:=g) av aZ aR (jl.pre Bt) kY bk he ab oX mV a w ap aB
  refine⟨bC,b3,bM,?_,cD⟩
  have cV:bB B A ([row (.slice bC.b1 bC.l.length bC.c) e aH bC.l.length (bC.l.flatMap aW)]++(Bt++R)) b3:=bS
  simpa using cV.mid
def ya(P:Program)(t f:Nat):Option Nat:=match P.underlying t with
  |some (.struct fC)=>match fC[f]? with
    |some fd=>if m8 P fd.type=false∧(P.underlying fd.type).isSome then some fd.offset else none
    |none=>none
  |_=>none
theorem ud{t f o:Nat}{x:Operand}{au:List Value}(av:aX E x=some (.agg au.toArray))(aR:ya P t f=some o)(ck:au[o]?=some v):dp P B A N an E S (.field t x f) v:=
  ⟨by simp,by simp,fun a w bd pos a3 g d ap aB=>by
    unfold ya at aR
    split at aR
    · rename_i fC hu
      split at aR
      · rename_i fd br
        split at aR
        · rename_i bg
          simp at aR;subst aR
          obtain⟨rh,iV⟩:=Option.isSome_iff_exists.1 bg.2
          simp only [execOp,ap.aX av]
          simp [Instr.field,run_underlying hu,br,part,asAgg,B3 iV,bg.1,ck]
        · cases aR
      · cases aR
    · cases aR⟩
theorem mF{fn:Func}{p t b:Nat}{dF:TypeId}{aP:List (ao B)}(h:fn.results= #[.cell p t])(aE:E.get p=some (.pointer (some ⟨b,0,none⟩)))(ap:Out (aa b [v] dF) S aP)(aR:cx P t=some (false,1)):
    ∀a w,dq N an E a→bB B A S w→(results fn a.tmps).run P w= .ok v w:=by
  intro a w dy aB
  obtain⟨D,bc⟩:=aB.mem ap
  have aJ:=rI (P:=P) (w:=w) (p:=⟨b,0,none⟩) aR (me D w bc 0 (by simp))
  simp only [Instr.loadAt,Instr.sureAddr,Sem.run_bind,Sem.run_pure,Result.andThen_ok]at aJ
  have nt:a.tmps[p]?.getD undef= .pointer (some ⟨b,0,none⟩):=by have:=dy.get p _ aE;simpa [Array.getD_eq_getD_getElem?]using this
  simp [results,h,nt,asAddr,aJ]
end Go.Sl
end
section
namespace Go.Sl
open Go
variable{cz:Bool}{P:Program}{B:Nat}{A:eD}{r:Option Nat}{N:Nat}{an:List Nat}{E fp:Env}{S R L F:List (ao B)}{Q ic:e7 B}{ops:Array Oper}{rest:List Oper}
theorem Vr{t:Nat}{l:List UInt8}{x:Operand}{di:Array TypeId}(av:aX E x=some (str l))(has:di[0]?=some t)(aR:P.underlying t=some .string):dp P B A N an E S (.call {callee:= .builtin .len,args:= #[x],argTypes:=di}) (.int .i64 (l.length:Int)):=
  ⟨by simp,by simp,fun a w bd pos a3 g d ap aB=>by
    have:(⟨l.toArray⟩:ByteArray).size=l.length:=by show l.toArray.size=_;simp
    simp [execOp,resolve,invoke,builtin,ap.aX av,Builtin.len_,has,run_underlying aR,goInt,this]⟩
theorem ul{t i:Nat}{x y:Operand}{l:List UInt8}{k:IntKind}{m:Int}{b:UInt8}(av:aX E x=some (str l))(aZ:aX E y=some (.int k m))(hu:P.underlying t=some .string)(hm:m=(i:Int))(bb:l[i]?=some b):
    dp P B A N an E S (.index t x y) (.int .u8 (b.toNat:Int)):=by
  refine Sc av aZ hu hm ?_
  obtain⟨h,e⟩:=List.getElem?_eq_some_iff.1 bb
  show(⟨l.toArray⟩:ByteArray)[i]?=some b
  have eW:i<(⟨l.toArray⟩:ByteArray).size:=by show i<l.toArray.size;simpa using h
  rw [getElem?_pos (⟨l.toArray⟩:ByteArray) i eW]
  show some (l.toArray[i]'_)=some b
  simp [e]
theorem BO(l:List UInt8)(i j:Nat):(⟨l.toArray⟩:ByteArray).extract i j=⟨((l.drop i).take (j-i)).toArray⟩:=by
  apply ByteArray.ext
  rw [ByteArray.data_extract]
  simp [List.take_drop]
theorem vE{t gY ak:Nat}{x:Operand}{l p:List UInt8}{AG yr:Option Operand}(av:aX E x=some (str l))(aR:P.underlying t=some .string)(sg:sz E 0 gY AG)(wH:sz E l.length ak yr)(ab:gY≤ak)(af:ak≤l.length)
    (aE:(l.drop gY).take (ak-gY)=p):dp P B A N an E S (.slice t x AG yr none) (str p):=
  ⟨by simp,by simp,fun a w bd pos a3 g d ap aB=>by
    have e0:(⟨l.toArray⟩:ByteArray).size=l.length:=by show l.toArray.size=_;simp
    have key:∀(o:Option Operand) (IP k:Nat),sz E IP k o→∃r:Option Value,o.map a.eval=r∧(match r with|some v=>∃iP,v= .int iP (k:Int)|none=>k=IP):=by
      intro o IP k h
      cases o with
      |none=>exact⟨none,rfl,h⟩
      |some y=>obtain⟨iP,he⟩:=h;exact⟨some (.int iP k),by simp [ap.aX he],iP,rfl⟩
    obtain⟨qe,dc,dg⟩:=key AG _ _ sg
    obtain⟨jq,dd,bC⟩:=key yr _ _ wH
    have hG:(Instr.slice t (str l) qe jq none).run P w= .ok (str p) w:=by
      subst aE
      cases qe with
      |none=>
        simp only at dg;subst dg
        cases jq with
        |none=>simp only at bC;subst bC;simp [Instr.slice,run_underlying aR,Instr.sliceBounds,e0,BO]
        |some v=>
          obtain⟨iP,rfl⟩:=bC
          simp [Instr.slice,run_underlying aR,Instr.sliceBounds,Instr.sliceBound,asIntOf,e0,BO,af]
      |some u=>
        obtain⟨iP,rfl⟩:=dg
        cases jq with
        |none=>simp only at bC;subst bC;simp [Instr.slice,run_underlying aR,Instr.sliceBounds,Instr.sliceBound,asIntOf,e0,BO,ab]
        |some v=>
          obtain⟨yq,rfl⟩:=bC
          simp [Instr.slice,run_underlying aR,Instr.sliceBounds,Instr.sliceBound,asIntOf,e0,BO,ab,af]
    simp only [execOp,ap.aX av,dc,dd]
    have e:(Instr.sliceAt t (str l) qe jq none).run P w= .ok (str p) w:=by
      rw [←hG];simp [Instr.sliceAt,run_underlying aR]
    simp only [Option.map_none]
    rw [Sem.run_bind,e];rfl⟩
theorem zA{fn:Func}{p q t fB b hs n:Nat}{au:List Value}{fi:Value}{dF wF:TypeId}{aP aQ:List (ao B)}(h:fn.results= #[.cell p t,.cell q fB])(aE:E.get p=some (.pointer (some ⟨b,0,none⟩)))(bP:E.get q=some (.pointer (some ⟨hs,0,none⟩)))(ap:Out (aa b au dF) S aP)(ey:Out (aa hs [fi] wF) S aQ)(aR:cx P t=some (true,n))(ts:cx P fB=some (false,1))(a7:au.length=n):
    ∀a w,dq N an E a→bB B A S w→(results fn a.tmps).run P w= .ok (.tuple #[.agg au.toArray,fi]) w:=by
  intro a w dy aB
  obtain⟨D,bc⟩:=aB.mem ap
  obtain⟨qb,wG⟩:=aB.mem ey
  have aJ:=vy (P:=P) (w:=w) (p:=⟨b,0,none⟩) (bx:=au) aR a7 (fun k aj=>me D w bc k (by omega))
  have jA:=rI (P:=P) (w:=w) (p:=⟨hs,0,none⟩) ts (v:=fi) (me qb w wG 0 (by simp))
  simp only [Instr.loadAt,Instr.sureAddr,Sem.run_bind,Sem.run_pure,Result.andThen_ok]at aJ jA
  have nt:a.tmps[p]?.getD undef= .pointer (some ⟨b,0,none⟩):=by have:=dy.get p _ aE;simpa [Array.getD_eq_getD_getElem?]using this
  have p2:a.tmps[q]?.getD undef= .pointer (some ⟨hs,0,none⟩):=by have:=dy.get q _ bP;simpa [Array.getD_eq_getD_getElem?]using this
  simp [results,h,nt,p2,asAddr,aJ,jA]
theorem qm{n d i:Nat}{listed:Array Bool}{K Z:List (ao B)}{op:Op}{bd:TypeId}{pos:String}{a3:Array Edge}{g:Option (Nat×Bool)}{v:Value}(ak:ops[i]?=some ⟨some d,op,bd,pos,a3,g⟩)(hw:Want ops N E g)(ig:gJ K S Z)(aE:dp P B A N an E Z op v)(aD:Nat.blt d N=true)
    (h:eE cz P B A r N ops K n (listed.setIfInBounds i true) an ((d,v)::E) S Q):jc cz P B A r N ops K n listed i an E S Q:=
  zT (α:=Unit) (fun _=>v) (fun _=>S) (fun _=>True) ak hw aE.1 aD (fun a w ap aB=>⟨(),w,aE.2.2 a w bd pos a3 g (some d) ap (by rw [←ig.eq];exact aB),aB,trivial⟩) (fun _ _=>h)
theorem qh{x:Operand}{bl:Addr}(av:aX E x=some (.pointer (some bl))):mQ P N an E (.nilCheck x) (.pointer (some bl)):=
  ⟨by simp,by simp,fun a w bd pos a3 g d ap=>by simp [execOp,ap.aX av]⟩
theorem xO{s f b o off fU:Nat}{x:Operand}(av:aX E x=some (.pointer (some ⟨b,o,none⟩)))(br:bU P s f=some off)(ey:Nat.add o off=fU):mQ P N an E (.fieldAddr s x f) (.pointer (some ⟨b,fU,none⟩)):=
  ⟨by simp,by simp,fun a w bd pos a3 g d ap=>by
    have:o+off=fU:=ey
    simp [execOp,ap.aX av,BU _ br,mG,this]⟩
theorem Ts{s f k off gF:Nat}{bl:Addr}{x:Operand}(av:aX E x=some (.pointer (some (bl.add k))))(br:bU P s f=some off)(aj:k+off=gF):mQ P N an E (.fieldAddr s x f) (.pointer (some (bl.add gF))):=
  ⟨by simp,by simp,fun a w bd pos a3 g d ap=>by
    have e:(bl.add k).add off=bl.add gF:=by
      subst aj;unfold Addr.add;by_cases ak:k=0<;>by_cases aY:off=0<;>simp [ak,aY,Nat.add_assoc]
    simp [execOp,ap.aX av,BU _ br,e]⟩
theorem m5{t b o n aH j fU:Nat}{x i:Operand}{k:IntKind}{m:Int}(av:aX E x=some (.pointer (some ⟨b,o,none⟩)))(ak:aX E i=some (.int k m))(aR:nS P t=some (n,aH))
    (hm:m=(j:Int)) (aY:j<n) (ey:o+j*aH=fU):mQ P N an E (.indexAddr t x i) (.pointer (some ⟨b,fU,none⟩)):=
  ⟨by simp,by simp,fun a w bd pos a3 g d ap=>by
    obtain⟨e,inf,hu,kV,e0,a7⟩:=BW aR
    subst hm e0 ey
    simp [execOp,ap.aX av,ap.aX ak,Instr.indexAt,asIntOf,run_underlying hu,Instr.sureAddr,sizeOf,typeInfo,kV,Nat.not_le.2 aY,mG]⟩
theorem Vs{t n c e aH:Nat}{bl:Option Addr}{x:Operand}{di:Array TypeId}(av:aX E x=some (.slice bl n c))(has:di[0]?=some t)(aR:hz P t=some (e,aH)):mQ P N an E (.call {callee:= .builtin .len,args:= #[x],argTypes:=di}) (.int .i64 n):=
  ⟨by simp,by simp,fun a w bd pos a3 g d ap=>by
    obtain⟨inf,hu,_,_⟩:=xn aR
    simp [execOp,resolve,invoke,builtin,ap.aX av,Builtin.len_,has,run_underlying hu,goInt]⟩
abbrev jk(l:List UInt8):List Value:=[str l]
end Go.Sl
end
section
namespace Go.Sl
open Go
variable{P:Program}{B:Nat}{A:eD}{r:Option Nat}{N:Nat}{an:List Nat}{E fp:Env}{S R L F:List (ao B)}{Q ic:e7 B}{ops:Array Oper}{rest:List Oper}
def bG:ao B where
  holds D _:=∀k,¬D k
  lQ:=fun h _=>h
end Go.Sl
end
section
namespace Go.Sl
open Go
variable{P:Program}{B:Nat}{A:eD}{r:Option Nat}{N:Nat}{an:List Nat}{E fp:Env}{S R L F:List (ao B)}{Q ic:e7 B}{ops:Array Oper}{rest:List Oper}
variable{d:Nat}{op:Op}{bd:TypeId}{pos:String}{a3:Array Edge}{g:Option (Nat×Bool)}
theorem Kk{α:Type}{aW:α→List Value}{y:α}{bq:Value}(h:aW y=[bq]):∀n,(List.replicate n y).flatMap aW=List.replicate n bq
  |0=>rfl
  |n+1=>by rw [List.replicate_succ,List.replicate_succ,List.flatMap_cons,h,Kk h n];rfl
theorem Sh{bq:Value}(n:Nat):madeCells #[bq] n=(List.replicate n bq).toArray:=by
  apply Array.ext'
  simp [madeCells]
  apply List.ext_getElem
  · simp
  · intro i ab af
    simp [Nat.mod_one]
theorem FF{α:Type}(aW:α→List Value)(y:α){t e iv n:Nat}{bq:Value}{x gM:Operand}(hw:Want ops N E g)(av:aX E x=some (.int .i64 (n:Int)))(aZ:aX E gM=some (.int .i64 (n:Int)))(aR:iK P t=some (e,1,iv,[bq]))(he:aW y=[bq])(a7:n*iv≤281474976710656)(oX:n≤9223372036854775807-1000)(aD:Nat.blt d N=true)
    (h:∀c:ai α,c.l=List.replicate n y→c.Own→b8 P B A r N ops rest an ((d,.slice c.b1 c.l.length c.c)::E) (row (.slice c.b1 c.l.length c.c) e 1 c.l.length (c.l.flatMap aW)::S) Q):b8 P B A r N ops (⟨some d,.makeSlice t x gM,bd,pos,a3,g⟩::rest) an E S Q:=by
  refine us (α:=ai α) (fun c=> .slice c.b1 c.l.length c.c) (fun c=>row (.slice c.b1 c.l.length c.c) e 1 c.l.length (c.l.flatMap aW)::S) (fun c=>c.l=List.replicate n y∧c.Own) hw (by simp) aD (fun a w ap aB=>?_) (fun c bg=>h c bg.1 bg.2)
  obtain⟨i,z,hu,ak,cq,e0,tr,yn,lY,uZ⟩:=vA aR
  have hlen:(List.replicate n y).length≤9223372036854775807:=by simp;omega
  have bb:(i.bytes:Int)*(n:Int)≤281474976710656:=by
    have:((i.bytes*n:Nat):Int)≤281474976710656:=by rw [tr,Nat.mul_comm];omega
    rwa [Int.natCast_mul]at this
  refine⟨ai.lit w.heap.size (List.replicate n y) hlen,w.alloc (.cells (List.replicate n bq).toArray e),?_,?_,rfl,ai.ug (b:=w.heap.size) (h:=hlen)⟩
  · have bk:=run_make (P:=P) w t e i z hu ak cq .i64 .i64 (n:Int) (n:Int) (by omega) (Int.le_refl _) bb (by omega)
    have abG:z.cells= #[bq]:=by apply Array.ext';rw [uZ]
    rw [abG,e0,Nat.mul_one]at bk
    simp only [Int.toNat_natCast]at bk
    rw [Sh]at bk
    simp [execOp,ap.aX av,ap.aX aZ,bk,ai.lit]
  · have ab:=aB.new (.cells (List.replicate n bq).toArray e)
    have af:=bB.FE (n:=n) (aH:=1) (au:=List.replicate n bq) (e:=e) ab (.here _ _) (by simp) (by unfold maxLen;omega)
    have dc:(List.replicate n y).flatMap aW=List.replicate n bq:=Kk he n
    show bB B A (row (.slice (some ⟨w.heap.size,0,none⟩) (List.replicate n y).length (List.replicate n y).length) e 1 (List.replicate n y).length ((List.replicate n y).flatMap aW)::S) _
    rw [dc,List.length_replicate];exact af
end Go.Sl
end
section
namespace Go.Sl
open Go
variable{P:Program}{B:Nat}{A:eD}{r:Option Nat}{N:Nat}{an:List Nat}{E fp:Env}{S R L F:List (ao B)}{Q ic:e7 B}{ops:Array Oper}{rest:List Oper}
def many(n:Nat)(F:Nat→ao B):ao B where
  holds D w:=dR ((List.range n).map F) D w
  lQ:=dR.lQ
theorem BZ(F:Nat→ao B)(d:Nat):∀n,d<n→∃hj hp,∀G,(List.range n).map (bF F d G)=hj++G::hp
  |0,h=>by omega
  |n+1,h=>by
    by_cases e:d=n
    · subst e
      refine⟨(List.range d).map F,[],fun G=>?_⟩
      rw [List.range_succ,List.map_append]
      congr 1
      · apply List.map_congr_left;intro j aY
        exact fs F G (by have:=List.mem_range.1 aY;omega)
      · show [bF F d G d]=[G];rw [e8]
    · obtain⟨hj,hp,aB⟩:=BZ F d n (by omega)
      refine⟨hj,hp++[F n],fun G=>?_⟩
      rw [List.range_succ,List.map_append,aB G]
      show _++[bF F d G n]=_
      rw [fs F G (fun h=>e h.symm)];simp
theorem Kl{α:Type}(F:Nat→α)(d:Nat):bF F d (F d)=F:=by
  funext j;by_cases e:j=d
  · subst e;rw [e8]
  · rw [fs _ _ e]
theorem Le{α:Type}(F:Nat→α)(d:Nat)(a b:α):bF (bF F d a) d b=bF F d b:=by
  funext j;by_cases e:j=d
  · subst e;rw [e8,e8]
  · rw [fs _ _ e,fs _ _ e,fs _ _ e]
theorem bB.Si{n d:Nat}{F:Nat→ao B}{w:World}(aD:d<n)(t:Take [many n F] S R)(h:bB B A S w):bB B A (F d::many n (bF F d bG)::R) w:=by
  obtain⟨hj,hp,aB⟩:=BZ F d n aD
  obtain⟨D,ab,af⟩:=h.take t
  obtain⟨dk,dX,e,fO,bM,bS⟩:=ab
  have bM:dR ((List.range n).map F) dk w:=bM
  rw [←Kl F d,aB (F d)]at bM
  obtain⟨kc,k1,fD,qK,eR,cB⟩:=(Out.fu (L:=hj) (Out.here (F d) hp)).n5 bM
  have lp:dR ((List.range n).map (bF F d bG)) k1 w:=by
    rw [aB bG]
    exact(Out.fu (L:=hj) (Out.here bG hp)).back ⟨fun _=>False,k1,fun k=>by simp,fun _ h _=>h,fun _ h=>h,cB⟩
  exact⟨D,⟨kc,fun k=>k1 k∨dX k,fun k=>by rw [e k,fD k,or_assoc],fun k a b=>b.elim (qK k a) (fun b=>fO k ((fD k).2 (.inl a)) b),eR,k1,dX,fun _=>Iff.rfl,fun k a b=>fO k ((fD k).2 (.inr a)) b,lp,bS⟩,af⟩
theorem bB.Tt{n d:Nat}{F:Nat→ao B}{G:ao B}{w:World}(aD:d<n)(t:Take [G,many n (bF F d bG)] S R)(h:bB B A S w):bB B A (many n (bF F d G)::R) w:=by
  obtain⟨hj,hp,aB⟩:=BZ F d n aD
  obtain⟨D,ab,af⟩:=h.take t
  obtain⟨dk,dX,e,fO,bM,kc,k1,fD,qK,cD,cV⟩:=ab
  have cD:dR ((List.range n).map (bF F d bG)) kc w:=cD
  rw [aB bG]at cD
  obtain⟨afr,ady,EB,aeA,eR,cB⟩:=(Out.fu (L:=hj) (Out.here bG hp)).n5 cD
  have yR:kc=ady:=funext fun k=>propext ⟨fun h=>((EB k).1 h).resolve_left (eR k),fun h=>(EB k).2 (.inr h)⟩
  subst yR
  have lp:dR ((List.range n).map (bF F d G)) (fun k=>dk k∨kc k) w:=by
    rw [aB G]
    exact(Out.fu (L:=hj) (Out.here G hp)).back ⟨dk,kc,fun _=>Iff.rfl,fun k a b=>fO k a ((fD k).2 (.inl b)),bM,cB⟩
  exact⟨D,⟨fun k=>dk k∨kc k,k1,fun k=>by rw [e k,fD k,or_assoc],fun k a b=>a.elim (fun a=>fO k a ((fD k).2 (.inr b))) (fun a=>qK k a b),lp,cV⟩,af⟩
theorem QN{l:List Oper}{n d:Nat}{F:Nat→ao B}(aD:d<n)(t:Take [many n F] S R)(h:b8 P B A r N ops l an E (F d::many n (bF F d bG)::R) Q):b8 P B A r N ops l an E S Q:=fun a w ap aB=>h a w ap (aB.Si aD t)
theorem QZ{l:List Oper}{n d:Nat}{F:Nat→ao B}{G:ao B}(aD:d<n)(t:Take [G,many n (bF F d bG)] S R)(h:b8 P B A r N ops l an E (many n (bF F d G)::R) Q):b8 P B A r N ops l an E S Q:=fun a w ap aB=>h a w ap (aB.Tt aD t)
theorem zn{n d:Nat}{F:Nat→ao B}{bl:Addr}{xs:List Value}(aD:d<n)(h:c1 (F d) bl xs):c1 (many n F) bl xs:=fun D w hw k aj=>by
  obtain⟨hj,hp,aB⟩:=BZ F d n aD
  have hw:dR ((List.range n).map F) D w:=hw
  rw [←Kl F d,aB (F d)]at hw
  obtain⟨kc,k1,fD,qK,eR,cB⟩:=(Out.fu (L:=hj) (Out.here (F d) hp)).n5 hw
  exact h kc w eR k aj
theorem Ro{n:Nat}{F:Nat→ao B}{w:World}(b7:∀d,(F d).holds (fun _=>False) w)(h:bB B A S w):bB B A (many n F::S) w:=by
  obtain⟨D,ab,af⟩:=h
  refine⟨D,⟨fun _=>False,D,fun k=>by simp,fun _ h _=>h,?_,ab⟩,af⟩
  show dR ((List.range n).map F) (fun _=>False) w
  induction n with
  |zero=>exact fun _ h=>h
  |succ n ih=>
    rw [List.range_succ,List.map_append]
    exact dR.join (dk:=fun _=>False) (dX:=fun _=>False) (fun k=>by simp) (fun _ h _=>h) ih ⟨fun _=>False,fun _=>False,fun k=>by simp,fun _ h _=>h,b7 n,fun _ h=>h⟩
theorem Ji{e aH:Nat}{w:World}:(row (B:=B) (.slice none 0 0) e aH 0 []).holds (fun _=>False) w:=
  ⟨⟨by simp,.inl ⟨rfl,rfl⟩⟩,fun k=>by simp [Value.ownBlock]⟩
theorem Q0{c:Code}{n e aH:Nat}(h:X P B A r N c an E (many n (fun _=>row (.slice none 0 0) e aH 0 [])::S) Q):X P B A r N c an E S Q:=fun a w ap aB=>h a w ap (Ro (fun _=>Ji) aB)
theorem Rp{α:Type}{I:α→Prop}{hS:α→Env}{hT:α→List (ao B)}(h:Q .ret an E S):De P B A r N I hS hT an Q .ret an E S:=h
end Go.Sl
end
section
namespace Go.Sl
open Go
variable{P:Program}{B:Nat}{A:eD}{r:Option Nat}{N:Nat}{an:List Nat}{E fp:Env}{S R L F:List (ao B)}{Q ic:e7 B}{ops:Array Oper}{rest:List Oper}
variable{d:Nat}{op:Op}{bd:TypeId}{pos:String}{a3:Array Edge}{g:Option (Nat×Bool)}
theorem FG{l:Nat}(h:Q .normal an E S):X P B A r N (.label l) an E S Q:=fun a w ap aB=>wpIn_label ⟨an,E,S,ap,aB,h⟩
theorem xm{P:Program}{b:Frame}{a:Act}{k:List Item}{au:List Frame}{w:World}{c:Code}:step P (lone (b.atR a (.code (.scope c)::k)) au w)= .next (lone (b.atR a (.code c:: .inScope c::k)) au w):=
  step_lone_go (by simp [stepG,stepG.exec,Frame.atR])
theorem QF{P:Program}{b:Frame}{a:Act}{k:List Item}{au:List Frame}{w:World}{c:Code}:step P (lone (b.atR a (.inScope c::k)) au w)= .next (lone (b.atR a k) au w):=
  step_lone_go (by simp [stepG,stepG.exec,Frame.atR])
theorem Q1{F:Fence}{n:Nat}{Q:Exit→Act→World→Prop}{a:Act}{w:World}{c:Code}(h:c.wpIn F n P (fun e a w=>(∀l,e≠ .goto l)∧Q e a w) a w):(Code.scope c).wpIn F n P Q a w:=by
  intro b k au pA bb bk
  have b0:(lone (b.atR a (.code (.scope c)::k)) au w).fenced P F:=fenced_calm bb bk rfl
  obtain⟨e,Aa,Ab,⟨bh,bP⟩,yb⟩:=h b (.inScope c::k) au pA bb bk
  cases e with
  |normal=>exact⟨.normal,Aa,Ab,bP,.head b0 xm (StepsIn.trans yb (.one (fenced_calm bb bk rfl) QF))⟩
  |exit id=>
    have av:exitTo id (.inScope c::k)=exitTo id k:=by simp [exitTo]
    exact⟨.exit id,Aa,Ab,bP,fun gF aj=> .head b0 xm (yb.1 gF (by rw [av];exact aj)),
      fun abH aj=>let⟨ZL,ab,af⟩:=yb.2 abH (by rw [av];exact aj);⟨ZL,ab,.head b0 xm af⟩⟩
  |goto l=>exact(bh l rfl).elim
  |ret=>exact⟨_,Aa,Ab,bP,.of_steps (.one b0 xm) yb⟩
  |panic afs=>exact⟨_,Aa,Ab,bP,.of_steps (.one b0 xm) yb⟩
  |outgrown=>exact⟨_,Aa,Ab,bP,.of_steps (.one b0 xm) yb⟩
def L3(Q:e7 B):e7 B
  | .goto _,_,_,_=>False
  |e,an,E,S=>Q e an E S
theorem FH{c:Code}(h:X P B A r N c an E S (L3 Q)):X P B A r N (.scope c) an E S Q:=fun a w ap aB=>Q1 (wpIn_mono (h a w ap aB) (by
  rintro e cE l2 ⟨AA,Ez,aP,lh,wB,bY⟩
  cases e with
  |goto l=>exact bY.elim
  |_=>exact⟨by simp,AA,Ez,aP,lh,wB,bY⟩))
theorem xo(h:Q .ret an E S):L3 Q .ret an E S:=h
def O0:List (Int×Int)→Int→Option Int
  |[],_=>none
  |(a,c)::l,k=>if k=a then some c else O0 l k
def abI(es:List MapEntry)(l:List (Int×Int)):Prop:=es.map (fun e=>(e.key,e.val))=l.map fun p=>(Value.int .i64 p.1,Value.int .i64 p.2)
def NK(b:Nat)(f:Int→Option Int):ao B where
  holds D w:=(∀k,D k↔k=b)∧∃es clock l,w.heap[b]?=some (.map es clock)∧abI es.toList l∧∀k,O0 l k=f k
  lQ:=fun h aB=>by
    obtain⟨ab,es,kB,l,af,az⟩:=h
    exact⟨ab,es,kB,l,(aB b (.inr ((ab b).2 rfl))).trans af,az⟩
theorem Q2{t:Nat}(hw:Want ops N E g)(aD:Nat.blt d N=true)
    (h:∀b,b8 P B A r N ops rest an ((d,.map (some b))::E) (NK b (fun _=>none)::S) Q):b8 P B A r N ops (⟨some d,.makeMap t none,bd,pos,a3,g⟩::rest) an E S Q:=
  us (α:=Nat) (fun b=> .map (some b)) (fun b=>NK b (fun _=>none)::S) (fun _=>True) hw (by simp) aD (fun a w ap aB=>by
    refine⟨w.heap.size,w.alloc (.map #[] 0),by simp [execOp,show(Instr.makeMap t none).run P w= .ok (.map (some w.heap.size)) (w.alloc (.map #[] 0))from rfl],?_,trivial⟩
    obtain⟨D,⟨dk,dX,bZ,fO,⟨ab,af⟩,eK⟩,r⟩:=aB.new (.map #[] 0)
    exact⟨D,⟨dk,dX,bZ,fO,⟨ab, #[],0,[],af,rfl,fun _=>rfl⟩,eK⟩,r⟩) (fun b _=>h b)
theorem Tu{cz:Bool}{K a8:List (ao B)}{n:Nat}{listed:Array Bool}(bg:∀w,bB B A (K++S) w→bB B A (K++a8) w)(h:eE cz P B A r N ops K n listed an E a8 Q):eE cz P B A r N ops K n listed an E S Q:=
  fun a w ap aB=>h a w ap (bg w aB)
theorem E2{cz:Bool}{K:List (ao B)}{m:Nat}{listed:Array Bool}{b e:Nat}{au:List Value}(n aH:Nat)(ap:Out (aa b au e) S R)(aJ:Nat.beq au.length (n*aH)=true)(a7:Nat.ble n 9223372036854775807=true)(h:eE cz P B A r N ops K m listed an E (row (.slice (some ⟨b,0,none⟩) n n) e aH n au::R) Q):eE cz P B A r N ops K m listed an E S Q:=
  Tu (fun w aB=>by
    have ab:=aB.FE (ap.pre K) (Nat.eq_of_beq_eq_true aJ) (by unfold maxLen;have:=Nat.le_of_ble_eq_true a7;omega)
    have af:bB B A ([row (.slice (some ⟨b,0,none⟩) n n) e aH n au]++(K++R)) w:=ab
    simpa using af.mid) h
theorem dQ.dup{f:FuncId}{args:List Value}{K:ao B}{post:Value→List (ao B)→Prop}(h:dQ P B f args (K::S) post)(ap:Out K S R)(aD:dS K):dQ P B f args S post:=fun w D aB bZ hq=>h w D (aB.dup ap aD) bZ hq
end Go.Sl
end
section
namespace Go.Sl
open Go
variable{P:Program}{B:Nat}{A:eD}{r:Option Nat}{N:Nat}{an:List Nat}{E fp:Env}{S aP R jo L F Fr own K:List (ao B)}{Q ic:e7 B}{ops:Array Oper}{cz:Bool}
variable{d:Nat}{bd:TypeId}{pos:String}{a3:Array Edge}{g:Option (Nat×Bool)}
theorem xv{n i:Nat}{listed:Array Bool}{l:Nat}{f:Operand}{xs:List Operand}{args:List Value}{di:Array TypeId}{hU F Z:List (ao B)}{post:Bool→List (ao B)→Prop}
    (ak:ops[i]?=some ⟨some d,.call {callee:= .value f,args:=xs.toArray,argTypes:=di},bd,pos,a3,g⟩) (hw:Want ops N E g) (br:aX E f=some (.func (.yield l) #[] #[])) (aO:gC E xs=some args) (ig:gJ K S Z) (aZ:nu P B l args hU post) (aR:Take hU Z F) (aD:Nat.blt d N=true)
    (h:∀b a8,post b a8→∃aQ l6 R,gJ K aQ l6∧Take l6 (a8++F) R∧eE cz P B A r N ops K n (listed.setIfInBounds i true) an ((d,.bool b)::E) aQ Q):jc cz P B A r N ops K n listed i an E S Q:=by
  intro a w ap aB
  unfold wpOpIn
  simp only [ak]
  rw [if_pos (Want.wanted (o:=⟨some d,.call {callee:= .value f,args:=xs.toArray,argTypes:=di},bd,pos,a3,g⟩) hw ap)]
  refine⟨fun _ _=>trivial,?_⟩
  have iD:=ap.gC aO
  have e0:=aB.size
  have iJ:bB B A Z w:=by rw [←ig.eq];exact aB
  obtain⟨D,bM,bS,cD,cV,ff,gE⟩:=iJ.take aR
  obtain⟨hK,l3,bZ,fO,h0,b7⟩:=bM.append
  obtain⟨fn,tmps,assign,body,hG,mf⟩:=aZ w hK h0 (fun k aj=>bS k ((bZ k).2 (.inl aj))) e0
  rw [Oper.semAt_eq _ _ _ (by simp)]
  have e:(execOp a.eval ⟨some d,.call {callee:= .value f,args:=xs.toArray,argTypes:=di},bd,pos,a3,g⟩).run P w= .ok (.round l fn tmps assign body) w:=by
    simp only [execOp,resolve,ap.aX br,Sem.run_bind]
    simp [Deferred.ofValue,invoke,iD,hG]
  rw [e]
  refine⟨by simp [Fence.wide],?_⟩
  refine RoundIn.mono mf ?_
  rintro e b3 ⟨b,a8,rfl,aE,et⟩
  obtain⟨aQ,l6,R,bY,bK,eu⟩:=h b a8 aE
  refine eu _ b3 (ap.put (by simpa using aD)) ?_
  rw [bY.eq];exact(bB.nO bM bS cD cV ff gE bZ fO b7 et).mm bK
variable{w:World}{v:Value}
theorem M1{α:Type}{aW:α→List Value}{b1:Option Addr}{c n aH k:Nat}{xs p4:List α}{t e i:Nat}{a y:α}{x z:Operand}(iT:∀bl,b1=some bl→∃g,bl=⟨g,0,none⟩)
    (av:aX E x=some (.pointer (some ((b1.getD ⟨0,0,none⟩).add (i*aH+k))))) (aZ:aX E z=some v) (he:∀a,(aW a).length=aH) (aj:k<aH) (aO:xs[i]?=some a) (ck:(aW a).set k v=aW y) (ab:v.oneCell'=true) (ey:Out (row (.slice b1 n c) e aH n (xs.flatMap aW)) S R) (aR:cx P t=some (false,1))
    (iJ:xs.set i y=p4):oW P B A N an E S (.store t x z) (row (.slice b1 n c) e aH n (p4.flatMap aW)::R):=
  ⟨by simp,fun ie w bd pos a3 g ap aB=>by
    have ak:i<xs.length:=(List.getElem?_eq_some_iff.1 aO).1
    have p3:∀l:List α,(l.flatMap aW).length=l.length*aH:=fun l=>pL (aH:=aH) he (l:=l)
    have et:bB B A (row (.slice b1 n c) e aH n (xs.flatMap aW)::R) w:=aB.take (.cons ey (.nil _))
    have er:i*aH+k<xs.length*aH:=by
      have az:(i+1)*aH≤xs.length*aH:=Nat.mul_le_mul_right _ ak
      rw [Nat.succ_mul]at az;omega
    cases b1 with
    |none=>
      obtain⟨D,⟨⟨af,az⟩,_⟩⟩:=et.mem (.here _ _)
      rcases az with⟨_,az⟩|⟨g,cap,gU,ck,_⟩
      · rw [p3,az]at af;omega
      · cases ck
    |some bl=>
      obtain⟨b,rfl⟩:=iT bl rfl
      have av:aX E x=some (.pointer (some ⟨b,i*aH+k,none⟩)):=by rw [av];simp [mG]
      obtain⟨gU,bb,bM,bS,cD,cV,ff,gE⟩:=et.JP
      rw [p3]at bM
      have a7:n*aH≤c*aH:=Nat.mul_le_mul_right _ cD
      obtain⟨D,nh⟩:=bb.mem (.here _ _)
      refine⟨w.setCell ⟨b,i*aH+k,none⟩ v,by simp [execOp,ap.aX av,ap.aX aZ,EQ (k:=i*aH+k) ab aR (by omega) nh.2],?_⟩
      refine(bb.store (i*aH+k) v).E1 (by rw [p3, ←iJ,List.length_set];exact bM) bS cD cV (by simpa using ff) ?_
      have kW:∀(l:List α) (i:Nat),l[i]?=some a→(l.flatMap aW).set (i*aH+k) v=(l.set i y).flatMap aW:=by
        intro l
        induction l with
        |nil=>intro i ak;simp at ak
        |cons u l ih=>
          intro i ak
          cases i with
          |zero=>
            have hu:u=a:=by simpa using ak
            subst hu
            rw [Nat.zero_mul,Nat.zero_add,List.flatMap_cons,List.set_append_left _ _ (by rw [he];exact aj),ck];rfl
          |succ i=>
            rw [List.flatMap_cons,List.set_append_right _ _ (by rw [he,Nat.succ_mul];omega),he,show(i+1)*aH+k-aH=i*aH+k by rw [Nat.succ_mul];omega,ih i (by simpa using ak)];rfl
      rw [List.take_set,gE,kW xs i aO,iJ]⟩
end Go.Sl
end
section
namespace Go.Sl
open Go
variable{P:Program}{B:Nat}{A:eD}{r:Option Nat}{N:Nat}{an:List Nat}{E:Env}{S R:List (ao B)}{Q:e7 B}
theorem xB{x:Operand}{t:Nat}{m:Int}{a:BitVec 32}(av:aX E x=some (.int .u32 m))(aO:BitVec.ofInt 32 m=a):dp P B A N an E S (.unOp .xor t x) (.int .u32 ((~~~a).toNat:Int)):=
  ⟨by simp,by simp,fun ac w bd pos a3 g d ap aB=>by
    have ab:BitVec.ofInt 32 (IntKind.u32.max)^^^BitVec.ofInt 32 m= ~~~a:=by
      rw [aO,show BitVec.ofInt 32 (IntKind.u32.max)=BitVec.allOnes 32 by decide,BitVec.allOnes_xor]
    have e:(Op.unary .xor (.int .u32 m):Sem Value)=pure (.int .u32 ((~~~a).toNat:Int)):=by
      show(pure (.int .u32 (IntKind.u32.wrap ((BitVec.ofInt 32 IntKind.u32.max^^^BitVec.ofInt 32 m).toNat:Int))):Sem Value)=_
      rw [ab,Cn]
    simp only [execOp,ap.aX av,e]
    rfl⟩
theorem wa{op:Op}{v fi:Value}(h:dp P B A N an E S op v)(e:v=fi):dp P B A N an E S op fi:=e▸h
theorem M2{op:Op}{v fi:Value}(h:mQ P N an E op v)(e:v=fi):mQ P N an E op fi:=e▸h
variable{F L K Z:List (ao B)}{ops:Array Oper}{rest:List Oper}{d:Nat}{bd:TypeId}{pos:String}{a3:Array Edge}{g:Option (Nat×Bool)}{cz:Bool}
theorem JQ{cf:FuncId}{h5:Operand}{xs:List Operand}{args cL:List Value}{di:Array TypeId}{a:Act}{w:World}(ap:dq N an E a)(he:Go.Proofs.Enters P cf)(AH:aX E h5=some (.func (.func cf) #[] cL.toArray))(aO:gC E xs=some args):
    (execOp a.eval ⟨some d,.call {callee:= .value h5,args:=xs.toArray,argTypes:=di},bd,pos,a3,g⟩).run P w= .ok (.enter cf (args++cL).toArray) w:=by
  have iD:=ap.gC aO
  simp only [execOp,resolve,ap.aX AH,Sem.run_bind]
  have af:=he (args++cL).toArray w
  simp [Deferred.ofValue,invoke,iD]at af⊢
  exact af
theorem xw{cf:FuncId}{h5:Operand}{xs:List Operand}{args cL:List Value}{di:Array TypeId}{pre:List (ao B)}{post:Value→List (ao B)→Prop}(hw:Want ops N E g)(he:Go.Proofs.Enters P cf)(AH:aX E h5=some (.func (.func cf) #[] cL.toArray))
    (aO:gC E xs=some args) (br:dQ P B cf (args++cL) pre post) (aR:Take pre S F) (aD:Nat.blt d N=true)
    (h:∀v a8,post v a8→b8 P B A r N ops rest an ((d,v)::E) (a8++F) Q):
    b8 P B A r N ops (⟨some d,.call {callee:= .value h5,args:=xs.toArray,argTypes:=di},bd,pos,a3,g⟩::rest) an E S Q:=by
  intro a w ap aB
  simp only [wpListIn]
  rw [if_pos (Want.wanted (o:=⟨some d,.call {callee:= .value h5,args:=xs.toArray,argTypes:=di},bd,pos,a3,g⟩) hw ap)]
  refine⟨fun _ _=>trivial,?_⟩
  rw [Oper.semAt_eq _ _ _ (by simp)]
  rw [JQ ap he AH aO]
  have iJ:=aB.take aR
  obtain⟨D,bM,bS,cD,cV,ff,gE⟩:=iJ
  obtain⟨hK,l3,bZ,fO,h0,b7⟩:=bM.append
  refine⟨by simp [Fence.wide],?_⟩
  refine CallsIn.mono (br w hK h0 (fun k aj=>bS k ((bZ k).2 (.inl aj))) aB.size) ?_
  rintro e b3 ⟨v,a8,rfl,aE,et⟩
  refine h v a8 aE _ b3 (ap.put (by simpa using aD)) ?_
  exact bB.nO bM bS cD cV ff gE bZ fO b7 et
theorem Km{n i:Nat}{listed:Array Bool}{cf:FuncId}{h5:Operand}{xs:List Operand}{args cL:List Value}{di:Array TypeId}{pre F:List (ao B)}{post:Value→List (ao B)→Prop}
    (ak:ops[i]?=some ⟨some d,.call {callee:= .value h5,args:=xs.toArray,argTypes:=di},bd,pos,a3,g⟩) (hw:Want ops N E g) (he:Go.Proofs.Enters P cf) (AH:aX E h5=some (.func (.func cf) #[] cL.toArray)) (aO:gC E xs=some args) (ig:gJ K S Z) (br:dQ P B cf (args++cL) pre post) (aR:Take pre Z F) (aD:Nat.blt d N=true)
    (h:∀v a8,post v a8→∃aQ l6 R,gJ K aQ l6∧Take l6 (a8++F) R∧eE cz P B A r N ops K n (listed.setIfInBounds i true) an ((d,v)::E) aQ Q):jc cz P B A r N ops K n listed i an E S Q:=by
  intro a w ap aB
  unfold wpOpIn
  simp only [ak]
  rw [if_pos (Want.wanted (o:=⟨some d,.call {callee:= .value h5,args:=xs.toArray,argTypes:=di},bd,pos,a3,g⟩) hw ap)]
  refine⟨fun _ _=>trivial,?_⟩
  rw [Oper.semAt_eq _ _ _ (by simp)]
  rw [JQ ap he AH aO]
  have e0:=aB.size
  have iJ:bB B A Z w:=by rw [←ig.eq];exact aB
  obtain⟨D,bM,bS,cD,cV,ff,gE⟩:=iJ.take aR
  obtain⟨hK,l3,bZ,fO,h0,b7⟩:=bM.append
  refine⟨by simp [Fence.wide],?_⟩
  refine CallsIn.mono (br w hK h0 (fun k aj=>bS k ((bZ k).2 (.inl aj))) e0) ?_
  rintro e b3 ⟨v,a8,rfl,aE,et⟩
  obtain⟨aQ,l6,R,bY,bK,eu⟩:=h v a8 aE
  refine eu _ b3 (ap.put (by simpa using aD)) ?_
  rw [bY.eq];exact(bB.nO bM bS cD cV ff gE bZ fO b7 et).mm bK
def NL(P:Program)(B:Nat)(cf:FuncId)(cL:List Value)(own:List (ao B))(W:ao B)(xs:List (List Value)):Prop:=
  ∀(l:Nat) (J gN:Nat→List (ao B)→Prop) (cb:List (ao B)),(∀i S,J i S→∃R,Out W S R)→J 0 cb→
    (∀i S,i<xs.length→J i S→nu P B l (xs.getD i []) S fun b a8=>(b=true∧J (i+1) a8)∨(b=false∧gN i a8))→
    dQ P B cf (.func (.yield l) #[] #[]::cL) (own++cb) fun _ a8=>∃aP,a8=own++aP∧(J xs.length aP∨∃i,i<xs.length∧gN i aP)
section
variable{fp:Env}{aP jo Fr own:List (ao B)}{ic:e7 B}
theorem Kn{W:ao B}{f:Operand}{bV:List Nat}{assign body:Code}{cf:FuncId}{cL:List Value}{xs:List (List Value)}(br:aX E f=some (.func (.func cf) #[] cL.toArray))(he:Go.Proofs.Enters P cf)(ri:NL P B cf cL own W xs)
    (J:Nat→List (ao B)→Prop) (h4:Code→Nat→List (ao B)→Prop) (aR:Take (own++aP) S Fr) (bt:J 0 aP) (abJ:∀i S,J i S→∃R,Out W S R) (lY:bV.all (Nat.blt · N)=true) (hlen:∀x∈xs,x.length=bV.length)
    (mf:∀(l:Nat) (rec:Loop) (lo:eD) (i:Nat) (a8:List (ao B)),i<xs.length→J i a8→X P B lo (some l) N assign [] (Env.pf bV (xs.getD i []) E) (obj l (.loop rec)::a8) (v7 P lo N body l rec J h4 i))
    (pP:∀ch a8,J xs.length a8→Q .normal (ch::an) E (du ch::(own++(a8++Fr))))
    (pQ:∀ch c i a8,i<xs.length→h4 c i a8→X P B A none N c (ch::an) E (du ch::(own++(a8++Fr))) Q):
    X P B A none N (.rangeFunc f bV.toArray assign body) an E S Q:=by
  intro a w ap aB
  refine wpIn_rangeFunc ?_
  intro fn _
  have n6:=(aB.take aR).new (.deferred (some []))
  have g4:=n6.new (.loop {state:= .ready,pending:=none,fn,tmps:=a.tmps,params:=bV.toArray,assign,body,defers:=w.heap.size})
  simp only [World.size_alloc]at g4
  obtain⟨fg,rj⟩:∃fg,(w.alloc (.deferred (some []))).alloc (.loop {state:= .ready,pending:=none,fn,tmps:=a.tmps,params:=bV.toArray,assign,body,defers:=w.heap.size})=fg:=⟨_,rfl⟩
  have jh:=run_enterLoop_outer (P:=P) (w:=w) fn a.tmps bV.toArray assign body
  rw [rj]at g4 jh
  generalize aJ:w.heap.size+1=l at g4 jh
  generalize w.heap.size=ch at n6 g4 jh
  have nv:bB B A ((own++(obj l (.loop {state:= .ready,pending:=none,fn,tmps:=a.tmps,params:=bV.toArray,assign,body,defers:=ch})::([du ch]++aP)))++Fr) fg:=by
    have ab:bB B A ([obj l (.loop {state:= .ready,pending:=none,fn,tmps:=a.tmps,params:=bV.toArray,assign,body,defers:=ch}),du ch]++(own++(aP++Fr))) fg:=by simpa using g4
    have af:=ab.mid
    simpa using af
  refine⟨l,[{target:= .collected ch,args:= #[]}],fg,{target:= .fn (.func cf) cL.toArray,args:= #[.func (.yield l) #[] #[]]},fg,cf, #[.func (.yield l) #[] #[]]++cL.toArray,fg,jh,?_,fun _ _=>trivial,?_,fun _=>by simp_all [Fence.wide],?_⟩
  · simp only [resolve,ap.aX br]
    simp [Deferred.ofValue,Act.eval]
  · simpa [invoke]using he (Value.func (.yield l) #[] #[]::cL).toArray fg
  · have dy:dq N [] E {tmps:=a.tmps,defers:=[]}:=⟨ap.size,rfl,ap.get⟩
    have q7:=ri l (fun i S=>∃cF,S=obj l (.loop {state:= .ready,pending:=none,fn,tmps:=a.tmps,params:=bV.toArray,assign,body,defers:=ch})::([du ch]++cF)∧J i cF)
      (fun i S=>∃c cF,S=obj l (.loop {state:= .done,pending:=some c,fn,tmps:=a.tmps,params:=bV.toArray,assign,body,defers:=ch})::([du ch]++cF)∧h4 c i cF) _ (fun i S ⟨cF,eK,az⟩=>by subst eK;obtain⟨R,h⟩:=abJ i cF az;exact⟨_,.there _ (Out.pre h [du ch])⟩) ⟨aP,rfl,bt⟩
      (fun i S ak ⟨cF,eK,nw⟩=>by
        subst eK
        exact xp dy lY hlen ak nw mf)
    have e0:=nv.size
    obtain⟨D,bM,bS,cD,cV,ff,gE⟩:=nv
    obtain⟨hK,l3,bZ,fO,h0,b7⟩:=bM.append
    have m9:=q7 fg hK h0 (fun k aj=>bS k ((bZ k).2 (.inl aj))) e0
    have iD:(Value.func (.yield l) #[] #[]::cL).toArray= #[.func (.yield l) #[] #[]]++cL.toArray:=by simp
    rw [iD]at m9
    refine CallsIn.mono m9 ?_
    rintro e Bs ⟨v,aQ,rfl,aE,et⟩
    have pV:=bB.nO bM bS cD cV ff gE bZ fO b7 et
    have q8:dq N (ch::an) E {a with defers:=[{target:= .collected ch,args:= #[]}]++a.defers}:=⟨ap.size,by simp [ap.oF,uf],ap.get⟩
    exact xq (rec:=fun s c=>{state:=s,pending:=c,fn,tmps:=a.tmps,params:=bV.toArray,assign,body,defers:=ch}) (fun s c=>⟨rfl,rfl⟩) (jC:=[du ch]) q8 pV aE (fun a8 h=>pP ch a8 h) (fun c i a8 ak h=>pQ ch c i a8 ak h)
end
end Go.Sl
end
section
namespace Go.Sl
open Go
variable{P:Program}{B:Nat}{A:eD}{r:Option Nat}{N:Nat}{an:List Nat}{E fp:Env}{S R L F:List (ao B)}{Q ic:e7 B}{ops:Array Oper}{rest:List Oper}
def Hc(P:Program)(t f:Nat):Option (Nat×Nat):=match P.underlying t with
  |some (.struct fC)=>match fC[f]? with
    |some fd=>match P.info? fd.type with
      |some i=>if m8 P fd.type=true∧(P.underlying fd.type).isSome then some (fd.offset,i.size)else none
      |none=>none
    |none=>none
  |_=>none
theorem Sj{t f o n:Nat}{x:Operand}{au bx:List Value}(av:aX E x=some (.agg au.toArray))(aR:Hc P t f=some (o,n))(ck:(au.drop o).take n=bx):dp P B A N an E S (.field t x f) (.agg bx.toArray):=
  ⟨by simp,by simp,fun a w bd pos a3 g d ap aB=>by
    unfold Hc at aR
    split at aR
    · rename_i fC hu
      split at aR
      · rename_i fd br
        split at aR
        · rename_i i kV
          split at aR
          · rename_i bg
            simp only [Option.some.injEq,Prod.mk.injEq]at aR
            obtain⟨ab,af⟩:=aR
            obtain⟨rh,iV⟩:=Option.isSome_iff_exists.1 bg.2
            have az:au.toArray.extract o (o+n)=bx.toArray:=by
              rw [←ck];apply Array.ext'
              simp [List.extract_eq_take_drop]
            subst ab af
            simp only [execOp,ap.aX av]
            simp [Instr.field,run_underlying hu,br,part,asAgg,sizeOf,typeInfo,kV,B3 iV,bg.1]
            simpa using az
          · cases aR
        · cases aR
      · cases aR
    · cases aR⟩
theorem Df{c:Code}(F:Nat→ao B){i a:Nat}(ak:i<2)(aO:a<2)(t:Take [F a,F (1-a)] S R)(h:X P B A r N c an E (F i::F (1-i)::R) Q):X P B A r N c an E S Q:=by
  by_cases e:i=a
  · subst e;exact fun b w ap aB=>h b w ap (aB.take t)
  · obtain rfl:i=1-a:=by omega
    have dd:1-(1-a)=a:=by omega
    rw [dd]at h
    exact fun b w ap aB=>h b w ap (by
      have af:bB B A (F a::F (1-a)::R) w:=aB.take t
      exact af.take (show Take [F (1-a),F a] (F a::F (1-a)::R) R from Take.cons (Out.there _ (Out.here _ _)) (Take.cons (Out.here _ _) (Take.nil _))))
end Go.Sl
end
section
namespace Go.Sl
open Go
variable{P:Program}{B:Nat}{A:eD}{r:Option Nat}{N:Nat}{an:List Nat}{E fp:Env}{S R L F:List (ao B)}{Q ic:e7 B}{ops:Array Oper}{rest:List Oper}
def all(l:List (ao B)):ao B where
  holds D w:=dR l D w
  lQ:=dR.lQ
theorem bB.all_nil{w:World}(h:bB B A S w):bB B A (all []::S) w:=by
  obtain⟨D,ab,af⟩:=h
  exact⟨D,⟨fun _=>False,D,fun k=>by simp,fun _ h _=>h,fun _ h=>h,ab⟩,af⟩
theorem Rq{c:Code}(h:X P B A r N c an E (all []::S) Q):X P B A r N c an E S Q:=fun a w ap aB=>h a w ap aB.all_nil
theorem bB.Lf{w:World}{l m:List (ao B)}(t:Take (l++[all m]) S R)(h:bB B A S w):bB B A (all (l++m)::R) w:=by
  have ab:=h.take t
  rw [List.append_assoc]at ab
  obtain⟨D,g,bS⟩:=ab
  obtain⟨dk,dX,e,aD,eR,cB⟩:=g.append
  obtain⟨kc,k1,fD,qK,lp,tG⟩:=cB
  have lp:dR m kc w:=lp
  refine⟨D,⟨fun k=>dk k∨kc k,k1,fun k=>by rw [e k,fD k,or_assoc],fun k a b=>a.elim (fun a=>aD k a ((fD k).2 (.inr b))) (fun a=>qK k a b),?_,tG⟩,bS⟩
  exact dR.join (fun _=>Iff.rfl) (fun k a b=>aD k a ((fD k).2 (.inl b))) eR lp
theorem Rr{c:Code}(l:List (ao B)){m:List (ao B)}(t:Take (l++[all m]) S R)(h:X P B A r N c an E (all (l++m)::R) Q):X P B A r N c an E S Q:=fun a w ap aB=>h a w ap (aB.Lf t)
theorem Q3{c:List Oper}(l:List (ao B)){m:List (ao B)}(t:Take (l++[all m]) S R)(h:b8 P B A r N ops c an E (all (l++m)::R) Q):b8 P B A r N ops c an E S Q:=fun a w ap aB=>h a w ap (aB.Lf t)
theorem ES{c:Code}(a:ao B){m:List (ao B)}(t:Take [a,all m] S R)(h:X P B A r N c an E (all (a::m)::R) Q):X P B A r N c an E S Q:=Rr [a] t h
theorem QO{c:List Oper}(a:ao B){m:List (ao B)}(t:Take [a,all m] S R)(h:b8 P B A r N ops c an E (all (a::m)::R) Q):b8 P B A r N ops c an E S Q:=Q3 [a] t h
theorem mh{l:List (ao B)}{a:ao B}{bl:Addr}{xs:List Value}(h:a∈l)(bk:c1 a bl xs):c1 (all l) bl xs:=fun D w hw k aj=>by
  obtain⟨hj,hp,rfl⟩:=List.append_of_mem h
  have hw:dR (hj++a::hp) D w:=hw
  obtain⟨kc,k1,fD,qK,eR,cB⟩:=(Out.fu (L:=hj) (Out.here a hp)).n5 hw
  exact bk kc w eR k aj
end Go.Sl
end
section
namespace Go.Sl
open Go
variable{P:Program}{B:Nat}{A:eD}{r:Option Nat}{N:Nat}{an:List Nat}{E fp:Env}{S a8 R L F K:List (ao B)}{Q ic:e7 B}{ops:Array Oper}{rest:List Oper}{cz:Bool}
def hL(S a8:List (ao B)):Prop:=∀D w,dR S D w→dR a8 D w
theorem hL.trans{T:List (ao B)}(h:hL S a8)(eW:hL a8 T):hL S T:=fun D w q=>eW D w (h D w q)
theorem FI(t:Take L S R):hL S (L++R):=fun D w h=>t.n5 h
theorem jv{l:List (ao B)}(t:Take l S R):hL S (all l::R):=fun D w h=>(t.n5 h).append
theorem lr{l:List (ao B)}(t:Take [all l] S R):hL S (l++R):=fun D w h=>by
  obtain⟨dk,dX,e,aD,bM,bS⟩:=t.n5 h
  exact dR.join e aD bM bS
theorem Sk{l m:List (ao B)}(t:Take [all (l++m)] S R):hL S (l++all m::R):=fun D w h=>by
  obtain⟨dk,dX,e,aD,bM,bS⟩:=t.n5 h
  have bM:dR (l++m) dk w:=bM
  obtain⟨kc,k1,fD,qK,eR,cB⟩:=bM.append
  refine dR.join (dk:=kc) (dX:=fun k=>k1 k∨dX k) (fun k=>by rw [e k,fD k,or_assoc]) (fun k a b=>b.elim (qK k a) (fun b=>aD k ((fD k).2 (.inl a)) b)) eR ⟨k1,dX,fun _=>Iff.rfl,fun k a b=>aD k ((fD k).2 (.inr a)) b,cB,bS⟩
theorem CS{l m:List (ao B)}(t:Take (l++[all m]) S R):hL S (all (l++m)::R):=fun D w h=>by
  have ab:=t.n5 h
  rw [List.append_assoc]at ab
  obtain⟨dk,dX,e,aD,eR,cB⟩:=ab.append
  obtain⟨kc,k1,fD,qK,lp,tG⟩:=cB
  have lp:dR m kc w:=lp
  exact⟨fun k=>dk k∨kc k,k1,fun k=>by rw [e k,fD k,or_assoc],fun k a b=>a.elim (fun a=>aD k a ((fD k).2 (.inr b))) (fun a=>qK k a b),dR.join (fun _=>Iff.rfl) (fun k a b=>aD k a ((fD k).2 (.inl b))) eR lp,tG⟩
theorem FJ(a:ao B){m:List (ao B)}(t:Take [a,all m] S R):hL S (all (a::m)::R):=CS (l:=[a]) t
theorem um:hL S (all []::S):=fun D w h=>⟨fun _=>False,D,fun k=>by simp,fun _ h _=>h,fun _ h=>h,h⟩
theorem hL.bz{w:World}(h:hL S a8)(aB:bB B A S w):bB B A a8 w:=let⟨D,ab,af⟩:=aB;⟨D,h D w ab,af⟩
theorem hL.pre(h:hL S a8):hL (K++S) (K++a8):=fun D w q=>by
  obtain⟨dk,dX,e,aD,eR,cB⟩:=q.append
  exact dR.join e aD eR (h _ _ cB)
theorem td{c:Code}(h:hL S a8)(k:X P B A r N c an E a8 Q):X P B A r N c an E S Q:=fun a w ap aB=>k a w ap (h.bz aB)
theorem kS{c:List Oper}(h:hL S a8)(k:b8 P B A r N ops c an E a8 Q):b8 P B A r N ops c an E S Q:=fun a w ap aB=>k a w ap (h.bz aB)
theorem XI{n i:Nat}{listed:Array Bool}(h:hL S a8)(k:jc cz P B A r N ops K n listed i an E a8 Q):jc cz P B A r N ops K n listed i an E S Q:=fun a w ap aB=>k a w ap (h.pre.bz aB)
theorem JR:∀(bx au:List Value) (pre:List Value),au.length=bx.length→setAt (pre++au) pre.length bx=pre++bx
  |[],au,pre,h=>by rw [List.length_eq_zero_iff.1 h];rfl
  |v::bx,[],pre,h=>by cases h
  |v::bx,c::au,pre,h=>by
    rw [setAt]
    have e:(pre++c::au).set pre.length v=(pre++[v])++au:=by simp
    have dd:pre.length+1=(pre++[v]).length:=by simp
    rw [e,dd,JR bx au (pre++[v]) (by simpa using h)];simp
theorem tY:∀(bx au pre:List Value),bx.length≤au.length→setAt (pre++au) pre.length bx=pre++bx++au.drop bx.length
  |[],au,pre,_=>by simp [setAt]
  |v::bx,[],pre,h=>by simp at h
  |v::bx,c::au,pre,h=>by
    rw [setAt]
    have e:(pre++c::au).set pre.length v=(pre++[v])++au:=by simp
    have dd:pre.length+1=(pre++[v]).length:=by simp
    rw [e,dd,tY bx au (pre++[v]) (by simpa using h)];simp
theorem XJ{cj dg bC dP z:List Value}{kC iA nJ yS m1 Qi:Nat}(b0:cj.length=kC)(ab:dg.length=iA)(af:bC.length=nJ)(az:dP.length=yS)(dd:m1=kC+iA)(fD:Qi=kC+iA+nJ)(cq:z.length=kC+iA+nJ+yS):
    oA [(0,kC),(kC,iA),(m1,nJ),(Qi,yS)] z [(0,.agg cj.toArray),(1,.agg dg.toArray),(2,.agg bC.toArray),(3,.agg dP.toArray)]=some (cj++dg++bC++dP):=by
  subst b0 ab af az dd fD
  have dv:=tY cj z [] (by omega)
  simp only [List.nil_append,List.length_nil]at dv
  have cE:=tY dg (z.drop cj.length) cj (by rw [List.length_drop];omega)
  have c2:=tY bC ((z.drop cj.length).drop dg.length) (cj++dg) (by rw [List.length_drop,List.length_drop];omega)
  have m2:=tY dP (((z.drop cj.length).drop dg.length).drop bC.length) (cj++dg++bC) (by rw [List.length_drop,List.length_drop,List.length_drop];omega)
  have vo:((((z.drop cj.length).drop dg.length).drop bC.length).drop dP.length)=[]:=by rw [List.drop_drop,List.drop_drop,List.drop_drop,List.drop_eq_nil_iff];omega
  rw [List.length_append]at c2
  rw [List.length_append,List.length_append]at m2
  have b:∀m k:Nat,m≤k→(Nat.beq m m&&Nat.ble m k)=true:=fun m k h=>by simp [h]
  simp only [oA,List.getElem?_cons_zero,List.getElem?_cons_succ,Value.cells]
  rw [show(Nat.beq cj.toArray.toList.length cj.length&&Nat.ble (0+cj.length) z.length)=true by simp;omega]
  simp only [cond_true]
  rw [dv]
  rw [show(Nat.beq dg.toArray.toList.length dg.length&&Nat.ble (cj.length+dg.length) (cj++z.drop cj.length).length)=true by simp;omega]
  simp only [cond_true]
  rw [cE]
  rw [show(Nat.beq bC.toArray.toList.length bC.length&&Nat.ble (cj.length+dg.length+bC.length) (cj++dg++(z.drop cj.length).drop dg.length).length)=true by simp;omega]
  simp only [cond_true]
  rw [c2]
  rw [show(Nat.beq dP.toArray.toList.length dP.length&&Nat.ble (cj.length+dg.length+bC.length+dP.length) (cj++dg++bC++((z.drop cj.length).drop dg.length).drop bC.length).length)=true by simp;omega]
  simp only [cond_true]
  rw [m2,vo,List.append_nil]
theorem Dg{au z:List Value}{aH:Nat}(h:au.length=aH):oA ((List.range 1).map fun i=>(i*aH,aH)) ((List.range (1*aH)).map (z.toArray[· %z.length]!)) [(0,.agg au.toArray)]=some au:=by
  have e:(List.range 1).map (fun i=>(i*aH,aH))=[(0,aH)]:=by simp
  rw [e]
  generalize cq:(List.range (1*aH)).map (z.toArray[· %z.length]!)=IQ
  have aJ:IQ.length=au.length:=by rw [←cq];simp [h]
  simp only [oA,List.getElem?_cons_zero,Value.cells]
  rw [show(Nat.beq au.toArray.toList.length aH&&Nat.ble (0+aH) IQ.length)=true by simp [h,aJ]]
  have:=JR au IQ [] aJ
  simpa using this
theorem vI{c:List Oper}(t:Take L S R)(h:b8 P B A r N ops c an E L Q):b8 P B A r N ops c an E S Q:=fun a w ap aB=>h a w ap (aB.mm t)
theorem CT{c:Code}(t:Take L S R)(h:X P B A r N c an E L Q):X P B A r N c an E S Q:=fun a w ap aB=>h a w ap (aB.mm t)
theorem EO{fn:Func}{p t b n q:Nat}{au:List Value}{dF:TypeId}{aP:List (ao B)}{v:Value}(h:fn.results= #[.tmp q,.cell p t])(aE:E.get p=some (.pointer (some ⟨b,0,none⟩)))(ap:Out (aa b au dF) S aP)(aR:cx P t=some (true,n))(a7:au.length=n)(bP:E.get q=some v):
    ∀a w,dq N an E a→bB B A S w→(results fn a.tmps).run P w= .ok (.tuple #[v,.agg au.toArray]) w:=by
  intro a w dy aB
  obtain⟨D,bc⟩:=aB.mem ap
  have aJ:=vy (P:=P) (w:=w) (p:=⟨b,0,none⟩) (bx:=au) aR a7 (fun k aj=>me D w bc k (by omega))
  simp only [Instr.loadAt,Instr.sureAddr,Sem.run_bind,Sem.run_pure,Result.andThen_ok]at aJ
  have nt:a.tmps[p]?.getD undef= .pointer (some ⟨b,0,none⟩):=by have:=dy.get p _ aE;simpa [Array.getD_eq_getD_getElem?]using this
  have p2:a.tmps[q]?.getD undef=v:=by have:=dy.get q _ bP;simpa [Array.getD_eq_getD_getElem?]using this
  simp [results,h,nt,p2,asAddr,aJ]
structure Fit(n:Nat)(au:List Value):Prop where
  len:au.length=n
  one:au.all (·.oneCell')=true
theorem Fit.set{n k:Nat}{au:List Value}{v:Value}(h:Fit n au)(ck:v.oneCell'=true):Fit n (au.set k v):=
  ⟨by rw [List.length_set,h.len],List.all_eq_true.2 fun u hu=>by
    rcases List.mem_or_eq_of_mem_set hu with q|q
    · exact List.all_eq_true.1 h.one u q
    · rw [q];exact ck⟩
theorem Cr{au:List Value}{j k n:Nat}{v:Value}(h:j<k∨k+n≤j):((au.set j v).drop k).take n=(au.drop k).take n:=by
  apply List.ext_getElem?
  intro i
  by_cases ak:i<n
  · rw [List.getElem?_take_of_lt ak,List.getElem?_take_of_lt ak,List.getElem?_drop,List.getElem?_drop,List.getElem?_set_ne (by omega)]
  · rw [List.getElem?_eq_none_iff.2 (by rw [List.length_take];omega),List.getElem?_eq_none_iff.2 (by rw [List.length_take];omega)]
theorem GI{cj dg bC z:List Value}{kC iA nJ m1:Nat}{pl:List (Nat×Nat)}(b0:cj.length=kC)(ab:dg.length=iA)(af:bC.length=nJ)(dd:m1=kC+iA)(cq:kC+iA+nJ≤z.length):
    oA ((0,kC)::(kC,iA)::(m1,nJ)::pl) z [(0,.agg cj.toArray),(1,.agg dg.toArray),(2,.agg bC.toArray)]=some (cj++dg++bC++z.drop (kC+iA+nJ)):=by
  subst b0 ab af dd
  have dv:=tY cj z [] (by omega)
  simp only [List.nil_append,List.length_nil]at dv
  have cE:=tY dg (z.drop cj.length) cj (by rw [List.length_drop];omega)
  have c2:=tY bC ((z.drop cj.length).drop dg.length) (cj++dg) (by rw [List.length_drop,List.length_drop];omega)
  rw [List.length_append]at c2
  simp only [oA,List.getElem?_cons_zero,List.getElem?_cons_succ,Value.cells]
  rw [show(Nat.beq cj.toArray.toList.length cj.length&&Nat.ble (0+cj.length) z.length)=true by simp;omega]
  simp only [cond_true]
  rw [dv]
  rw [show(Nat.beq dg.toArray.toList.length dg.length&&Nat.ble (cj.length+dg.length) (cj++z.drop cj.length).length)=true by simp;omega]
  simp only [cond_true]
  rw [cE]
  rw [show(Nat.beq bC.toArray.toList.length bC.length&&Nat.ble (cj.length+dg.length+bC.length) (cj++dg++(z.drop cj.length).drop dg.length).length)=true by simp;omega]
  simp only [cond_true]
  rw [c2,List.drop_drop,List.drop_drop,Nat.add_assoc]
theorem Cs{fn:Func}{p q u t fB t2 b hs aM:Nat}{v:Value}{fi v2:Value}{dF wF HM:TypeId}{aP aQ cF:List (ao B)}(h:fn.results= #[.cell p t,.cell q fB,.cell u t2])(aE:E.get p=some (.pointer (some ⟨b,0,none⟩)))(bP:E.get q=some (.pointer (some ⟨hs,0,none⟩)))(hu:E.get u=some (.pointer (some ⟨aM,0,none⟩)))(ap:Out (aa b [v] dF) S aP)(ey:Out (aa hs [fi] wF) S aQ)(kY:Out (aa aM [v2] HM) S cF)(aR:cx P t=some (false,1))(ts:cx P fB=some (false,1))(HN:cx P t2=some (false,1)):
    ∀a w,dq N an E a→bB B A S w→(results fn a.tmps).run P w= .ok (.tuple #[v,fi,v2]) w:=by
  intro a w dy aB
  obtain⟨D,bc⟩:=aB.mem ap
  obtain⟨qb,wG⟩:=aB.mem ey
  obtain⟨dX,HO⟩:=aB.mem kY
  have aJ:=rI (P:=P) (w:=w) (p:=⟨b,0,none⟩) aR (v:=v) (me D w bc 0 (by simp))
  have jA:=rI (P:=P) (w:=w) (p:=⟨hs,0,none⟩) ts (v:=fi) (me qb w wG 0 (by simp))
  have sh:=rI (P:=P) (w:=w) (p:=⟨aM,0,none⟩) HN (v:=v2) (me dX w HO 0 (by simp))
  simp only [Instr.loadAt,Instr.sureAddr,Sem.run_bind,Sem.run_pure,Result.andThen_ok]at aJ jA sh
  have nt:a.tmps[p]?.getD undef= .pointer (some ⟨b,0,none⟩):=by have:=dy.get p _ aE;simpa [Array.getD_eq_getD_getElem?]using this
  have p2:a.tmps[q]?.getD undef= .pointer (some ⟨hs,0,none⟩):=by have:=dy.get q _ bP;simpa [Array.getD_eq_getD_getElem?]using this
  have HP:a.tmps[u]?.getD undef= .pointer (some ⟨aM,0,none⟩):=by have:=dy.get u _ hu;simpa [Array.getD_eq_getD_getElem?]using this
  simp [results,h,nt,p2,HP,asAddr,aJ,jA,sh]
theorem Tv{fn:Func}{p q u t fB t2 b hs aM:Nat}{au:List Value}{n:Nat}{fi v2:Value}{dF wF HM:TypeId}{aP aQ cF:List (ao B)}(h:fn.results= #[.cell p t,.cell q fB,.cell u t2])(aE:E.get p=some (.pointer (some ⟨b,0,none⟩)))(bP:E.get q=some (.pointer (some ⟨hs,0,none⟩)))(hu:E.get u=some (.pointer (some ⟨aM,0,none⟩)))(ap:Out (aa b au dF) S aP)(ey:Out (aa hs [fi] wF) S aQ)(kY:Out (aa aM [v2] HM) S cF)(aR:cx P t=some (true,n))(ts:cx P fB=some (false,1))(HN:cx P t2=some (false,1))(a7:au.length=n):
    ∀a w,dq N an E a→bB B A S w→(results fn a.tmps).run P w= .ok (.tuple #[.agg au.toArray,fi,v2]) w:=by
  intro a w dy aB
  obtain⟨D,bc⟩:=aB.mem ap
  obtain⟨qb,wG⟩:=aB.mem ey
  obtain⟨dX,HO⟩:=aB.mem kY
  have aJ:=vy (P:=P) (w:=w) (p:=⟨b,0,none⟩) (bx:=au) aR a7 (fun k aj=>me D w bc k (by omega))
  have jA:=rI (P:=P) (w:=w) (p:=⟨hs,0,none⟩) ts (v:=fi) (me qb w wG 0 (by simp))
  have sh:=rI (P:=P) (w:=w) (p:=⟨aM,0,none⟩) HN (v:=v2) (me dX w HO 0 (by simp))
  simp only [Instr.loadAt,Instr.sureAddr,Sem.run_bind,Sem.run_pure,Result.andThen_ok]at aJ jA sh
  have nt:a.tmps[p]?.getD undef= .pointer (some ⟨b,0,none⟩):=by have:=dy.get p _ aE;simpa [Array.getD_eq_getD_getElem?]using this
  have p2:a.tmps[q]?.getD undef= .pointer (some ⟨hs,0,none⟩):=by have:=dy.get q _ bP;simpa [Array.getD_eq_getD_getElem?]using this
  have HP:a.tmps[u]?.getD undef= .pointer (some ⟨aM,0,none⟩):=by have:=dy.get u _ hu;simpa [Array.getD_eq_getD_getElem?]using this
  simp [results,h,nt,p2,HP,asAddr,aJ,jA,sh]
end Go.Sl
end
section
namespace Go.Sl
open Go
variable{P:Program}{B:Nat}{A:eD}{r:Option Nat}{N:Nat}{an:List Nat}{E fp:Env}{S a8 R L F Fr own:List (ao B)}{Q ic:e7 B}{ops:Array Oper}{rest:List Oper}
theorem zB(l cb:List (ao B)):hL (l++cb) (cb++l):=fun D w h=>by
  obtain⟨dk,dX,e,aD,bM,bS⟩:=h.append
  exact dR.join (fun k=>(e k).trans Or.comm) (fun k a b=>aD k b a) bS bM
def yc{α:Type}(P:Program)(B:Nat)(cf:FuncId)(cL:List Value)(own V:List (ao B))(p:α→Prop)(xs:α→List (List Value))(ez:α→List (ao B)):Prop:=
  ∀(l:Nat) (J gN:α→Nat→List (ao B)→Prop) (cb:List (ao B)),(∀x,p x→J x 0 (cb++(ez x++V)))→
    (∀x i S,p x→i<(xs x).length→J x i S→nu P B l ((xs x).getD i []) S fun b a8=>(b=true∧J x (i+1) a8)∨(b=false∧gN x i a8))→
    dQ P B cf (.func (.yield l) #[] #[]::cL) (own++(cb++V)) fun _ a8=>∃x,p x∧∃aP,a8=own++aP∧(J x (xs x).length aP∨∃i,i<(xs x).length∧gN x i aP)
theorem Sm{α:Type}{p:α→Prop}{xs:α→List (List Value)}{V cb:List (ao B)}{ez:α→List (ao B)}{f:Operand}{bV:List Nat}{assign body:Code}{cf:FuncId}{cL:List Value}(br:aX E f=some (.func (.func cf) #[] cL.toArray))(he:Go.Proofs.Enters P cf)(ri:yc P B cf cL own V p xs ez)
    (J:α→Nat→List (ao B)→Prop) (h4:α→Code→Nat→List (ao B)→Prop) (aR:Take (own++(cb++V)) S Fr) (bt:∀x,p x→J x 0 (cb++(ez x++V))) (lY:bV.all (Nat.blt · N)=true) (hlen:∀x,p x→∀y∈xs x,y.length=bV.length)
    (mf:∀(x:α) (l:Nat) (rec:Loop) (lo:eD) (i:Nat) (a8:List (ao B)),p x→i<(xs x).length→J x i a8→X P B lo (some l) N assign [] (Env.pf bV ((xs x).getD i []) E) (obj l (.loop rec)::a8) (v7 P lo N body l rec (J x) (h4 x) i))
    (pP:∀x ch a8,p x→J x (xs x).length a8→Q .normal (ch::an) E (du ch::(own++(a8++Fr))))
    (pQ:∀x ch c i a8,p x→i<(xs x).length→h4 x c i a8→X P B A none N c (ch::an) E (du ch::(own++(a8++Fr))) Q):
    X P B A none N (.rangeFunc f bV.toArray assign body) an E S Q:=by
  intro a w ap aB
  refine wpIn_rangeFunc ?_
  intro fn _
  have n6:=(aB.take aR).new (.deferred (some []))
  have g4:=n6.new (.loop {state:= .ready,pending:=none,fn,tmps:=a.tmps,params:=bV.toArray,assign,body,defers:=w.heap.size})
  simp only [World.size_alloc]at g4
  obtain⟨fg,rj⟩:∃fg,(w.alloc (.deferred (some []))).alloc (.loop {state:= .ready,pending:=none,fn,tmps:=a.tmps,params:=bV.toArray,assign,body,defers:=w.heap.size})=fg:=⟨_,rfl⟩
  have jh:=run_enterLoop_outer (P:=P) (w:=w) fn a.tmps bV.toArray assign body
  rw [rj]at g4 jh
  generalize aJ:w.heap.size+1=l at g4 jh
  generalize w.heap.size=ch at n6 g4 jh
  have nv:bB B A ((own++(obj l (.loop {state:= .ready,pending:=none,fn,tmps:=a.tmps,params:=bV.toArray,assign,body,defers:=ch})::([du ch]++(cb++V))))++Fr) fg:=by
    have ab:bB B A ([obj l (.loop {state:= .ready,pending:=none,fn,tmps:=a.tmps,params:=bV.toArray,assign,body,defers:=ch}),du ch]++(own++((cb++V)++Fr))) fg:=by simpa using g4
    have af:=ab.mid
    simpa using af
  refine⟨l,[{target:= .collected ch,args:= #[]}],fg,{target:= .fn (.func cf) cL.toArray,args:= #[.func (.yield l) #[] #[]]},fg,cf, #[.func (.yield l) #[] #[]]++cL.toArray,fg,jh,?_,fun _ _=>trivial,?_,fun _=>by simp_all [Fence.wide],?_⟩
  · simp only [resolve,ap.aX br]
    simp [Deferred.ofValue,Act.eval]
  · simpa [invoke]using he (Value.func (.yield l) #[] #[]::cL).toArray fg
  · have dy:dq N [] E {tmps:=a.tmps,defers:=[]}:=⟨ap.size,rfl,ap.get⟩
    have q7:=ri l (fun x i S=>∃cF,S=obj l (.loop {state:= .ready,pending:=none,fn,tmps:=a.tmps,params:=bV.toArray,assign,body,defers:=ch})::([du ch]++cF)∧J x i cF)
      (fun x i S=>∃c cF,S=obj l (.loop {state:= .done,pending:=some c,fn,tmps:=a.tmps,params:=bV.toArray,assign,body,defers:=ch})::([du ch]++cF)∧h4 x c i cF)
      (obj l (.loop {state:= .ready,pending:=none,fn,tmps:=a.tmps,params:=bV.toArray,assign,body,defers:=ch})::([du ch]++cb)) (fun x av=>⟨cb++(ez x++V),rfl,bt x av⟩)
      (fun x i S av ak ⟨cF,eK,nw⟩=>by
        subst eK
        exact xp dy lY (hlen x av) ak nw (fun l rec lo i a8=>mf x l rec lo i a8 av))
    have e0:=nv.size
    obtain⟨D,bM,bS,cD,cV,ff,gE⟩:=nv
    obtain⟨hK,l3,bZ,fO,h0,b7⟩:=bM.append
    have m9:=q7 fg hK h0 (fun k aj=>bS k ((bZ k).2 (.inl aj))) e0
    have iD:(Value.func (.yield l) #[] #[]::cL).toArray= #[.func (.yield l) #[] #[]]++cL.toArray:=by simp
    rw [iD]at m9
    refine CallsIn.mono m9 ?_
    rintro e Bs ⟨v,aQ,rfl,⟨x,av,aE⟩,et⟩
    have pV:=bB.nO bM bS cD cV ff gE bZ fO b7 et
    have q8:dq N (ch::an) E {a with defers:=[{target:= .collected ch,args:= #[]}]++a.defers}:=⟨ap.size,by simp [ap.oF,uf],ap.get⟩
    exact xq (rec:=fun s c=>{state:=s,pending:=c,fn,tmps:=a.tmps,params:=bV.toArray,assign,body,defers:=ch}) (fun s c=>⟨rfl,rfl⟩) (jC:=[du ch]) q8 pV aE (fun a8 h=>pP x ch a8 av h) (fun c i a8 ak h=>pQ x ch c i a8 av ak h)
theorem dQ.frame{f:FuncId}{args:List Value}{pre:List (ao B)}{post:Value→List (ao B)→Prop}(h:dQ P B f args pre post)(F:List (ao B)):dQ P B f args (pre++F) (fun v S=>∃aP,S=aP++F∧post v aP):=by
  intro w D aB bZ hq
  obtain⟨dk,dX,e,aD,eR,cB⟩:=aB.append
  refine CallsIn.mono (h w dk eR (fun k aj=>bZ k ((e k).2 (.inl aj))) hq) ?_
  rintro x b3 ⟨v,a8,rfl,aE,et⟩
  exact⟨v,a8++F,rfl,⟨a8,rfl,aE⟩,bB.nO (A:=⟨w,D⟩) aB bZ (fun k aj=> .inl aj) (sc.refl _ _) hq (fun k aj=>(bZ k aj).1) e aD cB et⟩
end Go.Sl
end
section
namespace Go.Sl
open Go
variable{P:Program}{B:Nat}{A:eD}{S a8 R L F K:List (ao B)}{f:FuncId}{args:List Value}{pre Dt:List (ao B)}{post pj:Value→List (ao B)→Prop}
def ex{α:Type}(F:α→List (ao B)):ao B where
  holds D w:=∃x,dR (F x) D w
  lQ:=fun⟨x,h⟩ aB=>⟨x,dR.lQ h aB⟩
theorem kT{α:Type}{F:α→List (ao B)}(x:α)(t:Take (F x) S R):hL S (ex F::R):=fun D w h=>by
  obtain⟨dk,dX,e,aD,eR,cB⟩:=(t.n5 h).append
  exact⟨dk,dX,e,aD,⟨x,eR⟩,cB⟩
theorem sS{α:Type}{F:α→List (ao B)}(h:∀x,dQ P B f args (F x++pre) post):dQ P B f args (ex F::pre) post:=by
  intro w D aB bZ hq
  obtain⟨dk,dX,e,aD,⟨x,eR⟩,cB⟩:=aB
  exact h x w D (dR.join e aD eR cB) bZ hq
theorem j2(h:dQ P B f args pre post)(c:hL Dt pre):dQ P B f args Dt post:=fun w D aB bZ hq=>h w D (c D w aB) bZ hq
theorem gB(h:dQ P B f args pre post)(aE:∀v S,post v S→∃aP a8 R,hL S aP∧Take a8 aP R∧pj v a8):dQ P B f args pre pj:=fun w D aB bZ hq=>
  (h w D aB bZ hq).mono fun _ _ ⟨v,a8,e,p,bz⟩=>by
    obtain⟨aP,aQ,R,c,t,q⟩:=aE v a8 p
    exact⟨v,aQ,e,q,(c.bz bz).mm t⟩
theorem jK(h:dQ P B f args pre post)(t:Take pre Dt F):dQ P B f args Dt (fun v S=>∃aP,S=aP++F∧post v aP):=j2 (dQ.frame h F) (FI t)
section
variable[lW]{r:Option Nat}{N:Nat}{c:Code}{an:List Nat}{E:Env}{Q:e7 B}{m i:Nat}
def yd(P:Program)(B:Nat)(A:eD)(r:Option Nat)(N:Nat)(c:Code)(Q:e7 B):Nat→e7 B
  |0,.normal,_,_,_=>False
  |m+1,.normal,an,E,S=>X P B A r N c an E S (yd P B A r N c Q m)
  |_,e,an,E,S=>Q e an E S
theorem JS:∀(m:Nat) {an:List Nat} {E:Env} {S:List (ao B)},X P B A r N c an E S (yd P B A r N c Q m)→∀a w,dq N an E a→bB B A S w→Code.roundsIn (l4 r) 0 P c (ta B A N Q) (m+1) a w
  |0,an,E,S,h,a,w,ap,aB=>wpIn_mono (h a w ap aB) fun e a w ⟨an,E,S,ab,af,az⟩=>by
    cases e with
    |normal=>exact az.elim
    |_=>exact⟨an,E,S,ab,af,az⟩
  |m+1,an,E,S,h,a,w,ap,aB=>wpIn_mono (h a w ap aB) fun e a w ⟨an,E,S,ab,af,az⟩=>by
    cases e with
    |normal=>exact JS m az a w ab af
    |_=>exact⟨an,E,S,ab,af,az⟩
theorem k4(m:Nat)(h:X P B A r N c an E S (yd P B A r N c Q m)):X P B A r N (.loop c) an E S Q:=fun a w ap aB=>wpIn_loop_rounds (m+1) (JS m h a w ap aB)
theorem nN(h:X P B A r N c an E S (yd P B A r N c Q m)):yd P B A r N c Q (m+1) .normal an E S:=h
theorem k3(h:Q (.exit i) an E S):yd P B A r N c Q m (.exit i) an E S:=by cases m<;>exact h
end
end Go.Sl
end
section
namespace Go.Sl
open Go
variable{P:Program}{B:Nat}{A:eD}{N:Nat}{an:List Nat}{E:Env}{S a8 R L F K:List (ao B)}{Q:e7 B}
def wb(P:Program)(B:Nat)(f:FuncId)(args:List Value)(pre:List (ao B))(post:Value→List (ao B)→Prop):Prop:=
  ∀w D,dR pre D w→(∀k,D k→B≤k∧k<w.heap.size)→B≤w.heap.size→
    CallsDIn (l4 none) 0 P f args.toArray .returning w fun e u b3=>u= .returning∧∃v a8,e= .returned v∧post v a8∧bB B ⟨w,D⟩ a8 b3
def M3(P:Program)(B:Nat)(A:eD)(N:Nat)(fn:Func)(post:Value→List (ao B)→Prop):e7 B
  | .normal,an,E,S| .ret,an,E,S=>an=[]∧∃v,(∀a w,dq N an E a→bB B A S w→(results fn a.tmps).run P w= .ok v w)∧∃hr R,Take hr S R∧post v hr
  |_,_,_,_=>False
theorem Ko{fn:Func}{post:Value→List (ao B)→Prop}{v:Value}(t:Take ([]:List (ao B)) S L)(bk:∀a w,dq N [] E a→bB B A S w→(results fn a.tmps).run P w= .ok v w)(h:∃hr,post v hr∧∃R,Take hr S R):
    M3 P B A N fn post .normal [] E S:=let⟨hr,aE,R,t2⟩:=h;⟨rfl,v,bk,hr,R,t2,aE⟩
theorem Rs{f:FuncId}{fn:Func}{c:Code}{args:List Value}{pre:List (ao B)}{post:Value→List (ao B)→Prop}(br:P.funcs[f]?=some fn)(bb:fn.body=some c)
    (a7:args.length≤N) (jb:fn.ntmps=N)
    (h:∀w D,X P B ⟨w,D⟩ none N c [] (Env.pe 0 args) pre (M3 P B ⟨w,D⟩ N fn post)):wb P B f args pre post:=by
  intro w D aB bZ hq
  refine callsDIn_of_wp br bb trivial (wpIn_mono (h w D _ w ?_ ⟨D,aB,bZ,fun k aj=> .inl aj,sc.refl _ _,hq,fun k aj=>(bZ k aj).1⟩) ?_)
  · refine⟨by simp [jb];omega,rfl,fun t v aR=>?_⟩
    obtain⟨_,af⟩:=Env.BV _ _ _ _ aR
    rw [Nat.sub_zero]at af
    have az:=(List.getElem?_eq_some_iff.1 af).1
    rw [Array.getD_eq_getD_getElem?,Array.getElem?_append_left (by simpa using az)]
    simpa using congrArg (·.getD undef) af
  · rintro e ie b3 ⟨j8,fp,a8,ok,bz,q⟩
    cases e with
    |normal=>
      obtain⟨rfl,v,bk,hr,R,t,aE⟩:=q
      exact⟨by rw [ok.oF];rfl,v,bk ie b3 ok bz,v,hr,rfl,aE,bz.mm t⟩
    |ret=>
      obtain⟨rfl,v,bk,hr,R,t,aE⟩:=q
      exact⟨by rw [ok.oF];rfl,v,bk ie b3 ok bz,v,hr,rfl,aE,bz.mm t⟩
    |_=>exact q.elim
theorem wb.mono{f:FuncId}{args:List Value}{pre:List (ao B)}{post pj:Value→List (ao B)→Prop}(h:wb P B f args pre post)(aE:∀v S,post v S→pj v S):wb P B f args pre pj:=
  fun w D ab af az=>CallsDIn.mono (h w D ab af az) fun _ _ _ ⟨hu,v,a8,e,p,bz⟩=>⟨hu,v,a8,e,aE _ _ p,bz⟩
def XK(P:Program)(B:Nat)(g:FuncId)(bx:List Value)(post:Value→List (ao B)→Prop):e7 B
  | .normal,an,_,S| .ret,an,_,S=>an=[]∧∃L R,Take L S R∧wb P B g bx L fun _ aQ=>∃cF Br,Take cF (aQ++R) Br∧post (.tuple #[]) cF
  |_,_,_,_=>False
theorem y7{f g:FuncId}{fn:Func}{rest:Code}{id d t0:Nat}{HQ AI:TypeId}{kd gk:String}{f1 f2:Array Edge}{di:Array TypeId}{args:List Value}{v:Value}{pre:List (ao B)}{post:Value→List (ao B)→Prop}(br:P.funcs[f]?=some fn)
    (bb:fn.body=some (.seq (.region id #[⟨some d,.move (.tmp t0),HQ,kd,f1,none⟩,⟨none,.defer {callee:= .value (.func g),args:= #[.tmp d],argTypes:=di},AI,gk,f2,none⟩] false) rest))
    (a7:args.length≤N) (jb:fn.ntmps=N) (aD:Nat.blt d N=true) (ck:(Env.pe 0 args).get t0=some v) (oI:fn.results= #[]) (bh:Go.Proofs.Enters P g)
    (h:∀w D (w8:lW),w8.l=[{target:= .fn (.func g) #[],args:= #[v]}]→ @X w8 P B ⟨w,D⟩ none N rest [] ((d,v)::Env.pe 0 args) pre (XK P B g [v] post)):dQ P B f args pre post:=by
  intro w D aB bZ hq
  refine callsIn_of_wp_marks br bb trivial ?_
  have AJ:dq N [] (Env.pe 0 args) {tmps:=args.toArray++Array.replicate (fn.ntmps-args.toArray.size) undef,defers:=[]}:=by
    refine⟨by simp [jb];omega,rfl,fun t v aR=>?_⟩
    obtain⟨_,af⟩:=Env.BV _ _ _ _ aR
    rw [Nat.sub_zero]at af
    have az:=(List.getElem?_eq_some_iff.1 af).1
    rw [Array.getD_eq_getD_getElem?,Array.getElem?_append_left (by simpa using az)]
    simpa using congrArg (·.getD undef) af
  have abK:bB B ⟨w,D⟩ pre w:=⟨D,aB,bZ,fun k aj=> .inl aj,sc.refl _ _,hq,fun k aj=>(bZ k aj).1⟩
  generalize ({tmps:=args.toArray++Array.replicate (fn.ntmps-args.toArray.size) undef,defers:=[]}:Act)=dv at AJ
  have abL:dv.eval (.tmp t0)=v:=AJ.aX (x:= .tmp t0) ck
  refine wpIn_seq (wpIn_region_lit (l:=[⟨some d,.move (.tmp t0),HQ,kd,f1,none⟩,⟨none,.defer {callee:= .value (.func g),args:= #[.tmp d],argTypes:=di},AI,gk,f2,none⟩]) ?_)
  have lh:dq N [] ((d,v)::Env.pe 0 args) (dv.put (some d) v):=AJ.put (by simpa using aD)
  have O1:(dv.put (some d) v).eval (.tmp d)=v:=lh.aX (x:= .tmp d) (by simp [Sl.aX,Env.get])
  simp only [wpListIn,Region.wanted,if_true]
  refine⟨fun _ _=>trivial,?_⟩
  rw [Oper.semAt_eq _ _ _ (by simp)]
  have dc:(execOp dv.eval ⟨some d,.move (.tmp t0),HQ,kd,f1,none⟩).run P w= .ok (.value v) w:=by simp [execOp,abL]
  rw [dc]
  show _∧_
  refine⟨fun _ _=>trivial,?_⟩
  change Oper.uponIn (l4 none) 0 P _ (dv.put (some d) v) _ _ (Sem.run P (Oper.semAt (l4 none).round (dv.put (some d) v).eval _) w)
  generalize dv.put (some d) v=cE at lh O1⊢
  have dd:(execOp cE.eval ⟨none,.defer {callee:= .value (.func g),args:= #[.tmp d],argTypes:=di},AI,gk,f2,none⟩).run P w= .ok (.defer {target:= .fn (.func g) #[],args:= #[v]}) w:=by
    have O2:cE.tmps.getD d undef=v:=O1
    rw [Array.getD_eq_getD_getElem?]at O2
    simp [execOp,resolve,Deferred.ofValue,Act.eval,O2]
  rw [show Oper.semAt (l4 none).round cE.eval {dst:=none,op:=Op.defer {callee:= .value (.func g),args:= #[.tmp d],argTypes:=di},type:=AI,pos:=gk,after:=f2,guard:=none}=execOp cE.eval {dst:=none,op:=Op.defer {callee:= .value (.func g),args:= #[.tmp d],argTypes:=di},type:=AI,pos:=gk,after:=f2,guard:=none}from rfl,dd]
  show rest.wpIn (l4 none) 0 P _ {cE with defers:=_::cE.defers} w
  have OS: @dq ⟨[{target:= .fn (.func g) #[],args:= #[v]}]⟩ N [] ((d,v)::Env.pe 0 args) {cE with defers:={target:= .fn (.func g) #[],args:= #[v]}::cE.defers}:=
    by
      have ab:cE.defers=[]:=by rw [lh.oF,uf];rfl
      refine @dq.mk ⟨[{target:= .fn (.func g) #[],args:= #[v]}]⟩ N [] ((d,v)::Env.pe 0 args) {cE with defers:={target:= .fn (.func g) #[],args:= #[v]}::cE.defers} lh.size ?_ lh.get
      show _::cE.defers=_
      rw [ab];rfl
  refine wpIn_mono (h w D ⟨[{target:= .fn (.func g) #[],args:= #[v]}]⟩ rfl _ w OS abK) ?_
  rintro e ie b3 ⟨j8,fp,a8,ok,bz,q⟩
  have fin:(j8=[]∧∃L R,Take L a8 R∧wb P B g [v] L fun _ aQ=>∃cF Br,Take cF (aQ++R) Br∧post (.tuple #[]) cF)→
      LeavesInM (l4 none) 0 P fn ie.tmps (fun e b3=>∃v a8,e= .returned v∧post v a8∧bB B ⟨w,D⟩ a8 b3) ie.defers .returning b3:=by
    rintro⟨rfl,L,R,t,bg⟩
    obtain⟨qb,bM,bS,cD,cV,ff,gE⟩:=bz.take t
    obtain⟨hK,l3,bZ,fO,h0,b7⟩:=bM.append
    have abM:= @dq.oF ⟨[{target:= .fn (.func g) #[],args:= #[v]}]⟩ N [] fp ie ok
    rw [abM]
    refine⟨by simp,.inr ⟨by simp [Fence.wide],.func g, #[],g, #[v],rfl,by simp [invoke,bh #[v] b3],fun _ _=>trivial,?_⟩⟩
    refine CallsDIn.mono (bg b3 hK h0 (fun k aj=>bS k ((bZ k).2 (.inl aj))) (Nat.le_trans ff cV.size)) ?_
    rintro e u hV ⟨rfl,v2,aQ,rfl,⟨cF,Br,t3,aE⟩,et⟩
    have abN:=bB.nO bM bS cD cV ff gE bZ fO b7 et
    exact⟨.tuple #[],results_none oI _ _ _,_,cF,rfl,aE,abN.mm t3⟩
  cases e with
  |normal=>exact fin q
  |ret=>exact fin q
  |_=>exact q.elim
end Go.Sl
end
section
namespace Go.Sl
open Go
variable{P:Program}{B:Nat}{A:eD}{r:Option Nat}{N:Nat}{an:List Nat}{E fp:Env}{S aP R jo L F Fr own:List (ao B)}{Q ic:e7 B}{ops:Array Oper}{rest:List Oper}{o:Oper}
def NM(P:Program)(B:Nat)(cf:FuncId)(cL:List Value)(own Ac:List (ao B))(xs:List (List Value)):Prop:=
  ∀(l:Nat) (J gN:Nat→List (ao B)→Prop) (cb:List (ao B)),J 0 cb→
    (∀i S,i<xs.length→J i S→nu P B l (xs.getD i []) S fun b a8=>(b=true∧J (i+1) a8)∨(b=false∧gN i a8))→
    dQ P B cf (.func (.yield l) #[] #[]::cL) (own++cb) fun _ a8=>∃aP,a8=Ac++aP∧(J xs.length aP∨∃i,i<xs.length∧gN i aP)
theorem Kp{Ac:List (ao B)}{f:Operand}{bV:List Nat}{assign body:Code}{cf:FuncId}{cL:List Value}{xs:List (List Value)}(br:aX E f=some (.func (.func cf) #[] cL.toArray))(he:Go.Proofs.Enters P cf)(ri:NM P B cf cL own Ac xs)
    (J:Nat→List (ao B)→Prop) (h4:Code→Nat→List (ao B)→Prop) (aR:Take (own++aP) S Fr) (bt:J 0 aP) (lY:bV.all (Nat.blt · N)=true) (hlen:∀x∈xs,x.length=bV.length)
    (mf:∀(l:Nat) (rec:Loop) (lo:eD) (i:Nat) (a8:List (ao B)),i<xs.length→J i a8→X P B lo (some l) N assign [] (Env.pf bV (xs.getD i []) E) (obj l (.loop rec)::a8) (v7 P lo N body l rec J h4 i))
    (pP:∀ch a8,J xs.length a8→Q .normal (ch::an) E (du ch::(Ac++(a8++Fr))))
    (pQ:∀ch c i a8,i<xs.length→h4 c i a8→X P B A none N c (ch::an) E (du ch::(Ac++(a8++Fr))) Q):
    X P B A none N (.rangeFunc f bV.toArray assign body) an E S Q:=by
  intro a w ap aB
  refine wpIn_rangeFunc ?_
  intro fn _
  have n6:=(aB.take aR).new (.deferred (some []))
  have g4:=n6.new (.loop {state:= .ready,pending:=none,fn,tmps:=a.tmps,params:=bV.toArray,assign,body,defers:=w.heap.size})
  simp only [World.size_alloc]at g4
  obtain⟨fg,rj⟩:∃fg,(w.alloc (.deferred (some []))).alloc (.loop {state:= .ready,pending:=none,fn,tmps:=a.tmps,params:=bV.toArray,assign,body,defers:=w.heap.size})=fg:=⟨_,rfl⟩
  have jh:=run_enterLoop_outer (P:=P) (w:=w) fn a.tmps bV.toArray assign body
  rw [rj]at g4 jh
  generalize aJ:w.heap.size+1=l at g4 jh
  generalize w.heap.size=ch at n6 g4 jh
  have nv:bB B A ((own++(obj l (.loop {state:= .ready,pending:=none,fn,tmps:=a.tmps,params:=bV.toArray,assign,body,defers:=ch})::([du ch]++aP)))++Fr) fg:=by
    have ab:bB B A ([obj l (.loop {state:= .ready,pending:=none,fn,tmps:=a.tmps,params:=bV.toArray,assign,body,defers:=ch}),du ch]++(own++(aP++Fr))) fg:=by simpa using g4
    have af:=ab.mid
    simpa using af
  refine⟨l,[{target:= .collected ch,args:= #[]}],fg,{target:= .fn (.func cf) cL.toArray,args:= #[.func (.yield l) #[] #[]]},fg,cf, #[.func (.yield l) #[] #[]]++cL.toArray,fg,jh,?_,fun _ _=>trivial,?_,fun _=>by simp_all [Fence.wide],?_⟩
  · simp only [resolve,ap.aX br]
    simp [Deferred.ofValue,Act.eval]
  · simpa [invoke]using he (Value.func (.yield l) #[] #[]::cL).toArray fg
  · have dy:dq N [] E {tmps:=a.tmps,defers:=[]}:=⟨ap.size,rfl,ap.get⟩
    have q7:=ri l (fun i S=>∃cF,S=obj l (.loop {state:= .ready,pending:=none,fn,tmps:=a.tmps,params:=bV.toArray,assign,body,defers:=ch})::([du ch]++cF)∧J i cF)
      (fun i S=>∃c cF,S=obj l (.loop {state:= .done,pending:=some c,fn,tmps:=a.tmps,params:=bV.toArray,assign,body,defers:=ch})::([du ch]++cF)∧h4 c i cF) _ ⟨aP,rfl,bt⟩
      (fun i S ak ⟨cF,eK,nw⟩=>by
        subst eK
        exact xp dy lY hlen ak nw mf)
    have e0:=nv.size
    obtain⟨D,bM,bS,cD,cV,ff,gE⟩:=nv
    obtain⟨hK,l3,bZ,fO,h0,b7⟩:=bM.append
    have m9:=q7 fg hK h0 (fun k aj=>bS k ((bZ k).2 (.inl aj))) e0
    have iD:(Value.func (.yield l) #[] #[]::cL).toArray= #[.func (.yield l) #[] #[]]++cL.toArray:=by simp
    rw [iD]at m9
    refine CallsIn.mono m9 ?_
    rintro e Bs ⟨v,aQ,rfl,aE,et⟩
    have pV:=bB.nO bM bS cD cV ff gE bZ fO b7 et
    have q8:dq N (ch::an) E {a with defers:=[{target:= .collected ch,args:= #[]}]++a.defers}:=⟨ap.size,by simp [ap.oF,uf],ap.get⟩
    exact xq (rec:=fun s c=>{state:=s,pending:=c,fn,tmps:=a.tmps,params:=bV.toArray,assign,body,defers:=ch}) (fun s c=>⟨rfl,rfl⟩) (jC:=[du ch]) q8 pV aE (fun a8 h=>pP ch a8 h) (fun c i a8 ak h=>pQ ch c i a8 ak h)
theorem Sn{α:Type}{aW:α→List Value}{a:ai α}{e aH:Nat}{D:Nat→Prop}{w:World}(h:(row (B:=B) (.slice a.b1 a.l.length a.c) e aH a.l.length (a.l.flatMap aW)).holds D w):(row (B:=B) (.slice a.b1 0 a.c) e aH 0 []).holds D w:=by
  obtain⟨⟨ab,af⟩,az⟩:=h
  refine⟨⟨by simp,?_⟩,fun k=>(az k).trans (by cases a.b1<;>rfl)⟩
  rcases af with⟨af,a5⟩|⟨g,cap,gU,ck,bh,eJ,cd,c5,fo,gx⟩
  · left
    injection af with dc dd fD
    rw [dc,fD];exact⟨rfl,rfl⟩
  · right
    injection ck with dc dd fD
    exact⟨g,cap,gU,by rw [dc,fD],bh,eJ,Nat.zero_le _,c5,fo,by simp⟩
def ai.qL{α:Type}(a:ai α):ai α:=⟨a.b1,a.c,[],fun _=>rfl,Nat.zero_le _,Nat.zero_le _⟩
theorem ai.Tw{α:Type}{a:ai α}(h:a.Own):a.qL.Own:=h
theorem Tx{α:Type}{aW:α→List Value}{a:ai α}{e aH:Nat}(t:Out (row (.slice a.b1 a.l.length a.c) e aH a.l.length (a.l.flatMap aW)) S R):hL S (row (.slice a.qL.b1 a.qL.l.length a.qL.c) e aH a.qL.l.length (a.qL.l.flatMap aW)::R):=fun D w h=>by
  obtain⟨dk,dX,dc,aD,eR,cB⟩:=t.n5 h
  have lp:(row (B:=B) (.slice a.b1 0 a.c) e aH 0 []).holds dk w:=Sn eR
  exact⟨dk,dX,dc,aD,lp,cB⟩
theorem So{t e aH n c:Nat}{b1:Option Addr}{x:Operand}{y:Operand}{k:IntKind}(av:aX E x=some (.slice b1 n c))(aZ:aX E y=some (.int k 0))(aR:hz P t=some (e,aH)):dp P B A N an E S (.slice t x none (some y) none) (.slice b1 0 c):=by
  have h:dp P B A N an E S (.slice t x none (some y) none) (.slice (if c=0 then b1 else b1.map (·.add (0*aH))) (0-0) (c-0)):=Ld (A:=A) (N:=N) (an:=an) (S:=S) (l:=0) (h:=0) (m:=c) av aR (gY:=none) (ak:=some y) (sA:=none) rfl ⟨k,aZ⟩ rfl (fun e=>by cases e) (Nat.le_refl _) (Nat.zero_le _) (Nat.le_refl _)
  have dc:(if c=0 then b1 else b1.map (·.add (0*aH)))=b1:=by
    split
    · rfl
    · cases b1 with
      |none=>rfl
      |some a=>simp [Addr.add]
  rw [dc]at h
  exact h
theorem XL{f:FuncId}{xs:List Operand}{args:List Value}{di:Array TypeId}{v:Value}(aO:gC E xs=some args)(bk:∀w,(callFunc f args.toArray).run P w= .ok (.value v) w):dp P B A N an E S (.call {callee:= .value (.func f),args:=xs.toArray,argTypes:=di}) v:=
  ⟨by simp,by simp,fun a w bd pos a3 g d ap aB=>by
    have iD:=ap.gC aO
    simp [execOp,resolve,Act.eval,Deferred.ofValue,invoke,iD,bk w]⟩
end Go.Sl
end
section
namespace Go.Sl
open Go
variable{P:Program}{B:Nat}{A:eD}{r:Option Nat}{N:Nat}{an:List Nat}{E fp:Env}{S aP R jo L F Fr own:List (ao B)}{Q ic:e7 B}{ops:Array Oper}{rest:List Oper}{o:Oper}
def NN(P:Program)(B:Nat)(cf:FuncId)(cL:List Value)(own:List (ao B))(xs:List (List Value)):Prop:=
  ∀(l:Nat) (J gN:Nat→List (ao B)→Prop) (cb:List (ao B)),(∀i S,¬gN i S)→J 0 cb→
    (∀i S,i<xs.length→J i S→nu P B l (xs.getD i []) S fun b a8=>(b=true∧J (i+1) a8)∨(b=false∧gN i a8))→
    dQ P B cf (.func (.yield l) #[] #[]::cL) (own++cb) fun _ a8=>∃aP,a8=own++aP∧(J xs.length aP∨∃i,i<xs.length∧gN i aP)
theorem nu.mono{l:Nat}{args:List Value}{pre:List (ao B)}{post pj:Bool→List (ao B)→Prop}(h:nu P B l args pre post)(aE:∀b S,post b S→pj b S):nu P B l args pre pj:=fun w D ab af az=>by
  obtain⟨fn,tmps,assign,body,hG,mf⟩:=h w D ab af az
  exact⟨fn,tmps,assign,body,hG,RoundIn.mono mf fun _ _ ⟨b,a8,e,q,bz⟩=>⟨b,a8,e,aE _ _ q,bz⟩⟩
theorem Sp{f:Operand}{bV:List Nat}{assign body:Code}{cf:FuncId}{cL:List Value}{xs:List (List Value)}(br:aX E f=some (.func (.func cf) #[] cL.toArray))(he:Go.Proofs.Enters P cf)(ri:NN P B cf cL own xs)
    (J:Nat→List (ao B)→Prop) (h4:Code→Nat→List (ao B)→Prop) (abO:∀c i S,¬h4 c i S) (aR:Take (own++aP) S Fr) (bt:J 0 aP) (lY:bV.all (Nat.blt · N)=true) (hlen:∀x∈xs,x.length=bV.length)
    (mf:∀(l:Nat) (rec:Loop) (lo:eD) (i:Nat) (a8:List (ao B)),i<xs.length→J i a8→X P B lo (some l) N assign [] (Env.pf bV (xs.getD i []) E) (obj l (.loop rec)::a8) (v7 P lo N body l rec J h4 i))
    (pP:∀ch a8,J xs.length a8→Q .normal (ch::an) E (du ch::(own++(a8++Fr))))
    (pQ:∀ch c i a8,i<xs.length→h4 c i a8→X P B A none N c (ch::an) E (du ch::(own++(a8++Fr))) Q):
    X P B A none N (.rangeFunc f bV.toArray assign body) an E S Q:=by
  intro a w ap aB
  refine wpIn_rangeFunc ?_
  intro fn _
  have n6:=(aB.take aR).new (.deferred (some []))
  have g4:=n6.new (.loop {state:= .ready,pending:=none,fn,tmps:=a.tmps,params:=bV.toArray,assign,body,defers:=w.heap.size})
  simp only [World.size_alloc]at g4
  obtain⟨fg,rj⟩:∃fg,(w.alloc (.deferred (some []))).alloc (.loop {state:= .ready,pending:=none,fn,tmps:=a.tmps,params:=bV.toArray,assign,body,defers:=w.heap.size})=fg:=⟨_,rfl⟩
  have jh:=run_enterLoop_outer (P:=P) (w:=w) fn a.tmps bV.toArray assign body
  rw [rj]at g4 jh
  generalize aJ:w.heap.size+1=l at g4 jh
  generalize w.heap.size=ch at n6 g4 jh
  have nv:bB B A ((own++(obj l (.loop {state:= .ready,pending:=none,fn,tmps:=a.tmps,params:=bV.toArray,assign,body,defers:=ch})::([du ch]++aP)))++Fr) fg:=by
    have ab:bB B A ([obj l (.loop {state:= .ready,pending:=none,fn,tmps:=a.tmps,params:=bV.toArray,assign,body,defers:=ch}),du ch]++(own++(aP++Fr))) fg:=by simpa using g4
    have af:=ab.mid
    simpa using af
  refine⟨l,[{target:= .collected ch,args:= #[]}],fg,{target:= .fn (.func cf) cL.toArray,args:= #[.func (.yield l) #[] #[]]},fg,cf, #[.func (.yield l) #[] #[]]++cL.toArray,fg,jh,?_,fun _ _=>trivial,?_,fun _=>by simp_all [Fence.wide],?_⟩
  · simp only [resolve,ap.aX br]
    simp [Deferred.ofValue,Act.eval]
  · simpa [invoke]using he (Value.func (.yield l) #[] #[]::cL).toArray fg
  · have dy:dq N [] E {tmps:=a.tmps,defers:=[]}:=⟨ap.size,rfl,ap.get⟩
    have q7:=ri l (fun i S=>∃cF,S=obj l (.loop {state:= .ready,pending:=none,fn,tmps:=a.tmps,params:=bV.toArray,assign,body,defers:=ch})::([du ch]++cF)∧J i cF)
      (fun i S=>∃c cF,S=obj l (.loop {state:= .done,pending:=some c,fn,tmps:=a.tmps,params:=bV.toArray,assign,body,defers:=ch})::([du ch]++cF)∧h4 c i cF) _ (fun i S ⟨c,cF,_,h⟩=>abO c i cF h) ⟨aP,rfl,bt⟩
      (fun i S ak ⟨cF,eK,nw⟩=>by
        subst eK
        exact xp dy lY hlen ak nw mf)
    have e0:=nv.size
    obtain⟨D,bM,bS,cD,cV,ff,gE⟩:=nv
    obtain⟨hK,l3,bZ,fO,h0,b7⟩:=bM.append
    have m9:=q7 fg hK h0 (fun k aj=>bS k ((bZ k).2 (.inl aj))) e0
    have iD:(Value.func (.yield l) #[] #[]::cL).toArray= #[.func (.yield l) #[] #[]]++cL.toArray:=by simp
    rw [iD]at m9
    refine CallsIn.mono m9 ?_
    rintro e Bs ⟨v,aQ,rfl,aE,et⟩
    have pV:=bB.nO bM bS cD cV ff gE bZ fO b7 et
    have q8:dq N (ch::an) E {a with defers:=[{target:= .collected ch,args:= #[]}]++a.defers}:=⟨ap.size,by simp [ap.oF,uf],ap.get⟩
    exact xq (rec:=fun s c=>{state:=s,pending:=c,fn,tmps:=a.tmps,params:=bV.toArray,assign,body,defers:=ch}) (fun s c=>⟨rfl,rfl⟩) (jC:=[du ch]) q8 pV aE (fun a8 h=>pP ch a8 h) (fun c i a8 ak h=>pQ ch c i a8 ak h)
end Go.Sl
end
