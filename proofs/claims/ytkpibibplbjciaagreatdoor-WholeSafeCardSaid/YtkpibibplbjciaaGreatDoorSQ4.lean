/- Of the proof of WholeSafe. -/
import Derived.Test.YtkpibibplbjciaaGreatDoorSQ3
set_option linter.unusedVariables false
set_option linter.unusedSectionVars false
set_option linter.unusedSimpArgs false
namespace Go.Proofs.YtkpibibplbjciaaGreatDoor
open Go Go.Sl
set_option maxRecDepth 4000
variable {B : Nat} {K : ar B}
theorem adY(x:bZ)(al:x.In K)(i:Nat)(e:Nat→Int)(he:x.bd.l[i]?=some e):a6 B 106 [x.v,aa (i:Int)] [K] (fun v S=>v= .bool (mI x.c i e)∧S=[K]):=by
 refine dN 98 Tryz.func106 fun ba bf=>?_
 have ey:=(List.getElem?_eq_some_iff.1 he).1
 have l3:=x.a9.small
 have Ep:=x.bd.small
 refine aj ?_
 refine eD (aF:=(b9 x)) fun ax=>?_
 refine l5 ?_
 refine ap (jS rfl rfl ad (x.bd).fl rfl ey rfl) ?_
 refine ap (jV (a2:=dP) (aN:=23) (i:=i) (fun _=>rfl) rfl au al.bd ad he) ?_
 refine de fun aK=>?_
 refine cc ?_ ?_<;>intro ab
 ·exact aO ⟨by first|rw [uC (fun z=>by have W2:=z.1;have lL:=z.2;simp at lL;omega)]|rw [uD ch]|(unfold mI;rw [ml,oc,decide_eq_true (show sH x.c e from⟨by omega,by simp;omega,by omega,by simp;omega,by omega,by omega,by omega⟩),decide_eq_true (show(jc x.c.bd (e 0) (e 1)).1=(i:Int)by assumption)];simp only [Bool.true_and,Bool.and_true,Bool.false_and, *]),rfl⟩
 refine cc ?_ ?_<;>intro ae
 ·exact aO ⟨by first|rw [uC (fun z=>by have W2:=z.1;have lL:=z.2;simp at lL;omega)]|rw [uD ch]|(unfold mI;rw [ml,oc,decide_eq_true (show sH x.c e from⟨by omega,by simp;omega,by omega,by simp;omega,by omega,by omega,by omega⟩),decide_eq_true (show(jc x.c.bd (e 0) (e 1)).1=(i:Int)by assumption)];simp only [Bool.true_and,Bool.and_true,Bool.false_and, *]),rfl⟩
 refine cc ?_ ?_<;>intro av
 ·exact aO ⟨by first|rw [uC (fun z=>by have W2:=z.1;have lL:=z.2;simp at lL;omega)]|rw [uD ch]|(unfold mI;rw [ml,oc,decide_eq_true (show sH x.c e from⟨by omega,by simp;omega,by omega,by simp;omega,by omega,by omega,by omega⟩),decide_eq_true (show(jc x.c.bd (e 0) (e 1)).1=(i:Int)by assumption)];simp only [Bool.true_and,Bool.and_true,Bool.false_and, *]),rfl⟩
 refine cc ?_ ?_<;>intro aV
 ·exact aO ⟨by first|rw [uC (fun z=>by have W2:=z.1;have lL:=z.2;simp at lL;omega)]|rw [uD ch]|(unfold mI;rw [ml,oc,decide_eq_true (show sH x.c e from⟨by omega,by simp;omega,by omega,by simp;omega,by omega,by omega,by omega⟩),decide_eq_true (show(jc x.c.bd (e 0) (e 1)).1=(i:Int)by assumption)];simp only [Bool.true_and,Bool.and_true,Bool.false_and, *]),rfl⟩
 refine bD ?_ ?_<;>intro bN
 ·exact aO ⟨by first|rw [uC (fun z=>by have W2:=z.1;have lL:=z.2;simp at lL;omega)]|rw [uD ch]|(unfold mI;rw [ml,oc,decide_eq_true (show sH x.c e from⟨by omega,by simp;omega,by omega,by simp;omega,by omega,by omega,by omega⟩),decide_eq_true (show(jc x.c.bd (e 0) (e 1)).1=(i:Int)by assumption)];simp only [Bool.true_and,Bool.and_true,Bool.false_and, *]),rfl⟩
 refine cc ?_ ?_<;>intro c0
 ·exact aO ⟨by first|rw [uC (fun z=>by have W2:=z.1;have lL:=z.2;simp at lL;omega)]|rw [uD ch]|(unfold mI;rw [ml,oc,decide_eq_true (show sH x.c e from⟨by omega,by simp;omega,by omega,by simp;omega,by omega,by omega,by omega⟩),decide_eq_true (show(jc x.c.bd (e 0) (e 1)).1=(i:Int)by assumption)];simp only [Bool.true_and,Bool.and_true,Bool.false_and, *]),rfl⟩
 refine c2 ?_ ?_<;>intro fO
 ·refine aj ?_
  exact aO ⟨by first|rw [uC (fun z=>by have W2:=z.1;have lL:=z.2;simp at lL;omega)]|rw [uD ch]|(unfold mI;rw [ml,oc,decide_eq_true (show sH x.c e from⟨by omega,by simp;omega,by omega,by simp;omega,by omega,by omega,by omega⟩),decide_eq_true (show(jc x.c.bd (e 0) (e 1)).1=(i:Int)by assumption)];simp only [Bool.true_and,Bool.and_true,Bool.false_and, *]),rfl⟩
 refine ky ?_
 refine du (b9 x) ?_
 refine aj ?_
 refine vg (KA x al (e 0) (e 1)) ?_
 refine cp ?_
 refine bp (aa (jc x.bd.l (e 0) (e 1)).1) ?_
 refine bp (.bool (jc x.bd.l (e 0) (e 1)).2) ?_
 refine bT ?_ ?_<;>intro gk
 ·exact aO ⟨by first|rw [uC (fun z=>by have W2:=z.1;have lL:=z.2;simp at lL;omega)]|rw [uD ch]|(unfold mI;rw [ml,oc,decide_eq_true (show sH x.c e from⟨by omega,by simp;omega,by omega,by simp;omega,by omega,by omega,by omega⟩),decide_eq_true (show(jc x.c.bd (e 0) (e 1)).1=(i:Int)by assumption)];simp only [Bool.true_and,Bool.and_true,Bool.false_and, *]),rfl⟩
 obtain⟨a,a5⟩:=fp x.a9.l ((e 0).toNat)
 obtain⟨b,aR⟩:=fp x.a9.l ((e 1).toNat)
 have UN:=a.q.small
 have ajU:=b.q.small
 have ml:=O9 (show 0≤e 0 by omega) a5
 have oc:=O9 (show 0≤e 1 by omega) aR
 refine aj ?_
 refine cZ [U ax (b9 x) 41,U aK (dP e) 184,K] ad aA ?_
 refine aY [0] ?_
 refine bj 1 rfl (ed (bK:=e6 4 (G8 e)) rfl au ad rfl (by rfl)) ?_
 refine aY [2,3,4,5] ?_
 refine bG 6 rfl (iW (j:=(e 0).toNat) rfl rfl ad (x.a9).fl (show e 0=((e 0).toNat:Int)by omega) ah rfl) ?_
 refine aY [7] ?_
 refine bj 8 rfl (eQ (a2:=gg) (aN:=2) (i:=(e 0).toNat) (k:=1) (fun _=>rfl) rfl au al.a9 ad a5 rfl) ?_
 refine aY [9,10,11,12,13] ?_
 refine bG 14 rfl (iW (j:=(e 1).toNat) rfl rfl ad (x.a9).fl (show e 1=((e 1).toNat:Int)by omega) ah rfl) ?_
 refine aY [15] ?_
 refine bj 16 rfl (eQ (a2:=gg) (aN:=2) (i:=(e 1).toNat) (k:=1) (fun _=>rfl) rfl au al.a9 ad aR rfl) ?_
 refine aY [17,118] ?_
 refine gU (adW (G8 e) (a.q.l.length:Int) (b.q.l.length:Int)) ?_
 refine aY [19] ?_
 refine tt (t:=85) rfl (fun hW=>?_) (fun hW=>?_)
 ·replace hW:=gX hW
  refine bj 20 rfl (ed (bK:=dP e) rfl au ad rfl (by rfl)) ?_
  refine bj 21 rfl (ed (bK:=(b9 x)) rfl au ad rfl (by rfl)) ?_
  refine aY [22,23] ?_
  refine bj 25 rfl (ed (bK:=(b9 x)) rfl au ad rfl (by rfl)) ?_
  refine aY [26,27] ?_
  refine lB 24 (vS x al (e 1)) ?_
  refine lB 28 (vS x al (e 0)) ?_
  refine bj 29 rfl (g6 rfl rfl (dM _) (dM _) rfl) ?_
  refine aY [130] ?_
  refine gU (adX e (fs x.c e)) ?_
  refine df [31,32,99] ?_
  exact aO ⟨by first|rw [uC (fun z=>by have W2:=z.1;have lL:=z.2;simp at lL;omega)]|rw [uD ch]|(unfold mI;rw [ml,oc,decide_eq_true (show sH x.c e from⟨by omega,by simp;omega,by omega,by simp;omega,by omega,by omega,by omega⟩),decide_eq_true (show(jc x.c.bd (e 0) (e 1)).1=(i:Int)by assumption)];simp only [Bool.true_and,Bool.and_true,Bool.false_and, *]),rfl⟩
 replace hW:=gX hW
 refine df [20,21,22,23,24,25,26,27,28,29,30,31,32,99] ?_
 exact aO ⟨by first|rw [uC (fun z=>by have W2:=z.1;have lL:=z.2;simp at lL;omega)]|rw [uD ch]|(unfold mI;rw [ml,oc,decide_eq_true (show sH x.c e from⟨by omega,by simp;omega,by omega,by simp;omega,by omega,by omega,by omega⟩),decide_eq_true (show(jc x.c.bd (e 0) (e 1)).1=(i:Int)by assumption)];simp only [Bool.true_and,Bool.and_true,Bool.false_and, *]),rfl⟩
theorem Au{n i:Nat}{P:Nat→Bool}(af:i<n)(h:P i=true)(cN:∀j,j<i→P j=false):(List.range n).find? P=some i:=by
 rw [List.find?_eq_some_iff_getElem]
 refine⟨h,i,by simpa using af,by simp,fun j aI=>?_⟩
 rw [List.getElem_range,cN j aI];rfl
theorem CQ{n:Nat}{P:Nat→Bool}(h:∀j,j<n→P j=false):(List.range n).find? P=none:=by
  rw [List.find?_eq_none]
  intro j aI;rw [h j (List.mem_range.1 aI)];decide
def CR(c:ck)(i:Nat):Bool:=match c.aw[i]? with
  |some e=>!decide (y6 e c.cA)
  |none=>false
def vL(c:ck)(i:Nat):Int:=match c.a9[i]? with
  |some p=>if p.1&&&~~~(allM c.aw.length)=0#32 then(if se p.2 then 0 else 104)else 101
  |none=>0
def Gn(c:ck)(i:Nat):Bool:=match c.bd[i]? with
  |some e=>!mI c i e
  |none=>false
def vT(c:ck):Int×Int:=if c.bd.length>24 then((c.bd.length:Int),102)else match(List.range c.bd.length).find? (Gn c)with
  |some i=>((i:Int),102)
  |none=>(0,0)
def rS(c:ck):Int×Int:=if c.a9.length<1∨c.a9.length>8 then((c.a9.length:Int),101)else match(List.range c.a9.length).find? (fun i=>!decide (vL c i=0))with
  |some i=>((i:Int),vL c i)
  |none=>vT c
def iY(c:ck):Int×Int:=if c.cA<0∨c.cA>8 then(0,103)else if c.aw.length<1∨c.aw.length>16 then((c.aw.length:Int),100)else match(List.range c.aw.length).find? (CR c)with
  |some i=>((i:Int),100)
  |none=>rS c
theorem IS{c:ck}{i:Nat}{e:Nat→Int}(h:c.aw[i]?=some e):CR c i=!decide (y6 e c.cA):=by unfold CR;rw [h]
theorem IT{c:ck}{i:Nat}{e:Nat→Int}(h:c.bd[i]?=some e):Gn c i=!mI c i e:=by unfold Gn;rw [h]
theorem Cg{x:bZ}{i:Nat}{m:Mode}(h:x.a9.l[i]?=some m):vL x.c i=if m.aw&&&~~~(allM x.aw.l.length)=0#32 then(if se m.q.l then 0 else 104)else 101:=by
  unfold vL;rw [List.getElem?_map,h];rfl
theorem LD{i:Nat}{P:Nat→Prop}(h:P i)(aE:∀j,j<i→P j):∀j,j<i+1→P j:=fun j aI=>by rcases Nat.lt_succ_iff_lt_or_eq.1 aI with q|rfl;exact aE j q;exact h
theorem ZI{c:ck}(ab:0≤c.cA∧c.cA≤8)(ae:1≤c.aw.length∧c.aw.length≤16)(av:∀j,j<c.aw.length→CR c j=false):iY c=rS c:=by
  unfold iY;rw [if_neg (by omega),if_neg (by omega),CQ av]
theorem ZJ{c:ck}(ae:1≤c.a9.length∧c.a9.length≤8)(av:∀j,j<c.a9.length→vL c j=0):rS c=vT c:=by
  unfold rS;rw [if_neg (by omega),CQ (fun j aI=>by rw [av j aI];rfl)]
theorem GQ(x:bZ)(al:x.In K):a6 B 55 [x.v] [K] (fun v S=>v= .tuple #[aa (iY x.c).1,aa (iY x.c).2]∧S=[K]):=by
 refine dN 98 Tryz.func55 fun ba bf=>?_
 have fo:=x.aw.small
 have l3:=x.a9.small
 have Ep:=x.bd.small
 refine aj ?_
 refine fX (aF:=(b9 x)) fun ax=>?_
 refine cc ?_ ?_<;>intro ab
 ·rw [show iY x.c=(0,103)from by unfold iY;rw [if_pos (show x.cA<0∨x.cA>8 by omega)]]
  exact bJ
 refine bD ?_ ?_<;>intro ae
 ·rw [show iY x.c=(0,103)from by unfold iY;rw [if_pos (show x.cA<0∨x.cA>8 by omega)]]
  exact bJ
 refine cc ?_ ?_<;>intro av
 ·rw [show iY x.c=((x.aw.l.length:Int),100)from by unfold iY;rw [if_neg (show¬(x.cA<0∨x.cA>8)by omega),if_pos (show x.aw.l.length<1∨x.aw.l.length>16 by omega)]]
  exact bJ
 refine bD ?_ ?_<;>intro aV
 ·rw [show iY x.c=((x.aw.l.length:Int),100)from by unfold iY;rw [if_neg (show¬(x.cA<0∨x.cA>8)by omega),if_pos (show x.aw.l.length<1∨x.aw.l.length>16 by omega)]]
  exact bJ
 refine ds (α:=Nat) (fun i=>i≤x.aw.l.length∧∀j,j<i→CR x.c j=false) (fun i=>[(33,aa (i:Int)),(1,ag ax),(31,az x.aw),(32,aa (x.aw.l.length:Int))]) (fun i=>[U ax (b9 x) 41,K]) (fun i=>x.aw.l.length-i) 0 ?_ dq aA ?_
 ·exact⟨Nat.zero_le _,fun j h=>by omega⟩
 rintro i ⟨af,aE⟩
 refine bT ?_ ?_<;>intro bN
 ·obtain⟨e,bl⟩:=fp x.aw.l i
  refine aj ?_
  refine ap (jV (a2:=dd) (aN:=11) (i:=i) (fun _=>rfl) rfl au al.aw ad bl) ?_
  refine fe fun aK=>?_
  refine gN ?_
  refine du (dd e) ?_
  refine aj ?_
  refine gl (adV e x.cA) ?_
  refine bD ?_ ?_<;>intro c0
  ·rw [show iY x.c=((i:Int),100)from by unfold iY;rw [if_neg (show¬(x.cA<0∨x.cA>8)by omega),if_neg (show¬(x.aw.l.length<1∨x.aw.l.length>16)by omega),Au (show i<x.aw.l.length by omega) (by rw [IS bl,decide_eq_false ch];rfl) aE]]
   exact bJ
  exact cE (i+1) ⟨by omega,LD (by rw [IS bl,decide_eq_true (show y6 e x.cA from c0)];rfl) aE⟩
 have ahK:=ZI (c:=x.c) ⟨by assumption,by assumption⟩ (show 1≤x.aw.l.length∧x.aw.l.length≤16 by omega) (show∀j,j<x.aw.l.length→_ from fun j aI=>aE j ah)
 rw [ahK]
 refine aj ?_
 refine cc ?_ ?_<;>intro fO
 ·rw [show rS x.c=((x.a9.l.length:Int),101)from by unfold rS;rw [if_pos (show(x.a9.l.map _).length<1∨(x.a9.l.map _).length>8 by rw [List.length_map];omega),List.length_map]]
  exact bJ
 refine bD ?_ ?_<;>intro gk
 ·rw [show rS x.c=((x.a9.l.length:Int),101)from by unfold rS;rw [if_pos (show(x.a9.l.map _).length<1∨(x.a9.l.map _).length>8 by rw [List.length_map];omega),List.length_map]]
  exact bJ
 refine ds (α:=Nat) (fun i=>i≤x.a9.l.length∧∀j,j<i→vL x.c j=0) (fun i=>[(61,aa (i:Int)),(1,ag ax),(59,az x.a9),(60,aa (x.a9.l.length:Int))]) (fun i=>[U ax (b9 x) 41,K]) (fun i=>x.a9.l.length-i) 0 ?_ dq aA ?_
 ·exact⟨Nat.zero_le _,fun j h=>by omega⟩
 rintro i ⟨af,aE⟩
 refine bT ?_ ?_<;>intro hW
 ·obtain⟨m,bl⟩:=fp x.a9.l i
  refine aj ?_
  refine ap (jV (a2:=gg) (aN:=2) (i:=i) (fun _=>rfl) rfl au al.a9 ad bl) ?_
  refine de fun bq=>?_
  refine cZ [U ax (b9 x) 41,U bq (gg m) 177,K] ad aA ?_
  refine aY [0,1] ?_
  refine bj 2 rfl (ed (bK:=(b9 x)) rfl au ad rfl (by rfl)) ?_
  refine lB 3 (af3 x al) ?_
  refine bj 4 rfl (g6 rfl rfl (dM _) (dM _) rfl) ?_
  refine df [5,99] ?_
  refine bD ?_ ?_<;>intro na
  ·rw [show rS x.c=((i:Int),101)from by unfold rS;rw [if_neg (show¬((x.a9.l.map _).length<1∨(x.a9.l.map _).length>8)by rw [List.length_map];omega),Au (P:=fun i=>!decide (vL x.c i=0)) (show i<(x.a9.l.map _).length by rw [List.length_map];omega) (by rw [Cg bl,if_neg (fun z=>by rw [z]at na;exact na rfl)];rfl) (fun j aI=>by rw [aE j aI];rfl)];dsimp only;rw [Cg bl,if_neg (fun z=>by rw [z]at na;exact na rfl)]]
   exact bJ
  refine oZ (ZH m.q (al.rR m (List.mem_of_getElem? bl))) ?_
  refine bD ?_ ?_<;>intro zM
  ·rw [show rS x.c=((i:Int),104)from by unfold rS;rw [if_neg (show¬((x.a9.l.map _).length<1∨(x.a9.l.map _).length>8)by rw [List.length_map];omega),Au (P:=fun i=>!decide (vL x.c i=0)) (show i<(x.a9.l.map _).length by rw [List.length_map];omega) (by rw [Cg bl,if_pos (xB.1 na),if_neg ch];rfl) (fun j aI=>by rw [aE j aI];rfl)];dsimp only;rw [Cg bl,if_pos (xB.1 na),if_neg ch]]
   exact bJ
  exact cE (i+1) ⟨by omega,LD (by rw [Cg bl,if_pos (xB.1 na),if_pos (by simpa using zM)]) aE⟩
 have pO:=ZJ (c:=x.c) (show 1≤(x.a9.l.map _).length∧(x.a9.l.map _).length≤8 by rw [List.length_map];omega) (fun j aI=>aE j (by rw [List.length_map]at aI;omega))
 rw [pO]
 refine bT ?_ ?_<;>intro H2
 ·rw [show vT x.c=((x.bd.l.length:Int),102)from by unfold vT;rw [if_pos (show x.bd.l.length>24 by omega)]]
  exact bJ
 refine ds (α:=Nat) (fun i=>i≤x.bd.l.length∧∀j,j<i→Gn x.c j=false) (fun i=>[(89,aa (i:Int)),(1,ag ax),(88,aa (x.bd.l.length:Int))]) (fun i=>[U ax (b9 x) 41,K]) (fun i=>x.bd.l.length-i) 0 ?_ dq aA ?_
 ·exact⟨Nat.zero_le _,fun j h=>by omega⟩
 rintro i ⟨af,aE⟩
 refine aj ?_
 refine c2 ?_ ?_<;>intro Er
 ·obtain⟨e,bl⟩:=fp x.bd.l i
  refine ic ?_
  refine fj ?_
  refine cC ?_
  refine mA ?_
  refine cC ?_
  refine dz ?_
  refine ap (cj rfl) ?_
  refine ap (cj rfl) ?_
  refine e8 ?_
  refine cC ?_
  refine dz ?_
  refine ap (ed (bK:=(b9 x)) rfl au ad rfl (by rfl)) ?_
  refine aj ?_
  refine oZ (adY x al i e bl) ?_
  refine bD ?_ ?_<;>intro Bx
  ·rw [show vT x.c=((i:Int),102)from by unfold vT;rw [if_neg (show¬x.bd.l.length>24 by omega),Au (show i<x.bd.l.length by omega) (by rw [IT bl,show mI x.c i e=false from by assumption];rfl) aE]]
   exact bJ
  exact cE (i+1) ⟨by omega,LD (by rw [IT bl,Bx];rfl) aE⟩
 refine aj ?_
 rw [show vT x.c=(0,0)from by unfold vT;rw [if_neg (show¬x.bd.l.length>24 by omega),CQ (fun j aI=>aE j (by have aI:j<x.bd.l.length:=aI;omega))]]
 exact bJ
structure bZ.Own(y:bZ):Prop where
  aw:y.aw.Own
  bd:y.bd.Own
  a9:y.a9.Own
  rR:∀m∈y.a9.l,m.q.Own
abbrev kK(q:an (Nat→Int)):ar B:=eO q 180 2 jX
def fr(y:bZ):List (ar B):=[row (.slice y.aw.bn y.aw.l.length y.aw.c) 173 11 y.aw.l.length (y.aw.l.flatMap dd),row (.slice y.bd.bn y.bd.l.length y.bd.c) 184 23 y.bd.l.length (y.bd.l.flatMap dP),row (.slice y.a9.bn y.a9.l.length y.a9.c) 177 2 y.a9.l.length (y.a9.l.flatMap gg)]++y.a9.l.reverse.map fun m=>kK m.q
theorem tF{y:bZ}(h:y.Own):y.In (all (fr (B:=B) y)):=
  ⟨nU (a:=eO y.aw 173 11 dd) (by simp [fr]) (dT h.aw rfl),nU (a:=eO y.a9 177 2 gg) (by simp [fr]) (dT h.a9 rfl),nU (a:=eO y.bd 184 23 dP) (by simp [fr]) (dT h.bd rfl),
   fun m hm=>nU (a:=kK m.q) (List.mem_append_right _ (List.mem_map.2 ⟨m,List.mem_reverse.2 hm,rfl⟩)) (dT (h.rR m hm) rfl)⟩
abbrev qi{α:Type}(a:an α)(l:List α)(h:l.length=a.l.length):an α:=
  ⟨a.bn,a.c,l,fun q=>List.length_eq_zero_iff.1 (by rw [h,a.nil q];rfl),by rw [h];exact a.small,by rw [h];exact a.cap⟩
theorem Wy{α:Type}{l k:List α}{i:Nat}{a:α}(h:l.drop i=k.drop i)(bl:l[i]?=some a):k[i]?=some a:=by
  have ab:(l.drop i)[0]?=some a:=by rw [List.getElem?_drop];simpa using bl
  rw [h,List.getElem?_drop]at ab;simpa using ab
theorem Yb{α:Type}{l k:List α}{i:Nat}(h:l.drop i=k.drop i):l.drop (i+1)=k.drop (i+1):=by
  rw [←List.drop_drop, ←List.drop_drop,h]
theorem NL{α:Type}{l:List α}{i:Nat}{y:α}(h:i<l.length):(l.set i y).take (i+1)=l.take i++[y]:=by
  rw [List.take_add_one,List.getElem?_set_self h,List.take_set_of_le (Nat.le_refl _)];rfl
theorem Wa{α β:Type}{f:α→β}{l:List α}{i:Nat}{a:α}{b:β}(h:l[i]?=some a)(e:b=f a):(l.map f).set i b=l.map f:=by
  subst e
  apply List.ext_getElem?
  intro j
  by_cases aI:i=j
  · subst aI;have aE:=(List.getElem?_eq_some_iff.1 h).1;rw [List.getElem?_set_self (by simpa using aE),List.getElem?_map,h];rfl
  · rw [List.getElem?_set_ne aI]
abbrev lr(m:Mode):BitVec 32×List (Nat→Int):=(m.aw,m.q.l)
theorem Ss(x:bZ)(al:x.In K)(By:x.aw.l.length≤64∧x.bd.l.length≤64∧x.a9.l.length≤64∧∀m∈x.a9.l,m.q.l.length≤64):di Tryz.prog B 86 [x.v] [K] (fun v S=>∃y:bZ,(y.c=x.c∧y.Own)∧v=y.v∧S=[all (fr y),K]):=by
 refine dN 35 Tryz.func86 fun ba bf=>?_
 refine gE dd 173 11 ?_
 refine gE dP 184 23 ?_
 refine gE gg 177 2 ?_
 obtain⟨cy,bR,gD,nl⟩:=By
 refine aj ?_
 refine eD (aF:=[.int .i64 x.cA,.slice x.aw.bn x.aw.l.length x.aw.c,.slice x.a9.bn x.a9.l.length x.a9.c,.slice x.bd.bn x.bd.l.length x.bd.c]) fun ax=>?_
 refine de fun aK=>?_
 refine j7 (a2:=dd) (c:=(an.bt:an (Nat→Int))) (b:=x.aw) .no rfl rfl ad au au (al.aw) (fun _=>rfl) (fun _=>rfl) (by show 0+_≤_;omega) (by show(0+_)*_≤_;omega) rfl (fun cY Bz DV=>?_)
 refine aj ?_
 refine j7 (a2:=dP) (c:=(an.bt:an (Nat→Int))) (b:=x.bd) .no rfl rfl ad au au (al.bd) (fun _=>rfl) (fun _=>rfl) (by show 0+_≤_;omega) (by show(0+_)*_≤_;omega) rfl (fun ce pO zk=>?_)
 refine aj ?_
 refine j7 (a2:=gg) (c:=(an.bt:an Mode)) (b:=x.a9) .no rfl rfl ad au au (al.a9) (fun _=>rfl) (fun _=>rfl) (by show 0+_≤_;omega) (by show(0+_)*_≤_;omega) rfl (fun cK oO wq=>?_)
 have aji:cK.l.length=x.a9.l.length:=by rw [oO];rfl
 refine aj ?_
 refine tr ?_
 refine ds (α:=Nat×List Mode) (fun⟨i,hX⟩=>i≤cK.l.length∧hX.length=cK.l.length∧hX.map lr=x.a9.l.map lr∧hX.drop i=x.a9.l.drop i∧∀m∈hX.take i,m.q.Own) (fun⟨i,hX⟩=>[(18,.int .i64 (i:Int)),(1,.pointer (some ⟨ax,0,none⟩)),(2,.pointer (some ⟨aK,0,none⟩)),(3,.slice cK.bn cK.l.length cK.c),(17,.int .i64 (cK.l.length:Int))]) (fun⟨i,hX⟩=>[U ax [.int .i64 x.cA,.slice cY.bn cY.l.length cY.c,.slice x.a9.bn x.a9.l.length x.a9.c,.slice ce.bn ce.l.length ce.c] 41,U aK [.int .i64 0,.slice none 0 0,.slice none 0 0,.slice none 0 0] 41,row (.slice cY.bn cY.l.length cY.c) 173 11 cY.l.length (cY.l.flatMap dd),row (.slice ce.bn ce.l.length ce.c) 184 23 ce.l.length (ce.l.flatMap dP),row (.slice cK.bn cK.l.length cK.c) 177 2 cK.l.length (hX.flatMap gg),all ((hX.take i).reverse.map fun m=>kK m.q),K]) (fun⟨i,hX⟩=>cK.l.length-i) (0,cK.l) ?_ dq cd ?_
 ·exact⟨Nat.zero_le _,rfl,by rw [oO];rfl,by rw [oO];rfl,by simp⟩
 rintro⟨i,hX⟩ ⟨af,mh,wR,UO,qD⟩
 dsimp only
 have l3:=cK.small
 refine gN ?_
 refine c2 ?_ ?_<;>intro ab
 ·obtain⟨m,BA⟩:=fp hX i
  have ya:x.a9.l[i]?=some m:=Wy UO BA
  have BB:=nl m (List.mem_of_getElem? ya)
  refine gE jX 180 2 ?_
  refine aj ?_
  refine ap (eQ (a2:=gg) (aN:=2) (i:=i) (k:=1) (a:=m) (fun _=>rfl) rfl au (sD wq rfl mh) ad BA rfl) ?_
  refine j7 (a2:=jX) (c:=(an.bt:an (Nat→Int))) (b:=m.q) .no rfl rfl ad au au (al.rR m (List.mem_of_getElem? ya)) (fun _=>rfl) (fun _=>rfl) (by show 0+_≤_;omega) (by show(0+_)*_≤_;omega) rfl (fun Aa ahL af4=>?_)
  refine FC (kK Aa) aA ?_
  refine aj ?_
  refine fq (KV (a2:=gg) (aN:=2) (k:=1) (i:=i) (a:=m) (y:=⟨m.aw,Aa⟩) (qw:=hX.set i ⟨m.aw,Aa⟩) wq rfl rfl (fun _=>rfl) b2 BA rfl rfl au ad rfl) ?_
  refine aj ?_
  rw [show(all (kK Aa::(hX.take i).reverse.map fun m=>kK m.q):ar B)=all (((hX.set i ⟨m.aw,Aa⟩).take (i+1)).reverse.map fun m=>kK m.q)from by rw [NL ah,List.reverse_append];rfl]
  refine cE (i+1,hX.set i ⟨m.aw,Aa⟩) ?_
  (try dsimp only);exact⟨by omega,by rw [List.length_set];exact mh,by rw [List.map_set,wR];exact Wa ya (by show(m.aw,Aa.l)=(m.aw,m.q.l);rw [ahL];rfl),by rw [List.drop_set_of_lt ah];exact Yb UO,by rw [NL ah];intro z aS;rcases List.mem_append.1 aS with q|q;exact qD z q;simp at q;subst q;exact af4⟩
 obtain rfl:i=cK.l.length:=by omega
 rw [List.take_of_length_le ah]at qD⊢
 refine yE (row (.slice cK.bn cK.l.length cK.c) 177 2 cK.l.length (hX.flatMap gg)) aA ?_
 refine yE (row (.slice ce.bn ce.l.length ce.c) 184 23 ce.l.length (ce.l.flatMap dP)) aA ?_
 refine yE (row (.slice cY.bn cY.l.length cY.c) 173 11 cY.l.length (cY.l.flatMap dd)) aA ?_
 refine zi ?_
 refine du [.int .i64 x.cA,.slice cY.bn cY.l.length cY.c,.slice cK.bn cK.l.length cK.c,.slice ce.bn ce.l.length ce.c] ?_
 refine aj ?_
 refine g2 ?_
 have af5:cY.l=x.aw.l:=by rw [Bz];rfl
 have af6:ce.l=x.bd.l:=by rw [pO];rfl
 have LF:all (fr (B:=B) ⟨x.cA,cY,qi cK hX mh,ce⟩)=all (row (.slice cY.bn cY.l.length cY.c) 173 11 cY.l.length (cY.l.flatMap dd)::row (.slice ce.bn ce.l.length ce.c) 184 23 ce.l.length (ce.l.flatMap dP)::row (.slice cK.bn cK.l.length cK.c) 177 2 cK.l.length (hX.flatMap gg)::hX.reverse.map fun m=>kK m.q):=by show all (_::_::_::_)=_;rw [show(qi cK hX mh).l.length=cK.l.length from mh];rfl
 rw [←LF]
 exact aO ⟨⟨x.cA,cY,qi cK hX mh,ce⟩,⟨by show(⟨x.cA,cY.l,hX.map lr,ce.l⟩:ck)=_;rw [wR,af5,af6],⟨DV,zk,fun q e=>wq q e,qD⟩⟩,by show _=Value.agg _;rw [show(qi cK hX mh).l.length=cK.l.length from mh],rfl⟩
def uP(e:Nat→Int)(n:Nat):BitVec 32:=((h5 e 8).take n).foldl (fun s p=>s|||dL (p.1:Int)) 0#32
abbrev K2(e:Nat→Int):BitVec 32:=uP e (h5 e 8).length
theorem ZK{e:Nat→Int}{n:Nat}{p:Nat×Int}(h:(h5 e 8)[n]?=some p):uP e n|||dL (p.1:Int)=uP e (n+1):=by
  unfold uP;rw [List.take_add_one,h,List.foldl_append];rfl
structure dr where
  at':Nat
  bad:Bool
def r0(l:List (BitVec 32))(i:Nat):Int:=match l[i]? with
  |some w=>(w.toNat:Int)
  |none=>0
def xG(l:List (BitVec 32))(r:dr)(dS:Int):Bool:=r.bad||decide (r.at'=l.length)||decide (r0 l r.at'>dS)
def ew(l:List (BitVec 32))(r:dr)(dS:Int):Int×dr:=if xG l r dS=true then(0,⟨r.at',true⟩)else(r0 l r.at',⟨r.at'+1,r.bad⟩)
theorem j6{l:List (BitVec 32)}{r:dr}{dS:Int}(h:r.at'≤l.length)(hm:0≤dS):(ew l r dS).2.at'≤l.length∧0≤(ew l r dS).1∧(ew l r dS).1≤dS:=by
 unfold ew xG;split
 ·exact⟨h,Int.le_refl _,hm⟩
 rename_i q
 simp at q
 refine⟨by show r.at'+1≤_;omega,?_,by show r0 l r.at'≤dS;omega⟩
 show 0≤r0 l r.at'
 unfold r0;split<;>omega
theorem adZ(e:Nat→Int):a6 B 227 [.agg (dd e).toArray] [] (fun v S=>v=aQ (K2 e).toNat∧S=[]):=by
 refine bM 13 Tryz.func227 fun ba bf=>?_
 refine fX (aF:=dd e) fun ax=>?_
 refine fe fun aK=>?_
 refine gN ?_
 refine du (dd e) ?_
 refine cm (KZ e) ?_
 rintro _ _ ⟨b,rfl,rfl⟩
 refine cx ?_
 rw [show(U aK [db] 158:ar B)=U aK [aQ (uP e 0).toNat] 158 from rfl]
 refine kS (own:=[U b (dd e) 173]) (aU:=[U ax (dd e) 173,U aK [aQ (uP e 0).toNat] 158]) rfl fF (JM b e) (fun i S=>S=[U ax (dd e) 173,U aK [aQ (uP e i).toNat] 158]) (fun c i S=>False) (show Take ([U b (dd e) 173,U ax (dd e) 173,U aK [aQ (uP e 0).toNat] 158]) _ _ from aA) (rfl) rfl (fun x al=>by obtain⟨y,_,rfl⟩:=List.mem_map.1 al;rfl) ?_ ?_ ?_
 ·intro cr rec j3 i bh af bo
  obtain rfl:=bo
  rw [List.length_map]at af
  obtain⟨p,b0⟩:∃p,(h5 e 8)[i]?=some p:=⟨_,List.getElem?_eq_getElem af⟩
  rw [show((h5 e 8).map fun p=>[Value.int .i64 (p.1:Int),Value.int .i64 p.2]).getD i []=[aa (p.1:Int),aa p.2]from by simp [List.getD,b0]]
  refine aj ?_
  refine⟨rfl,_,_,.cons au (Take.self _),fun hz=>?_⟩
  refine aj ?_
  refine gj (tE (uP e i) (p.1:Int)) ?_
  rw [ZK b0]
  refine aj ?_
  exact⟨[U ax (dd e) 173,U aK [aQ (uP e (i+1)).toNat] 158],_,aA,rfl⟩
 ·intro cG bh bo
  obtain rfl:=bo
  rw [List.length_map]
  refine cx ?_
  refine dA (show Take [dl cG] _ _ from aA) (sB rfl rfl) ?_
  exact bJ
 intro cG c i bh af h
 exact h.elim
theorem Rt(x:bZ)(al:x.In K)(e:Nat→Int):a6 B 131 [x.v,.agg (dP e).toArray] [K] (fun v S=>v=aQ (fs x.c e).toNat∧S=[K]):=by
 refine bM 14 Tryz.func131 fun ba bf=>?_
 refine eD (aF:=(b9 x)) fun ax=>?_
 refine fX (aF:=dP e) fun aK=>?_
 refine cZ [U ax (b9 x) 41,U aK (dP e) 184,K] ad aA ?_
 refine bj 0 rfl (ed (bK:=(b9 x)) rfl au ad rfl (by rfl)) ?_
 refine aY [1,2] ?_
 refine bj 4 rfl (ed (bK:=(b9 x)) rfl au ad rfl (by rfl)) ?_
 refine aY [5,6] ?_
 refine lB 3 (vS x al (e 1)) ?_
 refine lB 7 (vS x al (e 0)) ?_
 refine bj 8 rfl (g6 rfl rfl (dM _) (dM _) rfl) ?_
 refine df [9,99] ?_
 exact bJ
theorem jG(q:Nat)(l:an (BitVec 32))(aE:dI K l.bu (l.l.flatMap dh))(r:dr)(a4:r.at'≤l.l.length)(dS:Int):a6 B 81 [ag q,aa dS] [U q [az l,aa (r.at':Int),.bool r.bad] 208,K] (fun v S=>v=aa (ew l.l r dS).1∧S=[U q [az l,aa ((ew l.l r dS).2.at':Int),.bool (ew l.l r dS).2.bad] 208,K]):=by
 refine dN 58 Tryz.func81 fun ba bf=>?_
 have l3:=l.small
 refine aj ?_
 refine cZ [U q [az l,aa (r.at':Int),.bool r.bad] 208,K] ad aA ?_
 refine aY [0,1,2,3,4] ?_
 refine tt (t:=9) rfl (fun ab=>?_) (fun ab=>?_)
 ·replace ab:=gX ab
  refine df [5,6,7,8,9,10,11,12,13,14,15,16,17,18,19,20,21,22,23,24,25,26,27,28,29,30,99] ?_
  have aP:ew l.l r dS=(0,⟨r.at',true⟩):=if_pos (by unfold xG;rw [ab];rfl)
  rw [aP]
  exact bJ
 replace ab:=gX ab
 refine aY [5,6,7,8,9,10,11,12,13,14,15,16] ?_
 refine tt (t:=21) rfl (fun ae=>?_) (fun ae=>?_)
 ·replace ae:=gX ae
  refine df [17,18,19,20,21,22,23,24,25,26,27,28,29,30,99] ?_
  have aP:ew l.l r dS=(0,⟨r.at',true⟩):=if_pos (by unfold xG;rw [decide_eq_true (show r.at'=l.l.length by omega)];simp)
  rw [aP]
  exact bJ
 replace ae:=gX ae
 obtain⟨w,bl⟩:=fp l.l r.at'
 refine aY [17,18,19,20,21,22,23,24] ?_
 refine bG 25 rfl (iW rfl rfl ad (l).fl rfl ah rfl) ?_
 refine bj 26 rfl (eQ (a2:=dh) (aN:=1) (i:=r.at') (k:=0) (fun _=>rfl) rfl au aE ad bl rfl) ?_
 refine bj 27 rfl (ja (z:=(w.toNat:Int)) rfl ad (lP ah (by have:=w.isLt;omega))) ?_
 refine df [28,29,30,99] ?_
 refine bD ?_ ?_<;>intro av
 ·have hw:r0 l.l r.at'=(w.toNat:Int):=by unfold r0;rw [bl]
  have aP:ew l.l r dS=(0,⟨r.at',true⟩):=if_pos (by unfold xG;rw [decide_eq_true (show r0 l.l r.at'>dS by omega)];simp)
  rw [aP]
  exact bJ
 refine cZ [U q [az l,aa ((r.at':Int)+1),.bool r.bad] 208,K] ad aA ?_
 refine aY [0,1,2,3,4,5,6,7,8] ?_
 refine bG 9 rfl (iW (j:=r.at') rfl rfl ad (l).fl (by omega:(r.at':Int)+1-1=(r.at':Int)) ah rfl) ?_
 refine bj 10 rfl (eQ (a2:=dh) (aN:=1) (i:=r.at') (k:=0) (fun _=>rfl) rfl au aE ad bl rfl) ?_
 refine bj 11 rfl (ja (z:=(w.toNat:Int)) rfl ad (lP ah (by have:=w.isLt;omega))) ?_
 refine df [12,99] ?_
 have hw:r0 l.l r.at'=(w.toNat:Int):=by unfold r0;rw [bl]
 have aP:ew l.l r dS=((w.toNat:Int),⟨r.at'+1,r.bad⟩):=by rw [←hw];exact if_neg (by unfold xG;rw [ab,decide_eq_false (show¬r.at'=l.l.length by omega),decide_eq_false (show¬r0 l.l r.at'>dS by omega)];decide)
 rw [aP]
 rw [show(r.at':Int)+1=((r.at'+1:Nat):Int)by omega]
 exact bJ
abbrev ad0(l:List (BitVec 32))(r:dr):dr:=⟨(ew l r 4096).2.at',(ew l r 4096).2.bad||((ew l r 4096).1==0)⟩
def v5(l:List (BitVec 32))(p:(Nat→Int)×dr)(k:Int):(Nat→Int)×dr:=(bz p.1 (3+k.toNat) (ew l p.2 4096).1,ad0 l p.2)
def gx(l:List (BitVec 32))(p:(Nat→Int)×dr)(hl:List Int)(n:Nat):(Nat→Int)×dr:=(hl.take n).foldl (v5 l) p
theorem CS{l:List (BitVec 32)}{p:(Nat→Int)×dr}{hl:List Int}{n:Nat}{k:Int}(h:hl[n]?=some k):gx l p hl (n+1)=v5 l (gx l p hl n) k:=by
  unfold gx;rw [List.take_add_one,h,List.foldl_append];rfl
theorem F4{l:List (BitVec 32)}{p:(Nat→Int)×dr}{hl:List Int}(h:p.2.at'≤l.length):∀n,(gx l p hl n).2.at'≤l.length
  |0=>h
  |n+1=>by
    cases ai:hl[n]? with
    |none=>
      have:gx l p hl (n+1)=gx l p hl n:=by unfold gx;rw [List.take_add_one,ai];simp
      rw [this];exact F4 h n
    |some k=>rw [CS ai];exact(j6 (F4 h n) (by decide)).1
abbrev Dg(a b c:Int):Nat→Int:=fun i=>if i=0 then a else if i=1 then b else if i=2 then c else 0
abbrev zN(l:List (BitVec 32))(r:dr):Int×dr:=ew l r 4096
abbrev yc(l:List (BitVec 32))(r:dr):Int×dr:=ew l (zN l r).2 4096
abbrev zO(l:List (BitVec 32))(r:dr):Int×dr:=ew l (yc l r).2 4096
abbrev H3(l:List (BitVec 32))(r:dr):Int×dr:=ew l (zO l r).2 255
abbrev gm(l:List (BitVec 32))(r:dr):BitVec 32:=BitVec.ofNat 32 (H3 l r).1.toNat
abbrev g3(l:List (BitVec 32))(r:dr):(Nat→Int)×dr:=(Dg (zN l r).1 (yc l r).1 (zO l r).1,(H3 l r).2)
def pv(l:List (BitVec 32))(r:dr):(Nat→Int)×dr:=gx l (g3 l r) (bb (gm l r)) (bb (gm l r)).length
theorem ad1{v:Int}(b5:0≤v)(ab:v≤255){n:Int}(h:n∈bb (BitVec.ofNat 32 v.toNat)):0≤n∧n<8:=by
 unfold bb lV at h
 obtain⟨i,af,rfl⟩:=List.mem_map.1 h
 obtain⟨ae,av⟩:=List.mem_filter.1 af
 refine⟨by omega,?_⟩
 apply Classical.byContradiction;intro gk
 have hW:8≤i:=by omega
 simp only [hasB]at av
 have aS:(BitVec.ofNat 32 v.toNat).toNat=v.toNat:=by rw [BitVec.toNat_ofNat];omega
 have:(BitVec.ofNat 32 v.toNat).getLsbD i=false:=by
  rw [BitVec.getLsbD,aS];exact Nat.testBit_lt_two_pow (Nat.lt_of_lt_of_le (show v.toNat<2^8 by omega) (Nat.pow_le_pow_right b2 hW))
 simp_all
theorem ZL{e:Nat→Int}{k:Nat}(h:k<8):(dd e)[3+k*1]?=some (aa (e (3+k))):=by
  rcases(show k=0∨k=1∨k=2∨k=3∨k=4∨k=5∨k=6∨k=7 by omega)with rfl|rfl|rfl|rfl|rfl|rfl|rfl|rfl<;>rfl
theorem ad2{v:Int}(b5:0≤v)(ab:v≤255):IntKind.u32.wrap v=((BitVec.ofNat 32 v.toNat).toNat:Int):=by
  have e:(BitVec.ofNat 32 v.toNat).toNat=v.toNat:=by rw [BitVec.toNat_ofNat];omega
  rw [e,u32_in b5 (by omega)];omega
theorem Yc{e:Nat→Int}{k:Nat}{v:Int}(h:k<8):(dd e).set (3+k*1) (aa v)=dd (bz e (3+k) v):=by
  rcases(show k=0∨k=1∨k=2∨k=3∨k=4∨k=5∨k=6∨k=7 by omega)with rfl|rfl|rfl|rfl|rfl|rfl|rfl|rfl<;>simp [dd,bz]
theorem ad3(q:Nat)(l:an (BitVec 32))(aE:dI K l.bu (l.l.flatMap dh))(r:dr)(a4:r.at'≤l.l.length){aB:ar B}(bO:hd aB):a6 B 82 [ag q] [U q [az l,aa (r.at':Int),.bool r.bad] 208,K,aB] (fun v S=>v= .agg (dd (pv l.l r).1).toArray∧S=[U q [az l,aa ((pv l.l r).2.at':Int),.bool (pv l.l r).2.bad] 208,K,aB]):=by
 refine dN 37 Tryz.func82 fun ba bf=>?_
 have a1:=j6 a4 (show(0:Int)≤4096 by decide)
 have zP:=a1.1
 have a3:=j6 zP (show(0:Int)≤4096 by decide)
 have BC:=a3.1
 have bI:=j6 BC (show(0:Int)≤4096 by decide)
 have BD:=bI.1
 have cv:=j6 BD (show(0:Int)≤255 by decide)
 refine aj ?_
 refine eD fun ax=>?_
 refine fe fun aK=>?_
 refine cp ?_
 refine jT (α:=Nat) (fun eF=>True) (fun eF=>[(3,ag eF),(1,ag ax),(2,ag aK)]) (fun eF=>[U ax [ag q] 206,U aK wj 173,U eF (dd (Dg (zN l.l r).1 (yc l.l r).1 (zO l.l r).1)) 173,U q [az l,aa ((zO l.l r).2.at':Int),.bool (zO l.l r).2.bad] 208,K,aB]) ?_ ?_
 ·skip
  refine cZ [U ax [ag q] 206] ad aA ?_
  refine aY [0,2,4] ?_
  refine lq 1 7 en ?_ ?_
  ·skip
   refine nk (jG q l aE r (by assumption) 4096) ?_
   rintro _ _ ⟨rfl,rfl⟩
   refine bP ?_
   refine gv ?_
   refine lq 3 7 en ?_ ?_
   ·skip
    refine nk (jG q l aE (zN l.l r).2 (by assumption) 4096) ?_
    rintro _ _ ⟨rfl,rfl⟩
    refine bP ?_
    refine gv ?_
    refine lq 5 7 en ?_ ?_
    ·skip
     refine nk (jG q l aE (yc l.l r).2 (by assumption) 4096) ?_
     rintro _ _ ⟨rfl,rfl⟩
     refine bP ?_
     refine gv ?_
     refine aY [6,107] ?_
     refine lO rfl .no ad rfl (fun sl=>?_)
     refine aY [108,99] ?_
     exact ez sl trivial
    skip
    refine lO rfl .no ad rfl (fun sl=>?_)
    refine gb 5 (jG q l aE (yc l.l r).2 (by assumption) 4096) ?_
    refine aY [6,108,99] ?_
    exact ez sl trivial
   skip
   refine lO rfl .no ad rfl (fun sl=>?_)
   refine gb 3 (jG q l aE (zN l.l r).2 (by assumption) 4096) ?_
   refine gb 5 (jG q l aE (yc l.l r).2 (by assumption) 4096) ?_
   refine aY [6,108,99] ?_
   exact ez sl trivial
  skip
  refine lO rfl .no ad rfl (fun sl=>?_)
  refine gb 1 (jG q l aE r (by assumption) 4096) ?_
  refine gb 3 (jG q l aE (zN l.l r).2 (by assumption) 4096) ?_
  refine gb 5 (jG q l aE (yc l.l r).2 (by assumption) 4096) ?_
  refine aY [6,108,99] ?_
  exact ez sl trivial
 rintro eF _
 refine aj ?_
 refine eR (jG q l aE (zO l.l r).2 (by assumption) 255) ?_
 refine ap (ja (z:=((gm l.l r).toNat:Int)) rfl ad (ad2 cv.2.1 cv.2.2)) ?_
 refine cm (re (gm l.l r)) ?_
 rintro _ _ ⟨hY,rfl,rfl⟩
 refine cx ?_
 rw [show(U eF (dd (Dg (zN l.l r).1 (yc l.l r).1 (zO l.l r).1)) 173:ar B)=U eF (dd (gx l.l (g3 l.l r) (bb (gm l.l r)) 0).1) 173 from rfl]
 rw [show(U q [az l,aa ((H3 l.l r).2.at':Int),.bool (H3 l.l r).2.bad] 208:ar B)=U q [az l,aa ((gx l.l (g3 l.l r) (bb (gm l.l r)) 0).2.at':Int),.bool (gx l.l (g3 l.l r) (bb (gm l.l r)) 0).2.bad] 208 from rfl]
 refine kS (own:=[U hY [aQ (gm l.l r).toNat] 158,aB]) (aU:=[U ax [ag q] 206,U aK wj 173,U eF (dd (gx l.l (g3 l.l r) (bb (gm l.l r)) 0).1) 173,U q [az l,aa ((gx l.l (g3 l.l r) (bb (gm l.l r)) 0).2.at':Int),.bool (gx l.l (g3 l.l r) (bb (gm l.l r)) 0).2.bad] 208,K]) rfl fF (q1 (K:=aB) hY (gm l.l r) bO) (fun i S=>S=[U ax [ag q] 206,U aK wj 173,U eF (dd (gx l.l (g3 l.l r) (bb (gm l.l r)) i).1) 173,U q [az l,aa ((gx l.l (g3 l.l r) (bb (gm l.l r)) i).2.at':Int),.bool (gx l.l (g3 l.l r) (bb (gm l.l r)) i).2.bad] 208,K]) (fun c i S=>False) (show Take ([U hY [aQ (gm l.l r).toNat] 158,aB,U ax [ag q] 206,U aK wj 173,U eF (dd (gx l.l (g3 l.l r) (bb (gm l.l r)) 0).1) 173,U q [az l,aa ((gx l.l (g3 l.l r) (bb (gm l.l r)) 0).2.at':Int),.bool (gx l.l (g3 l.l r) (bb (gm l.l r)) 0).2.bad] 208,K]) _ _ from aA) (rfl) rfl (fun x al=>by obtain⟨y,_,rfl⟩:=List.mem_map.1 al;rfl) ?_ ?_ ?_
 ·intro cr rec j3 i bh af bo
  obtain rfl:=bo
  rw [List.length_map]at af
  obtain⟨n,b0⟩:∃n,(bb (gm l.l r))[i]?=some n:=⟨_,List.getElem?_eq_getElem af⟩
  obtain⟨yb,ajV⟩:=ad1 cv.2.1 cv.2.2 (List.mem_of_getElem? b0)
  have mR:=F4 (hl:=(bb (gm l.l r))) (p:=g3 l.l r) cv.1 i
  rw [lp b0]
  refine aj ?_
  refine⟨rfl,_,_,.cons au (Take.self _),fun hz=>?_⟩
  refine aj ?_
  refine eR (jG q l aE (gx l.l (g3 l.l r) (bb (gm l.l r)) i).2 (by assumption) 4096) ?_
  refine cp ?_
  refine ap (p3 rfl rfl ad (by omega:n=((n.toNat:Nat):Int)) ah rfl) ?_
  refine fq (js (k:=3+n.toNat*1) (ga:=dd (bz (gx l.l (g3 l.l r) (bb (gm l.l r)) i).1 (3+n.toNat) (ew l.l (gx l.l (g3 l.l r) (bb (gm l.l r)) i).2 4096).1)) rfl rfl rfl au ad (by simp;omega) (Yc ah)) ?_
  refine aj ?_
  refine cZ [U ax [ag q] 206,U eF (dd (bz (gx l.l (g3 l.l r) (bb (gm l.l r)) i).1 (3+n.toNat) (ew l.l (gx l.l (g3 l.l r) (bb (gm l.l r)) i).2 4096).1)) 173,U q [az l,aa ((ew l.l (gx l.l (g3 l.l r) (bb (gm l.l r)) i).2 4096).2.at':Int),.bool (ew l.l (gx l.l (g3 l.l r) (bb (gm l.l r)) i).2 4096).2.bad] 208] ad aA ?_
  refine aY [0,1,2,3,4,5] ?_
  refine tt (t:=27) rfl (fun ab=>?_) (fun ab=>?_)
  ·replace ab:=gX ab
   refine df [6,7,8,9,10,11,12,13,114,99] ?_
   rw [show(U eF (dd (bz (gx l.l (g3 l.l r) (bb (gm l.l r)) i).1 (3+n.toNat) (ew l.l (gx l.l (g3 l.l r) (bb (gm l.l r)) i).2 4096).1)) 173:ar B)=U eF (dd (gx l.l (g3 l.l r) (bb (gm l.l r)) (i+1)).1) 173 from by rw [CS b0];rfl]
   rw [show(U q [az l,aa ((ew l.l (gx l.l (g3 l.l r) (bb (gm l.l r)) i).2 4096).2.at':Int),.bool true] 208:ar B)=U q [az l,aa ((gx l.l (g3 l.l r) (bb (gm l.l r)) (i+1)).2.at':Int),.bool (gx l.l (g3 l.l r) (bb (gm l.l r)) (i+1)).2.bad] 208 from by rw [CS b0];show _=U q [_,_,.bool (_||_)] _;rw [show(ew l.l (gx l.l (g3 l.l r) (bb (gm l.l r)) i).2 4096).2.bad=true from by assumption];rfl]
   exact⟨[U ax [ag q] 206,U aK wj 173,U eF (dd (gx l.l (g3 l.l r) (bb (gm l.l r)) (i+1)).1) 173,U q [az l,aa ((gx l.l (g3 l.l r) (bb (gm l.l r)) (i+1)).2.at':Int),.bool (gx l.l (g3 l.l r) (bb (gm l.l r)) (i+1)).2.bad] 208,K],_,aA,rfl⟩
  replace ab:=gX ab
  refine aY [6,7] ?_
  refine bG 8 rfl (ns rfl rfl ad (by omega:n=((n.toNat:Nat):Int)) ah rfl) ?_
  refine bj 9 rfl (ft (v:=aa (ew l.l (gx l.l (g3 l.l r) (bb (gm l.l r)) i).2 4096).1) rfl au ad ((ZL ah).trans (by rw [e4]))) ?_
  refine df [10,11,12,13,114,99] ?_
  rw [show(U eF (dd (bz (gx l.l (g3 l.l r) (bb (gm l.l r)) i).1 (3+n.toNat) (ew l.l (gx l.l (g3 l.l r) (bb (gm l.l r)) i).2 4096).1)) 173:ar B)=U eF (dd (gx l.l (g3 l.l r) (bb (gm l.l r)) (i+1)).1) 173 from by rw [CS b0];rfl]
  rw [show(U q [az l,aa ((ew l.l (gx l.l (g3 l.l r) (bb (gm l.l r)) i).2 4096).2.at':Int),.bool ((ew l.l (gx l.l (g3 l.l r) (bb (gm l.l r)) i).2 4096).1==0)] 208:ar B)=U q [az l,aa ((gx l.l (g3 l.l r) (bb (gm l.l r)) (i+1)).2.at':Int),.bool (gx l.l (g3 l.l r) (bb (gm l.l r)) (i+1)).2.bad] 208 from by rw [CS b0];show _=U q [_,_,.bool (_||_)] _;rw [show(ew l.l (gx l.l (g3 l.l r) (bb (gm l.l r)) i).2 4096).2.bad=false from by assumption];rfl]
  exact⟨[U ax [ag q] 206,U aK wj 173,U eF (dd (gx l.l (g3 l.l r) (bb (gm l.l r)) (i+1)).1) 173,U q [az l,aa ((gx l.l (g3 l.l r) (bb (gm l.l r)) (i+1)).2.at':Int),.bool (gx l.l (g3 l.l r) (bb (gm l.l r)) (i+1)).2.bad] 208,K],_,aA,rfl⟩
 ·intro cG bh bo
  obtain rfl:=bo
  rw [List.length_map]
  rw [show(gx l.l (g3 l.l r) (bb (gm l.l r)) (bb (gm l.l r)).length)=pv l.l r from rfl]
  refine bP ?_
  refine hi ?_
  refine du (dd (pv l.l r).1) ?_
  refine aj ?_
  refine dA (show Take [dl cG] _ _ from aA) (Al rfl rfl au ad (by rfl)) ?_
  exact bJ
 intro cG c i bh af h
 exact h.elim
def BX(a b:Int):Nat→Int
  |0=>a
  |1=>b
  |_=>0
theorem Pa{b:BitVec 32}{m:Nat}(h:b.toNat<2^m){n:Int}(aP:n∈bb b):0≤n∧n<m:=by
 unfold bb lV at aP
 obtain⟨i,af,rfl⟩:=List.mem_map.1 aP
 obtain⟨ae,av⟩:=List.mem_filter.1 af
 refine⟨by omega,?_⟩
 apply Classical.byContradiction;intro gk
 have hW:m≤i:=by omega
 simp only [hasB]at av
 have:b.getLsbD i=false:=by
  rw [BitVec.getLsbD];exact Nat.testBit_lt_two_pow (Nat.lt_of_lt_of_le h (Nat.pow_le_pow_right b2 hW))
 simp_all
theorem ad4{v:Int}(b5:0≤v)(ab:v≤65535):IntKind.u32.wrap v=((BitVec.ofNat 32 v.toNat).toNat:Int):=by
  have e:(BitVec.ofNat 32 v.toNat).toNat=v.toNat:=by rw [BitVec.toNat_ofNat];omega
  rw [e,u32_in b5 (by omega)];omega
abbrev zl(l:List (BitVec 32))(p:List (Nat→Int)×dr):Int×dr:=ew l p.2 16
abbrev Bb(l:List (BitVec 32))(p:List (Nat→Int)×dr):Int×dr:=ew l (zl l p).2 3
def kL(l:List (BitVec 32))(r:dr):Nat→List (Nat→Int)×dr
  |0=>([],r)
  |n+1=>((kL l r n).1++[BX (zl l (kL l r n)).1 (Bb l (kL l r n)).1],(Bb l (kL l r n)).2)
theorem JT{l:List (BitVec 32)}{r:dr}(h:r.at'≤l.length):∀n,(kL l r n).2.at'≤l.length
  |0=>h
  |n+1=>(j6 (j6 (JT h n) (by decide)).1 (by decide)).1
theorem Jq{l:List (BitVec 32)}{r:dr}:∀n,(kL l r n).1.length=n
  |0=>rfl
  |n+1=>by rw [kL,List.length_append,Jq n];rfl
abbrev u3(l:List (BitVec 32))(r:dr):Int×dr:=ew l r 65535
abbrev lf(l:List (BitVec 32))(r:dr):Int×dr:=ew l (u3 l r).2 4
def pw(l:List (BitVec 32))(r:dr):(BitVec 32×List (Nat→Int))×dr:=((BitVec.ofNat 32 (u3 l r).1.toNat,(kL l (lf l r).2 (lf l r).1.toNat).1),(kL l (lf l r).2 (lf l r).1.toNat).2)
theorem Pb{l:List (BitVec 32)}{r:dr}(h:r.at'≤l.length):(pw l r).2.at'≤l.length∧(pw l r).1.1.toNat<65536∧(pw l r).1.2.length≤4:=by
 have ab:=j6 h (show(0:Int)≤65535 by decide)
 have ae:=j6 ab.1 (show(0:Int)≤4 by decide)
 refine⟨JT ae.1 _,?_,?_⟩
 ·show(BitVec.ofNat 32 _).toNat<_;rw [BitVec.toNat_ofNat];have ajW:=ab.2.2;have ajX:=ab.2.1;unfold u3;omega
 show(kL l _ _).1.length≤4;rw [Jq];have ajY:=ae.2.2;have ajZ:=ae.2.1;unfold lf u3;omega
theorem ad5(fL:Nat)(l:an (BitVec 32))(aE:dI K l.bu (l.l.flatMap dh))(r:dr)(a4:r.at'≤l.l.length):a6 B 83 [ag fL] [U fL [az l,aa (r.at':Int),.bool r.bad] 208,K] (fun v S=>∃q:an (Nat→Int),(q.l=(pw l.l r).1.2∧q.Own)∧v= .agg #[aQ (pw l.l r).1.1.toNat,az q]∧S=[U fL [az l,aa ((pw l.l r).2.at':Int),.bool (pw l.l r).2.bad] 208,kK q,K]):=by
 refine dN 24 Tryz.func83 fun ba bf=>?_
 have a1:=j6 a4 (show(0:Int)≤65535 by decide)
 have zP:=a1.1
 have a3:(lf l.l r).2.at'≤l.l.length∧0≤(lf l.l r).1∧(lf l.l r).1≤4:=j6 zP (show(0:Int)≤4 by decide)
 have BC:=a3.1
 refine aj ?_
 refine de fun ax=>?_
 refine eR (jG fL l aE r (by assumption) 65535) ?_
 refine ap (ja (z:=((BitVec.ofNat 32 (u3 l.l r).1.toNat).toNat:Int)) rfl ad (ad4 a1.2.1 a1.2.2)) ?_
 refine aj ?_
 refine de fun aK=>?_
 refine eR (jG fL l aE (u3 l.l r).2 (by assumption) 4) ?_
 rw [show(ew l.l (u3 l.l r).2 4)=lf l.l r from rfl]
 refine iK ?_
 refine gE jX 180 2 ?_
 refine ds (α:=Nat×an (Nat→Int)) (fun⟨i,q⟩=>i≤(lf l.l r).1.toNat∧q.l=(kL l.l (lf l.l r).2 i).1∧q.Own) (fun⟨i,q⟩=>[(10,aa (i:Int)),(0,ag fL),(2,ag ax),(3,ag aK),(9,aa (lf l.l r).1)]) (fun⟨i,q⟩=>[U ax [db,bw] 177,U aK [aQ (BitVec.ofNat 32 (u3 l.l r).1.toNat).toNat,az q] 177,U fL [az l,aa ((kL l.l (lf l.l r).2 i).2.at':Int),.bool (kL l.l (lf l.l r).2 i).2.bad] 208,kK q,K]) (fun⟨i,q⟩=>(lf l.l r).1.toNat-i) (0,an.bt) ?_ dq cd ?_
 ·exact⟨Nat.zero_le _,rfl,an.fk⟩
 rintro⟨i,q⟩ ⟨af,bF,lD⟩
 dsimp only
 have nb:q.l.length=i:=by rw [bF,Jq]
 have mR:=JT a3.1 i
 have ajj:=(j6 mR (show(0:Int)≤16 by decide)).1
 refine aj ?_
 refine c2 ?_ ?_<;>intro ab
 ·refine aj ?_
  refine cZ [U aK [aQ (BitVec.ofNat 32 (u3 l.l r).1.toNat).toNat,az q] 177] ad aA ?_
  refine aY [0,1,2,4] ?_
  refine gb 3 (jG fL l aE (kL l.l (lf l.l r).2 i).2 (by assumption) 16) ?_
  refine gb 5 (jG fL l aE (zl l.l (kL l.l (lf l.l r).2 i)).2 (by assumption) 3) ?_
  refine aY [6,107] ?_
  refine qV (aF:=([(BX (zl l.l (kL l.l (lf l.l r).2 i)).1 (Bb l.l (kL l.l (lf l.l r).2 i)).1)]:List (Nat→Int)).flatMap jX) rfl .no rfl ad b2 b2 (by rfl) (by rfl) rfl rfl (fun Tz=>?_)
  refine aY [108] ?_
  refine p1 (a2:=jX) (c:=q) (b:=an.lit Tz [(BX (zl l.l (kL l.l (lf l.l r).2 i)).1 (Bb l.l (kL l.l (lf l.l r).2 i)).1)] (by simp)) rfl .no rfl rfl ad au dy (show Out (U Tz (([(BX (zl l.l (kL l.l (lf l.l r).2 i)).1 (Bb l.l (kL l.l (lf l.l r).2 i)).1)]:List (Nat→Int)).flatMap jX) 180) _ _ from au) ir (fun _=>rfl) (fun _=>rfl) (by show q.l.length+1≤_;omega) (by show(q.l.length+1)*_≤_;omega) rfl (fun cI fH iH=>?_)
  refine df [9,110,99] ?_
  refine cE (i+1,cI) ?_
  (try dsimp only);exact⟨by omega,by rw [fH,bF];rfl,iH⟩
 refine l5 ?_
 refine du [aQ (BitVec.ofNat 32 (u3 l.l r).1.toNat).toNat,az q] ?_
 refine aj ?_
 refine g2 ?_
 obtain rfl:i=(lf l.l r).1.toNat:=by omega
 exact aO ⟨q,⟨bF,lD⟩,rfl,rfl⟩
theorem ZM{e:Nat→Int}{k:Nat}{v:Int}(h:k<16):(dP e).set (3+k*1) (aa v)=dP (bz e (3+k) v):=by
  rcases(show k=0∨k=1∨k=2∨k=3∨k=4∨k=5∨k=6∨k=7∨k=8∨k=9∨k=10∨k=11∨k=12∨k=13∨k=14∨k=15 by omega)with rfl|rfl|rfl|rfl|rfl|rfl|rfl|rfl|rfl|rfl|rfl|rfl|rfl|rfl|rfl|rfl<;>simp [dP,bz]
theorem ZN{e:Nat→Int}{k:Nat}{v:Int}(h:k<4):(dP e).set (19+k*1) (aa v)=dP (bz e (19+k) v):=by
  rcases(show k=0∨k=1∨k=2∨k=3 by omega)with rfl|rfl|rfl|rfl<;>simp [dP,bz]
def Es(a b c:Int):Nat→Int
  |0=>a
  |1=>b
  |2=>c
  |_=>0
def qj(l:List (BitVec 32))(p:(Nat→Int)×dr):Nat→(Nat→Int)×dr
  |0=>p
  |n+1=>(bz (qj l p n).1 (19+n) (ew l (qj l p n).2 4).1,(ew l (qj l p n).2 4).2)
theorem Gp{l:List (BitVec 32)}{p:(Nat→Int)×dr}(h:p.2.at'≤l.length):∀n,(qj l p n).2.at'≤l.length
  |0=>h
  |n+1=>(j6 (Gp h n) (by decide)).1
def wu(l:List (BitVec 32))(p:(Nat→Int)×dr)(k:Int):(Nat→Int)×dr:=(bz p.1 (3+k.toNat) (ew l p.2 16384).1,(ew l p.2 16384).2)
def iw(l:List (BitVec 32))(p:(Nat→Int)×dr)(hl:List Int)(n:Nat):(Nat→Int)×dr:=(hl.take n).foldl (wu l) p
theorem KB{l:List (BitVec 32)}{p:(Nat→Int)×dr}{hl:List Int}{n:Nat}{k:Int}(h:hl[n]?=some k):iw l p hl (n+1)=wu l (iw l p hl n) k:=by
  unfold iw;rw [List.take_add_one,h,List.foldl_append];rfl
theorem Gq{l:List (BitVec 32)}{p:(Nat→Int)×dr}{hl:List Int}(h:p.2.at'≤l.length):∀n,(iw l p hl n).2.at'≤l.length
  |0=>h
  |n+1=>by
    cases ai:hl[n]? with
    |none=>
      have:iw l p hl (n+1)=iw l p hl n:=by unfold iw;rw [List.take_add_one,ai];simp
      rw [this];exact Gq h n
    |some k=>rw [KB ai];exact(j6 (Gq h n) (by decide)).1
abbrev Et(l:List (BitVec 32))(r:dr):Int×dr:=ew l r 8
abbrev BE(l:List (BitVec 32))(r:dr):Int×dr:=ew l (Et l r).2 8
abbrev UP(l:List (BitVec 32))(r:dr):Int×dr:=ew l (BE l r).2 3
abbrev qE(l:List (BitVec 32))(r:dr):(Nat→Int)×dr:=(Es (Et l r).1 (BE l r).1 (UP l r).1,(UP l r).2)
abbrev eb(l:List (BitVec 32))(r:dr):(Nat→Int)×dr:=qj l (qE l r) 4
def nx(c:ck)(l:List (BitVec 32))(r:dr):(Nat→Int)×dr:=if(eb l r).1 2=3 then iw l (eb l r) (bb (fs c (eb l r).1)) (bb (fs c (eb l r).1)).length else eb l r
theorem Yd{c:ck}{l:List (BitVec 32)}{r:dr}(h:r.at'≤l.length):(nx c l r).2.at'≤l.length:=by
  have ab:=(j6 h (show(0:Int)≤8 by decide)).1
  have ae:=(j6 ab (show(0:Int)≤8 by decide)).1
  have av:=(j6 ae (show(0:Int)≤3 by decide)).1
  have aV:=Gp (p:=qE l r) av 4
  unfold nx;split
  · exact Gq aV _
  · exact aV
theorem JU{c:ck}(h:∀p∈c.a9,p.1.toNat<65536)(e:Nat→Int):(fs c e).toNat<2^16:=by
  have:(b6 c (e 1)).toNat<65536:=by
    unfold b6;split
    · decide
    · split
      · rename_i q;exact h _ (List.mem_of_getElem? q)
      · decide
  rw [BitVec.toNat_and]
  exact Nat.lt_of_le_of_lt Nat.and_le_left this
theorem ad6(q:Nat)(l:an (BitVec 32))(aE:dI K l.bu (l.l.flatMap dh))(r:dr)(a4:r.at'≤l.l.length)(x:bZ){lo:ar B}(al:x.In lo)(hm:∀p∈x.c.a9,p.1.toNat<65536){aB:ar B}(bO:hd aB):a6 B 84 [ag q,x.v] [U q [az l,aa (r.at':Int),.bool r.bad] 208,K,lo,aB] (fun v S=>v= .agg (dP (nx x.c l.l r).1).toArray∧S=[U q [az l,aa ((nx x.c l.l r).2.at':Int),.bool (nx x.c l.l r).2.bad] 208,K,lo,aB]):=by
 refine dN 39 Tryz.func84 fun ba bf=>?_
 have zP:=(j6 a4 (show(0:Int)≤8 by decide)).1
 have BC:=(j6 zP (show(0:Int)≤8 by decide)).1
 have BD:=(j6 BC (show(0:Int)≤3 by decide)).1
 have Mi:=Gp (p:=qE l.l r) BD 4
 refine aj ?_
 refine eD fun ax=>?_
 refine eD fun aK=>?_
 refine fe fun bq=>?_
 refine cp ?_
 refine jT (α:=Nat) (fun nR=>True) (fun nR=>[(5,ag nR),(2,ag ax),(3,ag aK),(4,ag bq)]) (fun nR=>[U ax [ag q] 206,U aK (b9 x) 41,U bq wk 184,U nR (dP (qE l.l r).1) 184,U q [az l,aa ((qE l.l r).2.at':Int),.bool (qE l.l r).2.bad] 208,K,lo,aB]) ?_ ?_
 ·skip
  refine cZ [U ax [ag q] 206] ad aA ?_
  refine aY [0,2,4] ?_
  refine lq 1 7 en ?_ ?_
  ·skip
   refine nk (jG q l aE r (by assumption) 8) ?_
   rintro _ _ ⟨rfl,rfl⟩
   refine bP ?_
   refine gv ?_
   refine lq 3 7 en ?_ ?_
   ·skip
    refine nk (jG q l aE (Et l.l r).2 (by assumption) 8) ?_
    rintro _ _ ⟨rfl,rfl⟩
    refine bP ?_
    refine gv ?_
    refine lq 5 7 en ?_ ?_
    ·skip
     refine nk (jG q l aE (BE l.l r).2 (by assumption) 3) ?_
     rintro _ _ ⟨rfl,rfl⟩
     refine bP ?_
     refine gv ?_
     refine aY [6,107] ?_
     refine lO rfl .no ad rfl (fun wP=>?_)
     refine aY [108,99] ?_
     exact ez wP trivial
    skip
    refine lO rfl .no ad rfl (fun wP=>?_)
    refine gb 5 (jG q l aE (BE l.l r).2 (by assumption) 3) ?_
    refine aY [6,108,99] ?_
    exact ez wP trivial
   skip
   refine lO rfl .no ad rfl (fun wP=>?_)
   refine gb 3 (jG q l aE (Et l.l r).2 (by assumption) 8) ?_
   refine gb 5 (jG q l aE (BE l.l r).2 (by assumption) 3) ?_
   refine aY [6,108,99] ?_
   exact ez wP trivial
  skip
  refine lO rfl .no ad rfl (fun wP=>?_)
  refine gb 1 (jG q l aE r (by assumption) 8) ?_
  refine gb 3 (jG q l aE (Et l.l r).2 (by assumption) 8) ?_
  refine gb 5 (jG q l aE (BE l.l r).2 (by assumption) 3) ?_
  refine aY [6,108,99] ?_
  exact ez wP trivial
 rintro nR _
 refine aj ?_
 refine ds (α:=Nat) (fun i=>i≤4) (fun i=>[(15,aa (i:Int)),(2,ag ax),(3,ag aK),(4,ag bq),(5,ag nR)]) (fun i=>[U ax [ag q] 206,U aK (b9 x) 41,U bq wk 184,U nR (dP (qj l.l (qE l.l r) i).1) 184,U q [az l,aa ((qj l.l (qE l.l r) i).2.at':Int),.bool (qj l.l (qE l.l r) i).2.bad] 208,K,lo,aB]) (fun i=>4-i) 0 ?_ dq cd ?_
 ·exact Nat.zero_le _
 rintro i af
 have mR:=Gp (p:=qE l.l r) BD i
 refine aj ?_
 refine c2 ?_ ?_<;>intro ab
 ·refine aj ?_
  refine gH (jG q l aE (qj l.l (qE l.l r) i).2 (by assumption) 4) ?_
  refine fq (js (k:=19+i*1) (ga:=dP (bz (qj l.l (qE l.l r) i).1 (19+i) (ew l.l (qj l.l (qE l.l r) i).2 4).1)) rfl rfl rfl au ad (by simp;omega) (ZN ah)) ?_
  refine aj ?_
  refine cE (i+1) ?_
  omega
 obtain rfl:i=4:=by omega
 refine tx ?_
 refine tn ?_
 refine tp ?_
 refine to ?_
 refine fj ?_
 refine cC ?_
 refine cC ?_
 refine dz ?_
 refine ap (ia ad) ?_
 refine ap (ft (v:=aa ((eb l.l r).1 2)) rfl au ad (by rfl)) ?_
 refine aj ?_
 refine c2 ?_ ?_<;>intro ae
 ·refine gI ?_
  refine du (dP (eb l.l r).1) ?_
  refine aj ?_
  refine g2 ?_
  rw [show nx x.c l.l r=(eb l.l r)from if_neg ch]
  exact bJ
 refine gN ?_
 refine du (b9 x) ?_
 refine du (dP (eb l.l r).1) ?_
 refine eR (Rt (K:=lo) x al (eb l.l r).1) ?_
 refine cm (re (fs x.c (eb l.l r).1)) ?_
 rintro _ _ ⟨hY,rfl,rfl⟩
 refine cx ?_
 rw [show(U nR (dP (eb l.l r).1) 184:ar B)=U nR (dP (iw l.l (eb l.l r) (bb (fs x.c (eb l.l r).1)) 0).1) 184 from rfl]
 rw [show(U q [az l,aa ((eb l.l r).2.at':Int),.bool (eb l.l r).2.bad] 208:ar B)=U q [az l,aa ((iw l.l (eb l.l r) (bb (fs x.c (eb l.l r).1)) 0).2.at':Int),.bool (iw l.l (eb l.l r) (bb (fs x.c (eb l.l r).1)) 0).2.bad] 208 from rfl]
 refine kS (own:=[U hY [aQ (fs x.c (eb l.l r).1).toNat] 158,aB]) (aU:=[U ax [ag q] 206,U aK (b9 x) 41,U bq wk 184,U nR (dP (iw l.l (eb l.l r) (bb (fs x.c (eb l.l r).1)) 0).1) 184,U q [az l,aa ((iw l.l (eb l.l r) (bb (fs x.c (eb l.l r).1)) 0).2.at':Int),.bool (iw l.l (eb l.l r) (bb (fs x.c (eb l.l r).1)) 0).2.bad] 208,K,lo]) rfl fF (q1 (K:=aB) hY (fs x.c (eb l.l r).1) bO) (fun i S=>S=[U ax [ag q] 206,U aK (b9 x) 41,U bq wk 184,U nR (dP (iw l.l (eb l.l r) (bb (fs x.c (eb l.l r).1)) i).1) 184,U q [az l,aa ((iw l.l (eb l.l r) (bb (fs x.c (eb l.l r).1)) i).2.at':Int),.bool (iw l.l (eb l.l r) (bb (fs x.c (eb l.l r).1)) i).2.bad] 208,K,lo]) (fun c i S=>False) (show Take ([U hY [aQ (fs x.c (eb l.l r).1).toNat] 158,aB,U ax [ag q] 206,U aK (b9 x) 41,U bq wk 184,U nR (dP (iw l.l (eb l.l r) (bb (fs x.c (eb l.l r).1)) 0).1) 184,U q [az l,aa ((iw l.l (eb l.l r) (bb (fs x.c (eb l.l r).1)) 0).2.at':Int),.bool (iw l.l (eb l.l r) (bb (fs x.c (eb l.l r).1)) 0).2.bad] 208,K,lo]) _ _ from aA) (rfl) rfl (fun x al=>by obtain⟨y,_,rfl⟩:=List.mem_map.1 al;rfl) ?_ ?_ ?_
 ·intro cr rec j3 i bh af bo
  obtain rfl:=bo
  rw [List.length_map]at af
  obtain⟨n,b0⟩:∃n,(bb (fs x.c (eb l.l r).1))[i]?=some n:=⟨_,List.getElem?_eq_getElem af⟩
  obtain⟨yb,ajk⟩:=Pa (JU hm _) (List.mem_of_getElem? b0)
  have mR:=Gq (hl:=(bb (fs x.c (eb l.l r).1))) (p:=(eb l.l r)) Mi i
  rw [lp b0]
  refine aj ?_
  refine⟨rfl,_,_,.cons au (Take.self _),fun hz=>?_⟩
  refine aj ?_
  refine eR (jG q l aE (iw l.l (eb l.l r) (bb (fs x.c (eb l.l r).1)) i).2 (by assumption) 16384) ?_
  refine cp ?_
  refine ap (p3 rfl rfl ad (by omega:n=((n.toNat:Nat):Int)) ah rfl) ?_
  refine fq (js (k:=3+n.toNat*1) (ga:=dP (bz (iw l.l (eb l.l r) (bb (fs x.c (eb l.l r).1)) i).1 (3+n.toNat) (ew l.l (iw l.l (eb l.l r) (bb (fs x.c (eb l.l r).1)) i).2 16384).1)) rfl rfl rfl au ad (by simp;omega) (ZM ah)) ?_
  refine aj ?_
  rw [show(U nR (dP (bz (iw l.l (eb l.l r) (bb (fs x.c (eb l.l r).1)) i).1 (3+n.toNat) (ew l.l (iw l.l (eb l.l r) (bb (fs x.c (eb l.l r).1)) i).2 16384).1)) 184:ar B)=U nR (dP (iw l.l (eb l.l r) (bb (fs x.c (eb l.l r).1)) (i+1)).1) 184 from by rw [KB b0];rfl]
  rw [show(U q [az l,aa ((ew l.l (iw l.l (eb l.l r) (bb (fs x.c (eb l.l r).1)) i).2 16384).2.at':Int),.bool (ew l.l (iw l.l (eb l.l r) (bb (fs x.c (eb l.l r).1)) i).2 16384).2.bad] 208:ar B)=U q [az l,aa ((iw l.l (eb l.l r) (bb (fs x.c (eb l.l r).1)) (i+1)).2.at':Int),.bool (iw l.l (eb l.l r) (bb (fs x.c (eb l.l r).1)) (i+1)).2.bad] 208 from by rw [KB b0];rfl]
  exact⟨[U ax [ag q] 206,U aK (b9 x) 41,U bq wk 184,U nR (dP (iw l.l (eb l.l r) (bb (fs x.c (eb l.l r).1)) (i+1)).1) 184,U q [az l,aa ((iw l.l (eb l.l r) (bb (fs x.c (eb l.l r).1)) (i+1)).2.at':Int),.bool (iw l.l (eb l.l r) (bb (fs x.c (eb l.l r).1)) (i+1)).2.bad] 208,K,lo],_,aA,rfl⟩
 ·intro cG bh bo
  obtain rfl:=bo
  rw [List.length_map]
  have he:nx x.c l.l r=(iw l.l (eb l.l r) (bb (fs x.c (eb l.l r).1)) (bb (fs x.c (eb l.l r).1)).length):=if_pos ch
  rw [←he]
  refine bP ?_
  refine hi ?_
  refine du (dP (nx x.c l.l r).1) ?_
  refine aj ?_
  refine dA (show Take [dl cG] _ _ from aA) (Al rfl rfl au ad (by rfl)) ?_
  exact bJ
 intro cG c i bh af h
 exact h.elim
abbrev yd:dr:=⟨0,false⟩
abbrev UQ(l:List (BitVec 32)):Int×dr:=ew l yd 1380273457
abbrev BF(l:List (BitVec 32)):dr:=⟨(UQ l).2.at',(UQ l).1 !=1380273457⟩
abbrev li(l:List (BitVec 32)):Int×dr:=ew l (BF l) 8
abbrev qF(l:List (BitVec 32)):Int×dr:=ew l (li l).2 16
abbrev qG(l:List (BitVec 32)):Int×dr:=ew l (qF l).2 8
abbrev mS(l:List (BitVec 32)):Int×dr:=ew l (qG l).2 24
theorem Ye{l:List (BitVec 32)}{r:dr}(h:r.at'≤l.length):(pv l r).2.at'≤l.length:=
  F4 (j6 (j6 (j6 (j6 h (by decide)).1 (by decide)).1 (by decide)).1 (by decide)).1 _
def qk(l:List (BitVec 32))(r:dr):Nat→List (Nat→Int)×dr
  |0=>([],r)
  |n+1=>((qk l r n).1++[(pv l (qk l r n).2).1],(pv l (qk l r n).2).2)
theorem Gr{l:List (BitVec 32)}{r:dr}(h:r.at'≤l.length):∀n,(qk l r n).2.at'≤l.length∧(qk l r n).1.length=n
  |0=>⟨h,rfl⟩
  |n+1=>⟨Ye (Gr h n).1,by rw [qk,List.length_append,(Gr h n).2];rfl⟩
def oH(l:List (BitVec 32))(r:dr):Nat→List (BitVec 32×List (Nat→Int))×dr
  |0=>([],r)
  |n+1=>((oH l r n).1++[(pw l (oH l r n).2).1],(pw l (oH l r n).2).2)
theorem yP{l:List (BitVec 32)}{r:dr}(h:r.at'≤l.length):∀n,(oH l r n).2.at'≤l.length∧(oH l r n).1.length=n∧∀p∈(oH l r n).1,p.1.toNat<65536∧p.2.length≤4
  |0=>⟨h,rfl,fun p aC=>by cases aC⟩
  | n + 1 => ⟨(Pb (yP h n).1).1, by rw [oH, List.length_append, (yP h n).2.1]; rfl, fun p aC => by
      rcases List.mem_append.1 aC with q|q
      · exact(yP h n).2.2 p q
      · simp at q;subst q;exact(Pb (yP h n).1).2⟩
def ql(c:ck)(l:List (BitVec 32))(r:dr):Nat→List (Nat→Int)×dr
  |0=>([],r)
  |n+1=>((ql c l r n).1++[(nx c l (ql c l r n).2).1],(nx c l (ql c l r n).2).2)
theorem JV{c:ck}{l:List (BitVec 32)}{r:dr}(h:r.at'≤l.length):∀n,(ql c l r n).2.at'≤l.length∧(ql c l r n).1.length=n
  |0=>⟨h,rfl⟩
  |n+1=>⟨Yd (JV h n).1,by rw [ql,List.length_append,(JV h n).2];rfl⟩
abbrev pU(l:List (BitVec 32)):List (Nat→Int)×dr:=qk l (mS l).2 (qF l).1.toNat
abbrev pV(l:List (BitVec 32)):List (BitVec 32×List (Nat→Int))×dr:=oH l (pU l).2 (qG l).1.toNat
abbrev qH(l:List (BitVec 32)):ck:=⟨(li l).1,(pU l).1,(pV l).1,[]⟩
abbrev BS(l:List (BitVec 32)):List (Nat→Int)×dr:=ql (qH l) l (pV l).2 (mS l).1.toNat
def qm(l:List (BitVec 32)):ck×dr:=(⟨(li l).1,(pU l).1,(pV l).1,(BS l).1⟩,(BS l).2)
def lg(l:List (BitVec 32)):Option ck:=if(qm l).2.bad=true∨(qm l).2.at'≠l.length then none else if(iY (qm l).1).2=0 then some (qm l).1 else none
def pC(l:List (BitVec 32)):Int:=if(lg l).isSome=true then 0 else 110
abbrev sW(a:an (Nat→Int)):ar B:=eO a 173 11 dd
abbrev qn(a:an (Nat→Int)):ar B:=eO a 184 23 dP
abbrev tP(a:an Mode):ar B:=eO a 177 2 gg
abbrev uQ(l:List Mode):List (ar B):=l.reverse.map fun m=>kK m.q
abbrev uR(t:an (Nat→Int))(m:an Mode):ar B:=all ([sW t,tP m]++uQ m.l)
theorem Ru{y:bZ}(h:y.Own):y.In (all [qn (B:=B) y.bd,uR y.aw y.a9]):=by
 have k:uR (B:=B) y.aw y.a9∈[qn (B:=B) y.bd,uR y.aw y.a9]:=by simp
 refine⟨nU k (nU (a:=sW y.aw) (by simp) (dT h.aw rfl)),nU k (nU (a:=tP y.a9) (by simp) (dT h.a9 rfl)),nU (a:=qn y.bd) (by simp) (dT h.bd rfl),fun m hm=>nU k (nU (a:=kK m.q) ?_ (dT (h.rR m hm) rfl))⟩
 exact List.mem_append_right _ (List.mem_map.2 ⟨m,List.mem_reverse.2 hm,rfl⟩)
theorem JW(l:an (BitVec 32))(aE:dI K l.bu (l.l.flatMap dh)){aB:ar B}(bO:hd aB):a6 B 46 [az l] [K,aB] (fun v S=>∃y:bZ,((∀c,lg l.l=some c→y.c=c)∧y.Own)∧v= .tuple #[y.v,aa (pC l.l)]∧S=[all (fr y),K,aB]):=by
 refine dN 86 Tryz.func46 fun ba bf=>?_
 have l7:=(j6 (l:=l.l) (r:=yd) (Nat.zero_le _) (show(0:Int)≤1380273457 by decide)).1
 have ahM:(BF l.l).at'≤l.l.length:=l7
 have zP:=(j6 ahM (show(0:Int)≤8 by decide)).1
 have a3:(qF l.l).2.at'≤l.l.length∧0≤(qF l.l).1∧(qF l.l).1≤16:=j6 zP b2
 have BC:=a3.1
 have bI:(qG l.l).2.at'≤l.l.length∧0≤(qG l.l).1∧(qG l.l).1≤8:=j6 BC b2
 have BD:=bI.1
 have cv:(mS l.l).2.at'≤l.l.length∧0≤(mS l.l).1∧(mS l.l).1≤24:=j6 BD b2
 have Mi:=cv.1
 have eX:=(Gr Mi (qF l.l).1.toNat).1
 have fJ:=(yP eX (qG l.l).1.toNat).1
 refine aj ?_
 refine de fun ax=>?_
 refine fX (aF:=[az l,ak,.bool false]) fun aK=>?_
 rw [show(U aK [az l,ak,.bool false] 208:ar B)=U aK [az l,aa (yd.at':Int),.bool yd.bad] 208 from rfl]
 refine gH (jG aK l aE yd (Nat.zero_le _) 1380273457) ?_
 refine gH (jG aK l aE (BF l.l) (by assumption) 8) ?_
 refine de fun bq=>?_
 refine gH (jG aK l aE (li l.l).2 (by assumption) 16) ?_
 refine gH (jG aK l aE (qF l.l).2 (by assumption) 8) ?_
 refine eR (jG aK l aE (qG l.l).2 (by assumption) 24) ?_
 refine DP ?_
 refine gE dd 173 11 ?_
 refine ds (α:=Nat×an (Nat→Int)) (fun⟨i,cY⟩=>i≤(qF l.l).1.toNat∧cY.l=(qk l.l (mS l.l).2 i).1∧cY.Own) (fun⟨i,cY⟩=>[(30,aa (i:Int)),(0,az l),(2,ag ax),(3,ak),(4,ag aK),(5,ag bq),(6,aa (qF l.l).1),(7,aa (qG l.l).1),(8,aa (mS l.l).1),(29,aa (qF l.l).1)]) (fun⟨i,cY⟩=>[U ax [ak,bw,bw,bw] 41,U bq [aa (li l.l).1,az cY,bw,bw] 41,U aK [az l,aa ((qk l.l (mS l.l).2 i).2.at':Int),.bool (qk l.l (mS l.l).2 i).2.bad] 208,sW cY,K,aB]) (fun⟨i,cY⟩=>(qF l.l).1.toNat-i) (0,an.bt) ?_ dq cd ?_
 ·exact⟨Nat.zero_le _,rfl,an.fk⟩
 rintro⟨i,cY⟩ ⟨af,Bz,DV⟩
 dsimp only
 obtain⟨mR,rs⟩:=Gr cv.1 i
 have jZ:cY.l.length=i:=by rw [Bz,rs]
 refine aj ?_
 refine c2 ?_ ?_<;>intro ab
 ·refine aj ?_
  refine cZ [U bq [aa (li l.l).1,az cY,bw,bw] 41] ad aA ?_
  refine aY [0,1,2] ?_
  refine gb 3 (ad3 aK l aE (qk l.l (mS l.l).2 i).2 (by assumption) bO) ?_
  refine aY [104] ?_
  refine qV (aF:=([(pv l.l (qk l.l (mS l.l).2 i).2).1]:List (Nat→Int)).flatMap dd) rfl .no rfl ad b2 b2 (by rfl) (by rfl) rfl rfl (fun TA=>?_)
  refine aY [105] ?_
  refine p1 (a2:=dd) (c:=cY) (b:=an.lit TA [(pv l.l (qk l.l (mS l.l).2 i).2).1] (by simp)) rfl .no rfl rfl ad au dy (show Out (U TA (([(pv l.l (qk l.l (mS l.l).2 i).2).1]:List (Nat→Int)).flatMap dd) 173) _ _ from au) ir (fun _=>rfl) (fun _=>rfl) (by show cY.l.length+1≤_;omega) (by show(cY.l.length+1)*_≤_;omega) rfl (fun cI fH iH=>?_)
  refine df [6,107,99] ?_
  refine cE (i+1,cI) ?_
  (try dsimp only);exact⟨by omega,by rw [fH,Bz];rfl,iH⟩
 obtain rfl:i=(qF l.l).1.toNat:=by omega
 refine tx ?_
 refine tn ?_
 refine tp ?_
 refine to ?_
 refine fj ?_
 refine cC ?_
 refine cC ?_
 refine dz ?_
 refine ap (cj rfl) ?_
 refine ap (cj rfl) ?_
 refine e8 ?_
 refine mA ?_
 refine gE gg 177 2 ?_
 refine sa yR ?_
 refine ds (α:=Nat×an Mode) (fun⟨i,cK⟩=>i≤(qG l.l).1.toNat∧cK.l.map lr=(oH l.l (pU l.l).2 i).1∧cK.Own∧∀m∈cK.l,m.q.Own) (fun⟨i,cK⟩=>[(41,aa (i:Int)),(0,az l),(2,ag ax),(3,ak),(4,ag aK),(5,ag bq),(6,aa (qF l.l).1),(7,aa (qG l.l).1),(8,aa (mS l.l).1),(40,aa (qG l.l).1)]) (fun⟨i,cK⟩=>[U ax [ak,bw,bw,bw] 41,U bq [aa (li l.l).1,az cY,az cK,bw] 41,U aK [az l,aa ((oH l.l (pU l.l).2 i).2.at':Int),.bool (oH l.l (pU l.l).2 i).2.bad] 208,sW cY,tP cK,all (uQ cK.l),K,aB]) (fun⟨i,cK⟩=>(qG l.l).1.toNat-i) (0,an.bt) ?_ dq cd ?_
 ·exact⟨Nat.zero_le _,rfl,an.fk,fun m hm=>by cases hm⟩
 rintro⟨i,cK⟩ ⟨af,oO,wq,lD⟩
 dsimp only
 obtain⟨mR,rs,_⟩:=yP eX i
 have jZ:cK.l.length=i:=by rw [←List.length_map (f:=lr),oO,rs]
 refine aj ?_
 refine c2 ?_ ?_<;>intro ae
 ·refine aj ?_
  refine cZ [U bq [aa (li l.l).1,az cY,az cK,bw] 41] ad aA ?_
  refine aY [0,1,2] ?_
  refine j0 3 (ad5 aK l aE (oH l.l (pU l.l).2 i).2 (by assumption)) ?_
  rintro _ _ ⟨BY,⟨Eu,af7⟩,rfl,rfl⟩
  refine bP ?_
  refine gv ?_
  refine aY [104] ?_
  refine qV (aF:=([(⟨(pw l.l (oH l.l (pU l.l).2 i).2).1.1,BY⟩:Mode)]:List Mode).flatMap gg) rfl .no rfl ad b2 b2 (by rfl) (by rfl) rfl rfl (fun TB=>?_)
  refine aY [105] ?_
  refine p1 (a2:=gg) (c:=cK) (b:=an.lit TB [(⟨(pw l.l (oH l.l (pU l.l).2 i).2).1.1,BY⟩:Mode)] (by simp)) rfl .no rfl rfl ad au dy (show Out (U TB (([(⟨(pw l.l (oH l.l (pU l.l).2 i).2).1.1,BY⟩:Mode)]:List Mode).flatMap gg) 177) _ _ from au) ir (fun _=>rfl) (fun _=>rfl) (by show cK.l.length+1≤_;omega) (by show(cK.l.length+1)*_≤_;omega) rfl (fun cI fH iH=>?_)
  refine aY [6,107,99] ?_
  refine iK ?_
  refine hr (yM (kK BY) aA) ?_
  refine aj ?_
  rw [show(all (kK BY::uQ cK.l):ar B)=all (uQ cI.l)from by rw [fH];unfold uQ;rw [List.reverse_append];rfl]
  refine cE (i+1,cI) ?_
  (try dsimp only);exact⟨by omega,by rw [fH,List.map_append,oO,oH];show _++[(_,BY.l)]=_;rw [Eu],iH,fun m hm=>by rw [fH]at hm;rcases List.mem_append.1 hm with q|q;exact lD m q;obtain rfl:=List.mem_singleton.1 q;exact af7⟩
 obtain rfl:i=(qG l.l).1.toNat:=by omega
 have tc:∀p∈cK.l.map lr,p.1.toNat<65536:=by rw [oO];exact fun p aC=>((yP eX _).2.2 p aC).1
 refine tx ?_
 refine tn ?_
 refine tp ?_
 refine to ?_
 refine fj ?_
 refine cC ?_
 refine cC ?_
 refine dz ?_
 refine ap (cj rfl) ?_
 refine ap (cj rfl) ?_
 refine e8 ?_
 refine mA ?_
 refine sa (GG (l:=[sW cY,tP cK]) (m:=uQ cK.l) (show Take [sW cY,tP cK,all (uQ cK.l)] _ _ from aA)) ?_
 refine gE dP 184 23 ?_
 refine sa (sL (l:=[qn (an.bt:an (Nat→Int)),uR cY cK]) cd) ?_
 refine ds (α:=Nat×an (Nat→Int)) (fun⟨i,ce⟩=>i≤(mS l.l).1.toNat∧ce.l=(ql (qH l.l) l.l (pV l.l).2 i).1∧ce.Own) (fun⟨i,ce⟩=>[(52,aa (i:Int)),(0,az l),(2,ag ax),(3,ak),(4,ag aK),(5,ag bq),(6,aa (qF l.l).1),(7,aa (qG l.l).1),(8,aa (mS l.l).1),(51,aa (mS l.l).1)]) (fun⟨i,ce⟩=>[U ax [ak,bw,bw,bw] 41,U bq [aa (li l.l).1,az cY,az cK,az ce] 41,U aK [az l,aa ((ql (qH l.l) l.l (pV l.l).2 i).2.at':Int),.bool (ql (qH l.l) l.l (pV l.l).2 i).2.bad] 208,all [qn ce,uR cY cK],K,aB]) (fun⟨i,ce⟩=>(mS l.l).1.toNat-i) (0,an.bt) ?_ dq cd ?_
 ·exact⟨Nat.zero_le _,rfl,an.fk⟩
 rintro⟨i,ce⟩ ⟨af,pO,zk⟩
 dsimp only
 obtain⟨mR,rs⟩:=JV (c:=qH l.l) fJ i
 have jZ:ce.l.length=i:=by rw [pO,rs]
 refine bT ?_ ?_<;>intro av
 ·refine cZ [U bq [aa (li l.l).1,az cY,az cK,az ce] 41] ad aA ?_
  refine aY [0,1,2] ?_
  refine bj 3 rfl (ed (bK:=[aa (li l.l).1,az cY,az cK,az ce]) rfl au ad rfl (by rfl)) ?_
  refine aY [104] ?_
  have zQ:nx (⟨(li l.l).1,cY,cK,ce⟩:bZ).c l.l (ql (qH l.l) l.l (pV l.l).2 i).2=nx (qH l.l) l.l (ql (qH l.l) l.l (pV l.l).2 i).2:=by rw [show(⟨(li l.l).1,cY,cK,ce⟩:bZ).c=⟨(li l.l).1,(pU l.l).1,(pV l.l).1,ce.l⟩from by show(⟨_,cY.l,cK.l.map lr,ce.l⟩:ck)=_;rw [Bz,oO]];rfl
  refine nk (ad6 aK l aE (ql (qH l.l) l.l (pV l.l).2 i).2 (by assumption) (⟨(li l.l).1,cY,cK,ce⟩:bZ) (lo:=all [qn ce,uR cY cK]) (Ru (y:=(⟨(li l.l).1,cY,cK,ce⟩:bZ)) ⟨DV,zk,wq,lD⟩) tc bO) ?_
  rintro _ _ ⟨rfl,rfl⟩
  refine bP ?_
  rw [zQ]
  obtain⟨b8,UR⟩:∃b8,b8=nx (qH l.l) l.l (ql (qH l.l) l.l (pV l.l).2 i).2:=⟨_,rfl⟩
  rw [←UR]
  refine gv ?_
  refine aY [105] ?_
  refine qV (aF:=([b8.1]:List (Nat→Int)).flatMap dP) rfl .no rfl ad b2 b2 (by rfl) (by rw [show(([b8.1]:List (Nat→Int)).flatMap dP)=dP b8.1 from List.append_nil _];exact G4 rfl) rfl rfl (fun TC=>?_)
  refine aY [106] ?_
  refine adu (Ge (l:=[qn ce,uR cY cK]) cd) ?_
  refine bP ?_
  refine p1 (a2:=dP) (c:=ce) (b:=an.lit TC [b8.1] (by simp)) rfl .no rfl rfl ad au dy (show Out (U TC (([b8.1]:List (Nat→Int)).flatMap dP) 184) _ _ from au) ir (fun _=>rfl) (fun _=>rfl) (by show ce.l.length+1≤_;omega) (by show(ce.l.length+1)*_≤_;omega) rfl (fun cI fH iH=>?_)
  refine aY [7,108,99] ?_
  refine iK ?_
  refine hr (sL (l:=[qn cI,uR cY cK]) cd) ?_
  refine aj ?_
  subst UR
  refine cE (i+1,cI) ?_
  (try dsimp only);exact⟨by omega,by rw [fH,pO];rfl,iH⟩
 obtain rfl:i=(mS l.l).1.toNat:=by omega
 have nK:(⟨(li l.l).1,cY,cK,ce⟩:bZ).c=(qm l.l).1:=by show(⟨_,cY.l,cK.l.map lr,ce.l⟩:ck)=_;rw [Bz,oO,pO];rfl
 refine aj ?_
 refine qW (t:=67) rfl (fun aV=>?_) (fun aV=>?_)
 ·replace aV:=gX aV
  refine xS ?_
  refine p0 dd 173 11 ?_
  refine p0 dP 184 23 ?_
  refine p0 gg 177 2 ?_
  refine hr (sL (l:=[sW (an.bt:an (Nat→Int)),qn (an.bt:an (Nat→Int)),tP (an.bt:an Mode)]) aA) ?_
  refine aj ?_
  refine fS ?_
  have aJ:lg l.l=none:=by unfold lg;rw [if_pos (.inl ch)]
  have cn:pC l.l=110:=by unfold pC;rw [aJ];rfl
  exact aO ⟨(⟨0,an.bt,an.bt,an.bt⟩:bZ),⟨fun c q=>(by rw [aJ]at q;cases q),⟨an.fk,an.fk,an.fk,fun m hm=>(by cases hm)⟩⟩,by rw [cn];rfl,rfl⟩
 replace aV:=gX aV
 refine aj ?_
 refine c2 ?_ ?_<;>intro bN
 ·refine gI ?_
  refine p0 dd 173 11 ?_
  refine p0 dP 184 23 ?_
  refine p0 gg 177 2 ?_
  refine hr (sL (l:=[sW (an.bt:an (Nat→Int)),qn (an.bt:an (Nat→Int)),tP (an.bt:an Mode)]) aA) ?_
  refine aj ?_
  refine fS ?_
  have aJ:lg l.l=none:=by unfold lg;rw [if_pos (.inr (fun e=>bN (congrArg (fun n:Nat=>(n:Int)) e)))]
  have cn:pC l.l=110:=by unfold pC;rw [aJ];rfl
  exact aO ⟨(⟨0,an.bt,an.bt,an.bt⟩:bZ),⟨fun c q=>(by rw [aJ]at q;cases q),⟨an.fk,an.fk,an.fk,fun m hm=>(by cases hm)⟩⟩,by rw [cn];rfl,rfl⟩
 refine gN ?_
 refine du [aa (li l.l).1,az cY,az cK,az ce] ?_
 refine eR (GQ (K:=all [qn ce,uR cY cK]) (⟨(li l.l).1,cY,cK,ce⟩:bZ) (Ru (y:=(⟨(li l.l).1,cY,cK,ce⟩:bZ)) ⟨DV,zk,wq,lD⟩)) ?_
 refine cp ?_
 refine bp (aa (iY (⟨(li l.l).1,cY,cK,ce⟩:bZ).c).1) ?_
 refine bp (aa (iY (⟨(li l.l).1,cY,cK,ce⟩:bZ).c).2) ?_
 refine aj ?_
 refine c2 ?_ ?_<;>intro c0
 ·refine gI ?_
  refine p0 dd 173 11 ?_
  refine p0 dP 184 23 ?_
  refine p0 gg 177 2 ?_
  refine hr (sL (l:=[sW (an.bt:an (Nat→Int)),qn (an.bt:an (Nat→Int)),tP (an.bt:an Mode)]) aA) ?_
  refine aj ?_
  refine fS ?_
  rw [nK]at c0
  have aJ:lg l.l=none:=by unfold lg;have aP:¬((qm l.l).2.bad=true∨(qm l.l).2.at'≠l.l.length):=fun e=>e.elim (fun e=>by rw [show(qm l.l).2.bad=false from aV]at e;cases e) (fun e=>e (by have bN:((qm l.l).2.at':Int)=(l.l.length:Int):=bN;omega));rw [if_neg aP,if_neg c0]
  have cn:pC l.l=110:=by unfold pC;rw [aJ];rfl
  exact aO ⟨(⟨0,an.bt,an.bt,an.bt⟩:bZ),⟨fun c q=>(by rw [aJ]at q;cases q),⟨an.fk,an.fk,an.fk,fun m hm=>(by cases hm)⟩⟩,by rw [cn];rfl,rfl⟩
 refine hi ?_
 refine hr (Ge (l:=[qn ce,uR cY cK]) cd) ?_
 refine bP ?_
 refine hr (Cv (l:=[sW cY,tP cK]) (m:=uQ cK.l) cd) ?_
 refine bP ?_
 refine hr (GG (l:=[sW cY,qn ce,tP cK]) (m:=uQ cK.l) (show Take [sW cY,qn ce,tP cK,all (uQ cK.l)] _ _ from aA)) ?_
 refine du [aa (li l.l).1,az cY,az cK,az ce] ?_
 refine aj ?_
 refine fS ?_
 rw [nK]at c0
 have aJ:lg l.l=some (⟨(li l.l).1,cY,cK,ce⟩:bZ).c:=by have aP:¬((qm l.l).2.bad=true∨(qm l.l).2.at'≠l.l.length):=fun e=>e.elim (fun e=>by rw [show(qm l.l).2.bad=false from aV]at e;cases e) (fun e=>e (by have bN:((qm l.l).2.at':Int)=(l.l.length:Int):=bN;omega));unfold lg;rw [if_neg aP,if_pos c0,nK]
 have cn:pC l.l=0:=by unfold pC;rw [aJ];rfl
 exact aO ⟨(⟨(li l.l).1,cY,cK,ce⟩:bZ),⟨fun c q=>Option.some.inj (aJ.symm.trans q),⟨DV,zk,wq,lD⟩⟩,by rw [cn]<;>rfl,rfl⟩
abbrev cR(a:an (BitVec 32)):ar B:=eO a 42 1 dh
theorem St(z:Int):IntKind.u32.wrap z=((BitVec.ofInt 32 z).toNat:Int):=by
  rw [BitVec.toNat_ofInt,Int.toNat_of_nonneg (Int.emod_nonneg _ (by decide))]
  simp [IntKind.wrap,IntKind.bits,IntKind.signed]
abbrev iz(z:Int):BitVec 32:=BitVec.ofInt 32 z
def n3(e:Nat→Int):Nat→Nat×List Int
  |0=>(0,[])
  |n+1=>if e (3+n)>0 then((n3 e n).1+2^n,(n3 e n).2++[e (3+n)])else n3 e n
theorem JX(e:Nat→Int):∀n,(n3 e n).1<2^n∧(n3 e n).2.length≤n
 |0=>⟨Nat.one_pos,Nat.le_refl _⟩
 |n+1=>by
  have h:=JX e n
  rw [n3];split
  ·refine⟨?_,?_⟩
   ·show(n3 e n).1+2^n<_;rw [Nat.pow_succ];omega
   show(_++[_]).length≤_;rw [List.length_append];simp;omega
  exact⟨by rw [Nat.pow_succ];omega,by omega⟩
def M4(e:Nat→Int):List (BitVec 32):=[iz (e 0),iz (e 1),iz (e 2),iz ((n3 e 8).1:Int)]++(n3 e 8).2.map iz
def M5(y:Nat→Int):List (BitVec 32):=[iz (y 0),iz (y 1)]
def M6(p:BitVec 32×List (Nat→Int)):List (BitVec 32):=[p.1,iz (p.2.length:Int)]++p.2.flatMap M5
def xU(c:ck)(e:Nat→Int):Nat→List Int
  |0=>[]
  |n+1=>if hasB (b6 c (e 1)) (n:Int)=true∧hasB (b6 c (e 0)) (n:Int)=false then xU c e n++[e (3+n)]else xU c e n
def US(e:Nat→Int):List (BitVec 32):=[iz (e 0),iz (e 1),iz (e 2),iz (e 19),iz (e 20),iz (e 21),iz (e 22)]
def M7(c:ck)(e:Nat→Int):List (BitVec 32):=US e++(if e 2=3 then xU c e 16 else []).map iz
def VG(c:ck):List (BitVec 32):=[iz 1380273457,iz c.cA,iz (c.aw.length:Int),iz (c.a9.length:Int),iz (c.bd.length:Int)]
def DW(c:ck):List (BitVec 32):=VG c++c.aw.flatMap M4++c.a9.flatMap M6++c.bd.flatMap (M7 c)
theorem ZO{e:Nat→Int}{k:Nat}(h:k<16):(dP e)[3+k*1]?=some (aa (e (3+k))):=by
  rcases(show k=0∨k=1∨k=2∨k=3∨k=4∨k=5∨k=6∨k=7∨k=8∨k=9∨k=10∨k=11∨k=12∨k=13∨k=14∨k=15 by omega)with rfl|rfl|rfl|rfl|rfl|rfl|rfl|rfl|rfl|rfl|rfl|rfl|rfl|rfl|rfl|rfl<;>rfl
theorem Xh{x:bZ}{m:Mode}{n:Int}(b5:0≤n)(h:x.a9.l[n.toNat]?=some m):b6 x.c n=m.aw:=by
  unfold b6;rw [if_neg (by omega),List.getElem?_map,h];rfl
theorem K3{n:Nat}{P:Nat→Bool}(h:(List.range n).find? P=none):∀j,j<n→P j=false:=by
  rw [List.find?_eq_none]at h
  intro j aI;have:=h j (List.mem_range.2 aI);simpa using this
structure uS(c:ck):Prop where
  cA:0≤c.cA∧c.cA≤8
  t:1≤c.aw.length∧c.aw.length≤16
  aG:∀e∈c.aw,y6 e c.cA
  m:1≤c.a9.length∧c.a9.length≤8
  dX:∀p∈c.a9,p.1&&&~~~(allM c.aw.length)=0#32∧se p.2
  e:c.bd.length≤24
  es:∀i e,c.bd[i]?=some e→mI c i e=true
theorem yW{c:ck}(h:(iY c).2=0):uS c:=by
 unfold iY at h
 split at h
 ·cases h
 rename_i ab
 split at h
 ·cases h
 rename_i ae
 split at h
 ·cases h
 rename_i av
 have av:=K3 av
 unfold rS at h
 split at h
 ·cases h
 rename_i aV
 split at h
 ·rename_i i bN
  have:=List.find?_some bN
  simp at this;exact absurd h this
 rename_i bN
 have bN:=K3 bN
 unfold vT at h
 split at h
 ·cases h
 rename_i c0
 split at h
 ·cases h
 rename_i fO
 have fO:=K3 fO
 refine⟨by omega,by omega,fun e he=>?_,by omega,fun p aC=>?_,by omega,fun i e he=>?_⟩
 ·obtain⟨i,af,bl⟩:=List.mem_iff_getElem.1 he
  have:=av i af
  rw [IS (List.getElem?_eq_some_iff.2 ⟨af,bl⟩)]at this
  simpa using this
 ·obtain⟨i,af,bl⟩:=List.mem_iff_getElem.1 aC
  have:=bN i af
  unfold vL at this
  rw [List.getElem?_eq_some_iff.2 ⟨af,bl⟩]at this
  simp only [Bool.not_eq_false',decide_eq_true_eq]at this
  split at this
  ·rename_i q;refine⟨q,?_⟩
   split at this
   ·assumption
   cases this
  cases this
 have:=fO i (List.getElem?_eq_some_iff.1 he).1
 rw [IT he]at this
 simpa using this
theorem ZP:∀n,n<17→(allM n).toNat<65536:=by decide+kernel
theorem abG{p a:BitVec 32}(h:p&&&~~~a=0#32):p.toNat≤a.toNat:=by
  have e:p&&&a=p:=xn fun i af=>by
    have:=congrArg (fun b=>hasB b (i:Int)) h
    simp only [qU]at this
    rw [show hasB 0#32 (i:Int)=false by rw [ph];simp]at this
    rw [uB]
    cases ab:hasB p (i:Int)<;>cases ae:hasB a (i:Int)<;>simp_all
  have cq:(p&&&a).toNat≤a.toNat:=by rw [BitVec.toNat_and];exact Nat.and_le_right
  rw [e]at cq;exact cq
theorem uS.Mj{c:ck}(h:uS c){p:BitVec 32×List (Nat→Int)}(aC:p∈c.a9):p.1.toNat<65536:=
  Nat.lt_of_le_of_lt (abG (h.dX p aC).1) (ZP _ (by have:=h.t;omega))
theorem NM{f:Nat→Int}{a b:Int}:∀{n:Nat},(pu f a b n).isSome=true→∀k,k<n→0≤f k∧(f k=0∨f k≤b)
 |0,_,k,ai=>by omega
 |n+1,h,k,ai=>by
  unfold pu at h
  split at h
  ·cases h
  rename_i s aH
  rcases Nat.lt_succ_iff_lt_or_eq.1 ai with q|rfl
  ·exact NM (by rw [aH];rfl) k q
  split at h
  ·rename_i z;exact⟨by omega,.inl z⟩
  split at h
  ·cases h
  rename_i z;refine⟨by omega,.inr ah⟩
theorem Yf{c:ck}(h:uS c)(m:Int):AV c m≤4:=by
  unfold AV;split
  · rename_i p aC;have:=(h.dX p (List.mem_of_getElem? aC)).2.1;omega
  · decide
structure Su(c:ck)(e:Nat→Int):Prop where
  eH:0≤e 0∧e 0<(c.a9.length:Int)
  cb:0≤e 1∧e 1<(c.a9.length:Int)
  cq:1≤e 2∧e 2≤3
  mp:∀k,k<4→0≤e (19+k)∧e (19+k)≤4
  of:LC e (fs c e)
theorem uS.aT{c:ck}(h:uS c){e:Nat→Int}(he:e∈c.bd):Su c e:=by
 obtain⟨i,af,bl⟩:=List.mem_iff_getElem.1 he
 have:=h.es i e (List.getElem?_eq_some_iff.2 ⟨af,bl⟩)
 unfold mI at this
 simp only [Bool.and_eq_true,decide_eq_true_eq]at this
 obtain⟨⟨⟨⟨ab,ae,av,aV,bN,c0,fO⟩,_⟩,gk⟩,hW⟩:=this
 refine⟨⟨ab,ae⟩,⟨av,aV⟩,⟨c0,fO⟩,fun k ai=>?_,hW⟩
 have:=NM gk k ai
 have bF:=Yf h (e 1)
 exact⟨this.1,by rcases this.2 with q|q<;>(show G8 e k≤4;omega)⟩
def gL(l:List (BitVec 32))(r:dr)(s:List (BitVec 32)):Prop:=r.bad=false∧r.at'≤l.length∧l.drop r.at'=s
theorem ad7{z:Int}(b5:0≤z)(ab:z<4294967296):((iz z).toNat:Int)=z:=by
  rw [←St,u32_in b5 (by omega)]
theorem gL.next{l:List (BitVec 32)}{r:dr}{w:BitVec 32}{s:List (BitVec 32)}{dS:Int}(h:gL l r (w::s))(hw:(w.toNat:Int)≤dS):(ew l r dS).1=(w.toNat:Int)∧gL l (ew l r dS).2 s:=by
 obtain⟨ab,ae,av⟩:=h
 have bl:l[r.at']?=some w:=by
  have:=congrArg (fun l=>l[0]?) av
  simpa [List.getElem?_drop]using this
 have ey:=(List.getElem?_eq_some_iff.1 bl).1
 have cL:r0 l r.at'=(w.toNat:Int):=by unfold r0;rw [bl]
 have aP:xG l r dS=false:=by
  unfold xG;rw [ab,cL,decide_eq_false ah,decide_eq_false ah];rfl
 unfold ew
 rw [aP]
 refine⟨cL,ab,ey,?_⟩
 show l.drop (r.at'+1)=s
 rw [←List.drop_drop,av];rfl
theorem gL.nY{l:List (BitVec 32)}{r:dr}{z:Int}{s:List (BitVec 32)}{dS:Int}(h:gL l r (iz z::s))(b5:0≤z)(ab:z≤dS)(hm:dS<4294967296):(ew l r dS).1=z∧gL l (ew l r dS).2 s:=by
  have cL:=ad7 b5 (show z<4294967296 by omega)
  have:=h.next (dS:=dS) (by rw [cL];exact ab)
  rw [cL]at this;exact this
def TD(e:Nat→Int):Prop:=∀i,11≤i→e i=0
def TE(e:Nat→Int):Prop:=∀i,23≤i→e i=0
def LG(y:Nat→Int):Prop:=∀i,2≤i→y i=0
theorem Qn(e:Nat→Int):∀(n i:Nat),(n3 e n).1.testBit i=(decide (i<n)&&decide (e (3+i)>0))
  |0,i=>by simp [n3]
  |n+1,i=>by
    have h:=Qn e n
    have aE:=(JX e n).1
    rw [n3]
    split
    · rename_i aC
      show(((n3 e n).1)+2^n).testBit i=_
      rcases Nat.lt_trichotomy i n with q|rfl|q
      · rw [Nat.add_comm,Nat.testBit_two_pow_add_gt q,h];simp [q,Nat.lt_succ_of_lt q]
      · rw [Nat.add_comm,Nat.testBit_two_pow_add_eq,h];simp [aC]
      · rw [Nat.testBit_lt_two_pow (Nat.lt_of_lt_of_le (show(n3 e n).1+2^n<2^(n+1)by rw [Nat.pow_succ];omega) (Nat.pow_le_pow_right (by decide) q))]
        simp;intro bR;omega
    · rename_i aC
      rw [h]
      by_cases q:i=n
      · subst q;simp [aC]
      · simp only [show(i<n+1)=(i<n)from propext (by omega)]
def wv(e:Nat→Int)(n:Nat):List Int:=((List.range n).filter fun i=>decide (e (3+i)>0)).map fun(i:Nat)=>(i:Int)
theorem Wb{p:Nat→Bool}{m n:Nat}(ahN:m≤n)(h:∀i,m≤i→i<n→p i=false):(List.range n).filter p=(List.range m).filter p:=by
  obtain⟨k,rfl⟩:=Nat.exists_eq_add_of_le ahN
  rw [List.range_add,List.filter_append]
  have:((List.range k).map (m+ ·)).filter p=[]:=by
    rw [List.filter_eq_nil_iff]
    intro x al
    obtain⟨j,aI,rfl⟩:=List.mem_map.1 al
    rw [h (m+j) (by omega) (by have:=List.mem_range.1 aI;omega)];decide
  rw [this,List.append_nil]
theorem Pc{b:BitVec 32}{p:Nat→Bool}{m:Nat}(hm:m≤32)(h:∀i:Nat,i<32→hasB b (i:Int)=(decide (i<m)&&p i)):bb b=((List.range m).filter p).map fun(i:Nat)=>(i:Int):=by
  unfold bb lV
  have cb:(List.range 32).filter (fun(i:Nat)=>hasB b (i:Int))=(List.range m).filter (fun(i:Nat)=>hasB b (i:Int)):=
    Wb hm (fun i ab ae=>by rw [h i ae];simp;intro;omega)
  have cq:(List.range m).filter (fun(i:Nat)=>hasB b (i:Int))=(List.range m).filter p:=
    List.filter_congr (fun i af=>by have:=List.mem_range.1 af;rw [h i (by omega)];simp [this])
  rw [←cq, ←cb]
theorem Yg{e:Nat→Int}:bb (BitVec.ofNat 32 (n3 e 8).1)=wv e 8:=by
 refine Pc b2 fun i af=>?_
 rw [ph,BitVec.getLsbD_ofNat,Qn];simp [af]
theorem abH(e:Nat→Int)(n:Nat):wv e (n+1)=if e (3+n)>0 then wv e n++[(n:Int)]else wv e n:=by
  unfold wv
  rw [List.range_succ,List.filter_append,List.map_append]
  split<;>simp_all
theorem Ja{l:List (BitVec 32)}{e:Nat→Int}(aR:∀i,i<8→e (3+i)≤4096):∀(n:Nat) (p:(Nat→Int)×dr) (s:List (BitVec 32)),n≤8→gL l p.2 ((n3 e n).2.map iz++s)→
  (∀i,((wv e n).foldl (v5 l) p).1 i=if 3≤i∧i<3+n∧e i>0 then e i else p.1 i)∧gL l ((wv e n).foldl (v5 l) p).2 s
 |0,p,s,_,h=>⟨fun i=>by rw [if_neg ah];rfl,h⟩
 |n+1,p,s,aP,h=>by
  rw [abH,n3]at*
  by_cases q:e (3+n)>0
  ·rw [if_pos q]at*
   simp only [List.map_append,List.append_assoc]at h
   obtain⟨ab,ae⟩:=Ja aR n p _ ah h
   rw [List.foldl_append]
   generalize (wv e n).foldl (v5 l) p=w4 at ab ae
   have av:=gL.nY (dS:=4096) ae ah (aR n ah) b2
   show(∀i,(v5 l w4 (n:Int)).1 i=_)∧gL l (v5 l w4 (n:Int)).2 s
   unfold v5
   refine⟨fun i=>?_,?_,av.2.2.1,av.2.2.2⟩
   ·show bz w4.1 (3+n) _ i=_
    by_cases Fb:i=3+n
    ·subst Fb;rw [e4,av.1,if_pos ⟨by omega,by omega,q⟩]
    rw [fG _ _ Fb,ab i]
    by_cases bR:3≤i∧i<3+n∧e i>0
    ·rw [if_pos bR,if_pos ⟨bR.1,by omega,bR.2.2⟩]
    rw [if_neg bR,if_neg (fun z=>bR ⟨z.1,by omega,z.2.2⟩)]
   show((ew l w4.2 4096).2.bad||((ew l w4.2 4096).1==0))=false
   rw [av.1,av.2.1];simp;omega
  rw [if_neg q]at*
  obtain⟨ab,ae⟩:=Ja aR n p s ah h
  refine⟨fun i=>?_,ae⟩
  rw [ab i]
  by_cases bR:3≤i∧i<3+n∧e i>0
  ·rw [if_pos bR,if_pos ⟨bR.1,by omega,bR.2.2⟩]
  rw [if_neg bR,if_neg (fun z=>bR ⟨z.1,(by rcases Nat.lt_or_eq_of_le (show i≤3+n by omega)with y|y;exact y;subst y;exact absurd z.2.2 q),z.2.2⟩)]
theorem Xi{l:List (BitVec 32)}{e:Nat→Int}{cA:Int}{r:dr}{s:List (BitVec 32)}(aL:y6 e cA)(a7:TD e)(h:gL l r (M4 e++s)):(pv l r).1=e∧gL l (pv l r).2 s:=by
 obtain⟨⟨ab,ae,av,aV,bN,c0⟩,a4⟩:=aL
 have aE:=(JX e 8).1
 unfold M4 at h
 simp only [List.cons_append,List.nil_append]at h
 have a1:=gL.nY (dS:=4096) h ah ah b2
 have a3:=gL.nY (dS:=4096) a1.2 ah ah b2
 have bI:=gL.nY (dS:=4096) a3.2 ah ah b2
 have cv:=gL.nY (dS:=255) bI.2 ah ah b2
 have hm:gm l r=BitVec.ofNat 32 (n3 e 8).1:=by
  show BitVec.ofNat 32 (ew l _ 255).1.toNat=_
  rw [cv.1];rfl
 have rE:pv l r=(wv e 8).foldl (v5 l) (g3 l r):=by
  unfold pv gx;rw [List.take_length,hm,Yg]
 have aR:∀i,i<8→e (3+i)≤4096:=fun i af=>by have:=a4 i af;unfold oG at this;omega
 have:=Ja aR 8 (g3 l r) s (Nat.le_refl _) cv.2
 rw [rE]
 refine⟨funext fun i=>?_,this.2⟩
 rw [this.1 i]
 split
 ·rfl
 rename_i q
 show Dg (ew l r 4096).1 _ _ i=_
 unfold Dg
 split
 ·rename_i z;rw [z,a1.1]
 split
 ·rename_i z;rw [z];exact a3.1
 split
 ·rename_i z;rw [z];exact bI.1
 by_cases z:i<11
 ·have:=a4 (i-3) ah
  unfold oG at this
  rw [show 3+(i-3)=i by omega]at this
  omega
 exact(a7 i ah).symm
theorem Pd{l:List (BitVec 32)}{r:dr}{s:List (BitVec 32)}{q:List (Nat→Int)}(bF:se q)(a7:∀y∈q,LG y)(h:gL l r (q.flatMap M5++s)):∀n,n≤q.length→(kL l r n).1=q.take n∧gL l (kL l r n).2 ((q.drop n).flatMap M5++s)
 |0,_=>⟨rfl,h⟩
 |n+1,aP=>by
  obtain⟨ab,ae⟩:=Pd bF a7 h n ah
  obtain⟨y,aZ⟩:=fp q n
  have hm:=List.mem_of_getElem? aZ
  obtain⟨e2,cD,kp,od⟩:=bF.2 y hm
  have aJ:q.drop n=y::q.drop (n+1):=by
   obtain⟨af,bl⟩:=List.getElem?_eq_some_iff.1 aZ
   rw [List.drop_eq_getElem_cons af,bl]
  rw [aJ,List.flatMap_cons]at ae
  have a1:=gL.nY (dS:=16) ae ah ah b2
  have a3:=gL.nY (dS:=3) a1.2 ah ah b2
  refine⟨?_,a3.2⟩
  show(kL l r n).1++[BX (zl l (kL l r n)).1 (Bb l (kL l r n)).1]=_
  rw [ab,List.take_add_one,aZ]
  congr 1
  show [_]=[y]
  congr 1
  funext i
  show BX (ew l _ 16).1 (ew l _ 3).1 i=y i
  rw [a1.1,a3.1]
  match i with
  |0=>rfl
  |1=>rfl
  |i+2=>exact(a7 y hm (i+2) ah).symm
theorem Xj{l:List (BitVec 32)}{r:dr}{s:List (BitVec 32)}{p:BitVec 32×List (Nat→Int)}(mT:p.1.toNat<65536)(bF:se p.2)(a7:∀y∈p.2,LG y)(h:gL l r (M6 p++s)):(pw l r).1=p∧gL l (pw l r).2 s:=by
 unfold M6 at h
 simp only [List.cons_append,List.nil_append]at h
 have a1:=gL.next (dS:=65535) h ah
 have aE:=bF.1
 have a3:=gL.nY (dS:=4) a1.2 ah ah b2
 have bI:=Pd bF a7 a3.2 p.2.length (Nat.le_refl _)
 have aP:(lf l r).1.toNat=p.2.length:=by show(ew l _ 4).1.toNat=_;rw [a3.1];rfl
 unfold pw
 rw [aP]
 refine⟨Prod.ext ?_ ?_,?_⟩
 ·show BitVec.ofNat 32 (ew l r 65535).1.toNat=p.1
  rw [a1.1];simp
 ·show(kL l _ _).1=p.2
  rw [bI.1,List.take_length]
 have:=bI.2
 rwa [List.drop_length]at this
theorem Pe{l:List (BitVec 32)}{e:Nat→Int}(bs:∀k,k<4→0≤e (19+k)∧e (19+k)≤4){p:(Nat→Int)×dr}:∀(n:Nat) (s:List (BitVec 32)),n≤4→gL l p.2 ((List.range n).map (fun k=>iz (e (19+k)))++s)→
  (∀i,(qj l p n).1 i=if 19≤i∧i<19+n then e i else p.1 i)∧gL l (qj l p n).2 s
 |0,s,_,h=>⟨fun i=>by rw [if_neg ah];rfl,h⟩
 |n+1,s,aP,h=>by
  rw [List.range_succ,List.map_append,List.append_assoc]at h
  obtain⟨ab,ae⟩:=Pe bs n _ ah h
  obtain⟨e2,cD⟩:=bs n ah
  have g:=gL.nY (dS:=4) (s:=s) ae e2 cD b2
  refine⟨fun i=>?_,g.2⟩
  show bz (qj l p n).1 (19+n) (ew l (qj l p n).2 4).1 i=_
  by_cases q:i=19+n
  ·subst q;rw [e4,g.1,if_pos ⟨by omega,by omega⟩]
  rw [fG _ _ q,ab i]
  by_cases bR:19≤i∧i<19+n
  ·rw [if_pos bR,if_pos ⟨bR.1,by omega⟩]
  rw [if_neg bR,if_neg (fun z=>bR ⟨z.1,by omega⟩)]
def sn(c:ck)(e:Nat→Int)(n:Nat):Bool:=hasB (b6 c (e 1)) (n:Int)&&!hasB (b6 c (e 0)) (n:Int)
def wx(c:ck)(e:Nat→Int)(n:Nat):List Int:=((List.range n).filter (sn c e)).map fun(i:Nat)=>(i:Int)
theorem abI(c:ck)(e:Nat→Int)(n:Nat):wx c e (n+1)=if sn c e n=true then wx c e n++[(n:Int)]else wx c e n:=by
  unfold wx
  rw [List.range_succ,List.filter_append,List.map_append]
  split<;>simp_all
theorem abJ(c:ck)(e:Nat→Int)(n:Nat):xU c e (n+1)=if sn c e n=true then xU c e n++[e (3+n)]else xU c e n:=by
  rw [xU]
  unfold sn
  by_cases q:hasB (b6 c (e 1)) (n:Int)=true∧hasB (b6 c (e 0)) (n:Int)=false
  · rw [if_pos q,if_pos (by simp [q.1,q.2])]
  · rw [if_neg q,if_neg (by intro z;simp at z;exact q z)]
theorem Xk{c:ck}(h:∀p∈c.a9,p.1.toNat<65536)(e:Nat→Int):bb (fs c e)=wx c e 16:=by
 refine Pc b2 fun i af=>?_
 by_cases q:i<16
 ·unfold fs sn;rw [qU];simp [q]
 have:hasB (fs c e) (i:Int)=false:=by
  rw [ph,BitVec.getLsbD]
  exact Nat.testBit_lt_two_pow (Nat.lt_of_lt_of_le (JU h e) (Nat.pow_le_pow_right b2 ah))
 rw [this];simp [q]
theorem Jr{l:List (BitVec 32)}{c:ck}{e:Nat→Int}(aR:∀i,i<16→0≤e (3+i)∧e (3+i)≤16384):∀(n:Nat) (p:(Nat→Int)×dr) (s:List (BitVec 32)),n≤16→gL l p.2 ((xU c e n).map iz++s)→
  (∀i,((wx c e n).foldl (wu l) p).1 i=if 3≤i∧i<3+n∧sn c e (i-3)=true then e i else p.1 i)∧gL l ((wx c e n).foldl (wu l) p).2 s
 |0,p,s,_,h=>⟨fun i=>by rw [if_neg ah];rfl,h⟩
 |n+1,p,s,aP,h=>by
  rw [abI]
  rw [abJ]at h
  by_cases q:sn c e n=true
  ·rw [if_pos q]at*
   simp only [List.map_append,List.append_assoc]at h
   obtain⟨ab,ae⟩:=Jr aR n p _ ah h
   rw [List.foldl_append]
   generalize (wx c e n).foldl (wu l) p=w4 at ab ae
   have av:=gL.nY (dS:=16384) ae (aR n ah).1 (aR n ah).2 b2
   show(∀i,(wu l w4 (n:Int)).1 i=_)∧gL l (wu l w4 (n:Int)).2 s
   unfold wu
   refine⟨fun i=>?_,av.2⟩
   show bz w4.1 (3+n) _ i=_
   by_cases Fb:i=3+n
   ·subst Fb;rw [e4,av.1,if_pos ⟨by omega,by omega,by rw [show 3+n-3=n by omega];exact q⟩]
   rw [fG _ _ Fb,ab i]
   by_cases bR:3≤i∧i<3+n∧sn c e (i-3)=true
   ·rw [if_pos bR,if_pos ⟨bR.1,by omega,bR.2.2⟩]
   rw [if_neg bR,if_neg (fun z=>bR ⟨z.1,by omega,z.2.2⟩)]
  rw [if_neg q]at*
  obtain⟨ab,ae⟩:=Jr aR n p s ah h
  refine⟨fun i=>?_,ae⟩
  rw [ab i]
  by_cases bR:3≤i∧i<3+n∧sn c e (i-3)=true
  ·rw [if_pos bR,if_pos ⟨bR.1,by omega,bR.2.2⟩]
  rw [if_neg bR,if_neg (fun z=>bR ⟨z.1,(by rcases Nat.lt_or_eq_of_le (show i≤3+n by omega)with y|y;exact y;subst y;rw [show 3+n-3=n by omega]at z;exact absurd z.2.2 q),z.2.2⟩)]
theorem Xl{l:List (BitVec 32)}{c:ck}{e:Nat→Int}{r:dr}{s:List (BitVec 32)}(hm:c.a9.length≤8)(mT:∀p∈c.a9,p.1.toNat<65536)(he:Su c e)(a7:TE e)(h:gL l r (M7 c e++s)):(nx c l r).1=e∧gL l (nx c l r).2 s:=by
 obtain⟨⟨dk,cI⟩,⟨ax,aK⟩,⟨c1,bW⟩,ahO,Ev⟩:=he
 unfold M7 at h
 rw [show US e=iz (e 0)::iz (e 1)::iz (e 2)::(List.range 4).map (fun k=>iz (e (19+k)))from rfl]at h
 simp only [List.cons_append,List.append_assoc]at h
 have a1:=gL.nY (dS:=8) h ah ah b2
 have a3:=gL.nY (dS:=8) a1.2 ah ah b2
 have bI:=gL.nY (dS:=3) a3.2 ah ah b2
 obtain⟨e2,cD⟩:=Pe (p:=qE l r) ahO 4 _ (Nat.le_refl _) bI.2
 have cn:∀i,(qE l r).1 i=Es (e 0) (e 1) (e 2) i:=fun i=>by
  show Es (ew l r 8).1 (ew l _ 8).1 (ew l _ 3).1 i=_
  rw [a1.1,a3.1,bI.1]
 have sy:∀i,(eb l r).1 i=if 19≤i∧i<23 then e i else Es (e 0) (e 1) (e 2) i:=fun i=>by rw [←cn];exact e2 i
 have b5:(eb l r).1 0=e 0:=sy 0
 have ab:(eb l r).1 1=e 1:=sy 1
 have ae:(eb l r).1 2=e 2:=sy 2
 have uc:fs c (eb l r).1=fs c e:=by unfold fs;rw [b5,ab]
 have aS:∀i,(3≤i∧i<19→e i=0)→e i=if 19≤i∧i<23 then e i else Es (e 0) (e 1) (e 2) i:=fun i q=>by
  split
  ·rfl
  match i with
  |0=>rfl
  |1=>rfl
  |2=>rfl
  |i+3=>
   show e (i+3)=0
   by_cases z:i+3<19
   ·exact q ⟨by omega,z⟩
   exact a7 _ ah
 unfold nx
 rw [ae]
 by_cases q:e 2=3
 ·rw [if_pos q]at cD⊢
  have h2:iw l (eb l r) (bb (fs c (eb l r).1)) (bb (fs c (eb l r).1)).length=(wx c e 16).foldl (wu l) (eb l r):=by
   unfold iw;rw [List.take_length,uc,Xk mT]
  rw [h2]
  obtain⟨f1,f2⟩:=Jr (c:=c) (e:=e) (fun i af=>⟨(Ev i af).1,(Ev i af).2.1⟩) 16 (eb l r) s (Nat.le_refl _) cD
  refine⟨funext fun i=>?_,f2⟩
  rw [f1 i]
  split
  ·rfl
  rename_i z
  rw [sy i]
  refine(aS i fun y=>?_).symm
  have:=Ev (i-3) ah
  unfold DU at this
  rw [show 3+(i-3)=i by omega]at this
  apply Classical.byContradiction;intro w
  have j2:=(this.2.2 ah).2
  refine z ⟨y.1,by omega,?_⟩
  unfold sn;rw [←qU];exact j2
 rw [if_neg q]at cD⊢
 refine⟨funext fun i=>?_,cD⟩
 rw [sy i]
 refine(aS i fun y=>?_).symm
 have:=Ev (i-3) ah
 unfold DU at this
 rw [show 3+(i-3)=i by omega]at this
 apply Classical.byContradiction;intro w
 exact q (this.2.2 ah).1
theorem Js{α:Type}{l:List (BitVec 32)}{r:dr}{s:List (BitVec 32)}{xs:List α}{fh:α→List (BitVec 32)}{f:dr→α×dr}{G:Nat→List α×dr}(b5:G 0=([],r))(aH:∀n,G (n+1)=((G n).1++[(f (G n).2).1],(f (G n).2).2))
  (bs:∀x∈xs,∀r s,gL l r (fh x++s)→(f r).1=x∧gL l (f r).2 s) (h:gL l r (xs.flatMap fh++s)):(G xs.length).1=xs∧gL l (G xs.length).2 s:=by
 have key:∀n,n≤xs.length→(G n).1=xs.take n∧gL l (G n).2 ((xs.drop n).flatMap fh++s):=by
  intro n
  induction n with
  |zero=>intro _;rw [b5];exact⟨rfl,h⟩
  |succ n ih=>
   intro aP
   obtain⟨ab,ae⟩:=ih ah
   obtain⟨y,aZ⟩:=fp xs n
   have aJ:xs.drop n=y::xs.drop (n+1):=by
    obtain⟨af,bl⟩:=List.getElem?_eq_some_iff.1 aZ
    rw [List.drop_eq_getElem_cons af,bl]
   rw [aJ,List.flatMap_cons,List.append_assoc]at ae
   obtain⟨e2,cD⟩:=bs y (List.mem_of_getElem? aZ) _ _ ae
   rw [aH]
   refine⟨?_,cD⟩
   show(G n).1++[(f (G n).2).1]=_
   rw [ab,e2,List.take_add_one,aZ];rfl
 have:=key xs.length (Nat.le_refl _)
 rw [List.take_length,List.drop_length]at this
 exact this
structure Can(c:ck):Prop where
  t:∀e∈c.aw,TD e
  q:∀p∈c.a9,∀y∈p.2,LG y
  e:∀e∈c.bd,TE e
theorem ZQ{c:ck}(h:(iY c).2=0)(a7:Can c):lg (DW c)=some c:=by
  have ai:=yW h
  generalize aE:DW c=l
  have bY:gL l yd l:=⟨rfl,Nat.zero_le _,rfl⟩
  have Mk:gL l yd (DW c):=by rw [aE];exact bY
  unfold DW VG at Mk
  simp only [List.cons_append,List.nil_append,List.append_assoc]at Mk
  have t:=ai.t;have m:=ai.m;have e:=ai.e
  have l7:=gL.nY (dS:=1380273457) Mk (by decide) (by decide) (by decide)
  have ahP:gL l (BF l) _:=⟨by show((ew l yd 1380273457).1 !=1380273457)=false;rw [l7.1];rfl,l7.2.2.1,l7.2.2.2⟩
  have a1:=gL.nY (dS:=8) ahP ai.cA.1 ai.cA.2 (by decide)
  have a3:=gL.nY (dS:=16) a1.2 (by omega) (by omega) (by decide)
  have bI:=gL.nY (dS:=8) a3.2 (by omega) (by omega) (by decide)
  have cv:=gL.nY (dS:=24) bI.2 (by omega) (by omega) (by decide)
  have hV:(qF l).1.toNat=c.aw.length:=by show(ew l _ 16).1.toNat=_;rw [a3.1];rfl
  have z9:(qG l).1.toNat=c.a9.length:=by show(ew l _ 8).1.toNat=_;rw [bI.1];rfl
  have aiM:(mS l).1.toNat=c.bd.length:=by show(ew l _ 24).1.toNat=_;rw [cv.1];rfl
  have T:=Js (G:=qk l (mS l).2) (f:=pv l) rfl (fun n=>rfl) (fun x al r s q=>Xi (ai.aG x al) (a7.t x al) q) cv.2
  rw [←hV]at T
  have M:=Js (G:=oH l (pU l).2) (f:=pw l) rfl (fun n=>rfl) (fun x al r s q=>Xj (ai.Mj al) (ai.dX x al).2 (a7.q x al) q) T.2
  rw [←z9]at M
  have eH:qH l=⟨c.cA,c.aw,c.a9,[]⟩:=by
    show(⟨(ew l (BF l) 8).1,(pU l).1,(pV l).1,[]⟩:ck)=_
    rw [a1.1,show(pU l).1=c.aw from T.1,show(pV l).1=c.a9 from M.1]
  have ahQ:∀r,nx (qH l) l r=nx c l r:=fun r=>by rw [eH];rfl
  have E:=Js (G:=ql (qH l) l (pV l).2) (f:=nx (qH l) l) (s:=[]) rfl (fun n=>rfl) (fun x al r s q=>by rw [ahQ];exact Xl m.2 (fun p aC=>ai.Mj aC) (ai.aT al) (a7.e x al) q) (by rw [List.append_nil];exact M.2)
  rw [←aiM]at E
  have bU:(qm l).1=c:=by
    show(⟨(ew l (BF l) 8).1,(pU l).1,(pV l).1,(BS l).1⟩:ck)=c
    rw [a1.1,show(pU l).1=c.aw from T.1,show(pV l).1=c.a9 from M.1,show(BS l).1=c.bd from E.1]
  obtain⟨e2,cD,kp⟩:gL l (qm l).2 []:=E.2
  have od:=List.drop_eq_nil_iff.1 kp
  unfold lg
  rw [if_neg (by rintro(q|q);rw [e2]at q;cases q;omega),bU,if_pos h]
abbrev hv(n:Int):Prop:=0≤n∧n≤1099511627776
abbrev ru(p:Int×Bool):Value:= .tuple #[aa p.1,.bool p.2]
def jd(a b:Int):Int×Bool:=if hv a∧hv b∧b≤1099511627776-a then(a+b,true)else(0,false)
def l1(a b:Int):Int×Bool:=if hv a∧hv b∧(b≠0→a≤Int.tdiv 1099511627776 b)then(a*b,true)else(0,false)
def oB(a b:Int):Int×Bool:=if hv a∧hv b then(max (a-b) 0,true)else(0,false)
def ju(a b:Int):Int×Bool:=if hv a∧hv b∧b≠0 then(if a=0 then(0,true)else(Int.tdiv (a-1) b+1,true))else(0,false)
theorem Gs{a b:Int}(a5:0≤a)(aR:1≤b):0≤Int.tdiv a b∧Int.tdiv a b≤a:=⟨Int.tdiv_nonneg a5 (by omega),by
  rw [Int.tdiv_eq_ediv_of_nonneg a5];exact Int.ediv_le_self _ a5⟩
theorem GR{a b:Int}(h:hv a∧hv b∧(b≠0→a≤Int.tdiv 1099511627776 b)):0≤a*b∧a*b≤1099511627776:=by
 obtain⟨⟨ab,ae⟩,⟨av,aV⟩,bN⟩:=h
 refine⟨Int.mul_nonneg ab av,?_⟩
 by_cases q:b=0
 ·subst q;simp
 have c0:=bN q
 rw [Int.tdiv_eq_ediv_of_nonneg b2]at c0
 exact Int.le_trans (Int.mul_le_mul_of_nonneg_right c0 av) (Int.ediv_mul_le _ q)
theorem ye(n:Int):a6 B 299 [aa n] [] (fun v S=>v= .bool (decide (hv n))∧S=[]):=by
 refine bM 9 Tryz.func299 fun ba bf=>?_
 refine cc ?_ ?_<;>intro ab
 ·exact aO ⟨congrArg Value.bool (by first|exact decide_eq_decide.2 (by constructor<;>intro h<;>omega)|exact(decide_eq_false ah).symm),rfl⟩
 exact aO ⟨congrArg Value.bool (by first|exact decide_eq_decide.2 (by constructor<;>intro h<;>omega)|exact(decide_eq_false ah).symm),rfl⟩
theorem LH(a b:Int):a6 B 290 [aa a,aa b] [] (fun v S=>v=ru (jd a b)∧S=[]):=by
 refine bM 23 Tryz.func290 fun ba bf=>?_
 refine gl (ye a) ?_
 refine cc ?_ ?_<;>intro ab
 ·first|rw [show jd a b=(0,false)from if_neg (by rintro⟨cy,bR,gD⟩;first|omega|(exact absurd cy ch)|(exact absurd bR ch)|(have nl:=gD ah;omega))]|rw [show jd a b=_ from if_pos ⟨by first|assumption|omega,by first|assumption|omega,by first|omega|(intro;omega)⟩]
  exact bJ
 refine gl (ye b) ?_
 refine cc ?_ ?_<;>intro ae
 ·first|rw [show jd a b=(0,false)from if_neg (by rintro⟨cy,bR,gD⟩;first|omega|(exact absurd cy ch)|(exact absurd bR ch)|(have nl:=gD ah;omega))]|rw [show jd a b=_ from if_pos ⟨by first|assumption|omega,by first|assumption|omega,by first|omega|(intro;omega)⟩]
  exact bJ
 refine bD ?_ ?_<;>intro av
 ·first|rw [show jd a b=(0,false)from if_neg (by rintro⟨cy,bR,gD⟩;first|omega|(exact absurd cy ch)|(exact absurd bR ch)|(have nl:=gD ah;omega))]|rw [show jd a b=_ from if_pos ⟨by first|assumption|omega,by first|assumption|omega,by first|omega|(intro;omega)⟩]
  exact bJ
 first|rw [show jd a b=(0,false)from if_neg (by rintro⟨cy,bR,gD⟩;first|omega|(exact absurd cy ch)|(exact absurd bR ch)|(have nl:=gD ah;omega))]|rw [show jd a b=_ from if_pos ⟨by first|assumption|omega,by first|assumption|omega,by first|omega|(intro;omega)⟩]
 exact bJ
theorem af8(a b:Int):a6 B 306 [aa a,aa b] [] (fun v S=>v=ru (l1 a b)∧S=[]):=by
 refine bM 27 Tryz.func306 fun ba bf=>?_
 refine gl (ye a) ?_
 refine cc ?_ ?_<;>intro ab
 ·first|rw [show l1 a b=(0,false)from if_neg (by rintro⟨cy,bR,gD⟩;first|omega|(exact absurd cy ch)|(exact absurd bR ch)|(have nl:=gD ah;omega))]|rw [show l1 a b=_ from if_pos ⟨by first|assumption|omega,by first|assumption|omega,by first|omega|(intro;omega)⟩]
  exact bJ
 refine gl (ye b) ?_
 refine cc ?_ ?_<;>intro ae
 ·first|rw [show l1 a b=(0,false)from if_neg (by rintro⟨cy,bR,gD⟩;first|omega|(exact absurd cy ch)|(exact absurd bR ch)|(have nl:=gD ah;omega))]|rw [show l1 a b=_ from if_pos ⟨by first|assumption|omega,by first|assumption|omega,by first|omega|(intro;omega)⟩]
  exact bJ
 refine cc ?_ ?_<;>intro av
 ·refine ap (pX (z:=Int.tdiv (1099511627776) (b)) rfl rfl ah (by have:=Gs (a:=1099511627776) (b:=b) ah ah;exact lP ah ah)) ?_
  refine bT ?_ ?_<;>intro aV
  ·first|rw [show l1 a b=(0,false)from if_neg (by rintro⟨cy,bR,gD⟩;first|omega|(exact absurd cy ch)|(exact absurd bR ch)|(have nl:=gD ah;omega))]|rw [show l1 a b=_ from if_pos ⟨by first|assumption|omega,by first|assumption|omega,by first|omega|(intro;omega)⟩]
   exact bJ
  refine ap (pp (m:=a) (n:=b) rfl rfl (by have:=GR (a:=a) (b:=b) ⟨by assumption,by assumption,fun q=>by first|assumption|(exfalso;omega)⟩;omega) (by have:=GR (a:=a) (b:=b) ⟨by assumption,by assumption,fun q=>by first|assumption|(exfalso;omega)⟩;omega)) ?_
  refine aj ?_
  first|rw [show l1 a b=(0,false)from if_neg (by rintro⟨cy,bR,gD⟩;first|omega|(exact absurd cy ch)|(exact absurd bR ch)|(have nl:=gD ah;omega))]|rw [show l1 a b=_ from if_pos ⟨by first|assumption|omega,by first|assumption|omega,by first|omega|(intro;omega)⟩]
  exact bJ
 refine ap (pp (m:=a) (n:=b) rfl rfl (by have:=GR (a:=a) (b:=b) ⟨by assumption,by assumption,fun q=>by first|assumption|(exfalso;omega)⟩;omega) (by have:=GR (a:=a) (b:=b) ⟨by assumption,by assumption,fun q=>by first|assumption|(exfalso;omega)⟩;omega)) ?_
 refine aj ?_
 first|rw [show l1 a b=(0,false)from if_neg (by rintro⟨cy,bR,gD⟩;first|omega|(exact absurd cy ch)|(exact absurd bR ch)|(have nl:=gD ah;omega))]|rw [show l1 a b=_ from if_pos ⟨by first|assumption|omega,by first|assumption|omega,by first|omega|(intro;omega)⟩]
 exact bJ
theorem ad8(a b:Int):a6 B 307 [aa a,aa b] [] (fun v S=>v=ru (oB a b)∧S=[]):=by
 refine bM 18 Tryz.func307 fun ba bf=>?_
 refine gl (ye a) ?_
 refine cc ?_ ?_<;>intro ab
 ·first|rw [show oB a b=(0,false)from if_neg (by rintro⟨cy,bR⟩;first|(exact absurd cy ch)|(exact absurd bR ch))]|rw [show oB a b=_ from if_pos ⟨by assumption,by assumption⟩]
  exact bJ
 refine gl (ye b) ?_
 refine bD ?_ ?_<;>intro ae
 ·first|rw [show oB a b=(0,false)from if_neg (by rintro⟨cy,bR⟩;first|(exact absurd cy ch)|(exact absurd bR ch))]|rw [show oB a b=_ from if_pos ⟨by assumption,by assumption⟩]
  exact bJ
 first|rw [show oB a b=(0,false)from if_neg (by rintro⟨cy,bR⟩;first|(exact absurd cy ch)|(exact absurd bR ch))]|rw [show oB a b=_ from if_pos ⟨by assumption,by assumption⟩]
 exact bJ
theorem ahR(a b:Int):a6 B 308 [aa a,aa b] [] (fun v S=>v=ru (ju a b)∧S=[]):=by
 refine bM 25 Tryz.func308 fun ba bf=>?_
 refine gl (ye a) ?_
 refine cc ?_ ?_<;>intro ab
 ·first|rw [show ju a b=(0,false)from if_neg (show¬(hv a∧hv b∧b≠0)by rintro⟨cy,bR,gD⟩;first|(exact absurd cy ch)|(exact absurd bR ch)|omega)]|rw [show ju a b=(0,true)from by unfold ju;rw [if_pos (show hv a∧hv b∧b≠0 from⟨by assumption,by assumption,by omega⟩),if_pos ch]]|rw [show ju a b=(Int.tdiv (a-1) b+1,true)from by unfold ju;rw [if_pos (show hv a∧hv b∧b≠0 from⟨by assumption,by assumption,by omega⟩),if_neg ch]]
  exact bJ
 refine gl (ye b) ?_
 refine cc ?_ ?_<;>intro ae
 ·first|rw [show ju a b=(0,false)from if_neg (show¬(hv a∧hv b∧b≠0)by rintro⟨cy,bR,gD⟩;first|(exact absurd cy ch)|(exact absurd bR ch)|omega)]|rw [show ju a b=(0,true)from by unfold ju;rw [if_pos (show hv a∧hv b∧b≠0 from⟨by assumption,by assumption,by omega⟩),if_pos ch]]|rw [show ju a b=(Int.tdiv (a-1) b+1,true)from by unfold ju;rw [if_pos (show hv a∧hv b∧b≠0 from⟨by assumption,by assumption,by omega⟩),if_neg ch]]
  exact bJ
 refine bD ?_ ?_<;>intro av
 ·first|rw [show ju a b=(0,false)from if_neg (show¬(hv a∧hv b∧b≠0)by rintro⟨cy,bR,gD⟩;first|(exact absurd cy ch)|(exact absurd bR ch)|omega)]|rw [show ju a b=(0,true)from by unfold ju;rw [if_pos (show hv a∧hv b∧b≠0 from⟨by assumption,by assumption,by omega⟩),if_pos ch]]|rw [show ju a b=(Int.tdiv (a-1) b+1,true)from by unfold ju;rw [if_pos (show hv a∧hv b∧b≠0 from⟨by assumption,by assumption,by omega⟩),if_neg ch]]
  exact bJ
 refine bD ?_ ?_<;>intro aV
 ·first|rw [show ju a b=(0,false)from if_neg (show¬(hv a∧hv b∧b≠0)by rintro⟨cy,bR,gD⟩;first|(exact absurd cy ch)|(exact absurd bR ch)|omega)]|rw [show ju a b=(0,true)from by unfold ju;rw [if_pos (show hv a∧hv b∧b≠0 from⟨by assumption,by assumption,by omega⟩),if_pos ch]]|rw [show ju a b=(Int.tdiv (a-1) b+1,true)from by unfold ju;rw [if_pos (show hv a∧hv b∧b≠0 from⟨by assumption,by assumption,by omega⟩),if_neg ch]]
  exact bJ
 refine ap (pX (z:=Int.tdiv (a-1) (b)) rfl rfl ah (by have:=Gs (a:=a-1) (b:=b) ah ah;exact lP ah ah)) ?_
 refine ap (mE (m:=Int.tdiv (a-1) b) (n:=1) rfl rfl (by have:=Gs (a:=a-1) (b:=b) ah ah;omega) (by have:=Gs (a:=a-1) (b:=b) ah ah;omega)) ?_
 refine aj ?_
 first|rw [show ju a b=(0,false)from if_neg (show¬(hv a∧hv b∧b≠0)by rintro⟨cy,bR,gD⟩;first|(exact absurd cy ch)|(exact absurd bR ch)|omega)]|rw [show ju a b=(0,true)from by unfold ju;rw [if_pos (show hv a∧hv b∧b≠0 from⟨by assumption,by assumption,by omega⟩),if_pos ch]]|rw [show ju a b=(Int.tdiv (a-1) b+1,true)from by unfold ju;rw [if_pos (show hv a∧hv b∧b≠0 from⟨by assumption,by assumption,by omega⟩),if_neg ch]]
 exact bJ
abbrev h6(t:Nat→Int):List Value:=[aa (t 0),aa (t 1),aa (t 2),aa (t 3)]
def me(t:Nat→Int)(n:Int):Int×Bool:=if(oB n (t 2)).2=true then ju (oB n (t 2)).1 (t 0)else(0,false)
def r1(t:Nat→Int)(n:Int):Int×Bool:=if(me t n).2=true then(if(l1 (me t n).1 (t 1)).2=true then jd (l1 (me t n).1 (t 1)).1 (t 3)else(0,false))else(0,false)
def ms(n:Int)(t:Nat→Int):Int:=if(r1 t n).2=true then(r1 t n).1 else-1
def ls(e:Nat→Int)(o:Int):Nat→Int
  |0=>e 0
  |1=>e 2
  |2=>o
  |_=>0
def u4(p:Int×Bool)(x:Int):Int×Bool:=if p.2=true then jd p.1 x else p
def mg(l:List Int)(i:Nat):Int×Bool:=(l.take i).foldl u4 (0,true)
def zm(l:List Int):Int×Bool:=l.foldl u4 (0,true)
theorem Rv{l:List Int}{i:Nat}{x:Int}(h:l[i]?=some x):mg l (i+1)=u4 (mg l i) x:=by
  unfold mg;rw [List.take_add_one,h,List.foldl_append];rfl
theorem Pf(l:List Int):mg l l.length=zm l:=by unfold mg zm;rw [List.take_length]
theorem abK{a b:Int}(h:(jd a b).2=false):jd a b=(0,false):=by
  unfold jd at*;split at h
  · cases h
  · rename_i q;rw [if_neg q]
theorem Sv(l:List Int):l.foldl u4 (0,false)=(0,false):=by
  induction l with
  |nil=>rfl
  |cons x l ih=>exact ih
theorem abL{l:List Int}{i:Nat}(h:(mg l i).2=true){x:Int}(al:l[i]?=some x)(bs:(jd (mg l i).1 x).2=false):zm l=(0,false):=by
  have ab:mg l (i+1)=(0,false):=by rw [Rv al];unfold u4;rw [if_pos h,abK bs]
  unfold zm
  rw [←List.take_append_drop (i+1) l,List.foldl_append,show(l.take (i+1)).foldl u4 (0,true)=(0,false)from ab]
  exact Sv _
theorem abM{l:List Int}{i:Nat}(h:(mg l i).2=true){x:Int}(al:l[i]?=some x)(bs:(jd (mg l i).1 x).2=true):(mg l (i+1)).2=true∧(mg l (i+1)).1=(jd (mg l i).1 x).1:=by
  rw [Rv al];unfold u4;rw [if_pos h];exact⟨bs,rfl⟩
def nD(n:Int)(l:List (Nat→Int)):Int×Bool:=zm (l.map (ms n))
theorem ad9(t:Nat→Int)(n:Int):a6 B 305 [.agg (h6 t).toArray,aa n] [] (fun v S=>v=ru (me t n)∧S=[]):=by
 refine bM 23 Tryz.func305 fun ba bf=>?_
 refine fX (aF:=h6 t) fun ax=>?_
 refine gj (ad8 n (t 2)) ?_
 refine cp ?_
 refine bp (aa (oB n (t 2)).1) ?_
 refine bp (.bool (oB n (t 2)).2) ?_
 refine bT ?_ ?_<;>intro ab
 ·rw [show me t n=(0,false)from by unfold me;rw [if_neg (by rw [ab];decide)]]
  exact bJ
 refine gj (ahR (oB n (t 2)).1 (t 0)) ?_
 refine bp (aa (ju (oB n (t 2)).1 (t 0)).1) ?_
 refine bp (.bool (ju (oB n (t 2)).1 (t 0)).2) ?_
 refine aj ?_
 rw [show me t n=ju (oB n (t 2)).1 (t 0)from by unfold me;rw [if_pos ab]]
 exact bJ
theorem aea(t:Nat→Int)(n:Int):a6 B 303 [.agg (h6 t).toArray,aa n] [] (fun v S=>v=ru (r1 t n)∧S=[]):=by
 refine bM 32 Tryz.func303 fun ba bf=>?_
 refine eD (aF:=h6 t) fun ax=>?_
 refine gN ?_
 refine du (h6 t) ?_
 refine aj ?_
 refine gj (ad9 t n) ?_
 refine cp ?_
 refine bp (aa (me t n).1) ?_
 refine bp (.bool (me t n).2) ?_
 refine bT ?_ ?_<;>intro ab
 ·rw [show r1 t n=(0,false)from by unfold r1;rw [if_neg (by rw [ab];decide)]]
  exact bJ
 refine gj (af8 (me t n).1 (t 1)) ?_
 refine cp ?_
 refine bp (aa (l1 (me t n).1 (t 1)).1) ?_
 refine bp (.bool (l1 (me t n).1 (t 1)).2) ?_
 refine bT ?_ ?_<;>intro ae
 ·rw [show r1 t n=(0,false)from by unfold r1;rw [if_pos ab,if_neg (by rw [ae];decide)]]
  exact bJ
 refine gj (LH (l1 (me t n).1 (t 1)).1 (t 3)) ?_
 refine bp (aa (jd (l1 (me t n).1 (t 1)).1 (t 3)).1) ?_
 refine bp (.bool (jd (l1 (me t n).1 (t 1)).1 (t 3)).2) ?_
 refine aj ?_
 rw [show r1 t n=jd (l1 (me t n).1 (t 1)).1 (t 3)from by unfold r1;rw [if_pos ab,if_pos ae]]
 exact bJ
theorem UT(e:Nat→Int)(o:Int):a6 B 277 [.agg (dd e).toArray,aa o] [] (fun v S=>v= .agg (h6 (ls e o)).toArray∧S=[]):=by
 refine bM 11 Tryz.func277 fun ba bf=>?_
 refine eD (aF:=dd e) fun ax=>?_
 refine de fun aK=>?_
 refine g2 ?_
 exact bJ
theorem abN(n:Int)(a:an (Nat→Int)):a6 B 298 [aa n,az a] [] (fun v S=>∃ek cY:Nat,v= .func (.func 302) #[] #[ag ek,ag cY]∧S=[U ek [az a] 394,U cY [aa n] 3]):=by
 refine bM 6 Tryz.func298 fun ba bf=>?_
 refine eD fun ax=>?_
 refine fX fun aK=>?_
 exact aO ⟨aK,ax,rfl,rfl⟩
theorem Yh(ek cY:Nat)(n:Int)(a:an (Nat→Int))(a5:dI K a.bu (a.l.flatMap h6)):n9 Tryz.prog B 302 [ag ek,ag cY] [U ek [az a] 394,U cY [aa n] 3,K] ((a.l.map (ms n)).map fun z=>[.int .i64 z]):=by
 intro cr J hc cV g7 aZ
 change di _ _ _ _ (U ek [az a] 394::U cY [aa n] 3::K::cV) _
 refine bM 27 Tryz.func302 fun ba bf=>?_
 refine ds (α:=Nat×List (ar B)) (fun⟨i,aU⟩=>i≤a.l.length∧J i aU) (fun⟨i,aU⟩=>[(10,aa (i:Int)),(0,.func (.yield cr) #[] #[]),(1,ag ek),(2,ag cY),(8,az a),(9,aa (a.l.length:Int))]) (fun⟨i,aU⟩=>U ek [az a] 394::U cY [aa n] 3::K::aU) (fun⟨i,aU⟩=>a.l.length-i) (0,cV) ?_ dq aA ?_
 ·exact⟨Nat.zero_le _,g7⟩
 rintro⟨i,aU⟩ ⟨af,bo⟩
 dsimp only
 have has:=a.small
 refine bT ?_ ?_<;>intro ab
 ·obtain⟨t,bl⟩:=fp a.l i
  have ey:i<(a.l.map (ms n)).length:=by rw [List.length_map];omega
  have fa:=aZ i aU (by rw [List.length_map];exact ey) bo
  rw [lp (f:=fun z=>[Value.int .i64 z]) (show(a.l.map (ms n))[i]?=some (ms n t)by rw [List.getElem?_map,bl];rfl)]at fa
  refine aj ?_
  refine ap (jV (a2:=h6) (aN:=4) (i:=i) (fun _=>rfl) rfl au a5 ad bl) ?_
  refine fe fun ax=>?_
  refine hi ?_
  refine du (h6 t) ?_
  refine aj ?_
  refine gj (aea t n) ?_
  refine cp ?_
  refine bp (aa (r1 t n).1) ?_
  refine bp (.bool (r1 t n).2) ?_
  refine bT ?_ ?_<;>intro ae
  ·rw [show ms n t= -1 from if_neg (by rw [ae];decide)]at fa
   refine yN (L:=U ek [az a] 394::U cY [aa n] 3::K::aU) aA ?_
   refine iq (own:=[U ek [az a] 394,U cY [aa n] 3,K]) (hM:=aU) .no rfl rfl fa rfl ?_
   rintro jP bh aC
   refine cx ?_
   refine bD ?_ ?_<;>intro av
   ·obtain⟨z,_⟩|⟨_,aC⟩:=aC
    ·rw [z]at av;cases av
    exact⟨U ek [az a] 394::U cY [aa n] 3::K::bh,⟨bh,rfl,.inr ⟨i,by rw [List.length_map];exact ey,aC⟩⟩,_,aA⟩
   obtain⟨_,aC⟩|⟨z,_⟩:=aC
   rotate_left
   ·rw [z]at av;cases av
   refine aj ?_
   refine cE (i+1,bh) ?_
   (try dsimp only);exact⟨by omega,aC⟩
  rw [show ms n t=(r1 t n).1 from if_pos ae]at fa
  refine yN (L:=U ek [az a] 394::U cY [aa n] 3::K::aU) aA ?_
  refine iq (own:=[U ek [az a] 394,U cY [aa n] 3,K]) (hM:=aU) .no rfl rfl fa rfl ?_
  rintro jP bh aC
  refine cx ?_
  refine bD ?_ ?_<;>intro aV
  ·obtain⟨z,_⟩|⟨_,aC⟩:=aC
   ·rw [z]at aV;cases aV
   exact⟨U ek [az a] 394::U cY [aa n] 3::K::bh,⟨bh,rfl,.inr ⟨i,by rw [List.length_map];exact ey,aC⟩⟩,_,aA⟩
  obtain⟨_,aC⟩|⟨z,_⟩:=aC
  rotate_left
  ·rw [z]at aV;cases aV
  refine aj ?_
  refine cE (i+1,bh) ?_
  (try dsimp only);exact⟨by omega,aC⟩
 obtain rfl:i=a.l.length:=by omega
 exact⟨U ek [az a] 394::U cY [aa n] 3::K::aU,⟨aU,rfl,.inl (by rw [List.length_map,List.length_map];exact bo)⟩,_,aA⟩
theorem af9(ek cY:Nat)(n:Int)(a:an (Nat→Int))(a5:dI K a.bu (a.l.flatMap h6)):a6 B 297 [.func (.func 302) #[] #[ag ek,ag cY]] [U ek [az a] 394,U cY [aa n] 3,K] (fun v S=>v=ru (nD n a.l)∧S=[K]):=by
 refine bM 20 Tryz.func297 fun ba bf=>?_
 refine fe fun ax=>?_
 refine de fun aK=>?_
 refine de fun bq=>?_
 rw [show(U bq [ak] 3:ar B)=U bq [aa (mg (a.l.map (ms n)) 0).1] 3 from rfl]
 refine kS (own:=[U ek [az a] 394,U cY [aa n] 3,K]) (aU:=[U ax [ak] 3,U aK [.bool false] 4,U bq [aa (mg (a.l.map (ms n)) 0).1] 3]) rfl fF (Yh ek cY n a a5) (fun i S=>(mg (a.l.map (ms n)) i).2=true∧S=[U ax [ak] 3,U aK [.bool false] 4,U bq [aa (mg (a.l.map (ms n)) i).1] 3]) (fun c i S=>c= .ret∧nD n a.l=(0,false)∧S=[U ax [ak] 3,U aK [.bool false] 4]) (show Take ([U ek [az a] 394,U cY [aa n] 3,K,U ax [ak] 3,U aK [.bool false] 4,U bq [aa (mg (a.l.map (ms n)) 0).1] 3]) _ _ from aA) (⟨rfl,rfl⟩) rfl (fun x al=>by obtain⟨y,_,rfl⟩:=List.mem_map.1 al;rfl) ?_ ?_ ?_
 ·intro cr rec j3 i bh af bo
  obtain⟨fo,rfl⟩:=bo
  rw [List.length_map]at af
  obtain⟨x,b0⟩:∃x,(a.l.map (ms n))[i]?=some x:=⟨_,List.getElem?_eq_getElem af⟩
  rw [lp (f:=fun z=>[Value.int .i64 z]) b0]
  refine aj ?_
  refine⟨rfl,_,_,.cons au (Take.self _),fun hz=>?_⟩
  refine aj ?_
  refine gj (LH (mg (a.l.map (ms n)) i).1 x) ?_
  refine cp ?_
  refine bp (aa (jd (mg (a.l.map (ms n)) i).1 x).1) ?_
  refine bp (.bool (jd (mg (a.l.map (ms n)) i).1 x).2) ?_
  refine bT ?_ ?_<;>intro ab
  ·exact⟨[U ax [ak] 3,U aK [.bool false] 4],_,aA,⟨rfl,abL fo b0 ab,rfl⟩⟩
  obtain⟨oQ,hJ⟩:=abM fo b0 ab
  rw [←hJ]
  exact⟨[U ax [ak] 3,U aK [.bool false] 4,U bq [aa (mg (a.l.map (ms n)) (i+1)).1] 3],_,aA,⟨oQ,rfl⟩⟩
 ·intro cG bh bo
  obtain⟨fo,rfl⟩:=bo
  rw [List.length_map,Pf]
  rw [List.length_map,Pf]at fo
  refine cx ?_
  refine dA (show Take [dl cG] _ _ from aA) (AB rfl rfl rfl au au ad ad) ?_
  rw [show nD n a.l=((zm (a.l.map (ms n))).1,true)from Prod.ext rfl fo]
  exact bJ
 intro cG c i bh af h
 obtain⟨rfl,ahS,rfl⟩:=h
 refine cx ?_
 refine dA (show Take [dl cG] _ _ from aA) (AB rfl rfl rfl au au ad ad) ?_
 rw [ahS]
 exact bJ
theorem aga(n:Int)(a:an (Nat→Int))(a5:dI K a.bu (a.l.flatMap h6)):a6 B 289 [aa n,az a] [K] (fun v S=>v=ru (nD n a.l)∧S=[K]):=by
 refine bM 12 Tryz.func289 fun ba bf=>?_
 refine cm (abN n a) ?_
 rintro _ _ ⟨ek,cY,rfl,rfl⟩
 refine bP ?_
 refine eR (af9 ek cY n a a5) ?_
 refine bp (aa (nD n a.l).1) ?_
 refine bp (.bool (nD n a.l).2) ?_
 exact oi
def sR(own n:Int)(l:List (Nat→Int)):Int×Bool:=if(nD n l).2=true then jd own (nD n l).1 else(0,false)
def yf(own dS:Int)(l:List (Nat→Int)):Nat→Int→Int×Bool
  |0,_=>(0,false)
  |f+1,w=>if w≤dS then(if(sR own w l).2=true then(if(sR own w l).1≤w then(w,true)else yf own dS l f (sR own w l).1)else(0,false))else(0,false)
def nu(own dS:Int)(l:List (Nat→Int)):Int×Bool:=if own<0 then(0,false)else yf own dS l (dS-max own 1+1).toNat (max own 1)
theorem ZR{own dS:Int}{l:List (Nat→Int)}{w:Int}(h:dS<w):∀f,yf own dS l f w=(0,false)
  |0=>rfl
  |f+1=>by rw [yf,if_neg (by omega)]
theorem aeb{own dS:Int}{l:List (Nat→Int)}{w:Int}{f:Nat}(h:w≤dS)(bs:(dS-w+1).toNat≤f):∃MU,f=MU+1:=⟨f-1,by omega⟩
theorem aec(own n:Int)(a:an (Nat→Int))(a5:dI K a.bu (a.l.flatMap h6)):a6 B 276 [aa own,aa n,az a] [K] (fun v S=>v=ru (sR own n a.l)∧S=[K]):=by
 refine bM 23 Tryz.func276 fun ba bf=>?_
 refine eR (aga n a a5) ?_
 refine cp ?_
 refine bp (aa (nD n a.l).1) ?_
 refine bp (.bool (nD n a.l).2) ?_
 refine bT ?_ ?_<;>intro ab
 ·rw [show sR own n a.l=(0,false)from by unfold sR;rw [if_neg (by rw [ab];decide)]]
  exact bJ
 refine gj (LH own (nD n a.l).1) ?_
 refine bp (aa (jd own (nD n a.l).1).1) ?_
 refine bp (.bool (jd own (nD n a.l).1).2) ?_
 refine aj ?_
 rw [show sR own n a.l=jd own (nD n a.l).1 from by unfold sR;rw [if_pos ab]]
 exact bJ
theorem KC(own dS:Int)(a:an (Nat→Int))(a5:dI K a.bu (a.l.flatMap h6)):a6 B 240 [aa own,aa dS,az a] [K] (fun v S=>v=ru (nu own dS a.l)∧S=[K]):=by
 refine bM 32 Tryz.func240 fun ba bf=>?_
 refine bD ?_ ?_<;>intro ab
 ·rw [show nu own dS a.l=(0,false)from by unfold nu;rw [if_pos ah]]
  exact bJ
 refine ds (α:=Nat×Int) (fun⟨f0,w⟩=>nu own dS a.l=yf own dS a.l f0 w∧(dS-w+1).toNat≤f0) (fun⟨f0,w⟩=>[(8,aa w),(0,aa own),(1,aa dS),(2,az a)]) (fun⟨f0,w⟩=>[K]) (fun⟨f0,w⟩=>(dS-w+1).toNat) ((dS-max own 1+1).toNat,max own 1) ?_ dq aA ?_
 ·exact⟨if_neg ah,Nat.le_refl _⟩
 rintro⟨f0,w⟩ ⟨aE,bs⟩
 dsimp only
 refine bT ?_ ?_<;>intro ae
 ·obtain⟨f,rfl⟩:=aeb (own:=own) (l:=a.l) (f:=f0) ae bs
  rw [yf,if_pos ae]at aE
  refine aj ?_
  refine eR (aec own w a a5) ?_
  refine cp ?_
  refine bp (aa (sR own w a.l).1) ?_
  refine bp (.bool (sR own w a.l).2) ?_
  refine bT ?_ ?_<;>intro av
  ·rw [aE,if_neg (by rw [av];decide)]
   exact bJ
  refine bD ?_ ?_<;>intro aV
  ·rw [aE,if_pos av,if_pos ah]
   exact bJ
  refine cE (f,(sR own w a.l).1) ?_
  (try dsimp only);exact⟨by rw [aE,if_pos av,if_neg ah],by omega⟩
 rw [aE,ZR ah]
 exact bJ
abbrev rf(a:an (Nat→Int)):ar B:=eO a 398 4 h6
def ht(aG:List (Nat→Int))(l:List Int):List (Nat→Int):=l.filterMap fun k=>aG[k.toNat]?
def Dh(aG:List (Nat→Int))(s:BitVec 32):List (Nat→Int):=(ht aG (bb s)).map fun e=>ls e 0
theorem AG{aG:List (Nat→Int)}{l:List Int}{j:Nat}{k:Int}(h:l[j]?=some k):ht aG (l.take (j+1))=ht aG (l.take j)++(aG[k.toNat]?).toList:=by
  unfold ht;rw [List.take_add_one,h,List.filterMap_append]
  congr 1
theorem Yi(aG:List (Nat→Int))(l:List Int):(ht aG l).length≤l.length:=List.length_filterMap_le _ _
def mM(r:Nat)(l:List (Nat→Int)):Int:=l.foldl (fun m e=>max m (e (3+r))) 0
theorem abO(r:Nat)(l:List (Nat→Int))(e:Nat→Int):mM r (l++[e])=max (mM r l) (e (3+r)):=by unfold mM;rw [List.foldl_append];rfl
theorem Yj{aG:List (Nat→Int)}{l:List Int}{e:Nat→Int}(h:e∈ht aG l):e∈aG:=by
  obtain⟨k,_,ai⟩:=List.mem_filterMap.1 h;exact List.mem_of_getElem? ai
abbrev AW(aG:List (Nat→Int)):Prop:=∀e∈aG,∀r,r<8→0≤e (3+r)∧e (3+r)≤4096
theorem foldl_max(r:Nat)(a4:r<8):∀(l:List (Nat→Int)) (m:Int),AW l→0≤m∧m≤4096→0≤l.foldl (fun m e=>max m (e (3+r))) m∧l.foldl (fun m e=>max m (e (3+r))) m≤4096
  |[],m,_,hm=>hm
  |e::l,m,h,hm=>by
    have:=h e (by simp) r a4
    have ae:0≤max m (e (3+r))∧max m (e (3+r))≤4096:=by omega
    exact foldl_max r a4 l _ (fun x al=>h x (by simp [al])) ae
theorem Qo{aG:List (Nat→Int)}{l:List Int}{r:Nat}(a4:r<8)(h:AW aG):0≤mM r (ht aG l)∧mM r (ht aG l)≤4096:=foldl_max r a4 _ 0 (fun e he=>h e (Yj he)) (by omega)
theorem CT{t:Nat→Int}{i k:Int}:∀{n:Nat},n≤8→hasB (iu t i n) k=true→k<n
  |0,_,h=>by simp [iu,hasB]at h
  |n+1,aP,h=>by
    rw [iu]at h;split at h
    · rw [ow,Bool.or_eq_true]at h
      rcases h with h|h
      · have:=CT (by omega) h;omega
      · rw [pW]at h;simp at h;omega
    · have:=CT (by omega) h;omega
def nE(aG:List (Nat→Int))(s:BitVec 32)(z:Int)(l:List Int):Int:=l.foldl (fun m r=>m+mM r.toNat (ht aG (bb (kb s z)))) 0
def lT(aG:List (Nat→Int))(s:BitVec 32)(t:Nat→Int)(z:Int):Int:=nE aG s z (bb (iu t z 8))
theorem Rw{aG:List (Nat→Int)}{s:BitVec 32}{z r:Int}{l:List Int}{i:Nat}(h:l[i]?=some r):nE aG s z (l.take (i+1))=nE aG s z (l.take i)+mM r.toNat (ht aG (bb (kb s z))):=by
  unfold nE;rw [List.take_add_one,h,List.foldl_append];rfl
theorem JY{aG:List (Nat→Int)}{s:BitVec 32}{z:Int}(h:AW aG){l:List Int}(aE:∀r∈l,0≤r∧r<8):∀i,0≤nE aG s z (l.take i)∧nE aG s z (l.take i)≤4096*(i:Int)
  |0=>⟨Int.le_refl _,Int.le_refl _⟩
  |i+1=>by
    have ih:=JY h aE i (s:=s) (z:=z)
    cases bl:l[i]? with
    |none=>
      have:l.take (i+1)=l.take i:=by rw [List.take_add_one,bl];simp
      rw [this];omega
    |some r=>
      rw [Rw bl]
      have:=aE r (List.mem_of_getElem? bl)
      have:=Qo (l:=bb (kb s z)) (r:=r.toNat) (by omega) h
      omega
theorem Oa{aG:List (Nat→Int)}{s:BitVec 32}{t:Nat→Int}{z:Int}(h:AW aG):0≤lT aG s t z∧lT aG s t z≤131072:=by
  have:=JY h (s:=s) (z:=z) (l:=bb (iu t z 8)) (fun r a4=>by have:=iV.1 a4;exact⟨this.1,CT (Nat.le_refl _) this.2.2⟩) 32
  rw [List.take_of_length_le (xo _)]at this
  unfold lT;omega
theorem Rx(x:bZ)(al:x.In K)(s:BitVec 32){aB:ar B}(bO:hd aB)(aJ:hK aB):a6 B 241 [x.v,aQ s.toNat] [K,aB] (fun v S=>∃a:an (Nat→Int),(a.l=Dh x.aw.l s∧a.Own)∧v=az a∧S=[rf a,K,aB]):=by
 refine bM 25 Tryz.func241 fun ba bf=>?_
 refine fX (aF:=(b9 x)) fun ax=>?_
 refine de fun aK=>?_
 refine cm (re s) ?_
 rintro _ _ ⟨hY,rfl,rfl⟩
 refine bP ?_
 refine gI ?_
 refine gE h6 398 4 ?_
 refine kS (own:=[U hY [aQ s.toNat] 158,aB]) (aU:=[U ax (b9 x) 41,U aK [bw] 394,rf (an.bt:an (Nat→Int)),K]) rfl fF (q1 (K:=aB) hY s bO) (fun i S=>∃a:an (Nat→Int),(a.l=((ht x.aw.l ((bb s).take i)).map fun e=>ls e 0)∧a.Own)∧S=[U ax (b9 x) 41,U aK [az a] 394,rf a,K]) (fun c i S=>False) (show Take ([U hY [aQ s.toNat] 158,aB,U ax (b9 x) 41,U aK [bw] 394,rf (an.bt:an (Nat→Int)),K]) _ _ from aA) (⟨an.bt,⟨rfl,an.fk⟩,rfl⟩) rfl (fun x al=>by obtain⟨y,_,rfl⟩:=List.mem_map.1 al;rfl) ?_ ?_ ?_
 ·intro cr rec j3 i bh af bo
  obtain⟨a,⟨a5,cO⟩,rfl⟩:=bo
  rw [List.length_map]at af
  obtain⟨k,b0⟩:∃k,(bb s)[i]?=some k:=⟨_,List.getElem?_eq_getElem af⟩
  rw [lp b0]
  obtain⟨BZ,Ew,B0⟩:=iV.1 (List.mem_of_getElem? b0)
  have fo:=x.aw.small
  have fT:a.l.length≤32:=by rw [a5,List.length_map];exact Nat.le_trans (Yi _ _) (Nat.le_trans (by rw [List.length_take];omega) (xo s))
  refine aj ?_
  refine⟨rfl,_,_,.cons au (Take.self _),fun hz=>?_⟩
  refine bT ?_ ?_<;>intro ab
  ·obtain⟨e,bl⟩:=fp x.aw.l k.toNat
   refine cZ [U ax (b9 x) 41,U aK [az a] 394,K] ad aA ?_
   refine bj 0 rfl (da (v:=az a) ad) ?_
   refine aY [1,2,3] ?_
   refine bG 4 rfl (iW (j:=k.toNat) rfl rfl ad (x.aw).fl (show k=((k.toNat:Nat):Int)by omega) ah rfl) ?_
   refine bj 5 rfl (jV (a2:=dd) (aN:=11) (i:=k.toNat) (fun _=>rfl) rfl au al.aw ad bl) ?_
   refine aY [106] ?_
   refine gU (UT e 0) ?_
   refine aY [107] ?_
   refine qV (aF:=([ls e 0]:List (Nat→Int)).flatMap h6) rfl .no rfl ad b2 b2 (by rfl) (by rw [show(([ls e 0]:List (Nat→Int)).flatMap h6)=h6 (ls e 0)from List.append_nil _];exact G4 rfl) rfl rfl (fun TF=>?_)
   refine aY [108] ?_
   refine p1 (a2:=h6) (c:=a) (b:=an.lit TF [ls e 0] (by simp)) rfl .no rfl rfl ad au dy (show Out (U TF (([ls e 0]:List (Nat→Int)).flatMap h6) 398) _ _ from au) ir (fun _=>rfl) (fun _=>rfl) (by show a.l.length+1≤_;omega) (by show(a.l.length+1)*_≤_;omega) rfl (fun cI fH iH=>?_)
   refine df [109,99] ?_
   exact⟨[U ax (b9 x) 41,U aK [az cI] 394,rf cI,K],_,aA,⟨cI,⟨by rw [fH,a5,AG b0,bl];simp [an.lit],iH⟩,rfl⟩⟩
  exact⟨[U ax (b9 x) 41,U aK [az a] 394,rf a,K],_,aA,⟨a,⟨by rw [a5,AG b0,List.getElem?_eq_none_iff.2 ah];simp,cO⟩,rfl⟩⟩
 ·intro cG bh bo
  obtain⟨a,⟨a5,cO⟩,rfl⟩:=bo
  rw [List.length_map,List.take_length]at a5
  refine bP ?_
  refine hi ?_
  refine dn (az a) ?_
  refine aj ?_
  refine dA (show Take [dl cG] _ _ from aA) (sB rfl rfl) ?_
  exact aO ⟨a,⟨a5,cO⟩,rfl,rfl⟩
 intro cG c i bh af h
 exact h.elim
theorem Ry(x:bZ)(al:x.In K)(s:BitVec 32)(t:Nat→Int)(z:Int)(eM:AW x.aw.l){aB:ar B}(bO:hd aB)(aJ:hK aB):a6 B 239 [x.v,aQ s.toNat,sU t,aa z] [K,aB] (fun v S=>v=aa (lT x.aw.l s t z)∧S=[K,aB]):=by
 refine bM 44 Tryz.func239 fun ba bf=>?_
 refine eD (aF:=(b9 x)) fun ax=>?_
 refine eD fun aK=>?_
 refine eD (aF:=e6 8 t) fun bq=>?_
 refine eD fun bV=>?_
 refine hi ?_
 refine du (e6 8 t) ?_
 refine aj ?_
 refine gl (cover t z) ?_
 refine de fun dp=>?_
 refine cm (re (iu t z 8)) ?_
 rintro _ _ ⟨hY,rfl,rfl⟩
 refine bP ?_
 refine gI ?_
 refine AO aJ au ?_
 rw [show(U dp [ak] 3:ar B)=U dp [aa (nE x.aw.l s z ((bb (iu t z 8)).take 0))] 3 from rfl]
 refine kS (own:=[U hY [aQ (iu t z 8).toNat] 158,aB]) (aU:=[U ax (b9 x) 41,U aK [aQ s.toNat] 158,U bV [aa z] 3,U dp [aa (nE x.aw.l s z ((bb (iu t z 8)).take 0))] 3,K,aB]) rfl fF (q1 (K:=aB) hY (iu t z 8) bO) (fun i S=>S=[U ax (b9 x) 41,U aK [aQ s.toNat] 158,U bV [aa z] 3,U dp [aa (nE x.aw.l s z ((bb (iu t z 8)).take i))] 3,K,aB]) (fun c i S=>False) (show Take ([U hY [aQ (iu t z 8).toNat] 158,aB,U ax (b9 x) 41,U aK [aQ s.toNat] 158,U bV [aa z] 3,U dp [aa (nE x.aw.l s z ((bb (iu t z 8)).take 0))] 3,K,aB]) _ _ from aA) (rfl) rfl (fun x al=>by obtain⟨y,_,rfl⟩:=List.mem_map.1 al;rfl) ?_ ?_ ?_
 ·intro cr rec j3 i bh af bo
  obtain rfl:=bo
  rw [List.length_map]at af
  obtain⟨r,b0⟩:∃r,(bb (iu t z 8))[i]?=some r:=⟨_,List.getElem?_eq_getElem af⟩
  rw [lp b0]
  obtain⟨BR,aj0,aiN⟩:=iV.1 (List.mem_of_getElem? b0)
  have akF:=CT (Nat.le_refl _) aiN
  refine aj ?_
  refine de fun ln=>?_
  refine⟨rfl,_,_,.cons au (Take.self _),fun hz=>?_⟩
  refine aj ?_
  refine de fun kX=>?_
  refine gj (abm s z) ?_
  refine cm (re (kb s z)) ?_
  rintro _ _ ⟨M8,rfl,rfl⟩
  refine cx ?_
  rw [show(U kX [ak] 3:ar B)=U kX [aa (mM r.toNat (ht x.aw.l ((bb (kb s z)).take 0)))] 3 from rfl]
  refine FX (own:=[U M8 [aQ (kb s z).toNat] 158,aB]) (aU:=[U ax (b9 x) 41,U aK [aQ s.toNat] 158,U bV [aa z] 3,U dp [aa (nE x.aw.l s z ((bb (iu t z 8)).take i))] 3,U ln [aa r] 3,U kX [aa (mM r.toNat (ht x.aw.l ((bb (kb s z)).take 0)))] 3,K]) au rfl fF (q1 (K:=aB) M8 (kb s z) bO) (fun j S=>S=[U ax (b9 x) 41,U aK [aQ s.toNat] 158,U bV [aa z] 3,U dp [aa (nE x.aw.l s z ((bb (iu t z 8)).take i))] 3,U ln [aa r] 3,U kX [aa (mM r.toNat (ht x.aw.l ((bb (kb s z)).take j)))] 3,K]) (fun c j S=>False) (show Take ([U M8 [aQ (kb s z).toNat] 158,aB,U ax (b9 x) 41,U aK [aQ s.toNat] 158,U bV [aa z] 3,U dp [aa (nE x.aw.l s z ((bb (iu t z 8)).take i))] 3,U ln [aa r] 3,U kX [aa (mM r.toNat (ht x.aw.l ((bb (kb s z)).take 0)))] 3,K]) _ _ from aA) (rfl) rfl (fun x al=>by obtain⟨y,_,rfl⟩:=List.mem_map.1 al;rfl) ?_ ?_ ?_
  ·intro x9 DS Fa j cS aI ki
   obtain rfl:=ki
   rw [List.length_map]at aI
   obtain⟨k,xE⟩:∃k,(bb (kb s z))[j]?=some k:=⟨_,List.getElem?_eq_getElem aI⟩
   rw [lp xE]
   obtain⟨BZ,Ew,B0⟩:=iV.1 (List.mem_of_getElem? xE)
   refine aj ?_
   refine⟨rfl,_,_,.cons au (Take.self _),fun hz=>?_⟩
   refine bT ?_ ?_<;>intro ab
   ·have fo:=x.aw.small
    obtain⟨e,bl⟩:=fp x.aw.l k.toNat
    refine cZ [U ax (b9 x) 41,U ln [aa r] 3,U kX [aa (mM r.toNat (ht x.aw.l ((bb (kb s z)).take j)))] 3,K] ad aA ?_
    refine aY [0,1,2,3,4] ?_
    refine bG 5 rfl (iW (j:=k.toNat) rfl rfl ad (x.aw).fl (show k=((k.toNat:Nat):Int)by omega) ah rfl) ?_
    refine aY [6] ?_
    refine bj 7 rfl (Y7 (hx:=k.toNat*11+(3+r.toNat*1)) rfl rfl ad (show r=((r.toNat:Nat):Int)by omega) ah (Nat.add_assoc _ _ _)) ?_
    refine bj 8 rfl (eQ (a2:=dd) (aN:=11) (i:=k.toNat) (k:=(3+r.toNat*1)) (fun _=>rfl) rfl au al.aw ad bl (F0 ah)) ?_
    refine df [9,110,99] ?_
    rw [show max (mM r.toNat (ht x.aw.l ((bb (kb s z)).take j))) (e (3+r.toNat))=(mM r.toNat (ht x.aw.l ((bb (kb s z)).take (j+1))))from by rw [AG xE,bl];exact(abO _ _ _).symm]
    exact⟨[U ax (b9 x) 41,U aK [aQ s.toNat] 158,U bV [aa z] 3,U dp [aa (nE x.aw.l s z ((bb (iu t z 8)).take i))] 3,U ln [aa r] 3,U kX [aa (mM r.toNat (ht x.aw.l ((bb (kb s z)).take (j+1))))] 3,K],_,aA,rfl⟩
   rw [show(mM r.toNat (ht x.aw.l ((bb (kb s z)).take j)))=(mM r.toNat (ht x.aw.l ((bb (kb s z)).take (j+1))))from by rw [AG xE,List.getElem?_eq_none_iff.2 ah];simp]
   exact⟨[U ax (b9 x) 41,U aK [aQ s.toNat] 158,U bV [aa z] 3,U dp [aa (nE x.aw.l s z ((bb (iu t z 8)).take i))] 3,U ln [aa r] 3,U kX [aa (mM r.toNat (ht x.aw.l ((bb (kb s z)).take (j+1))))] 3,K],_,aA,rfl⟩
  ·intro cS ki
   obtain rfl:=ki
   refine cx ?_
   refine ap ((by have a1:=JY (s:=s) (z:=z) eM (l:=(bb (iu t z 8))) (fun r a4=>by have:=iV.1 a4;exact⟨this.1,CT (Nat.le_refl _) this.2.2⟩) i;have a3:=Qo (l:=((bb (kb s z)).take (((bb (kb s z)).map fun n=>[Value.int .i64 n]).length))) (r:=r.toNat) ah eM;have bI:=xo (iu t z 8);exact mE rfl rfl ah ah)) ?_
   refine aj ?_
   rw [List.length_map,List.take_length,show(nE x.aw.l s z ((bb (iu t z 8)).take i))+mM r.toNat (ht x.aw.l (bb (kb s z)))=(nE x.aw.l s z ((bb (iu t z 8)).take (i+1)))from(Rw b0).symm]
   exact⟨[U ax (b9 x) 41,U aK [aQ s.toNat] 158,U bV [aa z] 3,U dp [aa (nE x.aw.l s z ((bb (iu t z 8)).take (i+1)))] 3,K,aB],_,aA,rfl⟩
  intro c i bh af h
  exact h.elim
 ·intro cG bh bo
  obtain rfl:=bo
  rw [List.length_map,List.take_length]
  refine cx ?_
  refine dA (show Take [dl cG] _ _ from aA) (sB rfl rfl) ?_
  exact bJ
 intro cG c i bh af h
 exact h.elim
abbrev px(r:Nat→Int):List Value:=[aa (r 0),aa (r 1),aa (r 2)]
abbrev xV(a:an (Nat→Int)):ar B:=eO a 334 3 px
def H4(a b c:Int):Nat→Int
  |0=>a
  |1=>b
  |2=>c
  |_=>0
def Dz(aG:List (Nat→Int))(z:Int):Option (Nat→Int):=if z<0 then none else aG[z.toNat]?
def sX(aG:List (Nat→Int))(s h:BitVec 32)(t:Nat→Int)(z:Int)(e:Nat→Int):Int×Bool:=nu (e 2+lT aG h t z) (e 1) (Dh aG (lS s z))
def k9(aG:List (Nat→Int))(s h:BitVec 32)(t:Nat→Int)(z:Int):(Nat→Int)×Bool:=match Dz aG z with
  |none=>(H4 0 0 0,false)
  |some e=>(H4 z (lT aG h t z) (sX aG s h t z e).1,(sX aG s h t z e).2)
theorem Av{aG:List (Nat→Int)}{s h:BitVec 32}{t:Nat→Int}{z:Int}(aS:z<0∨(aG.length:Int)≤z):k9 aG s h t z=(H4 0 0 0,false):=by
  unfold k9 Dz
  split
  · rfl
  · rename_i e he;split at he
    · cases he
    · have:=(List.getElem?_eq_some_iff.1 he).1;omega
theorem JZ{aG:List (Nat→Int)}{s h:BitVec 32}{t:Nat→Int}{z:Int}{e:Nat→Int}(b5:0≤z)(bl:aG[z.toNat]?=some e):k9 aG s h t z=(H4 z (lT aG h t z) (sX aG s h t z e).1,(sX aG s h t z e).2):=by
  unfold k9 Dz;rw [if_neg (by omega),bl]
abbrev AX(aG:List (Nat→Int))(cA:Int):Prop:=∀e∈aG,y6 e cA
theorem AX.Ml{aG:List (Nat→Int)}{cA:Int}(h:AX aG cA):AW aG:=fun e he r a4=>by
  obtain⟨⟨ab,ae,av,aV,bN,c0⟩,fO⟩:=h e he
  have:=fO r a4;unfold oG at this;omega
theorem DA(x:bZ)(al:x.In K)(s h:BitVec 32)(t:Nat→Int)(z:Int)(c9:AX x.aw.l x.cA){aB:ar B}(bO:hd aB)(aJ:hK aB):a6 B 187 [x.v,aQ s.toNat,aQ h.toNat,sU t,aa z] [K,aB] (fun v S=>v= .tuple #[.agg (px (k9 x.aw.l s h t z).1).toArray,.bool (k9 x.aw.l s h t z).2]∧S=[K,aB]):=by
 refine BU 58 Tryz.func187 fun ba bf=>?_
 have eM:=c9.Ml
 have fo:=x.aw.small
 refine cC ?_
 refine dz ?_
 refine Ei (aF:=(b9 x)) fun ax=>?_
 refine Ei (aF:=e6 8 t) fun aK=>?_
 refine ve ad fun bq=>?_
 refine ap (cj rfl) ?_
 refine e8 ?_
 refine cC ?_
 refine cC ?_
 refine dz ?_
 refine ap (cj rfl) ?_
 refine ap (cj rfl) ?_
 refine ap (cj rfl) ?_
 refine qW (t:=18) rfl (fun ab=>?_) (fun ab=>?_)
 ·replace ab:=gX ab
  refine jw 18 ?_
  refine jw 18 ?_
  refine jw 18 ?_
  refine jw 18 ?_
  refine jw 18 ?_
  refine ap (cj rfl) ?_
  refine e8 ?_
  refine Cp rfl rfl ?_
  refine cC ?_
  refine dz ?_
  refine ap (zI) ?_
  refine fq (kG rfl rfl rfl au ad rfl rfl) ?_
  refine ap (cj rfl) ?_
  refine e8 ?_
  refine nv ?_
  refine pf ?_
  refine dA (.nil _) (FB rfl rfl au ad (by rfl) rfl) ?_
  first|rw [Av (.inl ah)]|rw [Av (.inr ah)]|rw [JZ ah bl]
  exact⟨_,⟨rfl,rfl⟩,_,cd⟩
 ·replace ab:=gX ab
  refine ap (cj rfl) (hw:=(.yes 18 rfl rfl rfl)) ?_
  refine ap (ia ad) (hw:=(.yes 18 rfl rfl rfl)) ?_
  refine ap (da ad) (hw:=(.yes 18 rfl rfl rfl)) ?_
  refine ap (Bt rfl ad) (hw:=(.yes 18 rfl rfl rfl)) ?_
  refine ap (cj rfl) (hw:=(.yes 18 rfl rfl rfl)) ?_
  refine ap (cj rfl) ?_
  refine e8 ?_
  refine c2 (fun ae=>?_) fun ae=>?_
  ·refine cC ?_
   refine dz ?_
   refine ap (zI) ?_
   refine fq (kG rfl rfl rfl au ad rfl rfl) ?_
   refine ap (cj rfl) ?_
   refine e8 ?_
   refine nv ?_
   refine pf ?_
   refine dA (.nil _) (FB rfl rfl au ad (by rfl) rfl) ?_
   first|rw [Av (.inl ah)]|rw [Av (.inr ah)]|rw [JZ ah bl]
   exact⟨_,⟨rfl,rfl⟩,_,cd⟩
  ·obtain⟨e,bl⟩:∃e,x.aw.l[z.toNat]?=some e:=⟨_,List.getElem?_eq_getElem ah⟩
   obtain⟨⟨cb,cq,fP,sx,yz,B1⟩,_⟩:=c9 e (List.mem_of_getElem? bl)
   have UU:=Oa (s:=h) (t:=t) (z:=z) eM
   refine ic ?_
   refine fj ?_
   refine cC ?_
   refine dz ?_
   refine ap (ia ad) ?_
   refine ap (da ad) ?_
   refine ap (cj rfl) ?_
   refine ap (jS (j:=z.toNat) rfl rfl ad (x.aw).fl (show z=((z.toNat:Nat):Int)by omega) ah rfl) ?_
   refine ap (jV (a2:=dd) (aN:=11) (i:=z.toNat) (fun _=>rfl) rfl au al.aw ad bl) ?_
   refine ve ad fun bV=>?_
   refine fq (kG rfl rfl rfl au ad rfl rfl) ?_
   refine e8 ?_
   refine cC ?_
   refine dz ?_
   refine ap (cj rfl) ?_
   refine ap (ed (bK:=(b9 x)) rfl au ad rfl (by rfl)) ?_
   refine ap (cj rfl) ?_
   refine ap (ed (bK:=e6 8 t) rfl au ad rfl (by rfl)) ?_
   refine ap (cj rfl) ?_
   refine E7 (Ry x al h t z eM bO aJ) ?_
   rintro _ _ ⟨rfl,rfl⟩
   simp only [List.cons_append,List.nil_append]
   refine ap (yL [_,_,_] rfl ad (by rfl)) ?_
   refine ve ad fun dp=>?_
   refine fq (kG rfl rfl rfl au ad rfl rfl) ?_
   refine e8 ?_
   refine cC ?_
   refine cZ [U ax (b9 x) 41,U bV (dd e) 173,U dp [aa z,aa (lT x.aw.l h t z),ak] 334] ad aA ?_
   refine bG 0 rfl (hn ad) ?_
   refine bj 1 rfl (da ad) ?_
   refine bG 2 rfl (hn ad) ?_
   refine bj 3 rfl (da (v:=aa (lT x.aw.l h t z)) ad) ?_
   refine bj 4 rfl (mE (m:=e 2) (n:=(lT x.aw.l h t z)) rfl rfl ah ah) ?_
   refine bG 5 rfl (hn ad) ?_
   refine bj 6 rfl (da ad) ?_
   refine bj 7 rfl (ed (bK:=(b9 x)) rfl au ad rfl (by rfl)) ?_
   refine bG 8 rfl (dD rfl) ?_
   refine bG 9 rfl (dD rfl) ?_
   refine jx 10 ?_
   refine gU (Kw s z) ?_
   refine jx 11 ?_
   refine nk (Rx x al (lS s z) bO aJ) ?_
   rintro _ _ ⟨a,⟨a5,cO⟩,rfl,rfl⟩
   simp only [List.cons_append,List.nil_append]
   refine⟨[rf a,K,aB,U bq [ak,ak,ak] 334],_,_,dy,aA,?_⟩
   refine jx 12 ?_
   refine nk (KC (K:=rf a) (e 2+(lT x.aw.l h t z)) (e 1) a (dT cO rfl)) ?_
   rintro _ _ ⟨rfl,rfl⟩
   simp only [List.cons_append,List.nil_append]
   rw [a5,show nu (e 2+(lT x.aw.l h t z)) (e 1) (Dh x.aw.l (lS s z))=(sX x.aw.l s h t z e)from rfl]
   refine⟨[K,aB,U bq [ak,ak,ak] 334],_,_,dy,aA,?_⟩
   refine bG 13 rfl (dD rfl) ?_
   refine bG 14 rfl (dD (v:=aa (sX x.aw.l s h t z e).1) rfl) ?_
   refine bG 15 rfl (dD (v:= .bool (sX x.aw.l s h t z e).2) rfl) ?_
   refine bG 16 rfl (dD rfl) ?_
   refine bG 17 rfl (dD rfl) ?_
   refine pc ?_
   try simp only [List.cons_append,List.nil_append,List.append_nil]
   refine fj ?_
   refine cC ?_
   refine dz ?_
   refine ap (cj rfl) ?_
   refine ap (ia ad) ?_
   refine fq (jr rfl rfl rfl au ad kC) ?_
   refine e8 ?_
   refine cC ?_
   refine dz ?_
   refine ap (ed (bK:=[aa z,aa (lT x.aw.l h t z),aa (sX x.aw.l s h t z e).1]) rfl au ad rfl (by rfl)) ?_
   refine ap (cj rfl) ?_
   refine fq (kG rfl rfl rfl au ad rfl rfl) ?_
   refine ap (cj rfl) ?_
   refine e8 ?_
   refine nv ?_
   refine dA (.nil _) (FB rfl rfl au ad (by rfl) rfl) ?_
   first|rw [Av (.inl ah)]|rw [Av (.inr ah)]|rw [JZ ah bl]
   exact⟨_,⟨rfl,rfl⟩,_,cd⟩
abbrev sY(aG:List (Nat→Int))(s:BitVec 32)(z:Int):(Nat→Int)×Bool:=k9 aG s s (fb aG s) z
def p7(aG:List (Nat→Int))(s:BitVec 32):Bool:=(bb s).all fun z=>(sY aG s z).2
def G9(aG:List (Nat→Int))(s:BitVec 32):List (Nat→Int):=(bb s).map fun z=>(sY aG s z).1
abbrev sZ(t:Nat→Int):Nat→Int:=bz t 3 (t 1)
def v7(aG:List (Nat→Int))(s:BitVec 32):Int×Bool:=nu 0 65536 ((Dh aG s).map sZ)
theorem Yk(t:Nat→Int):(h6 t).set 3 (aa (t 1))=h6 (sZ t):=by simp [h6,sZ,bz]
theorem aed{l:List (Nat→Int)}{i:Nat}{t:Nat→Int}(h:l[i]?=some t):((l.take i).map sZ++l.drop i).set i (sZ t)=(l.take (i+1)).map sZ++l.drop (i+1):=by
  obtain⟨af,bl⟩:=List.getElem?_eq_some_iff.1 h
  rw [List.take_add_one,h,List.map_append,List.append_assoc,List.drop_eq_getElem_cons af,bl,List.set_append_right _ _ (by rw [List.length_map,List.length_take];omega)]
  rw [show i-((l.take i).map sZ).length=0 by rw [List.length_map,List.length_take];omega]
  rfl
theorem ZS{l:List (Nat→Int)}{i:Nat}{t:Nat→Int}(h:l[i]?=some t):((l.take i).map sZ++l.drop i)[i]?=some t:=by
  rw [List.getElem?_append_right (by rw [List.length_map,List.length_take];omega),List.length_map,List.length_take,List.getElem?_drop, ←h]
  congr 1
  have:=(List.getElem?_eq_some_iff.1 h).1
  omega
theorem aee(x:bZ)(al:x.In K)(s:BitVec 32)(c9:AX x.aw.l x.cA){aB:ar B}(bO:hd aB)(aJ:hK aB):a6 B 121 [x.v,aQ s.toNat] [K,aB] (fun v S=>∃(a:an (Nat→Int)) (z:Int),((p7 x.aw.l s=true→a.l=G9 x.aw.l s)∧a.Own)∧v= .tuple #[az a,aa z,.bool (p7 x.aw.l s)]∧S=[xV a,K,aB]):=by
 refine bM 35 Tryz.func121 fun ba bf=>?_
 refine eD (aF:=(b9 x)) fun ax=>?_
 refine eD fun aK=>?_
 refine fe fun bq=>?_
 refine fe fun bV=>?_
 refine fe fun dp=>?_
 refine iK ?_
 refine du (b9 x) ?_
 refine aj ?_
 refine eR (HW (lo:=K) (K:=aB) x al s bO) ?_
 refine de fun ln=>?_
 refine de fun kX=>?_
 refine cm (re s) ?_
 rintro _ _ ⟨hY,rfl,rfl⟩
 refine bP ?_
 refine gI ?_
 refine gE px 334 3 ?_
 refine AO aJ au ?_
 refine kS (own:=[U hY [aQ s.toNat] 158,aB]) (aU:=[U ax (b9 x) 41,U aK [aQ s.toNat] 158,U bq [bw] 261,U bV [ak] 3,U dp [.bool false] 4,U ln (e6 8 (fb x.aw.l s)) 258,U kX [bw] 261,xV (an.bt:an (Nat→Int)),K,aB]) rfl fF (q1 (K:=aB) hY s bO) (fun i S=>∃a:an (Nat→Int),(a.l=((bb s).take i).map (fun z=>(sY x.aw.l s z).1)∧a.Own∧∀z∈(bb s).take i,(sY x.aw.l s z).2=true)∧S=[U ax (b9 x) 41,U aK [aQ s.toNat] 158,U bq [bw] 261,U bV [ak] 3,U dp [.bool false] 4,U ln (e6 8 (fb x.aw.l s)) 258,U kX [az a] 261,xV a,K,aB]) (fun c i S=>c= .ret∧p7 x.aw.l s=false∧∃z:Int,S=[U bq [bw] 261,U bV [aa z] 3,U dp [.bool false] 4,K,aB]) (show Take ([U hY [aQ s.toNat] 158,aB,U ax (b9 x) 41,U aK [aQ s.toNat] 158,U bq [bw] 261,U bV [ak] 3,U dp [.bool false] 4,U ln (e6 8 (fb x.aw.l s)) 258,U kX [bw] 261,xV (an.bt:an (Nat→Int)),K,aB]) _ _ from aA) (⟨an.bt,⟨rfl,an.fk,fun z aS=>by cases aS⟩,rfl⟩) rfl (fun x al=>by obtain⟨y,_,rfl⟩:=List.mem_map.1 al;rfl) ?_ ?_ ?_
 ·intro cr rec j3 i bh af bo
  obtain⟨a,⟨a5,cO,lu⟩,rfl⟩:=bo
  rw [List.length_map]at af
  obtain⟨z,b0⟩:∃z,(bb s)[i]?=some z:=⟨_,List.getElem?_eq_getElem af⟩
  rw [lp b0]
  obtain⟨W2,aj1,gv⟩:=iV.1 (List.mem_of_getElem? b0)
  have fT:a.l.length≤32:=by rw [a5,List.length_map,List.length_take];have:=xo s;omega
  refine aj ?_
  refine⟨rfl,_,_,.cons au (Take.self _),fun hz=>?_⟩
  refine iK ?_
  refine du (b9 x) ?_
  refine gI ?_
  refine du (e6 8 (fb x.aw.l s)) ?_
  refine aj ?_
  refine eR (DA x al s s (fb x.aw.l s) z c9 bO aJ) ?_
  refine cp ?_
  refine bp (.agg (px (sY x.aw.l s z).1).toArray) ?_
  refine bp (.bool (sY x.aw.l s z).2) ?_
  refine de fun akG=>?_
  refine c2 ?_ ?_<;>intro ab
  ·refine aj ?_
   exact⟨[U bq [bw] 261,U bV [aa z] 3,U dp [.bool false] 4,K,aB],_,aA,⟨rfl,List.all_eq_false.2 ⟨z,List.mem_of_getElem? b0,by rw [ab];decide⟩,z,rfl⟩⟩
  refine iK ?_
  refine dn (az a) ?_
  refine du (px (sY x.aw.l s z).1) ?_
  refine im (aF:=([(sY x.aw.l s z).1]:List (Nat→Int)).flatMap px) .no rfl ad b2 b2 (by rfl) (by rw [show(([(sY x.aw.l s z).1]:List (Nat→Int)).flatMap px)=px (sY x.aw.l s z).1 from List.append_nil _];exact G4 rfl) rfl rfl (fun UW=>?_)
  refine j7 (a2:=px) (c:=a) (b:=an.lit UW [(sY x.aw.l s z).1] (by simp)) .no rfl rfl ad au (show Out (U UW (([(sY x.aw.l s z).1]:List (Nat→Int)).flatMap px) 334) _ _ from au) ir (fun _=>rfl) (fun _=>rfl) (by show a.l.length+1≤_;omega) (by show(a.l.length+1)*_≤_;omega) rfl (fun cI fH iH=>?_)
  refine aj ?_
  exact⟨[U ax (b9 x) 41,U aK [aQ s.toNat] 158,U bq [bw] 261,U bV [ak] 3,U dp [.bool false] 4,U ln (e6 8 (fb x.aw.l s)) 258,U kX [az cI] 261,xV cI,K,aB],_,aA,⟨cI,⟨by rw [fH,a5,List.take_add_one,b0];simp [an.lit],iH,fun y aZ=>by rw [List.take_add_one,b0]at aZ;rcases List.mem_append.1 aZ with q|q;exact lu y q;simp at q;subst q;exact ab⟩,rfl⟩⟩
 ·intro cG bh bo
  obtain⟨a,⟨a5,cO,lu⟩,rfl⟩:=bo
  rw [List.length_map,List.take_length]at a5 lu
  refine bP ?_
  refine hi ?_
  refine dn (az a) ?_
  refine aj ?_
  refine dA (show Take [dl cG] _ _ from aA) (yO rfl rfl rfl rfl au au au ad ad ad) ?_
  have ei:p7 x.aw.l s=true:=List.all_eq_true.2 lu
  exact aO ⟨a,0,⟨fun _=>a5,cO⟩,by rw [ei],rfl⟩
 intro cG c i bh af h
 obtain⟨rfl,cN,z,rfl⟩:=h
 refine bP ?_
 refine gE px 334 3 ?_
 refine aj ?_
 refine dA (show Take [dl cG] _ _ from aA) (yO rfl rfl rfl rfl au au au ad ad ad) ?_
 exact aO ⟨an.bt,z,⟨fun q=>(by rw [cN]at q;cases q),an.fk⟩,by rw [cN];rfl,rfl⟩
theorem aef(x:bZ)(al:x.In K)(s:BitVec 32){aB:ar B}(bO:dI aB ⟨0,0,none⟩ (rZ.map fun m=> .int .u8 m))(aJ:hK aB):di Tryz.prog B 189 [x.v,.int .u32 s.toNat] [K,aB] (fun v S=>v=ru (v7 x.aw.l s)∧S=[K,aB]):=by
 refine bM 30 Tryz.func189 fun ba bf=>?_
 refine eD (aF:=[.int .i64 x.cA,.slice x.aw.bn x.aw.l.length x.aw.c,.slice x.a9.bn x.a9.l.length x.a9.c,.slice x.bd.bn x.bd.l.length x.bd.c]) fun ax=>?_
 refine gN ?_
 refine du [.int .i64 x.cA,.slice x.aw.bn x.aw.l.length x.aw.c,.slice x.a9.bn x.a9.l.length x.a9.c,.slice x.bd.bn x.bd.l.length x.bd.c] ?_
 refine aj ?_
 refine cm (Rx x al s bO aJ) ?_
 rintro _ _ ⟨a,⟨a5,cO⟩,rfl,rfl⟩
 refine cx ?_
 refine ds (α:=Nat×List (Nat→Int)) (fun⟨i,hX⟩=>i≤a.l.length∧hX.length=a.l.length∧hX=(a.l.take i).map sZ++a.l.drop i) (fun⟨i,hX⟩=>[(13,.int .i64 (i:Int)),(4,.int .i64 0),(5,.bool false),(6,.slice a.bn a.l.length a.c),(12,.int .i64 (a.l.length:Int))]) (fun⟨i,hX⟩=>[row (.slice a.bn a.l.length a.c) 398 4 a.l.length (hX.flatMap h6),K,aB]) (fun⟨i,hX⟩=>a.l.length-i) (0,a.l) ?_ dq cd ?_
 ·exact⟨Nat.zero_le _,rfl,rfl⟩
 rintro⟨i,hX⟩ ⟨af,mh,wR⟩
 dsimp only
 have has:=a.small
 refine bT ?_ ?_<;>intro ab
 ·obtain⟨t,bl⟩:=fp a.l i
  have BA:hX[i]?=some t:=by rw [wR];exact ZS bl
  refine aj ?_
  refine ap (eQ (a2:=h6) (aN:=4) (i:=i) (k:=1) (a:=t) (fun _=>rfl) rfl au (sD cO rfl mh) ad BA rfl) ?_
  refine aj ?_
  refine fq (KV (a2:=h6) (aN:=4) (k:=3) (i:=i) (a:=t) (y:=sZ t) (qw:=hX.set i (sZ t)) cO rfl rfl (fun _=>rfl) b2 BA (Yk t) rfl au ad rfl) ?_
  refine aj ?_
  refine cE (i+1,hX.set i (sZ t)) ?_
  (try dsimp only);exact⟨by omega,by rw [List.length_set];exact mh,by rw [wR];exact aed bl⟩
 obtain rfl:i=a.l.length:=by omega
 refine aj ?_
 rw [show a.l.length=(qi a hX mh).l.length from mh.symm]
 refine eR (KC (K:=rf (qi a hX mh)) 0 65536 (qi a hX mh) (dT (fun q e=>cO q e) rfl)) ?_
 refine bp (.int .i64 (nu 0 65536 hX).1) ?_
 refine bp (.bool (nu 0 65536 hX).2) ?_
 refine aj ?_
 rw [show nu 0 65536 hX=v7 x.aw.l s from by unfold v7;rw [wR,a5,List.take_of_length_le (by rw [←a5];omega),List.drop_of_length_le (by rw [←a5];omega),List.append_nil]]
 exact bJ
abbrev lh(a b:BitVec 32):List Value:=[aQ (a&&&~~~b).toNat,aQ (b&&&~~~a).toNat,aQ (a&&&b).toNat]
abbrev bQ(a b:BitVec 32):BitVec 32:=(a&&&~~~b)|||(b&&&~~~a)|||(a&&&b)
abbrev xH(a b:BitVec 32):BitVec 32:=(a&&&~~~b)|||(a&&&b)
abbrev iM(a b:BitVec 32):BitVec 32:=(b&&&~~~a)|||(a&&&b)
theorem agb(a b:BitVec 32):a6 B 243 [aQ a.toNat,aQ b.toNat] [] (fun v S=>v= .agg (lh a b).toArray∧S=[]):=by
 refine bM 15 Tryz.func243 fun ba bf=>?_
 refine de fun ax=>?_
 refine ap (g6 rfl rfl (dM _) (dM _) rfl) ?_
 refine aj ?_
 refine ap (g6 rfl rfl (dM _) (dM _) rfl) ?_
 refine aj ?_
 refine ap (g6 rfl rfl (dM _) (dM _) rfl) ?_
 refine aj ?_
 refine g2 ?_
 exact bJ
theorem K4(x:bZ)(al:x.In K)(i:Nat)(e:Nat→Int)(he:x.bd.l[i]?=some e):a6 B 188 [x.v,aa (i:Int)] [K] (fun v S=>v= .agg (lh (b6 x.c (e 0)) (b6 x.c (e 1))).toArray∧S=[K]):=by
 refine dN 32 Tryz.func188 fun ba bf=>?_
 have ey:=(List.getElem?_eq_some_iff.1 he).1
 have Ep:=x.bd.small
 refine aj ?_
 refine eD (aF:=(b9 x)) fun ax=>?_
 refine fe fun aK=>?_
 refine l5 ?_
 refine cc ?_ ?_<;>intro ab
 ·omega
 refine bD ?_ ?_<;>intro ae
 ·omega
 refine cZ [U ax (b9 x) 41,K] ad aA ?_
 refine bj 0 rfl (ed (bK:=(b9 x)) rfl au ad rfl (by rfl)) ?_
 refine aY [1,2,3] ?_
 refine bG 4 rfl (iW rfl rfl ad (x.bd).fl rfl ah rfl) ?_
 refine aY [5] ?_
 refine bj 6 rfl (eQ (a2:=dP) (aN:=23) (i:=i) (k:=0) (fun _=>rfl) rfl au al.bd ad he rfl) ?_
 refine bj 8 rfl (ed (bK:=(b9 x)) rfl au ad rfl (by rfl)) ?_
 refine aY [9,10,11] ?_
 refine bG 12 rfl (iW rfl rfl ad (x.bd).fl rfl ah rfl) ?_
 refine aY [13] ?_
 refine bj 14 rfl (eQ (a2:=dP) (aN:=23) (i:=i) (k:=1) (fun _=>rfl) rfl au al.bd ad he rfl) ?_
 refine lB 7 (vS x al (e 0)) ?_
 refine lB 15 (vS x al (e 1)) ?_
 refine aY [116] ?_
 refine gU (agb (b6 x.c (e 0)) (b6 x.c (e 1))) ?_
 refine df [117,99] ?_
 refine g2 ?_
 exact bJ
theorem uT(a b:BitVec 32):a6 B 192 [.agg (lh a b).toArray] [] (fun v S=>v=aQ (bQ a b).toNat∧S=[]):=by
 refine bM 11 Tryz.func192 fun ba bf=>?_
 refine fX (aF:=lh a b) fun ax=>?_
 refine ap (g6 rfl rfl (dM _) (dM _) rfl) ?_
 refine aj ?_
 refine ap (g6 rfl rfl (dM _) (dM _) rfl) ?_
 exact oi
theorem aeg(a b:BitVec 32):a6 B 190 [.agg (lh a b).toArray] [] (fun v S=>v=aQ (xH a b).toNat∧S=[]):=by
 refine bM 8 Tryz.func190 fun ba bf=>?_
 refine fX (aF:=lh a b) fun ax=>?_
 refine ap (g6 rfl rfl (dM _) (dM _) rfl) ?_
 exact oi
theorem H5(a b:BitVec 32):a6 B 279 [.agg (lh a b).toArray] [] (fun v S=>v=aQ (iM a b).toNat∧S=[]):=by
 refine bM 8 Tryz.func279 fun ba bf=>?_
 refine fX (aF:=lh a b) fun ax=>?_
 refine ap (g6 rfl rfl (dM _) (dM _) rfl) ?_
 exact oi
def gh(x:bZ)(a b:BitVec 32)(f:Nat→Int):List Value:=[aa x.cA,az x.aw,az x.a9,az x.bd,aQ (a&&&~~~b).toNat,aQ (b&&&~~~a).toNat,aQ (a&&&b).toNat,aa (fb x.aw.l (bQ a b) 0),aa (fb x.aw.l (bQ a b) 1),aa (fb x.aw.l (bQ a b) 2),aa (fb x.aw.l (bQ a b) 3),aa (fb x.aw.l (bQ a b) 4),aa (fb x.aw.l (bQ a b) 5),aa (fb x.aw.l (bQ a b) 6),aa (fb x.aw.l (bQ a b) 7),aa (f 0),aa (f 1),aa (f 2),aa (f 3),aa (f 4),aa (f 5),aa (f 6),aa (f 7),aa (f 8),aa (f 9),aa (f 10),aa (f 11),aa (f 12),aa (f 13),aa (f 14),aa (f 15)]
theorem ZT{x:bZ}{a b:BitVec 32}{f:Nat→Int}{k:Nat}(h:k<16):(gh x a b f)[15+k*1]?=some (aa (f k)):=by
  rcases(show k=0∨k=1∨k=2∨k=3∨k=4∨k=5∨k=6∨k=7∨k=8∨k=9∨k=10∨k=11∨k=12∨k=13∨k=14∨k=15 by omega)with rfl|rfl|rfl|rfl|rfl|rfl|rfl|rfl|rfl|rfl|rfl|rfl|rfl|rfl|rfl|rfl<;>rfl
def fA(a b:BitVec 32)(f:Nat→Int)(z:Int):Int:=if hasB (b&&&~~~a) z=true then f z.toNat else 0
def nL(aG:List (Nat→Int))(k:Int):Nat→Int:=(aG[k.toNat]?).getD fun _=>0
theorem KD{aG:List (Nat→Int)}{k:Int}{e:Nat→Int}(h:aG[k.toNat]?=some e):nL aG k=e:=by unfold nL;rw [h];rfl
def rh(aG:List (Nat→Int))(a b:BitVec 32)(f:Nat→Int)(z:Int):List (Nat→Int):=(bb (lS (bQ a b) z)).map fun k=>ls (nL aG k) (fA a b f k)
structure tQ(aG:List (Nat→Int))(cA:Int)(a b:BitVec 32)(f:Nat→Int):Prop where
  t:AX aG cA
  n:aG.length≤16
  k:∀k:Int,hasB (bQ a b) k=true→k<(aG.length:Int)
  f:∀i,i<16→0≤f i∧f i≤16384
theorem vM{a b:BitVec 32}{k:Int}(h:hasB (b&&&~~~a) k=true):hasB (bQ a b) k=true:=by
  unfold bQ;rw [ow,ow,h];simp
theorem J0{s:BitVec 32}{k:Int}(h:hasB s k=true):0≤k∧k<32:=by
  apply Classical.byContradiction;intro q;rw [Cx _ _ q]at h;cases h
theorem J1{aG:List (Nat→Int)}{cA:Int}{a b:BitVec 32}{f:Nat→Int}(h:tQ aG cA a b f)(z:Int):0≤fA a b f z∧fA a b f z≤16384:=by
  unfold fA;split
  · rename_i q
    have ab:=h.k z (vM q);have ae:=J0 q;have av:=h.n
    exact h.f _ (by omega)
  · omega
theorem Xm{s:BitVec 32}{z k:Int}(h:k∈bb (lS s z)):hasB s k=true∧0≤k∧k<32:=by
  obtain⟨b5,ab,ae⟩:=iV.1 h
  obtain⟨n,rfl⟩:=Int.eq_ofNat_of_zero_le b5
  rw [Cf _ _ _ (by omega)]at ae
  simp only [Bool.and_eq_true]at ae
  exact⟨ae.1,b5,ab⟩
theorem agc(x:bZ)(al:x.In K)(i:Nat)(e:Nat→Int)(he:x.bd.l[i]?=some e)(f:Nat→Int){aB:ar B}(bO:hd aB)(aJ:hK aB):a6 B 193 [x.v,aa (i:Int),.agg (e6 16 f).toArray] [K,aB] (fun v S=>v= .tuple #[.agg (gh x (b6 x.c (e 0)) (b6 x.c (e 1)) f).toArray,.bool true]∧S=[K,aB]):=by
 refine dN 30 Tryz.func193 fun ba bf=>?_
 have ey:=(List.getElem?_eq_some_iff.1 he).1
 have Ep:=x.bd.small
 refine aj ?_
 refine eD (aF:=(b9 x)) fun ax=>?_
 refine eD (aF:=e6 16 f) fun aK=>?_
 refine fe fun bq=>?_
 refine rm ?_
 refine cc ?_ ?_<;>intro ab
 ·omega
 refine c2 ?_ ?_<;>intro ae
 ·omega
 refine hi ?_
 refine du (b9 x) ?_
 refine aj ?_
 refine eR (K4 x al i e he) ?_
 refine de fun bV=>?_
 refine cZ [U ax (b9 x) 41,U aK (e6 16 f) 105,U bV (lh (b6 x.c (e 0)) (b6 x.c (e 1))) 338] ad aA ?_
 refine bj 0 rfl (ed (bK:=(b9 x)) rfl au ad rfl (by rfl)) ?_
 refine bj 1 rfl (ed (bK:=lh (b6 x.c (e 0)) (b6 x.c (e 1))) rfl au ad rfl (by rfl)) ?_
 refine bj 2 rfl (ed (bK:=(b9 x)) rfl au ad rfl (by rfl)) ?_
 refine bj 3 rfl (ed (bK:=lh (b6 x.c (e 0)) (b6 x.c (e 1))) rfl au ad rfl (by rfl)) ?_
 refine bj 6 rfl (ed (bK:=e6 16 f) rfl au ad rfl (by rfl)) ?_
 refine aY [104] ?_
 refine gU (uT (b6 x.c (e 0)) (b6 x.c (e 1))) ?_
 refine gb 5 (HW (lo:=K) (K:=aB) x al (bQ (b6 x.c (e 0)) (b6 x.c (e 1))) bO) ?_
 refine bj 7 rfl (yL (gh x (b6 x.c (e 0)) (b6 x.c (e 1)) f) rfl ad (adv (c6:=(b9 x)) (c1:=lh (b6 x.c (e 0)) (b6 x.c (e 1))) (bW:=e6 8 (fb x.aw.l (bQ (b6 x.c (e 0)) (b6 x.c (e 1))))) (eF:=e6 16 f) rfl rfl rfl rfl rfl rfl rfl)) ?_
 refine df [108,9,99] ?_
 refine fS ?_
 exact bJ
theorem Hs(x:bZ)(a b:BitVec 32)(f:Nat→Int)(dj:tQ x.aw.l x.cA a b f)(z:Int):a6 B 245 [.agg (gh x a b f).toArray,aa z] [] (fun v S=>v=aa (fA a b f z)∧S=[]):=by
 refine bM 14 Tryz.func245 fun ba bf=>?_
 refine fX (aF:=gh x a b f) fun ax=>?_
 refine gl (tO (b&&&~~~a) z) ?_
 refine c2 ?_ ?_<;>intro ab
 ·have o2:=dj.k z (vM ab)
  have h7:=J0 ab
  have UX:=dj.n
  refine cC ?_
  refine dz ?_
  refine ap (cj rfl) ?_
  refine ap (ia ad) ?_
  refine ap (p3 rfl rfl ad (show z=((z.toNat:Nat):Int)by omega) (by omega) rfl) ?_
  refine ap (ft (v:=aa (f z.toNat)) rfl au ad (ZT (by omega))) ?_
  refine aj ?_
  exact aO ⟨by rw [show fA a b f z=f z.toNat from if_pos ab],rfl⟩
 refine aj ?_
 exact aO ⟨by rw [show fA a b f z=0 from if_neg (by rw [ab];decide)],rfl⟩
theorem abP(x:bZ)(a b:BitVec 32)(f:Nat→Int)(z:Int):a6 B 291 [.agg (gh x a b f).toArray,aa z] [] (fun v S=>∃aF cY:Nat,v= .func (.func 300) #[] #[ag aF,ag cY]∧S=[U aF (gh x a b f) 343,U cY [aa z] 3]):=by
 refine bM 6 Tryz.func291 fun ba bf=>?_
 refine eD (aF:=gh x a b f) fun ax=>?_
 refine fX fun aK=>?_
 exact aO ⟨ax,aK,rfl,rfl⟩
def oI(aG:List (Nat→Int))(a b:BitVec 32)(f:Nat→Int)(z:Int):Int×Bool:=if hasB (bQ a b) z=true then nu (nL aG z 2+lT aG (bQ a b) (fb aG (bQ a b)) z) (nL aG z 1+fA a b f z) (rh aG a b f z)else(0,false)
theorem Yl(aG:List (Nat→Int))(a b:BitVec 32)(f:Nat→Int)(z:Int):(rh aG a b f z).length≤32:=by unfold rh;rw [List.length_map];exact xo _
theorem abQ(aF cY:Nat)(x:bZ)(al:x.In K)(a b:BitVec 32)(f:Nat→Int)(dj:tQ x.aw.l x.cA a b f)(z:Int){aB:ar B}(bO:hd aB)(aJ:hK aB):n9 Tryz.prog B 300 [ag aF,ag cY] [U aF (gh x a b f) 343,U cY [aa z] 3,K,aB] ((rh x.aw.l a b f z).map fun t=>[Value.agg (h6 t).toArray]):=by
 intro cr J hc cV g7 aZ
 change di _ _ _ _ (U aF (gh x a b f) 343::U cY [aa z] 3::K::aB::cV) _
 refine dN 33 Tryz.func300 fun ba bf=>?_
 have fo:=x.aw.small
 refine aj ?_
 refine fX (aF:=[.func (.yield cr) #[] #[]]) fun ax=>?_
 refine cZ [U aF (gh x a b f) 343,U cY [aa z] 3] ad aA ?_
 refine aY [0] ?_
 refine bj 1 rfl (ed (bK:=lh a b) rfl au ad rfl (by rfl)) ?_
 refine aY [3,102] ?_
 refine gU (uT a b) ?_
 refine aY [104] ?_
 refine gU (Kw (bQ a b) z) ?_
 refine j0 5 (re (lS (bQ a b) z)) ?_
 rintro _ _ ⟨hY,rfl,rfl⟩
 refine bP ?_
 refine⟨U hY [aQ (lS (bQ a b) z).toNat] 158::U ax [.func (.yield cr) #[] #[]] 438::K::aB::cV,_,_,dy,aA,?_⟩
 refine aY [99] ?_
 refine gI ?_
 refine AO aJ au ?_
 refine kS (own:=[U hY [aQ (lS (bQ a b) z).toNat] 158,aB]) (aU:=U ax [.func (.yield cr) #[] #[]] 438::U aF (gh x a b f) 343::U cY [aa z] 3::K::aB::cV) rfl fF (q1 (K:=aB) hY (lS (bQ a b) z) bO) (fun i S=>∃aU,J i aU∧S=U ax [.func (.yield cr) #[] #[]] 438::U aF (gh x a b f) 343::U cY [aa z] 3::K::aB::aU) (fun c i S=>c= .ret∧∃aU m,m<((rh x.aw.l a b f z).map fun t=>[Value.agg (h6 t).toArray]).length∧hc m aU∧S=U ax [.func (.yield cr) #[] #[]] 438::U aF (gh x a b f) 343::U cY [aa z] 3::K::aB::aU) (show Take (U hY [aQ (lS (bQ a b) z).toNat] 158::aB::U ax [.func (.yield cr) #[] #[]] 438::U aF (gh x a b f) 343::U cY [aa z] 3::K::aB::cV) _ _ from aA) (⟨cV,g7,rfl⟩) rfl (fun x al=>by obtain⟨y,_,rfl⟩:=List.mem_map.1 al;rfl) ?_ ?_ ?_
 ·intro ahT rec j3 i bh af lE
  obtain⟨aU,bo,rfl⟩:=lE
  rw [List.length_map]at af
  obtain⟨k,b0⟩:∃k,(bb (lS (bQ a b) z))[i]?=some k:=⟨_,List.getElem?_eq_getElem af⟩
  rw [lp b0]
  obtain⟨BZ,Ew,B0⟩:=iV.1 (List.mem_of_getElem? b0)
  obtain⟨rD,aj2,_⟩:=Xm (List.mem_of_getElem? b0)
  have akH:=dj.k k rD
  have mZ:=dj.n
  obtain⟨e,HI⟩:=fp x.aw.l k.toNat
  obtain rfl:nL x.aw.l k=e:=KD HI
  have ahU:=HI
  have Bw:(rh x.aw.l a b f z)[i]?=some (ls (nL x.aw.l k) (fA a b f k)):=by unfold rh;rw [List.getElem?_map,b0];rfl
  have ey:i<((rh x.aw.l a b f z).map fun t=>[Value.agg (h6 t).toArray]).length:=by rw [List.length_map];exact(List.getElem?_eq_some_iff.1 Bw).1
  have fa:=aZ i aU ey bo
  rw [lp (f:=fun t=>[Value.agg (h6 t).toArray]) Bw]at fa
  refine aj ?_
  refine⟨rfl,_,_,.cons au (Take.self _),fun hz=>?_⟩
  refine aj ?_
  refine cZ [U ax [.func (.yield cr) #[] #[]] 438,U aF (gh x a b f) 343,K] ad aA ?_
  refine aY [0,1,2,3,4,5,6] ?_
  refine tt (t:=18) rfl (fun ab=>?_) (fun ab=>?_)
  ·replace ab:=gX ab
   omega
  replace ab:=gX ab
  refine bj 7 rfl (da (v:= .func (.yield cr) #[] #[]) ad) ?_
  refine aY [8,9,10,11] ?_
  refine bG 12 rfl (iW (j:=k.toNat) rfl rfl ad (x.aw).fl (show k=((k.toNat:Nat):Int)by omega) ah rfl) ?_
  refine bj 13 rfl (jV (a2:=dd) (aN:=11) (i:=k.toNat) (fun _=>rfl) rfl au al.aw ad ahU) ?_
  refine bj 14 rfl (ed (bK:=gh x a b f) rfl au ad rfl (by rfl)) ?_
  refine aY [15,116] ?_
  refine gU (Hs x a b f dj k) ?_
  refine aY [117] ?_
  refine gU (UT (nL x.aw.l k) (fA a b f k)) ?_
  refine aY [118] ?_
  refine An rfl (.yes 18 rfl rfl rfl) rfl rfl dy fa aA rfl ?_
  rintro jP bh aC
  refine⟨U cY [aa z] 3::aB::obj ahT (.loop hz)::bh,_,_,dy,aA,?_⟩
  refine df [19,20,99] ?_
  refine bD ?_ ?_<;>intro ae
  ·obtain⟨h,_⟩|⟨_,aC⟩:=aC
   ·rw [h]at ae;cases ae
   exact⟨U ax [.func (.yield cr) #[] #[]] 438::U aF (gh x a b f) 343::U cY [aa z] 3::K::aB::bh,_,aA,⟨rfl,bh,_,ey,aC,rfl⟩⟩
  obtain⟨_,aC⟩|⟨h,_⟩:=aC
  rotate_left
  ·rw [h]at ae;cases ae
  exact⟨U ax [.func (.yield cr) #[] #[]] 438::U aF (gh x a b f) 343::U cY [aa z] 3::K::aB::bh,_,aA,⟨bh,aC,rfl⟩⟩
 ·intro cG bh lE
  obtain⟨aU,bo,rfl⟩:=lE
  rw [List.length_map]at bo
  refine cx ?_
  refine CI (show Take [dl cG] _ _ from aA) (uA rfl) ?_
  exact⟨U aF (gh x a b f) 343::U cY [aa z] 3::K::aB::aU,⟨aU,rfl,.inl (by rw [List.length_map];unfold rh;rw [List.length_map];exact bo)⟩,_,aA⟩
 intro cG c i bh af h
 obtain⟨rfl,aU,m,wN,Mm,rfl⟩:=h
 refine cx ?_
 refine dA (show Take [dl cG] _ _ from aA) (uA rfl) ?_
 exact⟨U aF (gh x a b f) 343::U cY [aa z] 3::K::aB::aU,⟨aU,rfl,.inr ⟨m,wN,Mm⟩⟩,_,aA⟩
def qo(aG:List (Nat→Int))(a b:BitVec 32)(z:Int):Int×Bool:=if hasB (iM a b) z=true then((k9 aG (iM a b) (bQ a b) (fb aG (bQ a b)) z).1 2,(k9 aG (iM a b) (bQ a b) (fb aG (bQ a b)) z).2)else(0,false)
def gy(aG:List (Nat→Int))(a b:BitVec 32)(f:Nat→Int)(z:Int):Int×Bool:=if(oI aG a b f z).2=true then(if hasB (iM a b) z=true then(max (oI aG a b f z).1 (qo aG a b z).1,!(qo aG a b z).2)else((oI aG a b f z).1,false))else(0,true)
theorem agd(x:bZ)(al:x.In K)(a b:BitVec 32)(f:Nat→Int)(dj:tQ x.aw.l x.cA a b f)(z:Int){aB:ar B}(bO:hd aB)(aJ:hK aB):a6 B 278 [.agg (gh x a b f).toArray,aa z] [K,aB] (fun v S=>v=ru (oI x.aw.l a b f z)∧S=[K,aB]):=by
 refine bM 61 Tryz.func278 fun ba bf=>?_
 refine eD (aF:=gh x a b f) fun ax=>?_
 refine l5 ?_
 refine du (lh a b) ?_
 refine gl (uT a b) ?_
 refine gl (tO (bQ a b) z) ?_
 refine cc ?_ ?_<;>intro ab
 ·rw [show(oI x.aw.l a b f z)=(0,false)from if_neg (by rw [ab];decide)]
  exact bJ
 have Bo:=dj.k z ab
 have aj3:=J0 ab
 have yg:=dj.n
 obtain⟨e,bl⟩:=fp x.aw.l z.toNat
 obtain⟨⟨cb,cq,fP,sx,yz,B1⟩,_⟩:=dj.t e (List.mem_of_getElem? bl)
 have UU:=Oa (s:=bQ a b) (t:=(fb x.aw.l (bQ a b))) (z:=z) dj.t.Ml
 have ud:=J1 dj z
 have hw:(oI x.aw.l a b f z)=nu (e 2+(lT x.aw.l (bQ a b) (fb x.aw.l (bQ a b)) z)) (e 1+fA a b f z) (rh x.aw.l a b f z):=by rw [←KD bl];exact if_pos ab
 refine bT ?_ ?_<;>intro ae
 ·omega
 refine de fun aK=>?_
 refine cm (abP x a b f z) ?_
 rintro _ _ ⟨aF,cY,rfl,rfl⟩
 refine bP ?_
 refine gI ?_
 refine gE h6 398 4 ?_
 refine kS (own:=[U aF (gh x a b f) 343,U cY [aa z] 3,K,aB]) (aU:=[U ax (gh x a b f) 343,U aK [bw] 394,rf (an.bt:an (Nat→Int))]) rfl fF (abQ aF cY x al a b f dj z bO aJ) (fun i S=>∃r:an (Nat→Int),(r.l=(rh x.aw.l a b f z).take i∧r.Own)∧S=[U ax (gh x a b f) 343,U aK [az r] 394,rf r]) (fun c i S=>False) (show Take ([U aF (gh x a b f) 343,U cY [aa z] 3,K,aB,U ax (gh x a b f) 343,U aK [bw] 394,rf (an.bt:an (Nat→Int))]) _ _ from aA) (⟨an.bt,⟨rfl,an.fk⟩,rfl⟩) rfl (fun x al=>by obtain⟨y,_,rfl⟩:=List.mem_map.1 al;rfl) ?_ ?_ ?_
 ·intro cr rec j3 i bh af bo
  obtain⟨r,⟨a4,Br⟩,rfl⟩:=bo
  rw [List.length_map]at af
  obtain⟨t,b0⟩:∃t,(rh x.aw.l a b f z)[i]?=some t:=⟨_,List.getElem?_eq_getElem af⟩
  rw [lp (f:=fun t=>[Value.agg (h6 t).toArray]) b0]
  have H6:r.l.length≤32:=by rw [a4,List.length_take];have:=Yl x.aw.l a b f z;omega
  refine aj ?_
  refine de fun bq=>?_
  refine⟨rfl,_,_,.cons au (Take.self _),fun hz=>?_⟩
  refine gI ?_
  refine dn (az r) ?_
  refine du (h6 t) ?_
  refine im (aF:=([t]:List (Nat→Int)).flatMap h6) .no rfl ad b2 b2 (by rfl) (by rw [show(([t]:List (Nat→Int)).flatMap h6)=h6 t from List.append_nil _];exact G4 rfl) rfl rfl (fun UY=>?_)
  refine j7 (a2:=h6) (c:=r) (b:=an.lit UY [t] (by simp)) .no rfl rfl ad au (show Out (U UY (([t]:List (Nat→Int)).flatMap h6) 398) _ _ from au) ir (fun _=>rfl) (fun _=>rfl) (by show r.l.length+1≤_;omega) (by show(r.l.length+1)*_≤_;omega) rfl (fun cI fH iH=>?_)
  refine aj ?_
  exact⟨[U ax (gh x a b f) 343,U aK [az cI] 394,rf cI],_,aA,⟨cI,⟨by rw [fH,a4,List.take_add_one,b0];simp [an.lit],iH⟩,rfl⟩⟩
 ·intro cG bh bo
  obtain⟨r,⟨a4,Br⟩,rfl⟩:=bo
  rw [List.length_map,List.take_length]at a4
  refine cx ?_
  refine ap (jS (j:=z.toNat) rfl rfl ad (x.aw).fl (show z=((z.toNat:Nat):Int)by omega) ah rfl) ?_
  refine ap (jV (a2:=dd) (aN:=11) (i:=z.toNat) (fun _=>rfl) rfl au al.aw ad bl) ?_
  refine de fun bV=>?_
  refine cZ [U ax (gh x a b f) 343] ad aA ?_
  refine aY [0] ?_
  refine bj 1 rfl (ed (bK:=(b9 x)) rfl au ad rfl (by rfl)) ?_
  refine aY [2] ?_
  refine bj 3 rfl (ed (bK:=lh a b) rfl au ad rfl (by rfl)) ?_
  refine aY [5] ?_
  refine bj 6 rfl (ed (bK:=e6 8 (fb x.aw.l (bQ a b))) rfl au ad rfl (by rfl)) ?_
  refine aY [7,104] ?_
  refine gU (uT a b) ?_
  refine gb 8 (Ry x al (bQ a b) (fb x.aw.l (bQ a b)) z dj.t.Ml bO aJ) ?_
  refine df [9,99] ?_
  refine cZ [U ax (gh x a b f) 343,U bV (dd e) 173,U aK [az r] 394] ad aA ?_
  refine aY [0,1,2] ?_
  refine bj 3 rfl (mE (m:=e 2) (n:=(lT x.aw.l (bQ a b) (fb x.aw.l (bQ a b)) z)) rfl rfl ah ah) ?_
  refine aY [4,5] ?_
  refine bj 6 rfl (ed (bK:=gh x a b f) rfl au ad rfl (by rfl)) ?_
  refine aY [7] ?_
  refine bj 10 rfl (da (v:=az r) ad) ?_
  refine aY [108] ?_
  refine gU (Hs x a b f dj z) ?_
  refine bj 9 rfl (mE (m:=e 1) (n:=fA a b f z) rfl rfl ah ah) ?_
  refine j0 11 (KC (K:=rf r) (e 2+(lT x.aw.l (bQ a b) (fb x.aw.l (bQ a b)) z)) (e 1+fA a b f z) r (dT Br rfl)) ?_
  rintro _ _ ⟨rfl,rfl⟩
  refine bP ?_
  rw [a4]
  refine gv ?_
  refine bG 12 rfl (dD (v:=aa (nu (e 2+(lT x.aw.l (bQ a b) (fb x.aw.l (bQ a b)) z)) (e 1+fA a b f z) (rh x.aw.l a b f z)).1) rfl) ?_
  refine bG 13 rfl (dD (v:= .bool (nu (e 2+(lT x.aw.l (bQ a b) (fb x.aw.l (bQ a b)) z)) (e 1+fA a b f z) (rh x.aw.l a b f z)).2) rfl) ?_
  refine df [14,15,99] ?_
  refine dA (show Take [dl cG] _ _ from aA) (Ak rfl rfl rfl) ?_
  rw [hw]
  exact bJ
 intro cG c i bh af h
 exact h.elim
theorem ZU(x:bZ)(al:x.In K)(a b:BitVec 32)(f:Nat→Int)(dj:tQ x.aw.l x.cA a b f)(z:Int){aB:ar B}(bO:hd aB)(aJ:hK aB):a6 B 280 [.agg (gh x a b f).toArray,aa z] [K,aB] (fun v S=>v=ru (qo x.aw.l a b z)∧S=[K,aB]):=by
 refine bM 32 Tryz.func280 fun ba bf=>?_
 refine eD (aF:=gh x a b f) fun ax=>?_
 refine l5 ?_
 refine du (lh a b) ?_
 refine gl (H5 a b) ?_
 refine gl (tO (iM a b) z) ?_
 refine c2 ?_ ?_<;>intro ab
 ·refine aj ?_
  rw [show(qo x.aw.l a b z)=(0,false)from if_neg (by rw [ab];decide)]
  exact bJ
 refine gI ?_
 refine jT (α:=Nat) (fun Fc=>True) (fun Fc=>[(6,ag Fc),(7,.bool (k9 x.aw.l (iM a b) (bQ a b) (fb x.aw.l (bQ a b)) z).2),(2,ag ax)]) (fun Fc=>[U Fc (px (k9 x.aw.l (iM a b) (bQ a b) (fb x.aw.l (bQ a b)) z).1) 334,K,aB]) ?_ ?_
 ·skip
  refine cZ [U ax (gh x a b f) 343] ad aA ?_
  refine aY [0] ?_
  refine bj 1 rfl (ed (bK:=(b9 x)) rfl au ad rfl (by rfl)) ?_
  refine aY [2] ?_
  refine bj 3 rfl (ed (bK:=lh a b) rfl au ad rfl (by rfl)) ?_
  refine aY [5] ?_
  refine bj 6 rfl (ed (bK:=lh a b) rfl au ad rfl (by rfl)) ?_
  refine aY [8] ?_
  refine bj 9 rfl (ed (bK:=e6 8 (fb x.aw.l (bQ a b))) rfl au ad rfl (by rfl)) ?_
  refine aY [10] ?_
  refine lq 4 15 en ?_ ?_
  ·skip
   refine gU (H5 a b) ?_
   refine lq 7 15 en ?_ ?_
   ·skip
    refine gU (uT a b) ?_
    refine lq 11 15 en ?_ ?_
    ·skip
     refine nk (DA x al (iM a b) (bQ a b) (fb x.aw.l (bQ a b)) z dj.t bO aJ) ?_
     rintro _ _ ⟨rfl,rfl⟩
     refine bP ?_
     refine gv ?_
     refine aY [12] ?_
     refine bG 13 rfl (dD (v:= .agg (px (k9 x.aw.l (iM a b) (bQ a b) (fb x.aw.l (bQ a b)) z).1).toArray) rfl) ?_
     refine bG 14 rfl (dD (v:= .bool (k9 x.aw.l (iM a b) (bQ a b) (fb x.aw.l (bQ a b)) z).2) rfl) ?_
     refine aY [115] ?_
     refine lO rfl .no ad rfl (fun ue=>?_)
     refine aY [116,17,99] ?_
     exact ez ue trivial
    skip
    refine lO rfl .no ad rfl (fun ue=>?_)
    refine gb 11 (DA x al (iM a b) (bQ a b) (fb x.aw.l (bQ a b)) z dj.t bO aJ) ?_
    refine aY [12] ?_
    refine bG 13 rfl (dD (v:= .agg (px (k9 x.aw.l (iM a b) (bQ a b) (fb x.aw.l (bQ a b)) z).1).toArray) rfl) ?_
    refine bG 14 rfl (dD (v:= .bool (k9 x.aw.l (iM a b) (bQ a b) (fb x.aw.l (bQ a b)) z).2) rfl) ?_
    refine aY [116,17,99] ?_
    exact ez ue trivial
   skip
   refine lO rfl .no ad rfl (fun ue=>?_)
   refine aY [107] ?_
   refine gU (uT a b) ?_
   refine gb 11 (DA x al (iM a b) (bQ a b) (fb x.aw.l (bQ a b)) z dj.t bO aJ) ?_
   refine aY [12] ?_
   refine bG 13 rfl (dD (v:= .agg (px (k9 x.aw.l (iM a b) (bQ a b) (fb x.aw.l (bQ a b)) z).1).toArray) rfl) ?_
   refine bG 14 rfl (dD (v:= .bool (k9 x.aw.l (iM a b) (bQ a b) (fb x.aw.l (bQ a b)) z).2) rfl) ?_
   refine aY [116,17,99] ?_
   exact ez ue trivial
  skip
  refine lO rfl .no ad rfl (fun ue=>?_)
  refine aY [104] ?_
  refine gU (H5 a b) ?_
  refine aY [107] ?_
  refine gU (uT a b) ?_
  refine gb 11 (DA x al (iM a b) (bQ a b) (fb x.aw.l (bQ a b)) z dj.t bO aJ) ?_
  refine aY [12] ?_
  refine bG 13 rfl (dD (v:= .agg (px (k9 x.aw.l (iM a b) (bQ a b) (fb x.aw.l (bQ a b)) z).1).toArray) rfl) ?_
  refine bG 14 rfl (dD (v:= .bool (k9 x.aw.l (iM a b) (bQ a b) (fb x.aw.l (bQ a b)) z).2) rfl) ?_
  refine aY [116,17,99] ?_
  exact ez ue trivial
 rintro Fc _
 refine aj ?_
 rw [show(qo x.aw.l a b z)=((k9 x.aw.l (iM a b) (bQ a b) (fb x.aw.l (bQ a b)) z).1 2,(k9 x.aw.l (iM a b) (bQ a b) (fb x.aw.l (bQ a b)) z).2)from if_pos ab]
 exact bJ
theorem aeh(x:bZ)(al:x.In K)(a b:BitVec 32)(f:Nat→Int)(dj:tQ x.aw.l x.cA a b f)(z:Int){aB:ar B}(bO:hd aB)(aJ:hK aB):a6 B 244 [.agg (gh x a b f).toArray,aa z] [K,aB] (fun v S=>v=ru (gy x.aw.l a b f z)∧S=[K,aB]):=by
 refine bM 35 Tryz.func244 fun ba bf=>?_
 refine eD (aF:=gh x a b f) fun ax=>?_
 refine gN ?_
 refine du (gh x a b f) ?_
 refine aj ?_
 refine eR (agd x al a b f dj z bO aJ) ?_
 refine cp ?_
 refine bp (aa (oI x.aw.l a b f z).1) ?_
 refine bp (.bool (oI x.aw.l a b f z).2) ?_
 refine aj ?_
 refine c2 ?_ ?_<;>intro ab
 ·refine aj ?_
  rw [show(gy x.aw.l a b f z)=(0,true)from if_neg (by rw [ab];decide)]
  exact bJ
 refine ky ?_
 refine du (lh a b) ?_
 refine gl (H5 a b) ?_
 refine gl (tO (iM a b) z) ?_
 refine c2 ?_ ?_<;>intro ae
 ·refine aj ?_
  rw [show(gy x.aw.l a b f z)=((oI x.aw.l a b f z).1,false)from by unfold gy;rw [if_pos ab,if_neg (by rw [ae];decide)]]
  exact bJ
 refine hi ?_
 refine du (gh x a b f) ?_
 refine aj ?_
 refine eR (ZU x al a b f dj z bO aJ) ?_
 refine cp ?_
 refine bp (aa (qo x.aw.l a b z).1) ?_
 refine bp (.bool (qo x.aw.l a b z).2) ?_
 refine aj ?_
 rw [show(gy x.aw.l a b f z)=(max (oI x.aw.l a b f z).1 (qo x.aw.l a b z).1,!(qo x.aw.l a b z).2)from by unfold gy;rw [if_pos ab,if_pos ae]]
 exact bJ
abbrev ku(p:Int×Int):List Value:=[aa p.1,aa p.2]
def gn(g:Int→Int)(l:List Int):Int:=l.foldl (fun m k=>max m (g k)) 0
theorem uU{g:Int→Int}{l:List Int}{i:Nat}{k:Int}(h:l[i]?=some k):gn g (l.take (i+1))=max (gn g (l.take i)) (g k):=by
  unfold gn;rw [List.take_add_one,h,List.foldl_append];rfl
def r2(aG:List (Nat→Int))(a b:BitVec 32)(f:Nat→Int):(Int×Int)×Bool:=if((bb (bQ a b)).all fun k=>!(gy aG a b f k).2)=true then((max (gn (fun k=>(gy aG a b f k).1) (bb (bQ a b))) (gn (fA a b f) (bb (bQ a b))),gn (fun k=>(gy aG a b f k).1) (bb (bQ a b))),true)else((0,0),false)
def qp(l:List (Nat→Int)):Int:=l.foldl (fun m e=>max m (e 0)) 0
theorem abR(l:List (Nat→Int))(e:Nat→Int):qp (l++[e])=max (qp l) (e 0):=by unfold qp;rw [List.foldl_append];rfl
def AY(aG:List (Nat→Int))(s:BitVec 32):Int:=qp (ht aG (bb s))
def iI(c:ck)(e:Nat→Int):(Int×Int)×Bool:=
  if e 2=1 then(((v7 c.aw (xH (b6 c (e 0)) (b6 c (e 1)))).1,0),(v7 c.aw (xH (b6 c (e 0)) (b6 c (e 1)))).2)
  else if e 2=2 then((AY c.aw (bQ (b6 c (e 0)) (b6 c (e 1))),0),true)
  else if e 2=3 then r2 c.aw (b6 c (e 0)) (b6 c (e 1)) (fun r=>e (3+r))
  else((0,0),false)
theorem aei(x:bZ)(al:x.In K)(a b:BitVec 32)(f:Nat→Int)(dj:tQ x.aw.l x.cA a b f){aB:ar B}(bO:hd aB)(aJ:hK aB):a6 B 194 [.agg (gh x a b f).toArray] [K,aB] (fun v S=>v= .tuple #[.agg (ku (r2 x.aw.l a b f).1).toArray,.bool (r2 x.aw.l a b f).2]∧S=[K,aB]):=by
 refine bM 35 Tryz.func194 fun ba bf=>?_
 refine eD (aF:=gh x a b f) fun ax=>?_
 refine fe fun aK=>?_
 refine de fun bq=>?_
 refine fe fun bV=>?_
 refine fe fun dp=>?_
 refine l5 ?_
 refine du (lh a b) ?_
 refine gj (uT a b) ?_
 refine cm (re (bQ a b)) ?_
 rintro _ _ ⟨hY,rfl,rfl⟩
 refine bP ?_
 refine gI ?_
 refine AO aJ au ?_
 rw [show(U bV [ak] 3:ar B)=U bV [aa (gn (fun k=>(gy x.aw.l a b f k).1) ((bb (bQ a b)).take 0))] 3 from rfl]
 rw [show(U dp [ak] 3:ar B)=U dp [aa (gn (fA a b f) ((bb (bQ a b)).take 0))] 3 from rfl]
 refine kS (own:=[U hY [aQ (bQ a b).toNat] 158,aB]) (aU:=[U ax (gh x a b f) 343,U aK [ak,ak] 190,U bq [.bool false] 4,U bV [aa (gn (fun k=>(gy x.aw.l a b f k).1) ((bb (bQ a b)).take 0))] 3,U dp [aa (gn (fA a b f) ((bb (bQ a b)).take 0))] 3,K,aB]) rfl fF (q1 (K:=aB) hY (bQ a b) bO) (fun i S=>(∀k∈(bb (bQ a b)).take i,(gy x.aw.l a b f k).2=false)∧S=[U ax (gh x a b f) 343,U aK [ak,ak] 190,U bq [.bool false] 4,U bV [aa (gn (fun k=>(gy x.aw.l a b f k).1) ((bb (bQ a b)).take i))] 3,U dp [aa (gn (fA a b f) ((bb (bQ a b)).take i))] 3,K,aB]) (fun c i S=>c= .ret∧(∃k∈(bb (bQ a b)),(gy x.aw.l a b f k).2=true)∧S=[U aK [ak,ak] 190,U bq [.bool false] 4,K,aB]) (show Take ([U hY [aQ (bQ a b).toNat] 158,aB,U ax (gh x a b f) 343,U aK [ak,ak] 190,U bq [.bool false] 4,U bV [aa (gn (fun k=>(gy x.aw.l a b f k).1) ((bb (bQ a b)).take 0))] 3,U dp [aa (gn (fA a b f) ((bb (bQ a b)).take 0))] 3,K,aB]) _ _ from aA) (⟨fun k ai=>(by cases ai),rfl⟩) rfl (fun x al=>by obtain⟨y,_,rfl⟩:=List.mem_map.1 al;rfl) ?_ ?_ ?_
 ·intro cr rec j3 i bh af bo
  obtain⟨cN,rfl⟩:=bo
  rw [List.length_map]at af
  obtain⟨k,b0⟩:∃k,(bb (bQ a b))[i]?=some k:=⟨_,List.getElem?_eq_getElem af⟩
  rw [lp b0]
  obtain⟨BZ,Ew,B0⟩:=iV.1 (List.mem_of_getElem? b0)
  refine aj ?_
  refine⟨rfl,_,_,.cons au (Take.self _),fun hz=>?_⟩
  refine iK ?_
  refine du (gh x a b f) ?_
  refine aj ?_
  refine eR (aeh x al a b f dj k bO aJ) ?_
  refine cp ?_
  refine bp (aa (gy x.aw.l a b f k).1) ?_
  refine bp (.bool (gy x.aw.l a b f k).2) ?_
  refine bT ?_ ?_<;>intro ab
  ·exact⟨[U aK [ak,ak] 190,U bq [.bool false] 4,K,aB],_,aA,⟨rfl,⟨k,List.mem_of_getElem? b0,ab⟩,rfl⟩⟩
  refine cZ [U ax (gh x a b f) 343,U bV [aa (gn (fun k=>(gy x.aw.l a b f k).1) ((bb (bQ a b)).take i))] 3,U dp [aa (gn (fA a b f) ((bb (bQ a b)).take i))] 3] ad aA ?_
  refine aY [0,1,2] ?_
  refine bj 4 rfl (ed (bK:=gh x a b f) rfl au ad rfl (by rfl)) ?_
  refine aY [5] ?_
  refine lq 3 6 en ?_ ?_
  ·skip
   refine p5 rfl .no dy (da ad) rfl ?_
   refine aY [106] ?_
   refine gU (Hs x a b f dj k) ?_
   refine lq 7 8 en ?_ ?_
   ·skip
    refine p5 rfl .no dy (AL rfl rfl) rfl ?_
    refine df [108,109,99] ?_
    rw [show max (gn (fun k=>(gy x.aw.l a b f k).1) ((bb (bQ a b)).take i)) (gy x.aw.l a b f k).1=(gn (fun k=>(gy x.aw.l a b f k).1) ((bb (bQ a b)).take (i+1)))from(uU (g:=fun k=>(gy x.aw.l a b f k).1) b0).symm,show max (gn (fA a b f) ((bb (bQ a b)).take i)) (fA a b f k)=(gn (fA a b f) ((bb (bQ a b)).take (i+1)))from(uU b0).symm]
    exact⟨[U ax (gh x a b f) 343,U aK [ak,ak] 190,U bq [.bool false] 4,U bV [aa (gn (fun k=>(gy x.aw.l a b f k).1) ((bb (bQ a b)).take (i+1)))] 3,U dp [aa (gn (fA a b f) ((bb (bQ a b)).take (i+1)))] 3,K,aB],_,aA,⟨fun y aZ=>by rw [List.take_add_one,b0]at aZ;rcases List.mem_append.1 aZ with q|q;exact cN y q;simp at q;subst q;exact ab,rfl⟩⟩
   skip
   refine l4 rfl dy (jr rfl rfl rfl au ad kC) ?_
   refine df [107,109,99] ?_
   rw [show max (gn (fun k=>(gy x.aw.l a b f k).1) ((bb (bQ a b)).take i)) (gy x.aw.l a b f k).1=(gn (fun k=>(gy x.aw.l a b f k).1) ((bb (bQ a b)).take (i+1)))from(uU (g:=fun k=>(gy x.aw.l a b f k).1) b0).symm,show max (gn (fA a b f) ((bb (bQ a b)).take i)) (fA a b f k)=(gn (fA a b f) ((bb (bQ a b)).take (i+1)))from(uU b0).symm]
   exact⟨[U ax (gh x a b f) 343,U aK [ak,ak] 190,U bq [.bool false] 4,U bV [aa (gn (fun k=>(gy x.aw.l a b f k).1) ((bb (bQ a b)).take (i+1)))] 3,U dp [aa (gn (fA a b f) ((bb (bQ a b)).take (i+1)))] 3,K,aB],_,aA,⟨fun y aZ=>by rw [List.take_add_one,b0]at aZ;rcases List.mem_append.1 aZ with q|q;exact cN y q;simp at q;subst q;exact ab,rfl⟩⟩
  skip
  refine gU (Hs x a b f dj k) ?_
  refine lq 3 8 en ?_ ?_
  ·skip
   refine p5 rfl .no dy (da ad) rfl ?_
   refine lq 7 8 en ?_ ?_
   ·skip
    refine p5 rfl .no dy (AL rfl rfl) rfl ?_
    refine df [108,109,99] ?_
    rw [show max (gn (fun k=>(gy x.aw.l a b f k).1) ((bb (bQ a b)).take i)) (gy x.aw.l a b f k).1=(gn (fun k=>(gy x.aw.l a b f k).1) ((bb (bQ a b)).take (i+1)))from(uU (g:=fun k=>(gy x.aw.l a b f k).1) b0).symm,show max (gn (fA a b f) ((bb (bQ a b)).take i)) (fA a b f k)=(gn (fA a b f) ((bb (bQ a b)).take (i+1)))from(uU b0).symm]
    exact⟨[U ax (gh x a b f) 343,U aK [ak,ak] 190,U bq [.bool false] 4,U bV [aa (gn (fun k=>(gy x.aw.l a b f k).1) ((bb (bQ a b)).take (i+1)))] 3,U dp [aa (gn (fA a b f) ((bb (bQ a b)).take (i+1)))] 3,K,aB],_,aA,⟨fun y aZ=>by rw [List.take_add_one,b0]at aZ;rcases List.mem_append.1 aZ with q|q;exact cN y q;simp at q;subst q;exact ab,rfl⟩⟩
   skip
   refine l4 rfl dy (jr rfl rfl rfl au ad kC) ?_
   refine df [107,109,99] ?_
   rw [show max (gn (fun k=>(gy x.aw.l a b f k).1) ((bb (bQ a b)).take i)) (gy x.aw.l a b f k).1=(gn (fun k=>(gy x.aw.l a b f k).1) ((bb (bQ a b)).take (i+1)))from(uU (g:=fun k=>(gy x.aw.l a b f k).1) b0).symm,show max (gn (fA a b f) ((bb (bQ a b)).take i)) (fA a b f k)=(gn (fA a b f) ((bb (bQ a b)).take (i+1)))from(uU b0).symm]
   exact⟨[U ax (gh x a b f) 343,U aK [ak,ak] 190,U bq [.bool false] 4,U bV [aa (gn (fun k=>(gy x.aw.l a b f k).1) ((bb (bQ a b)).take (i+1)))] 3,U dp [aa (gn (fA a b f) ((bb (bQ a b)).take (i+1)))] 3,K,aB],_,aA,⟨fun y aZ=>by rw [List.take_add_one,b0]at aZ;rcases List.mem_append.1 aZ with q|q;exact cN y q;simp at q;subst q;exact ab,rfl⟩⟩
  skip
  refine l4 rfl dy (jr rfl rfl rfl au ad kC) ?_
  refine df [103,107,109,99] ?_
  rw [show max (gn (fun k=>(gy x.aw.l a b f k).1) ((bb (bQ a b)).take i)) (gy x.aw.l a b f k).1=(gn (fun k=>(gy x.aw.l a b f k).1) ((bb (bQ a b)).take (i+1)))from(uU (g:=fun k=>(gy x.aw.l a b f k).1) b0).symm,show max (gn (fA a b f) ((bb (bQ a b)).take i)) (fA a b f k)=(gn (fA a b f) ((bb (bQ a b)).take (i+1)))from(uU b0).symm]
  exact⟨[U ax (gh x a b f) 343,U aK [ak,ak] 190,U bq [.bool false] 4,U bV [aa (gn (fun k=>(gy x.aw.l a b f k).1) ((bb (bQ a b)).take (i+1)))] 3,U dp [aa (gn (fA a b f) ((bb (bQ a b)).take (i+1)))] 3,K,aB],_,aA,⟨fun y aZ=>by rw [List.take_add_one,b0]at aZ;rcases List.mem_append.1 aZ with q|q;exact cN y q;simp at q;subst q;exact ab,rfl⟩⟩
 ·intro cG bh bo
  obtain⟨cN,rfl⟩:=bo
  rw [List.length_map,List.take_length]
  rw [List.length_map,List.take_length]at cN
  refine cx ?_
  refine dA (show Take [dl cG] _ _ from aA) (sF rfl rfl rfl au au ad ad (by rfl)) ?_
  rw [show(r2 x.aw.l a b f)=_ from if_pos (List.all_eq_true.2 fun k ai=>by rw [cN k ai];rfl)]
  exact bJ
 intro cG c i bh af h
 obtain⟨rfl,⟨k,o2,h7⟩,rfl⟩:=h
 refine cx ?_
 refine dA (show Take [dl cG] _ _ from aA) (sF rfl rfl rfl au au ad ad (by rfl)) ?_
 rw [show(r2 x.aw.l a b f)=((0,0),false)from if_neg (fun q=>by have:=List.all_eq_true.1 q k o2;rw [h7]at this;cases this)]
 exact bJ
theorem aej(x:bZ)(al:x.In K)(s:BitVec 32){aB:ar B}(bO:hd aB)(aJ:hK aB):a6 B 191 [x.v,aQ s.toNat] [K,aB] (fun v S=>v=aa (AY x.aw.l s)∧S=[K,aB]):=by
 refine bM 24 Tryz.func191 fun ba bf=>?_
 refine fX (aF:=(b9 x)) fun ax=>?_
 refine de fun aK=>?_
 refine cm (re s) ?_
 rintro _ _ ⟨hY,rfl,rfl⟩
 refine cx ?_
 rw [show(U aK [ak] 3:ar B)=U aK [aa (qp (ht x.aw.l ((bb s).take 0)))] 3 from rfl]
 refine kS (own:=[U hY [aQ s.toNat] 158,aB]) (aU:=[U ax (b9 x) 41,U aK [aa (qp (ht x.aw.l ((bb s).take 0)))] 3,K]) rfl fF (q1 (K:=aB) hY s bO) (fun i S=>S=[U ax (b9 x) 41,U aK [aa (qp (ht x.aw.l ((bb s).take i)))] 3,K]) (fun c i S=>False) (show Take ([U hY [aQ s.toNat] 158,aB,U ax (b9 x) 41,U aK [aa (qp (ht x.aw.l ((bb s).take 0)))] 3,K]) _ _ from aA) (rfl) rfl (fun x al=>by obtain⟨y,_,rfl⟩:=List.mem_map.1 al;rfl) ?_ ?_ ?_
 ·intro cr rec j3 i bh af bo
  obtain rfl:=bo
  rw [List.length_map]at af
  obtain⟨k,b0⟩:∃k,(bb s)[i]?=some k:=⟨_,List.getElem?_eq_getElem af⟩
  rw [lp b0]
  obtain⟨BZ,Ew,B0⟩:=iV.1 (List.mem_of_getElem? b0)
  have fo:=x.aw.small
  refine aj ?_
  refine⟨rfl,_,_,.cons au (Take.self _),fun hz=>?_⟩
  refine bT ?_ ?_<;>intro ab
  ·obtain⟨e,bl⟩:=fp x.aw.l k.toNat
   refine cZ [U ax (b9 x) 41,U aK [aa (qp (ht x.aw.l ((bb s).take i)))] 3,K] ad aA ?_
   refine aY [0,1,2,3] ?_
   refine bG 4 rfl (iW (j:=k.toNat) rfl rfl ad (x.aw).fl (show k=((k.toNat:Nat):Int)by omega) ah rfl) ?_
   refine aY [5] ?_
   refine bj 6 rfl (eQ (a2:=dd) (aN:=11) (i:=k.toNat) (k:=0) (fun _=>rfl) rfl au al.aw ad bl rfl) ?_
   refine df [7,108,99] ?_
   rw [show max (qp (ht x.aw.l ((bb s).take i))) (e 0)=(qp (ht x.aw.l ((bb s).take (i+1))))from by rw [AG b0,bl];exact(abR _ _).symm]
   exact⟨[U ax (b9 x) 41,U aK [aa (qp (ht x.aw.l ((bb s).take (i+1))))] 3,K],_,aA,rfl⟩
  rw [show(qp (ht x.aw.l ((bb s).take i)))=(qp (ht x.aw.l ((bb s).take (i+1))))from by rw [AG b0,List.getElem?_eq_none_iff.2 ah];simp]
  exact⟨[U ax (b9 x) 41,U aK [aa (qp (ht x.aw.l ((bb s).take (i+1))))] 3,K],_,aA,rfl⟩
 ·intro cG bh bo
  obtain rfl:=bo
  rw [List.length_map,List.take_length]
  refine cx ?_
  refine dA (show Take [dl cG] _ _ from aA) (sB rfl rfl) ?_
  exact bJ
 intro cG c i bh af h
 exact h.elim
theorem aek(x:bZ)(al:x.In K)(i:Nat)(e:Nat→Int)(he:x.bd.l[i]?=some e)(dj:tQ x.aw.l x.cA (b6 x.c (e 0)) (b6 x.c (e 1)) (fun r=>e (3+r))){aB:ar B}(bO:hd aB)(aJ:hK aB):a6 B 123 [x.v,aa (i:Int)] [K,aB] (fun v S=>v= .tuple #[.agg (ku (iI x.c e).1).toArray,.bool (iI x.c e).2]∧S=[K,aB]):=by
 refine dN 69 Tryz.func123 fun ba bf=>?_
 have ey:=(List.getElem?_eq_some_iff.1 he).1
 have Ep:=x.bd.small
 refine aj ?_
 refine eD (aF:=(b9 x)) fun ax=>?_
 refine fe fun aK=>?_
 refine rm ?_
 refine cc ?_ ?_<;>intro ab
 ·omega
 refine bD ?_ ?_<;>intro ae
 ·omega
 refine ap (jV (a2:=dP) (aN:=23) (i:=i) (fun _=>rfl) rfl au al.bd ad he) ?_
 refine fe fun bq=>?_
 refine hi ?_
 refine du (b9 x) ?_
 refine aj ?_
 refine eR (K4 x al i e he) ?_
 refine fe fun bV=>?_
 refine ky ?_
 refine dn (aa (e 2)) ?_
 refine bT ?_ ?_<;>intro av
 ·refine cZ [U ax (b9 x) 41,U bV (lh (b6 x.c (e 0)) (b6 x.c (e 1))) 338] ad aA ?_
  refine bj 0 rfl (ed (bK:=(b9 x)) rfl au ad rfl (by rfl)) ?_
  refine bj 1 rfl (ed (bK:=lh (b6 x.c (e 0)) (b6 x.c (e 1))) rfl au ad rfl (by rfl)) ?_
  refine aY [102] ?_
  refine gU (aeg (b6 x.c (e 0)) (b6 x.c (e 1))) ?_
  refine gb 3 (aef x al (xH (b6 x.c (e 0)) (b6 x.c (e 1))) bO aJ) ?_
  refine aY [4] ?_
  refine bG 5 rfl (dD (v:=aa (v7 x.aw.l (xH (b6 x.c (e 0)) (b6 x.c (e 1)))).1) rfl) ?_
  refine bG 6 rfl (dD (v:= .bool (v7 x.aw.l (xH (b6 x.c (e 0)) (b6 x.c (e 1)))).2) rfl) ?_
  refine df [7,8,99] ?_
  refine fS ?_
  rw [show(iI x.c e)=(((v7 x.aw.l (xH (b6 x.c (e 0)) (b6 x.c (e 1)))).1,0),(v7 x.aw.l (xH (b6 x.c (e 0)) (b6 x.c (e 1)))).2)from by unfold iI;rw [if_pos av]]
  exact bJ
 refine bD ?_ ?_<;>intro aV
 ·refine cZ [U ax (b9 x) 41,U bV (lh (b6 x.c (e 0)) (b6 x.c (e 1))) 338] ad aA ?_
  refine bj 0 rfl (ed (bK:=(b9 x)) rfl au ad rfl (by rfl)) ?_
  refine bj 1 rfl (ed (bK:=lh (b6 x.c (e 0)) (b6 x.c (e 1))) rfl au ad rfl (by rfl)) ?_
  refine aY [102] ?_
  refine gU (uT (b6 x.c (e 0)) (b6 x.c (e 1))) ?_
  refine gb 3 (aej x al (bQ (b6 x.c (e 0)) (b6 x.c (e 1))) bO aJ) ?_
  refine df [4,105,6,99] ?_
  refine fS ?_
  rw [show(iI x.c e)=(((AY x.aw.l (bQ (b6 x.c (e 0)) (b6 x.c (e 1)))),0),true)from by unfold iI;rw [if_neg av,if_pos aV]]
  exact bJ
 refine c2 ?_ ?_<;>intro bN
 ·refine gI ?_
  refine du (b9 x) ?_
  refine gI ?_
  refine du (e6 16 (fun r=>e (3+r))) ?_
  refine eR (agc x al i e he (fun r=>e (3+r)) bO aJ) ?_
  refine cp ?_
  refine bp (.agg (gh x (b6 x.c (e 0)) (b6 x.c (e 1)) (fun r=>e (3+r))).toArray) ?_
  refine bp (.bool true) ?_
  refine fe fun dp=>?_
  refine DQ ?_
  refine du (gh x (b6 x.c (e 0)) (b6 x.c (e 1)) (fun r=>e (3+r))) ?_
  refine eR (aei x al (b6 x.c (e 0)) (b6 x.c (e 1)) (fun r=>e (3+r)) dj bO aJ) ?_
  refine bp (.agg (ku (r2 x.aw.l (b6 x.c (e 0)) (b6 x.c (e 1)) (fun r=>e (3+r))).1).toArray) ?_
  refine bp (.bool (r2 x.aw.l (b6 x.c (e 0)) (b6 x.c (e 1)) (fun r=>e (3+r))).2) ?_
  refine aj ?_
  refine fS ?_
  rw [show(iI x.c e)=(r2 x.aw.l (b6 x.c (e 0)) (b6 x.c (e 1)) (fun r=>e (3+r)))from by unfold iI;rw [if_neg av,if_neg aV,if_pos bN]]
  exact bJ
 refine aj ?_
 refine fS ?_
 rw [show(iI x.c e)=((0,0),false)from by unfold iI;rw [if_neg av,if_neg aV,if_neg bN]]
 exact bJ
abbrev xI(r:an (Nat→Int)):List Value:=[az r]
abbrev xJ(a:an (an (Nat→Int))):ar B:=eO a 261 1 xI
abbrev xK(a:an (Int×Int)):ar B:=eO a 190 2 ku
abbrev xL(l:List (an (Nat→Int))):List (ar B):=l.reverse.map xV
def kx(c:ck):Int:=if(iY c).2=0 then(if(c.a9.all fun p=>p7 c.aw p.1)=true then(if(c.bd.all fun e=>(iI c e).2)=true then 0 else 190)else 180)else(iY c).2
structure fW where
  a9:an (an (Nat→Int))
  bd:an (Int×Int)
structure Rz(c:ck)(o:fW):Prop where
  m:o.a9.l.map (fun r=>r.l)=c.a9.map fun p=>G9 c.aw p.1
  e:o.bd.l=c.bd.map fun e=>(iI c e).1
  kE:o.a9.Own
  aiO:o.bd.Own
  ro:∀r∈o.a9.l,r.Own
abbrev fW.v(o:fW):Value:= .agg #[az o.a9,az o.bd]
def kR(o:fW):List (ar B):=[xJ o.a9,xK o.bd]++xL o.a9.l
theorem Jt{k:Int}:∀n:Nat,hasB (allM n) k=true→k<n
  |0,h=>by simp [allM,hasB]at h
  |n+1,h=>by
    rw [allM,ow,Bool.or_eq_true]at h
    rcases h with h|h
    · have:=Jt n h;omega
    · rw [pW]at h;simp at h;omega
theorem IU{c:ck}(h:uS c){m k:Int}(aR:hasB (b6 c m) k=true):k<(c.aw.length:Int):=by
  unfold b6 at aR
  split at aR
  · simp [hasB]at aR
  · split at aR
    · rename_i p aC
      have ab:=(h.dX p (List.mem_of_getElem? aC)).1
      have ae:=congrArg (fun b=>hasB b k) ab
      simp only [qU]at ae
      rw [aR,show hasB 0#32 k=false by simp [hasB]]at ae
      simp at ae
      exact Jt _ ae
    · simp [hasB]at aR
theorem uS.VH{c:ck}(h:uS c){e:Nat→Int}(he:e∈c.bd):tQ c.aw c.cA (b6 c (e 0)) (b6 c (e 1)) (fun r=>e (3+r)):=by
 refine⟨h.aG,h.t.2,fun k ai=>?_,fun i af=>?_⟩
 ·unfold bQ at ai
  simp only [ow,qU,uB,Bool.or_eq_true,Bool.and_eq_true]at ai
  rcases ai with(ai|ai)|ai
  ·exact IU h ai.1
  ·exact IU h ai.1
  exact IU h ai.1
 have:=(h.aT he).of i af
 unfold DU at this;exact⟨this.1,this.2.1⟩
theorem zadm(x:bZ)(al:x.In K){aB:ar B}(bO:hd aB)(aJ:hK aB):a6 B 73 [x.v] [K,aB] (fun v S=>∃(o:fW) (z:Int),(kx x.c=0→Rz x.c o)∧v= .tuple #[o.v,aa z,aa (kx x.c)]∧S=[all (kR o),K,aB]):=by
 refine dN 76 Tryz.func73 fun ba bf=>?_
 have l3:=x.a9.small
 have Ep:=x.bd.small
 refine aj ?_
 refine eD (aF:=(b9 x)) fun ax=>?_
 refine fe fun aK=>?_
 refine ky ?_
 refine du (b9 x) ?_
 refine eR (GQ x al) ?_
 refine cp ?_
 refine bp (aa (iY x.c).1) ?_
 refine bp (aa (iY x.c).2) ?_
 refine aj ?_
 refine c2 ?_ ?_<;>intro ab
 ·refine gI ?_
  refine p0 xI 261 1 ?_
  refine p0 ku 190 2 ?_
  refine hr (sL (l:=[xJ (an.bt:an (an (Nat→Int))),xK (an.bt:an (Int×Int))]) aA) ?_
  refine aj ?_
  refine dA (.nil _) (Fx rfl rfl au ad (by rfl) rfl rfl) ?_
  have cn:kx x.c=(iY x.c).2:=by unfold kx;rw [if_neg ab]
  exact aO ⟨⟨an.bt,an.bt⟩,_,⟨fun q=>absurd (cn.symm.trans q) (by first|decide|assumption),by rw [cn];rfl,rfl⟩⟩
 have ai:=yW ab
 have c9:AX x.aw.l x.cA:=ai.aG
 have aj4:x.a9.l.length≤8:=by have:=ai.m;rw [show x.c.a9.length=x.a9.l.length from List.length_map _]at this;omega
 have ajl:x.bd.l.length≤24:=ai.e
 refine aj ?_
 refine fe fun bq=>?_
 refine DP ?_
 refine gE xI 261 1 ?_
 refine sa yR ?_
 refine ds (α:=Nat×an (an (Nat→Int))) (fun⟨i,cK⟩=>i≤x.a9.l.length∧cK.l.map (fun r=>r.l)=(x.a9.l.take i).map (fun m=>G9 x.aw.l m.aw)∧cK.Own∧(∀r∈cK.l,r.Own)∧∀m∈x.a9.l.take i,(p7 x.aw.l m.aw)=true) (fun⟨i,cK⟩=>[(29,aa (i:Int)),(1,ag ax),(2,ag aK),(3,ak),(4,ak),(7,ag bq),(28,aa (x.a9.l.length:Int))]) (fun⟨i,cK⟩=>[U ax (b9 x) 41,U aK [bw,bw] 164,U bq [az cK,bw] 164,xJ cK,all (xL cK.l),K,aB]) (fun⟨i,cK⟩=>x.a9.l.length-i) (0,an.bt) ?_ dq cd ?_
 ·exact⟨Nat.zero_le _,rfl,an.fk,fun r a4=>(by cases a4),fun m hm=>(by cases hm)⟩
 rintro⟨i,cK⟩ ⟨af,oO,wq,TG,lu⟩
 dsimp only
 have jZ:cK.l.length≤8:=by rw [←List.length_map (f:=fun r:an (Nat→Int)=>r.l),oO,List.length_map,List.length_take];omega
 refine aj ?_
 refine c2 ?_ ?_<;>intro ae
 ·obtain⟨m,hm⟩:=fp x.a9.l i
  have Mn:(b6 x.c (i:Int))=m.aw:=Xh ah (by rw [Int.toNat_natCast];exact hm)
  refine aj ?_
  refine cZ [U ax (b9 x) 41] ad aA ?_
  refine bj 0 rfl (ed (bK:=(b9 x)) rfl au ad rfl (by rfl)) ?_
  refine bj 1 rfl (ed (bK:=(b9 x)) rfl au ad rfl (by rfl)) ?_
  refine aY [2] ?_
  refine lB 3 (vS x al (i:Int)) ?_
  refine j0 4 (aee x al (b6 x.c (i:Int)) c9 bO aJ) ?_
  rintro _ _ ⟨r,z,⟨H6,Br⟩,rfl,rfl⟩
  refine bP ?_
  refine gv ?_
  refine aY [5] ?_
  refine bG 6 rfl (dD (v:=az r) rfl) ?_
  refine bG 7 rfl (dD (v:=aa z) rfl) ?_
  refine bG 8 rfl (dD (v:= .bool (p7 x.aw.l (b6 x.c (i:Int)))) rfl) ?_
  refine df [9,10,11,99] ?_
  refine c2 ?_ ?_<;>intro av
  ·refine gI ?_
   refine p0 xI 261 1 ?_
   refine p0 ku 190 2 ?_
   refine hr (sL (l:=[xJ (an.bt:an (an (Nat→Int))),xK (an.bt:an (Int×Int))]) aA) ?_
   refine aj ?_
   refine dA (.nil _) (Fx rfl rfl au ad (by rfl) rfl rfl) ?_
   have cn:kx x.c=180:=by unfold kx;rw [if_pos ab,if_neg (fun q=>by have:=List.all_eq_true.1 q (lr m) (List.mem_map.2 ⟨m,List.mem_of_getElem? hm,rfl⟩);rw [show p7 x.c.aw (lr m).1=p7 x.aw.l m.aw from rfl, ←Mn,av]at this;cases this)]
   exact aO ⟨⟨an.bt,an.bt⟩,_,⟨fun q=>absurd (cn.symm.trans q) (by first|decide|assumption),by rw [cn];rfl,rfl⟩⟩
  refine hi ?_
  refine dn (az cK) ?_
  refine aj ?_
  refine im (aF:=([r]:List (an (Nat→Int))).flatMap xI) .no rfl ad b2 b2 (by rfl) (by rfl) rfl rfl (fun bV=>?_)
  refine j7 (a2:=xI) (c:=cK) (b:=an.lit bV [r] (by simp)) .no rfl rfl ad au (show Out (U bV (([r]:List (an (Nat→Int))).flatMap xI) 261) _ _ from au) ir (fun _=>rfl) (fun _=>rfl) (by show cK.l.length+1≤_;omega) (by show(cK.l.length+1)*_≤_;omega) rfl (fun cI fH iH=>?_)
  refine ky ?_
  refine hr (yM (xV r) aA) ?_
  refine aj ?_
  rw [show(all (xV r::xL cK.l):ar B)=all (xL cI.l)from by rw [fH];unfold xL;rw [List.reverse_append];rfl]
  refine cE (i+1,cI) ?_
  (try dsimp only);exact⟨by omega,by rw [fH,List.map_append,oO,List.take_add_one,hm,List.map_append];show _++[r.l]=_++[G9 x.aw.l m.aw];rw [H6 av,Mn],iH,fun y aZ=>by(rw [fH]at aZ;rcases List.mem_append.1 aZ with q|q;exact TG y q;obtain rfl:=List.mem_singleton.1 q;exact Br),fun y aZ=>by(rw [List.take_add_one,hm]at aZ;rcases List.mem_append.1 aZ with q|q;exact lu y q;simp at q;subst q;rw [←Mn];exact av)⟩
 obtain rfl:i=x.a9.l.length:=by omega
 rw [List.take_of_length_le (Nat.le_refl _)]at oO lu
 have Sw:(x.c.a9.all fun p=>p7 x.c.aw p.1)=true:=List.all_eq_true.2 (fun p aC=>by obtain⟨m,hm,rfl⟩:=List.mem_map.1 aC;exact lu m hm)
 refine tx ?_
 refine tn ?_
 refine tp ?_
 refine to ?_
 refine fj ?_
 refine cC ?_
 refine cC ?_
 refine dz ?_
 refine ap (ia ad) ?_
 refine ap (da ad) ?_
 refine ap (Bt rfl ad) ?_
 refine ap (cj rfl) ?_
 refine e8 ?_
 refine mA ?_
 refine gE ku 190 2 ?_
 refine ds (α:=Nat×an (Int×Int)) (fun⟨i,ce⟩=>i≤x.bd.l.length∧ce.l=(x.bd.l.take i).map (fun e=>(iI x.c e).1)∧ce.Own∧∀e∈x.bd.l.take i,(iI x.c e).2=true) (fun⟨i,ce⟩=>[(55,aa (i:Int)),(1,ag ax),(2,ag aK),(3,ak),(4,ak),(7,ag bq),(54,aa (x.bd.l.length:Int))]) (fun⟨i,ce⟩=>[U ax (b9 x) 41,U aK [bw,bw] 164,U bq [az cK,az ce] 164,xJ cK,all (xL cK.l),xK ce,K,aB]) (fun⟨i,ce⟩=>x.bd.l.length-i) (0,an.bt) ?_ dq cd ?_
 ·exact⟨Nat.zero_le _,rfl,an.fk,fun e he=>(by cases he)⟩
 rintro⟨i,ce⟩ ⟨af,pO,zk,K5⟩
 dsimp only
 have ajm:ce.l.length≤24:=by rw [pO,List.length_map,List.length_take];omega
 refine gN ?_
 refine c2 ?_ ?_<;>intro aV
 ·obtain⟨e,he⟩:=fp x.bd.l i
  refine ic ?_
  refine fj ?_
  refine cC ?_
  refine mA ?_
  refine cC ?_
  refine dz ?_
  refine ap (cj rfl) ?_
  refine ap (cj rfl) ?_
  refine e8 ?_
  refine cC ?_
  refine dz ?_
  refine ap (ed (bK:=(b9 x)) rfl au ad rfl (by rfl)) ?_
  refine aj ?_
  refine eR (aek x al i e he (ai.VH (List.mem_of_getElem? he)) bO aJ) ?_
  refine cp ?_
  refine bp (.agg (ku (iI x.c e).1).toArray) ?_
  refine bp (.bool (iI x.c e).2) ?_
  refine de fun dp=>?_
  refine c2 ?_ ?_<;>intro bN
  ·refine gI ?_
   refine p0 xI 261 1 ?_
   refine p0 ku 190 2 ?_
   refine hr (sL (l:=[xJ (an.bt:an (an (Nat→Int))),xK (an.bt:an (Int×Int))]) aA) ?_
   refine aj ?_
   refine dA (.nil _) (Fx rfl rfl au ad (by rfl) rfl rfl) ?_
   have cn:kx x.c=190:=by unfold kx;rw [if_pos ab,if_pos Sw,if_neg (fun q=>by have:=List.all_eq_true.1 q e (List.mem_of_getElem? he);rw [bN]at this;cases this)]
   exact aO ⟨⟨an.bt,an.bt⟩,_,⟨fun q=>absurd (cn.symm.trans q) (by first|decide|assumption),by rw [cn];rfl,rfl⟩⟩
  refine hi ?_
  refine dn (az ce) ?_
  refine du (ku (iI x.c e).1) ?_
  refine im (aF:=([(iI x.c e).1]:List (Int×Int)).flatMap ku) .no rfl ad b2 b2 (by rfl) (by rfl) rfl rfl (fun ln=>?_)
  refine j7 (a2:=ku) (c:=ce) (b:=an.lit ln [(iI x.c e).1] (by simp)) .no rfl rfl ad au (show Out (U ln (([(iI x.c e).1]:List (Int×Int)).flatMap ku) 190) _ _ from au) ir (fun _=>rfl) (fun _=>rfl) (by show ce.l.length+1≤_;omega) (by show(ce.l.length+1)*_≤_;omega) rfl (fun cI fH iH=>?_)
  refine aj ?_
  refine cE (i+1,cI) ?_
  (try dsimp only);exact⟨by omega,by rw [fH,pO,List.take_add_one,he,List.map_append];rfl,iH,fun y aZ=>by(rw [List.take_add_one,he]at aZ;rcases List.mem_append.1 aZ with q|q;exact K5 y q;simp at q;subst q;exact bN)⟩
 obtain rfl:i=x.bd.l.length:=by omega
 rw [List.take_of_length_le (Nat.le_refl _)]at pO K5
 have ael:(x.c.bd.all fun e=>(iI x.c e).2)=true:=List.all_eq_true.2 K5
 refine tx ?_
 refine tn ?_
 refine tp ?_
 refine to ?_
 refine fj ?_
 refine cC ?_
 refine dz ?_
 refine hr (GG (l:=[xJ cK,xK ce]) (m:=xL cK.l) (show Take [xJ cK,xK ce,all (xL cK.l)] _ _ from aA)) ?_
 refine ap (ed rfl au ad rfl (by rfl)) ?_
 refine fq (kG rfl rfl rfl au ad rfl rfl) ?_
 refine ap (cj rfl) ?_
 refine ap (cj rfl) ?_
 refine e8 ?_
 refine nv ?_
 refine dA (.nil _) (Fx rfl rfl au ad (by rfl) rfl rfl) ?_
 have cn:kx x.c=0:=by unfold kx;rw [if_pos ab,if_pos Sw,if_pos ael]
 exact aO ⟨⟨cK,ce⟩,0,⟨fun _=>⟨by rw [oO];show _=(x.a9.l.map lr).map _;rw [List.map_map];rfl,pO,wq,zk,TG⟩,by rw [cn];rfl,rfl⟩⟩
abbrev DX(y:Nat→Int):Prop:=1≤y 0∧y 0≤16∧1≤y 1∧y 1≤3
abbrev Mo(y:Nat→Int)(l:an Int)(d:Int):List Value:=[aa (y 0),aa (y 1),az l,aa d]
abbrev yh(b:Nat)(y:Nat→Int):ar B:=U b [aa (y 0),aa (y 1),bw,ak] 356
abbrev uV(b:Nat):List Value:=[ag b]
abbrev eJ(a:an Nat):ar B:=eO a 289 1 uV
def q8(bX:List Nat)(cP:List (Nat→Int)):List (ar B):=(bX.zip cP).reverse.map fun p=>yh p.1 p.2
theorem ZV{bX:List Nat}{cP:List (Nat→Int)}{i b:Nat}{y:Nat→Int}(h:bX.length=i)(af:cP[i]?=some y):(q8 (bX++[b]) (cP.take (i+1)):List (ar B))=yh b y::q8 bX (cP.take i):=by
  have aE:=(List.getElem?_eq_some_iff.1 af).1
  unfold q8
  rw [List.take_add_one,af,List.zip_append (by rw [List.length_take];omega),List.reverse_append];rfl
theorem abS(y:Nat→Int):a6 B 202 [.agg (jX y).toArray] [] (fun v S=>v= .bool (decide (DX y))∧S=[]):=by
 refine bM 21 Tryz.func202 fun ba bf=>?_
 refine fX (aF:=jX y) fun ax=>?_
 refine cc ?_ ?_<;>intro ab
 ·refine cc ?_ ?_<;>intro ae
  ·refine cc ?_ ?_<;>intro av
   ·exact aO ⟨congrArg Value.bool (by first|exact decide_eq_decide.2 (by constructor<;>intro h<;>omega)|exact(decide_eq_false ah).symm),rfl⟩
   exact aO ⟨congrArg Value.bool (by first|exact decide_eq_decide.2 (by constructor<;>intro h<;>omega)|exact(decide_eq_false ah).symm),rfl⟩
  exact aO ⟨congrArg Value.bool (by first|exact decide_eq_decide.2 (by constructor<;>intro h<;>omega)|exact(decide_eq_false ah).symm),rfl⟩
 exact aO ⟨congrArg Value.bool (by first|exact decide_eq_decide.2 (by constructor<;>intro h<;>omega)|exact(decide_eq_false ah).symm),rfl⟩
theorem age(y:Nat→Int)(aZ:DX y):a6 B 133 [.agg (jX y).toArray] [] (fun v S=>∃b:Nat,v= .tuple #[ag b,ak]∧S=[yh b y]):=by
 refine bM 10 Tryz.func133 fun ba bf=>?_
 refine eD (aF:=jX y) fun ax=>?_
 refine ky ?_
 refine du (jX y) ?_
 refine gl (abS y) ?_
 refine c2 ?_ ?_<;>intro ab
 ·exact absurd aZ ch
 refine hi ?_
 refine du (jX y) ?_
 refine aj ?_
 refine fX (aF:=[aa (y 0),aa (y 1),bw,ak]) fun aK=>?_
 exact aO ⟨aK,rfl,rfl⟩
theorem Sx(q:an (Nat→Int))(bF:dI K q.bu (q.l.flatMap jX))(aV:se q.l):a6 B 88 [az q] [K] (fun v S=>∃a:an Nat,(a.l.length=q.l.length∧a.Own)∧v= .tuple #[az a,ak]∧S=[eJ a,all (q8 a.l q.l),K]):=by
 refine bM 32 Tryz.func88 fun ba bf=>?_
 refine c2 ?_ ?_<;>intro ab
 ·have:=aV.1;omega
 refine DQ ?_
 refine gE uV 289 1 ?_
 refine sa yR ?_
 refine ds (α:=Nat×an Nat) (fun⟨i,a⟩=>i≤q.l.length∧a.l.length=i∧a.Own) (fun⟨i,a⟩=>[(14,aa (i:Int)),(4,az a),(0,az q),(2,bw),(3,ak),(12,az q),(13,aa (q.l.length:Int))]) (fun⟨i,a⟩=>[eJ a,all (q8 a.l (q.l.take i)),K]) (fun⟨i,a⟩=>q.l.length-i) (0,an.bt) ?_ dq cd ?_
 ·exact⟨Nat.zero_le _,rfl,an.fk⟩
 rintro⟨i,a⟩ ⟨af,fT,cO⟩
 dsimp only
 have nI:=aV.1
 refine bT ?_ ?_<;>intro ae
 ·obtain⟨y,bl⟩:=fp q.l i
  refine aj ?_
  refine ap (jV (a2:=jX) (aN:=2) (i:=i) (fun _=>rfl) rfl au bF ad bl) ?_
  refine fe fun ax=>?_
  refine hi ?_
  refine du (jX y) ?_
  refine cm (age y (aV.2 y (List.mem_of_getElem? bl))) ?_
  rintro _ _ ⟨b,rfl,rfl⟩
  refine bP ?_
  refine cp ?_
  refine bp (ag b) ?_
  refine bp (ak) ?_
  refine nH ?_
  refine bD ?_ ?_<;>intro av
  ·first|cases av|exact absurd trivial av
  refine im (aF:=([b]:List Nat).flatMap uV) .no rfl ad b2 b2 (by rfl) (by rfl) rfl rfl (fun aK=>?_)
  refine j7 (a2:=uV) (c:=a) (b:=an.lit aK [b] (by simp)) .no rfl rfl ad au (show Out (U aK (([b]:List Nat).flatMap uV) 289) _ _ from au) ir (fun _=>rfl) (fun _=>rfl) (by show a.l.length+1≤_;omega) (by show(a.l.length+1)*_≤_;omega) rfl (fun cI fH iH=>?_)
  refine gN ?_
  refine hr (yM (yh b y) aA) ?_
  refine aj ?_
  rw [show(all (yh b y::q8 a.l (q.l.take i)):ar B)=all (q8 cI.l (q.l.take (i+1)))from by rw [fH];exact congrArg all (ZV fT bl).symm]
  refine cE (i+1,cI) ?_
  (try dsimp only);exact⟨by omega,by rw [fH,List.length_append,fT];rfl,iH⟩
 obtain rfl:i=q.l.length:=by omega
 refine aj ?_
 rw [List.take_of_length_le (Nat.le_refl _)]
 exact aO ⟨a,⟨fT,cO⟩,rfl,rfl⟩
structure iR where
  y:bZ
  o:fW
  mode:Int
  aT:Int
  phase:Int
  since:Int
  now:Int
  held:Int
  op:BitVec 32
  first:Value
  many:Int
abbrev hE(e:iR):List Value:=[aa e.y.cA,az e.y.aw,az e.y.a9,az e.y.bd,az e.o.a9,az e.o.bd,aa e.mode,aa e.aT,aa e.phase,aa e.since,aa e.now,aa e.held,aQ e.op.toNat,e.first,aa e.many]
def s0(e:iR):BitVec 32×BitVec 32:=match e.y.bd.l[e.aT.toNat]? with
  |some d=>(b6 e.y.c (d 0),b6 e.y.c (d 1))
  |none=>(0#32,0#32)
def jo(e:iR):BitVec 32:=if e.phase=3 then bQ (s0 e).1 (s0 e).2 else b6 e.y.c e.mode
abbrev DB(e:iR):Prop:=∃(i:Nat) (d:Nat→Int),e.aT=(i:Int)∧e.y.bd.l[i]?=some d
theorem CU{e:iR}{i:Nat}{d:Nat→Int}(h:e.aT=(i:Int))(aJ:e.y.bd.l[i]?=some d):s0 e=(b6 e.y.c (d 0),b6 e.y.c (d 1)):=by
  unfold s0;rw [h,Int.toNat_natCast,aJ]
def lF(y:bZ)(o:fW):iR:=⟨y,o,0,-1,0,0,0,-1,0#32,.pointer none,0⟩
abbrev RA(x:bZ):Prop:=x.aw.l.length≤64∧x.bd.l.length≤64∧x.a9.l.length≤64∧∀m∈x.a9.l,m.q.l.length≤64
theorem F5(p:Nat)(e:iR)(aZ:e.y.In K)(cn:DB e):a6 B 203 [ag p] [U p (hE e) 288,K] (fun v S=>v= .agg (lh (s0 e).1 (s0 e).2).toArray∧S=[U p (hE e) 288,K]):=by
 refine dN 12 Tryz.func203 fun ba bf=>?_
 obtain⟨i,d,af,aJ⟩:=cn
 refine aj ?_
 refine de fun ax=>?_
 refine cZ [U p (hE e) 288] ad aA ?_
 refine aY [0,1,2] ?_
 refine bj 3 rfl (ed (bK:=(b9 e.y)) rfl au ad rfl (by rfl)) ?_
 refine aY [4,5,6,7,108] ?_
 rw [af]
 refine nk (K4 e.y aZ i d aJ) ?_
 rintro _ _ ⟨rfl,rfl⟩
 refine bP ?_
 refine gv ?_
 refine df [109,99] ?_
 refine g2 ?_
 rw [CU af aJ]
 exact bJ
theorem Qp(p:Nat)(e:iR)(aZ:e.y.In K)(cn:e.phase=3→DB e):a6 B 134 [ag p] [U p (hE e) 288,K] (fun v S=>v=aQ (jo e).toNat∧S=[U p (hE e) 288,K]):=by
 refine bM 20 Tryz.func134 fun ba bf=>?_
 refine bD ?_ ?_<;>intro ab
 ·refine eR (F5 p e aZ (cn ab)) ?_
  refine gl (uT (s0 e).1 (s0 e).2) ?_
  rw [show jo e=_ from if_pos ab]
  exact bJ
 refine cZ [U p (hE e) 288] ad aA ?_
 refine aY [0,1,2] ?_
 refine bj 3 rfl (ed (bK:=(b9 e.y)) rfl au ad rfl (by rfl)) ?_
 refine aY [4,5,6,7] ?_
 refine gb 8 (vS e.y aZ e.mode) ?_
 refine df [9,99] ?_
 rw [show jo e=_ from if_neg ab]
 exact bJ
theorem agf(x:bZ)(al:x.In K)(By:RA x)(o:fW):a6 B 87 [x.v,o.v] [K] (fun v S=>∃(p:Nat) (y:bZ),(y.c=x.c∧y.Own)∧v=ag p∧S=[U p (hE (lF y o)) 288,all (fr y),K]):=by
 refine bM 10 Tryz.func87 fun ba bf=>?_
 refine eD (aF:=(b9 x)) fun ax=>?_
 refine fX (aF:=[az o.a9,az o.bd]) fun aK=>?_
 refine cZ [U ax (b9 x) 41,U aK [az o.a9,az o.bd] 164] ad aA ?_
 refine bj 0 rfl (ed (bK:=(b9 x)) rfl au ad rfl (by rfl)) ?_
 refine bj 2 rfl (ed (bK:=[az o.a9,az o.bd]) rfl au ad rfl (by rfl)) ?_
 refine j0 1 (Ss x al By) ?_
 rintro _ _ ⟨y,⟨nK,rv⟩,rfl,rfl⟩
 refine bP ?_
 refine gv ?_
 refine aY [3,104] ?_
 refine Q1 (aF:=hE (lF y o)) rfl .no rfl rfl rfl (fun zR=>?_)
 refine df [5,99] ?_
 exact aO ⟨zR,y,⟨nK,rv⟩,rfl,rfl⟩
structure fy where
  eB:Nat
  pd:BitVec 32
  y:bZ
  o:fW
  bm:Nat→Int
  dG:Nat→Int
  fh:Nat
  q:an Nat
  act:BitVec 32
  late:Int
  aX:Value
abbrev c7(k:fy):List Value:=[ag k.eB,aQ k.pd.toNat,aa k.y.cA,az k.y.aw,az k.y.a9,az k.y.bd,az k.o.a9,az k.o.bd,aa (k.bm 0),aa (k.bm 1),aa (k.bm 2),aa (k.bm 3),aa (k.bm 4),aa (k.bm 5),aa (k.bm 6),aa (k.bm 7),aa (k.bm 8),aa (k.bm 9),aa (k.bm 10),aa (k.bm 11),aa (k.bm 12),aa (k.bm 13),aa (k.bm 14),aa (k.bm 15),aa (k.dG 0),aa (k.dG 1),aa (k.dG 2),aa (k.dG 3),aa (k.dG 4),aa (k.dG 5),aa (k.dG 6),aa (k.dG 7),aa (k.dG 8),aa (k.dG 9),aa (k.dG 10),aa (k.dG 11),aa (k.dG 12),aa (k.dG 13),aa (k.dG 14),aa (k.dG 15),ag k.fh,az k.q,aQ k.act.toNat,aa k.late,k.aX]
theorem Pg(aG:List (Nat→Int))(s:BitVec 32)(r:Nat):0≤xD aG s r∧xD aG s r≤16:=by
  unfold xD
  cases h:(List.range 16).find? (wo aG s r)with
  |none=>simp
  |some i=>have:=List.mem_range.1 (List.mem_of_find?_eq_some h);simp;omega
def oJ(k:fy)(e:iR)(s:cf):cf:=if jo e=k.act then s else sQ s (fb k.y.aw.l (jo e))
theorem RB:jt iL:=⟨fun n=>⟨Int.le_refl _,(by show(0:Int)≤32;decide)⟩,fun i _=>an.fk,fun r _=>⟨(by show(0:Int)≤16;decide),Int.le_refl _⟩,fun i h=>by simp [hasB]at h,⟨by decide,by decide⟩,fun n aP=>by simp [hasB]⟩
theorem agh(p:Nat)(k:fy)(e:iR)(s:cf){b3 eS:ar B}(Mp:k.y.In b3)(Mq:e.y.In eS)(cn:e.phase=3→DB e)(a7:jt s){aB:ar B}(bO:hd aB)(aJ:hK aB):a6 B 89 [ag p] [U p (c7 k) 170,U k.eB (c5 s) 260,many 16 (eK s.aD),U k.fh (hE e) 288,b3,eS,aB] (fun v S=>v= .tuple #[]∧S=[U p (c7 {k with act:=(jo e)}) 170,U k.eB (c5 (oJ k e s)) 260,many 16 (eK s.aD),U k.fh (hE e) 288,b3,eS,aB]):=by
 refine bM 29 Tryz.func89 fun ba bf=>?_
 refine gH (Qp (K:=eS) k.fh e Mq cn) ?_
 refine bD ?_ ?_<;>intro ab
 ·refine cZ [U p (c7 {k with act:=(jo e)}) 170] ad aA ?_
  rw [show(U p [ag k.eB,aQ k.pd.toNat,aa k.y.cA,az k.y.aw,az k.y.a9,az k.y.bd,az k.o.a9,az k.o.bd,aa (k.bm 0),aa (k.bm 1),aa (k.bm 2),aa (k.bm 3),aa (k.bm 4),aa (k.bm 5),aa (k.bm 6),aa (k.bm 7),aa (k.bm 8),aa (k.bm 9),aa (k.bm 10),aa (k.bm 11),aa (k.bm 12),aa (k.bm 13),aa (k.bm 14),aa (k.bm 15),aa (k.dG 0),aa (k.dG 1),aa (k.dG 2),aa (k.dG 3),aa (k.dG 4),aa (k.dG 5),aa (k.dG 6),aa (k.dG 7),aa (k.dG 8),aa (k.dG 9),aa (k.dG 10),aa (k.dG 11),aa (k.dG 12),aa (k.dG 13),aa (k.dG 14),aa (k.dG 15),ag k.fh,az k.q,aQ (jo e).toNat,aa k.late,k.aX] 170:ar B)=U p (c7 {k with act:=(jo e)}) 170 from rfl]
  refine aY [0,1,2,3,4,5,6] ?_
  refine bj 7 rfl (ed (bK:=(b9 k.y)) rfl au ad rfl (by rfl)) ?_
  refine aY [8] ?_
  refine gb 9 (HW (lo:=b3) (K:=aB) k.y Mp (jo e) bO) ?_
  refine gb 10 (Sq (K:=aB) k.eB s (fb k.y.aw.l (jo e)) a7 (fun r _=>Pg _ _ _) bO aJ) ?_
  refine df [99] ?_
  have gr:¬jo e=k.act:=fun q=>ab (by rw [q])
  rw [show oJ k e s=_ from if_neg gr]
  exact bJ
 have wJ:jo e=k.act:=BitVec.eq_of_toNat_eq ah
 rw [show oJ k e s=s from if_pos wJ,show(U p (c7 {k with act:=(jo e)}) 170:ar B)=U p (c7 k) 170 from by rw [wJ]]
 exact bJ
abbrev BG(c:Nat)(y:bZ)(o:fW)(aiP aiQ:Value):List Value:=[ag c,db,aa y.cA,az y.aw,az y.a9,az y.bd,az o.a9,az o.bd,ak,ak,ak,ak,ak,ak,ak,ak,ak,ak,ak,ak,ak,ak,ak,ak,ak,ak,ak,ak,ak,ak,ak,ak,ak,ak,ak,ak,ak,ak,ak,ak,aiP,aiQ,db,ak,bw]
abbrev pP(c:Nat)(y:bZ)(o:fW)(lN:Nat)(q:an Nat):fy:=⟨c,0#32,y,o,fun _=>0,fun _=>0,lN,q,0#32,0,bw⟩
theorem CB{c:ck}(h:kx c=0):(iY c).2=0:=by
  unfold kx at h;split at h
  · assumption
  · exact absurd h (by assumption)
theorem Ph{x:bZ}(h:uS x.c):RA x:=by
  have ab:=h.t.2;have ae:=h.m.2;have av:=h.e
  rw [show x.c.a9.length=x.a9.l.length from List.length_map _]at ae
  exact⟨by show x.c.aw.length≤64;omega,by show x.c.bd.length≤64;omega,by omega,fun m hm=>by have:=(h.dX (lr m) (List.mem_map.2 ⟨m,hm,rfl⟩)).2.1;show(lr m).2.length≤64;omega⟩
def CC(p:Nat)(k:fy)(e:iR)(s:cf)(cP:List (Nat→Int)):List (ar B):=[U p (c7 k) 170,U k.eB (c5 s) 260,many 16 (eK s.aD),U k.fh (hE e) 288,all (fr k.y),all (fr e.y),all (kR k.o),eJ k.q,all (q8 k.q.l cP)]
structure agi(c:ck)(k:fy)(e:iR)(s:cf)(cP:List (Nat→Int)):Prop where
  y:k.y.c=c
  aiR:k.y.Own
  M9:e.y.c=c
  ahV:e.y.Own
  o:Rz c k.o
  er:∃q,k={pP k.eB k.y k.o k.fh q with act:=b6 c 0}∧q.Own∧q.l.length=cP.length
  aiS:e=lF e.y k.o
  th:s=if b6 c 0=0#32 then iL else sQ iL (fb c.aw (b6 c 0))
  cP:∃t,c.a9[0]?=some (t,cP)
def Aw(c:ck)(pe:Value)(hP:ar B):Prop:=∃(p:Nat) (k:fy) (e:iR) (s:cf) (cP:List (Nat→Int)),agi c k e s cP∧pe=ag p∧hP=all (CC p k e s cP)
theorem Gt{y:bZ}{c:ck}(h:y.c=c):y.aw.l=c.aw:=by rw [←h]
theorem Qq(x:bZ)(al:x.In K){aB:ar B}(bO:hd aB)(aJ:hK aB):a6 B 47 [x.v] [K,aB] (fun v S=>∃(pe:Value) (z:Int) (hP:ar B),((kx x.c=0→Aw x.c pe hP)∧(kx x.c≠0→pe= .pointer none))∧v= .tuple #[pe,aa z,aa (kx x.c)]∧S=[hP,K,aB]):=by
 refine bM 52 Tryz.func47 fun ba bf=>?_
 refine eD (aF:=(b9 x)) fun ax=>?_
 refine ky ?_
 refine du (b9 x) ?_
 refine cm (zadm x al bO aJ) ?_
 rintro _ _ ⟨o,z,aem,rfl,rfl⟩
 refine bP ?_
 refine cp ?_
 refine bp (.agg #[az o.a9,az o.bd]) ?_
 refine bp (aa z) ?_
 refine bp (aa (kx x.c)) ?_
 refine de fun aK=>?_
 refine c2 ?_ ?_<;>intro ab
 ·refine gI ?_
  refine hr yR ?_
  refine rm ?_
  refine dA (.nil _) (tu rfl rfl rfl rfl) ?_
  exact aO ⟨.pointer none,z,all [],⟨fun q=>absurd q ab,fun _=>rfl⟩,rfl,rfl⟩
 have ai:=yW (CB ab)
 have aq:=aem ab
 refine gI ?_
 refine jT (α:=Nat×bZ×Nat) (fun⟨c6,hy,p⟩=>hy.c=x.c∧hy.Own) (fun⟨c6,hy,p⟩=>[(8,ag p),(5,ag aK)]) (fun⟨c6,hy,p⟩=>[U p (BG c6 hy o (.pointer none) (bw)) 170,U c6 (c5 iL) 260,many 16 (eK iL.aD),all (fr hy),U aK [az o.a9,az o.bd] 164,all (kR o),K,aB]) ?_ ?_
 ·skip
  refine cZ [U ax (b9 x) 41,U aK [az o.a9,az o.bd] 164] ad aA ?_
  refine bj 1 rfl (ed (bK:=(b9 x)) rfl au ad rfl (by rfl)) ?_
  refine bj 3 rfl (ed (bK:=[az o.a9,az o.bd]) rfl au ad rfl (by rfl)) ?_
  refine j0 0 (af2) ?_
  rintro _ _ ⟨nQ,rfl,rfl⟩
  refine bP ?_
  refine gv ?_
  refine j0 2 (Ss x al (Ph ai)) ?_
  rintro _ _ ⟨nm,⟨nK,rv⟩,rfl,rfl⟩
  refine bP ?_
  refine gv ?_
  refine aY [4,105] ?_
  refine Q1 (aF:=BG nQ nm o (.pointer none) (bw)) rfl .no rfl rfl rfl (fun agj=>?_)
  refine aY [6,99] ?_
  exact ez (nQ,nm,agj) ⟨nK,rv⟩
 rintro⟨c6,hy,p⟩ ⟨pK,DY⟩
 refine aj ?_
 refine cZ [U p (BG c6 hy o (.pointer none) (bw)) 170,U aK [az o.a9,az o.bd] 164] ad aA ?_
 refine aY [0,1,2,3] ?_
 refine bj 4 rfl (ed (bK:=(b9 hy)) rfl au ad rfl (by rfl)) ?_
 refine bj 5 rfl (ed (bK:=[az o.a9,az o.bd]) rfl au ad rfl (by rfl)) ?_
 refine j0 6 (agf (K:=all (fr hy)) hy (tF DY) (Ph (pK▸ai)) o) ?_
 rintro _ _ ⟨lN,bL,⟨TH,TI⟩,rfl,rfl⟩
 refine bP ?_
 refine gv ?_
 refine bG 7 rfl (mz rfl) ?_
 refine bG 8 rfl (hn ad) ?_
 refine jx 9 ?_
 refine l4 rfl dy (js (k:=40) (ga:=BG c6 hy o (ag lN) (bw)) rfl rfl rfl au ad (by simp) rfl) ?_
 refine aY [99] ?_
 refine iK ?_
 have agk:0<hy.a9.l.length:=by have:=ai.m.1;rw [←pK,show hy.c.a9.length=hy.a9.l.length from List.length_map _]at this;exact this
 obtain⟨qQ,yi⟩:∃m,hy.a9.l[0]?=some m:=⟨_,List.getElem?_eq_getElem agk⟩
 have wR:x.c.a9[0]?=some (lr qQ):=by rw [←pK];show(hy.a9.l.map lr)[0]?=_;rw [List.getElem?_map,yi];rfl
 have ml:se qQ.q.l:=(ai.dX (lr qQ) (List.mem_of_getElem? wR)).2
 refine gN ?_
 refine ap (da (v:=az hy.a9) ad) ?_
 refine ap (jS (j:=0) rfl rfl ad (hy.a9).fl (rfl:(0:Int)=((0:Nat):Int)) (List.getElem?_eq_some_iff.1 yi).1 rfl) ?_
 refine aj ?_
 refine ap (eQ (a2:=gg) (aN:=2) (i:=0) (k:=1) (fun _=>rfl) rfl au (tF DY).a9 ad yi rfl) ?_
 refine cm (Sx (K:=all (fr hy)) qQ.q ((tF DY).rR qQ (List.mem_of_getElem? yi)) ml) ?_
 rintro _ _ ⟨dH,⟨UN,agl⟩,rfl,rfl⟩
 refine bP ?_
 refine cp ?_
 refine bp (az dH) ?_
 refine bp (ak) ?_
 refine gI ?_
 refine fq (js (k:=41) (ga:=BG c6 hy o (ag lN) (az dH)) rfl rfl rfl au ad (by simp) rfl) ?_
 refine aj ?_
 rw [show(U p (BG c6 hy o (ag lN) (az dH)) 170:ar B)=U p (c7 (pP c6 hy o lN dH)) 170 from rfl]
 refine eR (agh (b3:=all (fr hy)) (eS:=all (fr bL)) p (pP c6 hy o lN dH) (lF bL o) iL (tF DY) (tF TI) (fun q=>by cases q) RB bO aJ) ?_
 refine iK ?_
 refine hr (sL (l:=[U p (c7 {(pP c6 hy o lN dH)with act:=jo (lF bL o)}) 170,U c6 (c5 (oJ (pP c6 hy o lN dH) (lF bL o) iL)) 260,many 16 (eK iL.aD),U lN (hE (lF bL o)) 288,all (fr hy),all (fr bL),all (kR o),eJ dH,all (q8 dH.l qQ.q.l)]) cd) ?_
 refine ky ?_
 refine dA (.nil _) (tu rfl rfl rfl rfl) ?_
 have zn:jo (lF bL o)=b6 x.c 0:=by show(if(0:Int)=3 then _ else b6 bL.c 0)=_;rw [if_neg b2,TH,pK]
 have Ex:(oJ (pP c6 hy o lN dH) (lF bL o) iL).aD=iL.aD:=by unfold oJ;split<;>rfl
 have Ey:all (CC (B:=B) p {(pP c6 hy o lN dH)with act:=jo (lF bL o)} (lF bL o) (oJ (pP c6 hy o lN dH) (lF bL o) iL) qQ.q.l)=all [U p (c7 {(pP c6 hy o lN dH)with act:=jo (lF bL o)}) 170,U c6 (c5 (oJ (pP c6 hy o lN dH) (lF bL o) iL)) 260,many 16 (eK iL.aD),U lN (hE (lF bL o)) 288,all (fr hy),all (fr bL),all (kR o),eJ dH,all (q8 dH.l qQ.q.l)]:=by unfold CC;rw [Ex];rfl
 have ahW:Aw x.c (ag p) (all [U p (c7 {(pP c6 hy o lN dH)with act:=jo (lF bL o)}) 170,U c6 (c5 (oJ (pP c6 hy o lN dH) (lF bL o) iL)) 260,many 16 (eK iL.aD),U lN (hE (lF bL o)) 288,all (fr hy),all (fr bL),all (kR o),eJ dH,all (q8 dH.l qQ.q.l)]:ar B):=⟨p,{(pP c6 hy o lN dH)with act:=jo (lF bL o)},lF bL o,(oJ (pP c6 hy o lN dH) (lF bL o) iL),qQ.q.l,⟨pK,DY,TH.trans pK,TI,aq,⟨dH,by rw [zn],agl,UN⟩,rfl,by unfold oJ;rw [zn];show(if b6 x.c 0=0#32 then iL else sQ iL (fb hy.aw.l (b6 x.c 0)))=_;rw [Gt pK],⟨qQ.aw,wR⟩⟩,rfl,Ey.symm⟩
 exact aO ⟨ag p,0,all [U p (c7 {(pP c6 hy o lN dH)with act:=jo (lF bL o)}) 170,U c6 (c5 (oJ (pP c6 hy o lN dH) (lF bL o) iL)) 260,many 16 (eK iL.aD),U lN (hE (lF bL o)) 288,all (fr hy),all (fr bL),all (kR o),eJ dH,all (q8 dH.l qQ.q.l)],⟨fun _=>ahW,fun q=>absurd ab q⟩,by rw [ab],rfl⟩
def py(d:br)(ay:Nat→b7):List Nat:=
  if hQ d (ay 0)=true∧hQ d (ay 1)=true then(if(ev d (ay 0) 0).seq.toNat<(ev d (ay 1) 1).seq.toNat then [1,0]else [0,1])
  else(if hQ d (ay 0)=true then [0]else [])++(if hQ d (ay 1)=true then [1]else [])
abbrev wS:=an (BitVec 32)×an (BitVec 32)
abbrev fZ(x:wS)(j:Nat):an (BitVec 32):=if j=0 then x.1 else x.2
abbrev v8(d:br)(ay:Nat→b7)(x:wS)(j:Nat):List Value:=[.agg (g0 (ev d (ay j) j) (fZ x j)).toArray]
def lU(d:br)(ay:Nat→b7)(x:wS):List (List Value):=(py d ay).map (v8 d ay x)
abbrev uW(d:br)(ay:Nat→b7)(x:wS):Prop:=(x.1.l=(ev d (ay 0) 0).l∧x.1.Own)∧x.2.l=(ev d (ay 1) 1).l∧x.2.Own
theorem Ym{d:br}{ay:Nat→b7}{x:wS}(b5:hQ d (ay 0)=true)(ab:hQ d (ay 1)=true)(h:((ev d (ay 1) 1).seq.toNat:Int)>((ev d (ay 0) 0).seq.toNat:Int)):lU d ay x=[v8 d ay x 1,v8 d ay x 0]:=by
  unfold lU py;rw [if_pos ⟨b5,ab⟩,if_pos (by omega)];rfl
theorem Yn{d:br}{ay:Nat→b7}{x:wS}(b5:hQ d (ay 0)=true)(ab:hQ d (ay 1)=true)(h:((ev d (ay 1) 1).seq.toNat:Int)≤((ev d (ay 0) 0).seq.toNat:Int)):lU d ay x=[v8 d ay x 0,v8 d ay x 1]:=by
  unfold lU py;rw [if_pos ⟨b5,ab⟩,if_neg (by omega)];rfl
theorem Yo{d:br}{ay:Nat→b7}{x:wS}(b5:hQ d (ay 0)=true)(ab:hQ d (ay 1)=false):lU d ay x=[v8 d ay x 0]:=by
  unfold lU py;rw [if_neg (by rw [ab];simp),if_pos b5,if_neg (by rw [ab];decide)];rfl
theorem Yp{d:br}{ay:Nat→b7}{x:wS}(b5:hQ d (ay 0)=false)(ab:hQ d (ay 1)=true):lU d ay x=[v8 d ay x 1]:=by
  unfold lU py;rw [if_neg (by rw [b5];simp),if_neg (by rw [b5];decide),if_pos ab];rfl
theorem Yq{d:br}{ay:Nat→b7}{x:wS}(b5:hQ d (ay 0)=false)(ab:hQ d (ay 1)=false):lU d ay x=[]:=by
  unfold lU py;rw [if_neg (by rw [b5];simp),if_neg (by rw [b5];decide),if_neg (by rw [ab];decide)];rfl
theorem abT(c bi p:Nat)(Q:Nat→Nat)(d:br)(h:dB d)(ay:Nat→b7)(ai:∀i,i<2→dK d (ay i))(z:Int)(s3:hQ d (ay 0)=true)(s4:hQ d (ay 1)=true):A7 Tryz.prog B 79 [ag c] [U c [ag bi] 114] [U bi [ag p,ag (Q 0),ag (Q 1),aa z] 200,U (Q 0) (bE p (ay 0)) 273,U (Q 1) (bE p (ay 1)) 273,U p (bH d) 196,cu d] (uW d ay) (lU d ay) (fun x=>[cR x.1,cR x.2]):=by
 intro cr J hc cV g7 aZ
 refine dN 50 Tryz.func79 fun ba bf=>?_
 refine bP ?_
 refine GH (L:=U c [ag bi] 114::U bi [ag p,ag (Q 0),ag (Q 1),aa z] 200::U (Q 0) (bE p (ay 0)) 273::U (Q 1) (bE p (ay 1)) 273::U p (bH d) 196::cu d::cV) aA ?_
 refine gI ?_
 refine dn (ag bi) ?_
 refine cm (vQ bi p Q d h ay 0 (by decide) (ai 0 (by decide)) z) ?_
 rintro _ _ ⟨dZ,⟨yj,xW⟩,rfl,rfl⟩
 refine bP ?_
 rw [s3]
 refine cp ?_
 refine bp (.agg (g0 (ev d (ay 0) 0) dZ).toArray) ?_
 refine bp (.bool true) ?_
 refine fe fun ax=>?_
 refine gN ?_
 refine dn (ag bi) ?_
 refine cm (vQ bi p Q d h ay 1 (by decide) (ai 1 (by decide)) z) ?_
 rintro _ _ ⟨dk,⟨jL,xX⟩,rfl,rfl⟩
 refine bP ?_
 rw [s4]
 refine cp ?_
 refine bp (.agg (g0 (ev d (ay 1) 1) dk).toArray) ?_
 refine bp (.bool true) ?_
 refine de fun aK=>?_
 refine c2 ?_ ?_<;>intro ab
 ·refine cp ?_
  refine du (g0 (ev d (ay 1) 1) dk) ?_
  refine du (g0 (ev d (ay 0) 0) dZ) ?_
  refine Ls ?_
  refine du (g0 (ev d (ay 1) 1) dk) ?_
  have al:uW d ay (dZ,dk):=⟨⟨yj,xW⟩,jL,xX⟩
  have jI:=Ym (x:=(dZ,dk)) s3 s4 ab
  have fa:=aZ (dZ,dk) 0 _ al (by rw [jI];simp) (g7 (dZ,dk) al)
  rw [jI]at fa
  refine yN (L:=U c [ag bi] 114::U ax (g0 (ev d (ay 1) 1) dk) 124::U aK (g0 (ev d (ay 0) 0) dZ) 124::cR dZ::cR dk::U bi [ag p,ag (Q 0),ag (Q 1),aa z] 200::U (Q 0) (bE p (ay 0)) 273::U (Q 1) (bE p (ay 1)) 273::U p (bH d) 196::cu d::cV) aA ?_
  refine hr (gK.pre (K:=[U c [ag bi] 114,U ax (g0 (ev d (ay 1) 1) dk) 124,U aK (g0 (ev d (ay 0) 0) dZ) 124]) (C8 [cR dZ,cR dk,U bi [ag p,ag (Q 0),ag (Q 1),aa z] 200,U (Q 0) (bE p (ay 0)) 273,U (Q 1) (bE p (ay 1)) 273,U p (bH d) 196,cu d] cV)) ?_
  refine bP ?_
  refine iq (own:=[U c [ag bi] 114,U ax (g0 (ev d (ay 1) 1) dk) 124,U aK (g0 (ev d (ay 0) 0) dZ) 124]) (hM:=cV++([cR dZ,cR dk]++[U bi [ag p,ag (Q 0),ag (Q 1),aa z] 200,U (Q 0) (bE p (ay 0)) 273,U (Q 1) (bE p (ay 1)) 273,U p (bH d) 196,cu d])) .no rfl rfl fa rfl ?_
  rintro jP bh aC
  refine cx ?_
  refine pJ ?_ ?_<;>intro ae
  ·refine cp ?_
   refine du (g0 (ev d (ay 0) 0) dZ) ?_
   have lE:J (dZ,dk) 1 bh:=(aC.resolve_right (fun q=>by have:=q.1;simp_all)).2
   have DZ:=aZ (dZ,dk) 1 bh al (by rw [jI];simp) lE
   rw [jI]at DZ
   refine iq (own:=[U c [ag bi] 114,U ax (g0 (ev d (ay 1) 1) dk) 124,U aK (g0 (ev d (ay 0) 0) dZ) 124]) (hM:=bh) (.yes 37 rfl rfl rfl) rfl rfl DZ rfl ?_
   rintro ahX cS iy
   refine cx ?_
   exact⟨U c [ag bi] 114::cS,⟨(dZ,dk),al,cS,rfl,iy.elim (fun q=> .inl (by rw [jI];exact q.2)) (fun q=> .inr ⟨1,(by rw [jI];simp),q.2⟩)⟩,_,cd⟩
  refine aj ?_
  exact⟨U c [ag bi] 114::bh,⟨(dZ,dk),al,bh,rfl,.inr ⟨0,(by rw [jI];simp),(aC.resolve_left (fun q=>by have:=q.1;simp_all)).2⟩⟩,_,cd⟩
 refine DQ ?_
 refine du (g0 (ev d (ay 0) 0) dZ) ?_
 have al:uW d ay (dZ,dk):=⟨⟨yj,xW⟩,jL,xX⟩
 have jI:=Yn (x:=(dZ,dk)) s3 s4 ab
 have fa:=aZ (dZ,dk) 0 _ al (by rw [jI];simp) (g7 (dZ,dk) al)
 rw [jI]at fa
 refine yN (L:=U c [ag bi] 114::U ax (g0 (ev d (ay 0) 0) dZ) 124::U aK (g0 (ev d (ay 1) 1) dk) 124::cR dZ::cR dk::U bi [ag p,ag (Q 0),ag (Q 1),aa z] 200::U (Q 0) (bE p (ay 0)) 273::U (Q 1) (bE p (ay 1)) 273::U p (bH d) 196::cu d::cV) aA ?_
 refine hr (gK.pre (K:=[U c [ag bi] 114,U ax (g0 (ev d (ay 0) 0) dZ) 124,U aK (g0 (ev d (ay 1) 1) dk) 124]) (C8 [cR dZ,cR dk,U bi [ag p,ag (Q 0),ag (Q 1),aa z] 200,U (Q 0) (bE p (ay 0)) 273,U (Q 1) (bE p (ay 1)) 273,U p (bH d) 196,cu d] cV)) ?_
 refine bP ?_
 refine iq (own:=[U c [ag bi] 114,U ax (g0 (ev d (ay 0) 0) dZ) 124,U aK (g0 (ev d (ay 1) 1) dk) 124]) (hM:=cV++([cR dZ,cR dk]++[U bi [ag p,ag (Q 0),ag (Q 1),aa z] 200,U (Q 0) (bE p (ay 0)) 273,U (Q 1) (bE p (ay 1)) 273,U p (bH d) 196,cu d])) .no rfl rfl fa rfl ?_
 rintro jP bh aC
 refine cx ?_
 refine pJ ?_ ?_<;>intro av
 ·refine cp ?_
  refine du (g0 (ev d (ay 1) 1) dk) ?_
  have lE:J (dZ,dk) 1 bh:=(aC.resolve_right (fun q=>by have:=q.1;simp_all)).2
  have DZ:=aZ (dZ,dk) 1 bh al (by rw [jI];simp) lE
  rw [jI]at DZ
  refine iq (own:=[U c [ag bi] 114,U ax (g0 (ev d (ay 0) 0) dZ) 124,U aK (g0 (ev d (ay 1) 1) dk) 124]) (hM:=bh) (.yes 37 rfl rfl rfl) rfl rfl DZ rfl ?_
  rintro ahX cS iy
  refine cx ?_
  exact⟨U c [ag bi] 114::cS,⟨(dZ,dk),al,cS,rfl,iy.elim (fun q=> .inl (by rw [jI];exact q.2)) (fun q=> .inr ⟨1,(by rw [jI];simp),q.2⟩)⟩,_,cd⟩
 refine aj ?_
 exact⟨U c [ag bi] 114::bh,⟨(dZ,dk),al,bh,rfl,.inr ⟨0,(by rw [jI];simp),(aC.resolve_left (fun q=>by have:=q.1;simp_all)).2⟩⟩,_,cd⟩
theorem abU(c bi p:Nat)(Q:Nat→Nat)(d:br)(h:dB d)(ay:Nat→b7)(ai:∀i,i<2→dK d (ay i))(z:Int)(s3:hQ d (ay 0)=true)(s4:hQ d (ay 1)=false):A7 Tryz.prog B 79 [ag c] [U c [ag bi] 114] [U bi [ag p,ag (Q 0),ag (Q 1),aa z] 200,U (Q 0) (bE p (ay 0)) 273,U (Q 1) (bE p (ay 1)) 273,U p (bH d) 196,cu d] (uW d ay) (lU d ay) (fun x=>[cR x.1,cR x.2]):=by
 intro cr J hc cV g7 aZ
 refine dN 50 Tryz.func79 fun ba bf=>?_
 refine bP ?_
 refine GH (L:=U c [ag bi] 114::U bi [ag p,ag (Q 0),ag (Q 1),aa z] 200::U (Q 0) (bE p (ay 0)) 273::U (Q 1) (bE p (ay 1)) 273::U p (bH d) 196::cu d::cV) aA ?_
 refine gI ?_
 refine dn (ag bi) ?_
 refine cm (vQ bi p Q d h ay 0 (by decide) (ai 0 (by decide)) z) ?_
 rintro _ _ ⟨dZ,⟨yj,xW⟩,rfl,rfl⟩
 refine bP ?_
 rw [s3]
 refine cp ?_
 refine bp (.agg (g0 (ev d (ay 0) 0) dZ).toArray) ?_
 refine bp (.bool true) ?_
 refine fe fun ax=>?_
 refine gN ?_
 refine dn (ag bi) ?_
 refine cm (vQ bi p Q d h ay 1 (by decide) (ai 1 (by decide)) z) ?_
 rintro _ _ ⟨dk,⟨jL,xX⟩,rfl,rfl⟩
 refine bP ?_
 rw [s4]
 refine cp ?_
 refine bp (.agg (g0 (ev d (ay 1) 1) dk).toArray) ?_
 refine bp (.bool false) ?_
 refine fe fun aK=>?_
 refine afI ?_
 refine du (g0 (ev d (ay 0) 0) dZ) ?_
 have al:uW d ay (dZ,dk):=⟨⟨yj,xW⟩,jL,xX⟩
 have jI:=Yo (x:=(dZ,dk)) s3 s4
 have fa:=aZ (dZ,dk) 0 _ al (by rw [jI];simp) (g7 (dZ,dk) al)
 rw [jI]at fa
 refine yN (L:=U c [ag bi] 114::U ax (g0 (ev d (ay 0) 0) dZ) 124::U aK (g0 (ev d (ay 1) 1) dk) 124::cR dZ::cR dk::U bi [ag p,ag (Q 0),ag (Q 1),aa z] 200::U (Q 0) (bE p (ay 0)) 273::U (Q 1) (bE p (ay 1)) 273::U p (bH d) 196::cu d::cV) aA ?_
 refine hr (gK.pre (K:=[U c [ag bi] 114,U ax (g0 (ev d (ay 0) 0) dZ) 124,U aK (g0 (ev d (ay 1) 1) dk) 124]) (C8 [cR dZ,cR dk,U bi [ag p,ag (Q 0),ag (Q 1),aa z] 200,U (Q 0) (bE p (ay 0)) 273,U (Q 1) (bE p (ay 1)) 273,U p (bH d) 196,cu d] cV)) ?_
 refine bP ?_
 refine iq (own:=[U c [ag bi] 114,U ax (g0 (ev d (ay 0) 0) dZ) 124,U aK (g0 (ev d (ay 1) 1) dk) 124]) (hM:=cV++([cR dZ,cR dk]++[U bi [ag p,ag (Q 0),ag (Q 1),aa z] 200,U (Q 0) (bE p (ay 0)) 273,U (Q 1) (bE p (ay 1)) 273,U p (bH d) 196,cu d])) .no rfl rfl fa rfl ?_
 rintro jP bh aC
 refine cx ?_
 exact⟨U c [ag bi] 114::bh,⟨(dZ,dk),al,bh,rfl,aC.elim (fun q=> .inl (by rw [jI];exact q.2)) (fun q=> .inr ⟨0,(by rw [jI];simp),q.2⟩)⟩,_,cd⟩
theorem abV(c bi p:Nat)(Q:Nat→Nat)(d:br)(h:dB d)(ay:Nat→b7)(ai:∀i,i<2→dK d (ay i))(z:Int)(s3:hQ d (ay 0)=false)(s4:hQ d (ay 1)=true):A7 Tryz.prog B 79 [ag c] [U c [ag bi] 114] [U bi [ag p,ag (Q 0),ag (Q 1),aa z] 200,U (Q 0) (bE p (ay 0)) 273,U (Q 1) (bE p (ay 1)) 273,U p (bH d) 196,cu d] (uW d ay) (lU d ay) (fun x=>[cR x.1,cR x.2]):=by
 intro cr J hc cV g7 aZ
 refine dN 50 Tryz.func79 fun ba bf=>?_
 refine bP ?_
 refine GH (L:=U c [ag bi] 114::U bi [ag p,ag (Q 0),ag (Q 1),aa z] 200::U (Q 0) (bE p (ay 0)) 273::U (Q 1) (bE p (ay 1)) 273::U p (bH d) 196::cu d::cV) aA ?_
 refine gI ?_
 refine dn (ag bi) ?_
 refine cm (vQ bi p Q d h ay 0 (by decide) (ai 0 (by decide)) z) ?_
 rintro _ _ ⟨dZ,⟨yj,xW⟩,rfl,rfl⟩
 refine bP ?_
 rw [s3]
 refine cp ?_
 refine bp (.agg (g0 (ev d (ay 0) 0) dZ).toArray) ?_
 refine bp (.bool false) ?_
 refine fe fun ax=>?_
 refine gN ?_
 refine dn (ag bi) ?_
 refine cm (vQ bi p Q d h ay 1 (by decide) (ai 1 (by decide)) z) ?_
 rintro _ _ ⟨dk,⟨jL,xX⟩,rfl,rfl⟩
 refine bP ?_
 rw [s4]
 refine cp ?_
 refine bp (.agg (g0 (ev d (ay 1) 1) dk).toArray) ?_
 refine bp (.bool true) ?_
 refine fe fun aK=>?_
 refine fq (kG rfl rfl rfl au ad rfl rfl) ?_
 refine ap (cj rfl) ?_
 refine e8 ?_
 refine cC ?_
 refine cC ?_
 refine dz ?_
 refine ap (cj rfl) ?_
 refine ap (cj rfl) ?_
 refine jw 18 ?_
 refine ap (cj rfl) ?_
 refine ap (cj rfl) ?_
 refine jw 21 ?_
 refine jw 21 ?_
 refine jw 21 ?_
 refine jw 21 ?_
 refine jw 21 ?_
 refine ap (cj rfl) ?_
 refine e8 ?_
 refine uz rfl rfl ?_
 refine ic ?_
 refine fj ?_
 refine cC ?_
 refine cC ?_
 refine dz ?_
 refine ap (cj rfl) ?_
 refine ap (cj rfl) ?_
 refine jw 31 ?_
 refine ap (cj rfl) ?_
 refine e8 ?_
 refine uz rfl rfl ?_
 refine ic ?_
 refine fj ?_
 refine cC ?_
 refine cC ?_
 refine dz ?_
 refine ap (cj rfl) ?_
 refine e8 ?_
 refine uz rfl rfl ?_
 refine ic ?_
 refine fj ?_
 refine cC ?_
 refine dz ?_
 refine ap (cj rfl) ?_
 refine e8 ?_
 refine Cp rfl rfl ?_
 refine dz ?_
 refine ap (cj rfl) ?_
 refine ap (ed (bK:=g0 (ev d (ay 1) 1) dk) rfl au ad rfl (by rfl)) ?_
 have al:uW d ay (dZ,dk):=⟨⟨yj,xW⟩,jL,xX⟩
 have jI:=Yp (x:=(dZ,dk)) s3 s4
 have fa:=aZ (dZ,dk) 0 _ al (by rw [jI];simp) (g7 (dZ,dk) al)
 rw [jI]at fa
 refine yN (L:=U c [ag bi] 114::U ax (g0 (ev d (ay 0) 0) dZ) 124::U aK (g0 (ev d (ay 1) 1) dk) 124::cR dZ::cR dk::U bi [ag p,ag (Q 0),ag (Q 1),aa z] 200::U (Q 0) (bE p (ay 0)) 273::U (Q 1) (bE p (ay 1)) 273::U p (bH d) 196::cu d::cV) aA ?_
 refine hr (gK.pre (K:=[U c [ag bi] 114,U ax (g0 (ev d (ay 0) 0) dZ) 124,U aK (g0 (ev d (ay 1) 1) dk) 124]) (C8 [cR dZ,cR dk,U bi [ag p,ag (Q 0),ag (Q 1),aa z] 200,U (Q 0) (bE p (ay 0)) 273,U (Q 1) (bE p (ay 1)) 273,U p (bH d) 196,cu d] cV)) ?_
 refine bP ?_
 refine iq (own:=[U c [ag bi] 114,U ax (g0 (ev d (ay 0) 0) dZ) 124,U aK (g0 (ev d (ay 1) 1) dk) 124]) (hM:=cV++([cR dZ,cR dk]++[U bi [ag p,ag (Q 0),ag (Q 1),aa z] 200,U (Q 0) (bE p (ay 0)) 273,U (Q 1) (bE p (ay 1)) 273,U p (bH d) 196,cu d])) .no rfl rfl fa rfl ?_
 rintro jP bh aC
 refine cx ?_
 exact⟨U c [ag bi] 114::bh,⟨(dZ,dk),al,bh,rfl,aC.elim (fun q=> .inl (by rw [jI];exact q.2)) (fun q=> .inr ⟨0,(by rw [jI];simp),q.2⟩)⟩,_,cd⟩
theorem abW(c bi p:Nat)(Q:Nat→Nat)(d:br)(h:dB d)(ay:Nat→b7)(ai:∀i,i<2→dK d (ay i))(z:Int)(s3:hQ d (ay 0)=false)(s4:hQ d (ay 1)=false):A7 Tryz.prog B 79 [ag c] [U c [ag bi] 114] [U bi [ag p,ag (Q 0),ag (Q 1),aa z] 200,U (Q 0) (bE p (ay 0)) 273,U (Q 1) (bE p (ay 1)) 273,U p (bH d) 196,cu d] (uW d ay) (lU d ay) (fun x=>[cR x.1,cR x.2]):=by
 intro cr J hc cV g7 aZ
 refine dN 50 Tryz.func79 fun ba bf=>?_
 refine bP ?_
 refine GH (L:=U c [ag bi] 114::U bi [ag p,ag (Q 0),ag (Q 1),aa z] 200::U (Q 0) (bE p (ay 0)) 273::U (Q 1) (bE p (ay 1)) 273::U p (bH d) 196::cu d::cV) aA ?_
 refine gI ?_
 refine dn (ag bi) ?_
 refine cm (vQ bi p Q d h ay 0 (by decide) (ai 0 (by decide)) z) ?_
 rintro _ _ ⟨dZ,⟨yj,xW⟩,rfl,rfl⟩
 refine bP ?_
 rw [s3]
 refine cp ?_
 refine bp (.agg (g0 (ev d (ay 0) 0) dZ).toArray) ?_
 refine bp (.bool false) ?_
 refine fe fun ax=>?_
 refine gN ?_
 refine dn (ag bi) ?_
 refine cm (vQ bi p Q d h ay 1 (by decide) (ai 1 (by decide)) z) ?_
 rintro _ _ ⟨dk,⟨jL,xX⟩,rfl,rfl⟩
 refine bP ?_
 rw [s4]
 refine cp ?_
 refine bp (.agg (g0 (ev d (ay 1) 1) dk).toArray) ?_
 refine bp (.bool false) ?_
 refine fe fun aK=>?_
 refine fq (kG rfl rfl rfl au ad rfl rfl) ?_
 refine ap (cj rfl) ?_
 refine e8 ?_
 refine cC ?_
 refine cC ?_
 refine dz ?_
 refine ap (cj rfl) ?_
 refine ap (cj rfl) ?_
 refine jw 18 ?_
 refine ap (cj rfl) ?_
 refine ap (cj rfl) ?_
 refine jw 21 ?_
 refine jw 21 ?_
 refine jw 21 ?_
 refine jw 21 ?_
 refine jw 21 ?_
 refine ap (cj rfl) ?_
 refine e8 ?_
 refine uz rfl rfl ?_
 refine ic ?_
 refine fj ?_
 refine cC ?_
 refine cC ?_
 refine dz ?_
 refine ap (cj rfl) ?_
 refine ap (cj rfl) ?_
 refine jw 31 ?_
 refine ap (cj rfl) ?_
 refine e8 ?_
 refine uz rfl rfl ?_
 refine ic ?_
 refine fj ?_
 refine cC ?_
 refine cC ?_
 refine dz ?_
 refine ap (cj rfl) ?_
 refine e8 ?_
 refine uz rfl rfl ?_
 refine ic ?_
 refine fj ?_
 refine cC ?_
 refine dz ?_
 refine yN (L:=U c [ag bi] 114::cR dZ::cR dk::U bi [ag p,ag (Q 0),ag (Q 1),aa z] 200::U (Q 0) (bE p (ay 0)) 273::U (Q 1) (bE p (ay 1)) 273::U p (bH d) 196::cu d::cV) aA ?_
 refine hr (gK.pre (K:=[U c [ag bi] 114]) (C8 [cR dZ,cR dk,U bi [ag p,ag (Q 0),ag (Q 1),aa z] 200,U (Q 0) (bE p (ay 0)) 273,U (Q 1) (bE p (ay 1)) 273,U p (bH d) 196,cu d] cV)) ?_
 refine cx ?_
 have al:uW d ay (dZ,dk):=⟨⟨yj,xW⟩,jL,xX⟩
 have jI:=Yq (x:=(dZ,dk)) s3 s4
 exact⟨U c [ag bi] 114::(cV++[cR dZ,cR dk,U bi [ag p,ag (Q 0),ag (Q 1),aa z] 200,U (Q 0) (bE p (ay 0)) 273,U (Q 1) (bE p (ay 1)) 273,U p (bH d) 196,cu d]),⟨(dZ,dk),al,cV++[cR dZ,cR dk,U bi [ag p,ag (Q 0),ag (Q 1),aa z] 200,U (Q 0) (bE p (ay 0)) 273,U (Q 1) (bE p (ay 1)) 273,U p (bH d) 196,cu d],rfl,.inl (by rw [jI];exact g7 (dZ,dk) al)⟩,_,cd⟩
theorem Qr(c bi p:Nat)(Q:Nat→Nat)(d:br)(h:dB d)(ay:Nat→b7)(ai:∀i,i<2→dK d (ay i))(z:Int):A7 Tryz.prog B 79 [ag c] [U c [ag bi] 114] [U bi [ag p,ag (Q 0),ag (Q 1),aa z] 200,U (Q 0) (bE p (ay 0)) 273,U (Q 1) (bE p (ay 1)) 273,U p (bH d) 196,cu d] (uW d ay) (lU d ay) (fun x=>[cR x.1,cR x.2]):=by
  cases b5:hQ d (ay 0)with
  |true=>cases ab:hQ d (ay 1)with
    |true=>exact abT c bi p Q d h ay ai z b5 ab
    |false=>exact abU c bi p Q d h ay ai z b5 ab
  |false=>cases ab:hQ d (ay 1)with
    |true=>exact abV c bi p Q d h ay ai z b5 ab
    |false=>exact abW c bi p Q d h ay ai z b5 ab
theorem Qs(bi:Nat):a6 B 45 [ag bi] [] (fun v S=>∃c:Nat,v= .func (.func 79) #[] #[ag c]∧S=[U c [ag bi] 114]):=by
 refine bM 4 Tryz.func45 fun ba bf=>?_
 refine fX fun ax=>?_
 exact aO ⟨ax,rfl,rfl⟩
abbrev eo(p:Nat)(cH co:Value)(w:an (BitVec 32))(seq:BitVec 32)(c8:Int):List Value:=[ag p,cH,co,az w,aQ seq.toNat,aa c8]
abbrev xY(d:br)(z:Bool):br:=⟨d.words,d.jz,d.a,d.g,d.b,d.wr,z,d.qa,d.a8,d.kd,d.ops⟩
abbrev D0(d:br)(n:Int)(x:BitVec 32):br:=⟨d.words,d.jz,d.a,d.g,d.b,d.wr,d.on,true,max n 0,x,d.ops⟩
def mD(l:List (BitVec 32)):Bool:=match lg l with
  |some c=>decide (kx c=0)
  |none=>false
theorem Ju{l:List (BitVec 32)}(h:¬pC l=0):mD l=false:=by
  unfold pC at h;unfold mD
  cases aJ:lg l with
  |some c=>rw [aJ]at h;exact absurd rfl h
  |none=>rfl
theorem KE{l:List (BitVec 32)}(h:pC l=0):∃c,lg l=some c:=by
  unfold pC at h
  cases aJ:lg l with
  |some c=>exact⟨c,rfl⟩
  |none=>rw [aJ]at h;cases h
theorem abX(l:an (BitVec 32))(aE:dI K l.bu (l.l.flatMap dh)){aB:ar B}(bO:hd aB)(aJ:hK aB):a6 B 61 [az l] [K,aB] (fun v S=>v= .bool (mD l.l)∧S=[K,aB]):=by
 refine bM 20 Tryz.func61 fun ba bf=>?_
 refine cm (JW l aE bO) ?_
 rintro _ _ ⟨y,⟨aZ,rv⟩,rfl,rfl⟩
 refine bP ?_
 refine cp ?_
 refine bp (.agg #[aa y.cA,az y.aw,az y.a9,az y.bd]) ?_
 refine bp (aa (pC l.l)) ?_
 refine de fun ax=>?_
 refine c2 ?_ ?_<;>intro ab
 ·refine aj ?_
  rw [Ju ab]
  exact bJ
 refine hi ?_
 refine du (b9 y) ?_
 refine cm (zadm (K:=all (fr y)) y (tF rv) bO aJ) ?_
 rintro _ _ ⟨o,z,aq,rfl,rfl⟩
 refine bP ?_
 refine cp ?_
 refine bp (.agg #[az o.a9,az o.bd]) ?_
 refine bp (aa z) ?_
 refine bp (aa (kx y.c)) ?_
 refine aj ?_
 obtain⟨c,a7⟩:=KE ab
 have aH:mD l.l=(kx y.c==0):=by unfold mD;rw [a7,aZ c a7];exact(Bool.eq_iff_iff.2 (by simp))
 rw [aH]
 exact bJ
theorem LI(q p:Nat)(w:an (BitVec 32))(seq:BitVec 32)(c8:Int)(cH co:Value)(d:br):a6 B 17 [ag q] [U q (eo p (cH) (co) w seq c8) 116,U p (bH d) 196] (fun v S=>v= .tuple #[]∧S=[U q (eo p (.pointer none) (.pointer none) w seq c8) 116,U p (bH (xY d false)) 196]):=by
 refine bM 13 Tryz.func17 fun ba bf=>?_
 refine cm (Ks p d false) ?_
 rintro _ _ rfl
 refine bP ?_
 exact oi
theorem TJ(q p:Nat)(w:an (BitVec 32))(seq:BitVec 32)(c8:Int)(cH co:Value)(d:br)(n:Int)(x:BitVec 32):a6 B 15 [ag q,.agg #[aa n,aQ x.toNat]] [U q (eo p (cH) (co) w seq c8) 116,U p (bH d) 196] (fun v S=>v= .tuple #[]∧S=[U q (eo p (cH) (co) w seq c8) 116,U p (bH (D0 d n x)) 196]):=by
 refine bM 10 Tryz.func15 fun ba bf=>?_
 refine fX (aF:=[aa n,aQ x.toNat]) fun ax=>?_
 refine cZ [U q (eo p (cH) (co) w seq c8) 116,U ax [aa n,aQ x.toNat] 52] ad aA ?_
 refine aY [0,1,2,3] ?_
 refine bj 4 rfl (ed (bK:=[aa n,aQ x.toNat]) rfl au ad rfl (by rfl)) ?_
 refine j0 5 (afK p d n x) ?_
 rintro _ _ rfl
 refine bP ?_
 refine gv ?_
 refine df [99] ?_
 exact bJ
theorem abY(q p:Nat)(w:an (BitVec 32))(seq:BitVec 32)(c8:Int)(cH:Value)(dc:Nat)(hw:dI K w.bu (w.l.flatMap dh))(BH:w.l.length≤100000):a6 B 49 [ag q] [U q (eo p (cH) (ag dc) w seq c8) 116,K] (fun v S=>∃a:an (BitVec 32),(a.l=w.l∧a.Own)∧v= .tuple #[az a,aQ seq.toNat,.bool true]∧S=[cR a,U q (eo p (cH) (ag dc) w seq c8) 116,K]):=by
 refine dN 19 Tryz.func49 fun ba bf=>?_
 refine gE dh 42 1 ?_
 refine aj ?_
 refine cZ [U q (eo p (cH) (ag dc) w seq c8) 116] ad aA ?_
 refine aY [0,1,2,3,5,6,7,8,104] ?_
 refine p1 (a2:=dh) (c:=(an.bt:an (BitVec 32))) (b:=w) rfl .no rfl rfl ad au dy (show Out K _ _ from au) hw (fun _=>rfl) (fun _=>rfl) (by show 0+w.l.length≤_;omega) (by show(0+w.l.length)*_≤_;omega) rfl (fun a a5 cO=>?_)
 refine aY [9,10,11,99] ?_
 refine gI ?_
 refine dA (.nil _) (tu rfl rfl rfl rfl) ?_
 exact aO ⟨a,⟨by rw [a5];rfl,cO⟩,rfl,rfl⟩
theorem Ob{n W L:Nat}{a:an (BitVec 32)}{b:an Int}(aP:1≤n∧n≤64)(w1:1≤W∧W≤1024)(eM:L≤1048576)(a5:a.l.length=n*W)(cO:a.Own)(aR:b.l.length=n)(o3:b.Own):dB (pi W L a b):=
  ⟨by show 1≤b.l.length∧b.l.length≤64;omega,w1,by show a.l.length=b.l.length*W;rw [a5,aR],eM,cO,o3,⟨by show(0:Int)≤0;omega,by show(0:Int)≤1000000000;omega⟩,⟨by show(0:Int)≤0;omega,by show(0:Int)≤9223372036854775807;omega⟩,fun k=>⟨by show(0:Int)≤0;omega,by show(0:Int)≤2000000;omega⟩⟩
theorem CV{d:br}{m i:Nat}(hm:3≤m)(af:i<2)(aJ:m*2≤d.b.l.length)(hw:13≤d.words):dK d (lZ m i):=
  ⟨⟨hm,by show i*m+m≤_;rcases(show i=0∨i=1 by omega)with rfl|rfl<;>omega⟩,hw,by show 0≤4096;omega,by show(0:Int)≤0;omega,by show(0:Int)≤4*((0:Nat):Int);omega⟩
abbrev ry(W L:Nat)(a:an (BitVec 32))(b:an Int)(l:List (BitVec 32)):br:=xY (jb (pi W L a b) (lZ (b.l.length/2) 0) l).1 false
abbrev dE(d:br):Nat→b7:=lZ (d.b.l.length/2)
abbrev bx(d:br):br:=xY d true
abbrev ix(d:br)(j:Nat):Lu:=ev (bx d) (dE d j) j
def oC(d:br):Option Nat:=(py (bx d) (dE d)).find? fun j=>mD (ix d j).l
def nZ(d:br):Int:=match oC d with
  |none=>90
  |some j=>(dJ (bx d) (dE d j)).2.1
def fc(d:br):br:=match oC d with
  |none=>bx d
  |some j=>(dJ (bx d) (dE d j)).1
theorem Jv{d:br}{ay:Nat→b7}{j:Nat}(h:j∈py d ay):j<2∧hQ d (ay j)=true:=by
  unfold py at h
  split at h
  · rename_i q
    split at h
    · simp at h;rcases h with rfl|rfl
      · exact⟨by decide,q.2⟩
      · exact⟨by decide,q.1⟩
    · simp at h;rcases h with rfl|rfl
      · exact⟨by decide,q.1⟩
      · exact⟨by decide,q.2⟩
  · rcases List.mem_append.1 h with h|h
    · split at h
      · rename_i q;simp at h;subst h;exact⟨by decide,q⟩
      · cases h
    · split at h
      · rename_i q;simp at h;subst h;exact⟨by decide,q⟩
      · cases h
theorem Qt{d:br}{k:b7}{j:Nat}(h:hQ d k=true):(ev d k j).i=j:=by unfold ev;rw [if_pos h]
theorem Pj{d:br}{k:b7}(h:(dJ d k).2.1=0):(dJ d k).2.2=true:=by
  unfold dJ at*
  split at h
  · split at h
    · split at h
      · rename_i ab ae av;rw [if_pos ab,if_pos ae,if_pos av]
      · split at h
        · rename_i ab ae av aV;rw [if_pos ab,if_pos ae,if_neg av,if_pos aV]
        · rename_i ab ae av aV;exact absurd h aV
    · cases h
  · cases h
theorem Pk{d:br}{k:b7}(h:dB d)(aq:d.ops≤900000000):(dJ d k).1.b=d.b∧(dJ d k).1.wr=d.wr:=by
  unfold dJ
  split
  · split
    · split
      · exact⟨rfl,rfl⟩
      · split
        · exact⟨(Kv h aq).b,Rg d k⟩
        · exact⟨(Kv h aq).b,Rg d k⟩
    · exact⟨rfl,rfl⟩
  · exact⟨rfl,rfl⟩
theorem GS{d:br}{z:Bool}(h:dB d):dB (xY d z):=⟨h.s,h.w,h.n,h.rn,h.oj,h.e1,h.ops,h.a8,h.x6⟩
theorem Pl{l:List (BitVec 32)}{c:ck}(h:lg l=some c)(a5:¬kx c=0):mD l=false:=by unfold mD;rw [h];exact decide_eq_false a5
theorem CD{l:List (BitVec 32)}{c:ck}(h:lg l=some c)(a5:kx c=0):mD l=true:=by unfold mD;rw [h];exact decide_eq_true a5
theorem GU{d:br}{i j:Nat}(aI:(py (bx d) (dE d))[i]?=some j)(aH:mD (ix d j).l=true)(cN:∀k,k∈(py (bx d) (dE d)).take i→mD (ix d k).l=false):oC d=some j:=by
 obtain⟨af,bl⟩:=List.getElem?_eq_some_iff.1 aI
 unfold oC
 rw [List.find?_eq_some_iff_getElem]
 refine⟨aH,i,af,bl,fun k ai=>?_⟩
 rw [cN _ (by rw [List.mem_take_iff_getElem];exact⟨k,by omega,rfl⟩)];rfl
theorem RC{d:br}(cN:∀k,k∈py (bx d) (dE d)→mD (ix d k).l=false):oC d=none:=by
  unfold oC;rw [List.find?_eq_none];intro k ai;rw [cN k ai];decide
theorem Jw{d:br}{j:Nat}(h:oC d=some j):j<2∧hQ (bx d) (dE d j)=true:=Jv (List.mem_of_find?_eq_some h)
abbrev gG(Q:Nat→Nat)(p:Nat)(d:br)(j:Nat):ar B:=U (Q j) (bE p (dE d j)) 273
abbrev TK(bi p:Nat)(Q:Nat→Nat)(d:br)(j:Nat)(z:Int)(w:an (BitVec 32)):List (ar B):=[U bi [ag p,ag (Q 0),ag (Q 1),aa z] 200,gG Q p d j,gG Q p d (1-j),cR w]
structure Di(p:Nat)(d:br)(cH co:Value)(w:an (BitVec 32))(seq:BitVec 32)(mu:ar B):Prop where
  on:nZ d=0→∃(bi:Nat) (Q:Nat→Nat) (dc j:Nat),oC d=some j∧cH=ag bi∧co=ag dc∧w.l=(ix d j).l∧w.Own∧seq=(ix d j).seq∧mu=all (TK bi p Q d j (j:Int) w)
  off:nZ d≠0→cH= .pointer none∧co= .pointer none
def KF(d:br)(co:Value)(hP:ar B):Prop:=nZ d=0→∃(j:Nat) (c:ck),oC d=some j∧lg (ix d j).l=some c∧Aw c co hP
theorem abZ(q p:Nat)(w:an (BitVec 32))(seq:BitVec 32)(c8:Int)(d:br)(h:dB d)(vi:d.on=false)(kv:d.ops≤800000000)(c0:6≤d.b.l.length)(hw:13≤d.words)(aR:0≤c8∧c8≤100000){aB:ar B}(bO:dI aB ⟨0,0,none⟩ (rZ.map fun m=> .int .u8 m))(aJ:hK aB):di Tryz.prog B 18 [.pointer (some ⟨q,0,none⟩)] [U q (eo p (.pointer none) (.pointer none) w seq (c8)) 116,U p (bH d) 196,row (.slice d.a.bn d.a.l.length d.a.c) 42 1 d.a.l.length ((cW d.a.l.length d.g).flatMap dh),row (.slice d.b.bn d.b.l.length d.b.c) 3 1 d.b.l.length ((cW d.b.l.length d.wr).flatMap ea),aB] (fun v S=>∃(cH co:Value) (j2:an (BitVec 32)) (dW:BitVec 32) (mu hP:ar B),(Di p d cH co j2 dW mu∧KF d co hP)∧v= .int .i64 (nZ d)∧S=[U q (eo p cH co j2 dW (c8+1)) 116,U p (bH (fc d)) 196,row (.slice (fc d).a.bn (fc d).a.l.length (fc d).a.c) 42 1 (fc d).a.l.length ((cW (fc d).a.l.length (fc d).g).flatMap dh),row (.slice (fc d).b.bn (fc d).b.l.length (fc d).b.c) 3 1 (fc d).b.l.length ((cW (fc d).b.l.length (fc d).wr).flatMap ea),mu,hP,aB]):=by
 refine dN 89 Tryz.func18 fun ba bf=>?_
 refine sa yR ?_
 have b5:dB (bx d):=GS h
 have x5:∀i,i<2→dK (bx d) (dE d i):=fun i af=>CV (by show 3≤d.b.l.length/2;omega) af (by show d.b.l.length/2*2≤d.b.l.length;omega) hw
 refine aj ?_
 refine eD (aF:=[.pointer (some ⟨q,0,none⟩)]) fun ax=>?_
 refine de fun aK=>?_
 refine Aq ?_
 refine aj ?_
 refine eR (x7 p d) ?_
 rw [vi]
 refine aj ?_
 refine cm (Ks p d true) ?_
 rintro _ _ rfl
 refine cx ?_
 refine cm (KY p (bx d) b5 c0 hw) ?_
 rintro _ _ ⟨bi,Q,rfl,rfl⟩
 refine bP ?_
 refine cp ?_
 refine bp (.pointer (some ⟨bi,0,none⟩)) ?_
 refine bp (.int .i64 0) ?_
 refine fe fun bq=>?_
 refine nH ?_
 refine bD ?_ ?_<;>intro ab
 ·first|omega|simp at ab
 refine CK ?_
 refine aj ?_
 refine cm (Qs bi) ?_
 rintro _ _ ⟨c,rfl,rfl⟩
 refine cx ?_
 refine ON (own:=[U c [.pointer (some ⟨bi,0,none⟩)] 114]) (V:=[U bi [.pointer (some ⟨p,0,none⟩),.pointer (some ⟨Q 0,0,none⟩),.pointer (some ⟨Q 1,0,none⟩),.int .i64 (-1)] 200,gG Q p d 0,gG Q p d 1,U p (bH (bx d)) 196,row (.slice (bx d).a.bn (bx d).a.l.length (bx d).a.c) 42 1 (bx d).a.l.length ((cW (bx d).a.l.length (bx d).g).flatMap dh)]) (cV:=[U ax [.pointer (some ⟨q,0,none⟩)] 49,U aK [.int .i64 0] 53,U q (eo p (.pointer none) (.pointer none) w seq (c8+1)) 116,U bq [.pointer (some ⟨bi,0,none⟩)] 114,row (.slice (bx d).b.bn (bx d).b.l.length (bx d).b.c) 3 1 (bx d).b.l.length ((cW (bx d).b.l.length (bx d).wr).flatMap ea),aB]) rfl fF (Qr c bi p Q (bx d) b5 (dE d) x5 (-1)) (fun x i S=>(∀k,k∈(py (bx d) (dE d)).take i→mD (ix d k).l=false)∧∃m,m<2∧S=[U ax [.pointer (some ⟨q,0,none⟩)] 49,U aK [.int .i64 0] 53,U q (eo p (.pointer none) (.pointer none) w seq (c8+1)) 116,U bq [.pointer (some ⟨bi,0,none⟩)] 114,row (.slice (bx d).b.bn (bx d).b.l.length (bx d).b.c) 3 1 (bx d).b.l.length ((cW (bx d).b.l.length (bx d).wr).flatMap ea),aB,cR (fZ x m),cR (fZ x (1-m)),U bi [.pointer (some ⟨p,0,none⟩),.pointer (some ⟨Q 0,0,none⟩),.pointer (some ⟨Q 1,0,none⟩),.int .i64 (-1)] 200,gG Q p d m,gG Q p d (1-m),U p (bH (bx d)) 196,row (.slice (bx d).a.bn (bx d).a.l.length (bx d).a.c) 42 1 (bx d).a.l.length ((cW (bx d).a.l.length (bx d).g).flatMap dh)]) (fun x c i S=>c= .ret∧∃(j:Nat) (cH co:Value) (j2:an (BitVec 32)) (dW:BitVec 32) (hP:ar B),oC d=some j∧((dJ (bx d) (dE d j)).2.1=0→cH= .pointer (some ⟨bi,0,none⟩)∧(∃dc:Nat,co= .pointer (some ⟨dc,0,none⟩))∧j2=fZ x j∧dW=(ix d j).seq)∧((dJ (bx d) (dE d j)).2.1≠0→cH= .pointer none∧co= .pointer none)∧((dJ (bx d) (dE d j)).2.1=0→∃nm,lg (ix d j).l=some nm∧Aw nm co hP)∧S=[U ax [.pointer (some ⟨q,0,none⟩)] 49,U aK [.int .i64 (dJ (bx d) (dE d j)).2.1] 53,U q (eo p (cH) (co) j2 dW (c8+1)) 116,row (.slice (bx d).b.bn (bx d).b.l.length (bx d).b.c) 3 1 (bx d).b.l.length ((cW (bx d).b.l.length (bx d).wr).flatMap ea),aB,cR (fZ x j),U bi [.pointer (some ⟨p,0,none⟩),.pointer (some ⟨Q 0,0,none⟩),.pointer (some ⟨Q 1,0,none⟩),.int .i64 (if(dJ (bx d) (dE d j)).2.2=true then(j:Int)else(-1))] 200,gG Q p d j,gG Q p d (1-j),U p (bH ((dJ (bx d) (dE d j)).1)) 196,row (.slice (dJ (bx d) (dE d j)).1.a.bn (dJ (bx d) (dE d j)).1.a.l.length (dJ (bx d) (dE d j)).1.a.c) 42 1 (dJ (bx d) (dE d j)).1.a.l.length ((cW (dJ (bx d) (dE d j)).1.a.l.length (dJ (bx d) (dE d j)).1.g).flatMap dh),hP]) (show Take [U c [.pointer (some ⟨bi,0,none⟩)] 114,U ax [.pointer (some ⟨q,0,none⟩)] 49,U aK [.int .i64 0] 53,U q (eo p (.pointer none) (.pointer none) w seq (c8+1)) 116,U bq [.pointer (some ⟨bi,0,none⟩)] 114,row (.slice (bx d).b.bn (bx d).b.l.length (bx d).b.c) 3 1 (bx d).b.l.length ((cW (bx d).b.l.length (bx d).wr).flatMap ea),aB,U bi [.pointer (some ⟨p,0,none⟩),.pointer (some ⟨Q 0,0,none⟩),.pointer (some ⟨Q 1,0,none⟩),.int .i64 (-1)] 200,gG Q p d 0,gG Q p d 1,U p (bH (bx d)) 196,row (.slice (bx d).a.bn (bx d).a.l.length (bx d).a.c) 42 1 (bx d).a.l.length ((cW (bx d).a.l.length (bx d).g).flatMap dh)] _ _ from aA) (fun x al=>⟨fun k ai=>(by cases ai),0,by decide,rfl⟩) rfl (fun x al y aZ=>by obtain⟨j,_,rfl⟩:=List.mem_map.1 aZ;rfl) ?_ ?_ ?_
 ·intro x cr rec j3 i bh al af bo
  obtain⟨cN,m,qA,rfl⟩:=bo
  unfold lU at af
  rw [List.length_map]at af
  obtain⟨j,b0⟩:∃j,(py (bx d) (dE d))[i]?=some j:=⟨_,List.getElem?_eq_getElem af⟩
  obtain⟨lz,vj⟩:=Jv (List.mem_of_getElem? b0)
  rw [show(lU (bx d) (dE d) x).getD i []=v8 (bx d) (dE d) x j from by unfold lU;simp [List.getD,b0]]
  obtain⟨fT,cO⟩:(fZ x j).l=(ix d j).l∧(fZ x j).Own:=by rcases(show j=0∨j=1 by omega)with rfl|rfl;exact al.1;exact al.2
  refine AP (fun j=>cR (fZ x j)) lz qA aA ?_
  refine AP (fun j=>gG Q p d j) lz qA aA ?_
  refine aj ?_
  refine de fun bV=>?_
  refine⟨rfl,_,_,.cons au (Take.self _),fun hz=>?_⟩
  refine hi ?_
  refine dn (.slice (fZ x j).bn (fZ x j).l.length (fZ x j).c) ?_
  refine cm (JW (K:=cR (fZ x j)) (fZ x j) (dT cO rfl) bO) ?_
  rintro _ _ ⟨y,⟨aZ,rv⟩,rfl,rfl⟩
  refine bP ?_
  rw [fT]
  refine cp ?_
  refine bp (.agg #[.int .i64 y.cA,.slice y.aw.bn y.aw.l.length y.aw.c,.slice y.a9.bn y.a9.l.length y.a9.c,.slice y.bd.bn y.bd.l.length y.bd.c]) ?_
  refine bp (.int .i64 (pC (ix d j).l)) ?_
  refine de fun dp=>?_
  refine c2 ?_ ?_<;>intro ae
  ·refine aj ?_
   exact⟨[U ax [.pointer (some ⟨q,0,none⟩)] 49,U aK [.int .i64 0] 53,U q (eo p (.pointer none) (.pointer none) w seq (c8+1)) 116,U bq [.pointer (some ⟨bi,0,none⟩)] 114,row (.slice (bx d).b.bn (bx d).b.l.length (bx d).b.c) 3 1 (bx d).b.l.length ((cW (bx d).b.l.length (bx d).wr).flatMap ea),aB,cR (fZ x j),cR (fZ x (1-j)),U bi [.pointer (some ⟨p,0,none⟩),.pointer (some ⟨Q 0,0,none⟩),.pointer (some ⟨Q 1,0,none⟩),.int .i64 (-1)] 200,gG Q p d j,gG Q p d (1-j),U p (bH (bx d)) 196,row (.slice (bx d).a.bn (bx d).a.l.length (bx d).a.c) 42 1 (bx d).a.l.length ((cW (bx d).a.l.length (bx d).g).flatMap dh)],_,aA,⟨fun k ai=>(by rw [List.take_add_one,b0]at ai;rcases List.mem_append.1 ai with q|q;exact cN k q;simp at q;subst q;exact Ju ch),j,lz,rfl⟩⟩
  obtain⟨nm,nK⟩:=KE ae
  have fa:y.c=nm:=aZ _ (by rw [fT];exact nK)
  refine ic ?_
  refine fj ?_
  refine cC ?_
  refine dz ?_
  refine ap (ed (bK:=[.int .i64 y.cA,.slice y.aw.bn y.aw.l.length y.aw.c,.slice y.a9.bn y.a9.l.length y.a9.c,.slice y.bd.bn y.bd.l.length y.bd.c]) rfl au ad rfl (by rfl)) ?_
  refine cm (Qq (K:=all (fr y)) y (tF rv) bO aJ) ?_
  rintro _ _ ⟨pe,c3,hP,⟨fz,oe⟩,rfl,rfl⟩
  refine bP ?_
  refine cp ?_
  refine bp pe ?_
  refine bp (.int .i64 c3) ?_
  refine bp (.int .i64 (kx y.c)) ?_
  refine aj ?_
  refine c2 ?_ ?_<;>intro av
  ·refine aj ?_
   exact⟨[U ax [.pointer (some ⟨q,0,none⟩)] 49,U aK [.int .i64 0] 53,U q (eo p (.pointer none) (.pointer none) w seq (c8+1)) 116,U bq [.pointer (some ⟨bi,0,none⟩)] 114,row (.slice (bx d).b.bn (bx d).b.l.length (bx d).b.c) 3 1 (bx d).b.l.length ((cW (bx d).b.l.length (bx d).wr).flatMap ea),aB,cR (fZ x j),cR (fZ x (1-j)),U bi [.pointer (some ⟨p,0,none⟩),.pointer (some ⟨Q 0,0,none⟩),.pointer (some ⟨Q 1,0,none⟩),.int .i64 (-1)] 200,gG Q p d j,gG Q p d (1-j),U p (bH (bx d)) 196,row (.slice (bx d).a.bn (bx d).a.l.length (bx d).a.c) 42 1 (bx d).a.l.length ((cW (bx d).a.l.length (bx d).g).flatMap dh)],_,aA,⟨fun k ai=>(by rw [List.take_add_one,b0]at ai;rcases List.mem_append.1 ai with q|q;exact cN k q;simp at q;subst q;exact Pl nK (by rw [←fa];assumption)),j,lz,rfl⟩⟩
  obtain⟨Ab,_,_,_,_,_,Mr,_⟩:=fz av
  subst Mr
  refine ic ?_
  refine fj ?_
  refine cC ?_
  refine cC ?_
  refine dz ?_
  refine ap (da ad) ?_
  refine ap (ia ad) ?_
  refine ap (ft (v:= .int .i64 ((ix d j).i:Int)) rfl au ad (by rfl)) ?_
  rw [show(ix d j).i=j from Qt vj]
  refine gH (Qf bi p Q (bx d) b5 (dE d) j lz (x5 j lz) (-1)) ?_
  refine bD ?_ ?_<;>intro aV
  ·exact⟨[U ax [.pointer (some ⟨q,0,none⟩)] 49,U aK [.int .i64 (dJ (bx d) (dE d j)).2.1] 53,U q (eo p (.pointer none) (.pointer none) w seq (c8+1)) 116,row (.slice (bx d).b.bn (bx d).b.l.length (bx d).b.c) 3 1 (bx d).b.l.length ((cW (bx d).b.l.length (bx d).wr).flatMap ea),aB,cR (fZ x j),U bi [.pointer (some ⟨p,0,none⟩),.pointer (some ⟨Q 0,0,none⟩),.pointer (some ⟨Q 1,0,none⟩),.int .i64 (if(dJ (bx d) (dE d j)).2.2=true then(j:Int)else(-1))] 200,gG Q p d j,gG Q p d (1-j),U p (bH ((dJ (bx d) (dE d j)).1)) 196,row (.slice (dJ (bx d) (dE d j)).1.a.bn (dJ (bx d) (dE d j)).1.a.l.length (dJ (bx d) (dE d j)).1.a.c) 42 1 (dJ (bx d) (dE d j)).1.a.l.length ((cW (dJ (bx d) (dE d j)).1.a.l.length (dJ (bx d) (dE d j)).1.g).flatMap dh),hP],_,aA,⟨rfl,j,.pointer none,.pointer none,w,seq,hP,GU b0 (CD nK (by rw [←fa];assumption)) cN,fun q=>absurd q ch,fun _=>⟨rfl,rfl⟩,fun q=>absurd q ch,rfl⟩⟩
  refine k3 [U ax [.pointer (some ⟨q,0,none⟩)] 49,U bq [.pointer (some ⟨bi,0,none⟩)] 114,U bV (g0 (ix d j) (fZ x j)) 124] ad aA ?_
  refine aY [0,1,2,3,4,5,6] ?_
  refine bj 7 rfl (da (v:= .slice (fZ x j).bn (fZ x j).l.length (fZ x j).c) ad) ?_
  refine aY [8] ?_
  refine bj 9 rfl (da (v:= .int .u32 (ix d j).seq.toNat) ad) ?_
  refine aY [10,11,112] ?_
  refine mC rfl .no dy (jr rfl rfl rfl au ad kC) aA ?_
  refine aY [13,14,115] ?_
  refine mC rfl .no dy (jr rfl rfl rfl au ad kC) aA ?_
  refine aY [16,17,118] ?_
  refine mC rfl .no dy (jr rfl rfl rfl au ad kC) aA ?_
  refine aY [19,20,121] ?_
  refine mC rfl .no dy (jr rfl rfl rfl au ad kC) aA ?_
  refine df [99] ?_
  have Ez:(dJ (bx d) (dE d j)).2.1=0:=by assumption
  rw [show(U aK [.int .i64 0] 53:ar B)=U aK [.int .i64 (dJ (bx d) (dE d j)).2.1] 53 from by rw [Ez]]
  exact⟨[U ax [.pointer (some ⟨q,0,none⟩)] 49,U aK [.int .i64 (dJ (bx d) (dE d j)).2.1] 53,U q (eo p (.pointer (some ⟨bi,0,none⟩)) (.pointer (some ⟨Ab,0,none⟩)) (fZ x j) (ix d j).seq (c8+1)) 116,row (.slice (bx d).b.bn (bx d).b.l.length (bx d).b.c) 3 1 (bx d).b.l.length ((cW (bx d).b.l.length (bx d).wr).flatMap ea),aB,cR (fZ x j),U bi [.pointer (some ⟨p,0,none⟩),.pointer (some ⟨Q 0,0,none⟩),.pointer (some ⟨Q 1,0,none⟩),.int .i64 (if(dJ (bx d) (dE d j)).2.2=true then(j:Int)else(-1))] 200,gG Q p d j,gG Q p d (1-j),U p (bH ((dJ (bx d) (dE d j)).1)) 196,row (.slice (dJ (bx d) (dE d j)).1.a.bn (dJ (bx d) (dE d j)).1.a.l.length (dJ (bx d) (dE d j)).1.a.c) 42 1 (dJ (bx d) (dE d j)).1.a.l.length ((cW (dJ (bx d) (dE d j)).1.a.l.length (dJ (bx d) (dE d j)).1.g).flatMap dh),hP],_,aA,⟨rfl,j,.pointer (some ⟨bi,0,none⟩),.pointer (some ⟨Ab,0,none⟩),fZ x j,(ix d j).seq,hP,GU b0 (CD nK (by rw [←fa];assumption)) cN,fun _=>⟨rfl,⟨Ab,rfl⟩,rfl,rfl⟩,fun q=>absurd Ez q,fun _=>⟨nm,nK,by rw [←fa];exact fz ch⟩,rfl⟩⟩
 ·intro x cG bh al bo
  obtain⟨cN,m,qA,rfl⟩:=bo
  refine cx ?_
  refine mb ?_
  refine dA (show Take [dl cG] _ _ from aA) (my rfl rfl au ad) ?_
  have sm:oC d=none:=RC (fun k ai=>cN k (by unfold lU;rw [List.length_map,List.take_length];exact ai))
  have cn:nZ d=90:=by unfold nZ;rw [sm]
  have bU:fc d=bx d:=by unfold fc;rw [sm]
  rw [show(U p (bH (bx d)) 196:ar B)=U p (bH (fc d)) 196 from by rw [bU]]
  rw [show(row (.slice (bx d).a.bn (bx d).a.l.length (bx d).a.c) 42 1 (bx d).a.l.length ((cW (bx d).a.l.length (bx d).g).flatMap dh):ar B)=row (.slice (fc d).a.bn (fc d).a.l.length (fc d).a.c) 42 1 (fc d).a.l.length ((cW (fc d).a.l.length (fc d).g).flatMap dh)from by rw [bU]]
  rw [show(row (.slice (bx d).b.bn (bx d).b.l.length (bx d).b.c) 3 1 (bx d).b.l.length ((cW (bx d).b.l.length (bx d).wr).flatMap ea):ar B)=row (.slice (fc d).b.bn (fc d).b.l.length (fc d).b.c) 3 1 (fc d).b.l.length ((cW (fc d).b.l.length (fc d).wr).flatMap ea)from by rw [bU]]
  exact aO ⟨.pointer none,.pointer none,w,seq,gG Q p d m,all [],⟨⟨fun q=>absurd (cn.symm.trans q) b2,fun _=>⟨rfl,rfl⟩⟩,fun q=>absurd (cn.symm.trans q) b2⟩,by rw [cn],rfl⟩
 intro x cG c i bh al af h
 obtain⟨rfl,j,cH,co,j2,dW,hP,uf,LJ,A3,yk,rfl⟩:=h
 refine bP ?_
 refine sa (sL (l:=[U bi [.pointer (some ⟨p,0,none⟩),.pointer (some ⟨Q 0,0,none⟩),.pointer (some ⟨Q 1,0,none⟩),.int .i64 (if(dJ (bx d) (dE d j)).2.2=true then(j:Int)else(-1))] 200,gG Q p d j,gG Q p d (1-j),cR (fZ x j)]) aA) ?_
 refine aj ?_
 refine mb ?_
 refine dA (show Take [dl cG] _ _ from aA) (my rfl rfl au ad) ?_
 obtain⟨lz,vj⟩:=Jw uf
 have cn:nZ d=(dJ (bx d) (dE d j)).2.1:=by unfold nZ;rw [uf]
 have bU:fc d=(dJ (bx d) (dE d j)).1:=by unfold fc;rw [uf]
 have rz:=Pk (k:=dE d j) b5 (show(bx d).ops≤900000000 by show d.ops≤_;omega)
 rw [show(U p (bH ((dJ (bx d) (dE d j)).1)) 196:ar B)=U p (bH (fc d)) 196 from by rw [bU]]
 rw [show(row (.slice (dJ (bx d) (dE d j)).1.a.bn (dJ (bx d) (dE d j)).1.a.l.length (dJ (bx d) (dE d j)).1.a.c) 42 1 (dJ (bx d) (dE d j)).1.a.l.length ((cW (dJ (bx d) (dE d j)).1.a.l.length (dJ (bx d) (dE d j)).1.g).flatMap dh):ar B)=row (.slice (fc d).a.bn (fc d).a.l.length (fc d).a.c) 42 1 (fc d).a.l.length ((cW (fc d).a.l.length (fc d).g).flatMap dh)from by rw [bU]]
 rw [show(row (.slice (bx d).b.bn (bx d).b.l.length (bx d).b.c) 3 1 (bx d).b.l.length ((cW (bx d).b.l.length (bx d).wr).flatMap ea):ar B)=row (.slice (fc d).b.bn (fc d).b.l.length (fc d).b.c) 3 1 (fc d).b.l.length ((cW (fc d).b.l.length (fc d).wr).flatMap ea)from by rw [bU,rz.1,rz.2]]
 obtain⟨fT,cO⟩:(fZ x j).l=(ix d j).l∧(fZ x j).Own:=by rcases(show j=0∨j=1 by omega)with rfl|rfl;exact al.1;exact al.2
 have h1:Di p d cH co j2 dW (all [U bi [.pointer (some ⟨p,0,none⟩),.pointer (some ⟨Q 0,0,none⟩),.pointer (some ⟨Q 1,0,none⟩),.int .i64 (if(dJ (bx d) (dE d j)).2.2=true then(j:Int)else(-1))] 200,gG Q p d j,gG Q p d (1-j),cR (fZ x j)]:ar B):=⟨fun q=>by obtain⟨ab,⟨dc,ae⟩,av,aV⟩:=LJ (cn.symm.trans q);subst av;exact⟨bi,Q,dc,j,uf,ab,ae,fT,cO,aV,by rw [Pj (cn.symm.trans q)];rfl⟩,fun q=>A3 (fun z=>q (cn.trans z))⟩
 exact aO ⟨cH,co,j2,dW,all [U bi [.pointer (some ⟨p,0,none⟩),.pointer (some ⟨Q 0,0,none⟩),.pointer (some ⟨Q 1,0,none⟩),.int .i64 (if(dJ (bx d) (dE d j)).2.2=true then(j:Int)else(-1))] 200,gG Q p d j,gG Q p d (1-j),cR (fZ x j)],hP,⟨h1,fun q=>let⟨c,ab,ae⟩:=yk (cn.symm.trans q);⟨j,c,uf,ab,ae⟩⟩,by rw [cn],rfl⟩
abbrev n4(d:br)(e:Int):br:=if e=63 then xY d false else d
abbrev wy(e:Int)(b:Nat):Value:=if e=63 then .pointer none else ag b
theorem ab0{d:br}{z:Int}{k cD:b7}{l:List (BitVec 32)}(h:dB d)(ai:dK d cD)(aq:d.ops≤900000000):(nC d z k cD l).1.b=d.b∧(nC d z k cD l).1.wr=d.wr:=by
  unfold nC;split
  · exact⟨(GK h ai aq l).1.b,GL d cD l⟩
  · exact⟨rfl,rfl⟩
theorem Xn{d:br}{z:Int}{ay:Nat→b7}{a:Nat}(h:dB d)(ai:dK d (ay (1-a)))(aq:d.ops≤800000000):(k4 d z ay a).1.b=d.b∧(k4 d z ay a).1.wr=d.wr:=by
  unfold k4;repeat' split
  all_goals first|exact⟨rfl,rfl⟩|exact⟨(FQ h ai (by omega) _).1.b,I2 _ _ _⟩
theorem Wz{d:br}{z:Int}{k:b7}(h:dB d)(aq:d.ops≤900000000):(rN d z k).1.b=d.b∧(rN d z k).1.wr=d.wr:=by
  unfold rN;split
  · exact⟨rfl,rfl⟩
  · exact⟨(FI h aq).b,NC _ _⟩
theorem Xo{d:br}{z:Int}{k cD:b7}(h:dB d)(ai:dK d cD)(aq:d.ops≤900000000):eA 65 d (pj d z k cD).1∧dK (pj d z k cD).1 (pj d z k cD).2.1:=by
  unfold pj;split
  · exact Jm h ai aq
  · exact⟨eA.rfl' h,ai⟩
theorem ZW{d:br}{z:Int}{k cD:b7}(h:dB d)(ai:dK d cD)(aq:d.ops≤900000000)(l:List (BitVec 32)):eA 4096 d (nC d z k cD l).1∧dK (nC d z k cD l).1 (nC d z k cD l).2.1:=by
  unfold nC;split
  · exact GK h ai aq l
  · exact⟨eA.rfl' h,ai⟩
theorem ZX{d:br}(h:dB d)(aq:d.ops≤900000000):eA 1 d (fc d):=by
  have b5:eA 1 d (bx d):=⟨GS h,by show d.ops≤d.ops+((1:Nat):Int);omega,rfl,rfl,rfl,rfl⟩
  have aL:∀k:b7,eA 1 d (ld (bx d) k).1:=fun k=>by
    have t:=Kv (k:=k) (GS (z:=true) h) (show(bx d).ops≤900000000 from aq)
    exact⟨t.ok,t.ops,t.w,t.b,t.a,t.rn⟩
  unfold fc
  split
  · exact b5
  · unfold dJ;repeat' split
    all_goals first|exact b5|exact aL _
structure pb where
  b:Bool
  c:Bool
  o:Bool
  e:Int
  m:Int
  t:Int
abbrev r3(n:pb):List Value:=[.bool n.b,.bool n.c,.bool n.o,aa n.e,aa n.m,aa n.t]
def rA(b:Nat)(n:pb):an pb:=an.lit b [n] (by show 1≤_;decide)
abbrev uX(a:an pb):ar B:=eO a 375 6 r3
theorem ab1(o:fW){cF:ar B}(pO:dI cF o.bd.bu (o.bd.l.flatMap ku))(i:Nat)(sp:Int×Int)(aH:o.bd.l[i]?=some sp):a6 B 267 [o.v,aa (i:Int)] [cF] (fun v S=>v= .tuple #[.agg (ku sp).toArray,.bool true]∧S=[cF]):=by
 refine dN 21 Tryz.func267 fun ba bf=>?_
 have kM:i<o.bd.l.length:=(List.getElem?_eq_some_iff.1 aH).1
 refine aj ?_
 refine eD (aF:=[az o.a9,az o.bd]) fun ax=>?_
 refine fe fun aK=>?_
 refine rm ?_
 refine pJ ?_ ?_<;>intro ab
 ·exact zJ ab
 refine gI ?_
 refine dn (az o.bd) ?_
 refine aj ?_
 refine c2 ?_ ?_<;>intro ae
 ·exact zJ ae
 refine gN ?_
 refine dn (az o.bd) ?_
 refine aj ?_
 refine ap (jV (a2:=ku) (aN:=2) (i:=i) (fun _=>rfl) rfl au pO ad aH) ?_
 refine aj ?_
 refine fS ?_
 exact bJ
def Ms(p q:Int×Int):Prop:=p.2<q.2∨(p.2=q.2∧p.1<q.1)
theorem No(r:Nat→Int)(l:Nat):∀n,(sO r l n).Pairwise Ms
 |0=>List.Pairwise.nil
 |n+1=>by
  rw [ZC]
  refine List.pairwise_append.2 ⟨No r l n,by split<;>simp,fun a a5 b aR=>?_⟩
  obtain⟨k,ab,_,rfl⟩:=FR.1 a5
  split at aR
  ·simp at aR;subst aR;exact .inr ⟨rfl,show(k:Int)<n by omega⟩
  cases aR
theorem Np(r:Nat→Int):∀m,(xF r m).Pairwise Ms
 |0=>List.Pairwise.nil
 |m+1=>by
  rw [ZD]
  refine List.pairwise_append.2 ⟨Np r m,No r m 32,fun a a5 b aR=> .inl ?_⟩
  obtain⟨k,_,_,rfl⟩:=FR.1 aR
  unfold xF at a5
  simp only [List.mem_flatMap,List.mem_range,FR]at a5
  obtain⟨l,ab,cD,_,_,rfl⟩:=a5
  show(l:Int)<m;omega
theorem NN{r:Nat→Int}{p:Int×Int}{l:List (Int×Int)}(h:goes r=p::l):iX r=(p.1,true):=by unfold iX;rw [h]
theorem J2{r:Nat→Int}{k:Nat}{v:Int}(ai:k<32)(h:0≤v∧v<32):l0 r (k:Int) v=bz r k (v+1):=by
  unfold l0 u1
  rw [if_pos (decide_eq_true ⟨by omega,by omega,h.1,h.2⟩),Int.toNat_natCast]
theorem Yr{r:Nat→Int}{k:Nat}(ai:k<32):sN r (k:Int)=bz r k 0:=JQ ai
abbrev cf.L(s:cf)(k:Nat):Prop:=hasB s.live (k:Int)=true
abbrev cf.H(s:cf)(k:Nat):Int:=hold (s.aD k).cz.l (s.aD k).done
abbrev cf.bB(s:cf)(k:Nat):Int:=(s.aD k).nJ s.cl
abbrev cf.vk(s:cf)(k:Nat):Int:=q2 s.cl (k:Int) (s.H k)
theorem aen{s:cf}(h:jt s){k:Nat}(ai:s.L k):0≤s.bB k∧s.bB k≤31:=by
  obtain⟨ab,ae,_⟩:=h.live k ai
  have:=Gl (id:=(s.aD k).id) (d:=(s.aD k).done) (l:=(s.aD k).cz.l) h.cl (by omega)
  show 0≤mK _ _ _ _∧mK _ _ _ _≤31
  omega
theorem J3{s:cf}(h:jt s){k:Nat}(ai:s.L k)(fv:s.H k<0):s.bB k=2*k+1:=by
  show mK _ _ _ _=_
  unfold mK;rw [if_pos fv,(h.live k ai).2.1]
theorem J4{s:cf}(h:jt s){k:Nat}(ai:s.L k)(fv:0≤s.H k):s.bB k=2*s.vk k:=by
  show mK _ _ _ _=_
  unfold mK;rw [if_neg (by show¬s.H k<0;omega),(h.live k ai).2.1]
theorem ab2{s:cf}(h:jt s){k:Nat}(ai:s.L k):0≤s.vk k∧s.vk k≤k:=by
  have ab:=(h.live k ai).1
  exact Kz h.cl (by omega)
theorem Sy{s:cf}(h:jt s){k:Nat}(ai:s.L k):s.bB k≤2*k+1:=by
  by_cases fv:s.H k<0
  · rw [J3 h ai fv];omega
  · rw [J4 h ai (by omega)];have:=ab2 h ai;omega
theorem FJ{s:cf}(h:jt s):((iX s.r).2=true∧∃k:Nat,k<16∧s.L k∧(iX s.r).1=k∧∀m,s.L m→s.bB k<s.bB m∨(s.bB k=s.bB m∧k≤m))∨(iX s.r=(0,false)∧∀m,¬s.L m):=by
 have mem:∀m,s.L m→((m:Int),s.bB m)∈goes s.r:=fun m hm=>by
  have ab:=(h.live m hm).1
  have ae:=h.w3 m ah
  rw [if_pos hm]at ae
  have av:0≤(s.aD m).nJ s.cl∧_:=aen h hm
  exact(Jp h.r).2 ⟨m,by omega,by rw [ae];omega,by rw [ae];simp⟩
 cases bl:goes s.r with
 |nil=>
  right
  refine⟨by unfold iX;rw [bl],fun m hm=>?_⟩
  have:=mem m hm;rw [bl]at this;cases this
 |cons p l=>
  left
  have hm:p∈goes s.r:=by rw [bl];exact List.mem_cons_self ..
  obtain⟨k,ab,ae,rfl⟩:=(Jp h.r).1 hm
  have av:=h.w3 k ab
  have aE:s.L k:=by
   cases aR:hasB s.live (k:Int)with
   |true=>exact aR
   |false=>rw [aR]at av;exact absurd av ae
  rw [if_pos aE]at av
  have ai:=(h.live k aE).1
  refine⟨by rw [NN bl],k,ai,aE,by rw [NN bl],fun m hm=>?_⟩
  have aH:(goes s.r).Pairwise Ms:=Np s.r 32
  have tc:=mem m hm
  rw [bl]at aH tc
  rcases List.mem_cons.1 tc with he|he
  ·have:m=k:=by have:=congrArg Prod.fst he;simp at this;omega
   subst this;right;exact⟨rfl,Nat.le_refl _⟩
  have:=(List.pairwise_cons.1 aH).1 _ he
  rw [av]at this
  rcases this with eE|⟨eE,ahY⟩
  ·left;simpa using eE
  right;simp at eE ahY;exact⟨by simpa using eE,by omega⟩
theorem Cn{v:BitVec 32}{k m:Nat}(ai:k<16)(hm:m<32):hasB (v|||dL (k:Int)) (m:Int)=(hasB v (m:Int)||decide (m=k)):=by
 rw [ow,pW];refine congrArg _ (decide_eq_decide.2 ah)
theorem Fz{v:BitVec 32}{k m:Nat}(ai:k<16)(hm:m<32):hasB (v&&&~~~(dL (k:Int))) (m:Int)=(hasB v (m:Int)&&!decide (m=k)):=by
 rw [qU,pW];refine congrArg (fun b=>_&&!b) (decide_eq_decide.2 ah)
theorem rO{v:BitVec 32}{m:Nat}(h:hasB v (m:Int)=true):m<32:=by
  have:=h;simp [hasB]at this;omega
def D1(j:fN)(k:Nat):Prop:=k<16∧j.id=k∧0≤j.done∧j.done≤100000000∧0≤j.cost∧j.cost≤100000000∧-1000000000≤j.rel∧j.rel≤1000000000
theorem Ys{j:fN}{k:Nat}(h:D1 j k):D1 (gF j) k:=by
 obtain⟨ab,ae,av,aV,bN,c0,fO⟩:=h
 refine⟨ab,ae,?_,?_,bN,c0,fO⟩
 ·show 0≤min (j.done+1) j.cost;omega
 show min (j.done+1) j.cost≤_;omega
theorem ZY{s:cf}(h:jt s)(aP:s.now<1000000000):jt (b4 s).1:=by
 have kJ:=h.now
 rcases FJ h with⟨ab,k,ai,aE,bs,_⟩|⟨ab,_⟩
 ·have TL:∀i,i<16→((bz s.aD k (gF (s.aD k))) i).cz.Own:=fun i af=>by
   by_cases e:i=k
   ·subst e;rw [e4];exact h.own i af
   rw [fG _ _ e];exact h.own i af
  have UZ:∀i:Nat,s.L i→D1 (bz s.aD k (gF (s.aD k)) i) i:=fun i af=>by
   by_cases e:i=k
   ·subst e;rw [e4];exact Ys (h.live i af)
   rw [fG _ _ e];exact h.live i af
  have gA:=(h.live k aE).2.1
  by_cases aq:min ((s.aD k).done+1) (s.aD k).cost≥(s.aD k).cost
  ·rw [Cl ab bs aq]
   refine⟨X7 h.r,TL,h.cl,fun i af=>?_,⟨by show 0≤s.now+1;omega,by show s.now+1≤_;omega⟩,fun n aP=>?_⟩
   ·have En:=rO af
    rw [Fz ai En]at af
    simp only [Bool.and_eq_true]at af
    exact UZ i af.1
   show sN s.r (k:Int) n=if hasB (s.live&&&~~~(dL (k:Int))) (n:Int)=true then(bz s.aD k (gF (s.aD k)) n).nJ s.cl+1 else 0
   rw [Yr ah,Fz ai aP]
   by_cases e:n=k
   ·subst e;rw [e4];simp
   rw [fG _ _ e,h.w3 n aP,fG _ _ e];simp [e]
  rw [CO ab bs aq]
  have pN:=Gl (id:=(s.aD k).id) (d:=(gF (s.aD k)).done) (l:=(s.aD k).cz.l) h.cl ah
  refine⟨JP h.r,TL,h.cl,fun i af=>UZ i af,⟨by show 0≤s.now+1;omega,by show s.now+1≤_;omega⟩,fun n aP=>?_⟩
  show l0 s.r (s.aD k).id (mK s.cl (s.aD k).id (gF (s.aD k)).done (s.aD k).cz.l) n=if hasB s.live (n:Int)=true then(bz s.aD k (gF (s.aD k)) n).nJ s.cl+1 else 0
  rw [gA]at pN⊢
  rw [J2 ah ah]
  by_cases e:n=k
  ·subst e;rw [e4,e4,if_pos aE]
   show _=mK s.cl (s.aD n).id _ _+1
   rw [gA]
  rw [fG _ _ e,fG _ _ e,h.w3 n aP]
 rw [Gm (by rw [ab])]
 exact⟨h.r,h.own,h.cl,h.live,⟨by show 0≤s.now+1;omega,by show s.now+1≤_;omega⟩,h.w3⟩
theorem ab3{s:cf}{j:fN}{a:an dt}(h:jt s)(a5:a.Own)(aE:a.l=j.cz.l)(aR:∀k:Nat,j.id=k→k<16→D1 j k):jt (sd s j a):=by
 by_cases he:pn s j=0
 ·rw [AF he]
  have gA:¬(j.id<0∨j.id≥16∨j.done≥j.cost):=fun c=>by rw [CP c]at he;cases he
  obtain⟨k,ai⟩:=Int.eq_ofNat_of_zero_le (show 0≤j.id by omega)
  have jH:k<16:=by omega
  have ahZ:=aR k ai jH
  have cN:hasB s.live j.id=false:=by
   cases a7:hasB s.live j.id with
   |false=>rfl
   |true=>rw [JS gA a7]at he;cases he
  clear aR he gA
  obtain⟨id,rel,hO,cost,done,cz⟩:=j
  have pF:id=k:=ai
  clear ai
  subst pF
  have cN:hasB s.live (k:Int)=false:=cN
  show jt ⟨bz s.aD (k:Int).toNat ⟨k,rel,hO,cost,done,a⟩,s.live|||dL k,l0 s.r k (mK s.cl k done a.l),s.cl,s.now⟩
  rw [Int.toNat_natCast]
  have pN:=Gl (id:=(k:Int)) (d:=done) (l:=a.l) h.cl ah
  refine⟨JP h.r,fun i af=>?_,h.cl,fun i af=>?_,h.now,fun n aP=>?_⟩
  ·show(bz s.aD k ⟨k,rel,hO,cost,done,a⟩ i).cz.Own
   by_cases e:i=k
   ·subst e;rw [e4];exact a5
   rw [fG _ _ e];exact h.own i af
  ·show D1 (bz s.aD k ⟨k,rel,hO,cost,done,a⟩ i) i
   by_cases e:i=k
   ·subst e;rw [e4];exact ahZ
   rw [fG _ _ e]
   have En:=rO af
   have af:hasB (s.live|||dL (k:Int)) (i:Int)=true:=af
   rw [Cn jH En]at af
   simp only [Bool.or_eq_true,decide_eq_true_eq]at af
   rcases af with af|af
   ·exact h.live i af
   exact absurd af e
  show l0 s.r (k:Int) (mK s.cl (k:Int) done a.l) n=if hasB (s.live|||dL (k:Int)) (n:Int)=true then(bz s.aD k ⟨k,rel,hO,cost,done,a⟩ n).nJ s.cl+1 else 0
  rw [J2 ah ah,Cn jH aP]
  by_cases e:n=k
  ·subst e;rw [e4,e4,if_pos (by simp)]
  rw [fG _ _ e,fG _ _ e,h.w3 n aP];simp [e]
 rw [Df he];exact h
theorem Oc{t:Nat→Int}{aD:Nat→fN}(aL:∀r:Nat,r<8→0≤t r∧t r≤16):∀(l:List Int) (r:Nat→Int),(∀i∈l,0≤i∧i<16∧(aD i.toNat).id=i)→∀n:Nat,mH t aD r l n=if(n:Int)∈l then(aD n).nJ t+1 else r n
  |[],r,_,n=>by simp [mH]
  |a::l,r,h,n=>by
    obtain⟨b5,ab,ae⟩:=h a (List.mem_cons_self ..)
    obtain⟨k,rfl⟩:=Int.eq_ofNat_of_zero_le b5
    rw [Int.toNat_natCast]at ae
    have pN:=Gl (id:=(aD k).id) (d:=(aD k).done) (l:=(aD k).cz.l) aL (by omega)
    have e:mH t aD r ((k:Int)::l)=mH t aD (bz r k ((aD k).nJ t+1)) l:=by
      show mH t aD (l0 r (aD k).id (mK t (aD k).id (aD k).done (aD k).cz.l)) l=_
      rw [ae]at pN
      show mH t aD (l0 r (aD k).id (mK t (aD k).id (aD k).done (aD k).cz.l)) l=mH t aD (bz r k (mK t (aD k).id (aD k).done (aD k).cz.l+1)) l
      rw [ae,J2 (by omega) (by omega)]
    rw [e,Oc aL l _ (fun i af=>h i (List.mem_cons_of_mem _ af)) n]
    by_cases hm:(n:Int)∈l
    · rw [if_pos hm,if_pos (List.mem_cons_of_mem _ hm)]
    · rw [if_neg hm]
      by_cases fh:n=k
      · subst fh;rw [e4,if_pos (List.mem_cons_self ..)]
      · rw [fG _ _ fh,if_neg (fun c=>by rcases List.mem_cons.1 c with eE|eE;omega;exact hm eE)]
theorem ZZ{s:cf}{t:Nat→Int}(h:jt s)(aL:∀r:Nat,r<8→0≤t r∧t r≤16):jt (sQ s t):=by
 refine⟨O8 h.r,h.own,aL,h.live,h.now,fun n aP=>?_⟩
 show mH t s.aD s.r (bb s.live) n=if hasB s.live (n:Int)=true then(s.aD n).nJ t+1 else 0
 rw [Oc aL _ _ (fun i af=>by
  obtain⟨a1,a3,bI⟩:=iV.1 af
  obtain⟨k,rfl⟩:=Int.eq_ofNat_of_zero_le a1
  have:=h.live k bI
  rw [Int.toNat_natCast];exact⟨a1,by omega,this.2.1⟩)]
 have hm:(n:Int)∈bb s.live↔hasB s.live (n:Int)=true:=⟨fun c=>(iV.1 c).2.2,fun c=>iV.2 ⟨by omega,by omega,c⟩⟩
 by_cases aE:hasB s.live (n:Int)=true
 ·rw [if_pos aE,if_pos (hm.2 aE)]
 rw [if_neg aE,if_neg (fun c=>aE (hm.1 c)),h.w3 n aP,if_neg aE]
abbrev fC:=Int×Int×Int×Int
abbrev la(x:fC):List Value:=[aa x.1,aa x.2.1,aa x.2.2.1,aa x.2.2.2]
abbrev gR(a:an fC):ar B:=eO a 155 4 la
abbrev eT(k:fy)(a:an fC):fy:={k with aX:=az a}
theorem Z0(p:Nat)(k:fy)(a:an fC):a6 B 30 [ag p] [U p (c7 (eT k a)) 170] (fun v S=>v=az a∧S=[U p (c7 (eT k an.bt)) 170]):=by
 refine bM 12 Tryz.func30 fun ba bf=>?_
 exact bJ
theorem ab4(p:Nat)(k:fy):a6 B 67 [ag p] [U p (c7 k) 170] (fun v S=>v=aa k.late∧S=[U p (c7 k) 170]):=by
 refine bM 7 Tryz.func67 fun ba bf=>?_
 exact bJ
theorem GV(q p:Nat)(cH co:Value)(w:an (BitVec 32))(dW:BitVec 32)(n:Int):a6 B 28 [ag q] [U q (eo p cH co w dW n) 116] (fun v S=>v=co∧S=[U q (eo p cH co w dW n) 116]):=by
 refine bM 7 Tryz.func28 fun ba bf=>?_
 exact bJ
theorem aeo(p:Nat)(k:fy)(e:iR)(s:cf){b3 eS:ar B}(Mp:k.y.In b3)(Mq:e.y.In eS)(cn:e.phase=3→DB e)(a7:jt s){aB:ar B}(bO:hd aB)(aJ:hK aB):zh Tryz.prog B 89 [ag p] [U p (c7 k) 170,U k.eB (c5 s) 260,many 16 (eK s.aD),U k.fh (hE e) 288,b3,eS,aB] (fun v S=>v= .tuple #[]∧S=[U p (c7 {k with act:=(jo e)}) 170,U k.eB (c5 (oJ k e s)) 260,many 16 (eK s.aD),U k.fh (hE e) 288,b3,eS,aB]):=by
 refine WS (N:=29) Tryz.func89 rfl (by simp) rfl ?_
 intro ba bf
 refine aj ?_
 refine gH (Qp (K:=eS) k.fh e Mq cn) ?_
 refine bD ?_ ?_<;>intro ab
 ·refine cZ [U p (c7 {k with act:=(jo e)}) 170] ad aA ?_
  rw [show(U p [ag k.eB,aQ k.pd.toNat,aa k.y.cA,az k.y.aw,az k.y.a9,az k.y.bd,az k.o.a9,az k.o.bd,aa (k.bm 0),aa (k.bm 1),aa (k.bm 2),aa (k.bm 3),aa (k.bm 4),aa (k.bm 5),aa (k.bm 6),aa (k.bm 7),aa (k.bm 8),aa (k.bm 9),aa (k.bm 10),aa (k.bm 11),aa (k.bm 12),aa (k.bm 13),aa (k.bm 14),aa (k.bm 15),aa (k.dG 0),aa (k.dG 1),aa (k.dG 2),aa (k.dG 3),aa (k.dG 4),aa (k.dG 5),aa (k.dG 6),aa (k.dG 7),aa (k.dG 8),aa (k.dG 9),aa (k.dG 10),aa (k.dG 11),aa (k.dG 12),aa (k.dG 13),aa (k.dG 14),aa (k.dG 15),ag k.fh,az k.q,aQ (jo e).toNat,aa k.late,k.aX] 170:ar B)=U p (c7 {k with act:=(jo e)}) 170 from rfl]
  refine aY [0,1,2,3,4,5,6] ?_
  refine bj 7 rfl (ed (bK:=(b9 k.y)) rfl au ad rfl (by rfl)) ?_
  refine aY [8] ?_
  refine gb 9 (HW (lo:=b3) (K:=aB) k.y Mp (jo e) bO) ?_
  refine gb 10 (Sq (K:=aB) k.eB s (fb k.y.aw.l (jo e)) a7 (fun r _=>Pg _ _ _) bO aJ) ?_
  refine aY [99] ?_
  refine OO (.nil _) (uA rfl) ?_
  have gr:¬jo e=k.act:=fun q=>ab (by rw [q])
  rw [show oJ k e s=_ from if_neg gr]
  exact bJ
 refine OO (.nil _) (uA rfl) ?_
 have wJ:jo e=k.act:=BitVec.eq_of_toNat_eq ah
 rw [show oJ k e s=s from if_pos wJ,show(U p (c7 {k with act:=(jo e)}) 170:ar B)=U p (c7 k) 170 from by rw [wJ]]
 exact bJ
theorem ab5{mu:ar B}{bu:Addr}:dI mu bu []:=fun _ _ _ k h=>absurd h (Nat.not_lt_zero k)
theorem ah0(n:Int):a6 B 215 [aa n] [] (fun v S=>v= .bool (decide (0≤n∧n<16))∧S=[]):=by
 refine bM 9 Tryz.func215 fun ba bf=>?_
 refine cc ?_ ?_<;>intro ab
 ·exact aO ⟨by simp [*]<;>omega,rfl⟩
 exact aO ⟨by simp [*]<;>omega,rfl⟩
theorem Ax{l:List dt}{d:Int}(h:0≤hold l d):∃c,l.find? (pk d)=some c∧c∈l∧c.2.1<d∧d<c.2.2∧hold l d=c.1:=by
  obtain⟨c,ab,ae,av,aV⟩:=Wv h
  exact⟨c,ab,ae,av,aV,by unfold hold;rw [ab];rfl⟩
theorem Od{T:Nat→Int}{cost ec:Int}{l:List dt}{d:Int}(aq:pL T cost ec l)(h:0≤hold l (d+1)):mG l d=hold l (d+1):=by
  obtain⟨c,ab,ae,av,aV,bN⟩:=Ax h
  unfold mG;rw [F2 aq ae (show c.2.1≤d by omega) (by omega),bN];rfl
theorem Oe{T:Nat→Int}{cost ec:Int}{l:List dt}{d:Int}(aq:pL T cost ec l)(h:0≤hold l (d+1))(g:0≤hold l d):l.find? (pk (d+1))=l.find? (pk d):=by
  obtain⟨c,ab,ae,av,aV,_⟩:=Ax h
  obtain⟨aiT,a1,a3,bI,cv,_⟩:=Ax g
  have cb:=F2 aq ae (show c.2.1≤d by omega) (by omega)
  have cq:=F2 aq a3 (show aiT.2.1≤d by omega) (by omega)
  rw [cb]at cq;cases cq
  rw [ab,a1]
theorem NO{T:Nat→Int}{cost ec:Int}{l:List dt}{d:Int}(aq:pL T cost ec l)(h:0≤hold l (d+1))(g:0≤hold l d):hold l (d+1)=hold l d:=by
  unfold hold;rw [Oe aq h g]
theorem Z1{l:List dt}{d:Int}(h:0≤mG l d):∃c∈l,hold l d≤hold l d∧mG l d=c.1:=by
  unfold mG at h⊢
  cases bs:l.find? (tA d)with
  |none=>rw [bs]at h;simp [y5]at h
  |some c=>exact⟨c,List.mem_of_find?_eq_some bs,Int.le_refl _,rfl⟩
theorem RD{T:Nat→Int}{cost:Int}{l:List dt}(aq:pL T cost 0 l):hold l 0= -1:=by
  unfold hold
  cases bs:l.find? (pk 0)with
  |none=>rfl
  |some c=>
    have ab:=List.find?_some bs
    simp [pk]at ab
    have:=(De aq c (List.mem_of_find?_eq_some bs)).1
    omega
def s5(l:List dt)(d:Int):Int:=match l.find? (pk d)with
  |some c=>c.2.2-d
  |none=>0
theorem Z2{l:List dt}{d:Int}(h:0≤hold l d):1≤s5 l d:=by
  obtain⟨c,ab,_,_,aV,_⟩:=Ax h
  unfold s5;rw [ab];show 1≤c.2.2-d;omega
theorem Yt{T:Nat→Int}{cost ec:Int}{l:List dt}{d:Int}(aq:pL T cost ec l)(h:0≤hold l (d+1))(g:0≤hold l d):s5 l (d+1)=s5 l d-1:=by
  obtain⟨c,a1,_⟩:=Ax g
  unfold s5;rw [Oe aq h g,a1];show c.2.2-(d+1)=c.2.2-d-1;omega
theorem ab6{T:Nat→Int}{cost ec:Int}{l:List dt}{d:Int}(aq:pL T cost ec l)(h:0≤hold l d):∃j:Nat,j<8∧hold l d=j∧s5 l d≤T (3+j)-1∧2≤T (3+j):=by
 obtain⟨c,ab,ae,av,aV,bN⟩:=Ax h
 obtain⟨_,_,_,j,aI,gk,c9⟩:=De aq c ae
 refine⟨j,gk,by rw [bN,aI],?_,by omega⟩
 unfold s5;rw [ab];show c.2.2-d≤_;omega
theorem Yu{T:Nat→Int}{cost ec:Int}{l:List dt}{d:Int}(aq:pL T cost ec l)(h:0≤mG l d):∃j:Nat,j<8∧mG l d=j∧1≤T (3+j):=by
  obtain⟨c,ae,_,bN⟩:=Z1 h
  obtain⟨_,g,_,j,aI,gk,c9⟩:=De aq c ae
  exact⟨j,gk,by rw [bN,aI],by omega⟩
structure Sys(aG:List (Nat→Int))(A:Nat→Prop)(s:cf):Prop where
  ok:jt s
  ho:∀k,s.L k→A k∧k<aG.length
  EA:∀k e,s.L k→aG[k]?=some e→pL e (s.aD k).cost 0 (s.aD k).cz.l∧(s.aD k).done<(s.aD k).cost∧(s.aD k).cost≤e 2∧(s.aD k).hO=(s.aD k).rel+e 1∧(s.aD k).rel≤s.now
  cl:∀k e,A k→aG[k]?=some e→∀r:Nat,r<8→0<e (3+r)→s.cl r≤k
  Bc:∀p q,s.L p→s.L q→0≤s.H p→s.H p=s.H q→p=q
theorem Sys.mL{aG:List (Nat→Int)}{A:Nat→Prop}{s:cf}(h:Sys aG A s){k:Nat}(ai:s.L k):∃e,aG[k]?=some e∧pL e (s.aD k).cost 0 (s.aD k).cz.l∧(s.aD k).done<(s.aD k).cost∧(s.aD k).cost≤e 2∧(s.aD k).hO=(s.aD k).rel+e 1∧(s.aD k).rel≤s.now:=by
  have ab:=(h.ho k ai).2
  have ae:aG[k]?=some aG[k]:=List.getElem?_eq_getElem ab
  exact⟨_,ae,h.EA k _ ai ae⟩
theorem Sys.held{aG:List (Nat→Int)}{A:Nat→Prop}{s:cf}(h:Sys aG A s){k:Nat}(ai:s.L k)(fv:0≤s.H k):∃(e:Nat→Int) (r:Nat),aG[k]?=some e∧r<8∧s.H k=r∧s5 (s.aD k).cz.l (s.aD k).done≤e (3+r)-1∧2≤e (3+r)∧s.vk k=s.cl r∧s.cl r≤k:=by
 obtain⟨e,ab,ae,_⟩:=h.mL ai
 obtain⟨r,a1,a3,bI,cv⟩:=ab6 ae fv
 have aL:=h.cl k e (h.ho k ai).1 ab r a1 ah
 refine⟨e,r,ab,a1,a3,bI,cv,?_,aL⟩
 show q2 s.cl k (s.H k)=_
 have a3:s.H k=r:=a3
 rw [a3]
 unfold q2 wQ
 rw [if_neg ah,if_pos ah,Int.toNat_natCast];omega
structure zo(s:cf)(k:Nat):Prop where
  f1:(iX s.r).2=true
  f2:(iX s.r).1=k
  lt:k<16
  l:s.L k
  le:∀m,s.L m→s.bB k<s.bB m∨(s.bB k=s.bB m∧k≤m)
theorem Z3{s:cf}(h:jt s):(∃k,zo s k)∨(iX s.r=(0,false)∧∀m,¬s.L m):=by
  rcases FJ h with⟨ab,k,ae,av,aV,bN⟩|h
  · exact .inl ⟨k,ab,aV,ae,av,bN⟩
  · exact .inr h
theorem zo.free{s:cf}{k:Nat}(h:jt s)(g:zo s k)(fv:s.H k<0){q:Nat}(bF:s.L q):(0≤s.H q→(k:Int)<s.vk q)∧k≤q:=by
 have ab:=g.le q bF
 rw [J3 h g.l fv]at ab
 refine⟨fun H7=>?_,?_⟩
 ·rw [J4 h bF H7]at ab;omega
 ·have:=Sy h bF;omega
theorem zo.over{s:cf}{k w:Nat}(h:jt s)(g:zo s k)(hw:s.L w)(aj5:w<k):0≤s.H k∧s.vk k≤w:=by
  have ab:=g.le w hw
  have ae:=Sy h hw
  by_cases fv:s.H k<0
  · rw [J3 h g.l fv]at ab;omega
  · rw [J4 h g.l (by omega)]at ab;exact⟨by omega,by omega⟩
structure sI(s eZ:cf)(k:Nat):Prop where
  g:zo s k
  aD:eZ.aD=bz s.aD k {s.aD k with done:=(s.aD k).done+1}
  cl:eZ.cl=s.cl
  now:eZ.now=s.now+1
  live:∀m,eZ.L m↔s.L m∧(m=k→(s.aD k).done+1<(s.aD k).cost)
theorem sI.so{s eZ:cf}{k m:Nat}(t:sI s eZ k)(h:m≠k):eZ.aD m=s.aD m:=by rw [t.aD,fG _ _ h]
theorem sI.B2{s eZ:cf}{k:Nat}(t:sI s eZ k):eZ.aD k={s.aD k with done:=(s.aD k).done+1}:=by rw [t.aD,e4]
theorem sI.gr{s eZ:cf}{k m:Nat}(t:sI s eZ k)(h:m≠k):eZ.H m=s.H m∧eZ.vk m=s.vk m:=by
  have e:eZ.H m=s.H m:=by show hold _ _=hold _ _;rw [t.so h]
  exact⟨e,by show q2 _ _ _=q2 _ _ _;rw [t.cl,e]⟩
theorem sI.ai{s eZ:cf}{k:Nat}(t:sI s eZ k):eZ.H k=hold (s.aD k).cz.l ((s.aD k).done+1):=by
  show hold (eZ.aD k).cz.l (eZ.aD k).done=_;rw [t.B2]
structure Told(s:cf)(k:Nat)(x:HY):Prop where
  mL:x.mL=k
  Ba:x.Ba=k8 (s.aD k)
  over:x.over=decide ((s.aD k).cost≤(s.aD k).done+1)
  within:x.within=if x.over=true then s.now+1-(s.aD k).rel else 0
  late:x.late=(x.over&&decide (s.now+1>(s.aD k).hO))
theorem Xp{s:cf}{k:Nat}(h:jt s)(aJ:(s.aD k).done<(s.aD k).cost)(g:zo s k):sI s (b4 s).1 k∧Told s k (b4 s).2:=by
 have hm:min ((s.aD k).done+1) (s.aD k).cost=(s.aD k).done+1:=by omega
 have aH:gF (s.aD k)={s.aD k with done:=(s.aD k).done+1}:=by show fN.mk _ _ _ _ (min _ _) _=_;rw [hm]
 by_cases aq:min ((s.aD k).done+1) (s.aD k).cost≥(s.aD k).cost
 ·rw [Cl g.f1 g.f2 aq,aH]
  have dV:(s.aD k).cost≤(s.aD k).done+1:=by omega
  refine⟨⟨g,rfl,rfl,rfl,fun m=>?_⟩,⟨rfl,rfl,?_,rfl,?_⟩⟩
  ·show hasB (s.live&&&~~~(dL (k:Int))) (m:Int)=true↔hasB s.live (m:Int)=true∧_
   constructor
   ·intro al
    rw [Fz g.lt (rO al)]at al
    simp only [Bool.and_eq_true,Bool.not_eq_true',decide_eq_false_iff_not]at al
    exact⟨al.1,fun c=>absurd c al.2⟩
   ·rintro⟨ab,ae⟩
    rw [Fz g.lt (rO ab),ab]
    simp;intro c;have:=ae c;omega
  ·show true=_;simp [dV]
  ·show decide _=(true&&decide _);rfl
 ·rw [CO g.f1 g.f2 aq,aH]
  have dV:¬(s.aD k).cost≤(s.aD k).done+1:=by omega
  refine⟨⟨g,rfl,rfl,rfl,fun m=>?_⟩,⟨rfl,rfl,?_,rfl,rfl⟩⟩
  ·show s.L m↔_
   exact⟨fun eE=>⟨eE,fun _=>by omega⟩,fun eE=>eE.1⟩
  ·show false=_;simp [dV]
theorem Sys.tick{aG:List (Nat→Int)}{A:Nat→Prop}{s eZ:cf}{k:Nat}(h:Sys aG A s)(aP:s.now<1000000000)(aH:eZ=(b4 s).1)(t:sI s eZ k):Sys aG A eZ:=by
 obtain⟨aiU,ah1,ei,aj6,_⟩:=h.mL t.g.l
 have VI:∀q,s.L q→q≠k→0≤eZ.H k→eZ.H k=s.H q→False:=fun q bF ah2 ae av=>by
  have BI:=ae
  rw [t.ai]at BI
  by_cases fv:s.H k<0
  ·obtain⟨r,a1,a3,bI⟩:=Yu ei (d:=(s.aD k).done) (by rw [Od ei BI];exact BI)
   rw [Od ei BI]at a3
   have aL:=h.cl k aiU (h.ho k t.g.l).1 ah1 r a1 ah
   obtain⟨e,vz,cy,bR,gD,nl,VJ,akI,akJ⟩:=h.held bF ah
   have a4:r=vz:=by rw [t.ai]at av;omega
   subst a4
   have:=(t.g.free h.ok fv bF).1 ah
   omega
  ·have cb:eZ.H k=s.H k:=by
    rw [t.ai]
    exact NO ei BI (by show 0≤s.H k;omega)
   exact ah2 (h.Bc k q t.g.l bF ah ah).symm
 refine⟨by rw [aH];exact ZY h.ok aP,fun m hm=>h.ho m ((t.live m).1 hm).1,fun m e hm he=>?_,fun m e a5 he r a4 hu=>by rw [t.cl];exact h.cl m e a5 he r a4 hu,fun p q aC bF mX cy=>?_⟩
 ·have HL:=(t.live m).1 hm
  obtain⟨a1,a3,bI,cv,eX⟩:=h.EA m e HL.1 he
  by_cases c:m=k
  ·subst c
   rw [t.B2,t.now]
   exact⟨a1,HL.2 rfl,bI,cv,by show(s.aD m).rel≤_;omega⟩
  ·rw [t.so c,t.now];exact⟨a1,a3,bI,cv,by omega⟩
 ·have n8:=((t.live p).1 aC).1
  have rk:=((t.live q).1 bF).1
  by_cases c1:p=k
  ·subst c1
   by_cases bW:q=p
   ·exact bW.symm
   ·exact(VI q rk bW mX (by rw [cy,(t.gr bW).1])).elim
  ·have cb:=(t.gr c1).1
   by_cases bW:q=k
   ·subst bW
    exact(VI p n8 c1 ah ah).elim
   ·have cq:=(t.gr bW).1
    exact h.Bc p q n8 rk ah ah
theorem Sys.idle{aG:List (Nat→Int)}{A:Nat→Prop}{s:cf}(h:Sys aG A s)(aP:s.now<1000000000)(aE:∀m,¬s.L m):Sys aG A {s with now:=s.now+1}:=by
  have kJ:=h.ok.now
  exact⟨⟨h.ok.r,h.ok.own,h.ok.cl,h.ok.live,⟨by show 0≤s.now+1;omega,by show s.now+1≤_;omega⟩,h.ok.w3⟩,h.ho,fun m _ hm=>absurd hm (aE m),h.cl,fun p _ aC=>absurd aC (aE p)⟩
theorem Sys.rP{aG:List (Nat→Int)}{A:Nat→Prop}{s:cf}(h:Sys aG A s)(aP:s.now<1000000000):Sys aG A (b4 s).1∧((∃k,sI s (b4 s).1 k∧Told s k (b4 s).2)∨((∀m,¬s.L m)∧b4 s=({s with now:=s.now+1},⟨-1,-1,-1,false,0,false⟩))):=by
  rcases Z3 h.ok with⟨k,g⟩|⟨ab,ae⟩
  · obtain⟨e,_,_,aJ,_⟩:=h.mL g.l
    obtain⟨t1,t2⟩:=Xp h.ok aJ g
    exact⟨h.tick aP rfl t1,.inl ⟨k,t1,t2⟩⟩
  · have:=Gm (s:=s) (by rw [ab])
    exact⟨by rw [this];exact h.idle aP ae,.inr ⟨ae,this⟩⟩
structure tR(s eZ:cf)(k:Nat)(j:fN):Prop where
  no:¬s.L k
  lt:k<16
  aD:eZ.aD=bz s.aD k j
  cl:eZ.cl=s.cl
  now:eZ.now=s.now
  live:∀m,eZ.L m↔s.L m∨m=k
theorem Yv{s:cf}{j:fN}{a:an dt}{k:Nat}(ai:j.id=k)(he:pn s j=0):tR s (sd s j a) k {j with cz:=a}∧j.done<j.cost:=by
 have gA:¬(j.id<0∨j.id≥16∨j.done≥j.cost):=fun c=>by rw [CP c]at he;cases he
 have jH:k<16:=by omega
 have cN:hasB s.live (k:Int)=false:=by
  cases a7:hasB s.live (k:Int)with
  |false=>rfl
  |true=>rw [←ai]at a7;rw [JS gA a7]at he;cases he
 rw [AF he]
 refine⟨⟨by show¬hasB _ _=true;rw [cN];decide,jH,by show bz s.aD j.id.toNat _=_;rw [ai,Int.toNat_natCast],rfl,rfl,fun m=>?_⟩,by omega⟩
 show hasB (s.live|||dL j.id) (m:Int)=true↔hasB s.live (m:Int)=true∨_
 rw [ai]
 constructor
 ·intro al
  rw [Cn jH (rO al)]at al
  simpa using al
 ·rintro(al|rfl)
  ·rw [Cn jH (rO al),al];rfl
  ·rw [Cn jH ah];simp
theorem tR.so{s eZ:cf}{k m:Nat}{j:fN}(t:tR s eZ k j)(h:m≠k):eZ.aD m=s.aD m:=by rw [t.aD,fG _ _ h]
theorem tR.gr{s eZ:cf}{k m:Nat}{j:fN}(t:tR s eZ k j)(h:m≠k):eZ.H m=s.H m∧eZ.vk m=s.vk m:=by
  have e:eZ.H m=s.H m:=by show hold _ _=hold _ _;rw [t.so h]
  exact⟨e,by show q2 _ _ _=q2 _ _ _;rw [t.cl,e]⟩
theorem tR.ai{s eZ:cf}{k:Nat}{j:fN}(t:tR s eZ k j):eZ.H k=hold j.cz.l j.done:=by show hold (eZ.aD k).cz.l (eZ.aD k).done=_;rw [t.aD,e4]
theorem Sys.n5{aG:List (Nat→Int)}{A:Nat→Prop}{s eZ:cf}{k:Nat}{j:fN}{e:Nat→Int}(h:Sys aG A s)(aq:jt eZ)(t:tR s eZ k j)(a5:A k)(he:aG[k]?=some e)(b5:j.done=0)(a7:0<j.cost)(aE:pL e j.cost 0 j.cz.l)(hle:j.cost≤e 2)(H8:j.hO=j.rel+e 1)(a4:j.rel≤s.now):Sys aG A eZ:=by
 have ai:eZ.H k= -1:=by rw [t.ai,b5];exact RD aE
 refine⟨aq,fun m hm=>?_,fun m og hm tY=>?_,fun m e a5 he r a4 hu=>by rw [t.cl];exact h.cl m e a5 he r a4 hu,fun p q aC bF mX cy=>?_⟩
 ·rcases(t.live m).1 hm with eE|rfl
  ·exact h.ho m eE
  ·exact⟨a5,(List.getElem?_eq_some_iff.1 he).1⟩
 ·rw [t.now]
  by_cases c:m=k
  ·subst c
   rw [he]at tY;cases tY
   rw [t.aD,e4]
   exact⟨aE,by omega,hle,H8,a4⟩
  ·rw [t.so c]
   exact h.EA m og (((t.live m).1 hm).resolve_right c) tY
 ·have c1:p≠k:=fun c=>by subst c;omega
  have bW:q≠k:=fun c=>by subst c;omega
  have cb:=t.gr c1
  have cq:=t.gr bW
  exact h.Bc p q (((t.live p).1 aC).resolve_right c1) (((t.live q).1 bF).resolve_right bW) ah ah
section
def hS(f:Nat→Int):Nat→Int
  |0=>0
  |n+1=>hS f n+f n
theorem xw{f g:Nat→Int}:∀n,(∀j,j<n→f j≤g j)→hS f n≤hS g n
  |0,_=>Int.le_refl _
  |n+1,h=>by
    have ih:=xw n (fun j aI=>h j (by omega))
    have:=h n (by omega)
    show hS f n+f n≤hS g n+g n;omega
theorem Co{f:Nat→Int}:∀n,(∀j,j<n→f j=0)→hS f n=0
  |0,_=>rfl
  |n+1,h=>by
    have ih:=Co n (fun j aI=>h j (by omega))
    have:=h n (by omega)
    show hS f n+f n=0;omega
theorem Qu{f:Nat→Int}:∀n,(∀j,j<n→0≤f j)→0≤hS f n∧∀j,j<n→f j≤hS f n
 |0,_=>⟨Int.le_refl _,fun j aI=>by omega⟩
 |n+1,h=>by
  have ih:=Qu n (fun j aI=>h j ah)
  have b5:=h n ah
  have e:hS f (n+1)=hS f n+f n:=rfl
  refine⟨by omega,fun j aI=>?_⟩
  by_cases q:j=n
  ·subst q;omega
  ·have:=ih.2 j ah;omega
theorem CE{f g:Nat→Int}{k:Nat}{d:Int}:∀n,(∀j,j<n→j≠k→g j=f j)→g k=f k-d→hS g n=hS f n-if k<n then d else 0
  |0,_,_=>by rw [if_neg (by omega)];show(0:Int)=0-0;omega
  |n+1,h,ai=>by
    have ih:=CE (d:=d) n (fun j aI aP=>h j (by omega) aP) ai
    show hS g n+g n=hS f n+f n-_
    rw [ih]
    by_cases q:n=k
    · subst q;rw [if_neg (by omega),if_pos (by omega),ai];omega
    · rw [h n (by omega) q]
      by_cases bR:k<n
      · rw [if_pos bR,if_pos (by omega)];omega
      · rw [if_neg bR,if_neg (by omega)];omega
section
variable{aG:List (Nat→Int)}{A:Nat→Prop}
abbrev dg(aG:List (Nat→Int))(j:Nat):Nat→Int:=aG.getD j fun _=>0
theorem Sz{k:Nat}{e:Nat→Int}(h:aG[k]?=some e):dg aG k=e:=by simp [dg,List.getD,h]
theorem DC{k:Nat}(h:k<aG.length):aG[k]?=some (dg aG k):=by simp [dg,List.getD,h]
theorem SA{k:Nat}(h:¬k<aG.length):dg aG k=fun _=>0:=by simp [dg,List.getD,List.getElem?_eq_none (Nat.le_of_not_lt h)]
structure pD(aG:List (Nat→Int)):Prop where
  n:aG.length≤16
  ok:∀e∈aG,(1≤e 0∧e 0≤4096)∧(1≤e 1∧e 1≤e 0)∧(1≤e 2∧e 2≤e 1)∧∀r:Nat,r<8→0≤e (3+r)∧e (3+r)≤e 2
theorem pD.dg(h:pD aG){k:Nat}(ai:k<aG.length):(1≤dg aG k 0∧dg aG k 0≤4096)∧(1≤dg aG k 1∧dg aG k 1≤dg aG k 0)∧(1≤dg aG k 2∧dg aG k 2≤dg aG k 1)∧∀r:Nat,r<8→0≤dg aG k (3+r)∧dg aG k (3+r)≤dg aG k 2:=
  h.ok _ (List.mem_of_getElem? (DC ai))
theorem pD.c6(h:pD aG)(k:Nat):0≤Go.Proofs.YtkpibibplbjciaaGreatDoor.dg aG k 2:=by
  by_cases q:k<aG.length
  · have:=h.dg q;omega
  · rw [SA q];exact Int.le_refl _
def ti(z:cf)(j:Nat):Int:=if z.L j then(z.aD j).cost-(z.aD j).done else 0
abbrev yl(z:cf)(n:Nat):Int:=hS (ti z) n
theorem SB{z:cf}(h:Sys aG A z)(j:Nat):0≤ti z j∧(z.L j→1≤ti z j):=by
  unfold ti
  by_cases q:z.L j
  · obtain⟨e,_,_,aJ,_⟩:=h.mL q
    rw [if_pos q];exact⟨by omega,fun _=>by omega⟩
  · rw [if_neg q];exact⟨by omega,fun c=>absurd c q⟩
theorem aep{z:cf}(h:Sys aG A z){n:Nat}(hw:yl z n≤0):∀j,j<n→¬z.L j:=fun j aI q=>by
  have ab:=(Qu n (fun j _=>(SB h j).1)).2 j aI
  have ae:=(SB h j).2 q
  have hw:hS (ti z) n≤0:=hw
  omega
theorem Z4{z:cf}{n:Nat}(h:∀j,j<n→¬z.L j):yl z n=0:=Co n fun j aI=>by unfold ti;rw [if_neg (h j aI)]
theorem Xq{z vu:cf}{k:Nat}(h:Sys aG A z)(t:sI z vu k)(n:Nat):yl vu n=yl z n-if k<n then 1 else 0:=by
 refine CE n (fun j aI aP=>?_) ?_
 ·unfold ti
  by_cases q:z.L j
  ·rw [if_pos q,if_pos ((t.live j).2 ⟨q,fun c=>absurd c aP⟩),t.so aP]
  ·rw [if_neg q,if_neg (fun c=>q ((t.live j).1 c).1)]
 ·obtain⟨e,_,_,aJ,_⟩:=h.mL t.g.l
  unfold ti
  rw [if_pos t.g.l]
  by_cases q:(z.aD k).done+1<(z.aD k).cost
  ·rw [if_pos ((t.live k).2 ⟨t.g.l,fun _=>q⟩),t.B2];show(z.aD k).cost-((z.aD k).done+1)=_;omega
  ·rw [if_neg (fun c=>q (((t.live k).1 c).2 rfl))];omega
theorem Xr{z vu:cf}{k:Nat}{j:fN}(t:tR z vu k j)(aJ:j.done=0)(n:Nat):yl vu n=yl z n+if k<n then j.cost else 0:=by
  have h:=CE (f:=ti z) (g:=ti vu) (k:=k) (d:= -j.cost) n (fun m hm aP=>?_) ?_
  · show hS _ n=hS _ n+_
    rw [h];split<;>omega
  · unfold ti
    by_cases q:z.L m
    · rw [if_pos q,if_pos ((t.live m).2 (.inl q)),t.so aP]
    · rw [if_neg q,if_neg (fun c=>q (((t.live m).1 c).resolve_right aP))]
  · unfold ti
    rw [if_neg t.no,if_pos ((t.live k).2 (.inr rfl)),t.aD,e4];omega
def sz(aG:List (Nat→Int))(H:BitVec 32)(i r:Nat):Int:=mM r (ht aG (bb (kb H (i:Int))))
theorem F6(r:Nat):∀(l:List (Nat→Int)) (m:Int),m≤l.foldl (fun m e=>max m (e (3+r))) m∧(∀e∈l,e (3+r)≤l.foldl (fun m e=>max m (e (3+r))) m)∧∀M,m≤M→(∀e∈l,e (3+r)≤M)→l.foldl (fun m e=>max m (e (3+r))) m≤M
 |[],m=>⟨Int.le_refl _,fun e he=>absurd he List.not_mem_nil,fun M h _=>h⟩
 |a::l,m=>by
  obtain⟨ab,ae,av⟩:=F6 r l (max m (a (3+r)))
  rw [List.foldl_cons]
  refine⟨by omega,fun e he=>?_,fun M hm aE=>av M (by have:=aE a (List.mem_cons_self ..);omega) fun e he=>aE e (List.mem_cons_of_mem _ he)⟩
  rcases List.mem_cons.1 he with rfl|he
  ·omega
  ·exact ae e he
theorem CW{m:BitVec 32}{e:Nat→Int}:e∈ht aG (bb m)↔∃k:Nat,k<32∧hasB m (k:Int)=true∧aG[k]?=some e:=by
  unfold ht
  rw [List.mem_filterMap]
  constructor
  · rintro⟨x,al,he⟩
    obtain⟨a1,a3,bI⟩:=iV.1 al
    obtain⟨k,rfl⟩:=Int.eq_ofNat_of_zero_le a1
    rw [Int.toNat_natCast]at he
    exact⟨k,by omega,bI,he⟩
  · rintro⟨k,ab,ae,av⟩
    exact⟨(k:Int),iV.2 ⟨by omega,by omega,ae⟩,by rw [Int.toNat_natCast];exact av⟩
theorem SC{H:BitVec 32}{i k r:Nat}{e:Nat→Int}(ai:i<k)(tj:hasB H (k:Int)=true)(he:aG[k]?=some e):e (3+r)≤sz aG H i r:=
  (F6 r _ 0).2.1 e (CW.2 ⟨k,rO tj,by rw [ND _ _ _ (rO tj),tj];simp;exact ai,he⟩)
theorem AZ{H:BitVec 32}{i r:Nat}:0≤sz aG H i r:=(F6 r _ 0).1
theorem aeq{H:BitVec 32}{i r:Nat}{M:Int}(b5:0≤M)(h:∀k e,i<k→hasB H (k:Int)=true→aG[k]?=some e→e (3+r)≤M):sz aG H i r≤M:=by
 refine(F6 r _ 0).2.2 M b5 fun e he=>?_
 obtain⟨k,ab,ae,av⟩:=CW.1 he
 rw [ND _ _ _ ab]at ae
 simp only [Bool.and_eq_true,decide_eq_true_eq]at ae
 exact h k e ah ae.1 av
theorem Gu{H VK:BitVec 32}{i MT r:Nat}(af:MT≤i)(h:∀k:Nat,i<k→hasB H (k:Int)=true→hasB VK (k:Int)=true):sz aG H i r≤sz aG VK MT r:=
  aeq AZ fun k e ai tj he=>SC (by omega) (h k ai tj) he
def ol(x T:Int):Int:=if x≤0 then 0 else(x-1)/T+1
theorem K6{x T:Int}(c9:0≤T):0≤ol x T:=by
  unfold ol;split
  · omega
  · have:=Int.ediv_nonneg (a:=x-1) (b:=T) (by omega) c9;omega
theorem aer{x T n:Int}(c9:1≤T)(aP:1≤n)(h:n*T≤x-1+T):n≤ol x T:=by
  have ab:T≤n*T:=by have:=Int.mul_le_mul_of_nonneg_right aP (show 0≤T by omega);omega
  unfold ol;rw [if_neg (by omega)]
  have:n-1≤(x-1)/T:=(Int.le_ediv_iff_mul_le (by omega)).2 (by rw [Int.sub_mul];omega)
  omega
structure lj where
  S:BitVec 32
  H:BitVec 32
  o:Nat→Int
  t:Nat→Int
abbrev lj.cond(F:lj)(i r:Nat):Prop:=((List.range (i+1)).any fun(j:Nat)=>hasB F.S (j:Int)&&decide (F.t r≤(j:Int)))=true
theorem yH{F:lj}{i r:Nat}:F.cond i r↔∃j:Nat,j≤i∧hasB F.S (j:Int)=true∧F.t r≤j:=by
  unfold lj.cond
  rw [List.any_eq_true]
  constructor
  · rintro⟨j,ab,ae⟩
    rw [List.mem_range]at ab
    simp only [Bool.and_eq_true,decide_eq_true_eq]at ae
    exact⟨j,by omega,ae⟩
  · rintro⟨j,ab,ae,av⟩
    exact⟨j,List.mem_range.2 (by omega),by rw [ae];simpa using av⟩
def lj.U(F:lj)(aG:List (Nat→Int))(i:Nat):Int:=hS (fun r=>if F.cond i r then sz aG F.H i r else 0) 8
def lj.ym(F:lj)(aG:List (Nat→Int))(R:Int)(i:Nat):Int:=hS (fun j=>if hasB F.S (j:Int)=true then dg aG j 2*ol (R-F.o j) (dg aG j 0)else 0) (i+1)
structure kz(aG:List (Nat→Int))(F:lj)(i:Nat)(R:Int):Prop where
  one:1≤R
  fix:F.ym aG R i+F.U aG i≤R
structure kj(aG:List (Nat→Int))(F:lj)(i:Nat)(s:cf)(bm:Nat→Int)(b:Int)(N e3:Nat→Int):Prop where
  le:b≤s.now
  B3:∀R,kz aG F i R→s.now<b+R
  rel:∀j,j≤i→s.L j→b+F.o j≤(s.aD j).rel
  bB:∀j:Nat,j≤i→s.L j→hasB F.S (j:Int)=true
  fx:∀j,0≤N j
  B4:∀j:Nat,j≤i→0<N j→hasB F.S (j:Int)=true∧b+F.o j+N j*dg aG j 0≤bm j
  acc:yl s (i+1)+(s.now-b)≤hS (fun j=>dg aG j 2*N j) (i+1)+hS e3 8
  h4:∀r,r<8→0≤e3 r∧e3 r≤sz aG F.H i r∧(0<e3 r→F.cond i r)
  held:∀k:Nat,i<k→s.L k→∀r:Nat,r<8→s.H k=(r:Int)→e3 r+s5 (s.aD k).cz.l (s.aD k).done≤sz aG F.H i r
variable{F:lj}{i:Nat}{s:cf}{bm:Nat→Int}{b:Int}{N e3:Nat→Int}
theorem ab7(h:Sys aG A s){H:BitVec 32}(tj:∀k:Nat,s.L k→hasB H (k:Int)=true){k:Nat}(af:i<k)(ai:s.L k){r:Nat}(a4:s.H k=(r:Int)):s5 (s.aD k).cz.l (s.aD k).done≤sz aG H i r:=by
  obtain⟨e,vz,a1,a3,bI,cv,eX,_⟩:=h.held ai (by omega)
  have:r=vz:=by omega
  subst this
  have:=SC (r:=r) af (tj k ai) a1
  omega
theorem kj.fresh(c9:pD aG)(h:Sys aG A s)(tj:∀k:Nat,s.L k→hasB F.H (k:Int)=true)(aE:∀j,j≤i→¬s.L j):kj aG F i s bm s.now (fun _=>0) (fun _=>0):=by
 refine⟨Int.le_refl _,fun R rE=>by have:=rE.one;omega,fun j aI q=>absurd q (aE j aI),fun j aI q=>absurd q (aE j aI),fun _=>Int.le_refl _,fun j _ q=>absurd q (Int.lt_irrefl _),?_,fun r _=>⟨Int.le_refl _,AZ,fun q=>absurd q (Int.lt_irrefl _)⟩,fun k ai aE r a4 fv=>?_⟩
 ·rw [Z4 fun j aI=>aE j ah,Co (i+1) fun j _=>Int.mul_zero _,Co (f:=fun _=>(0:Int)) 8 fun _ _=>rfl];omega
 ·have:=ab7 h tj ai aE fv;omega
theorem kj.ab8(c9:pD aG)(p:kj aG F i s bm b N e3)(l9:∀j,bm j≤s.now+dg aG j 0)(af:i<16)(dj:∀j:Nat,hasB F.S (j:Int)=true→j<aG.length){R:Int}(rE:s.now+1=b+R):hS (fun j=>dg aG j 2*N j) (i+1)≤F.ym aG R i:=
  xw _ fun j aI=>by
    have c6:=c9.c6 j
    have fx:=p.fx j
    by_cases q:0<N j
    · obtain⟨a1,a3⟩:=p.B4 j (by omega) q
      have bI:=l9 j
      have cv:=(c9.dg (dj j a1)).1.1
      rw [if_pos a1]
      exact Int.mul_le_mul_of_nonneg_left (aer cv (by omega) (by omega)) c6
    · rw [show N j=0 by omega,Int.mul_zero]
      split
      · rename_i a1
        exact Int.mul_nonneg c6 (K6 (by have:=(c9.dg (dj j a1)).1.1;omega))
      · exact Int.le_refl _
theorem kj.tick(c9:pD aG)(h:Sys aG A s)(aP:s.now<1000000000)(h2:∀r,r<8→F.t r≤s.cl r)(l9:∀j,bm j≤s.now+dg aG j 0)(af:i<16)(dj:∀j:Nat,hasB F.S (j:Int)=true→j<aG.length)(p:kj aG F i s bm b N e3):(∃mU,kj aG F i (b4 s).1 bm b N mU)∨(∀j,j≤i→¬(b4 s).1.L j):=by
 obtain⟨ae,⟨k,t,o⟩|⟨q,w5⟩⟩:=h.rP aP
 ·by_cases aE:∃j,j≤i∧s.L j
  ·obtain⟨j,aI,wM⟩:=aE
   have U0:=Xq h t (i+1)
   have key:∃mU:Nat→Int,(∀r,r<8→0≤mU r∧mU r≤sz aG F.H i r∧(0<mU r→F.cond i r))∧yl (b4 s).1 (i+1)+((b4 s).1.now-b)≤hS (fun j=>dg aG j 2*N j) (i+1)+hS mU 8∧∀k:Nat,i<k→(b4 s).1.L k→∀r:Nat,r<8→(b4 s).1.H k=(r:Int)→mU r+s5 ((b4 s).1.aD k).cz.l ((b4 s).1.aD k).done≤sz aG F.H i r:=by
    have ajn:=p.acc
    rw [t.now]
    by_cases ai:k<i+1
    ·rw [if_pos ai]at U0
     refine⟨e3,p.h4,by omega,fun m hm aE r a4 fv=>?_⟩
     have gr:m≠k:=by omega
     rw [t.so gr]
     exact p.held m hm ((t.live m).1 aE).1 r a4 (by rw [←(t.gr gr).1];exact fv)
    ·rw [if_neg ai]at U0
     obtain⟨kF,iQ⟩:=t.g.over h.ok wM ah
     obtain⟨e,r,a1,a3,bI,cv,eX,fJ,mY⟩:=h.held t.g.l kF
     have a4:=p.held k ah t.g.l r a3 bI
     have aC:=Z2 (l:=(s.aD k).cz.l) (d:=(s.aD k).done) kF
     obtain⟨ax,aK,bq⟩:=p.h4 r a3
     have a7:F.cond i r:=yH.2 ⟨j,aI,p.bB j aI wM,by have:=h2 r a3;omega⟩
     refine⟨bz e3 r (e3 r+1),fun vz zG=>?_,?_,fun m hm aE vz zG fv=>?_⟩
     ·by_cases c:vz=r
      ·subst c;rw [e4];exact⟨by omega,by omega,fun _=>a7⟩
      ·rw [fG _ _ c];exact p.h4 vz zG
     ·have:=CE (f:=e3) (g:=bz e3 r (e3 r+1)) (k:=r) (d:= -1) 8 (fun m _ hm=>fG _ _ hm) (by rw [e4];omega)
      rw [if_pos a3]at this
      omega
     ·by_cases c:m=k
      ·subst c
       obtain⟨_,_,ei,_⟩:=h.mL t.g.l
       rw [t.ai]at fv
       have cb:=NO ei (by omega:0≤hold (s.aD m).cz.l ((s.aD m).done+1)) kF
       have cq:=Yt ei (by omega:0≤hold (s.aD m).cz.l ((s.aD m).done+1)) kF
       have fP:s.H m=hold (s.aD m).cz.l (s.aD m).done:=rfl
       have:vz=r:=by omega
       subst this
       rw [e4,t.B2]
       show _+s5 (s.aD m).cz.l ((s.aD m).done+1)≤_
       omega
      ·have oV:=((t.live m).1 aE).1
       rw [(t.gr c).1]at fv
       have:vz≠r:=fun z=>by subst z;exact c (h.Bc m k oV t.g.l ah ah)
       rw [fG _ _ this,t.so c]
       exact p.held m hm oV vz zG fv
   obtain⟨mU,e2,cD,kp⟩:=key
   by_cases U1:∀R,kz aG F i R→(b4 s).1.now<b+R
   ·left
    refine⟨mU,by rw [t.now];have:=p.le;omega,U1,fun m hm aE=>?_,fun m hm aE=>p.bB m hm ((t.live m).1 aE).1,p.fx,p.B4,cD,e2,kp⟩
    have oV:=((t.live m).1 aE).1
    by_cases c:m=k
    ·subst c;rw [t.B2];exact p.rel m hm oV
    ·rw [t.so c];exact p.rel m hm oV
   ·right
    obtain⟨R,rE⟩:=Classical.not_forall.1 U1
    obtain⟨rE,ah3⟩:=Classical.not_imp.1 rE
    have ab:=p.B3 R rE
    rw [t.now]at ah3 cD
    have BI:=p.ab8 c9 l9 af dj (R:=R) ah
    have av:hS mU 8≤F.U aG i:=xw 8 fun r a4=>by
     obtain⟨cy,bR,gD⟩:=e2 r a4
     by_cases c:0<mU r
     ·rw [if_pos (gD c)];exact bR
     ·split
      ·omega
      ·omega
    have aV:=rE.fix
    have:=aep ae (n:=i+1) ah
    exact fun j aI=>this j ah
  ·right
   intro j aI q
   exact aE ⟨j,aI,((t.live j).1 q).1⟩
 ·right
  intro j _ c
  rw [w5]at c
  exact q j c
theorem kj.n5(c9:pD aG){eZ:cf}{k:Nat}{j:fN}(p:kj aG F i s bm b N e3)(t:tR s eZ k j)(aJ:j.done=0)(a7:j.cost≤dg aG k 2)(a4:j.rel=s.now)(fv:hold j.cz.l 0= -1)(bl:bm k≤s.now)(ai:k≤i→hasB F.S (k:Int)=true∧b+F.o k≤s.now):
  ∃w6,kj aG F i eZ (bz bm k (s.now+dg aG k 0)) b w6 e3:=by
 refine⟨if k≤i then bz N k (N k+1)else N,by rw [t.now];exact p.le,by rw [t.now];exact p.B3,fun m hm aE=>?_,fun m hm aE=>?_,fun m=>?_,fun m hm aP=>?_,?_,p.h4,fun m hm aE r zG H7=>?_⟩
 ·by_cases c:m=k
  ·subst c;rw [t.aD,e4,a4];exact(ai hm).2
  ·rw [t.so c];exact p.rel m hm (((t.live m).1 aE).resolve_right c)
 ·by_cases c:m=k
  ·subst c;exact(ai hm).1
  ·exact p.bB m hm (((t.live m).1 aE).resolve_right c)
 ·split
  ·have:=p.fx m;have:=p.fx k
   unfold bz;split<;>omega
  ·exact p.fx m
 ·by_cases c:m=k
  ·subst c
   rw [if_pos hm,e4]at aP⊢
   rw [e4]
   obtain⟨ab,ae⟩:=ai hm
   refine⟨ab,?_⟩
   rw [Int.add_mul,Int.one_mul]
   by_cases q:0<N m
   ·have:=(p.B4 m hm q).2;omega
   ·rw [show N m=0 by have:=p.fx m;omega,Int.zero_mul];omega
  ·rw [fG _ _ c]
   have e:(if k≤i then bz N k (N k+1)else N) m=N m:=by
    split
    ·exact fG _ _ c
    ·rfl
   rw [e]at aP⊢
   exact p.B4 m hm aP
 ·rw [t.now,Xr t aJ]
  have:=p.acc
  by_cases c:k≤i
  ·rw [if_pos c,if_pos ah]
   have e:=CE (f:=fun j=>dg aG j 2*N j) (g:=fun j=>dg aG j 2*bz N k (N k+1) j) (k:=k) (d:= -dg aG k 2) (i+1) (fun m _ hm=>by show _*bz N k _ m=_;rw [fG _ _ hm]) (by show _*bz N k _ k=_;rw [e4,Int.mul_add];omega)
   rw [if_pos ah]at e
   rw [e];omega
  ·rw [if_neg c,if_neg ah];omega
 ·by_cases c:m=k
  ·subst c
   rw [t.ai,aJ,fv]at H7;omega
  ·rw [t.so c]
   exact p.held m hm (((t.live m).1 aE).resolve_right c) r zG (by rw [←(t.gr c).1];exact H7)
theorem kj.ceil{t:Nat→Int}(p:kj aG F i s bm b N e3):kj aG F i (sQ s t) bm b N e3:=⟨p.le,p.B3,p.rel,p.bB,p.fx,p.B4,p.acc,p.h4,p.held⟩
theorem kj.wide{B5:lj}(p:kj aG F i s bm b N e3)(bs:∀R,kz aG B5 i R→kz aG F i R)(dj:∀j:Nat,j≤i→hasB F.S (j:Int)=true→hasB B5.S (j:Int)=true∧B5.o j=F.o j)(tj:∀k:Nat,hasB F.H (k:Int)=true→hasB B5.H (k:Int)=true)(a7:∀r,F.cond i r→B5.cond i r):kj aG B5 i s bm b N e3:=
  ⟨p.le,fun R rE=>p.B3 R (bs R rE),fun j aI aE=>by rw [(dj j aI (p.bB j aI aE)).2];exact p.rel j aI aE,fun j aI aE=>(dj j aI (p.bB j aI aE)).1,p.fx,fun j aI aP=>by obtain⟨ab,ae⟩:=p.B4 j aI aP;obtain⟨a1,a3⟩:=dj j aI ab;rw [a3];exact⟨a1,ae⟩,p.acc,fun r a4=>by
    obtain⟨ab,ae,av⟩:=p.h4 r a4
    exact⟨ab,Int.le_trans ae (Gu (Nat.le_refl _) fun k _=>tj k),fun q=>a7 r (av q)⟩,fun k ai aE r a4 fv=>Int.le_trans (p.held k ai aE r a4 fv) (Gu (Nat.le_refl _) fun k _=>tj k)⟩
end
end
end Go.Proofs.YtkpibibplbjciaaGreatDoor
