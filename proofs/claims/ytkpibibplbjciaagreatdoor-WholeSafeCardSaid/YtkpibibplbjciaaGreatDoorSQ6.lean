/- Of the proof of WholeSafe. -/
import Derived.Test.YtkpibibplbjciaaGreatDoorSQ5
set_option linter.unusedVariables false
set_option linter.unusedSectionVars false
set_option linter.unusedSimpArgs false
namespace Go.Proofs.YtkpibibplbjciaaGreatDoor
open Go Go.Sl
set_option maxRecDepth 4000
variable {B : Nat} {K : ar B}
def jn(m:Nat):UInt8:=UInt8.ofNat (48+m%10)
theorem AJ(m:Nat):(jn m).toNat=48+m%10:=by
  unfold jn;rw [UInt8.toNat_ofNat'];omega
theorem Gy(m:Nat):IntKind.u8.wrap (48+((m%10:Nat):Int))=((jn m).toNat:Int):=by
  rw [AJ]
  show(48+((m%10:Nat):Int))%256=_
  omega
theorem G0(m:Nat):Int.tmod (m:Int) 10=((m%10:Nat):Int):=by rw [Int.tmod_eq_emod_of_nonneg (by omega)];omega
theorem G1(m:Nat):Int.tdiv (m:Int) 10=((m/10:Nat):Int):=by rw [Int.tdiv_eq_ediv_of_nonneg (by omega)];omega
def mq:Nat→Nat→List UInt8
  |0,_=>[]
  |f+1,n=>if n=0 then []else jn n::mq f (n/10)
def rd(m:Nat):List UInt8:=jn m::mq 10 (m/10)
theorem DE:∀f,mq f 0=[]
  |0=>rfl
  |f+1=>rfl
theorem SH{f m:Nat}(b5:0<m)(h:m<10^f):∃f2,f=f2+1∧mq f m=jn m::mq f2 (m/10)∧m/10<10^f2:=by
  cases f with
  |zero=>simp at h;omega
  |succ f=>exact⟨f,rfl,by rw [mq,if_neg (by omega)],by rw [Nat.pow_succ]at h;omega⟩
def g4(n:Int):Nat:=(min (max n 0) 2147483647).toNat
theorem yJ(n:Int):g4 n≤2147483647:=by unfold g4;omega
theorem YH(n:Int):min (max n 0) 2147483647=(g4 n:Int):=by unfold g4;omega
def eL(n:Int):List UInt8:=(rd (g4 n)).reverse
def Dm(o xs:List UInt8)(i:Nat):Prop:=xs.length=o.length∧∀j,j<o.length→xs[j]?=if j<i∨o.length-1-i<j then o[o.length-1-j]? else o[j]?
theorem YI(o:List UInt8)(h:0<o.length):Dm o o 0:=⟨rfl,fun j aI=>by rw [if_neg (by omega)]⟩
theorem WD{o xs:List UInt8}{i:Nat}(h:Dm o xs i)(af:o.length≤2*i+1):xs=o.reverse:=by
  apply List.ext_getElem?
  intro j
  by_cases aI:j<o.length
  · rw [h.2 j aI,List.getElem?_reverse aI]
    split
    · rfl
    · rw [show o.length-1-j=j by omega]
  · rw [List.getElem?_eq_none (by rw [h.1];omega),List.getElem?_eq_none (by simp;omega)]
theorem YJ{o xs:List UInt8}{i k:Nat}{a b:UInt8}(h:Dm o xs i)(ai:k=o.length-1-i)(zB:i<k)(a5:xs[i]?=some a)(aR:xs[k]?=some b):Dm o ((xs.set i b).set k a) (i+1):=by
 have aE:=h.1
 refine⟨by simp [aE],fun j aI=>?_⟩
 have ab:=h.2 i ah;rw [if_neg ah,a5]at ab
 have ae:=h.2 k ah;rw [if_neg ah,aR]at ae
 by_cases cb:j=k
 ·subst cb
  rw [List.getElem?_set_self (by simp;omega),if_pos ah,show o.length-1-j=i by omega];exact ab
 rw [List.getElem?_set_ne ah]
 by_cases cq:j=i
 ·subst cq
  rw [List.getElem?_set_self ah,if_pos ah,show o.length-1-j=k by omega];exact ae
 rw [List.getElem?_set_ne ah,h.2 j aI]
 by_cases fP:j<i∨o.length-1-i<j
 ·rw [if_pos fP,if_pos ah]
 rw [if_neg fP,if_neg ah]
theorem n0(n:Int):a6 B 63 [aa n] [] (fun v S=>v=str (eL n)∧S=[]):=by
 refine bM 53 Tryz.func63 fun ba bf=>?_
 rw [YH n]
 refine aj ?_
 refine ap (pX (z:=(((g4 n)%10:Nat):Int)) rfl rfl b2 (G0 (g4 n))) ?_
 refine ap (mE (m:=48) (n:=(((g4 n)%10:Nat):Int)) rfl rfl ah ah) ?_
 refine ap (ja (z:=((jn (g4 n)).toNat:Int)) rfl ad (Gy (g4 n))) ?_
 refine im (aF:=m8 (jn (g4 n))) .no rfl ad b2 b2 (by rfl) (by rfl) rfl rfl (fun ax=>?_)
 refine aj ?_
 refine ap (pX (z:=(((g4 n)/10:Nat):Int)) rfl rfl b2 (by show IntKind.i64.wrap _=_;rw [G1];exact lP ah (by have:=yJ n;omega))) ?_
 refine aj ?_
 refine XO (b:=ax) (aF:=m8 (jn (g4 n))) m8 [jn (g4 n)] (by simp) (fun _=>rfl) (by simp [maxLen]) rfl au ?_
 refine ds (α:=Nat×Nat×an UInt8) (fun⟨m,f,c⟩=>m≤2147483647∧m<10^f∧c.l++mq f m=rd (g4 n)∧c.l.length+f≤11∧0<c.l.length∧c.Own) (fun⟨m,f,c⟩=>[(0,aa (m:Int)),(3,az c)]) (fun⟨m,f,c⟩=>[eO c 5 1 m8]) (fun⟨m,f,c⟩=>m) ((g4 n)/10,10,an.lit ax [jn (g4 n)] (by simp)) ?_ dq aA ?_
 ·have qz:=yJ n;exact⟨by show g4 n/10≤_;omega,by show g4 n/10<10^10;omega,rfl,by show 1+10≤11;decide,by show 0<1;decide,an.vK⟩
 rintro⟨m,f,c⟩ ⟨tc,hm,a7,jZ,aii,jW⟩
 dsimp only
 refine bT ?_ ?_<;>intro ab
 ·obtain⟨f2,rfl,MG,EK⟩:=SH ah hm
  refine aj ?_
  refine ap (pX (z:=((m%10:Nat):Int)) rfl rfl b2 (G0 m)) ?_
  refine ap (mE (m:=48) (n:=((m%10:Nat):Int)) rfl rfl ah ah) ?_
  refine ap (ja (z:=((jn m).toNat:Int)) rfl ad (Gy m)) ?_
  refine im (aF:=m8 (jn m)) .no rfl ad b2 b2 (by rfl) (by rfl) rfl rfl (fun aK=>?_)
  refine xr (a2:=m8) (c:=c) (y:=(jn m)) (K:=_) .no rfl rfl ad au au (ir) rfl rfl ah ah rfl (fun cI fH iH=>?_)
  refine aj ?_
  refine ap (pX (z:=((m/10:Nat):Int)) rfl rfl b2 (by show IntKind.i64.wrap _=_;rw [G1];exact lP ah ah)) ?_
  refine aj ?_
  refine cE (m/10,f2,cI) ?_
  (try dsimp only);exact⟨by omega,EK,by rw [fH, ←a7,MG];simp,by rw [fH];simp;omega,by rw [fH];simp,iH⟩
 obtain rfl:m=0:=by omega
 rw [DE,List.append_nil]at a7
 refine aj ?_
 refine ds (α:=Nat×Int×List UInt8) (fun⟨i,er,xs⟩=>Dm c.l xs i∧i≤c.l.length∧er=(c.l.length:Int)-1-(i:Int)) (fun⟨i,er,xs⟩=>[(4,aa (i:Int)),(5,aa er),(3,az c)]) (fun⟨i,er,xs⟩=>[row (az c) 5 1 c.l.length (xs.flatMap m8)]) (fun⟨i,er,xs⟩=>c.l.length-i) (0,(c.l.length:Int)-1,c.l) ?_ dq aA ?_
 ·exact⟨YI _ aii,Nat.zero_le _,by show _=_-((0:Nat):Int);omega⟩
 rintro⟨i,er,xs⟩ ⟨al,af,gu⟩
 dsimp only
 have By:=al.1
 refine bT ?_ ?_<;>intro ae
 ·obtain⟨k,ai⟩:∃k:Nat,er=(k:Int):=⟨c.l.length-1-i,by omega⟩
  obtain⟨VS,Vl⟩:∃y,xs[i]?=some y:=⟨_,List.getElem?_eq_getElem ah⟩
  obtain⟨iE,uj⟩:∃y,xs[k]?=some y:=⟨_,List.getElem?_eq_getElem ah⟩
  refine aj ?_
  refine cZ _ ad (Take.self _) ?_
  refine aY [0,1,2,3,4,5] ?_
  refine bG 6 rfl (iW (j:=k) rfl rfl ad (c).fl ai ah rfl) ?_
  refine bj 7 rfl (eQ (a2:=m8) (aN:=1) (i:=k) (k:=0) (fun _=>rfl) rfl au (sD jW rfl al.1) ad uj rfl) ?_
  refine aY [8,9] ?_
  refine bG 10 rfl (iW rfl rfl ad (c).fl rfl ah rfl) ?_
  refine bj 11 rfl (eQ (a2:=m8) (aN:=1) (i:=i) (k:=0) (fun _=>rfl) rfl au (sD jW rfl al.1) ad Vl rfl) ?_
  refine bG 12 rfl (iW rfl rfl ad (c).fl rfl ah rfl) ?_
  refine aY [113] ?_
  refine l4 rfl dy (vZ (a2:=m8) (i:=i) (y:=iE) jW rfl rfl (fun _=>rfl) rfl rfl au ad (by first|omega|(simp;omega)) rfl) ?_
  refine bG 14 rfl (iW (j:=k) rfl rfl ad (c).fl ai ah rfl) ?_
  refine aY [115] ?_
  refine l4 rfl dy (vZ (a2:=m8) (i:=k) (y:=VS) jW rfl rfl (fun _=>rfl) rfl rfl au ad (by first|omega|(simp;omega)) rfl) ?_
  refine df [99] ?_
  refine cE (i+1,er-1,(xs.set i iE).set k VS) ?_
  (try dsimp only);exact⟨YJ al ah ah Vl uj,by omega,by show er-1=_-((i+1:Nat):Int);omega⟩
 have agM:xs=c.l.reverse:=WD al ah
 refine aj ?_
 refine ap (GF (a:=c) (l:=xs) rfl au (sD jW rfl al.1) al.1 ad) ?_
 refine aj ?_
 exact aO ⟨by rw [agM,a7];rfl,rfl⟩
theorem hZ(n:Int):(eL n).length≤11:=by
  unfold eL rd;rw [List.length_reverse,List.length_cons]
  have:∀f m,(mq f m).length≤f:=by
    intro f;induction f with
    |zero=>intro m;exact Nat.le_refl _
    |succ f ih=>intro m;rw [mq];split;exact Nat.zero_le _;rw [List.length_cons];have:=ih (m/10);omega
  have:=this 10 (g4 n/10);omega
abbrev fR(s:List UInt8):List Value:=[str s]
abbrev yt:fC:=(0,0,0,0)
def gS(l:List UInt8):Int:=l.foldl (fun n b=>10*n+(b.toNat:Int)-48) 0
def ri(b:UInt8):Prop:=48≤b.toNat∧b.toNat≤57
instance(b:UInt8):Decidable (ri b):=inferInstanceAs (Decidable (_∧_))
structure kO(s:List UInt8):Prop where
  len:1≤s.length∧s.length≤10
  head:¬(1<s.length∧s[0]?=some 48)
  all:∀b∈s,ri b
  dS:gS s≤2147483647
def m0:List UInt8→Nat
  |[]=>0
  |b::t=>(b.toNat-48)+10*m0 t
theorem Jd(l:List UInt8)(b:UInt8):gS (l++[b])=10*gS l+(b.toNat:Int)-48:=by unfold gS;rw [List.foldl_append];rfl
theorem JB:∀l:List UInt8,(∀b∈l,ri b)→gS l.reverse=(m0 l:Int)
  |[],_=>rfl
  |b::t,h=>by
    have aR:=h b (by simp)
    rw [List.reverse_cons,Jd,JB t (fun c a7=>h c (by simp [a7]))]
    show _=((b.toNat-48+10*m0 t:Nat):Int)
    have:=aR.1;omega
theorem SI(m:Nat):ri (jn m):=by unfold ri;rw [AJ];omega
theorem QK:∀f m,∀b∈mq f m,ri b
  |0,_,b,h=>by cases h
  |f+1,m,b,h=>by
    rw [mq]at h
    split at h
    · cases h
    · rcases List.mem_cons.1 h with rfl|h
      · exact SI _
      · exact QK f _ b h
theorem QL:∀f m,m<10^f→m0 (mq f m)=m
  |0,m,h=>by simp at h;subst h;rfl
  |f+1,m,h=>by
    rw [mq]
    split
    · rename_i b5;subst b5;rfl
    · show(jn m).toNat-48+10*m0 (mq f (m/10))=m
      rw [QL f (m/10) (by rw [Nat.pow_succ]at h;omega),AJ];omega
theorem Ol:∀f k m,m<10^k→(mq f m).length≤k
  |0,_,_,_=>Nat.zero_le _
  |f+1,0,m,h=>by simp at h;subst h;exact Nat.zero_le _
  |f+1,k+1,m,h=>by
    rw [mq]
    split
    · exact Nat.zero_le _
    · have:=Ol f k (m/10) (by rw [Nat.pow_succ]at h;omega)
      rw [List.length_cons];omega
theorem aeU{m:Nat}(h:m%10≠0):jn m≠48:=fun e=>by have:=congrArg UInt8.toNat e;rw [AJ]at this;have ae:(48:UInt8).toNat=48:=rfl;omega
theorem Pv:∀f m,0<m→m<10^f→∃r d,mq f m=r++[d]∧d≠48
  |0,m,b5,h=>by simp at h;omega
  |f+1,m,b5,h=>by
    rw [mq,if_neg (by omega)]
    by_cases aS:m/10=0
    · rw [aS,DE];exact⟨[],jn m,rfl,aeU (by omega)⟩
    · obtain⟨r,d,a4,aJ⟩:=Pv f (m/10) (by omega) (by rw [Nat.pow_succ]at h;omega)
      rw [a4];exact⟨jn m::r,d,rfl,aJ⟩
theorem RN(m:Nat):∀b∈rd m,ri b:=fun b h=>by
  rcases List.mem_cons.1 h with rfl|h
  · exact SI _
  · exact QK _ _ b h
theorem rd_val{m:Nat}(h:m≤2147483647):m0 (rd m)=m:=by
  show(jn m).toNat-48+10*m0 (mq 10 (m/10))=m
  rw [QL 10 (m/10) (by omega),AJ];omega
theorem F8(n:Int):gS (eL n)=g4 n:=by
  unfold eL;rw [JB _ (RN _),rd_val (yJ n)]
theorem yX(n:Int):kO (eL n):=by
 have a7:=yJ n
 refine⟨?_,?_,fun b aR=>RN _ b (by simpa [eL]using aR),by rw [F8];omega⟩
 ·have:=Ol 10 9 (g4 n/10) ah
  unfold eL rd;simp;omega
 rintro⟨ab,ae⟩
 unfold eL rd at ab ae
 by_cases aS:g4 n/10=0
 ·rw [aS,DE]at ab;simp at ab
 obtain⟨r,d,a4,aJ⟩:=Pv 10 (g4 n/10) ah ah
 rw [a4]at ae
 simp at ae
 exact aJ ae
theorem SJ{b:UInt8}{m:Nat}(aR:ri b)(h:m%10=b.toNat-48):jn m=b:=by
  apply UInt8.toNat_inj.1;rw [AJ,h];have:=aR.1;omega
theorem JC:∀(f:Nat) (l:List UInt8),l.length≤f→(∀b∈l,ri b)→(∀r d,l=r++[d]→d≠48)→mq f (m0 l)=l∧(l≠[]→0<m0 l)
 |f,[],_,_,_=>⟨DE f,fun h=>absurd rfl h⟩
 |0,b::t,h,_,_=>by simp at h
 |f+1,b::t,h,a5,aE=>by
  have aR:=a5 b (by simp)
  have qe:0<m0 (b::t):=by
   show 0<b.toNat-48+10*m0 t
   by_cases aL:t=[]
   ·have:=aE [] b (by rw [aL];rfl)
    have ae:b.toNat≠48:=fun e=>this (UInt8.toNat_inj.1 e)
    have:=aR.1;omega
   have:=(JC f t (by simpa using h) (fun c a7=>a5 c (by simp [a7])) (fun r d e=>aE (b::r) d (by rw [e];rfl))).2 aL
   omega
  have ih:=(JC f t (by simpa using h) (fun c a7=>a5 c (by simp [a7])) (fun r d e=>aE (b::r) d (by rw [e];rfl))).1
  refine⟨?_,fun _=>qe⟩
  rw [mq,if_neg ah]
  have cb:m0 (b::t)/10=m0 t:=by show(b.toNat-48+10*m0 t)/10=_;have:=aR.2;omega
  rw [cb,ih,SJ aR (by show(b.toNat-48+10*m0 t)%10=_;have:=aR.2;omega)]
theorem Pw{s:List UInt8}(h:kO s):0≤gS s∧eL (gS s)=s:=by
 obtain⟨l,rfl⟩:∃l:List UInt8,s=l.reverse:=⟨s.reverse,by simp⟩
 obtain⟨⟨ab,ae⟩,fv,a5,hm⟩:=h
 have MH:∀b∈l,ri b:=fun b aR=>a5 b (by simpa using aR)
 rw [JB l MH]at hm⊢
 refine⟨by omega,?_⟩
 have a7:g4 (m0 l:Int)=m0 l:=by unfold g4;omega
 unfold eL;rw [a7]
 congr 1
 cases l with
 |nil=>simp at ab
 |cons b t=>
  have aR:=MH b (by simp)
  have aeV:∀r d,t=r++[d]→d≠48:=by
   rintro r d rfl rfl
   exact fv ⟨by simp,by simp⟩
  have:=(JC 10 t (by simp at ae;omega) (fun c a7=>MH c (by simp [a7])) aeV).1
  unfold rd
  have cb:m0 (b::t)/10=m0 t:=by show(b.toNat-48+10*m0 t)/10=_;have:=aR.2;omega
  rw [cb,this,SJ aR (by show(b.toNat-48+10*m0 t)%10=_;have:=aR.2;omega)]
open Classical in
 noncomputable def lI(s:List UInt8):Int×Int:=if kO s then(gS s,0)else(0,10)
theorem DF{s:List UInt8}(h:kO s):lI s=(gS s,0):=if_pos h
theorem v9{s:List UInt8}(h:¬kO s):lI s=(0,10):=if_neg h
theorem A0{s:List UInt8}(b5:¬gS (s.take 10)<0)(h:eL (gS (s.take 10))=s):lI s=(gS (s.take 10),0):=by
  have ei:kO s:=h▸yX _
  rw [DF ei,List.take_of_length_le ei.len.2]
theorem sS{s:List UInt8}(h:gS (s.take 10)<0∨¬eL (gS (s.take 10))=s):lI s=(0,10):=by
  apply v9
  intro ei
  have:=Pw ei
  rw [List.take_of_length_le ei.len.2]at h
  rcases h with h|h
  · omega
  · exact h this.2
theorem aag:∀(k:Nat) (l:List UInt8),l.length≤k→-(48*((11^k:Nat):Int))≤gS l∧gS l≤255*((11^k:Nat):Int)
  |k,l,h=>by
    induction e:l.reverse generalizing l k with
    | nil => have : l = [] := by simpa using e
             subst this;have:0<11^k:=Nat.pow_pos (by decide);show _≤(0:Int)∧(0:Int)≤_;omega
    |cons b r ih=>
      have:l=r.reverse++[b]:=by rw [←List.reverse_reverse l,e];simp
      subst this
      rw [Jd]
      cases k with
      |zero=>simp at h
      |succ k=>
        have:=ih k r.reverse (by simp at h⊢;omega) (by simp)
        have aR:=b.toNat_lt
        have aC:0<11^k:=Nat.pow_pos (by decide)
        rw [Nat.pow_succ]
        omega
def jD:List UInt8→List UInt8→List (List UInt8)
  |dR,[]=>if dR=[]then []else [dR]
  |dR,b::s=>if b=32 then(if dR=[]then jD [] s else dR::jD [] s)else jD (dR++[b]) s
abbrev pieces(s:List UInt8):List (List UInt8):=jD [] s
theorem wC(dR s:List UInt8):jD dR (32::s)=(if dR=[]then jD [] s else dR::jD [] s):=if_pos rfl
theorem Bg{b:UInt8}(h:b≠32)(dR s:List UInt8):jD dR (b::s)=jD (dR++[b]) s:=if_neg h
abbrev fi(b:UInt8):Bool:=b !=32
theorem RO:∀(s dR:List UInt8),dR≠[]→jD dR s=(dR++s.takeWhile fi)::jD [] (s.dropWhile fi)
  |[],dR,h=>by rw [jD,if_neg h];simp [jD]
  |b::s,dR,h=>by
    by_cases aR:b=32
    · subst aR;rw [wC,if_neg h]
      simp [fi,wC]
    · rw [Bg aR,RO s _ (by simp)]
      have:fi b=true:=by simp [fi,aR]
      simp [this,List.append_assoc]
theorem JD{b:UInt8}{s:List UInt8}(h:b≠32):jD [] (b::s)=((b::s).takeWhile fi)::jD [] ((b::s).dropWhile fi):=by
  rw [Bg h,RO _ _ (by simp)]
  have:fi b=true:=by simp [fi,h]
  simp [this]
theorem tq{a s:List UInt8}(a5:a≠[])(aP:∀b∈a,b≠32):pieces (a++32::s)=a::pieces s:=by
  cases a with
  |nil=>exact absurd rfl a5
  |cons b t=>
    show jD [] (b::(t++32::s))=_
    rw [JD (aP b (by simp))]
    have ab:∀c∈(b::t),fi c=true:=fun c a7=>by simp [fi,aP c a7]
    have cb:(b::(t++32::s)).takeWhile fi=b::t:=by
      rw [←List.cons_append,List.takeWhile_append_of_pos ab];simp [fi]
    have cq:(b::(t++32::s)).dropWhile fi=32::s:=by
      rw [←List.cons_append,List.dropWhile_append_of_pos ab];simp [fi]
    rw [cb,cq,wC,if_pos rfl]
theorem FK{a:List UInt8}(a5:a≠[])(aP:∀b∈a,b≠32):pieces a=[a]:=by
  cases a with
  |nil=>exact absurd rfl a5
  |cons b t=>
    rw [pieces,JD (aP b (by simp))]
    have ab:∀c∈(b::t),fi c=true:=fun c a7=>by simp [fi,aP c a7]
    have cb:(b::t).takeWhile fi=b::t:=by
      have:=List.takeWhile_append_of_pos (p:=fi) (l₁:=b::t) (l₂:=[]) ab;simpa using this
    have cq:(b::t).dropWhile fi=[]:=by
      have:=List.dropWhile_append_of_pos (p:=fi) (l₁:=b::t) (l₂:=[]) ab;simpa using this
    rw [cb,cq];rfl
theorem uG(n:Int):eL n≠[]:=fun e=>by have:=(yX n).len;rw [e]at this;simp at this
theorem uH(n:Int):∀b∈eL n,b≠32:=fun b aR e=>by have:=(yX n).all b aR;subst e;exact absurd this.1 (by decide)
def kH(k:Int):List UInt8:=
  if k=1 then [114,117,110,115]else if k=2 then [99,97,109,101]else if k=3 then [111,118,101,114]else if k=4 then [108,97,116,101]else if k=5 then [116,111,111,107]
  else if k=6 then [103,97,118,101]else if k=7 then [97,115,107,101,100]else if k=8 then [109,111,100,101]else if k=9 then [115,101,116,116,108,101,100]else if k=10 then [100,114,111,112,112,101,100]else []
def iF(b:List UInt8):Int:=
  if b=[114,117,110,115]then 1 else if b=[99,97,109,101]then 2 else if b=[111,118,101,114]then 3 else if b=[108,97,116,101]then 4 else if b=[116,111,111,107]then 5
  else if b=[103,97,118,101]then 6 else if b=[97,115,107,101,100]then 7 else if b=[109,111,100,101]then 8 else if b=[115,101,116,116,108,101,100]then 9 else if b=[100,114,111,112,112,101,100]then 10 else 0
theorem JE(b:List UInt8):0≤iF b∧iF b≤10:=by unfold iF;repeat' (split<;>try omega)
theorem C0{k:Int}(ab:1≤k)(ae:k≤10):k=1∨k=2∨k=3∨k=4∨k=5∨k=6∨k=7∨k=8∨k=9∨k=10:=by omega
theorem Je{k:Int}(ab:1≤k)(ae:k≤10):iF (kH k)=k:=by
  rcases C0 ab ae with rfl|rfl|rfl|rfl|rfl|rfl|rfl|rfl|rfl|rfl<;>rfl
theorem WE(b:List UInt8):iF b=0∨kH (iF b)=b:=by
  unfold iF
  repeat' split
  all_goals first
    |exact .inl rfl
    |(rename_i e;subst e;exact .inr rfl)
theorem Om{b:List UInt8}(h:iF b≠0):kH (iF b)=b:=(WE b).resolve_left h
theorem JF{k:Int}{b:List UInt8}(ab:1≤k)(ae:k≤10):kH k=b↔iF b=k:=
  ⟨fun h=>by rw [←h];exact Je ab ae,fun h=>by rw [←h];exact Om (by omega)⟩
theorem yK{k:Int}(h:¬(1≤k∧k≤10)):kH k=[]:=by
  unfold kH
  rw [if_neg (by omega),if_neg (by omega),if_neg (by omega),if_neg (by omega),if_neg (by omega),if_neg (by omega),if_neg (by omega),if_neg (by omega),if_neg (by omega),if_neg (by omega)]
theorem QM{k:Int}(ab:1≤k)(ae:k≤10):kH k≠[]∧∀b∈kH k,b≠32:=by
  rcases C0 ab ae with rfl|rfl|rfl|rfl|rfl|rfl|rfl|rfl|rfl|rfl<;>decide
theorem Xt{k:Int}:kH k≠[]↔1≤k∧k≤10:=⟨fun h=>Classical.byContradiction fun aP=>h (yK aP),fun h=>(QM h.1 h.2).1⟩
theorem Px(k:Int):(kH k).length≤7:=by
  by_cases h:1≤k∧k≤10
  · rcases C0 h.1 h.2 with rfl|rfl|rfl|rfl|rfl|rfl|rfl|rfl|rfl|rfl<;>decide
  · rw [yK h];exact Nat.zero_le _
def vq(n:Int):Bool:=decide (0≤n∧n≤2147483647)
def o8(e:fC):Bool:=decide (kH e.2.1≠[])&&vq e.1&&vq e.2.2.1&&vq e.2.2.2
def q9(e:fC):List UInt8:=if o8 e then eL e.1++[32]++kH e.2.1++[32]++eL e.2.2.1++[32]++eL e.2.2.2 else []
theorem J9{e:fC}(h:o8 e=true):q9 e=eL e.1++[32]++kH e.2.1++[32]++eL e.2.2.1++[32]++eL e.2.2.2:=if_pos h
theorem Ka{e:fC}(h:o8 e=false):q9 e=[]:=by unfold q9;rw [if_neg (by rw [h];decide)]
theorem Py(e:fC):(!(q9 e==[]))=o8 e:=by
  cases h:o8 e with
  |true=>rw [J9 h];simp
  |false=>rw [Ka h];rfl
theorem Jf(e:fC):(q9 e).length≤50:=by
  unfold q9;split
  · have ab:=hZ e.1;have ae:=hZ e.2.2.1;have av:=hZ e.2.2.2;have aV:=Px e.2.1
    simp only [List.length_append,List.length_cons,List.length_nil];omega
  · exact Nat.zero_le _
open Classical in
 noncomputable def r4(p:List (List UInt8)):Option fC:=match p with
  |[a,b,c,d]=>if kO a∧iF b≠0∧kO c∧kO d then some ⟨gS a,iF b,gS c,gS d⟩else none
  |_=>none
theorem QN{a b c d:List UInt8}(h:kO a∧iF b≠0∧kO c∧kO d):r4 [a,b,c,d]=some ⟨gS a,iF b,gS c,gS d⟩:=if_pos h
theorem aah{a b c d:List UInt8}(h:¬(kO a∧iF b≠0∧kO c∧kO d)):r4 [a,b,c,d]=none:=if_neg h
theorem JG{n:Int}(h:vq n=true):(g4 n:Int)=n:=by have:=of_decide_eq_true h;unfold g4;omega
theorem aai{e:fC}(h:o8 e=true):kH e.2.1≠[]∧vq e.1=true∧vq e.2.2.1=true∧vq e.2.2.2=true:=by
  unfold o8 at h;simp only [Bool.and_eq_true,decide_eq_true_eq]at h;exact⟨h.1.1.1,h.1.1.2,h.1.2,h.2⟩
theorem Xu(e:fC):r4 (pieces (q9 e))=if o8 e=true then some e else none:=by
  cases h:o8 e with
  |false=>rw [Ka h];rfl
  |true=>
    obtain⟨ai,ab,ae,av⟩:=aai h
    obtain⟨e2,cD⟩:=Xt.1 ai
    rw [J9 h]
    have cb:eL e.1++[32]++kH e.2.1++[32]++eL e.2.2.1++[32]++eL e.2.2.2=eL e.1++32::(kH e.2.1++32::(eL e.2.2.1++32::eL e.2.2.2)):=by simp [List.append_assoc]
    rw [cb,tq (uG _) (uH _),tq ai (QM e2 cD).2,tq (uG _) (uH _),FK (uG _) (uH _)]
    rw [QN ⟨yX _,by rw [Je e2 cD];omega,yX _,yX _⟩,F8,F8,F8,Je e2 cD,JG ab,JG ae,JG av]
    rfl
theorem SK(k:Int):a6 B 119 [aa k] [] (fun v S=>v=str (kH k)∧S=[]):=by
 refine bM 24 Tryz.func119 fun ba bf=>?_
 refine bD ?_ ?_<;>intro ab
 ·exact aO ⟨by rw [ab];rfl,rfl⟩
 refine bD ?_ ?_<;>intro ae
 ·exact aO ⟨by rw [ae];rfl,rfl⟩
 refine bD ?_ ?_<;>intro av
 ·exact aO ⟨by rw [av];rfl,rfl⟩
 refine bD ?_ ?_<;>intro aV
 ·exact aO ⟨by rw [aV];rfl,rfl⟩
 refine bD ?_ ?_<;>intro bN
 ·exact aO ⟨by rw [bN];rfl,rfl⟩
 refine bD ?_ ?_<;>intro c0
 ·exact aO ⟨by rw [c0];rfl,rfl⟩
 refine bD ?_ ?_<;>intro fO
 ·exact aO ⟨by rw [fO];rfl,rfl⟩
 refine bD ?_ ?_<;>intro gk
 ·exact aO ⟨by rw [gk];rfl,rfl⟩
 refine bD ?_ ?_<;>intro hW
 ·exact aO ⟨by rw [hW];rfl,rfl⟩
 refine bD ?_ ?_<;>intro na
 ·exact aO ⟨by rw [na];rfl,rfl⟩
 exact aO ⟨by rw [yK ah],rfl⟩
abbrev QO:List Value:=[str [114,117,110,115],str [99,97,109,101],str [111,118,101,114],str [108,97,116,101],str [116,111,111,107],str [103,97,118,101],str [97,115,107,101,100],str [109,111,100,101],str [115,101,116,116,108,101,100],str [100,114,111,112,112,101,100]]
theorem Xv{k:Int}(ab:1≤k)(ae:k≤10):QO[(k-1).toNat*1]?=some (str (kH k)):=by
  rcases C0 ab ae with rfl|rfl|rfl|rfl|rfl|rfl|rfl|rfl|rfl|rfl<;>rfl
theorem SL(k:Int):a6 B 37 [aa k] [] (fun v S=>v=str (kH k)∧S=[]):=by
 refine bM 14 Tryz.func37 fun ba bf=>?_
 refine cc ?_ ?_<;>intro ab
 ·exact aO ⟨by rw [yK ah],rfl⟩
 refine bD ?_ ?_<;>intro ae
 ·exact aO ⟨by rw [yK ah],rfl⟩
 refine im (aF:=QO) .no rfl ad b2 b2 (by rfl) (by rfl) rfl rfl (fun ax=>?_)
 refine aj ?_
 refine ap (Kn (n:=10) (j:=(k-1).toNat) rfl rfl ad ah ah rfl) ?_
 refine ap (Hj (bu:=⟨ax,0,none⟩) (k:=(k-1).toNat*1) rfl au lQ ad (Xv ah ah)) ?_
 exact oi
theorem KM(n:Int):a6 B 186 [aa n] [] (fun v S=>v= .bool (vq n)∧S=[]):=by
 refine bM 9 Tryz.func186 fun ba bf=>?_
 refine cc ?_ ?_<;>intro ab
 ·exact aO ⟨by unfold vq;simp [*]<;>omega,rfl⟩
 exact aO ⟨by unfold vq;simp [*]<;>omega,rfl⟩
theorem acA(e:fC):a6 B 118 [.agg (la e).toArray] [] (fun v S=>v= .bool (o8 e)∧S=[]):=by
 refine bM 22 Tryz.func118 fun ba bf=>?_
 refine fX (aF:=la e) fun ax=>?_
 refine gj (SK e.2.1) ?_
 refine ap (k6 (q:=!(kH e.2.1==[])) rfl rfl rfl) ?_
 refine aj ?_
 refine cc ?_ ?_<;>intro ab
 ·refine gl (KM e.1) ?_
  refine cc ?_ ?_<;>intro ae
  ·refine gl (KM e.2.2.1) ?_
   refine cc ?_ ?_<;>intro av
   ·refine gl (KM e.2.2.2) ?_
    exact aO ⟨by unfold o8;simp [*],rfl⟩
   exact aO ⟨by unfold o8;simp [*],rfl⟩
  exact aO ⟨by unfold o8;simp [*],rfl⟩
 exact aO ⟨by unfold o8;simp [*],rfl⟩
theorem aeW(e:fC):a6 B 64 [.agg (la e).toArray] [] (fun v S=>v=str (q9 e)∧S=[]):=by
 refine bM 24 Tryz.func64 fun ba bf=>?_
 refine eD (aF:=la e) fun ax=>?_
 refine gN ?_
 refine du (la e) ?_
 refine gl (acA e) ?_
 refine bD ?_ ?_<;>intro ab
 ·exact aO ⟨by rw [Ka (by simpa using ab)],rfl⟩
 have a1:=hZ e.1
 have a3:=hZ e.2.2.1
 have bI:=hZ e.2.2.2
 have cv:=Px e.2.1
 refine aj ?_
 refine cZ _ ad (Take.self _) ?_
 refine aY [0,1,4,5,9,10,14,15,102] ?_
 refine gU (n0 e.1) ?_
 refine bj 3 rfl (gw rfl rfl gO) ?_
 refine aY [106] ?_
 refine gU (SK e.2.1) ?_
 refine bj 7 rfl (gw rfl rfl gO) ?_
 refine bj 8 rfl (gw rfl rfl gO) ?_
 refine aY [111] ?_
 refine gU (n0 e.2.2.1) ?_
 refine bj 12 rfl (gw rfl rfl gO) ?_
 refine bj 13 rfl (gw rfl rfl gO) ?_
 refine aY [116] ?_
 refine gU (n0 e.2.2.2) ?_
 refine bj 17 rfl (gw rfl rfl gO) ?_
 refine df [18,99] ?_
 exact aO ⟨by rw [J9 (by simpa using ab)],rfl⟩
theorem SM(n:Int):a6 B 71 [aa n] [] (fun v S=>v=str (eL n)∧S=[]):=by
 refine dN 29 Tryz.func71 fun ba bf=>?_
 refine hi ?_
 refine jT (α:=Int) (fun et=>et=max n 0) (fun et=>[(0,aa et)]) (fun et=>[]) ?_ ?_
 ·skip
  refine bT ?_ ?_<;>intro ab
  ·refine ez 0 ?_
   omega
  refine ez n ?_
  omega
 intro et mn
 refine jT (α:=Int) (fun hV=>hV=(g4 n:Int)) (fun hV=>[(0,aa hV)]) (fun hV=>[]) ?_ ?_
 ·skip
  refine bT ?_ ?_<;>intro ae
  ·refine ez 2147483647 ?_
   unfold g4;omega
  refine ez et ?_
  unfold g4;omega
 rintro hV rfl
 refine aj ?_
 refine ap (pX (z:=(((g4 n)%10:Nat):Int)) rfl rfl b2 (G0 (g4 n))) ?_
 refine ap (mE (m:=48) (n:=(((g4 n)%10:Nat):Int)) rfl rfl ah ah) ?_
 refine ap (ja (z:=((jn (g4 n)).toNat:Int)) rfl ad (Gy (g4 n))) ?_
 refine im (aF:=m8 (jn (g4 n))) .no rfl ad b2 b2 (by rfl) (by rfl) rfl rfl (fun ax=>?_)
 refine ap (GF (a:=an.lit ax [jn (g4 n)] (by simp)) (l:=[jn (g4 n)]) rfl au (lQ (aF:=m8 (jn (g4 n)))) rfl ad) ?_
 refine aj ?_
 refine ap (pX (z:=(((g4 n)/10:Nat):Int)) rfl rfl b2 (by show IntKind.i64.wrap _=_;rw [G1];have:=yJ n;exact lP ah ah)) ?_
 refine aj ?_
 refine ds (α:=Nat×Nat×List UInt8) (fun⟨m,f,acc⟩=>m≤2147483647∧m<10^f∧(mq f m).reverse++acc=(rd (g4 n)).reverse∧acc.length+f≤11) (fun⟨m,f,acc⟩=>[(0,aa (m:Int)),(3,str acc)]) (fun⟨m,f,acc⟩=>[]) (fun⟨m,f,acc⟩=>m) ((g4 n)/10,10,[jn (g4 n)]) ?_ dq aA ?_
 ·have qz:=yJ n;exact⟨by show g4 n/10≤_;omega,by show g4 n/10<10^10;omega,by show _=List.reverse (jn _::_);rw [List.reverse_cons],by show 1+10≤11;decide⟩
 rintro⟨m,f,acc⟩ ⟨tc,hm,a7,jZ⟩
 dsimp only
 refine bT ?_ ?_<;>intro av
 ·obtain⟨f2,rfl,MG,EK⟩:=SH ah hm
  refine aj ?_
  refine ap (pX (z:=((m%10:Nat):Int)) rfl rfl b2 (G0 m)) ?_
  refine ap (mE (m:=48) (n:=((m%10:Nat):Int)) rfl rfl ah ah) ?_
  refine ap (ja (z:=((jn m).toNat:Int)) rfl ad (Gy m)) ?_
  refine im (aF:=m8 (jn m)) .no rfl ad b2 b2 (by rfl) (by rfl) rfl rfl (fun aK=>?_)
  refine ap (GF (a:=an.lit aK [jn m] (by simp)) (l:=[jn m]) rfl au (lQ (aF:=m8 (jn m))) rfl ad) ?_
  refine aj ?_
  refine ap (gw rfl rfl (by simp;omega)) ?_
  refine aj ?_
  refine ap (pX (z:=((m/10:Nat):Int)) rfl rfl b2 (by show IntKind.i64.wrap _=_;rw [G1];have:=yJ n;exact lP ah ah)) ?_
  refine aj ?_
  refine cE (m/10,f2,[jn m]++acc) ?_
  (try dsimp only);exact⟨by omega,EK,by rw [←a7,MG,List.reverse_cons,List.append_assoc],by simp;omega⟩
 obtain rfl:m=0:=by omega
 rw [DE,List.reverse_nil,List.nil_append]at a7
 refine aj ?_
 exact aO ⟨by rw [a7];rfl,rfl⟩
theorem On{l:List UInt8}(h:l.length≤10): -1244996380848≤gS l∧gS l≤6614043273255:=by
  have ab:=aag 10 l h
  have e:(11^10:Nat)=25937424601:=by decide
  rw [e]at ab
  omega
theorem RP{s:List UInt8}{i:Nat}{b:UInt8}(h:s[i]?=some b):gS (s.take (i+1))=10*gS (s.take i)+(b.toNat:Int)-48:=by
  rw [List.take_add_one,h];exact Jd _ _
theorem Pz{s:List UInt8}{i:Nat}{b:UInt8}{p:UInt8→Prop}(h:s[i]?=some b)(a5:∀c∈s.take i,p c)(aR:p b):∀c∈s.take (i+1),p c:=by
  rw [List.take_add_one,h]
  intro c a7
  rcases List.mem_append.1 a7 with a7|a7
  · exact a5 c a7
  · have:c=b:=by simpa using a7
    subst this;exact aR
theorem xN(s:List UInt8):a6 B 171 [str s] [] (fun v S=>v= .tuple #[aa (lI s).1,aa (lI s).2]∧S=[]):=by
 refine dN 50 Tryz.func171 fun ba bf=>?_
 refine gN ?_
 refine jT (α:=Unit) (fun _=>1≤s.length∧s.length≤10∧¬(1<s.length∧s[0]?=some 48)) (fun _=>[(0,str s)]) (fun _=>[]) ?_ ?_
 ·skip
  refine aj ?_
  refine ap (k6 (b:=[]) rfl rfl rfl) ?_
  refine aj ?_
  refine cc ?_ ?_<;>intro ab
  ·exact aO ⟨by rw [v9 (fun ai=>by have:=ai.len.1;rw [ab]at this;simp at this)],rfl⟩
  refine cc ?_ ?_<;>intro ae
  ·exact aO ⟨by rw [v9 (fun ai=>by have:=ai.len.2;omega)],rfl⟩
  refine cc ?_ ?_<;>intro av
  ·obtain⟨h4,ED⟩:∃b,s[0]?=some b:=⟨_,List.getElem?_eq_getElem ah⟩
   refine aj ?_
   refine ap (jq (i:=0) rfl rfl ad rfl ED) ?_
   refine bT ?_ ?_<;>intro aV
   ·exact aO ⟨by rw [v9 (fun ai=>ai.head ⟨by omega,by rw [ED];exact congrArg some (UInt8.toNat_inj.1 (show h4.toNat=48 by omega))⟩)],rfl⟩
   exact ez () ⟨by omega,by omega,fun e=>aV (by have cq:=e.2;rw [ED]at cq;have fP:=Option.some.inj cq;rw [fP];rfl)⟩
  exact ez () ⟨by have:s.length≠0:=fun e=>ab (List.length_eq_zero_iff.1 e);omega,by omega,fun e=>by have:=e.1;omega⟩
 rintro _ ⟨oa,qy,Mh⟩
 refine aj ?_
 refine ds (α:=Nat) (fun i=>i≤s.length∧∀b∈s.take i,ri b) (fun i=>[(4,aa (gS (s.take i))),(24,aa (s.length:Int)),(25,aa (i:Int)),(0,str s)]) (fun i=>[]) (fun i=>s.length-i) 0 ?_ dq aA ?_
 ·exact⟨Nat.zero_le _,fun b h=>by simp at h⟩
 rintro i ⟨af,aJ⟩
 have cL:=On (l:=s.take i) (by rw [List.length_take];omega)
 refine bT ?_ ?_<;>intro bN
 ·obtain⟨b,aR⟩:=fp s i
  have hj:=b.toNat_lt
  refine aj ?_
  refine ap (jq (i:=i) rfl rfl ad rfl aR) ?_
  refine aj ?_
  refine cc ?_ ?_<;>intro c0
  ·exact aO ⟨by rw [v9 (fun ai=>by have:=ai.all b (List.mem_of_getElem? aR);have:=this.1;omega)],rfl⟩
  refine ap (jq (i:=i) rfl rfl ad rfl aR) ?_
  refine bT ?_ ?_<;>intro fO
  ·exact aO ⟨by rw [v9 (fun ai=>by have:=ai.all b (List.mem_of_getElem? aR);have:=this.2;omega)],rfl⟩
  have aij:ri b:=⟨by omega,by omega⟩
  refine aj ?_
  refine ap (pp (m:=10) (n:=gS (s.take i)) rfl rfl ah ah) ?_
  refine aj ?_
  refine ap (jq (i:=i) rfl rfl ad rfl aR) ?_
  refine ap (Y3 (z:=(b.toNat:Int)-48) rfl rfl (u8_in ah ah)) ?_
  refine ap (ja (z:=(b.toNat:Int)-48) rfl ad (lP ah ah)) ?_
  refine ap (mE (m:=10*gS (s.take i)) (n:=(b.toNat:Int)-48) rfl rfl ah ah) ?_
  refine aj ?_
  refine k2 (i+1) ?_ ?_ ?_ ?_
  ·exact⟨by omega,Pz aR aJ aij⟩
  ·omega
  ·refine⟨by rw [RP aR];exact congrArg (fun n=>some (Value.int .i64 n)) ah,?_,?_,?_,trivial⟩<;>rfl
  exact⟨_,aA⟩
 obtain rfl:i=s.length:=by omega
 rw [List.take_length]at aJ
 refine bT ?_ ?_<;>intro gk
 ·exact aO ⟨by rw [v9 (fun ai=>by have:=ai.dS;rw [List.take_length]at gk;omega)],rfl⟩
 exact aO ⟨by rw [DF ⟨⟨oa,qy⟩,Mh,aJ,by rw [List.take_length]at gk;omega⟩,List.take_length],rfl⟩
theorem DG(s:List UInt8):a6 B 36 [str s] [] (fun v S=>v= .tuple #[aa (lI s).1,aa (lI s).2]∧S=[]):=by
 refine bM 33 Tryz.func36 fun ba bf=>?_
 refine ds (α:=Nat) (fun i=>i≤s.length∧i≤10) (fun i=>[(4,aa (gS (s.take i))),(5,aa (i:Int)),(0,str s)]) (fun i=>[]) (fun i=>s.length-i) 0 ?_ dq aA ?_
 ·exact⟨Nat.zero_le _,by decide⟩
 rintro i ⟨af,ug⟩
 have cL:=On (l:=s.take i) (by rw [List.length_take];omega)
 refine aj ?_
 refine cc ?_ ?_<;>intro ab
 ·refine bD ?_ ?_<;>intro ae
  ·obtain⟨b,aR⟩:=fp s i
   have hj:=b.toNat_lt
   refine aj ?_
   refine ap (pp (m:=10) (n:=gS (s.take i)) rfl rfl ah ah) ?_
   refine aj ?_
   refine ap (jq (i:=i) rfl rfl ad rfl aR) ?_
   refine ap (ja rfl ad (lP ah ah)) ?_
   refine ap (mE (m:=10*gS (s.take i)) (n:=(b.toNat:Int)) rfl rfl ah ah) ?_
   refine ap (y1 (m:=10*gS (s.take i)+(b.toNat:Int)) (n:=48) rfl rfl ah ah) ?_
   refine aj ?_
   refine k2 (i+1) ?_ ?_ ?_ ?_
   ·exact⟨by omega,by omega⟩
   ·omega
   ·refine⟨by rw [RP aR];rfl,?_,?_,trivial⟩<;>rfl
   exact⟨_,aA⟩
  have jN:s.take 10=s.take i:=by rw [show i=10 by omega]
  refine aj ?_
  refine cc ?_ ?_<;>intro av
  ·exact aO ⟨by first|rw [sS (Or.inl (by rw [jN];omega))]|rw [sS (Or.inr (by rw [jN];assumption))]|rw [A0 (by rw [jN];omega) (by rw [jN];assumption),jN],rfl⟩
  refine gl (SM (gS (s.take i))) ?_
  refine ap (k6 (a:=eL (gS (s.take i))) rfl rfl rfl) ?_
  refine bT ?_ ?_<;>intro aV
  ·exact aO ⟨by first|rw [sS (Or.inl (by rw [jN];omega))]|rw [sS (Or.inr (by rw [jN];assumption))]|rw [A0 (by rw [jN];omega) (by rw [jN];assumption),jN],rfl⟩
  exact aO ⟨by first|rw [sS (Or.inl (by rw [jN];omega))]|rw [sS (Or.inr (by rw [jN];assumption))]|rw [A0 (by rw [jN];omega) (by rw [jN];assumption),jN],rfl⟩
 have jN:s.take 10=s.take i:=by rw [List.take_of_length_le ah,List.take_of_length_le ah]
 refine aj ?_
 refine cc ?_ ?_<;>intro bN
 ·exact aO ⟨by first|rw [sS (Or.inl (by rw [jN];omega))]|rw [sS (Or.inr (by rw [jN];assumption))]|rw [A0 (by rw [jN];omega) (by rw [jN];assumption),jN],rfl⟩
 refine gl (SM (gS (s.take i))) ?_
 refine ap (k6 (a:=eL (gS (s.take i))) rfl rfl rfl) ?_
 refine bT ?_ ?_<;>intro c0
 ·exact aO ⟨by first|rw [sS (Or.inl (by rw [jN];omega))]|rw [sS (Or.inr (by rw [jN];assumption))]|rw [A0 (by rw [jN];omega) (by rw [jN];assumption),jN],rfl⟩
 exact aO ⟨by first|rw [sS (Or.inl (by rw [jN];omega))]|rw [sS (Or.inr (by rw [jN];assumption))]|rw [A0 (by rw [jN];omega) (by rw [jN];assumption),jN],rfl⟩
theorem PA:∀(l:List UInt8) (k:Nat),(∀b∈l.take k,b≠32)→(l[k]?=none∨l[k]?=some 32)→l.takeWhile fi=l.take k∧l.dropWhile fi=l.drop k
  |[],k,_,_=>by simp
  |b::l,0,_,h=>by
    have:b=32:=by simpa using h
    subst this;simp [fi]
  |b::l,k+1,a5,h=>by
    have aR:b≠32:=a5 b (by simp)
    have ih:=PA l k (fun c a7=>a5 c (by simp [a7])) (by simpa using h)
    have:fi b=true:=by simp [fi,aR]
    simp [List.takeWhile_cons,List.dropWhile_cons,this,ih]
def inside(s:List UInt8):Nat→Bool
  |0=>false
  |j+1=>s[j]? !=some 32
def rest(s:List UInt8)(i:Nat):List (List UInt8):=jD [] (if inside s i then(s.drop i).dropWhile fi else s.drop i)
theorem YK(s:List UInt8):rest s s.length=[]:=by
  unfold rest;rw [List.drop_length];split<;>rfl
theorem vV{α:Type}{s:List α}{i:Nat}{b:α}(h:s[i]?=some b):s.drop i=b::s.drop (i+1):=by
  obtain⟨ab,ae⟩:=List.getElem?_eq_some_iff.1 h
  rw [List.drop_eq_getElem_cons ab,ae]
theorem acB{s:List UInt8}{i:Nat}(h:s[i]?=some 32):rest s i=rest s (i+1):=by
  have cb:inside s (i+1)=false:=by show(s[i]? !=some 32)=false;rw [h];rfl
  unfold rest;rw [cb,vV h]
  have:(32::s.drop (i+1)).dropWhile fi=32::s.drop (i+1):=by simp [fi]
  rw [this,ite_self,wC,if_pos rfl];rfl
theorem PB{s:List UInt8}{i:Nat}{b:UInt8}(h:s[i]?=some b)(aR:b≠32):inside s (i+1)=true:=by
  show(s[i]? !=some 32)=true;rw [h];simp [aR]
theorem aaj{s:List UInt8}{i:Nat}{b:UInt8}(h:s[i]?=some b)(aR:b≠32)(af:inside s i=true):rest s i=rest s (i+1):=by
  unfold rest;rw [af,PB h aR,vV h,if_pos rfl,if_pos rfl]
  have:fi b=true:=by simp [fi,aR]
  simp [this]
theorem F9{s:List UInt8}{i e:Nat}{b:UInt8}(h:s[i]?=some b)(aR:b≠32)(af:inside s i=false)(a5:∀c∈(s.drop i).take (e-i),c≠32)(oN:i≤e)(he:s[e]?=none∨s[e]?=some 32):
    rest s i=(s.drop i).take (e-i)::rest s (i+1):=by
  have a4:=PA (s.drop i) (e-i) a5 (by rw [List.getElem?_drop,Nat.add_sub_cancel' oN];exact he)
  have:fi b=true:=by simp [fi,aR]
  unfold rest
  rw [af,PB h aR,if_pos rfl,if_neg (by decide), ←a4.1]
  rw [vV h,JD aR]
  simp [this]
abbrev MI(l:List (List UInt8)):List (List Value):=l.zipIdx.map fun p=>[.int .i64 (p.2:Int),str p.1]
theorem tw(l:List (List UInt8)):(MI l).length=l.length:=by simp
theorem C1{l:List (List UInt8)}{i:Nat}{q:List UInt8}(h:l[i]?=some q):(MI l).getD i []=[aa (i:Int),str q]:=by
  simp [List.getD,h]
theorem yY:∀(s dR:List UInt8),(jD dR s).length≤s.length+1
  |[],dR=>by rw [jD];split<;>simp
  |b::s,dR=>by
    have ab:=yY s [];have ae:=yY s (dR++[b])
    by_cases aR:b=32
    · subst aR;rw [wC];split<;>simp<;>omega
    · rw [Bg aR];simp;omega
def aik:Option Nat→Int
  |none=> -1
  |some f=>(f:Int)
def mO(s:List UInt8)(i:Nat):Option Nat→List UInt8
  |none=>[]
  |some f=>(s.drop f).take (i-f)
theorem Gz{s:List UInt8}{i f:Nat}(h:f<i)(af:i≤s.length):mO s i (some f)≠[]:=fun e=>by
  have:=congrArg List.length e
  simp [mO]at this;omega
theorem WG{s:List UInt8}{i:Nat}{b:UInt8}(h:s[i]?=some b):mO s (i+1) (some i)=mO s i none++[b]:=by
  show(s.drop i).take (i+1-i)=[b]
  rw [vV h,show i+1-i=1 by omega];rfl
theorem acC{s:List UInt8}{i f:Nat}{b:UInt8}(h:s[i]?=some b)(bs:f≤i):mO s (i+1) (some f)=mO s i (some f)++[b]:=by
  show(s.drop f).take (i+1-f)=(s.drop f).take (i-f)++[b]
  rw [show i+1-f=(i-f)+1 by omega,List.take_add_one,List.getElem?_drop,Nat.add_sub_cancel' bs,h];rfl
theorem Kb(s:List UInt8):a6 B 58 [str s] [] (fun v S=>∃b,v= .func (.func 109) #[] #[ag b]∧S=[U b [str s] 9]):=by
 refine bM 4 Tryz.func58 fun ba bf=>?_
 refine fX fun ax=>?_
 exact aO ⟨ax,rfl,rfl⟩
theorem Ld(b:Nat)(s:List UInt8)(aH:s.length≤5000000):
  n9 Tryz.prog B 109 [ag b] [U b [str s] 9] (MI (pieces s)):=by
 intro cr J hc cV g7 aZ
 change di _ _ _ _ (U b [str s] 9::cV) _
 refine bM 37 Tryz.func109 fun ba bf=>?_
 refine ds (α:=Nat×Nat×Option Nat×List (ar B)) (fun⟨i,n,iP,aU⟩=>i≤s.length+1∧J n aU∧(∃out,pieces s=out++jD (mO s i iP) (s.drop i)∧out.length=n)∧∀f,iP=some f→f<i∧i≤s.length) (fun⟨i,n,iP,aU⟩=>[(3,aa (n:Int)),(4,aa (aik iP)),(5,aa (i:Int)),(0,.func (.yield cr) #[] #[]),(1,ag b)]) (fun⟨i,n,iP,aU⟩=>U b [str s] 9::aU) (fun⟨i,n,iP,aU⟩=>s.length+1-i) (0,0,none,cV) ?_ dq aA ?_
 ·exact⟨Nat.zero_le _,g7,⟨[],rfl,rfl⟩,fun f h=>by cases h⟩
 rintro⟨i,n,iP,aU⟩ ⟨af,bo,⟨out,aq,vr⟩,EN⟩
 dsimp only
 have l3:s.length≤5000000:=aH
 have aki:n≤s.length+1:=by have ab:(pieces s).length≤s.length+1:=yY s [];have ae:=congrArg List.length aq;rw [List.length_append]at ae;omega
 refine bT ?_ ?_<;>intro ab
 ·refine cc ?_ ?_<;>intro ae
  ·obtain⟨aK,aR⟩:∃b,s[i]?=some b:=⟨_,List.getElem?_eq_getElem ah⟩
   refine aj ?_
   refine ap (jq (i:=i) rfl rfl ad rfl aR) ?_
   refine bT ?_ ?_<;>intro av
   ·refine bD ?_ ?_<;>intro aV
    ·have tG:iP=none:=by cases iP with|none=>rfl|some f=>exact absurd aV (by show¬(f:Int)<0;omega)
     refine aj ?_
     refine cE (i+1,n,some i,aU) ?_
     (try dsimp only);exact⟨by omega,bo,⟨out,by rw [aq,WG aR,vV aR,tG,Bg (fun e=>av (by rw [e];rfl))],vr⟩,fun f h=>by cases h;omega⟩
    obtain⟨f,SN⟩:∃f,iP=some f:=by cases iP with|none=>exact absurd aV b2|some f=>exact⟨f,rfl⟩
    refine aj ?_
    refine cE (i+1,n,iP,aU) ?_
    (try dsimp only);exact⟨by omega,bo,⟨out,by rw [aq,vV aR,SN,Bg (fun e=>av (by rw [e];rfl)),acC aR (by have:=EN f SN;omega)],vr⟩,fun f h=>by have:=EN f h;omega⟩
   have D5:aK=32:=UInt8.toNat_inj.1 (show aK.toNat=32 by omega)
   refine bT ?_ ?_<;>intro bN
   ·obtain⟨f,rfl⟩:∃f,iP=some f:=by cases iP with|none=>exact absurd bN b2|some f=>exact⟨f,rfl⟩
    have wY:=EN f rfl
    have o9:(pieces s)[n]?=some (mO s i (some f)):=by rw [aq,(show jD (mO s i (some f)) (s.drop i)=mO s i (some f)::jD [] (s.drop (i+1))by rw [vV aR,D5,wC,if_neg (Gz wY.1 wY.2)]), ←vr,List.getElem?_append_right (Nat.le_refl _)];simp
    have EO:n<(pieces s).length:=(List.getElem?_eq_some_iff.1 o9).1
    have fa:=aZ n aU (by rw [tw];exact EO) bo
    rw [C1 o9]at fa
    refine aj ?_
    refine ap (np (ec:=f) (af:=i) (p:=mO s i (some f)) rfl ad ⟨_,rfl⟩ ⟨_,rfl⟩ ah ah rfl) ?_
    refine iq (own:=[U b [str s] 9]) (hM:=aU) .no rfl rfl fa rfl ?_
    rintro jP bh aC
    refine cx ?_
    refine bD ?_ ?_<;>intro c0
    ·obtain⟨h,_⟩|⟨_,aC⟩:=aC
     ·rw [h]at c0;cases c0
     exact⟨U b [str s] 9::bh,⟨bh,rfl,.inr ⟨n,by rw [tw];exact EO,aC⟩⟩,_,aA⟩
    obtain⟨_,aC⟩|⟨h,_⟩:=aC
    rotate_left
    ·rw [h]at c0;cases c0
    refine aj ?_
    refine cE (i+1,n+1,none,bh) ?_
    (try dsimp only);exact⟨by omega,aC,⟨out++[mO s i (some f)],by rw [aq,(show jD (mO s i (some f)) (s.drop i)=mO s i (some f)::jD [] (s.drop (i+1))by rw [vV aR,D5,wC,if_neg (Gz wY.1 wY.2)]),List.append_assoc];rfl,by simp [vr]⟩,fun f h=>by cases h⟩
   have tG:iP=none:=by cases iP with|none=>rfl|some f=>exact absurd bN (by show¬(f:Int)<0;omega)
   refine aj ?_
   refine cE (i+1,n,iP,aU) ?_
   (try dsimp only);exact⟨by omega,bo,⟨out,by rw [aq,tG,vV aR,D5];exact congrArg (out++ ·) (wC _ _),vr⟩,fun f h=>by rw [tG]at h;cases h⟩
  refine bD ?_ ?_<;>intro fO
  ·obtain⟨f,rfl⟩:∃f,iP=some f:=by cases iP with|none=>exact absurd fO b2|some f=>exact⟨f,rfl⟩
   have wY:=EN f rfl
   have o9:(pieces s)[n]?=some (mO s i (some f)):=by rw [aq,(show jD (mO s i (some f)) (s.drop i)=mO s i (some f)::jD [] (s.drop (i+1))by rw [List.drop_eq_nil_of_le ah,List.drop_eq_nil_of_le ah,jD,if_neg (Gz wY.1 wY.2)];rfl), ←vr,List.getElem?_append_right (Nat.le_refl _)];simp
   have EO:n<(pieces s).length:=(List.getElem?_eq_some_iff.1 o9).1
   have fa:=aZ n aU (by rw [tw];exact EO) bo
   rw [C1 o9]at fa
   refine aj ?_
   refine ap (np (ec:=f) (af:=i) (p:=mO s i (some f)) rfl ad ⟨_,rfl⟩ ⟨_,rfl⟩ ah ah rfl) ?_
   refine iq (own:=[U b [str s] 9]) (hM:=aU) .no rfl rfl fa rfl ?_
   rintro jP bh aC
   refine cx ?_
   refine bD ?_ ?_<;>intro gk
   ·obtain⟨h,_⟩|⟨_,aC⟩:=aC
    ·rw [h]at gk;cases gk
    exact⟨U b [str s] 9::bh,⟨bh,rfl,.inr ⟨n,by rw [tw];exact EO,aC⟩⟩,_,aA⟩
   obtain⟨_,aC⟩|⟨h,_⟩:=aC
   rotate_left
   ·rw [h]at gk;cases gk
   refine aj ?_
   refine cE (i+1,n+1,none,bh) ?_
   (try dsimp only);exact⟨by omega,aC,⟨out++[mO s i (some f)],by rw [aq,(show jD (mO s i (some f)) (s.drop i)=mO s i (some f)::jD [] (s.drop (i+1))by rw [List.drop_eq_nil_of_le ah,List.drop_eq_nil_of_le ah,jD,if_neg (Gz wY.1 wY.2)];rfl),List.append_assoc];rfl,by simp [vr]⟩,fun f h=>by cases h⟩
  have tG:iP=none:=by cases iP with|none=>rfl|some f=>exact absurd fO (by show¬(f:Int)<0;omega)
  refine aj ?_
  refine cE (i+1,n,iP,aU) ?_
  (try dsimp only);exact⟨by omega,bo,⟨out,by rw [aq,tG,List.drop_eq_nil_of_le ah,List.drop_eq_nil_of_le ah];rfl,vr⟩,fun f h=>by rw [tG]at h;cases h⟩
 have tG:iP=none:=by cases iP with|none=>rfl|some f=>have:=EN f rfl;omega
 rw [tG,List.drop_eq_nil_of_le ah]at aq
 have ail:pieces s=out:=by rw [aq];exact List.append_nil _
 exact⟨U b [str s] 9::aU,⟨aU,rfl,.inl (by rw [tw,ail,vr];exact bo)⟩,_,aA⟩
theorem NR{s:List UInt8}{i:Nat}(h:0<i):inside s i=(s[i-1]? !=some 32):=by
  obtain⟨j,rfl⟩:∃j,i=j+1:=⟨i-1,by omega⟩
  rfl
theorem TX{s:List UInt8}{i e:Nat}{b:UInt8}(oN:i≤e)(h:s[e]?=some b)(aR:b≠32)(a5:∀c∈(s.drop i).take (e-i),c≠32):∀c∈(s.drop i).take (e+1-i),c≠32:=by
  rw [show e+1-i=(e-i)+1 by omega]
  exact Pz (p:=fun c=>c≠32) (by rw [List.getElem?_drop,Nat.add_sub_cancel' oN];exact h) a5 aR
theorem GA(s:List UInt8)(aH:s.length≤5000000):a6 B 12 [str s] [] (fun v S=>∃x:an (List UInt8),(x.l=pieces s∧x.Own)∧v=x.v∧S=[eO x 9 1 fR]++[]):=by
 refine dN 48 Tryz.func12 fun ba bf=>?_
 refine DQ ?_
 refine gE fR 9 1 ?_
 refine ds (α:=Nat×an (List UInt8)) (fun⟨i,a⟩=>i≤s.length∧pieces s=a.l++rest s i∧a.Own∧a.l.length≤i) (fun⟨i,a⟩=>[(3,az a),(4,aa (i:Int)),(0,str s)]) (fun⟨i,a⟩=>[eO a 9 1 fR]) (fun⟨i,a⟩=>s.length-i) (0,an.bt) ?_ dq aA ?_
 ·exact⟨Nat.zero_le _,rfl,an.fk,Nat.le_refl _⟩
 rintro⟨i,a⟩ ⟨af,a5,cO,fT⟩
 dsimp only
 refine bT ?_ ?_<;>intro ab
 ·obtain⟨b,aR⟩:=fp s i
  refine aj ?_
  refine ap (jq (i:=i) rfl rfl ad rfl aR) ?_
  refine aj ?_
  refine cc ?_ ?_<;>intro ae
  ·have D5:b=32:=UInt8.toNat_inj.1 (show b.toNat=32 by omega)
   refine aj ?_
   refine cE (i+1,a) ?_
   (try dsimp only);exact⟨by omega,by rw [a5,acB (aR.trans (congrArg some D5))],cO,by omega⟩
  have sm:b≠32:=fun e=>ae (by rw [e];rfl)
  refine aj ?_
  refine cc ?_ ?_<;>intro av
  ·obtain⟨p,aC⟩:∃b,s[i-1]?=some b:=⟨_,List.getElem?_eq_getElem ah⟩
   refine aj ?_
   refine ap (jq (i:=(i-1)) rfl rfl ad ah aC) ?_
   refine bT ?_ ?_<;>intro aV
   ·have zs:inside s i=true:=by rw [NR ah,aC];simp;exact fun e=>aV (by rw [e];rfl)
    refine aj ?_
    refine cE (i+1,a) ?_
    (try dsimp only);exact⟨by omega,by rw [a5,aaj aR sm zs],cO,by omega⟩
   have zs:inside s i=false:=by rw [NR ah,aC];simp;exact UInt8.toNat_inj.1 (show p.toNat=32 by omega)
   refine aj ?_
   refine ds (α:=Nat) (fun e=>i≤e∧e≤s.length∧∀c∈(s.drop i).take (e-i),c≠32) (fun e=>[(5,aa (e:Int)),(0,str s),(3,az a),(4,aa (i:Int))]) (fun e=>[eO a 9 1 fR]) (fun e=>s.length-e) i ?_ dq aA ?_
   ·exact⟨Nat.le_refl _,by omega,fun c a7=>by simp at a7⟩
   rintro e ⟨oN,MJ,gr⟩
   refine aj ?_
   refine cc ?_ ?_<;>intro bN
   ·obtain⟨c,he⟩:∃b,s[e]?=some b:=⟨_,List.getElem?_eq_getElem ah⟩
    refine aj ?_
    refine ap (jq (i:=e) rfl rfl ad rfl he) ?_
    refine bT ?_ ?_<;>intro c0
    ·have qz:c≠32:=fun e=>c0 (by rw [e];rfl)
     refine aj ?_
     exact cE (e+1) ⟨by omega,by omega,TX oN he qz gr⟩
    have LQ:c=32:=UInt8.toNat_inj.1 (show c.toNat=32 by omega)
    refine aj ?_
    refine ap (np (ec:=i) (af:=e) (p:=(s.drop i).take (e-i)) rfl ad ⟨_,rfl⟩ ⟨_,rfl⟩ ah ah rfl) ?_
    refine im (aF:=fR ((s.drop i).take (e-i))) .no rfl ad b2 b2 (by rfl) (by rfl) rfl rfl (fun ax=>?_)
    refine xr (a2:=fR) (c:=a) (y:=((s.drop i).take (e-i))) (K:=_) .no rfl rfl ad au au (ir) rfl rfl ah ah rfl (fun cI fH iH=>?_)
    refine aj ?_
    refine cE (i+1,cI) ?_
    (try dsimp only);exact⟨by omega,by rw [a5,F9 aR sm zs gr oN (.inr (he.trans (congrArg some LQ))),fH,List.append_assoc];rfl,iH,by rw [fH];simp;omega⟩
   refine ap (np (ec:=i) (af:=e) (p:=(s.drop i).take (e-i)) rfl ad ⟨_,rfl⟩ ⟨_,rfl⟩ ah ah rfl) ?_
   refine im (aF:=fR ((s.drop i).take (e-i))) .no rfl ad b2 b2 (by rfl) (by rfl) rfl rfl (fun aK=>?_)
   refine xr (a2:=fR) (c:=a) (y:=((s.drop i).take (e-i))) (K:=_) .no rfl rfl ad au au (ir) rfl rfl ah ah rfl (fun cI fH iH=>?_)
   refine aj ?_
   refine cE (i+1,cI) ?_
   (try dsimp only);exact⟨by omega,by rw [a5,F9 aR sm zs gr oN (.inl (List.getElem?_eq_none ah)),fH,List.append_assoc];rfl,iH,by rw [fH];simp;omega⟩
  have zs:inside s i=false:=by rw [show i=0 by omega];rfl
  refine aj ?_
  refine ds (α:=Nat) (fun e=>i≤e∧e≤s.length∧∀c∈(s.drop i).take (e-i),c≠32) (fun e=>[(5,aa (e:Int)),(0,str s),(3,az a),(4,aa (i:Int))]) (fun e=>[eO a 9 1 fR]) (fun e=>s.length-e) i ?_ dq aA ?_
  ·exact⟨Nat.le_refl _,by omega,fun c a7=>by simp at a7⟩
  rintro e ⟨oN,MJ,gr⟩
  refine aj ?_
  refine cc ?_ ?_<;>intro fO
  ·obtain⟨c,he⟩:∃b,s[e]?=some b:=⟨_,List.getElem?_eq_getElem ah⟩
   refine aj ?_
   refine ap (jq (i:=e) rfl rfl ad rfl he) ?_
   refine bT ?_ ?_<;>intro gk
   ·have qz:c≠32:=fun e=>gk (by rw [e];rfl)
    refine aj ?_
    exact cE (e+1) ⟨by omega,by omega,TX oN he qz gr⟩
   have LQ:c=32:=UInt8.toNat_inj.1 (show c.toNat=32 by omega)
   refine aj ?_
   refine ap (np (ec:=i) (af:=e) (p:=(s.drop i).take (e-i)) rfl ad ⟨_,rfl⟩ ⟨_,rfl⟩ ah ah rfl) ?_
   refine im (aF:=fR ((s.drop i).take (e-i))) .no rfl ad b2 b2 (by rfl) (by rfl) rfl rfl (fun bq=>?_)
   refine xr (a2:=fR) (c:=a) (y:=((s.drop i).take (e-i))) (K:=_) .no rfl rfl ad au au (ir) rfl rfl ah ah rfl (fun cI fH iH=>?_)
   refine aj ?_
   refine cE (i+1,cI) ?_
   (try dsimp only);exact⟨by omega,by rw [a5,F9 aR sm zs gr oN (.inr (he.trans (congrArg some LQ))),fH,List.append_assoc];rfl,iH,by rw [fH];simp;omega⟩
  refine ap (np (ec:=i) (af:=e) (p:=(s.drop i).take (e-i)) rfl ad ⟨_,rfl⟩ ⟨_,rfl⟩ ah ah rfl) ?_
  refine im (aF:=fR ((s.drop i).take (e-i))) .no rfl ad b2 b2 (by rfl) (by rfl) rfl rfl (fun bV=>?_)
  refine xr (a2:=fR) (c:=a) (y:=((s.drop i).take (e-i))) (K:=_) .no rfl rfl ad au au (ir) rfl rfl ah ah rfl (fun cI fH iH=>?_)
  refine aj ?_
  refine cE (i+1,cI) ?_
  (try dsimp only);exact⟨by omega,by rw [a5,F9 aR sm zs gr oN (.inl (List.getElem?_eq_none ah)),fH,List.append_assoc];rfl,iH,by rw [fH];simp;omega⟩
 obtain rfl:i=s.length:=by omega
 rw [YK,List.append_nil]at a5
 exact⟨[eO a 9 1 fR],⟨a,⟨a5.symm,cO⟩,rfl,rfl⟩,_,aA⟩
def kI(p:List (List UInt8))(i:Nat):fC:=⟨if 0<i then gS (p.getD 0 [])else 0,if 1<i then iF (p.getD 1 [])else 0,if 2<i then gS (p.getD 2 [])else 0,if 3<i then gS (p.getD 3 [])else 0⟩
def zt(p:List (List UInt8))(i:Nat):Prop:=∀j,j<i→j≠1→kO (p.getD j [])
def RQ(p:List (List UInt8))(x:fC)(b:Bool):Prop:=(b=true→r4 p=some x)∧(b=false→r4 p=none)
theorem SO{q:List UInt8}(h:(lI q).2=0):kO q∧(lI q).1=gS q:=by
  by_cases bF:kO q
  · exact⟨bF,by rw [DF bF]⟩
  · rw [v9 bF]at h;cases h
theorem aeX{q:List UInt8}(h:(lI q).2≠0):¬kO q:=fun bF=>h (by rw [DF bF])
theorem vO{p:List (List UInt8)}{i:Nat}{q:List UInt8}(h:p[i]?=some q):p.getD i []=q:=by simp [List.getD,h]
theorem RR{p:List (List UInt8)}{i:Nat}{q:List UInt8}(h:p[i]?=some q)(aq:zt p i)(bF:i≠1→kO q):zt p (i+1):=by
  intro j aI ab
  rcases Nat.lt_succ_iff_lt_or_eq.1 aI with ae|rfl
  · exact aq j ae ab
  · rw [vO h];exact bF ab
theorem acD{p:List (List UInt8)}{i:Nat}{q:List UInt8}(h:p[i]?=some q)(ab:i≠1)(bF:¬kO q):¬zt p (i+1):=fun aq=>bF (by rw [←vO h];exact aq i (by omega) ab)
theorem acE{p:List (List UInt8)}{q:List UInt8}(h:p[0]?=some q):kI p 1=⟨gS q,(kI p 0).2.1,(kI p 0).2.2.1,(kI p 0).2.2.2⟩:=by unfold kI;rw [vO h];rfl
theorem acF{p:List (List UInt8)}{q:List UInt8}(h:p[1]?=some q):kI p 2=⟨(kI p 1).1,iF q,(kI p 1).2.2.1,(kI p 1).2.2.2⟩:=by unfold kI;rw [vO h];rfl
theorem acG{p:List (List UInt8)}{q:List UInt8}(h:p[2]?=some q):kI p 3=⟨(kI p 2).1,(kI p 2).2.1,gS q,(kI p 2).2.2.2⟩:=by unfold kI;rw [vO h];rfl
theorem acH{p:List (List UInt8)}{q:List UInt8}(h:p[3]?=some q):kI p 4=⟨(kI p 3).1,(kI p 3).2.1,(kI p 3).2.2.1,gS q⟩:=by unfold kI;rw [vO h];rfl
theorem PC{p:List (List UInt8)}{i:Nat}{q:List UInt8}{m:Int}(h:p[i]?=some q)(af:i<4)(hm:m=if i=1 then iF q else gS q):(la (kI p i)).set (0+i*1) (aa m)=la (kI p (i+1)):=by
  subst hm
  have:i=0∨i=1∨i=2∨i=3:=by omega
  rcases this with rfl|rfl|rfl|rfl
  · rw [acE h];rfl
  · rw [acF h];rfl
  · rw [acG h];rfl
  · rw [acH h];rfl
theorem NS{p:List (List UInt8)}{e:fC}(h:r4 p=some e):p.length=4∧zt p 4∧iF (p.getD 1 [])≠0:=by
 match p,h with
 |[a,b,c,d],h=>
  by_cases a7:kO a∧iF b≠0∧kO c∧kO d
  ·refine⟨rfl,fun j aI ab=>?_,a7.2.1⟩
   have:j=0∨j=2∨j=3:=by omega
   rcases this with rfl|rfl|rfl
   ·exact a7.1
   ·exact a7.2.2.1
   exact a7.2.2.2
  rw [aah a7]at h;cases h
 |[],h=>cases h
 |[_],h=>cases h
 |[_,_],h=>cases h
 |[_,_,_],h=>cases h
 |_::_::_::_::_::_,h=>cases h
theorem PD{α:Type}{o:Option α}(h:∀e,o≠some e):o=none:=by
  cases o with
  |none=>rfl
  |some e=>exact absurd rfl (h e)
theorem IW{p:List (List UInt8)}{i:Nat}(af:i<p.length)(h:3<i∨¬zt p (i+1)∨(i=1∧iF (p.getD 1 [])=0)):r4 p=none:=by
  apply PD
  intro e he
  obtain⟨ab,ae,av⟩:=NS he
  rcases h with h|h|h
  · omega
  · exact h fun j aI=>ae j (by omega)
  · exact av h.2
theorem Xw{p:List (List UInt8)}(h:p.length≠4∨iF (p.getD 1 [])=0):r4 p=none:=by
  apply PD
  intro e he
  obtain⟨ab,_,av⟩:=NS he
  rcases h with h|h
  · exact h ab
  · exact av h
theorem WH{p:List (List UInt8)}(aE:p.length=4)(aq:zt p 4)(ai:iF (p.getD 1 [])≠0):r4 p=some (kI p 4):=by
  match p,aE with
  |[a,b,c,d],_=>exact QN (a:=a) (b:=b) (c:=c) (d:=d) ⟨aq 0 (by decide) (by decide),ai,aq 2 (by decide) (by decide),aq 3 (by decide) (by decide)⟩
theorem Hc{p:List (List UInt8)}{x:fC}(h:r4 p=none):RQ p x false:=⟨fun h=>(by cases h),fun _=>h⟩
 noncomputable def mw(q:List UInt8)(k:Int):Int×Int:=if 0<iF q∧iF q<k then(iF q,0)else lI q
theorem TY(q:List UInt8):mw q 1=lI q:=if_neg (by omega)
theorem TZ{q:List UInt8}{k:Int}(ab:1≤k)(ae:k≤10)(h:kH k=q):mw q (k+1)=(k,0):=by
  have:=(JF ab ae).1 h
  unfold mw;rw [if_pos (by omega),this]
theorem T0{q:List UInt8}{k:Int}(ab:1≤k)(ae:k≤10)(h:¬kH k=q):mw q (k+1)=mw q k:=by
  have:iF q≠k:=fun e=>h ((JF ab ae).2 e)
  unfold mw
  by_cases a7:0<iF q∧iF q<k
  · rw [if_pos a7,if_pos (by omega)]
  · rw [if_neg a7,if_neg (by omega)]
theorem acI{q:List UInt8}(h:(mw q 11).2≠0):iF q=0:=by
  have a4:=JE q
  apply Classical.byContradiction;intro ai
  exact h (by unfold mw;rw [if_pos (by omega)])
theorem aak{q:List UInt8}(h:¬kH (mw q 11).1=q):iF q=0:=by
  have a4:=JE q
  apply Classical.byContradiction;intro ai
  exact h (by unfold mw;rw [if_pos (by omega)];exact Om ai)
theorem aal{q:List UInt8}(b5:(mw q 11).2=0)(h:kH (mw q 11).1=q):(mw q 11).1=iF q∧iF q≠0:=by
  have a4:=JE q
  by_cases ai:iF q=0
  · exfalso
    have e:mw q 11=lI q:=if_neg (by omega)
    rw [e]at b5 h
    have bF:=(SO b5).1
    have gr:q≠[]:=fun e=>by have:=bF.len.1;rw [e]at this;simp at this
    by_cases a7:1≤(lI q).1∧(lI q).1≤10
    · have:=(JF a7.1 a7.2).1 h;omega
    · rw [yK a7]at h;exact gr h.symm
  · exact⟨by unfold mw;rw [if_pos (by omega)],ai⟩
theorem aeY(s:List UInt8)(aH:s.length≤5000000):a6 B 11 [str s] [] (fun v S=>∃x b,v= .tuple #[.agg (la x).toArray,.bool b]∧S=[]∧RQ (pieces s) x b):=by
 refine bM 65 Tryz.func11 fun ba bf=>?_
 refine de fun ax=>?_
 refine cm (GA s aH) ?_
 rintro _ _ ⟨x,⟨al,lH⟩,rfl,rfl⟩
 refine cx ?_
 refine de fun aK=>?_
 refine c2 ?_ ?_<;>intro ab
 ·refine gI ?_
  refine du (la yt) ?_
  refine aj ?_
  refine fS ?_
  exact aO ⟨yt,_,rfl,rfl,Hc (Xw (.inl (fun e=>ab (by rw [al];omega))))⟩
 have Bj:(pieces s).length=4:=by rw [←al];omega
 refine aj ?_
 refine ds (α:=Nat) (fun i=>i≤4∧zt (pieces s) i∧(1<i→iF ((pieces s).getD 1 [])≠0)) (fun i=>[(6,aa (i:Int)),(2,ag ax),(4,az x),(5,ag aK)]) (fun i=>[U ax (la yt) 33,U aK (la (kI (pieces s) i)) 33,eO x 9 1 fR]) (fun i=>4-i) 0 ?_ dq cd ?_
 ·exact⟨by decide,fun j h=>by omega,fun h=>by omega⟩
 rintro i ⟨af,ei,EH⟩
 refine bT ?_ ?_<;>intro ae
 ·obtain⟨q,bF⟩:=fp x.l i
  have BP:(pieces s)[i]?=some q:=al▸bF
  refine aj ?_
  refine ap (eQ (a2:=fR) (aN:=1) (i:=i) (k:=0) (fun _=>rfl) rfl au (dT lH rfl) ad bF rfl) ?_
  refine gj (DG q) ?_
  refine cp ?_
  refine bp (aa (lI q).1) ?_
  refine bp (aa (lI q).2) ?_
  refine aj ?_
  rw [←TY q]
  refine ds (α:=Int) (fun k=>1≤k∧k≤11∧(i=1∨k=1)) (fun k=>[(7,aa (mw q k).1),(8,aa (mw q k).2),(9,aa k),(2,ag ax),(4,az x),(5,ag aK),(6,aa (i:Int))]) (fun k=>[U ax (la yt) 33,U aK (la (kI (pieces s) i)) 33,eO x 9 1 fR]) (fun k=>(11-k).toNat) 1 ?_ dq aA ?_
  ·exact⟨by decide,by decide,.inr rfl⟩
  rintro k ⟨o2,h7,ai⟩
  refine aj ?_
  refine cc ?_ ?_<;>intro av
  ·refine bD ?_ ?_<;>intro aV
   ·refine cZ _ ad (Take.self _) ?_
    refine aY [0,2,3] ?_
    refine bG 4 rfl (iW rfl rfl ad (x).fl rfl ah rfl) ?_
    refine bj 5 rfl (eQ (a2:=fR) (aN:=1) (i:=i) (k:=0) (fun _=>rfl) rfl au (dT lH rfl) ad bF rfl) ?_
    refine aY [101] ?_
    refine gU (SL k) ?_
    refine bj 6 rfl (k6 (a:=kH k) (b:=q) rfl rfl rfl) ?_
    refine df [99] ?_
    refine bD ?_ ?_<;>intro bN
    ·refine k2 (k+1) ?_ ?_ ?_ ?_
     ·exact⟨by omega,by omega,by omega⟩
     ·omega
     ·refine⟨by rw [TZ o2 ah bN];rfl,by rw [TZ o2 ah bN];rfl,?_,?_,?_,?_,?_,trivial⟩<;>rfl
     exact⟨_,aA⟩
    refine k2 (k+1) ?_ ?_ ?_ ?_
    ·exact⟨by omega,by omega,by omega⟩
    ·omega
    ·refine⟨by rw [T0 o2 ah bN];rfl,by rw [T0 o2 ah bN];rfl,?_,?_,?_,?_,?_,trivial⟩<;>rfl
    exact⟨_,aA⟩
   have yu:mw q k=lI q:=by rw [show k=1 by omega];exact TY q
   refine aj ?_
   refine cZ _ ad (Take.self _) ?_
   refine aY [0,1,2] ?_
   refine tt (t:=47) rfl (fun c0=>?_) (fun c0=>?_)
   ·replace c0:=gX c0
    refine aY [3,4,5] ?_
    refine pY 6 50 rfl en en en en (fun _ _ _ _ h=>h) rfl rfl rfl rfl ?_
    refine pY 7 50 rfl en en en en (fun _ _ _ _ h=>h) rfl rfl rfl rfl ?_
    refine pY 8 50 rfl en en en en (fun _ _ _ _ h=>h) rfl rfl rfl rfl ?_
    refine pY 9 50 rfl en en en en (fun _ _ _ _ h=>h) rfl rfl rfl rfl ?_
    refine pY 10 50 rfl en en en en (fun _ _ _ _ h=>h) rfl rfl rfl rfl ?_
    refine pY 11 50 rfl en en en en (fun _ _ _ _ h=>h) rfl rfl rfl rfl ?_
    refine pY 12 50 rfl en en en en (fun _ _ _ _ h=>h) rfl rfl rfl rfl ?_
    refine df [13,14,99] ?_
    refine fS ?_
    exact aO ⟨yt,_,rfl,rfl,Hc (IW (i:=i) ah (.inr (.inl (acD BP ah (aeX (yu▸c0))))))⟩
   replace c0:=gX c0
   rw [yu]at c0
   have bl:=SO c0
   refine aY [3,4,5] ?_
   refine tt (t:=50) rfl (fun fO=>?_) (fun fO=>?_)
   ·replace fO:=gX fO
    omega
   replace fO:=gX fO
   refine df [6,7,8,9,10,11,12,13,14,99] ?_
   refine fq (js (k:=0+i*1) (ga:=la (kI (pieces s) (i+1))) rfl rfl rfl au ad (by rw [Nat.zero_add];exact(by simp;omega)) (PC BP ah (by rw [if_neg ah,yu];exact bl.2))) ?_
   refine aj ?_
   exact cE (i+1) ⟨by omega,RR BP ei fun _=>bl.1,fun h=>EH ah⟩
  have yu:mw q k=mw q 11:=by rw [show k=11 by omega]
  have te:i=1:=by omega
  have oc:(pieces s)[1]?=some q:=te▸BP
  refine aj ?_
  refine cZ _ ad (Take.self _) ?_
  refine aY [0,1,2] ?_
  refine tt (t:=47) rfl (fun gk=>?_) (fun gk=>?_)
  ·replace gk:=gX gk
   refine aY [3,4,5] ?_
   refine pY 6 50 rfl en en en en (fun _ _ _ _ h=>h) rfl rfl rfl rfl ?_
   refine pY 7 50 rfl en en en en (fun _ _ _ _ h=>h) rfl rfl rfl rfl ?_
   refine pY 8 50 rfl en en en en (fun _ _ _ _ h=>h) rfl rfl rfl rfl ?_
   refine pY 9 50 rfl en en en en (fun _ _ _ _ h=>h) rfl rfl rfl rfl ?_
   refine pY 10 50 rfl en en en en (fun _ _ _ _ h=>h) rfl rfl rfl rfl ?_
   refine pY 11 50 rfl en en en en (fun _ _ _ _ h=>h) rfl rfl rfl rfl ?_
   refine pY 12 50 rfl en en en en (fun _ _ _ _ h=>h) rfl rfl rfl rfl ?_
   refine df [13,14,99] ?_
   refine fS ?_
   exact aO ⟨yt,_,rfl,rfl,Hc (IW (i:=i) ah (.inr (.inr ⟨te,by rw [vO oc];exact acI (yu▸gk)⟩)))⟩
  replace gk:=gX gk
  refine aY [3,4,5] ?_
  refine tt (t:=50) rfl (fun hW=>?_) (fun hW=>?_)
  ·replace hW:=gX hW
   refine aY [6,8,9] ?_
   refine bG 10 rfl (iW rfl rfl ad (x).fl rfl ah rfl) ?_
   refine bj 11 rfl (eQ (a2:=fR) (aN:=1) (i:=i) (k:=0) (fun _=>rfl) rfl au (dT lH rfl) ad bF rfl) ?_
   refine aY [107] ?_
   refine gU (SL (mw q k).1) ?_
   refine bj 12 rfl (k6 (a:=kH (mw q k).1) (b:=q) rfl rfl rfl) ?_
   refine df [13,14,99] ?_
   refine bD ?_ ?_<;>intro na
   ·refine fS ?_
    exact aO ⟨yt,_,rfl,rfl,Hc (IW (i:=i) ah (.inr (.inr ⟨te,by rw [vO oc];exact aak (yu▸na)⟩)))⟩
   rw [yu]at gk na
   have bl:=aal gk na
   refine aj ?_
   refine fq (js (k:=0+i*1) (ga:=la (kI (pieces s) (i+1))) rfl rfl rfl au ad (by rw [Nat.zero_add];exact(by simp;omega)) (PC BP ah (by rw [if_pos te,yu];exact bl.1))) ?_
   refine aj ?_
   exact cE (i+1) ⟨by omega,RR BP ei (fun h=>absurd te h),fun _=>by rw [vO oc];exact bl.2⟩
  replace hW:=gX hW
  omega
 have aim:i=4:=by omega
 refine aj ?_
 refine fS ?_
 exact aO ⟨_,_,rfl,rfl,fun _=>by rw [aim]at ei EH⊢;exact WH Bj ei (EH b2),fun h=>(by cases h)⟩
def uk(jy:List (List UInt8)):List UInt8:=jy.flatMap (· ++[10])
theorem aam(a b:List (List UInt8)):uk (a++b)=uk a++uk b:=by unfold uk;rw [List.flatMap_append]
structure Hd(l:List UInt8):Prop where
  ne:∀b∈l,b≠10∧b≠35
  len:l.length≤100
  rd:∀x,r4 (pieces l)=some x→x.2.1≠4
def m5(b:List UInt8):Prop:=∃jy,b=uk jy∧∀l∈jy,Hd l
theorem m5.nil:m5 []:=⟨[],rfl,fun l h=>by cases h⟩
theorem m5.gi{a b:List UInt8}(h:m5 a)(g:m5 b):m5 (a++b):=by
  obtain⟨l,rfl,ab⟩:=h;obtain⟨m,rfl,a1⟩:=g
  exact⟨l++m,(aam l m).symm,fun x al=>(List.mem_append.1 al).elim (ab x) (a1 x)⟩
theorem m5.line{a:List UInt8}(h:Hd a):m5 (a++[10]):=⟨[a],by unfold uk;simp,fun l aE=>by rw [List.mem_singleton.1 aE];exact h⟩
theorem aeZ{b:UInt8}(h:ri b):b≠10∧b≠35:=by
  have ab:=h.1
  constructor<;>(intro e;subst e;revert ab;decide)
theorem uE(n:Int):∀b∈eL n,b≠10∧b≠35:=fun b aR=>aeZ ((yX n).all b aR)
theorem Xx(k:Int):∀b∈kH k,b≠10∧b≠35:=by
  by_cases ai:1≤k∧k≤10
  · rcases C0 ai.1 ai.2 with rfl|rfl|rfl|rfl|rfl|rfl|rfl|rfl|rfl|rfl<;>decide
  · rw [yK ai];intro b aR;cases aR
theorem pZ{a b:List UInt8}(h:∀c∈a,c≠10∧c≠35)(g:∀c∈b,c≠10∧c≠35):∀c∈a++b,c≠10∧c≠35:=fun c a7=>(List.mem_append.1 a7).elim (h c) (g c)
theorem vW{l:List UInt8}(h:(l.all fun c=>c !=10&&c !=35)=true):∀c∈l,c≠10∧c≠35:=fun c a7=>by
  have:=List.all_eq_true.1 h c a7
  simpa using this
def wD(e n:Int):List UInt8:=if 0<n then eL e++([32]++eL n)else eL e
theorem PE(e n:Int):Hd (wD e n):=by
 unfold wD
 split
 ·refine⟨pZ (uE e) (pZ (vW rfl) (uE n)),by have a1:=hZ e;have a3:=hZ n;simp only [List.length_append,List.length_cons,List.length_nil];omega,fun x h=>?_⟩
  have:pieces (eL e++([32]++eL n))=[eL e,eL n]:=by
   show pieces (eL e++32::eL n)=_
   rw [tq (uG e) (uH e),FK (uG n) (uH n)]
  rw [this]at h;cases h
 refine⟨uE e,by have a1:=hZ e;omega,fun x h=>?_⟩
 rw [FK (uG e) (uH e)]at h;cases h
theorem Xy{e:fC}(h:e.2.1≠4):Hd (q9 e):=by
 refine⟨?_,by have:=Jf e;omega,fun x al=>?_⟩
 ·unfold q9
  split
  ·refine pZ (pZ (pZ (pZ (pZ (pZ (uE _) (vW rfl)) (Xx _)) (vW rfl)) (uE _)) (vW rfl)) (uE _)
  intro c a7;cases a7
 rw [Xu]at al
 split at al
 ·cases al;exact h
 cases al
def ul(e:fC):List UInt8:=if o8 e then q9 e++[10]else []
def sT(l:List fC):List UInt8:=l.flatMap ul
theorem QP{l:List fC}{i:Nat}{e:fC}(h:l[i]?=some e):sT (l.take (i+1))=sT (l.take i)++ul e:=by
  unfold sT;rw [List.take_add_one,h,List.flatMap_append];simp
theorem ae0{e:fC}(h:¬q9 e=[]):ul e=q9 e++[10]:=by
  have:o8 e=true:=by rw [←Py];simp [h]
  unfold ul;rw [if_pos this]
theorem ae1{e:fC}(h:q9 e=[]):ul e=[]:=by
  have:o8 e=false:=by rw [←Py];simp [h]
  unfold ul;rw [if_neg (by rw [this];decide)]
theorem aan(e:fC):(ul e).length≤51:=by
  unfold ul;split
  · have:=Jf e;simp;omega
  · simp
theorem Jg:∀l:List fC,(sT l).length≤51*l.length
  |[]=>by simp [sT]
  |e::l=>by
    have ab:=Jg l;have ae:=aan e
    have:sT (e::l)=ul e++sT l:=rfl
    rw [this,List.length_append,List.length_cons];omega
theorem WI(l:List fC)(i:Nat):(sT (l.take i)).length≤51*i:=by
  have:=Jg (l.take i);rw [List.length_take]at this;omega
theorem QQ:∀{l:List fC},(∀x∈l,x.2.1≠4)→m5 (sT l)
  |[],_=>m5.nil
  |e::l,h=>by
    have ab:m5 (ul e):=by
      unfold ul;split
      · exact m5.line (Xy (h e (List.mem_cons_self ..)))
      · exact m5.nil
    exact ab.gi (QQ fun x al=>h x (List.mem_cons_of_mem _ al))
theorem ae2(l:an fC)(aE:dI K l.bu (l.l.flatMap la))(bN:l.l.length≤20000000):a6 B 29 [az l] [K] (fun v S=>v=str (sT l.l)∧S=[K]):=by
 refine bM 23 Tryz.func29 fun ba bf=>?_
 refine ds (α:=Nat) (fun i=>i≤l.l.length) (fun i=>[(3,str (sT (l.l.take i))),(9,aa (i:Int)),(7,az l),(8,aa (l.l.length:Int))]) (fun i=>[K]) (fun i=>l.l.length-i) 0 ?_ dq aA ?_
 ·exact Nat.zero_le _
 intro i af
 refine bT ?_ ?_<;>intro ab
 ·obtain⟨e,bl⟩:=fp l.l i
  have Ip:=Jf e
  have gp:=WI l.l i
  refine aj ?_
  refine ap (jV (a2:=la) (aN:=4) (i:=i) (fun _=>rfl) rfl au aE ad bl) ?_
  refine xi (aF:=la yt) .no ad rfl (fun ax=>?_)
  refine fq (kG (bK:=la e) rfl rfl (by rfl) au ad rfl rfl) ?_
  refine iK ?_
  refine du (la e) ?_
  refine gl (aeW e) ?_
  refine ap (k6 (b:=[]) rfl rfl rfl) ?_
  refine bT ?_ ?_<;>intro ae
  ·refine ap (gw (b:=[10]) rfl rfl gO) ?_
   refine ap (gw rfl rfl gO) ?_
   refine aj ?_
   refine k2 (i+1) ?_ ?_ ?_ ?_
   ·omega
   ·omega
   ·refine⟨by rw [QP bl,ae0 ae];rfl,?_,?_,?_,trivial⟩<;>rfl
   exact⟨_,aA⟩
  refine k2 (i+1) ?_ ?_ ?_ ?_
  ·omega
  ·omega
  ·refine⟨by rw [QP bl,ae1 ae,List.append_nil];rfl,?_,?_,?_,trivial⟩<;>rfl
  exact⟨_,aA⟩
 obtain rfl:i=l.l.length:=by omega
 refine aj ?_
 exact aO ⟨by rw [List.take_length],rfl⟩
theorem aao(e n:Int):a6 B 27 [.agg #[aa e,aa n]] [] (fun v S=>v=str (wD e n)∧S=[]):=by
 refine dN 17 Tryz.func27 fun ba bf=>?_
 have a1:=hZ e
 have a3:=hZ n
 refine aj ?_
 refine fX (aF:=[aa e,aa n]) fun ax=>?_
 refine gl (n0 e) ?_
 refine bD ?_ ?_<;>intro ab
 ·refine gj (n0 n) ?_
  refine ap (gw rfl rfl gO) ?_
  refine ap (gw rfl rfl gO) ?_
  refine aj ?_
  exact aO ⟨by unfold wD;rw [if_pos ab],rfl⟩
 exact aO ⟨by unfold wD;rw [if_neg ah],rfl⟩
def qb(now m late seq:Int):List UInt8:=[111,110,32]++eL now++[32,109,111,100,101,32]++eL m++[32,108,97,116,101,32]++eL late++[32,105,109,97,103,101,32]++eL seq
theorem aap{c:ck}{y bL:bZ}{o:fW}(p:Nat){t:Int}{n:Nat}{G:jR}:a6 B 30 [ag p] [gB c y bL o p t n G] (fun v S=>∃a:an fC,kg n a∧v=az a∧S=[gB c y bL o p t 0 G,gR a]):=by
 refine ox (pre:=[]) fun⟨z,aS⟩=>?_
 refine j9 (show di _ _ _ _ ([U p (c7 (eT z.k z.cM)) 170]++[U z.k.eB (c5 z.s) 260,many 16 (eK z.s.aD),eg z.k.fh bL o z.e z.aW,hB z.aW z.e,gR z.cM,eJ z.k.q,all (z.k.q.l.map cU)]) _ from di.frame (Z0 p z.k z.cM) _) ?_
 rintro v S ⟨aU,rfl,rfl,rfl⟩
 refine bP ?_
 refine⟨_,[gB c y bL o p t 0 G,gR z.cM],[],gK.trans (bc:=gR (an.bt:an fC)::_) (fun D w q=>⟨fun _=>False,D,fun k=>by simp,fun _ h _=>h,Fy,q⟩) (xM (c:=c) (y:=y) (t:=t) (n:=0) (R:=[gR z.cM]) ⟨z.k,z.s,z.e,z.aW,an.bt⟩ ⟨aS.y,aS.inv,aS.u,aS.act,aS.late,aS.dG,aS.aW,aS.xa,aS.nl,kg.bt 0,aS.now,aS.g⟩ cd),Take.self _,z.cM,aS.aX,rfl,rfl⟩
theorem acJ(p:Nat)(y:bZ)(o:fW)(e:cw)(aW:List Nat):a6 B 120 [ag p] [eg p y o e aW] (fun v S=>v=aa e.mode∧S=[eg p y o e aW]):=by
 refine bM 7 Tryz.func120 fun ba bf=>?_
 exact bJ
theorem acK(dc:Nat)(k:fy)(bL:bZ)(o:fW)(e:cw)(aW:List Nat):a6 B 66 [ag dc] [U dc (c7 k) 170,eg k.fh bL o e aW] (fun v S=>v=aa e.mode∧S=[U dc (c7 k) 170,eg k.fh bL o e aW]):=by
 refine bM 8 Tryz.func66 fun ba bf=>?_
 refine gH (acJ k.fh bL o e aW) ?_
 exact bJ
theorem ae3(q iU dc:Nat)(cH:Value)(w:an (BitVec 32))(MD:w.Own)(BH:w.l.length≤100000)(dW:BitVec 32)(fi:Int)(k:fy)(s:cf)(bL:bZ)(o:fW)(e:cw)(aW:List Nat):a6 B 31 [ag q] [U q (eo iU cH (ag dc) w dW fi) 116,cR w,U dc (c7 k) 170,U k.eB (c5 s) 260,eg k.fh bL o e aW] (fun v S=>v=str (qb s.now e.mode k.late (dW.toNat:Int))∧S=[U q (eo iU cH (ag dc) w dW fi) 116,cR w,U dc (c7 k) 170,U k.eB (c5 s) 260,eg k.fh bL o e aW]):=by
 refine dN 39 Tryz.func31 fun ba bf=>?_
 have a1:=hZ s.now
 have a3:=hZ e.mode
 have bI:=hZ k.late
 have cv:=hZ (dW.toNat:Int)
 have H0:=dW.isLt
 refine aj ?_
 refine gH (GV q iU cH (ag dc) w dW fi) ?_
 refine cm (abY (K:=cR w) q iU w dW fi cH dc (dT MD rfl) BH) ?_
 rintro _ _ ⟨a,⟨fT,cO⟩,rfl,rfl⟩
 refine bP ?_
 refine cp ?_
 refine bp (az a) ?_
 refine bp (aQ dW.toNat) ?_
 refine bp (.bool true) ?_
 refine aj ?_
 refine eR (zj k.eB s) ?_
 refine gj (n0 s.now) ?_
 refine ap (gw rfl rfl gO) ?_
 refine ap (gw rfl rfl gO) ?_
 refine aj ?_
 refine eR (acK dc k bL o e aW) ?_
 refine gj (n0 e.mode) ?_
 refine ap (gw rfl rfl gO) ?_
 refine ap (gw rfl rfl gO) ?_
 refine aj ?_
 refine eR (ab4 dc k) ?_
 refine gj (n0 k.late) ?_
 refine ap (gw rfl rfl gO) ?_
 refine ap (gw rfl rfl gO) ?_
 refine aj ?_
 refine ap (ja rfl ad (lP ah ah)) ?_
 refine gj (n0 (dW.toNat:Int)) ?_
 refine ap (gw rfl rfl gO) ?_
 exact oi
theorem acL(q iU:Nat)(cH:Value)(w:an (BitVec 32))(dW:BitVec 32)(fi:Int):a6 B 31 [ag q] [U q (eo iU cH (.pointer none) w dW fi) 116] (fun v S=>v=str [111,102,102]∧S=[U q (eo iU cH (.pointer none) w dW fi) 116]):=by
 refine bM 39 Tryz.func31 fun ba bf=>?_
 refine gH (GV q iU cH (.pointer none) w dW fi) ?_
 exact bJ
section
variable{B:Nat}
def Fh(aB:ar B)(q p:Nat)(N b t:Int)(n:Nat)(eP:rI)(aW:List Nat):ar B:=match aW with
  |[]=>Hw q p N b eP
  |dc::_=>ex fun z:{z:vo//tT aB N b t n eP z∧z.dc=dc}=>vp q p z.1
section
variable{aB:ar B}{q p:Nat}{N b t:Int}{n:Nat}{eP:rI}{S R:List (ar B)}
theorem ae4:a6 B 28 [ag q] [ks aB q p N b t n eP] (fun v S=>∃aW:List Nat,v=ha (.pointer none) aW∧S=[Fh aB q p N b t n eP aW]):=by
 refine KL (fun z aS=>?_) (fun z aS=>?_)
 ·refine j9 (show di _ _ _ _ ([U q (eo p (ag z.bi) (ag z.dc) z.w z.seq z.c8) 116]++(vp q p z).tail) _ from di.frame (GV q p (ag z.bi) (ag z.dc) z.w z.seq z.c8) _) ?_
  rintro v S ⟨aU,rfl,rfl,rfl⟩
  exact⟨_,[Fh aB q p N b t n eP [z.dc]],[],pq (F:=fun c3:{c3:vo//tT aB N b t n eP c3∧c3.dc=z.dc}=>vp q p c3.1) (R:=[]) ⟨z,aS,rfl⟩ (Take.self (vp q p z)),Take.self _,[z.dc],rfl,rfl⟩
 refine j9 (show di _ _ _ _ ([U q (eo p (.pointer none) (.pointer none) z.w z.seq z.c8) 116]++(s8 q p z).tail) _ from di.frame (GV q p (.pointer none) (.pointer none) z.w z.seq z.c8) _) ?_
 rintro v S ⟨aU,rfl,rfl,rfl⟩
 exact⟨_,[Fh aB q p N b t n eP []],[],pq (F:=fun c3:{c3:wB//uY N b eP c3}=>s8 q p c3.1) (R:=[]) ⟨z,aS⟩ (Take.self (s8 q p z)),Take.self _,[],rfl,rfl⟩
theorem acM(o:Out (Fh aB q p N b t n eP []) S R):gK S (ks aB q p N b t 0 eP::R):=fun D w k=>by
  obtain⟨dm,dY,e,aJ,⟨z,e2⟩,cD⟩:=(Take.cons o (.nil _)).mP k
  obtain⟨jk,jB,cq,o6,kp,od⟩:=CZ (aB:=aB) (t:=t) (n:=0) (R:=[]) z.1 z.2 (Take.self (s8 q p z.1)) dm w e2
  exact⟨dm,dY,e,aJ,⟨false,⟨dm,fun _=>False,fun k=>by simp,fun _ _ h=>h,⟨z,e2⟩,fun k h=>h⟩⟩,cD⟩
theorem aaq{dc:Nat}{r:List Nat}:a6 B 30 [ag dc] [Fh aB q p N b t n eP (dc::r)] (fun v S=>∃a:an fC,kg n a∧v=az a∧S=[ks aB q p N b t 0 eP,gR a]):=by
 refine ox (F:=fun z:{z:vo//tT aB N b t n eP z∧z.dc=dc}=>vp q p z.1) (pre:=[]) fun⟨z,aS,ain⟩=>?_
 subst ain
 show di _ _ _ _ [U q (eo p (ag z.bi) (ag z.dc) z.w z.seq z.c8) 116,U z.bi [ag p,ag (z.Q 0),ag (z.Q 1),aa (z.a:Int)] 200,U (z.Q z.a) (bE p (z.ay z.a)) 273,U (z.Q (1-z.a)) (bE p (z.ay (1-z.a))) 273,U p (bH z.d) 196,cu z.d,fM z.d,gB z.c z.y z.bL z.o z.dc z.t z.n z.G,all (fr z.y),all (fr z.bL),all (kR z.o),cR z.w] _
 refine p6 (pre:=[gB z.c z.y z.bL z.o z.dc z.t z.n z.G]++[U q (eo p (ag z.bi) (ag z.dc) z.w z.seq z.c8) 116,U z.bi [ag p,ag (z.Q 0),ag (z.Q 1),aa (z.a:Int)] 200,U (z.Q z.a) (bE p (z.ay z.a)) 273,U (z.Q (1-z.a)) (bE p (z.ay (1-z.a))) 273,U p (bH z.d) 196,cu z.d,fM z.d,all (fr z.y),all (fr z.bL),all (kR z.o),cR z.w]) ?_ (ov (L:=gB z.c z.y z.bL z.o z.dc z.t z.n z.G::[U q (eo p (ag z.bi) (ag z.dc) z.w z.seq z.c8) 116,U z.bi [ag p,ag (z.Q 0),ag (z.Q 1),aa (z.a:Int)] 200,U (z.Q z.a) (bE p (z.ay z.a)) 273,U (z.Q (1-z.a)) (bE p (z.ay (1-z.a))) 273,U p (bH z.d) 196,cu z.d,fM z.d,all (fr z.y),all (fr z.bL),all (kR z.o),cR z.w]) (R:=[]) cd)
 refine j9 (di.frame (aap z.dc) _) ?_
 rintro v S ⟨aU,rfl,a,a5,rfl,rfl⟩
 refine bP ?_
 exact⟨_,[ks aB q p N b t 0 eP,gR a],[],KK (N:=N) (b:=b) (t:=t) (n:=0) (R:=[gR a]) {z with n:=0} ⟨aS.k0,aS.er,aS.a,aS.co,aS.IF,aS.wl,aS.e1,aS.t,Nat.le_refl _,aS.g⟩ cd,Take.self _,a,a5.le aS.n,rfl,rfl⟩
def yZ(l:List UInt8):Prop:=l=[111,102,102]∨∃now m dW:Int,l=qb now m 0 dW
theorem ae5:a6 B 31 [ag q] [ks aB q p N b t n eP] (fun v S=>∃l,(yZ l∧∀c dW G,eP= .on c dW G→∃e s f,G e s f∧l=qb s.now e.mode 0 (dW.toNat:Int))∧v=str l∧S=[]):=by
 refine KL (fun z aS=>?_) (fun z aS=>?_)
 ·show di _ _ _ _ [U q (eo p (ag z.bi) (ag z.dc) z.w z.seq z.c8) 116,U z.bi [ag p,ag (z.Q 0),ag (z.Q 1),aa (z.a:Int)] 200,U (z.Q z.a) (bE p (z.ay z.a)) 273,U (z.Q (1-z.a)) (bE p (z.ay (1-z.a))) 273,U p (bH z.d) 196,cu z.d,fM z.d,gB z.c z.y z.bL z.o z.dc z.t z.n z.G,all (fr z.y),all (fr z.bL),all (kR z.o),cR z.w] _
  refine p6 (pre:=gB z.c z.y z.bL z.o z.dc z.t z.n z.G::[U q (eo p (ag z.bi) (ag z.dc) z.w z.seq z.c8) 116,U z.bi [ag p,ag (z.Q 0),ag (z.Q 1),aa (z.a:Int)] 200,U (z.Q z.a) (bE p (z.ay z.a)) 273,U (z.Q (1-z.a)) (bE p (z.ay (1-z.a))) 273,U p (bH z.d) 196,cu z.d,fM z.d,all (fr z.y),all (fr z.bL),all (kR z.o),cR z.w]) ?_ (ov (L:=gB z.c z.y z.bL z.o z.dc z.t z.n z.G::[U q (eo p (ag z.bi) (ag z.dc) z.w z.seq z.c8) 116,U z.bi [ag p,ag (z.Q 0),ag (z.Q 1),aa (z.a:Int)] 200,U (z.Q z.a) (bE p (z.ay z.a)) 273,U (z.Q (1-z.a)) (bE p (z.ay (1-z.a))) 273,U p (bH z.d) 196,cu z.d,fM z.d,all (fr z.y),all (fr z.bL),all (kR z.o),cR z.w]) (R:=[]) cd)
  refine ox fun⟨x,al⟩=>?_
  show di _ _ _ _ [U z.dc (c7 (eT x.k x.cM)) 170,U x.k.eB (c5 x.s) 260,many 16 (eK x.s.aD),eg x.k.fh z.bL z.o x.e x.aW,hB x.aW x.e,gR x.cM,eJ x.k.q,all (x.k.q.l.map cU),U q (eo p (ag z.bi) (ag z.dc) z.w z.seq z.c8) 116,U z.bi [ag p,ag (z.Q 0),ag (z.Q 1),aa (z.a:Int)] 200,U (z.Q z.a) (bE p (z.ay z.a)) 273,U (z.Q (1-z.a)) (bE p (z.ay (1-z.a))) 273,U p (bH z.d) 196,cu z.d,fM z.d,all (fr z.y),all (fr z.bL),all (kR z.o),cR z.w] _
  refine p6 (pre:=[U q (eo p (ag z.bi) (ag z.dc) z.w z.seq z.c8) 116,cR z.w,U z.dc (c7 (eT x.k x.cM)) 170,U x.k.eB (c5 x.s) 260,eg x.k.fh z.bL z.o x.e x.aW]++[many 16 (eK x.s.aD),hB x.aW x.e,gR x.cM,eJ x.k.q,all (x.k.q.l.map cU),U z.bi [ag p,ag (z.Q 0),ag (z.Q 1),aa (z.a:Int)] 200,U (z.Q z.a) (bE p (z.ay z.a)) 273,U (z.Q (1-z.a)) (bE p (z.ay (1-z.a))) 273,U p (bH z.d) 196,cu z.d,fM z.d,all (fr z.y),all (fr z.bL),all (kR z.o)]) ?_ (ov (L:=[U q (eo p (ag z.bi) (ag z.dc) z.w z.seq z.c8) 116,cR z.w,U z.dc (c7 (eT x.k x.cM)) 170,U x.k.eB (c5 x.s) 260,eg x.k.fh z.bL z.o x.e x.aW,many 16 (eK x.s.aD),hB x.aW x.e,gR x.cM,eJ x.k.q,all (x.k.q.l.map cU),U z.bi [ag p,ag (z.Q 0),ag (z.Q 1),aa (z.a:Int)] 200,U (z.Q z.a) (bE p (z.ay z.a)) 273,U (z.Q (1-z.a)) (bE p (z.ay (1-z.a))) 273,U p (bH z.d) 196,cu z.d,fM z.d,all (fr z.y),all (fr z.bL),all (kR z.o)]) (R:=[]) cd)
  refine j9 (di.frame (ae3 q p z.dc (ag z.bi) z.w aS.IF aS.wl z.seq z.c8 (eT x.k x.cM) x.s z.bL z.o x.e x.aW) _) ?_
  rintro v S ⟨aU,rfl,rfl,rfl⟩
  have ey:(eT x.k x.cM).late=0:=al.late
  exact⟨_,[],_,fun D w h=>h,.nil _,_,⟨.inr ⟨_,_,_,by rw [ey]⟩,fun c dW G q=>by
   rcases aS.g with bR|⟨hp,bR,gD⟩
   ·rw [q]at bR;cases bR
   rw [q]at bR;cases bR
   exact⟨_,_,_,gD _ _ _ al.g,by rw [ey]⟩⟩,rfl,rfl⟩
 refine j9 (show di _ _ _ _ ([U q (eo p (.pointer none) (.pointer none) z.w z.seq z.c8) 116]++(s8 q p z).tail) _ from di.frame (acL q p (.pointer none) z.w z.seq z.c8) _) ?_
 rintro v S ⟨aU,rfl,rfl,rfl⟩
 exact⟨_,[],_,fun D w h=>h,.nil _,_,⟨.inl rfl,fun c dW G q=>by
  rcases aS.g with bR|⟨_,_,_,bR,_⟩<;>(rw [q]at bR;cases bR)⟩,rfl,rfl⟩
end
end
structure dQ where
  cT:Int
  c4:Int
  cs:Int
  bA:an dt
  cQ:an (BitVec 32)
abbrev e9(x:dQ):List Value:=[aa x.cT,aa x.c4,aa x.cs,az x.bA,az x.cQ]
abbrev rT(a:an dQ):ar B:=eO a 63 5 e9
structure y8(fV hq:ar B)(a:an dQ):Prop where
  o:a.Own
  n:a.l.length≤512
  l:∀x∈a.l,dI fV x.bA.bu (x.bA.l.flatMap gq)
  w:∀x∈a.l,dI hq x.cQ.bu (x.cQ.l.flatMap dh)
  s:∀x∈a.l,x.c4≤9223372036854775807
theorem T1{aB:ar B}{q p i n:Nat}{eP:rI}:ks aB q p (100000+5000*(i:Int)+5000) ((i:Int)+1) (4096*(i:Int)+4096) n eP=ks aB q p (100000+5000*((i+1:Nat):Int)) ((i+1:Nat):Int) (4096*((i+1:Nat):Int)) n eP:=by
  rw [show 100000+5000*(i:Int)+5000=100000+5000*((i+1:Nat):Int)by omega,show(i:Int)+1=((i+1:Nat):Int)by omega,show 4096*(i:Int)+4096=4096*((i+1:Nat):Int)by omega]
theorem agN{aB:ar B}{q p n:Nat}{eP:rI}:ks aB q p 100000 0 0 n eP=ks aB q p (100000+5000*((0:Nat):Int)) ((0:Nat):Int) (4096*((0:Nat):Int)) n eP:=rfl
theorem aar(e n:Int):(wD e n).length≤30:=by
  have a1:=hZ e;have a3:=hZ n
  unfold wD;split
  · simp only [List.length_append,List.length_cons,List.length_nil];omega
  · omega
theorem Ga{l:List UInt8}(h:yZ l):l.length≤100:=by
  rcases h with rfl|⟨a,b,c,rfl⟩
  · decide
  · have a1:=hZ a;have a3:=hZ b;have bI:=hZ c;have cv:=hZ 0
    unfold qb;simp only [List.length_append,List.length_cons,List.length_nil];omega
theorem acN:a6 B 26 [] [] (fun v S=>v= .agg #[aa 16,aa 256,aa 1000]∧S=[]):=by
 refine bM 2 Tryz.func26 fun ba bf=>?_
 refine de fun ax=>?_
 refine g2 ?_
 exact bJ
theorem RS{aB:ar B}(bO:hd aB)(aJ:hK aB)(text ur:List UInt8)(ok:Prop)(Nc:List (BitVec 32)→Prop)(VT:List dQ→Prop)(VU:List UInt8→Prop)(EZ:a6 B 23 [str text] [aB] (fun v S=>∃(a:an (BitVec 32)) (b8:Value),(a.Own∧a.l.length≤100000∧uJ b8∧(ok→qf b8=false)∧(qf b8=false→Nc a.l))∧v= .tuple #[az a,b8]∧S=[cR a,aB]))(dj:a6 B 24 [str ur] [] (fun v S=>∃(a:an dQ) (z b8:Int) (fV hq:ar B),(y8 fV hq a∧(ok→b8=0)∧(b8=0→VT a.l))∧v= .tuple #[az a,aa z,aa b8]∧S=[rT a,fV,hq]))(oe:∀a:an (BitVec 32),a.Own→a.l.length≤100000→Nc a.l→a6 B 25 [.agg #[aa 16,aa 256,aa 1000],az a] [cR a,aB] (fun v S=>∃(pe:Value) (b8:Int) (X:ar B),((b8=0→∃q p,pe=ag q∧X=ks aB q p 100000 0 0 0 (.off a.l))∧(ok→b8=0))∧v= .tuple #[pe,aa b8]∧S=[X,aB]))(vB:∀l cH,Nc l→VT cH→∃BQ:Nat→rI,BQ 0= .off l∧(∀(i:Nat) (x:dQ),cH[i]?=some x→u7 (BQ i) x.cT x.c4 x.cs x.bA.l (BQ (i+1)))∧∀jv,(∀c dW G,BQ cH.length= .on c dW G→∃e s f,G e s f∧jv=qb s.now e.mode 0 (dW.toNat:Int))→VU jv):a6 B 8 [str text,str ur] [aB] (fun v S=>∃(b8:Value) (out:List UInt8),uJ b8∧(ok→qf b8=false)∧(qf b8=true→out=[])∧(qf b8=false→∃b jv,out=b++(jv++[10])∧m5 b∧yZ jv∧b.length≤400000000000∧VU jv)∧v= .tuple #[str out,b8]∧S=[]):=by
 refine bM 77 Tryz.func8 fun ba bf=>?_
 refine cm (EZ) ?_
 rintro _ _ ⟨a,Ae,⟨cO,fT,sr,agO,BN⟩,rfl,rfl⟩
 refine bP ?_
 refine cp ?_
 refine bp (az a) ?_
 refine bp Ae ?_
 refine aj ?_
 refine ap (Q6 rfl sr ad) ?_
 refine bT ?_ ?_<;>intro ab
 ·exact⟨[],⟨Ae,[],sr,fun q=>agO q,fun _=>rfl,fun h=>(by rw [ab]at h;cases h),rfl,rfl⟩,_,.nil _⟩
 refine cm (dj) ?_
 rintro _ _ ⟨cI,z,es,fV,hq,⟨fH,MJ,EG⟩,rfl,rfl⟩
 refine bP ?_
 refine cp ?_
 refine bp (az cI) ?_
 refine bp (aa z) ?_
 refine bp (aa es) ?_
 refine bT ?_ ?_<;>intro ae
 ·refine eD fun ax=>?_
  refine ap (GI rfl ad) ?_
  refine aj ?_
  exact⟨[],⟨_,[],.some _ _,fun q=>absurd (MJ q) ch,fun _=>rfl,fun h=>(by cases h),rfl,rfl⟩,_,.nil _⟩
 refine gH (acN) ?_
 refine cm (oe a cO fT (BN (by simpa using ab))) ?_
 rintro _ _ ⟨pe,fh,X,⟨yy,U5⟩,rfl,rfl⟩
 refine bP ?_
 refine cp ?_
 refine bp pe ?_
 refine bp (aa fh) ?_
 refine bT ?_ ?_<;>intro av
 ·refine eD fun aK=>?_
  refine ap (GI rfl ad) ?_
  refine aj ?_
  exact⟨[],⟨_,[],.some _ _,fun q=>absurd (U5 q) ch,fun _=>rfl,fun h=>(by cases h),rfl,rfl⟩,_,.nil _⟩
 obtain⟨q,p,rfl,rfl⟩:=yy av
 obtain⟨BQ,L4,fo,agP⟩:=vB a.l cI.l (BN (by simpa using ab)) (EG (by simpa using ae))
 rw [←L4]
 refine aj ?_
 rw [agN]
 refine ds (α:=Nat×List UInt8) (fun⟨i,b⟩=>i≤cI.l.length∧b.length≤600000000*i∧m5 b) (fun⟨i,b⟩=>[(12,str b),(51,aa (i:Int)),(8,az cI),(11,ag q),(49,az cI),(50,aa (cI.l.length:Int))]) (fun⟨i,b⟩=>[ks aB q p (100000+5000*(i:Int)) (i:Int) (4096*(i:Int)) 0 (BQ i),aB,fV,hq,rT cI]) (fun⟨i,b⟩=>cI.l.length-i) (0,[]) ?_ dq cd ?_
 ·exact⟨Nat.zero_le _,Nat.zero_le _,m5.nil⟩
 rintro⟨i,b⟩ ⟨af,aR,c9⟩
 dsimp only
 have akj:=fH.n
 refine bT ?_ ?_<;>intro aV
 ·obtain⟨x,bl⟩:=fp cI.l i
  refine aj ?_
  refine ap (jV (a2:=e9) (aN:=5) (i:=i) (fun _=>rfl) rfl au (dT fH.o rfl) ad bl) ?_
  refine fe fun bq=>?_
  refine ky ?_
  refine du (e9 x) ?_
  refine cm (aih (q:=q) (p:=p) (N:=100000+5000*(i:Int)) (b:=(i:Int)) (t:=4096*(i:Int)) (n:=0) (by omega) (by omega) (by omega) rfl (by omega) bO aJ x.cT x.c4 x.cs x.bA (fH.l x (List.mem_of_getElem? bl)) x.cQ (fH.w x (List.mem_of_getElem? bl)) (fH.s x (List.mem_of_getElem? bl)) (fo i x bl)) ?_
  rintro _ _ ⟨cb,et,rfl,rfl⟩
  refine bP ?_
  refine eR (aao cb et) ?_
  have ajs:=aar cb et
  refine ap (gw rfl rfl gO) ?_
  refine ap (gw rfl rfl gO) ?_
  refine aj ?_
  refine cm (ae4) ?_
  rintro _ _ ⟨aW,rfl,rfl⟩
  refine cx ?_
  refine ap (Du rfl rfl ad) ?_
  refine aj ?_
  refine c2 ?_ ?_<;>intro bN
  ·obtain⟨dc,r,rfl⟩:∃dc r,aW=dc::r:=by cases aW with|nil=>cases bN|cons c r=>exact⟨c,r,rfl⟩
   refine aj ?_
   refine cm (aaq) ?_
   rintro _ _ ⟨aX,BK,rfl,rfl⟩
   refine bP ?_
   refine eR (ae2 (K:=gR aX) aX (dT BK.o rfl) (by have:=BK.n;omega)) ?_
   have gp:=Jg aX.l
   have ajt:=BK.n
   refine ap (gw rfl rfl gO) ?_
   refine aj ?_
   rw [T1]
   refine cE (i+1,b++(wD cb et++[10])++sT aX.l) ?_
   (try dsimp only);exact⟨by omega,by simp only [List.length_append,List.length_cons,List.length_nil];omega,(c9.gi (m5.line (PE _ _))).gi (QQ BK.k)⟩
  obtain rfl:aW=[]:=by cases aW with|nil=>rfl|cons c r=>cases bN
  refine sa (acM au) ?_
  refine aj ?_
  rw [T1]
  refine cE (i+1,b++(wD cb et++[10])) ?_
  (try dsimp only);exact⟨by omega,by simp only [List.length_append,List.length_cons,List.length_nil];omega,c9.gi (m5.line (PE _ _))⟩
 obtain rfl:i=cI.l.length:=by omega
 refine aj ?_
 refine cm (ae5) ?_
 rintro _ _ ⟨jv,⟨Hx,aio⟩,rfl,rfl⟩
 refine bP ?_
 have Ip:=Ga Hx
 refine ap (gw rfl rfl ah) ?_
 refine ap (gw rfl rfl gO) ?_
 refine aj ?_
 exact⟨[],⟨.nilIface,_,.nil,fun _=>rfl,fun h=>(by cases h),fun _=>⟨b,jv,by rw [List.append_assoc],c9,Hx,by omega,agP jv aio⟩,rfl,rfl⟩,_,.nil _⟩
theorem agQ(n W L:Nat)(aP:6≤n∧n≤64)(w1:13≤W∧W≤1024)(eM:L≤1048576)(l:an (BitVec 32))(aE:dI K l.bu (l.l.flatMap dh)){aB:ar B}(bO:hd aB)(aJ:hK aB):a6 B 25 [.agg #[aa (n:Int),aa (W:Int),aa (L:Int)],az l] [K,aB] (fun v S=>(∃b8:Int,(b8≠0∧(mD l.l=true→¬∀(a:an (BitVec 32)) (b:an Int),b.l.length=n→(jb (pi W L a b) (lZ (b.l.length/2) 0) l.l).2.2=0))∧v= .tuple #[.pointer none,aa b8]∧S=[K,aB])∨(∃(q p:Nat) (a:an (BitVec 32)) (b:an Int),(a.l.length=n*W∧a.Own∧b.l.length=n∧b.Own)∧v= .tuple #[ag q,ak]∧S=[U q (eo p (.pointer none) (.pointer none) an.bt 0#32 0) 116,U p (bH (ry W L a b l.l)) 196,cu (ry W L a b l.l),fM (ry W L a b l.l),K,aB])):=by
 refine bM 45 Tryz.func25 fun ba bf=>?_
 refine fX (aF:=[aa (n:Int),aa (W:Int),aa (L:Int)]) fun ax=>?_
 refine cm (afM n W L (by omega) (by omega) eM) ?_
 rintro _ _ ⟨p,a,b,⟨fT,cO,hj,o3⟩,rfl,rfl⟩
 refine bP ?_
 have wW:=Ob (n:=n) (L:=L) ah ah eM fT cO hj o3
 refine cp ?_
 refine bp (ag p) ?_
 refine bp (ak) ?_
 refine nH ?_
 refine bD ?_ ?_<;>intro ab
 ·first|omega|simp at ab
 refine cm (KY p (pi W L a b) wW (by show 6≤b.l.length;omega) w1.1) ?_
 rintro _ _ ⟨bi,Q,rfl,rfl⟩
 refine bP ?_
 refine cp ?_
 refine bp (ag bi) ?_
 refine bp (ak) ?_
 refine nH ?_
 refine bD ?_ ?_<;>intro ae
 ·first|omega|simp at ae
 refine gH (abX l aE bO aJ) ?_
 refine bD ?_ ?_<;>intro av
 ·exact⟨[K,aB],.inl ⟨_,⟨by decide,fun q=>absurd q (by simp_all)⟩,rfl,rfl⟩,_,cd⟩
 refine gH (stinstall bi p Q (pi W L a b) wW (lZ (b.l.length/2)) (CV (by omega) (by decide) (by show b.l.length/2*2≤b.l.length;omega) w1.1) (by show(0:Int)≤700000000;omega) l aE) ?_
 refine bD ?_ ?_<;>intro aV
 ·exact⟨[K,aB],.inl ⟨_,⟨aV,fun _ q=>aV (q a b hj)⟩,rfl,rfl⟩,_,cd⟩
 refine cm (Ks p (jb (pi W L a b) (lZ (b.l.length/2) 0) l.l).1 false) ?_
 rintro _ _ rfl
 refine cx ?_
 refine fX (aF:=eo p (.pointer none) (.pointer none) an.bt 0#32 0) fun aK=>?_
 exact⟨[U aK (eo p (.pointer none) (.pointer none) an.bt 0#32 0) 116,U p (bH (ry W L a b l.l)) 196,cu (ry W L a b l.l),fM (ry W L a b l.l),K,aB],.inr ⟨aK,p,a,b,⟨fT,cO,hj,o3⟩,rfl,rfl⟩,_,cd⟩
section
variable{B:Nat}
theorem YL{d:br}{k:b7}(h:dB d)(ai:dK d k)(aq:d.ops≤100000000)(l:List (BitVec 32)):eA 5000 d (jb d k l).1:=by
  have a1:=Jm h ai (by omega)
  have kF:=a1.1.ops
  have a3:=GK a1.1.ok a1.2 (by omega) l
  have iQ:=a3.1.ops
  have bI:=FQ a3.1.ok a3.2 (by omega) 1#32
  have E5:=bI.1.ops
  have cv:=FI (k:=(eC (h0 (dF d k).1 (dF d k).2.1 l).1 (h0 (dF d k).1 (dF d k).2.1 l).2.1 1#32).2.1) bI.1.ok (by omega)
  unfold jb
  split
  · split
    · split
      · exact(((a1.1.trans a3.1).trans bI.1).trans cv).mono (by omega)
      · exact((a1.1.trans a3.1).trans bI.1).mono (by omega)
    · exact(a1.1.trans a3.1).mono (by omega)
  · exact a1.1.mono (by omega)
theorem T2{K aB:ar B}(l:an (BitVec 32))(aE:dI K l.bu (l.l.flatMap dh))(bO:hd aB)(aJ:hK aB)(ok:Prop)(ei:ok→mD l.l=true∧∀(a:an (BitVec 32)) (b:an Int),b.l.length=16→(jb (pi 256 1000 a b) (lZ (b.l.length/2) 0) l.l).2.2=0):a6 B 25 [.agg #[aa 16,aa 256,aa 1000],az l] [K,aB] (fun v S=>∃(pe:Value) (b8:Int) (X:ar B),((b8=0→∃q p:Nat,pe=ag q∧X=ks aB q p 100000 0 0 0 (.off l.l))∧(ok→b8=0))∧v= .tuple #[pe,aa b8]∧S=[X,aB]):=by
 refine j9 (agQ 16 256 1000 ah ah ah l aE bO aJ) ?_
 rintro v S (⟨b8,⟨h,D9⟩,rfl,rfl⟩|⟨q,p,a,b,⟨fT,cO,hj,o3⟩,rfl,rfl⟩)
 ·exact⟨_,[K,aB],[],fun D w h=>h,Take.self _,_,b8,K,⟨fun q=>absurd q h,fun q=>absurd (ei q).2 (D9 (ei q).1)⟩,rfl,rfl⟩
 have wW:=Ob (n:=16) (W:=256) (L:=1000) ah ah ah fT cO hj o3
 have gu:dK (pi 256 1000 a b) (lZ (b.l.length/2) 0):=CV (by rw [hj];decide) b2 (by show b.l.length/2*2≤b.l.length;omega) (by show 13≤256;omega)
 have gJ:=YL wW gu (by show(0:Int)≤_;omega) l.l
 have yq:=gJ.ops
 have yq:(jb (pi 256 1000 a b) (lZ (b.l.length/2) 0) l.l).1.ops≤0+5000:=yq
 have ae:=RM gJ.ok false
 refine⟨[ks aB q p 100000 0 0 0 (.off l.l),K,aB],[ks aB q p 100000 0 0 0 (.off l.l),aB],[K],CZ (N:=100000) (b:=0) (t:=0) (n:=0) (R:=[K,aB]) ⟨an.bt,0#32,0,ry 256 1000 a b l.l⟩ ⟨⟨ae.ok,by show(jb (pi 256 1000 a b) (lZ (b.l.length/2) 0) l.l).1.ops≤_;omega,by show 6≤(jb (pi 256 1000 a b) (lZ (b.l.length/2) 0) l.l).1.b.l.length;rw [gJ.b];show 6≤b.l.length;omega,by show 13≤(jb (pi 256 1000 a b) (lZ (b.l.length/2) 0) l.l).1.words;rw [gJ.w];show 13≤256;omega⟩,⟨Int.le_refl _,Int.le_refl _⟩,.inr ⟨_,a,b,rfl,⟨⟨fT,cO⟩,hj,o3⟩,rfl⟩⟩ cd,.cons (.here _ _) (.cons (.there _ (.here _ _)) (.nil _)),_,0,_,⟨fun _=>⟨q,p,rfl,rfl⟩,fun _=>rfl⟩,rfl,rfl⟩
end
instance aju(s:List UInt8):Decidable (kO s):=decidable_of_iff ((1≤s.length∧s.length≤10)∧¬(1<s.length∧s[0]?=some 48)∧(∀b∈s,ri b)∧gS s≤2147483647) ⟨fun⟨a,b,c,d⟩=>⟨a,b,c,d⟩,fun h=>⟨h.len,h.head,h.all,h.dS⟩⟩
def dx(s:List UInt8):Int×Int:=if kO s then(gS s,0)else(0,10)
theorem tH(s:List UInt8):lI s=dx s:=by
  by_cases h:kO s
  · rw [DF h,dx,if_pos h]
  · rw [v9 h,dx,if_neg h]
theorem GB(s:List UInt8):0≤(dx s).1∧(dx s).1≤2147483647:=by
  unfold dx;split
  · rename_i h
    exact⟨(Pw h).1,h.dS⟩
  · exact⟨Int.le_refl _,by decide⟩
def m9(l:List UInt8):List UInt8:=l.takeWhile fun c=>c !=35
theorem GC{l:List UInt8}(h:∀c∈l,c≠35):m9 l=l:=by
  unfold m9
  have:=List.takeWhile_append_of_pos (p:=fun c:UInt8=>c !=35) (l₁:=l) (l₂:=[]) (fun c a7=>by simp [h c a7])
  simpa using this
theorem QR{l:List UInt8}{k:Nat}(ai:l[k]?=some 35)(h:∀c∈l.take k,c≠35):m9 l=l.take k:=by
  have aE:=(List.getElem?_eq_some_iff.1 ai)
  have e:l=l.take k++35::l.drop (k+1):=by
    obtain⟨ab,ae⟩:=aE
    rw [←ae, ←List.drop_eq_getElem_cons ab,List.take_append_drop]
  unfold m9
  conv=>lhs;rw [e]
  rw [List.takeWhile_append_of_pos (fun c a7=>by simp [h c a7])]
  simp
theorem PF(l:List UInt8):(m9 l).length≤l.length:=List.Sublist.length_le (List.takeWhile_sublist _)
def pR:List UInt8→List UInt8→List (List UInt8)
  |dR,[]=>if dR=[]then []else [m9 dR]
  |dR,b::t=>if b=10 then m9 dR::pR [] t else pR (dR++[b]) t
abbrev ie(s:List UInt8):List (List UInt8):=pR [] s
theorem Dn(dR t:List UInt8):pR dR (10::t)=m9 dR::pR [] t:=if_pos rfl
theorem Le{b:UInt8}(h:b≠10)(dR t:List UInt8):pR dR (b::t)=pR (dR++[b]) t:=if_neg h
theorem C2:∀(a dR t:List UInt8),(∀b∈a,b≠10)→pR dR (a++t)=pR (dR++a) t
  |[],dR,t,_=>by simp
  |b::a,dR,t,h=>by
    rw [List.cons_append,Le (h b (by simp)),C2 a _ t (fun c a7=>h c (by simp [a7])),List.append_assoc];rfl
theorem YM{s:List UInt8}{k:Nat}(ai:s[k]?=some 10)(h:∀c∈s.take k,c≠10):ie s=m9 (s.take k)::ie (s.drop (k+1)):=by
  obtain⟨ab,ae⟩:=List.getElem?_eq_some_iff.1 ai
  have e:s=s.take k++10::s.drop (k+1):=by rw [←ae, ←List.drop_eq_getElem_cons ab,List.take_append_drop]
  conv=>lhs;rw [e]
  rw [ie,C2 _ _ _ h,Dn];rfl
theorem YN{s:List UInt8}(aH:s≠[])(h:∀c∈s,c≠10):ie s=[m9 s]:=by
  have:=C2 s [] [] h
  rw [List.append_nil,List.nil_append]at this
  rw [ie,this,pR,if_neg aH]
theorem Oo:ie []=[]:=rfl
theorem Kc:∀s dR:List UInt8,(pR dR s).length≤s.length+(if dR=[]then 0 else 1)∧∀l∈pR dR s,l.length≤dR.length+s.length
 |[],dR=>by
  rw [pR];split
  ·exact⟨Nat.zero_le _,fun l h=>by cases h⟩
  exact⟨by simp,fun l h=>by rw [List.mem_singleton.1 h];have:=PF dR;simpa using this⟩
 |b::t,dR=>by
  by_cases aR:b=10
  ·subst aR
   rw [Dn]
   have ih:=Kc t []
   rw [if_pos rfl]at ih
   refine⟨by rw [List.length_cons,List.length_cons];omega,fun l h=>?_⟩
   rcases List.mem_cons.1 h with rfl|h
   ·have:=PF dR;omega
   have:=ih.2 l h;simp only [List.length_cons,List.length_nil]at this⊢;omega
  rw [Le aR]
  have ih:=Kc t (dR++[b])
  rw [if_neg (by simp)]at ih
  refine⟨by rw [List.length_cons];split<;>omega,fun l h=>?_⟩
  have:=ih.2 l h
  simp only [List.length_append,List.length_cons,List.length_nil]at this⊢;omega
theorem xh(s:List UInt8):(ie s).length≤s.length∧∀l∈ie s,l.length≤s.length:=by
  have:=Kc s []
  rw [if_pos rfl]at this
  exact⟨by have:=this.1;omega,fun l h=>by have:=this.2 l h;simpa using this⟩
theorem Oq:∀{jy:List (List UInt8)} {r:List UInt8},(∀l∈jy,∀b∈l,b≠10∧b≠35)→ie (uk jy++r)=jy++ie r
  |[],r,_=>rfl
  |l::jy,r,h=>by
    have aE:=h l (by simp)
    have e:uk (l::jy)++r=l++10::(uk jy++r):=by unfold uk;simp [List.append_assoc]
    rw [e,ie,C2 _ _ _ (fun b aR=>(aE b aR).1),Dn,List.nil_append,GC (fun b aR=>(aE b aR).2)]
    rw [show pR [] (uk jy++r)=jy++ie r from Oq fun q bF=>h q (by simp [bF])];rfl
theorem Ot{l:List UInt8}(h:yZ l):∀b∈l,b≠10∧b≠35:=by
  rcases h with rfl|⟨a,b,c,rfl⟩
  · exact vW rfl
  · unfold qb
    exact pZ (pZ (pZ (pZ (pZ (pZ (pZ (vW rfl) (uE _)) (vW rfl)) (uE _)) (vW rfl)) (uE _)) (vW rfl)) (uE _)
theorem Wj(now m late dW:Int):pieces (qb now m late dW)=[[111,110],eL now,[109,111,100,101],eL m,[108,97,116,101],eL late,[105,109,97,103,101],eL dW]:=by
  have e:qb now m late dW=[111,110]++32::(eL now++32::([109,111,100,101]++32::(eL m++32::([108,97,116,101]++32::(eL late++32::([105,109,97,103,101]++32::eL dW)))))):=by
    unfold qb;simp [List.append_assoc]
  rw [e,tq (by decide) (by decide),tq (uG _) (uH _),tq (by decide) (by decide),tq (uG _) (uH _),tq (by decide) (by decide),tq (uG _) (uH _),tq (by decide) (by decide),FK (uG _) (uH _)]
def SP(p:List (List UInt8)):Prop:=(p.length=1∧p[0]?=some [111,102,102])∨(p.length=8∧p[0]?=some [111,110]∧p[5]?=some [48])
theorem PG{l:List UInt8}(h:yZ l):SP (pieces l)∧r4 (pieces l)=none:=by
  rcases h with rfl|⟨a,b,c,rfl⟩
  · exact⟨.inl ⟨rfl,rfl⟩,rfl⟩
  · rw [Wj];exact⟨.inr ⟨rfl,rfl,rfl⟩,rfl⟩
theorem Xz{b jv:List UInt8}(aR:m5 b)(aE:yZ jv):∃jy,ie (b++(jv++[10]))=jy++[jv]∧∀l∈jy++[jv],l.length≤100∧∀x,r4 (pieces l)=some x→x.2.1≠4:=by
 obtain⟨jy,rfl,bl⟩:=aR
 refine⟨jy,?_,fun l hm=>?_⟩
 ·rw [Oq fun l h=>(bl l h).ne]
  have:ie (jv++[10])=[jv]:=by
   rw [ie,C2 _ _ _ (fun b aR=>(Ot aE b aR).1),Dn,List.nil_append,GC (fun b aR=>(Ot aE b aR).2)];rfl
  rw [this]
 rcases List.mem_append.1 hm with h|h
 ·exact⟨(bl l h).len,(bl l h).rd⟩
 rw [List.mem_singleton.1 h];exact⟨Ga aE,fun x al=>by rw [(PG aE).2]at al;cases al⟩
def zu:List UInt8:=[48,49,50,51,52,53,54,55,56,57,97,98,99,100,101,102]
def D6(b:UInt8):Option Nat:=(List.range 16).find? fun k=>zu[k]?==some b
def wZ:List UInt8→BitVec 32→Option (BitVec 32)
  |[],x=>some x
  |b::t,x=>match D6 b with
    |some k=>wZ t ((x<<<(4:Int).toNat)|||BitVec.ofInt 32 (k:Int))
    |none=>none
def mW(l:List UInt8):BitVec 32×Int:=if l.length=8 then(match wZ l 0#32 with|some x=>(x,0)|none=>(0#32,11))else(0#32,11)
theorem acO{l:List UInt8}{i k:Nat}{b:UInt8}{x:BitVec 32}(h:l[i]?=some b)(ai:D6 b=some k):wZ (l.drop i) x=wZ (l.drop (i+1)) ((x<<<(4:Int).toNat)|||BitVec.ofInt 32 (k:Int)):=by
  obtain⟨ab,ae⟩:=List.getElem?_eq_some_iff.1 h
  rw [List.drop_eq_getElem_cons ab,ae,wZ,ai]
theorem acP{l:List UInt8}{i:Nat}{b:UInt8}{x:BitVec 32}(h:l[i]?=some b)(ai:D6 b=none):wZ (l.drop i) x=none:=by
  obtain⟨ab,ae⟩:=List.getElem?_eq_some_iff.1 h
  rw [List.drop_eq_getElem_cons ab,ae,wZ,ai]
theorem acQ{b c:UInt8}{k:Nat}(ai:k<16)(a7:zu[k]?=some c)(h:(c.toNat:Int)=b.toNat)(aP:∀j,j<k→zu[j]?≠some b):D6 b=some k:=
  Au ai (by rw [a7,show c=b from UInt8.toNat_inj.1 (by omega)];simp) fun j aI=>by simpa using aP j aI
theorem acR{b:UInt8}(aP:∀j,j<16→zu[j]?≠some b):D6 b=none:=CQ fun j aI=>by simpa using aP j aI
theorem Ou(l:List UInt8)(aE:l.length≤5000000):a6 B 172 [str l] [] (fun v S=>v= .tuple #[aQ (mW l).1.toNat,aa (mW l).2]∧S=[]):=by
 refine bM 32 Tryz.func172 fun ba bf=>?_
 refine Aq ?_
 refine bT ?_ ?_<;>intro ab
 ·refine mb ?_
  refine aj ?_
  exact⟨[],⟨by rw [mW,if_neg ah];rfl,rfl⟩,_,.nil _⟩
 refine CK ?_
 refine aj ?_
 refine ds (α:=Nat×BitVec 32) (fun⟨i,x⟩=>i≤l.length∧wZ l 0#32=wZ (l.drop i) x) (fun⟨i,x⟩=>[(4,aQ x.toNat),(12,aa (i:Int)),(0,str l),(11,aa ((l).length:Int))]) (fun⟨i,x⟩=>[]) (fun⟨i,x⟩=>l.length-i) (0,0#32) ?_ dq aA ?_
 ·exact⟨Nat.zero_le _,rfl⟩
 rintro⟨i,x⟩ ⟨af,al⟩
 dsimp only
 refine bT ?_ ?_<;>intro ae
 ·obtain⟨b,aR⟩:=fp l i
  refine aj ?_
  refine ds (α:=Nat) (fun k=>k≤16∧∀j,j<k→zu[j]?≠some b) (fun k=>[(15,aa (k:Int)),(0,str l),(4,aQ x.toNat),(5,aa (i:Int)),(11,aa ((l).length:Int)),(12,aa (i:Int))]) (fun k=>[]) (fun k=>16-k) 0 ?_ dq aA ?_
  ·exact⟨Nat.zero_le _,fun j aI=>by omega⟩
  rintro k ⟨ai,cN⟩
  refine bT ?_ ?_<;>intro av
  ·obtain⟨c,a7⟩:∃c,zu[k]?=some c:=⟨_,List.getElem?_eq_getElem (by show k<16;omega)⟩
   refine aj ?_
   refine cZ _ ad (Take.self _) ?_
   refine aY [0] ?_
   refine bj 1 rfl (jq (i:=k) rfl rfl ad rfl a7) ?_
   refine aY [2,3] ?_
   refine bj 4 rfl (jq (i:=i) rfl rfl ad rfl aR) ?_
   refine df [5,99] ?_
   refine bD ?_ ?_<;>intro aV
   ·refine ap (Ap rfl rfl (dM _) ah ah) ?_
    refine aj ?_
    refine ap (ja rfl ad (xx _)) ?_
    refine ap (g6 rfl rfl (dM _) (dM _) rfl) ?_
    refine aj ?_
    refine cE (i+1,(x<<<(4:Int).toNat)|||BitVec.ofInt 32 (k:Int)) ?_
    (try dsimp only);exact⟨by omega,al.trans (acO aR (acQ ah a7 aV cN))⟩
   exact cE (k+1) ⟨by omega,fun j aI=>by rcases Nat.lt_succ_iff_lt_or_eq.1 aI with q|rfl;exact cN j q;rw [a7];intro q;exact aV (by rw [Option.some.inj q])⟩
  refine mb ?_
  refine aj ?_
  exact⟨[],⟨by rw [mW,if_pos ah,al,acP aR (acR fun j aI=>cN j ah)];rfl,rfl⟩,_,.nil _⟩
 refine mb ?_
 refine aj ?_
 exact⟨[],⟨by rw [mW,if_pos ah,al,List.drop_eq_nil_of_le ah];rfl,rfl⟩,_,.nil _⟩
theorem ae6(x:List UInt8)(c:Int)(w:World):(callFunc 272 [str x,.int .u8 c].toArray).run Tryz.prog w= .ok (.value (aa (Lib.indexByte x c.toNat.toUInt8))) w:=by
  rw [run_callFunc_extern Tryz.func272 (by kernel_rfl) (by kernel_rfl) (by kernel_rfl) (e:=Extern.BytealgIndexByte.indexByte) (by kernel_rfl)]
  show((Extern.BytealgIndexByte.indexByte #[.string ⟨x.toArray⟩,.int .u8 c]).run _ w).andThen _=_
  rw [Lib.run_indexByteString];simp [Result.andThen]
theorem agR(x:List UInt8)(c:Int):a6 B 229 [str x,.int .u8 c] [] (fun v S=>v=aa (Lib.indexByte x c.toNat.toUInt8)∧S=[]):=by
 refine bM 8 Tryz.func229 fun ba bf=>?_
 refine ap (adx (args:=[str x,.int .u8 c]) rfl (ae6 x c)) ?_
 exact oi
theorem LR(x:List UInt8)(c:Int):a6 B 174 [str x,.int .u8 c] [] (fun v S=>v=aa (Lib.indexByte x c.toNat.toUInt8)∧S=[]):=by
 refine bM 8 Tryz.func174 fun ba bf=>?_
 refine gl (agR x c) ?_
 exact bJ
def gQ(x:List UInt8)(c:UInt8):List UInt8×List UInt8×Bool:=if Lib.indexByte x c<0 then([],[],false)else(x.take (Lib.indexByte x c).toNat,x.drop ((Lib.indexByte x c).toNat+1),true)
theorem Ov(x:List UInt8)(c:UInt8):(gQ x c).1.length≤x.length∧(gQ x c).2.1.length≤x.length:=by
  unfold gQ;split
  · exact⟨Nat.zero_le _,Nat.zero_le _⟩
  · exact⟨by rw [List.length_take];omega,by rw [List.length_drop];omega⟩
theorem aas{x:List UInt8}{c:UInt8}(h:Lib.indexByte x c<0):gQ x c=([],[],false):=if_pos h
theorem aat{x:List UInt8}{c:UInt8}{j:Nat}(h:Lib.indexByte x c=(j:Int)):gQ x c=(x.take j,x.drop (j+1),true):=by unfold gQ;rw [h,if_neg (by omega)];rfl
theorem RT(x:List UInt8)(al:x.length≤5000000)(c:Int):a6 B 228 [str x,.int .u8 c] [] (fun v S=>v= .tuple #[str (gQ x c.toNat.toUInt8).1,str (gQ x c.toNat.toUInt8).2.1,.bool (gQ x c.toNat.toUInt8).2.2]∧S=[]):=by
 refine bM 20 Tryz.func228 fun ba bf=>?_
 refine gl (LR x c) ?_
 refine c2 ?_ ?_<;>intro ab
 ·refine rm ?_
  refine dA (.nil _) (tu rfl rfl rfl rfl) ?_
  exact⟨[],⟨by rw [aas ch],rfl⟩,_,.nil _⟩
 obtain⟨j,aI⟩:=Int.eq_ofNat_of_zero_le ab
 have wM:j<x.length:=by have:=(Lib.indexByte_some aI).1;exact(List.getElem?_eq_some_iff.1 this).1
 rw [aI]
 refine aj ?_
 refine cZ _ ad (Take.self _) ?_
 refine aY [0,1] ?_
 refine bj 2 rfl (np (wK:=none) (ec:=0) (af:=j) (p:=x.take j) rfl ad (by exact rfl) ⟨_,rfl⟩ (Nat.zero_le _) ah (by simp)) ?_
 refine aY [3,4,5] ?_
 refine bj 6 rfl (np (wL:=none) (ec:=j+1) (af:=x.length) (p:=x.drop (j+1)) rfl ad ⟨_,rfl⟩ (by exact rfl) ah (Nat.le_refl _) (List.take_of_length_le (by simp))) ?_
 refine aY [7,8,9,99] ?_
 refine gI ?_
 refine dA (.nil _) (tu rfl rfl rfl rfl) ?_
 exact⟨[],⟨by rw [aat aI],rfl⟩,_,.nil _⟩
def n6(x:List UInt8):dt×Bool:=
  if(gQ x 58).2.2&&(gQ (gQ x 58).2.1 45).2.2 then(((dx (gQ x 58).1).1,(dx (gQ (gQ x 58).2.1 45).1).1,(dx (gQ (gQ x 58).2.1 45).2.1).1),((dx (gQ x 58).1).2==0)&&((dx (gQ (gQ x 58).2.1 45).1).2==0)&&((dx (gQ (gQ x 58).2.1 45).2.1).2==0))else((0,0,0),false)
theorem agS(x:List UInt8)(al:x.length≤5000000):a6 B 173 [str x] [] (fun v S=>v= .tuple #[.agg (gq (n6 x).1).toArray,.bool (n6 x).2]∧S=[]):=by
 refine dN 64 Tryz.func173 fun ba bf=>?_
 have oQ:=Ov x 58
 have hJ:=Ov (gQ x 58).2.1 45
 refine aj ?_
 refine de fun ax=>?_
 refine gj (RT x (by omega) 58) ?_
 refine cp ?_
 refine bp (str (gQ x 58).1) ?_
 refine bp (str (gQ x 58).2.1) ?_
 refine bp (.bool (gQ x 58).2.2) ?_
 refine aj ?_
 refine gj (RT (gQ x 58).2.1 (by omega) 45) ?_
 refine cp ?_
 refine bp (str (gQ (gQ x 58).2.1 45).1) ?_
 refine bp (str (gQ (gQ x 58).2.1 45).2.1) ?_
 refine bp (.bool (gQ (gQ x 58).2.1 45).2.2) ?_
 refine aj ?_
 refine cc ?_ ?_<;>intro ab
 ·refine fS ?_
  first|exact⟨[],⟨by unfold n6;simp_all,rfl⟩,_,.nil _⟩
 refine bD ?_ ?_<;>intro ae
 ·refine fS ?_
  first|exact⟨[],⟨by unfold n6;simp_all,rfl⟩,_,.nil _⟩
 refine gj (xN (gQ x 58).1) ?_
 rw [tH]
 refine cp ?_
 refine bp (aa (dx (gQ x 58).1).1) ?_
 refine bp (aa (dx (gQ x 58).1).2) ?_
 refine aj ?_
 refine gj (xN (gQ (gQ x 58).2.1 45).1) ?_
 rw [tH]
 refine cp ?_
 refine bp (aa (dx (gQ (gQ x 58).2.1 45).1).1) ?_
 refine bp (aa (dx (gQ (gQ x 58).2.1 45).1).2) ?_
 refine aj ?_
 refine gj (xN (gQ (gQ x 58).2.1 45).2.1) ?_
 rw [tH]
 refine cp ?_
 refine bp (aa (dx (gQ (gQ x 58).2.1 45).2.1).1) ?_
 refine bp (aa (dx (gQ (gQ x 58).2.1 45).2.1).2) ?_
 refine aj ?_
 refine cc ?_ ?_<;>intro av
 ·refine cc ?_ ?_<;>intro aV
  ·refine fS ?_
   first|exact⟨[],⟨by unfold n6;simp_all,rfl⟩,_,.nil _⟩
  refine fS ?_
  first|exact⟨[],⟨by unfold n6;simp_all,rfl⟩,_,.nil _⟩
 refine fS ?_
 first|exact⟨[],⟨by unfold n6;simp_all,rfl⟩,_,.nil _⟩
structure kl where
  cT:Int
  c4:Int
  cs:Int
  th:List dt
  ws:List (BitVec 32)
abbrev dQ.C(g:dQ):kl:=⟨g.cT,g.c4,g.cs,g.bA.l,g.cQ.l⟩
abbrev kT(x:an dt):ar B:=eO x 135 3 gq
def lb(x:kl)(c:Int)(q:List UInt8):kl×Bool:=
  if c=97 then({x with c4:=(dx q).1},(dx q).2==0)else if c=110 then({x with cs:=(dx q).1},(dx q).2==0)
  else if c=104 then({x with cs:=((mW q).1.toNat:Int)},(mW q).2==0)else if c=115 then({x with th:=x.th++[(n6 q).1]},(n6 q).2)
  else({x with ws:=x.ws++[(mW q).1]},(mW q).2==0)
theorem QS{x:kl}{c:Int}{q:List UInt8}(h:c=97):lb x c q=({x with c4:=(dx q).1},(dx q).2==0):=if_pos h
theorem PH{x:kl}{c:Int}{q:List UInt8}(h:c=110):lb x c q=({x with cs:=(dx q).1},(dx q).2==0):=by unfold lb;rw [if_neg (by omega),if_pos h]
theorem PI{x:kl}{c:Int}{q:List UInt8}(h:c=104):lb x c q=({x with cs:=((mW q).1.toNat:Int)},(mW q).2==0):=by unfold lb;rw [if_neg (by omega),if_neg (by omega),if_pos h]
theorem PJ{x:kl}{c:Int}{q:List UInt8}(h:c=115):lb x c q=({x with th:=x.th++[(n6 q).1]},(n6 q).2):=by unfold lb;rw [if_neg (by omega),if_neg (by omega),if_neg (by omega),if_pos h]
theorem RU{x:kl}{c:Int}{q:List UInt8}(h:c≠97∧c≠110∧c≠104∧c≠115):lb x c q=({x with ws:=x.ws++[(mW q).1]},(mW q).2==0):=by unfold lb;rw [if_neg h.1,if_neg h.2.1,if_neg h.2.2.1,if_neg h.2.2.2]
theorem aau{x:kl}{c:Int}{q:List UInt8}(h:x.c4≤2147483647):(lb x c q).1.c4≤2147483647∧(lb x c q).1.th.length≤x.th.length+1∧(lb x c q).1.ws.length≤x.ws.length+1∧(lb x c q).1.cT=x.cT:=by
 have:=(GB q).2
 unfold lb
 repeat' split
 all_goals(refine⟨by first|assumption,?_,?_,rfl⟩<;>simp)
theorem Lf(b:Nat)(g:dQ)(kF:g.bA.Own)(iQ:g.cQ.Own)(et:g.bA.l.length≤5000000)(hV:g.cQ.l.length≤5000000)(c:Int)(q:List UInt8)(bF:q.length≤5000000):a6 B 112 [ag b,.int .u8 c,str q] [U b (e9 g) 63,kT g.bA,cR g.cQ] (fun v S=>∃a3:dQ,(a3.C=(lb g.C c q).1∧a3.bA.Own∧a3.cQ.Own)∧v= .bool (lb g.C c q).2∧S=[U b (e9 a3) 63,kT a3.bA,cR a3.cQ]):=by
 refine bM 85 Tryz.func112 fun ba bf=>?_
 refine bD ?_ ?_<;>intro ab
 ·refine bD ?_ ?_<;>intro ae
  ·refine gj (xN q) ?_
   rw [tH]
   refine cp ?_
   refine bp (aa (dx q).1) ?_
   refine bp (aa (dx q).2) ?_
   refine bT ?_ ?_<;>intro av
   ·exact aO ⟨⟨g.cT,(dx q).1,g.cs,g.bA,g.cQ⟩,⟨by rw [QS ah],kF,iQ⟩,by rw [QS ah],rfl⟩
   omega
  omega
 refine bD ?_ ?_<;>intro aV
 ·refine gj (xN q) ?_
  rw [tH]
  refine cp ?_
  refine bp (aa (dx q).1) ?_
  refine bp (aa (dx q).2) ?_
  refine bT ?_ ?_<;>intro bN
  ·omega
  exact aO ⟨⟨g.cT,g.c4,(dx q).1,g.bA,g.cQ⟩,⟨by rw [PH ah],kF,iQ⟩,by rw [PH ah],rfl⟩
 refine bD ?_ ?_<;>intro c0
 ·refine eR (Ou q (by omega)) ?_
  refine cp ?_
  refine bp (aQ (mW q).1.toNat) ?_
  refine bp (aa (mW q).2) ?_
  refine aj ?_
  refine ap (ja rfl ad (lP ah ah)) ?_
  refine aj ?_
  exact aO ⟨⟨g.cT,g.c4,((mW q).1.toNat:Int),g.bA,g.cQ⟩,⟨by rw [PI ah],kF,iQ⟩,by rw [PI ah],rfl⟩
 refine bD ?_ ?_<;>intro fO
 ·refine eR (agS q (by omega)) ?_
  refine cp ?_
  refine bp (.agg (gq (n6 q).1).toArray) ?_
  refine bp (.bool (n6 q).2) ?_
  refine de fun ax=>?_
  refine cZ [U b (e9 g) 63,U ax (gq (n6 q).1) 135] ad aA ?_
  refine aY [0,1,2,3,4] ?_
  refine bj 5 rfl (ed (bK:=gq (n6 q).1) rfl au ad rfl (by rfl)) ?_
  refine aY [106] ?_
  refine qV (aF:=(([(n6 q).1]:List _).flatMap gq)) rfl .no rfl ad b2 b2 (by rfl) (by rfl) rfl rfl (fun Vm=>?_)
  refine aY [107] ?_
  refine p1 (a2:=gq) (c:=g.bA) (b:=an.lit Vm [(n6 q).1] (by simp)) rfl .no rfl rfl ad au dy (show Out (U Vm (([(n6 q).1]:List _).flatMap gq) 135) _ _ from au) ir (fun _=>rfl) (fun _=>rfl) (by show g.bA.l.length+1≤_;omega) (by show(g.bA.l.length+1)*_≤_;omega) rfl (fun m iv lc=>?_)
  refine df [8,9,110,99] ?_
  exact aO ⟨⟨g.cT,g.c4,g.cs,m,g.cQ⟩,⟨by rw [PJ ah];show kl.mk _ _ _ m.l _=_;rw [iv];rfl,lc,iQ⟩,by rw [PJ ah],rfl⟩
 refine eR (Ou q (by omega)) ?_
 refine cp ?_
 refine bp (aQ (mW q).1.toNat) ?_
 refine bp (aa (mW q).2) ?_
 refine aj ?_
 refine im (aF:=(([(mW q).1]:List _).flatMap dh)) .no rfl ad b2 b2 (by rfl) (by rfl) rfl rfl (fun Vn=>?_)
 refine j7 (a2:=dh) (c:=g.cQ) (b:=an.lit Vn [(mW q).1] (by simp)) .no rfl rfl ad au (show Out (U Vn (([(mW q).1]:List _).flatMap dh) 42) _ _ from au) ir (fun _=>rfl) (fun _=>rfl) (by show g.cQ.l.length+1≤_;omega) (by show(g.cQ.l.length+1)*_≤_;omega) rfl (fun m iv lc=>?_)
 refine aj ?_
 exact aO ⟨⟨g.cT,g.c4,g.cs,g.bA,m⟩,⟨by rw [RU ah];show kl.mk _ _ _ _ m.l=_;rw [iv];rfl,kF,lc⟩,by rw [RU ah],rfl⟩
def Vo:List (List UInt8×List UInt8):=[([116,105,99,107],[110]),([111,102,102,101,114],[97,110,115]),([114,101,113,117,101,115,116],[97]),([115,101,110,100],[97,110]),([116,97,107,101],[97]),([115,101,116],[104]),([99,108,101,97,114],[104]),([116,101,115,116],[97,104]),([98,101,103,105,110],[]),([112,117,116],[119]),([99,111,109,109,105,116],[]),([99,111,110,102,105,114,109],[]),([99,117,116],[97,104]),([111,102,102],[]),([98,111,111,116],[])]
def jU(k:Int):List UInt8×List UInt8:=if 1≤k∧k≤15 then Vo.getD (k-1).toNat ([],[])else([],[])
theorem aav{k:Int}(h:¬(1≤k∧k≤15)):jU k=([],[]):=if_neg h
theorem XA(k:Int):(jU k).2.length≤3:=by
  unfold jU;split
  · rename_i h
    have:∀n:Nat,n<15→(Vo.getD n ([],[])).2.length≤3:=by decide
    exact this _ (by omega)
  · exact Nat.zero_le _
def g5(w:List UInt8):Int:=match(List.range 15).find? fun j:Nat=>(jU ((j:Int)+1)).1==w with
  |some j=>(j:Int)+1
  |none=>0
theorem aaw{w:List UInt8}{j:Nat}(aI:j<15)(h:(jU ((j:Int)+1)).1=w)(aP:∀i:Nat,i<j→(jU ((i:Int)+1)).1≠w):g5 w=(j:Int)+1:=by
  unfold g5;rw [Au aI (by rw [h];simp) (fun i af=>by simpa using aP i af)]
theorem aax{w:List UInt8}(aP:∀i:Nat,i<15→(jU ((i:Int)+1)).1≠w):g5 w=0:=by
  unfold g5;rw [CQ (fun i af=>by simpa using aP i af)]
theorem RV(k:Int):a6 B 111 [aa k] [] (fun v S=>v= .tuple #[.agg #[str (jU k).1,str (jU k).2],.bool (decide (1≤k∧k≤15))]∧S=[]):=by
 refine bM 51 Tryz.func111 fun ba bf=>?_
 refine de fun ax=>?_
 refine bD ?_ ?_<;>intro ab
 ·refine fS ?_
  have gu:k=1:=by omega
  subst gu
  exact bJ
 refine bD ?_ ?_<;>intro ae
 ·refine fS ?_
  have gu:k=2:=by omega
  subst gu
  exact bJ
 refine bD ?_ ?_<;>intro av
 ·refine fS ?_
  have gu:k=3:=by omega
  subst gu
  exact bJ
 refine bD ?_ ?_<;>intro aV
 ·refine fS ?_
  have gu:k=4:=by omega
  subst gu
  exact bJ
 refine bD ?_ ?_<;>intro bN
 ·refine fS ?_
  have gu:k=5:=by omega
  subst gu
  exact bJ
 refine bD ?_ ?_<;>intro c0
 ·refine fS ?_
  have gu:k=6:=by omega
  subst gu
  exact bJ
 refine bD ?_ ?_<;>intro fO
 ·refine fS ?_
  have gu:k=7:=by omega
  subst gu
  exact bJ
 refine bD ?_ ?_<;>intro gk
 ·refine fS ?_
  have gu:k=8:=by omega
  subst gu
  exact bJ
 refine bD ?_ ?_<;>intro hW
 ·refine fS ?_
  have gu:k=9:=by omega
  subst gu
  exact bJ
 refine bD ?_ ?_<;>intro na
 ·refine fS ?_
  have gu:k=10:=by omega
  subst gu
  exact bJ
 refine bD ?_ ?_<;>intro zM
 ·refine fS ?_
  have gu:k=11:=by omega
  subst gu
  exact bJ
 refine bD ?_ ?_<;>intro H2
 ·refine fS ?_
  have gu:k=12:=by omega
  subst gu
  exact bJ
 refine bD ?_ ?_<;>intro Er
 ·refine fS ?_
  have gu:k=13:=by omega
  subst gu
  exact bJ
 refine bD ?_ ?_<;>intro Bx
 ·refine fS ?_
  have gu:k=14:=by omega
  subst gu
  exact bJ
 refine bD ?_ ?_<;>intro Io
 ·refine fS ?_
  have gu:k=15:=by omega
  subst gu
  exact bJ
 refine fS ?_
 have cN:¬(1≤k∧k≤15):=by omega
 exact aO ⟨by rw [aav cN,decide_eq_false cN];rfl,rfl⟩
theorem ae7(w:List UInt8):a6 B 110 [str w] [] (fun v S=>v=aa (g5 w)∧S=[]):=by
 refine bM 20 Tryz.func110 fun ba bf=>?_
 refine ds (α:=Nat) (fun j=>j≤15∧∀i:Nat,i<j→(jU ((i:Int)+1)).1≠w) (fun j=>[(3,aa ((j:Int)+1)),(0,str w)]) (fun j=>[]) (fun j=>15-j) 0 ?_ dq aA ?_
 ·exact⟨by decide,fun i af=>by omega⟩
 rintro j ⟨UM,lz⟩
 refine bT ?_ ?_<;>intro ab
 ·refine gj (RV ((j:Int)+1)) ?_
  refine cp ?_
  refine bp (.agg #[str (jU ((j:Int)+1)).1,str (jU ((j:Int)+1)).2]) ?_
  refine bp (.bool (decide (1≤(j:Int)+1∧(j:Int)+1≤15))) ?_
  refine fe fun ax=>?_
  refine ky ?_
  refine ap (ft (v:=str (jU ((j:Int)+1)).1) rfl au ad (by rfl)) ?_
  refine aj ?_
  refine ap (k6 (a:=(jU ((j:Int)+1)).1) (b:=w) rfl rfl rfl) ?_
  refine bT ?_ ?_<;>intro ae
  ·exact aO ⟨by rw [aaw ah ae lz],rfl⟩
  exact cE (j+1) ⟨by omega,fun i af=>by rcases Nat.lt_succ_iff_lt_or_eq.1 af with q|rfl;exact lz i q;exact ae⟩
 exact aO ⟨by rw [aax fun i af=>lz i ah],rfl⟩
theorem T3(a b:List UInt8)(c:Int):a6 B 113 [.agg #[str a,str b],.int .u8 c] [] (fun v S=>v= .bool (decide (0≤Lib.indexByte b c.toNat.toUInt8))∧S=[]):=by
 refine bM 10 Tryz.func113 fun ba bf=>?_
 refine eD (aF:=[str a,str b]) fun ax=>?_
 refine gN ?_
 refine dn (str b) ?_
 refine aj ?_
 refine gl (LR b c) ?_
 exact bJ
def m3(h8:List UInt8):Nat→List (List UInt8)→kl→Option kl
  |_,[],x=>some x
  |j,q::t,x=>match h8[min (j+1) h8.length-1]? with
    |none=>none
    |some c=>if h8.length<j+1∧c≠115∧c≠119 then none else if(lb x (c.toNat:Int) q).2=true then m3 h8 (j+1) t (lb x (c.toNat:Int) q).1 else none
def j1:List (List UInt8)→Option kl
  |[]=>none
  |w::t=>if g5 w=0 then none else match m3 (jU (g5 w)).2 0 t ⟨g5 w,0,0,[],[]⟩with
    |some x=>if(t.length:Int)<leastI (jU (g5 w)).2 then none else some x
    |none=>none
 where leastI (h8:List UInt8):Int:=if 0≤Lib.indexByte h8 115∨0≤Lib.indexByte h8 119 then(h8.length:Int)-1 else h8.length
theorem aay{h8:List UInt8}{j:Nat}{q:List UInt8}{t:List (List UInt8)}{x:kl}(h:h8.length=0):m3 h8 j (q::t) x=none:=by
  rw [m3,List.getElem?_eq_none (by omega)]
theorem aaz{h8:List UInt8}{j er:Nat}{q:List UInt8}{t:List (List UInt8)}{x:kl}{qS:UInt8}(ai:min (j+1) h8.length=er+1)(a7:h8[er]?=some qS)(ab:h8.length<j+1)(ae:¬(qS.toNat:Int)=115)(av:¬(qS.toNat:Int)=119):m3 h8 j (q::t) x=none:=by
  rw [m3,ai,Nat.add_sub_cancel,a7]
  show(if _ then _ else _)=_
  rw [if_pos ⟨ab,fun e=>ae (by rw [e];rfl),fun e=>av (by rw [e];rfl)⟩]
theorem Az{h8:List UInt8}{j er:Nat}{q:List UInt8}{t:List (List UInt8)}{x:kl}{qS:UInt8}(ai:min (j+1) h8.length=er+1)(a7:h8[er]?=some qS)(h:¬h8.length<j+1∨(qS.toNat:Int)=115∨(qS.toNat:Int)=119):m3 h8 j (q::t) x=if(lb x (qS.toNat:Int) q).2=true then m3 h8 (j+1) t (lb x (qS.toNat:Int) q).1 else none:=by
  rw [m3,ai,Nat.add_sub_cancel,a7]
  show(if _ then _ else _)=_
  rw [if_neg]
  rintro⟨a1,a3,bI⟩
  rcases h with h|h|h
  · exact h a1
  · exact a3 (UInt8.toNat_inj.1 (show qS.toNat=115 by omega))
  · exact bI (UInt8.toNat_inj.1 (show qS.toNat=119 by omega))
theorem ae8{P:List (List UInt8)}{q:List UInt8}(h:P[0]?=some q)(ai:g5 q=0):j1 P=none:=by
  cases P with
  |nil=>cases h
  |cons w t=>cases h;rw [j1,if_pos ai]
theorem ae9{w:List UInt8}{t:List (List UInt8)}(ai:g5 w≠0)(h:m3 (jU (g5 w)).2 0 t ⟨g5 w,0,0,[],[]⟩=none):j1 (w::t)=none:=by
  rw [j1,if_neg ai,h]
theorem afa{w:List UInt8}{t:List (List UInt8)}{x:kl}(ai:g5 w≠0)(h:m3 (jU (g5 w)).2 0 t ⟨g5 w,0,0,[],[]⟩=some x):j1 (w::t)=if(t.length:Int)<j1.leastI (jU (g5 w)).2 then none else some x:=by
  rw [j1,if_neg ai,h]
theorem xz:∀(s dR:List UInt8),∀q∈jD dR s,q.length≤dR.length+s.length
  |[],dR,q,h=>by
    rw [jD]at h;split at h
    · cases h
    · rw [List.mem_singleton.1 h];omega
  |b::s,dR,q,h=>by
    by_cases aR:b=32
    · subst aR
      rw [wC]at h
      split at h
      · have:=xz s [] q h;simp only [List.length_nil,List.length_cons]at*;omega
      · rcases List.mem_cons.1 h with rfl|h
        · omega
        · have:=xz s [] q h;simp only [List.length_nil,List.length_cons]at*;omega
    · rw [Bg aR]at h
      have:=xz s _ q h
      simp only [List.length_append,List.length_cons,List.length_nil]at*;omega
structure pa(P:List (List UInt8))(i:Nat)(g:dQ)(h:List UInt8×List UInt8):Prop where
  kF:g.bA.Own
  iQ:g.cQ.Own
  c4:g.c4≤2147483647
  aE:h.2.length≤3
  et:g.bA.l.length≤i
  hV:g.cQ.l.length≤i
  z:i=0→g.C=⟨0,0,0,[],[]⟩
  k:∀w t,P=w::t→0<i→g5 w≠0∧g.cT=g5 w∧h=jU (g5 w)∧m3 h.2 0 t ⟨g5 w,0,0,[],[]⟩=m3 h.2 (i-1) (t.drop (i-1)) g.C
abbrev z1(i:Nat):Int:=((i-1:Nat):Int)
theorem pa.start{P:List (List UInt8)}{g:dQ}{h:List UInt8×List UInt8}{q:List UInt8}(J:pa P 0 g h)(bF:P[0]?=some q)(ai:g5 q≠0):pa P 1 ⟨g5 q,g.c4,g.cs,g.bA,g.cQ⟩ (jU (g5 q)):=by
 have aS:=J.z rfl
 refine⟨J.kF,J.iQ,J.c4,XA _,by have:=J.et;show g.bA.l.length≤1;omega,by have:=J.hV;show g.cQ.l.length≤1;omega,fun e=>(by cases e),fun w t e _=>?_⟩
 subst e;cases bF
 have cb:(⟨g5 q,g.c4,g.cs,g.bA.l,g.cQ.l⟩:kl)=⟨g5 q,0,0,[],[]⟩:=by
  injection aS with a b c d e
  rw [b,c,d,e]
 exact⟨ai,rfl,rfl,by rw [show(dQ.C _)=(⟨g5 q,g.c4,g.cs,g.bA.l,g.cQ.l⟩:kl)from rfl,cb];rfl⟩
theorem pa.at{P:List (List UInt8)}{j:Nat}{g:dQ}{h:List UInt8×List UInt8}{q:List UInt8}(J:pa P (j+1) g h)(bF:P[j+1]?=some q):∃w t,P=w::t∧g5 w≠0∧g.cT=g5 w∧h=jU (g5 w)∧m3 h.2 0 t ⟨g5 w,0,0,[],[]⟩=m3 h.2 j (q::t.drop (j+1)) g.C:=by
 cases P with
 |nil=>cases bF
 |cons w t=>
  obtain⟨ab,ae,av,aV⟩:=J.k w t rfl ah
  refine⟨w,t,rfl,ab,ae,av,aV.trans ?_⟩
  rw [Nat.add_sub_cancel]
  have bF:t[j]?=some q:=bF
  obtain⟨a1,a3⟩:=List.getElem?_eq_some_iff.1 bF
  rw [List.drop_eq_getElem_cons a1,a3]
theorem pa.none{P:List (List UInt8)}{j:Nat}{g:dQ}{h:List UInt8×List UInt8}{q:List UInt8}(J:pa P (j+1) g h)(bF:P[j+1]?=some q)(aP:∀t,m3 h.2 j (q::t) g.C=Option.none):j1 P=Option.none:=by
  obtain⟨w,t,rfl,ab,ae,av,aV⟩:=J.at bF
  subst av
  exact ae9 ab (aV.trans (aP _))
theorem pa.next{P:List (List UInt8)}{j:Nat}{g a3:dQ}{h:List UInt8×List UInt8}{q:List UInt8}{c:Int}(J:pa P (j+1) g h)(bF:P[j+1]?=some q)(aP:∀t,m3 h.2 j (q::t) g.C=m3 h.2 (j+1) t a3.C)(bl:a3.C=(lb g.C c q).1)(kF:a3.bA.Own)(iQ:a3.cQ.Own):pa P (j+2) a3 h:=by
 obtain⟨w,t,rfl,ab,ae,av,aV⟩:=J.at bF
 have aC:=aau (x:=g.C) (c:=c) (q:=q) J.c4
 have cb:a3.c4=(lb g.C c q).1.c4:=congrArg kl.c4 bl
 have cq:a3.bA.l=(lb g.C c q).1.th:=congrArg kl.th bl
 have fP:a3.cQ.l=(lb g.C c q).1.ws:=congrArg kl.ws bl
 have sx:a3.cT=(lb g.C c q).1.cT:=congrArg kl.cT bl
 have et:=J.et;have hV:=J.hV
 refine⟨kF,iQ,by rw [cb];exact aC.1,J.aE,by rw [cq];have:=aC.2.1;have:g.C.th.length=g.bA.l.length:=rfl;omega,by rw [fP];have:=aC.2.2.1;have:g.C.ws.length=g.cQ.l.length:=rfl;omega,fun e=>(by cases e),fun j2 t2 e _=>?_⟩
 cases e
 exact⟨ab,by rw [sx,aC.2.2.2];exact ae,av,aV.trans (aP _)⟩
theorem pa.end_{P:List (List UInt8)}{g:dQ}{h:List UInt8×List UInt8}(J:pa P P.length g h):(P=[]∧g.cT=0)∨(g.cT≠0∧0<P.length∧j1 P=if z1 P.length<j1.leastI h.2 then Option.none else some g.C):=by
 cases P with
 |nil=>exact .inl ⟨rfl,congrArg kl.cT (J.z rfl)⟩
 |cons w t=>
  obtain⟨ab,ae,av,aV⟩:=J.k w t rfl (by simp)
  refine .inr ⟨by rw [ae];exact ab,by simp,?_⟩
  subst av
  rw [List.length_cons,Nat.add_sub_cancel,List.drop_eq_nil_of_le (Nat.le_refl _),m3]at aV
  rw [afa ab aV]
  show _=if(((t.length+1-1:Nat)):Int)<_ then _ else _
  rw [Nat.add_sub_cancel]
theorem pa.fail{P:List (List UInt8)}{g:dQ}{h:List UInt8×List UInt8}(J:pa P P.length g h)(q:g.cT=0∨z1 P.length<j1.leastI h.2):j1 P=Option.none:=by
  rcases J.end_ with⟨e,_⟩|⟨e,_,cq⟩
  · rw [e];rfl
  · rw [cq,if_pos (q.resolve_left e)]
theorem pa.LS{P:List (List UInt8)}{g:dQ}{h:List UInt8×List UInt8}(J:pa P P.length g h)(ab:¬g.cT=0)(ae:¬z1 P.length<j1.leastI h.2):j1 P=some g.C:=by
  rcases J.end_ with⟨_,e⟩|⟨_,_,cq⟩
  · exact absurd e ab
  · rw [cq,if_neg ae]
theorem afb(s:List UInt8)(aH:s.length≤100000):a6 B 59 [str s] [] (fun v S=>∃(g Ad:dQ) (b:Bool),((b=true→Ad=g∧j1 (pieces s)=some g.C∧g.bA.Own∧g.cQ.Own∧g.c4≤2147483647)∧(b=false→j1 (pieces s)=none))∧v= .tuple #[.agg (e9 g).toArray,.bool b]∧S=[kT Ad.bA,cR Ad.cQ]):=by
 refine bM 93 Tryz.func59 fun ba bf=>?_
 refine fe fun ax=>?_
 refine de fun aK=>?_
 refine Aq ?_
 refine aj ?_
 refine fe fun bq=>?_
 refine fe fun bV=>?_
 refine de fun dp=>?_
 refine CK ?_
 refine aj ?_
 refine cm (Kb s) ?_
 rintro _ _ ⟨c,rfl,rfl⟩
 refine bP ?_
 refine gI ?_
 refine gE gq 135 3 ?_
 refine gE dh 42 1 ?_
 rw [show(U bV [Value.string ByteArray.empty,Value.string ByteArray.empty] 241:ar B)=U bV [str (([],[]):List UInt8×List UInt8).1,str (([],[]):List UInt8×List UInt8).2] 241 from rfl]
 rw [show(U bq [ak,ak,ak,bw,bw] 63:ar B)=U bq (e9 (⟨0,0,0,an.bt,an.bt⟩:dQ)) 63 from rfl]
 rw [show(U dp [ak] 3:ar B)=U dp [aa (z1 0)] 3 from rfl]
 refine kS (own:=[U c [str s] 9]) (aU:=[U ax [ak,ak,ak,bw,bw] 63,U aK [.bool false] 4,U bq (e9 (⟨0,0,0,an.bt,an.bt⟩:dQ)) 63,U bV [str (([],[]):List UInt8×List UInt8).1,str (([],[]):List UInt8×List UInt8).2] 241,U dp [aa (z1 0)] 3,eO (an.bt:an dt) 135 3 gq,eO (an.bt:an (BitVec 32)) 42 1 dh]) rfl fF (Ld c s ah) (fun i S=>∃(g:dQ) (h:List UInt8×List UInt8),pa (pieces s) i g h∧S=[U ax [ak,ak,ak,bw,bw] 63,U aK [.bool false] 4,U bq (e9 g) 63,U bV [str h.1,str h.2] 241,U dp [aa (z1 i)] 3,kT g.bA,cR g.cQ]) (fun c i S=>c= .ret∧j1 (pieces s)=none∧∃(g:dQ) (h:List UInt8×List UInt8) (m:Int),S=[U ax [ak,ak,ak,bw,bw] 63,U aK [.bool false] 4,U bq (e9 g) 63,U bV [str h.1,str h.2] 241,U dp [aa m] 3,kT g.bA,cR g.cQ]) (show Take ([U c [str s] 9,U ax [ak,ak,ak,bw,bw] 63,U aK [.bool false] 4,U bq (e9 (⟨0,0,0,an.bt,an.bt⟩:dQ)) 63,U bV [str (([],[]):List UInt8×List UInt8).1,str (([],[]):List UInt8×List UInt8).2] 241,U dp [aa (z1 0)] 3,eO (an.bt:an dt) 135 3 gq,eO (an.bt:an (BitVec 32)) 42 1 dh]) _ _ from aA) (⟨(⟨0,0,0,an.bt,an.bt⟩:dQ),(([],[]):List UInt8×List UInt8),⟨an.fk,an.fk,by decide,Nat.zero_le _,Nat.le_refl _,Nat.le_refl _,fun _=>rfl,fun _ _ _ h=>absurd h (Nat.lt_irrefl _)⟩,rfl⟩) rfl (fun x al=>by obtain⟨j,_,rfl⟩:=List.mem_map.1 al;rfl) ?_ ?_ ?_
 ·intro cr rec j3 i bh af bo
  obtain⟨g,h,bo,rfl⟩:=bo
  rw [tw]at af
  obtain⟨q,bF⟩:∃q,(pieces s)[i]?=some q:=⟨_,List.getElem?_eq_getElem af⟩
  rw [C1 bF]
  have kM:i≤100001:=by have ab:(pieces s).length≤s.length+1:=yY s [];omega
  have nb:q.length≤5000000:=by have:=xz s [] q (List.mem_of_getElem? bF);simp at this;omega
  refine aj ?_
  refine⟨rfl,_,_,.cons au (Take.self _),fun hz=>?_⟩
  refine xS ?_
  refine c2 ?_ ?_<;>intro ab
  ·obtain rfl:i=0:=by omega
   refine aj ?_
   refine gl (ae7 q) ?_
   refine gj (RV (g5 q)) ?_
   refine cp ?_
   refine bp (.agg #[str (jU (g5 q)).1,str (jU (g5 q)).2]) ?_
   refine bp (.bool (decide (1≤g5 q∧g5 q≤15))) ?_
   refine bT ?_ ?_<;>intro ae
   ·exact⟨[U ax [ak,ak,ak,bw,bw] 63,U aK [.bool false] 4,U bq [aa (g5 q),aa g.c4,aa g.cs,az g.bA,az g.cQ] 63,U bV [str (jU (g5 q)).1,str (jU (g5 q)).2] 241,U dp [aa ((0:Nat):Int)] 3,kT g.bA,cR g.cQ],_,aA,⟨rfl,ae8 bF ah,⟨g5 q,g.c4,g.cs,g.bA,g.cQ⟩,jU (g5 q),_,rfl⟩⟩
   exact⟨[U ax [ak,ak,ak,bw,bw] 63,U aK [.bool false] 4,U bq [aa (g5 q),aa g.c4,aa g.cs,az g.bA,az g.cQ] 63,U bV [str (jU (g5 q)).1,str (jU (g5 q)).2] 241,U dp [aa ((0:Nat):Int)] 3,kT g.bA,cR g.cQ],_,aA,⟨⟨g5 q,g.c4,g.cs,g.bA,g.cQ⟩,jU (g5 q),bo.start bF ch,rfl⟩⟩
  obtain⟨j,rfl⟩:∃j,i=j+1:=⟨i-1,by omega⟩
  have jK:=bo.aE
  rcases Nat.eq_zero_or_pos h.2.length with aS|aS
  ·skip
   have yv:∀t,m3 h.2 j (q::t) g.C=none:=fun t=>aay aS
   refine ic ?_
   refine fj ?_
   refine cC ?_
   refine dz ?_
   refine ap (cj rfl) ?_
   refine ap (ia ad) ?_
   refine ap (da ad) ?_
   refine ap (Ti rfl ad) ?_
   refine ap (Ds rfl rfl) ?_
   rw [show min (((j+1:Nat):Int)) (h.2.length:Int)=0 by omega]
   refine ap (y1 (m:=0) (n:=1) rfl rfl ah ah) ?_
   refine l5 ?_
   refine cc ?_ ?_<;>intro av
   ·exact⟨[U ax [ak,ak,ak,bw,bw] 63,U aK [.bool false] 4,U bq (e9 g) 63,U bV [str h.1,str h.2] 241,U dp [aa ((j+1:Nat):Int)] 3,kT g.bA,cR g.cQ],_,aA,⟨rfl,bo.none bF yv,g,h,_,rfl⟩⟩
   exact zJ av
  skip
  obtain⟨er,gu⟩:∃er,min (j+1) h.2.length=er+1:=⟨min (j+1) h.2.length-1,by omega⟩
  obtain⟨qS,tf⟩:=fp h.2 er
  refine ic ?_
  refine fj ?_
  refine cC ?_
  refine dz ?_
  refine ap (cj rfl) ?_
  refine ap (ia ad) ?_
  refine ap (da ad) ?_
  refine ap (Ti rfl ad) ?_
  refine ap (Ds rfl rfl) ?_
  rw [show min (((j+1:Nat):Int)) (h.2.length:Int)=((er+1:Nat):Int)by omega]
  refine ap (y1 (m:=((er+1:Nat):Int)) (n:=1) rfl rfl ah ah) ?_
  rw [show((er+1:Nat):Int)-1=(er:Int)by omega]
  refine aj ?_
  refine qW (t:=41) rfl (fun aV=>?_) (fun aV=>?_)
  ·replace aV:=gX aV
   first|omega|simp at aV|(simp at aV;done)
  replace aV:=gX aV
  refine aj ?_
  refine qW (t:=47) rfl (fun bN=>?_) (fun bN=>?_)
  ·replace bN:=gX bN
   refine iK ?_
   refine ap (jq (i:=er) rfl rfl ad rfl tf) ?_
   refine aj ?_
   refine cc ?_ ?_<;>intro c0
   ·refine ap (jq (i:=er) rfl rfl ad rfl tf) ?_
    refine aj ?_
    refine cc ?_ ?_<;>intro fO
    ·exact⟨[U ax [ak,ak,ak,bw,bw] 63,U aK [.bool false] 4,U bq (e9 g) 63,U bV [str h.1,str h.2] 241,U dp [aa ((j+1:Nat):Int)] 3,kT g.bA,cR g.cQ],_,aA,⟨rfl,bo.none bF (fun t=>aaz gu tf ah ch ch),g,h,_,rfl⟩⟩
    refine ap (jq (i:=er) rfl rfl ad rfl tf) ?_
    refine aj ?_
    refine cm (Lf bq g bo.kF bo.iQ (by have:=bo.et;omega) (by have:=bo.hV;omega) (qS.toNat:Int) q nb) ?_
    rintro _ _ ⟨a3,⟨uj,gM,hI⟩,rfl,rfl⟩
    refine cx ?_
    refine bD ?_ ?_<;>intro gk
    ·exact⟨[U ax [ak,ak,ak,bw,bw] 63,U aK [.bool false] 4,U bq (e9 a3) 63,U bV [str h.1,str h.2] 241,U dp [aa ((j+1:Nat):Int)] 3,kT a3.bA,cR a3.cQ],_,aA,⟨rfl,bo.none bF (fun t=>by rw [Az gu tf (by first|exact .inl ah|exact .inr (.inl ah)|exact .inr (.inr ah)),if_neg (by simp_all)]),a3,h,_,rfl⟩⟩
    exact⟨[U ax [ak,ak,ak,bw,bw] 63,U aK [.bool false] 4,U bq (e9 a3) 63,U bV [str h.1,str h.2] 241,U dp [aa ((j+1:Nat):Int)] 3,kT a3.bA,cR a3.cQ],_,aA,⟨a3,h,bo.next bF (fun t=>by rw [Az gu tf (by first|exact .inl ah|exact .inr (.inl ah)|exact .inr (.inr ah)),if_pos (by simp_all),uj]) uj gM hI,rfl⟩⟩
   refine ap (jq (i:=er) rfl rfl ad rfl tf) ?_
   refine aj ?_
   refine cm (Lf bq g bo.kF bo.iQ (by have:=bo.et;omega) (by have:=bo.hV;omega) (qS.toNat:Int) q nb) ?_
   rintro _ _ ⟨a3,⟨uj,gM,hI⟩,rfl,rfl⟩
   refine cx ?_
   refine bD ?_ ?_<;>intro hW
   ·exact⟨[U ax [ak,ak,ak,bw,bw] 63,U aK [.bool false] 4,U bq (e9 a3) 63,U bV [str h.1,str h.2] 241,U dp [aa ((j+1:Nat):Int)] 3,kT a3.bA,cR a3.cQ],_,aA,⟨rfl,bo.none bF (fun t=>by rw [Az gu tf (by first|exact .inl ah|exact .inr (.inl ah)|exact .inr (.inr ah)),if_neg (by simp_all)]),a3,h,_,rfl⟩⟩
   exact⟨[U ax [ak,ak,ak,bw,bw] 63,U aK [.bool false] 4,U bq (e9 a3) 63,U bV [str h.1,str h.2] 241,U dp [aa ((j+1:Nat):Int)] 3,kT a3.bA,cR a3.cQ],_,aA,⟨a3,h,bo.next bF (fun t=>by rw [Az gu tf (by first|exact .inl ah|exact .inr (.inl ah)|exact .inr (.inr ah)),if_pos (by simp_all),uj]) uj gM hI,rfl⟩⟩
  replace bN:=gX bN
  refine aj ?_
  refine ap (jq (i:=er) rfl rfl ad rfl tf) ?_
  refine aj ?_
  refine cm (Lf bq g bo.kF bo.iQ (by have:=bo.et;omega) (by have:=bo.hV;omega) (qS.toNat:Int) q nb) ?_
  rintro _ _ ⟨a3,⟨uj,gM,hI⟩,rfl,rfl⟩
  refine cx ?_
  refine bD ?_ ?_<;>intro na
  ·exact⟨[U ax [ak,ak,ak,bw,bw] 63,U aK [.bool false] 4,U bq (e9 a3) 63,U bV [str h.1,str h.2] 241,U dp [aa ((j+1:Nat):Int)] 3,kT a3.bA,cR a3.cQ],_,aA,⟨rfl,bo.none bF (fun t=>by rw [Az gu tf (by first|exact .inl ah|exact .inr (.inl ah)|exact .inr (.inr ah)),if_neg (by simp_all)]),a3,h,_,rfl⟩⟩
  exact⟨[U ax [ak,ak,ak,bw,bw] 63,U aK [.bool false] 4,U bq (e9 a3) 63,U bV [str h.1,str h.2] 241,U dp [aa ((j+1:Nat):Int)] 3,kT a3.bA,cR a3.cQ],_,aA,⟨a3,h,bo.next bF (fun t=>by rw [Az gu tf (by first|exact .inl ah|exact .inr (.inl ah)|exact .inr (.inr ah)),if_pos (by simp_all),uj]) uj gM hI,rfl⟩⟩
 ·intro cG bh bo
  rw [tw]at bo
  obtain⟨g,h,bo,rfl⟩:=bo
  have akk:=bo.aE
  refine bP ?_
  refine xS ?_
  refine du [str h.1,str h.2] ?_
  refine gj (T3 h.1 h.2 115) ?_
  rw [show(115:Int).toNat.toUInt8=115 from rfl]
  refine aj ?_
  refine pJ ?_ ?_<;>intro zM
  ·refine aj ?_
   refine cc ?_ ?_<;>intro H2
   ·refine mb ?_
    refine dA (show Take [dl cG] _ _ from aA) (sF rfl rfl rfl au au ad ad (by rfl)) ?_
    exact aO ⟨(⟨0,0,0,an.bt,an.bt⟩:dQ),g,false,⟨fun e=>(by cases e),fun _=>by exact bo.fail (by first|exact .inl ch|exact .inr (by unfold j1.leastI;split<;>omega))⟩,rfl,rfl⟩
   refine c2 ?_ ?_<;>intro Er
   ·refine aj ?_
    refine mb ?_
    refine dA (show Take [dl cG] _ _ from aA) (sF rfl rfl rfl au au ad ad (by rfl)) ?_
    exact aO ⟨(⟨0,0,0,an.bt,an.bt⟩:dQ),g,false,⟨fun e=>(by cases e),fun _=>by exact bo.fail (by first|exact .inl ch|exact .inr (by unfold j1.leastI;split<;>omega))⟩,rfl,rfl⟩
   refine hi ?_
   refine du (e9 g) ?_
   refine aj ?_
   refine mb ?_
   refine dA (show Take [dl cG] _ _ from aA) (sF rfl rfl rfl au au ad ad (by rfl)) ?_
   exact aO ⟨g,g,true,⟨fun _=>⟨rfl,by exact bo.LS ch (by unfold j1.leastI;split<;>omega),bo.kF,bo.iQ,bo.c4⟩,fun e=>(by cases e)⟩,rfl,rfl⟩
  refine du [str h.1,str h.2] ?_
  refine gj (T3 h.1 h.2 119) ?_
  rw [show(119:Int).toNat.toUInt8=119 from rfl]
  refine bT ?_ ?_<;>intro Bx
  ·refine cc ?_ ?_<;>intro Io
   ·refine mb ?_
    refine dA (show Take [dl cG] _ _ from aA) (sF rfl rfl rfl au au ad ad (by rfl)) ?_
    exact aO ⟨(⟨0,0,0,an.bt,an.bt⟩:dQ),g,false,⟨fun e=>(by cases e),fun _=>by exact bo.fail (by first|exact .inl ch|exact .inr (by unfold j1.leastI;split<;>omega))⟩,rfl,rfl⟩
   refine c2 ?_ ?_<;>intro mT
   ·refine aj ?_
    refine mb ?_
    refine dA (show Take [dl cG] _ _ from aA) (sF rfl rfl rfl au au ad ad (by rfl)) ?_
    exact aO ⟨(⟨0,0,0,an.bt,an.bt⟩:dQ),g,false,⟨fun e=>(by cases e),fun _=>by exact bo.fail (by first|exact .inl ch|exact .inr (by unfold j1.leastI;split<;>omega))⟩,rfl,rfl⟩
   refine hi ?_
   refine du (e9 g) ?_
   refine aj ?_
   refine mb ?_
   refine dA (show Take [dl cG] _ _ from aA) (sF rfl rfl rfl au au ad ad (by rfl)) ?_
   exact aO ⟨g,g,true,⟨fun _=>⟨rfl,by exact bo.LS ch (by unfold j1.leastI;split<;>omega),bo.kF,bo.iQ,bo.c4⟩,fun e=>(by cases e)⟩,rfl,rfl⟩
  refine cc ?_ ?_<;>intro aip
  ·refine mb ?_
   refine dA (show Take [dl cG] _ _ from aA) (sF rfl rfl rfl au au ad ad (by rfl)) ?_
   exact aO ⟨(⟨0,0,0,an.bt,an.bt⟩:dQ),g,false,⟨fun e=>(by cases e),fun _=>by exact bo.fail (by first|exact .inl ch|exact .inr (by unfold j1.leastI;split<;>omega))⟩,rfl,rfl⟩
  refine c2 ?_ ?_<;>intro aiq
  ·refine aj ?_
   refine mb ?_
   refine dA (show Take [dl cG] _ _ from aA) (sF rfl rfl rfl au au ad ad (by rfl)) ?_
   exact aO ⟨(⟨0,0,0,an.bt,an.bt⟩:dQ),g,false,⟨fun e=>(by cases e),fun _=>by exact bo.fail (by first|exact .inl ch|exact .inr (by unfold j1.leastI;split<;>omega))⟩,rfl,rfl⟩
  refine hi ?_
  refine du (e9 g) ?_
  refine aj ?_
  refine mb ?_
  refine dA (show Take [dl cG] _ _ from aA) (sF rfl rfl rfl au au ad ad (by rfl)) ?_
  exact aO ⟨g,g,true,⟨fun _=>⟨rfl,by exact bo.LS ch (by unfold j1.leastI;split<;>omega),bo.kF,bo.iQ,bo.c4⟩,fun e=>(by cases e)⟩,rfl,rfl⟩
 intro cG c i bh af h
 obtain⟨rfl,tG,g,h,m,rfl⟩:=h
 refine cx ?_
 refine mb ?_
 refine dA (show Take [dl cG] _ _ from aA) (sF rfl rfl rfl au au ad ad (by rfl)) ?_
 exact aO ⟨(⟨0,0,0,an.bt,an.bt⟩:dQ),g,false,⟨fun e=>(by cases e),fun _=>tG⟩,rfl,rfl⟩
abbrev Iq(jy:List (List UInt8)):List (List Value):=jy.zipIdx.map fun p=>[.int .i64 ((p.2+1:Nat):Int),str p.1]
theorem yQ(l:List (List UInt8)):(Iq l).length=l.length:=by simp
theorem Kd{l:List (List UInt8)}{i:Nat}{q:List UInt8}(h:l[i]?=some q):(Iq l).getD i []=[aa ((i+1:Nat):Int),str q]:=by
  simp [Iq,List.getD,h]
theorem Ke{E:Env}{d:Nat}:vv E d d none:=rfl
theorem drop_cons{α:Type}{L:List α}{i:Nat}{q:α}{t:List α}(h:L.drop i=q::t):L[i]?=some q∧L.drop (i+1)=t:=by
  have ab:(L.drop i)[0]?=some q:=by rw [h];rfl
  rw [List.getElem?_drop]at ab
  exact⟨by simpa using ab,by rw [←List.drop_drop,h];rfl⟩
theorem KN{l:List UInt8}{k:Nat}{c d:UInt8}(a7:l[k]?=some c)(aP:¬(c.toNat:Int)=d.toNat)(h:∀x∈l.take k,x≠d):∀x∈l.take (k+1),x≠d:=by
  rw [List.take_add_one,a7]
  intro x al
  rcases List.mem_append.1 al with q|q
  · exact h x q
  · rw [List.mem_singleton.1 q];exact fun e=>aP (by rw [e])
theorem RW(s:List UInt8):a6 B 57 [str s] [] (fun v S=>∃b,v= .func (.func 108) #[] #[ag b]∧S=[U b [str s] 9]):=by
 refine bM 4 Tryz.func57 fun ba bf=>?_
 refine fX fun ax=>?_
 exact aO ⟨ax,rfl,rfl⟩
theorem SQ(b:Nat)(s:List UInt8)(aH:s.length≤1000000):Tb Tryz.prog B 108 [ag b] [U b [str s] 9] [ex (fun z:List UInt8=>[U b [str z] 9])] (Iq (ie s)):=by
 intro cr J hc cV g7 aZ
 change di _ _ _ _ (U b [str s] 9::cV) _
 refine bM 49 Tryz.func108 fun ba bf=>?_
 refine ds (α:=Nat×List UInt8×List (ar B)) (fun⟨i,z,aU⟩=>i≤(ie s).length∧(ie s).drop i=ie z∧z.length≤s.length∧J i aU) (fun⟨i,z,aU⟩=>[(3,aa ((i+1:Nat):Int)),(0,.func (.yield cr) #[] #[]),(1,ag b)]) (fun⟨i,z,aU⟩=>U b [str z] 9::aU) (fun⟨i,z,aU⟩=>z.length) (0,s,cV) ?_ dq aA ?_
 ·exact⟨Nat.zero_le _,rfl,Nat.le_refl _,g7⟩
 rintro⟨i,z,aU⟩ ⟨af,aJ,wF,bo⟩
 dsimp only
 have ajv:=(xh s).1
 refine aj ?_
 refine ap (k6 (q:=!(z==[])) rfl rfl rfl) ?_
 refine aj ?_
 refine c2 ?_ ?_<;>intro ab
 ·have aS:z≠[]:=by simpa using ab
  refine wi ?_
  refine jT (α:=List UInt8×List UInt8) (fun⟨om,qO⟩=>ie z=m9 om::ie qO∧om.length≤z.length∧qO.length<z.length) (fun⟨om,qO⟩=>[(4,str om),(5,str qO),(0,.func (.yield cr) #[] #[]),(1,ag b),(3,aa ((i+1:Nat):Int))]) (fun⟨om,qO⟩=>U b [str z] 9::aU) ?_ ?_
  ·skip
   refine aj ?_
   refine ds (α:=Nat) (fun k=>k≤z.length∧∀c∈z.take k,c≠10) (fun k=>[(4,str z),(5,str []),(15,aa (k:Int)),(14,aa (z.length:Int)),(0,.func (.yield cr) #[] #[]),(1,ag b),(3,aa ((i+1:Nat):Int))]) (fun k=>U b [str z] 9::aU) (fun k=>z.length-k) 0 ?_ dq aA ?_
   ·exact⟨Nat.zero_le _,by simp⟩
   rintro k ⟨ai,LU⟩
   refine bT ?_ ?_<;>intro ae
   ·obtain⟨c,aR⟩:=fp z k
    refine aj ?_
    refine ap (jq (i:=k) rfl rfl ad rfl aR) ?_
    refine bT ?_ ?_<;>intro av
    ·refine k3 [U b [str z] 9] ad aA ?_
     refine aY [0,1] ?_
     refine bj 2 rfl (np (wK:=none) (ec:=0) (af:=k) (p:=z.take k) rfl ad rfl ⟨_,rfl⟩ (Nat.zero_le _) ah (by simp)) ?_
     refine aY [3,4,5] ?_
     refine bj 6 rfl (np (wL:=none) (ec:=k+1) (af:=z.length) (p:=z.drop (k+1)) rfl ad ⟨_,rfl⟩ Ke ah (Nat.le_refl _) (List.take_of_length_le (by simp))) ?_
     refine df [7,8,99] ?_
     exact ez (z.take k,z.drop (k+1)) ⟨YM (aR.trans (congrArg some (UInt8.toNat_inj.1 (show c.toNat=10 by omega)))) LU,by rw [List.length_take];omega,by rw [List.length_drop];omega⟩
    exact cE (k+1) ⟨by omega,KN (d:=10) aR ch LU⟩
   exact ez (z,[]) ⟨by rw [YN aS (by rwa [List.take_of_length_le ah]at LU),Oo],Nat.le_refl _,List.length_pos_iff.2 aS⟩
  rintro⟨om,qO⟩ ⟨rs,Ip,H6⟩
  refine gN ?_
  refine jT (α:=List UInt8) (fun q=>q=m9 om) (fun q=>[(4,str q),(0,.func (.yield cr) #[] #[]),(1,ag b),(3,aa ((i+1:Nat):Int))]) (fun q=>U b [str qO] 9::aU) ?_ ?_
  ·skip
   refine aj ?_
   refine ds (α:=Nat) (fun k=>k≤om.length∧∀c∈om.take k,c≠35) (fun k=>[(4,str om),(33,aa (k:Int)),(32,aa (om.length:Int)),(0,.func (.yield cr) #[] #[]),(1,ag b),(3,aa ((i+1:Nat):Int))]) (fun k=>U b [str qO] 9::aU) (fun k=>om.length-k) 0 ?_ dq aA ?_
   ·exact⟨Nat.zero_le _,by simp⟩
   rintro k ⟨ai,zv⟩
   refine bT ?_ ?_<;>intro aV
   ·obtain⟨bW,a7⟩:∃c,om[k]?=some c:=⟨_,List.getElem?_eq_getElem ah⟩
    refine aj ?_
    refine ap (jq (i:=k) rfl rfl ad rfl a7) ?_
    refine bT ?_ ?_<;>intro bN
    ·refine ap (np (wK:=none) (ec:=0) (af:=k) (p:=om.take k) rfl ad rfl ⟨_,rfl⟩ (Nat.zero_le _) ah (by simp)) ?_
     refine aj ?_
     exact ez (om.take k) ((QR (a7.trans (congrArg some (UInt8.toNat_inj.1 (show bW.toNat=35 by omega)))) zv).symm)
    exact cE (k+1) ⟨by omega,KN (d:=35) a7 ch zv⟩
   exact ez om ((GC (by rwa [List.take_of_length_le ah]at zv)).symm)
  rintro q rfl
  refine aj ?_
  obtain⟨bF,o6⟩:=drop_cons (aJ.trans rs)
  have nb:=(List.getElem?_eq_some_iff.1 bF).1
  have fa:=aZ i aU (by rw [yQ];exact(List.getElem?_eq_some_iff.1 bF).1) bo
  rw [Kd bF]at fa
  refine aj ?_
  refine iq (own:=[U b [str qO] 9]) (hM:=aU) .no rfl rfl fa rfl ?_
  rintro jP bh aC
  refine cx ?_
  refine c2 ?_ ?_<;>intro c0
  ·refine sa (pq (F:=fun z:List UInt8=>[U b [str z] 9]) qO aA) ?_
   refine aj ?_
   obtain⟨h,_⟩|⟨_,aC⟩:=aC
   ·rw [h]at c0;cases c0
   exact⟨ex (fun z:List UInt8=>[U b [str z] 9])::bh,⟨bh,rfl,.inr ⟨i,by rw [yQ];exact(List.getElem?_eq_some_iff.1 bF).1,aC⟩⟩,_,aA⟩
  obtain⟨_,aC⟩|⟨h,_⟩:=aC
  rotate_left
  ·rw [h]at c0;cases c0
  refine aj ?_
  refine k2 (i+1,qO,bh) ?_ ?_ ?_ ?_
  ·(try dsimp only);exact⟨by omega,o6,by omega,aC⟩
  ·(try dsimp only);exact H6
  ·refine⟨?_,?_,?_,trivial⟩<;>rfl
  (try dsimp only);exact⟨_,aA⟩
 obtain rfl:z=[]:=by simpa using ab
 have kM:i=(ie s).length:=by rw [Oo,List.drop_eq_nil_iff]at aJ;omega
 refine sa (pq (F:=fun z:List UInt8=>[U b [str z] 9]) [] aA) ?_
 refine aj ?_
 subst kM
 exact⟨ex (fun z:List UInt8=>[U b [str z] 9])::aU,⟨aU,rfl,.inl (by rw [yQ];exact bo)⟩,_,aA⟩
def ss:List (List UInt8)→List kl→Option (List kl)
  |[],acc=>some acc
  |l::jy,acc=>if pieces l=[]then ss jy acc else match j1 (pieces l)with
    |some x=>if acc.length=512 then none else ss jy (acc++[x])
    |none=>none
structure rJ(L:List (List UInt8))(i:Nat)(a:an dQ):Prop where
  o:a.Own
  n:a.l.length≤512
  e:∀x∈a.l,x.bA.Own∧x.cQ.Own∧x.c4≤2147483647
  f:ss L []=ss (L.drop i) (a.l.map dQ.C)
theorem qX{α:Type}{L:List α}{i:Nat}{q:α}(h:L[i]?=some q):L.drop i=q::L.drop (i+1):=by
  obtain⟨a1,a3⟩:=List.getElem?_eq_some_iff.1 h
  rw [List.drop_eq_getElem_cons a1,a3]
theorem rJ.skip{L:List (List UInt8)}{i:Nat}{a:an dQ}{q:List UInt8}(J:rJ L i a)(bF:L[i]?=some q)(h:pieces q=[]):rJ L (i+1) a:=
  ⟨J.o,J.n,J.e,by rw [J.f,qX bF,ss,if_pos h]⟩
theorem rJ.next{L:List (List UInt8)}{i:Nat}{a cI:an dQ}{g:dQ}{q:List UInt8}(J:rJ L i a)(bF:L[i]?=some q)(aC:pieces q≠[])(a4:j1 (pieces q)=some g.C)(aP:¬a.l.length=512)(h:cI.l=a.l++[g])(aq:cI.Own)(ab:g.bA.Own)(ae:g.cQ.Own)(av:g.c4≤2147483647):rJ L (i+1) cI:=by
 have:=J.n
 refine⟨aq,by rw [h];simp;omega,fun x al=>?_,?_⟩
 ·rw [h]at al
  rcases List.mem_append.1 al with q|q
  ·exact J.e x q
  rw [List.mem_singleton.1 q];exact⟨ab,ae,av⟩
 rw [J.f,qX bF,ss,if_neg aC,a4]
 show(if _ then _ else _)=_
 rw [if_neg (by rw [List.length_map];exact aP),h,List.map_append];rfl
theorem rJ.bad{L:List (List UInt8)}{i:Nat}{a:an dQ}{q:List UInt8}(J:rJ L i a)(bF:L[i]?=some q)(aC:pieces q≠[])(h:j1 (pieces q)=none∨a.l.length=512):ss L []=none:=by
  rw [J.f,qX bF,ss,if_neg aC]
  rcases h with h|h
  · rw [h]
  · cases j1 (pieces q)with
    |none=>rfl
    |some x=>show(if _ then _ else _)=_;rw [if_pos (by rw [List.length_map];exact h)]
theorem rJ.done{L:List (List UInt8)}{a:an dQ}(J:rJ L L.length a):ss L []=some (a.l.map dQ.C):=by
  rw [J.f,List.drop_eq_nil_of_le (Nat.le_refl _),ss]
abbrev wa(l:List dQ):ar B:=all (l.reverse.map fun x=>kT x.bA)
abbrev vX(l:List dQ):ar B:=all (l.reverse.map fun x=>cR x.cQ)
theorem aaA{l m:List dQ}{g:dQ}(h:m=l++[g]):(all (kT g.bA::l.reverse.map fun x=>kT x.bA):ar B)=wa m:=by rw [h,wa,List.reverse_append];rfl
theorem YO{l m:List dQ}{g:dQ}(h:m=l++[g]):(all (cR g.cQ::l.reverse.map fun x=>cR x.cQ):ar B)=vX m:=by rw [h,vX,List.reverse_append];rfl
theorem rJ.ok{L:List (List UInt8)}{i:Nat}{a:an dQ}(J:rJ L i a):y8 (wa (B:=B) a.l) (vX a.l) a:=
  ⟨J.o,J.n,fun x al=>nU (a:=kT x.bA) (List.mem_map.2 ⟨x,List.mem_reverse.2 al,rfl⟩) (dT (J.e x al).1 rfl),fun x al=>nU (a:=cR x.cQ) (List.mem_map.2 ⟨x,List.mem_reverse.2 al,rfl⟩) (dT (J.e x al).2.1 rfl),fun x al=>by have:=(J.e x al).2.2;omega⟩
theorem y8.bt{fV hq:ar B}:y8 fV hq (an.bt:an dQ):=⟨an.fk,Nat.zero_le _,fun x al=>(by cases al),fun x al=>(by cases al),fun x al=>(by cases al)⟩
theorem RX(s:List UInt8)(EJ:s.length≤1000000):a6 B 24 [str s] [] (fun v S=>∃(a:an dQ) (z b8:Int) (fV hq:ar B),(y8 fV hq a∧∀M,ss (ie s) []=some M→s.length≤65536→b8=0∧a.l.map dQ.C=M)∧v= .tuple #[az a,aa z,aa b8]∧S=[rT a,fV,hq]):=by
 refine bM 41 Tryz.func24 fun ba bf=>?_
 refine fe fun ax=>?_
 refine fe fun aK=>?_
 refine de fun bq=>?_
 refine c2 ?_ ?_<;>intro ab
 ·refine gE e9 63 5 ?_
  refine tr ?_
  refine tr ?_
  refine aj ?_
  refine dA (.nil _) (yO rfl rfl rfl rfl au au au ad ad ad) ?_
  exact aO ⟨an.bt,_,_,all [],all [],⟨y8.bt,fun M _ h=>absurd h ah⟩,rfl,rfl⟩
 refine aj ?_
 refine de fun bV=>?_
 refine cm (RW s) ?_
 rintro _ _ ⟨c,rfl,rfl⟩
 refine bP ?_
 refine gI ?_
 refine gE e9 63 5 ?_
 refine gE e9 63 5 ?_
 refine tr ?_
 refine tr ?_
 rw [show(U bV [bw] 22:ar B)=U bV [az (an.bt:an dQ)] 22 from rfl]
 refine OP (own:=[U c [str s] 9]) (aU:=[U ax [bw] 22,U aK [ak] 3,U bq [ak] 53,U bV [az (an.bt:an dQ)] 22,eO (an.bt:an dQ) 63 5 e9,eO (an.bt:an dQ) 63 5 e9,all [],all []]) rfl fF (SQ c s ah) (fun i S=>∃a:an dQ,rJ (ie s) i a∧S=[U ax [bw] 22,U aK [ak] 3,U bq [ak] 53,U bV [az a] 22,rT a,eO (an.bt:an dQ) 63 5 e9,wa a.l,vX a.l]) (fun c i S=>c= .ret∧ss (ie s) []=none∧∃(a:an dQ) (n:Int),rJ (ie s) i a∧S=[U ax [bw] 22,U aK [aa n] 3,U bq [aa 340] 53,U bV [az a] 22,rT a,eO (an.bt:an dQ) 63 5 e9,wa a.l,vX a.l]) (show Take ([U c [str s] 9,U ax [bw] 22,U aK [ak] 3,U bq [ak] 53,U bV [az (an.bt:an dQ)] 22,eO (an.bt:an dQ) 63 5 e9,eO (an.bt:an dQ) 63 5 e9,all [],all []]) _ _ from aA) (⟨(an.bt:an dQ),⟨an.fk,Nat.zero_le _,fun x al=>(by cases al),rfl⟩,rfl⟩) rfl (fun x al=>by obtain⟨j,_,rfl⟩:=List.mem_map.1 al;rfl) ?_ ?_ ?_
 ·intro cr rec j3 i0 bh af bo
  obtain⟨a,mx,rfl⟩:=bo
  rw [yQ]at af
  obtain⟨q,bF⟩:∃q,(ie s)[i0]?=some q:=⟨_,List.getElem?_eq_getElem af⟩
  rw [Kd bF]
  have fT:=mx.n
  have nb:=(xh s).2 q (List.mem_of_getElem? bF)
  have kM:i0≤65536:=by have:=(xh s).1;omega
  refine aj ?_
  refine⟨rfl,_,_,.cons au (Take.self _),fun hz=>?_⟩
  refine aj ?_
  refine de fun dp=>?_
  refine cm (Kb q) ?_
  rintro _ _ ⟨bW,rfl,rfl⟩
  refine cx ?_
  refine FX (own:=[U bW [str q] 9]) (aU:=[U dp [.bool true] 4]) au rfl fF (Ld bW q ah) (fun j S=>j=0∧S=[U dp [.bool true] 4]) (fun c j S=>c= .exit 2∧pieces q≠[]∧S=[U dp [.bool false] 4]) (show Take ([U bW [str q] 9,U dp [.bool true] 4]) _ _ from aA) (⟨rfl,rfl⟩) rfl (fun x al=>by obtain⟨j,_,rfl⟩:=List.mem_map.1 al;rfl) ?_ ?_ ?_
  ·intro x9 DS Fa j cS aI ki
   obtain⟨rfl,rfl⟩:=ki
   rw [tw]at aI
   obtain⟨w,hw⟩:∃w,(pieces q)[0]?=some w:=⟨_,List.getElem?_eq_getElem aI⟩
   rw [C1 hw]
   refine aj ?_
   refine⟨rfl,_,_,.cons au (Take.self _),fun hz=>?_⟩
   refine aj ?_
   exact⟨[U dp [.bool false] 4],_,aA,⟨rfl,fun e=>by rw [e]at aI;exact absurd aI (Nat.lt_irrefl _),rfl⟩⟩
  ·intro cS ki
   obtain⟨HZ,rfl⟩:=ki
   rw [tw]at HZ
   have MK:pieces q=[]:=List.length_eq_zero_iff.1 HZ
   refine bP ?_
   refine gN ?_
   refine dn (.bool true) ?_
   refine cp ?_
   refine bD ?_ ?_<;>intro ae
   ·exact⟨[U ax [bw] 22,U aK [ak] 3,U bq [ak] 53,U bV [az a] 22,rT a,eO (an.bt:an dQ) 63 5 e9,wa a.l,vX a.l],_,aA,⟨a,mx.skip bF MK,rfl⟩⟩
   exact zJ ae
  intro c i bh af h
  obtain⟨rfl,yv,rfl⟩:=h
  refine bP ?_
  refine ky ?_
  refine dn (.bool false) ?_
  refine cp ?_
  refine bD ?_ ?_<;>intro av
  ·exact zJ av
  refine cm (afb q (by omega)) ?_
  rintro _ _ ⟨g,Ad,b,⟨st,jj⟩,rfl,rfl⟩
  refine bP ?_
  refine cp ?_
  refine bp (.agg (e9 g).toArray) ?_
  refine bp (.bool b) ?_
  refine de fun ln=>?_
  refine qW (t:=30) rfl (fun aV=>?_) (fun aV=>?_)
  ·replace aV:=gX aV
   refine aj ?_
   exact⟨[U ax [bw] 22,U aK [aa ((i0+1:Nat):Int)] 3,U bq [aa 340] 53,U bV [az a] 22,rT a,eO (an.bt:an dQ) 63 5 e9,wa a.l,vX a.l],_,aA,⟨rfl,mx.bad bF yv (.inl (jj (by simpa using aV))),a,_,mx,rfl⟩⟩
  replace aV:=gX aV
  obtain⟨air,Vp,gM,hI,ys⟩:=st (by simpa using aV)
  obtain rfl:g=Ad:=air.symm
  refine ap (da (v:=az a) ad) ?_
  refine aj ?_
  refine c2 ?_ ?_<;>intro bN
  ·refine aj ?_
   exact⟨[U ax [bw] 22,U aK [aa ((i0+1:Nat):Int)] 3,U bq [aa 340] 53,U bV [az a] 22,rT a,eO (an.bt:an dQ) 63 5 e9,wa a.l,vX a.l],_,aA,⟨rfl,mx.bad bF yv (.inr ah),a,_,mx,rfl⟩⟩
  refine iK ?_
  refine dn (az a) ?_
  refine du (e9 g) ?_
  refine im (aF:=e9 g) .no rfl ad b2 b2 (by rfl) (by rfl) rfl rfl (fun Ir=>?_)
  rw [show(U Ir (e9 g) 63:ar B)=U Ir (([g]:List dQ).flatMap e9) 63 from rfl]
  refine j7 (a2:=e9) (c:=a) (b:=an.lit Ir [g] (by simp)) .no rfl rfl ad au (show Out (U Ir (([g]:List dQ).flatMap e9) 63) _ _ from au) ir (fun _=>rfl) (fun _=>rfl) (by show a.l.length+1≤_;omega) (by show(a.l.length+1)*_≤_;omega) rfl (fun cI iv lc=>?_)
  refine FC (m:=a.l.reverse.map fun x=>kT x.bA) (kT g.bA) aA ?_
  refine FC (m:=a.l.reverse.map fun x=>cR x.cQ) (cR g.cQ) aA ?_
  refine aj ?_
  rw [aaA iv,YO iv]
  exact⟨[U ax [bw] 22,U aK [ak] 3,U bq [ak] 53,U bV [az cI] 22,rT cI,eO (an.bt:an dQ) 63 5 e9,wa cI.l,vX cI.l],_,aA,⟨cI,mx.next bF yv Vp ah iv lc gM hI ys,rfl⟩⟩
 ·intro cG bh bo
  rw [yQ]at bo
  obtain⟨a,mx,rfl⟩:=bo
  refine bP ?_
  refine hi ?_
  refine dn (az a) ?_
  refine aj ?_
  refine dA (show Take [dl cG] _ _ from aA) (yO rfl rfl rfl rfl au au au ad ad ad) ?_
  exact aO ⟨a,_,_,_,_,⟨mx.ok,fun M h _=>⟨rfl,by rw [mx.done]at h;exact Option.some.inj h⟩⟩,rfl,rfl⟩
 intro cG c i bh af h
 obtain⟨rfl,cN,a,n,mx,rfl⟩:=h
 refine cx ?_
 refine dA (show Take [dl cG] _ _ from aA) (yO rfl rfl rfl rfl au au au ad ad ad) ?_
 exact aO ⟨an.bt,_,_,_,_,⟨y8.bt,fun M h _=>by rw [cN]at h;cases h⟩,rfl,rfl⟩
def dU(p:List (List UInt8))(i:Nat):Int×Bool:=match p[i]? with
  |some q=>((dx q).1,(dx q).2==0)
  |none=>(0,false)
theorem SR{p:List (List UInt8)}{i:Nat}{q:List UInt8}(h:p[i]?=some q):dU p i=((dx q).1,(dx q).2==0):=by unfold dU;rw [h]
theorem SS{p:List (List UInt8)}{i:Nat}(h:p.length≤i):dU p i=(0,false):=by unfold dU;rw [List.getElem?_eq_none h]
abbrev qT(N:Nat)(d:Nat→Int):List Value:=(List.range N).map fun i=>aa (d i)
theorem KO{N i:Nat}{d:Nat→Int}(h:i<N):(qT N d)[i]?=some (aa (d i)):=by
  rw [List.getElem?_map,List.getElem?_range h];rfl
theorem acS{N i:Nat}{d:Nat→Int}{z:Int}(h:i<N):(qT N d).set i (aa z)=qT N (bz d i z):=by
  apply List.ext_getElem?
  intro j
  by_cases aI:i=j
  · subst aI
    rw [List.getElem?_set_self (by simpa using h),KO h,e4]
  · rw [List.getElem?_set_ne aI,List.getElem?_map,List.getElem?_map]
    by_cases aE:j<N
    · rw [List.getElem?_range aE];show some (Value.int .i64 (d j))=some (Value.int .i64 (bz d i z j));rw [fG _ _ (Ne.symm aI)]
    · rw [List.getElem?_eq_none (by simpa using aE)];rfl
def qc(x:List UInt8)(c:UInt8)(d:Nat→Int)(o n:Nat):Option (Nat→Int):=
  if Lib.indexByte x c<0 then none else
  if(dx (x.take (Lib.indexByte x c).toNat)).2=0∧(dx (x.drop ((Lib.indexByte x c).toNat+1))).2=0∧(dx (x.take (Lib.indexByte x c).toNat)).1<n∧(dx (x.drop ((Lib.indexByte x c).toNat+1))).1≠0∧d (o+(dx (x.take (Lib.indexByte x c).toNat)).1.toNat)=0 then
    some (bz d (o+(dx (x.take (Lib.indexByte x c).toNat)).1.toNat) (dx (x.drop ((Lib.indexByte x c).toNat+1))).1)else none
theorem acT{x:List UInt8}{c:UInt8}{d:Nat→Int}{o n:Nat}(h:Lib.indexByte x c<0):qc x c d o n=none:=if_pos h
theorem Dp{x:List UInt8}{c:UInt8}{d:Nat→Int}{o n j:Nat}(h:Lib.indexByte x c=(j:Int))(aP:¬((dx (x.take j)).2=0∧(dx (x.drop (j+1))).2=0∧(dx (x.take j)).1<n∧(dx (x.drop (j+1))).1≠0∧d (o+(dx (x.take j)).1.toNat)=0)):qc x c d o n=none:=by
  unfold qc;rw [h,if_neg (by omega),Int.toNat_natCast,if_neg aP]
theorem acU{x:List UInt8}{c:UInt8}{d:Nat→Int}{o n j:Nat}(h:Lib.indexByte x c=(j:Int))(aP:(dx (x.take j)).2=0∧(dx (x.drop (j+1))).2=0∧(dx (x.take j)).1<n∧(dx (x.drop (j+1))).1≠0∧d (o+(dx (x.take j)).1.toNat)=0):qc x c d o n=some (bz d (o+(dx (x.take j)).1.toNat) (dx (x.drop (j+1))).1):=by
  unfold qc;rw [h,if_neg (by omega),Int.toNat_natCast,if_pos aP]
theorem C3{P:Program}{A:e0}{N:Nat}{ao:List Nat}{E:Env}{S:List (ar B)}{t n e c b o j:Nat}{m:Int}{x i:Operand}{k:IntKind}(al:aX E x=some (.slice (some ⟨b,o,none⟩) n c))(af:aX E i=some (.int k m))(aL:iZ P t=some (e,1))(hm:m=(j:Int))(aI:j<n):dw P B A N ao E S (.indexAddr t x i) (.pointer (some ⟨b,o+j,none⟩)):=by
  have h:dw P B A N ao E S (.indexAddr t x i) (.pointer (some ((⟨b,o,none⟩:Addr).add j))):=Kn (j:=j) al af aL hm aI (Nat.mul_one j)
  rwa [nq]at h
abbrev hs(p:an (List UInt8)):ar B:=eO p 9 1 fR
theorem x0(r:Nat)(c6 c1 bW eF:Value)(p:an (List UInt8))(aC:p.Own)(i:Nat)(af:i≤1000000):a6 B 225 [ag r,aa (i:Int)] [U r [c6,c1,bW,eF,az p] 230,hs p] (fun v S=>v= .tuple #[aa (dU p.l i).1,.bool (dU p.l i).2]∧S=[U r [c6,c1,bW,eF,az p] 230,hs p]):=by
 refine dN 29 Tryz.func225 fun ba bf=>?_
 have ly:=p.small
 refine bT ?_ ?_<;>intro ab
 ·exact aO ⟨by rw [SS ah],rfl⟩
 obtain⟨q,bF⟩:=fp p.l i
 refine aj ?_
 refine ap (eQ (a2:=fR) (aN:=1) (i:=i) (k:=0) (fun _=>rfl) rfl au (dT aC rfl) ad bF rfl) ?_
 refine gj (xN q) ?_
 rw [tH]
 refine cp ?_
 refine bp (aa (dx q).1) ?_
 refine bp (aa (dx q).2) ?_
 refine aj ?_
 exact aO ⟨by rw [SR bF],rfl⟩
theorem Lg(b N bg o n:Nat)(d:Nat→Int)(vi:o+n≤N)(oe:N≤100)(x:List UInt8)(al:x.length≤5000000)(c:Int):a6 B 226 [str x,.int .u8 c,.slice (some ⟨b,o,none⟩) n n] [U b (qT N d) bg] (fun v S=>∃(d2:Nat→Int) (k:Bool),((k=true→qc x c.toNat.toUInt8 d o n=some d2)∧(k=false→qc x c.toNat.toUInt8 d o n=none∧d2=d))∧v= .bool k∧S=[U b (qT N d2) bg]):=by
 refine bM 59 Tryz.func226 fun ba bf=>?_
 refine gl (LR x c) ?_
 refine bD ?_ ?_<;>intro ab
 ·exact aO ⟨d,false,⟨fun e=>(by cases e),fun _=>⟨acT ch,rfl⟩⟩,rfl,rfl⟩
 obtain⟨j,aI⟩:=Int.eq_ofNat_of_zero_le ab
 have wM:j<x.length:=by have:=(Lib.indexByte_some aI).1;exact(List.getElem?_eq_some_iff.1 this).1
 rw [aI]
 have Vq:=GB (x.take j)
 have akl:=GB (x.drop (j+1))
 refine aj ?_
 refine ap (np (wK:=none) (ec:=0) (af:=j) (p:=x.take j) rfl ad (by exact rfl) ⟨_,rfl⟩ (Nat.zero_le _) ah (by simp)) ?_
 refine gj (xN (x.take j)) ?_
 rw [tH]
 refine cp ?_
 refine bp (aa (dx (x.take j)).1) ?_
 refine bp (aa (dx (x.take j)).2) ?_
 refine aj ?_
 refine ap (np (wL:=none) (ec:=j+1) (af:=x.length) (p:=x.drop (j+1)) rfl ad ⟨_,rfl⟩ (by exact rfl) ah (Nat.le_refl _) (List.take_of_length_le (by simp))) ?_
 refine gj (xN (x.drop (j+1))) ?_
 rw [tH]
 refine cp ?_
 refine bp (aa (dx (x.drop (j+1))).1) ?_
 refine bp (aa (dx (x.drop (j+1))).2) ?_
 refine aj ?_
 refine cc ?_ ?_<;>intro ae
 ·exact aO ⟨d,false,⟨fun e=>(by cases e),fun _=>⟨Dp aI (fun z=>by have:=z.1;have:=z.2.1;have:=z.2.2.1;have:=z.2.2.2.1;have:=z.2.2.2.2;first|omega|contradiction),rfl⟩⟩,rfl,rfl⟩
 refine cc ?_ ?_<;>intro av
 ·exact aO ⟨d,false,⟨fun e=>(by cases e),fun _=>⟨Dp aI (fun z=>by have:=z.1;have:=z.2.1;have:=z.2.2.1;have:=z.2.2.2.1;have:=z.2.2.2.2;first|omega|contradiction),rfl⟩⟩,rfl,rfl⟩
 refine cc ?_ ?_<;>intro aV
 ·exact aO ⟨d,false,⟨fun e=>(by cases e),fun _=>⟨Dp aI (fun z=>by have:=z.1;have:=z.2.1;have:=z.2.2.1;have:=z.2.2.2.1;have:=z.2.2.2.2;first|omega|contradiction),rfl⟩⟩,rfl,rfl⟩
 obtain⟨a,Vr⟩:=Int.eq_ofNat_of_zero_le Vq.1
 have vm:a<n:=by omega
 have ML:(dx (x.take j)).1.toNat=a:=by omega
 refine aj ?_
 refine cc ?_ ?_<;>intro bN
 ·exact aO ⟨d,false,⟨fun e=>(by cases e),fun _=>⟨Dp aI (fun z=>by have:=z.1;have:=z.2.1;have:=z.2.2.1;have:=z.2.2.2.1;have:=z.2.2.2.2;first|omega|contradiction),rfl⟩⟩,rfl,rfl⟩
 refine ap (C3 (j:=a) rfl rfl ad (by exact Vr) ah) ?_
 refine ap (ft (v:=aa (d (o+a))) rfl au ad (KO ah)) ?_
 refine bT ?_ ?_<;>intro c0
 ·exact aO ⟨d,false,⟨fun e=>(by cases e),fun _=>⟨Dp aI (fun z=>by have:=z.2.2.2.2;rw [ML]at this;contradiction),rfl⟩⟩,rfl,rfl⟩
 refine ap (C3 (j:=a) rfl rfl ad (by exact Vr) ah) ?_
 refine fq (js (k:=o+a) (aF:=qT N d) (ga:=qT N (bz d (o+a) (dx (x.drop (j+1))).1)) (v:=aa (dx (x.drop (j+1))).1) rfl rfl rfl au ad (by rw [Nat.blt_eq];simp;omega) (acS ah)) ?_
 refine aj ?_
 exact aO ⟨(bz d (o+a) (dx (x.drop (j+1))).1),true,⟨fun _=>by rw [acU aI ⟨by assumption,by assumption,by omega,by assumption,by rw [ML];assumption⟩,ML],fun e=>(by cases e)⟩,rfl,rfl⟩
theorem AK{P:Program}{A:e0}{N:Nat}{ao:List Nat}{E:Env}{S:List (ar B)}{t n aN:Nat}{bu:Addr}{x:Operand}(al:aX E x=some (.pointer (some bu)))(aL:p9 P t=some (n,aN)):dw P B A N ao E S (.slice t x none none none) (.slice (some bu) n n):=
  ⟨by simp,by simp,fun a w bg pos a8 g d aq aH=>by
    obtain⟨e,i,hu,n1,fB,aP⟩:=FE aL
    have b5:¬n=0:=by omega
    simp [execOp,aq.aX al,Instr.sliceAt,Instr.sureAddr,asAddr,Instr.sliceBounds,run_underlying hu,sizeOf,typeInfo,n1,b5,Addr.add]⟩
theorem Kf{P:Program}{A:e0}{N:Nat}{ao:List Nat}{E:Env}{S:List (ar B)}{t n e c b j:Nat}{m:Int}{x i:Operand}{k:IntKind}(al:aX E x=some (.slice (some ⟨b,0,none⟩) n c))(af:aX E i=some (.int k m))(aL:iZ P t=some (e,1))(hm:m=(j:Int))(aP:Nat.ble (j+1) n=true):dw P B A N ao E S (.indexAddr t x i) (.pointer (some ⟨b,j,none⟩)):=by
  have h:=C3 (P:=P) (A:=A) (N:=N) (ao:=ao) (S:=S) (o:=0) (j:=j) al af aL hm (Nat.le_of_ble_eq_true aP)
  rwa [Nat.zero_add]at h
theorem QT{α:Type}{a:an α}{aN l i:Nat}{x:α}{ab:l≤a.l.length}{av:a.l.length≤a.c}(h:a.l[l+i]?=some x):(a.cut aN l a.l.length a.c ab (Nat.le_refl _) av).l[i]?=some x:=by
  have aE:=(List.getElem?_eq_some_iff.1 h).1
  show((a.l.drop l).take (a.l.length-l))[i]?=some x
  rw [List.getElem?_take_of_lt (by omega),List.getElem?_drop];exact h
theorem C4{α:Type}{a:an α}{aN l:Nat}{ab:l≤a.l.length}{av:a.l.length≤a.c}:(a.cut aN l a.l.length a.c ab (Nat.le_refl _) av).l.length=a.l.length-l:=by
  show((a.l.drop l).take (a.l.length-l)).length=_;simp
abbrev kQ(l:List Int):Nat→Int:=fun k=>l.getD k 0
abbrev tI(a:an (Nat→Int)):ar B:=eO a 173 11 dd
abbrev mJ(a:an Mode):ar B:=eO a 177 2 gg
abbrev r5(a:an (Nat→Int)):ar B:=eO a 184 23 dP
structure Bh(p:an (List UInt8)):Prop where
  o:p.Own
  n:p.l.length≤200000
  q:∀x∈p.l,x.length≤5000000
def uI:List (List UInt8)→(Nat→Int)→Option (Nat→Int)
  |[],d=>some d
  |x::t,d=>match qc x 58 d 3 8 with
    |some d2=>uI t d2
    |none=>none
def wb(p:List (List UInt8)):Option (Nat→Int):=if(dU p 1).2=true∧(dU p 2).2=true∧(dU p 3).2=true then uI (p.drop 4) (kQ [(dU p 1).1,(dU p 2).1,(dU p 3).1])else none
theorem acV{p:List (List UInt8)}{i:Nat}(h:(dU p i).2=true):i<p.length:=by
  rcases Nat.lt_or_ge i p.length with g|g
  · exact g
  · rw [SS g]at h;cases h
theorem YP{p:List (List UInt8)}{i:Nat}{x:List UInt8}{d d2:Nat→Int}(h:p[i]?=some x)(aC:qc x 58 d 3 8=some d2):uI (p.drop i) d=uI (p.drop (i+1)) d2:=by rw [qX h,uI,aC]
theorem YQ{p:List (List UInt8)}{i:Nat}{x:List UInt8}{d:Nat→Int}(h:p[i]?=some x)(aC:qc x 58 d 3 8=none):uI (p.drop i) d=none:=by rw [qX h,uI,aC]
theorem Kg{p:List (List UInt8)}(h:(dU p 1).2=false∨(dU p 2).2=false∨(dU p 3).2=false):wb p=none:=by
  unfold wb;rw [if_neg];rintro⟨ab,ae,av⟩;simp_all
theorem aaB{p:List (List UInt8)}(ab:(dU p 1).2=true)(ae:(dU p 2).2=true)(av:(dU p 3).2=true):wb p=uI (p.drop 4) (kQ [(dU p 1).1,(dU p 2).1,(dU p 3).1]):=by
  unfold wb;rw [if_pos ⟨ab,ae,av⟩]
theorem afc(r:Nat)(c6 bW eF:Value)(p:an (List UInt8))(aC:Bh p)(aG:an (Nat→Int))(Is:aG.Own)(gp:aG.l.length≤200000):a6 B 159 [ag r] [U r [c6,az aG,bW,eF,az p] 230,hs p,tI aG] (fun v S=>∃(z2:an (Nat→Int)) (b:Bool),(z2.Own∧z2.l.length≤aG.l.length+1∧(b=true→∃d,wb p.l=some d∧z2.l=aG.l++[d])∧(b=false→wb p.l=none))∧v= .bool b∧S=[U r [c6,az z2,bW,eF,az p] 230,hs p,tI z2]):=by
 refine dN 62 Tryz.func159 fun ba bf=>?_
 have ly:=p.small
 refine aj ?_
 refine de fun ax=>?_
 refine im (aF:=[ag ax,.pointer (some ⟨ax,1,none⟩),.pointer (some ⟨ax,2,none⟩)]) .no rfl ad b2 b2 (by rfl) (by rfl) rfl rfl (fun ajw=>?_)
 refine aj ?_
 refine P3 3 ?_
 refine gN ?_
 refine bD ?_ ?_<;>intro ab
 ·refine ap (Kf (j:=0) rfl rfl ad rfl rfl) ?_
  refine dn (ag ax) ?_
  refine aj ?_
  refine eR (x0 r c6 (az aG) bW eF p aC.o 1 (by decide)) ?_
  refine cp ?_
  refine bp (aa (dU p.l 1).1) ?_
  refine bp (.bool (dU p.l 1).2) ?_
  refine bT ?_ ?_<;>intro ae
  ·refine Jl ?_
   refine aj ?_
   exact aO ⟨aG,false,⟨Is,Nat.le_succ _,fun e=>(by cases e),fun _=>Kg (.inl (by simpa using ae))⟩,rfl,rfl⟩
  refine I1 ?_
  refine gN ?_
  refine bD ?_ ?_<;>intro av
  ·refine ap (Kf (j:=1) rfl rfl ad rfl rfl) ?_
   refine dn (.pointer (some ⟨ax,1,none⟩)) ?_
   refine aj ?_
   refine eR (x0 r c6 (az aG) bW eF p aC.o 2 (by decide)) ?_
   refine cp ?_
   refine bp (aa (dU p.l 2).1) ?_
   refine bp (.bool (dU p.l 2).2) ?_
   refine bT ?_ ?_<;>intro aV
   ·refine Jl ?_
    refine aj ?_
    exact aO ⟨aG,false,⟨Is,Nat.le_succ _,fun e=>(by cases e),fun _=>Kg (.inr (.inl (by simpa using aV)))⟩,rfl,rfl⟩
   refine I1 ?_
   refine gN ?_
   refine bD ?_ ?_<;>intro bN
   ·refine ap (Kf (j:=2) rfl rfl ad rfl rfl) ?_
    refine dn (.pointer (some ⟨ax,2,none⟩)) ?_
    refine aj ?_
    refine eR (x0 r c6 (az aG) bW eF p aC.o 3 (by decide)) ?_
    refine cp ?_
    refine bp (aa (dU p.l 3).1) ?_
    refine bp (.bool (dU p.l 3).2) ?_
    refine bT ?_ ?_<;>intro c0
    ·refine Jl ?_
     refine aj ?_
     exact aO ⟨aG,false,⟨Is,Nat.le_succ _,fun e=>(by cases e),fun _=>Kg (.inr (.inr (by simpa using c0)))⟩,rfl,rfl⟩
    have um:4≤p.l.length:=acV (i:=3) ch
    have jZ:(p.cut 1 4 p.l.length p.c um (Nat.le_refl _) p.cap).l.length=p.l.length-4:=C4
    refine aj ?_
    refine I1 ?_
    refine gN ?_
    refine bD ?_ ?_<;>intro fO
    ·simp at fO
    refine N2 ?_
    refine aj ?_
    refine ap (xm (a:=p) (aN:=1) (l:=4) (h:=p.l.length) (m:=p.c) rfl ad (by exact⟨_,rfl⟩) (by exact rfl) (by exact rfl) (by intro h;exact rfl) um (Nat.le_refl _) p.cap (Nat.le_refl _)) ?_
    refine aj ?_
    rw [show(U ax [aa (dU p.l 1).1,aa (dU p.l 2).1,aa (dU p.l 3).1,ak,ak,ak,ak,ak,ak,ak,ak] 173:ar B)=U ax (qT 11 (kQ [(dU p.l 1).1,(dU p.l 2).1,(dU p.l 3).1])) 173 from rfl]
    refine ds (α:=Nat×(Nat→Int)) (fun⟨k,d⟩=>k≤p.l.length-4∧wb p.l=uI (p.l.drop (4+k)) d) (fun⟨k,d⟩=>[(40,aa (k:Int)),(39,aa ((p.cut 1 4 p.l.length p.c um (Nat.le_refl _) p.cap).l.length:Int)),(38,az (p.cut 1 4 p.l.length p.c um (Nat.le_refl _) p.cap)),(0,ag r),(3,ag ax)]) (fun⟨k,d⟩=>[U r [c6,az aG,bW,eF,az p] 230,hs p,tI aG,U ax (qT 11 d) 173]) (fun⟨k,d⟩=>p.l.length-k) (0,(kQ [(dU p.l 1).1,(dU p.l 2).1,(dU p.l 3).1])) ?_ dq aA ?_
    ·exact⟨Nat.zero_le _,aaB ch ch ch⟩
    rintro⟨k,d⟩ ⟨ai,aJ⟩
    dsimp only
    refine aj ?_
    refine c2 ?_ ?_<;>intro gk
    ·obtain⟨x,al⟩:∃x,p.l[4+k]?=some x:=⟨_,List.getElem?_eq_getElem (by rw [jZ]at gk;omega)⟩
     refine ic ?_
     refine fj ?_
     refine cC ?_
     refine mA ?_
     refine cC ?_
     refine dz ?_
     refine ap (jS rfl rfl ad (p.cut 1 4 p.l.length p.c um (Nat.le_refl _) p.cap).fl rfl (by rw [C4];omega) rfl) ?_
     refine ap (eQ (a2:=fR) (aN:=1) (i:=k) (k:=0) (fun _=>rfl) rfl au (C7 (fun _=>rfl) (dT aC.o rfl)) ad (QT al) rfl) ?_
     refine aj ?_
     refine ap (AK rfl ad) ?_
     refine cm (Lg ax 11 173 3 8 d (by decide) (by decide) x (aC.q x (List.mem_of_getElem? al)) 58) ?_
     rintro _ _ ⟨d2,rD,⟨o2,h7⟩,rfl,rfl⟩
     refine cx ?_
     refine bD ?_ ?_<;>intro hW
     ·exact aO ⟨aG,false,⟨Is,Nat.le_succ _,fun e=>(by cases e),fun _=>aJ.trans (YQ al (h7 (by simpa using hW)).1)⟩,rfl,rfl⟩
     refine cE (k+1,d2) ?_
     (try dsimp only);exact⟨by omega,aJ.trans (YP al (o2 (by simpa using hW)))⟩
    have nN:4+k=p.l.length:=by rw [jZ]at gk;omega
    refine aj ?_
    refine cZ [U r [c6,az aG,bW,eF,az p] 230,U ax (qT 11 d) 173] ad aA ?_
    refine aY [0,1,2,3,4,5] ?_
    refine bj 6 rfl (ed (bK:=qT 11 d) rfl au ad rfl (by rfl)) ?_
    refine aY [107] ?_
    refine qV (aF:=(([d]:List _).flatMap dd)) rfl .no rfl ad b2 b2 (by rfl) (by rfl) rfl rfl (fun Vs=>?_)
    refine aY [108] ?_
    refine p1 (a2:=dd) (c:=aG) (b:=an.lit Vs [d] (by simp)) rfl .no rfl rfl ad au dy (show Out (U Vs (([d]:List _).flatMap dd) 173) _ _ from au) ir (fun _=>rfl) (fun _=>rfl) (by show aG.l.length+1≤_;omega) (by show(aG.l.length+1)*_≤_;omega) rfl (fun z2 iv lc=>?_)
    refine df [9,10,11,112,99] ?_
    exact aO ⟨z2,true,⟨lc,by rw [iv,List.length_append];exact Nat.le_refl _,fun _=>⟨d,by rw [aJ,nN,List.drop_eq_nil_of_le (Nat.le_refl _),uI],iv⟩,fun e=>(by cases e)⟩,rfl,rfl⟩
   simp at bN
  simp at av
 simp at ab
def r6:List (List UInt8)→BitVec 32→Option (BitVec 32)
  |[],m=>some m
  |q::t,m=>if(dx q).2=0∧(dx q).1≤31∧¬((m>>>(dx q).1.toNat&&&BitVec.ofInt 32 1).toNat:Int)=1 then r6 t (m|||BitVec.ofInt 32 1<<<(dx q).1.toNat)else none
theorem aaC{p:List (List UInt8)}{i:Nat}{q:List UInt8}{m:BitVec 32}(h:p[i]?=some q)(a7:(dx q).2=0∧(dx q).1≤31∧¬((m>>>(dx q).1.toNat&&&BitVec.ofInt 32 1).toNat:Int)=1):r6 (p.drop i) m=r6 (p.drop (i+1)) (m|||BitVec.ofInt 32 1<<<(dx q).1.toNat):=by rw [qX h,r6,if_pos a7]
theorem Kh{p:List (List UInt8)}{i:Nat}{q:List UInt8}{m:BitVec 32}(h:p[i]?=some q)(a7:¬((dx q).2=0∧(dx q).1≤31∧¬((m>>>(dx q).1.toNat&&&BitVec.ofInt 32 1).toNat:Int)=1)):r6 (p.drop i) m=none:=by rw [qX h,r6,if_neg a7]
abbrev mi(l:List Mode):ar B:=all (l.reverse.map fun m=>kK m.q)
theorem SU{l m:List Mode}{x:Mode}(h:m=l++[x]):(all (kK x.q::l.reverse.map fun m=>kK m.q):ar B)=mi m:=by rw [h,mi,List.reverse_append];rfl
theorem afd(r:Nat)(c6 c1 eF:Value)(p:an (List UInt8))(aC:Bh p)(MM:1≤p.l.length)(dX:an Mode)(qD:dX.Own)(mh:dX.l.length≤200000):a6 B 160 [ag r] [U r [c6,c1,az dX,eF,az p] 230,hs p,mJ dX,mi dX.l] (fun v S=>∃(nP:an Mode) (b:Bool),(nP.Own∧(b=true→∃m,r6 (p.l.drop 1) 0#32=some m∧nP.l=dX.l++[⟨m,an.bt⟩])∧(b=false→nP=dX∧r6 (p.l.drop 1) 0#32=none))∧v= .bool b∧S=[U r [c6,c1,az nP,eF,az p] 230,hs p,mJ nP,mi nP.l]):=by
 refine BU 57 Tryz.func160 fun ba bf=>?_
 have ly:=p.small
 have ob:=MM
 have jZ:(p.cut 1 1 p.l.length p.c ob (Nat.le_refl _) p.cap).l.length=p.l.length-1:=C4
 refine cC ?_
 refine dz ?_
 refine ap (cj rfl) ?_
 refine e8 ?_
 refine cC ?_
 refine dz ?_
 refine ap (zI) ?_
 refine ve ad fun ax=>?_
 refine fq (kG rfl rfl rfl au ad rfl rfl) ?_
 refine e8 ?_
 refine cC ?_
 refine cC ?_
 refine dz ?_
 refine ap (cj rfl) ?_
 refine ap (ou rfl) ?_
 refine ap (ia ad) ?_
 refine ap (da ad) ?_
 refine ap (xm (a:=p) (aN:=1) (l:=1) (h:=p.l.length) (m:=p.c) rfl ad (by exact⟨_,rfl⟩) (by exact rfl) (by exact rfl) (by intro h;exact rfl) ob (Nat.le_refl _) p.cap (Nat.le_refl _)) ?_
 refine ap (Bt rfl ad) ?_
 refine ap (cj rfl) ?_
 refine e8 ?_
 refine mA ?_
 rw [show(U ax [db,bw] 177:ar B)=U ax [aQ (0#32).toNat,bw] 177 from rfl]
 refine ds (α:=Nat×BitVec 32) (fun⟨k,m⟩=>k≤p.l.length-1∧r6 (p.l.drop 1) 0#32=r6 (p.l.drop (1+k)) m) (fun⟨k,m⟩=>[(14,aa (k:Int)),(13,aa ((p.cut 1 1 p.l.length p.c ob (Nat.le_refl _) p.cap).l.length:Int)),(0,ag r),(3,ag ax)]) (fun⟨k,m⟩=>[U r [c6,c1,az dX,eF,az p] 230,hs p,mJ dX,mi dX.l,U ax [aQ (m).toNat,bw] 177]) (fun⟨k,m⟩=>p.l.length-k) (0,0#32) ?_ dq aA ?_
 ·exact⟨Nat.zero_le _,rfl⟩
 ·rintro⟨k,m⟩ ⟨ai,aJ⟩
  dsimp only
  refine cC ?_
  refine dz ?_
  refine ap (cj rfl) ?_
  refine e8 ?_
  refine cC ?_
  refine c2 (fun ab=>?_) fun ab=>?_
  ·obtain⟨x,al⟩:∃x,p.l[1+k]?=some x:=⟨_,List.getElem?_eq_getElem (by rw [jZ]at ab;omega)⟩
   have Bn:p.l[k+1]?=some x:=by rw [Nat.add_comm];exact al
   have akm:=GB x
   refine ic ?_
   refine fj ?_
   refine cC ?_
   refine mA ?_
   refine cC ?_
   refine dz ?_
   refine ap (cj rfl) ?_
   refine ap (cj rfl) ?_
   refine e8 ?_
   refine cC ?_
   refine dz ?_
   refine ap (cj rfl) ?_
   refine ap (cj rfl) ?_
   refine ap (mE rfl rfl ah ah) ?_
   rw [show(1+(k:Int))=((k+1:Nat):Int)by omega]
   refine E7 (x0 r c6 c1 (az dX) eF p aC.o (k+1) (by have:=aC.n;omega)) ?_
   rintro _ _ ⟨rfl,rfl⟩
   simp only [List.cons_append,List.nil_append]
   rw [SR Bn]
   refine ap (cj rfl) ?_
   refine ap (cj (v:=aa (dx x).1) rfl) ?_
   refine ap (cj (v:= .bool ((dx x).2==0)) rfl) ?_
   refine ap (cj rfl) ?_
   refine ap (cj rfl) ?_
   refine e8 ?_
   refine cC ?_
   refine cC ?_
   refine dz ?_
   refine ap (cj rfl) ?_
   refine ap (cj rfl) ?_
   refine ap (cj rfl) ?_
   refine qW (t:=26) rfl (fun ae=>?_) (fun ae=>?_)
   ·replace ae:=gX ae
    refine jw 26 ?_
    refine jw 26 ?_
    refine ap (cj rfl) ?_
    refine ap (cj rfl) ?_
    refine jw 30 ?_
    refine jw 30 ?_
    refine jw 30 ?_
    refine jw 30 ?_
    refine jw 30 ?_
    refine jw 30 ?_
    refine ap (cj rfl) ?_
    refine e8 ?_
    refine Cp rfl rfl ?_
    refine cC ?_
    refine dz ?_
    refine ap (cj rfl) ?_
    refine e8 ?_
    refine nv ?_
    refine pf ?_
    refine vE ?_
    refine pf ?_
    refine Ch ?_
    refine vE ?_
    refine pf ?_
    refine dA (.nil _) (sB rfl rfl) ?_
    exact⟨[U r [c6,c1,az dX,eF,az p] 230,hs p,mJ dX,mi dX.l],⟨dX,false,⟨qD,fun e=>(by cases e),fun _=>⟨rfl,aJ.trans (Kh al (fun z=>by have lL:=z.1;have c3:=z.2.1;have l8:=z.2.2;first|omega|contradiction|simp_all))⟩⟩,rfl,rfl⟩,_,cd⟩
   ·replace ae:=gX ae
    refine ap (cj rfl) (hw:=(.yes 26 rfl rfl rfl)) ?_
    refine ap (cj rfl) (hw:=(.yes 26 rfl rfl rfl)) ?_
    refine ap (cj rfl) ?_
    refine ap (cj rfl) ?_
    refine qW (t:=30) rfl (fun av=>?_) (fun av=>?_)
    ·replace av:=gX av
     refine jw 30 ?_
     refine jw 30 ?_
     refine jw 30 ?_
     refine jw 30 ?_
     refine jw 30 ?_
     refine jw 30 ?_
     refine ap (cj rfl) ?_
     refine e8 ?_
     refine Cp rfl rfl ?_
     refine cC ?_
     refine dz ?_
     refine ap (cj rfl) ?_
     refine e8 ?_
     refine nv ?_
     refine pf ?_
     refine vE ?_
     refine pf ?_
     refine Ch ?_
     refine vE ?_
     refine pf ?_
     refine dA (.nil _) (sB rfl rfl) ?_
     exact⟨[U r [c6,c1,az dX,eF,az p] 230,hs p,mJ dX,mi dX.l],⟨dX,false,⟨qD,fun e=>(by cases e),fun _=>⟨rfl,aJ.trans (Kh al (fun z=>by have lL:=z.1;have c3:=z.2.1;have l8:=z.2.2;first|omega|contradiction|simp_all))⟩⟩,rfl,rfl⟩,_,cd⟩
    ·replace av:=gX av
     refine ap (ia ad) (hw:=(.yes 30 rfl rfl rfl)) ?_
     refine ap (da (v:=aQ m.toNat) ad) (hw:=(.yes 30 rfl rfl rfl)) ?_
     refine ap (cj rfl) (hw:=(.yes 30 rfl rfl rfl)) ?_
     refine ap (xq rfl rfl rfl ah ah) (hw:=(.yes 30 rfl rfl rfl)) ?_
     refine ap (g6 rfl rfl (dM _) rfl rfl) (hw:=(.yes 30 rfl rfl rfl)) ?_
     refine ap (cj rfl) (hw:=(.yes 30 rfl rfl rfl)) ?_
     refine ap (cj rfl) ?_
     refine e8 ?_
     refine c2 (fun aV=>?_) fun aV=>?_
     ·refine cC ?_
      refine dz ?_
      refine ap (cj rfl) ?_
      refine e8 ?_
      refine nv ?_
      refine pf ?_
      refine vE ?_
      refine pf ?_
      refine Ch ?_
      refine vE ?_
      refine pf ?_
      refine dA (.nil _) (sB rfl rfl) ?_
      exact⟨[U r [c6,c1,az dX,eF,az p] 230,hs p,mJ dX,mi dX.l],⟨dX,false,⟨qD,fun e=>(by cases e),fun _=>⟨rfl,aJ.trans (Kh al (fun z=>by have lL:=z.1;have c3:=z.2.1;have l8:=z.2.2;first|omega|contradiction|simp_all))⟩⟩,rfl,rfl⟩,_,cd⟩
     ·refine ic ?_
      refine fj ?_
      refine cZ [U ax [aQ (m).toNat,bw] 177] ad aA ?_
      refine bG 0 rfl (hn ad) ?_
      refine bj 1 rfl (da (v:=aQ m.toNat) ad) ?_
      refine bG 2 rfl (dD rfl) ?_
      refine bj 3 rfl (Ap rfl rfl rfl ah ah) ?_
      refine bj 4 rfl (g6 rfl rfl (dM _) (dM _) rfl) ?_
      refine bG 5 rfl (hn ad) ?_
      refine jx 6 ?_
      refine l4 rfl dy (jr rfl rfl rfl au ad kC) ?_
      refine pc ?_
      try simp only [List.cons_append,List.nil_append,List.append_nil]
      refine tm ?_
      refine fj ?_
      refine dz ?_
      refine ap (mE rfl rfl ah ah) ?_
      refine ap (cj rfl) ?_
      refine uF ?_
      refine k2 (k+1,m|||BitVec.ofInt 32 1<<<(dx x).1.toNat) ?_ ?_ ?_ ?_
      ·(try dsimp only);exact⟨by omega,aJ.trans (aaC al ⟨by assumption,by assumption,by assumption⟩)⟩
      ·(try dsimp only);omega
      ·refine⟨?_,?_,?_,?_,trivial⟩<;>rfl
      ·(try dsimp only);exact⟨_,aA⟩
  ·have nN:1+k=p.l.length:=by rw [jZ]at ab;omega
   refine gE jX 180 2 ?_
   refine yE (m:=dX.l.reverse.map fun m=>kK m.q) (kK (an.bt:an (Nat→Int))) aA ?_
   refine tx ?_
   refine tn ?_
   refine tp ?_
   refine to ?_
   refine fj ?_
   refine cC ?_
   refine cZ [U r [c6,c1,az dX,eF,az p] 230,U ax [aQ (m).toNat,bw] 177] ad aA ?_
   refine bG 0 rfl (dD rfl) ?_
   refine bG 1 rfl (dD rfl) ?_
   refine bG 2 rfl (mz rfl) ?_
   refine bG 3 rfl (hn ad) ?_
   refine bG 4 rfl (hn ad) ?_
   refine bj 5 rfl (da (v:=az dX) ad) ?_
   refine bj 6 rfl (ed (bK:=gg (⟨m,an.bt⟩:Mode)) rfl au ad rfl (by rfl)) ?_
   refine jx 7 ?_
   refine qV (aF:=(([(⟨m,an.bt⟩:Mode)]:List _).flatMap gg)) rfl .no rfl ad b2 b2 (by rfl) (by rfl) rfl rfl (fun Vt=>?_)
   refine jx 8 ?_
   refine p1 (a2:=gg) (c:=dX) (b:=an.lit Vt [(⟨m,an.bt⟩:Mode)] (by simp)) rfl .no rfl rfl ad au dy (show Out (U Vt (([(⟨m,an.bt⟩:Mode)]:List _).flatMap gg) 177) _ _ from au) ir (fun _=>rfl) (fun _=>rfl) (by show dX.l.length+1≤_;omega) (by show(dX.l.length+1)*_≤_;omega) rfl (fun nP iv lc=>?_)
   refine bG 9 rfl (mz rfl) ?_
   refine bG 10 rfl (hn ad) ?_
   refine bG 11 rfl (hn ad) ?_
   refine jx 12 ?_
   refine l4 rfl dy (jr rfl rfl rfl au ad kC) ?_
   refine pc ?_
   try simp only [List.cons_append,List.nil_append,List.append_nil]
   refine fj ?_
   refine cC ?_
   refine dz ?_
   refine ap (cj rfl) ?_
   refine e8 ?_
   refine nv ?_
   refine dA (.nil _) (sB rfl rfl) ?_
   rw [SU (x:=(⟨m,an.bt⟩:Mode)) iv]
   exact⟨[U r [c6,c1,az nP,eF,az p] 230,hs p,mJ nP,mi nP.l],⟨nP,true,⟨lc,fun _=>⟨m,by rw [aJ,nN,List.drop_eq_nil_of_le (Nat.le_refl _),r6],iv⟩,fun e=>(by cases e)⟩,rfl,rfl⟩,_,cd⟩
def s9(k:Int):List UInt8:=if k=1 then [114,101,102,117,115,101]else if k=2 then [111,108,100]else if k=3 then [110,101,119]else []
def zw(w:List UInt8):Int:=if w=s9 1 then 1 else if w=s9 2 then 2 else if w=s9 3 then 3 else 0
theorem acW{k:Int}{w:List UInt8}(ab:1≤k∧k≤3)(h:s9 k=w):zw w=k:=by
  subst h
  rcases(show k=1∨k=2∨k=3 by omega)with rfl|rfl|rfl<;>decide
theorem acX{w:List UInt8}(h:∀j:Int,1≤j→j<4→s9 j≠w):zw w=0:=by
  unfold zw;rw [if_neg (Ne.symm (h 1 (by decide) (by decide))),if_neg (Ne.symm (h 2 (by decide) (by decide))),if_neg (Ne.symm (h 3 (by decide) (by decide)))]
def sK(p:List (List UInt8))(l:List (BitVec 32×List (Nat→Int))):Option (List (BitVec 32×List (Nat→Int))):=match l.getLast? with
  |none=>none
  |some z=>if(dU p 1).2=true∧p.length=3 then(if zw (p.getD 2 [])=0 then none else some (l.dropLast++[(z.1,z.2++[kQ [(dU p 1).1,zw (p.getD 2 [])]])]))else none
theorem PK{p:List (List UInt8)}{l:List (BitVec 32×List (Nat→Int))}(h:¬((dU p 1).2=true∧p.length=3)):sK p l=none:=by
  unfold sK;split
  · rfl
  · rw [if_neg h]
theorem YR{p:List (List UInt8)}{l:List (BitVec 32×List (Nat→Int))}{w:List UInt8}(hw:p[2]?=some w)(h:zw w=0):sK p l=none:=by
  have e:p.getD 2 []=w:=by simp [List.getD,hw]
  unfold sK;split
  · rfl
  · rw [e,if_pos h];split<;>rfl
theorem YS{p:List (List UInt8)}{cJ:List (BitVec 32×List (Nat→Int))}{z:BitVec 32×List (Nat→Int)}{w:List UInt8}{k:Int}(ab:(dU p 1).2=true)(av:p.length=3)(hw:p[2]?=some w)(h:zw w=k)(ai:k≠0):sK p (cJ++[z])=some (cJ++[(z.1,z.2++[kQ [(dU p 1).1,k]])]):=by
  have e:p.getD 2 []=w:=by simp [List.getD,hw]
  unfold sK
  rw [List.getLast?_concat,e,h]
  show(if _ then _ else _)=_
  rw [if_pos ⟨ab,av⟩,if_neg ai,List.dropLast_concat]
theorem aaD{α:Type}{l:List α}(h:¬l.length=0):∃cJ x,l=cJ++[x]:=by
  have aP:l≠[]:=fun e=>h (by rw [e];rfl)
  exact⟨l.dropLast,l.getLast aP,(List.dropLast_concat_getLast aP).symm⟩
theorem aaE(k:Int):a6 B 69 [aa k] [] (fun v S=>v=str (s9 k)∧S=[]):=by
 refine bM 10 Tryz.func69 fun ba bf=>?_
 refine bD ?_ ?_<;>intro ab
 ·exact aO ⟨by unfold s9;rw [if_pos ch],rfl⟩
 refine bD ?_ ?_<;>intro ae
 ·exact aO ⟨by unfold s9;rw [if_neg ch,if_pos ch],rfl⟩
 refine bD ?_ ?_<;>intro av
 ·exact aO ⟨by unfold s9;rw [if_neg ch,if_neg ch,if_pos ch],rfl⟩
 exact aO ⟨by unfold s9;rw [if_neg ch,if_neg ch,if_neg ch],rfl⟩
theorem acY(r:Nat)(c6 c1 eF:Value)(p:an (List UInt8))(aC:Bh p)(dX:an Mode)(qD:dX.Own)(BB:∀m∈dX.l,m.q.Own∧m.q.l.length≤200000):a6 B 161 [ag r] [U r [c6,c1,az dX,eF,az p] 230,hs p,mJ dX,mi dX.l] (fun v S=>∃(nP:an Mode) (b:Bool),(nP.Own∧(b=true→sK p.l (dX.l.map lr)=some (nP.l.map lr)∧∃cJ m cI,dX.l=cJ++[m]∧nP.l=cJ++[⟨m.aw,cI⟩]∧cI.Own∧cI.l.length≤m.q.l.length+1)∧(b=false→nP=dX∧sK p.l (dX.l.map lr)=none))∧v= .bool b∧S=[U r [c6,c1,az nP,eF,az p] 230,hs p,mJ nP,mi nP.l]):=by
 refine dN 69 Tryz.func161 fun ba bf=>?_
 have ly:=p.small
 have akn:=dX.small
 refine aj ?_
 refine eR (x0 r c6 c1 (az dX) eF p aC.o 1 (by decide)) ?_
 refine cp ?_
 refine bp (aa (dU p.l 1).1) ?_
 refine bp (.bool (dU p.l 1).2) ?_
 refine aj ?_
 refine cc ?_ ?_<;>intro ab
 ·exact aO ⟨dX,false,⟨qD,fun e=>(by cases e),fun _=>⟨rfl,PK (fun z=>by simp_all)⟩⟩,rfl,rfl⟩
 refine cc ?_ ?_<;>intro ae
 ·exact aO ⟨dX,false,⟨qD,fun e=>(by cases e),fun _=>⟨rfl,PK (fun z=>by have:=z.2;omega)⟩⟩,rfl,rfl⟩
 refine bD ?_ ?_<;>intro av
 ·exact aO ⟨dX,false,⟨qD,fun e=>(by cases e),fun _=>⟨rfl,by rw [List.length_eq_zero_iff.1 (show dX.l.length=0 by omega)];rfl⟩⟩,rfl,rfl⟩
 obtain⟨w,hw⟩:=fp p.l 2
 obtain⟨cJ,m,wH⟩:=aaD (l:=dX.l) (by omega)
 have Ip:dX.l.length=cJ.length+1:=by rw [wH];simp
 have hm:dX.l[cJ.length]?=some m:=by rw [wH];simp
 have tc:=BB m (List.mem_of_getElem? hm)
 refine aj ?_
 refine ds (α:=Int) (fun er=>1≤er∧er≤4∧∀j:Int,1≤j→j<er→s9 j≠w) (fun er=>[(5,aa er),(0,ag r),(3,aa (dU p.l 1).1)]) (fun er=>[U r [c6,c1,az dX,eF,az p] 230,hs p,mJ dX,mi dX.l]) (fun er=>(4-er).toNat) 1 ?_ dq aA ?_
 ·exact⟨by decide,by decide,fun j cy bR=>by omega⟩
 rintro er ⟨o2,h7,yg⟩
 refine aj ?_
 refine c2 ?_ ?_<;>intro aV
 ·refine gN ?_
  refine k3 [U r [c6,c1,az dX,eF,az p] 230,hs p] ad aA ?_
  refine bG 0 rfl (dD rfl) ?_
  refine bG 2 rfl (dD rfl) ?_
  refine bG 3 rfl (mz rfl) ?_
  refine bG 4 rfl (hn ad) ?_
  refine bj 5 rfl (da ad) ?_
  refine bG 6 rfl (iW (j:=2) rfl rfl ad (p).fl rfl (by omega) rfl) ?_
  refine bj 7 rfl (eQ (a2:=fR) (aN:=1) (i:=2) (k:=0) (fun _=>rfl) rfl au (dT aC.o rfl) ad hw rfl) ?_
  refine jx 1 ?_
  refine gU (aaE er) ?_
  refine bj 8 rfl (k6 (a:=s9 er) (b:=w) rfl rfl rfl) ?_
  refine pc ?_
  try simp only [List.cons_append,List.nil_append,List.append_nil]
  refine fj ?_
  refine c2 ?_ ?_<;>intro bN
  ·refine sa (tv (l:=dX.l.reverse.map fun m=>kK m.q) (gf:=cJ.reverse.map fun m=>kK m.q) (a:=kK m.q) (by rw [wH,List.reverse_append];exact List.Perm.refl _) au) ?_
   refine aj ?_
   refine k3 [U r [c6,c1,az dX,eF,az p] 230] ad aA ?_
   refine bG 0 rfl (dD rfl) ?_
   refine bG 1 rfl (mz rfl) ?_
   refine bG 2 rfl (hn ad) ?_
   refine bG 3 rfl (hn ad) ?_
   refine bj 4 rfl (da ad) ?_
   refine bG 5 rfl (dD rfl) ?_
   refine bG 6 rfl (mz rfl) ?_
   refine bG 7 rfl (hn ad) ?_
   refine bG 8 rfl (hn ad) ?_
   refine bj 9 rfl (da ad) ?_
   refine bG 10 rfl (afD rfl ad) ?_
   refine bj 11 rfl (y1 rfl rfl (by omega) (by omega)) ?_
   refine bG 12 rfl (iW (j:=cJ.length) rfl rfl ad (dX).fl (by omega) (by omega) rfl) ?_
   refine bG 13 rfl (dD rfl) ?_
   refine pc ?_
   try simp only [List.cons_append,List.nil_append,List.append_nil]
   refine fj ?_
   refine cC ?_
   refine dz ?_
   refine ap (cj rfl) ?_
   refine ap (cj rfl) ?_
   refine ap (ou rfl) ?_
   refine ap (QX rfl ad rfl) ?_
   refine ap (eQ (a2:=gg) (aN:=2) (i:=cJ.length) (k:=1) (a:=m) (fun _=>rfl) rfl au (dT qD rfl) ad hm rfl) ?_
   refine aj ?_
   refine im (aF:=(([(kQ [(dU p.l 1).1,er])]:List _).flatMap jX)) .no rfl ad (by decide) (by decide) (by rfl) (by rfl) rfl rfl (fun Vu=>?_)
   refine j7 (a2:=jX) (c:=m.q) (b:=an.lit Vu [(kQ [(dU p.l 1).1,er])] (by simp)) .no rfl rfl ad au (show Out (U Vu (([(kQ [(dU p.l 1).1,er])]:List _).flatMap jX) 180) _ _ from au) ir (fun _=>rfl) (fun _=>rfl) (by show m.q.l.length+1≤_;omega) (by show(m.q.l.length+1)*_≤_;omega) rfl (fun cI iv lc=>?_)
   refine FC (m:=cJ.reverse.map fun m=>kK m.q) (kK cI) aA ?_
   rw [SU (l:=cJ) (x:=(⟨m.aw,cI⟩:Mode)) (m:=(cJ++[(⟨m.aw,cI⟩:Mode)])) rfl]
   refine aj ?_
   refine fq (KV (a2:=gg) (aN:=2) (k:=1) (i:=cJ.length) (a:=m) (y:=(⟨m.aw,cI⟩:Mode)) (qw:=(cJ++[(⟨m.aw,cI⟩:Mode)])) qD rfl rfl (fun _=>rfl) (by decide) hm rfl rfl au ad (by rw [wH];simp)) ?_
   refine aj ?_
   have eM:(cJ++[(⟨m.aw,cI⟩:Mode)]).length=dX.l.length:=by rw [wH];simp
   have LF:(mJ (qi dX (cJ++[(⟨m.aw,cI⟩:Mode)]) eM):ar B)=row (az dX) 177 2 dX.l.length ((cJ++[(⟨m.aw,cI⟩:Mode)]).flatMap gg):=by show row (.slice dX.bn (qi dX (cJ++[(⟨m.aw,cI⟩:Mode)]) eM).l.length dX.c) 177 2 (qi dX (cJ++[(⟨m.aw,cI⟩:Mode)]) eM).l.length _=_;rw [show(qi dX (cJ++[(⟨m.aw,cI⟩:Mode)]) eM).l.length=dX.l.length from eM]
   have hj:(U r [c6,c1,az (qi dX (cJ++[(⟨m.aw,cI⟩:Mode)]) eM),eF,az p] 230:ar B)=U r [c6,c1,az dX,eF,az p] 230:=by show U r [c6,c1,.slice dX.bn (qi dX (cJ++[(⟨m.aw,cI⟩:Mode)]) eM).l.length dX.c,eF,az p] 230=_;rw [show(qi dX (cJ++[(⟨m.aw,cI⟩:Mode)]) eM).l.length=dX.l.length from eM]
   rw [←LF, ←hj]
   exact aO ⟨qi dX (cJ++[(⟨m.aw,cI⟩:Mode)]) eM,true,⟨fun q e=>qD q e,fun _=>⟨by rw [wH,List.map_append];show _=some (List.map lr (cJ++[_]));rw [List.map_append];exact(YS (by simpa using ab) (by omega) hw (acW ⟨o2,by omega⟩ bN) (by omega)).trans (by show _=some (_++[(m.aw,cI.l)]);rw [iv];rfl),cJ,m,cI,wH,rfl,lc,by rw [iv,List.length_append];exact Nat.le_refl _⟩,fun e=>(by cases e)⟩,rfl,rfl⟩
  refine aj ?_
  exact cE (er+1) ⟨by omega,by omega,fun j cy bR=>by by_cases q:j=er;rw [q];assumption;exact yg j cy (by omega)⟩
 refine aj ?_
 exact aO ⟨dX,false,⟨qD,fun e=>(by cases e),fun _=>⟨rfl,YR hw (acX fun j cy bR=>yg j cy (by omega))⟩⟩,rfl,rfl⟩
def q3(p:Int):List UInt8:=if p=1 then [105,100,108,101]else if p=2 then [108,111,110,103,101,115,116]else if p=3 then [97,112,97,114,116]else []
def oD(w:List UInt8):Int:=if w=q3 1 then 1 else if w=q3 2 then 2 else if w=q3 3 then 3 else 0
theorem Ow(w:List UInt8):0≤oD w∧oD w≤3:=by
  unfold oD
  repeat' split
  all_goals omega
theorem aaF{k:Int}{w:List UInt8}(ab:1≤k∧k≤3)(h:q3 k=w):oD w=k:=by
  subst h
  rcases(show k=1∨k=2∨k=3 by omega)with rfl|rfl|rfl<;>decide
theorem aaG{k:Int}{w:List UInt8}(ab:1≤k∧k≤3)(h:¬q3 k=w):oD w≠k:=by
  intro e
  unfold oD at e
  split at e
  · rename_i q;exact h (by rw [←e, ←q])
  · split at e
    · rename_i q;exact h (by rw [←e, ←q])
    · split at e
      · rename_i q;exact h (by rw [←e, ←q])
      · omega
def y9(x:List UInt8)(d:Nat→Int):Option (Nat→Int):=match qc x 62 d 19 4 with
  |some d2=>some d2
  |none=>qc x 58 d 3 16
theorem aaH{x:List UInt8}{d d2:Nat→Int}(h:qc x 62 d 19 4=some d2):y9 x d=some d2:=by unfold y9;rw [h]
theorem QU{x:List UInt8}{d:Nat→Int}(h:qc x 62 d 19 4=none):y9 x d=qc x 58 d 3 16:=by unfold y9;rw [h]
def rU:List (List UInt8)→(Nat→Int)→Option (Nat→Int)
  |[],d=>some d
  |x::t,d=>match y9 x d with
    |some d2=>rU t d2
    |none=>none
theorem PL{p:List (List UInt8)}{i:Nat}{x:List UInt8}{d d2:Nat→Int}(h:p[i]?=some x)(aC:y9 x d=some d2):rU (p.drop i) d=rU (p.drop (i+1)) d2:=by rw [qX h,rU,aC]
theorem YT{p:List (List UInt8)}{i:Nat}{x:List UInt8}{d:Nat→Int}(h:p[i]?=some x)(aC:y9 x d=none):rU (p.drop i) d=none:=by rw [qX h,rU,aC]
def wc(p:List (List UInt8)):Option (Nat→Int):=if(dU p 1).2=true∧(dU p 2).2=true∧4≤p.length then(match rU (p.drop 4) (kQ [(dU p 1).1,(dU p 2).1,oD (p.getD 3 [])])with
    |some d=>if d 2=0 then none else some d
    |none=>none)else none
theorem Ki{p:List (List UInt8)}(h:¬((dU p 1).2=true∧(dU p 2).2=true∧4≤p.length)):wc p=none:=if_neg h
theorem aaI{p:List (List UInt8)}{w:List UInt8}(hw:p[3]?=some w)(h:rU (p.drop 4) (kQ [(dU p 1).1,(dU p 2).1,oD w])=none):wc p=none:=by
  have e:p.getD 3 []=w:=by simp [List.getD,hw]
  unfold wc;rw [e,h];split<;>rfl
theorem aaJ{p:List (List UInt8)}{w:List UInt8}{d:Nat→Int}(hw:p[3]?=some w)(ab:(dU p 1).2=true)(ae:(dU p 2).2=true)(h:rU (p.drop 4) (kQ [(dU p 1).1,(dU p 2).1,oD w])=some d):wc p=if d 2=0 then none else some d:=by
  have e:p.getD 3 []=w:=by simp [List.getD,hw]
  have aE:=(List.getElem?_eq_some_iff.1 hw).1
  unfold wc;rw [e,h,if_pos ⟨ab,ae,by omega⟩]
theorem RY(p:Int):a6 B 70 [aa p] [] (fun v S=>v=str (q3 p)∧S=[]):=by
 refine bM 10 Tryz.func70 fun ba bf=>?_
 refine bD ?_ ?_<;>intro ab
 ·exact aO ⟨by unfold q3;rw [if_pos ch],rfl⟩
 refine bD ?_ ?_<;>intro ae
 ·exact aO ⟨by unfold q3;rw [if_neg ch,if_pos ch],rfl⟩
 refine bD ?_ ?_<;>intro av
 ·exact aO ⟨by unfold q3;rw [if_neg ch,if_neg ch,if_pos ch],rfl⟩
 exact aO ⟨by unfold q3;rw [if_neg ch,if_neg ch,if_neg ch],rfl⟩
theorem afe(r:Nat)(c6 c1 bW:Value)(p:an (List UInt8))(aC:Bh p)(es:an (Nat→Int))(Bu:es.Own)(Uf:es.l.length≤200000):a6 B 162 [ag r] [U r [c6,c1,bW,az es,az p] 230,hs p,r5 es] (fun v S=>∃(z3:an (Nat→Int)) (b:Bool),(z3.Own∧z3.l.length≤es.l.length+1∧(b=true→∃d,wc p.l=some d∧z3.l=es.l++[d])∧(b=false→wc p.l=none))∧v= .bool b∧S=[U r [c6,c1,bW,az z3,az p] 230,hs p,r5 z3]):=by
 refine dN 91 Tryz.func162 fun ba bf=>?_
 have ly:=p.small
 refine aj ?_
 refine eR (x0 r c6 c1 bW (az es) p aC.o 1 (by decide)) ?_
 refine cp ?_
 refine bp (aa (dU p.l 1).1) ?_
 refine bp (.bool (dU p.l 1).2) ?_
 refine aj ?_
 refine eR (x0 r c6 c1 bW (az es) p aC.o 2 (by decide)) ?_
 refine cp ?_
 refine bp (aa (dU p.l 2).1) ?_
 refine bp (.bool (dU p.l 2).2) ?_
 refine aj ?_
 refine cc ?_ ?_<;>intro ab
 ·exact aO ⟨es,false,⟨Bu,Nat.le_succ _,fun e=>(by cases e),fun _=>Ki (fun z=>by simp_all)⟩,rfl,rfl⟩
 refine cc ?_ ?_<;>intro ae
 ·exact aO ⟨es,false,⟨Bu,Nat.le_succ _,fun e=>(by cases e),fun _=>Ki (fun z=>by simp_all)⟩,rfl,rfl⟩
 refine bD ?_ ?_<;>intro av
 ·exact aO ⟨es,false,⟨Bu,Nat.le_succ _,fun e=>(by cases e),fun _=>Ki (fun z=>by omega)⟩,rfl,rfl⟩
 have um:4≤p.l.length:=by omega
 have jZ:(p.cut 1 4 p.l.length p.c um (Nat.le_refl _) p.cap).l.length=p.l.length-4:=C4
 obtain⟨w,hw⟩:=fp p.l 3
 refine aj ?_
 refine de fun ax=>?_
 refine ds (α:=Int×Int) (fun⟨er,cq⟩=>1≤er∧er≤4∧cq=if oD w<er then oD w else 0) (fun⟨er,cq⟩=>[(8,aa er),(0,ag r),(7,ag ax)]) (fun⟨er,cq⟩=>[U r [c6,c1,bW,az es,az p] 230,hs p,r5 es,U ax [aa (dU p.l 1).1,aa (dU p.l 2).1,aa cq,ak,ak,ak,ak,ak,ak,ak,ak,ak,ak,ak,ak,ak,ak,ak,ak,ak,ak,ak,ak] 184]) (fun⟨er,cq⟩=>(4-er).toNat) (1,0) ?_ dq aA ?_
 ·exact⟨by decide,by decide,by have:=Ow w;split<;>omega⟩
 rintro⟨er,cq⟩ ⟨o2,h7,It⟩
 dsimp only
 refine aj ?_
 refine c2 ?_ ?_<;>intro aV
 ·refine aj ?_
  refine k3 [U r [c6,c1,bW,az es,az p] 230,hs p] ad aA ?_
  refine bG 0 rfl (dD rfl) ?_
  refine bG 2 rfl (dD rfl) ?_
  refine bG 3 rfl (mz rfl) ?_
  refine bG 4 rfl (hn ad) ?_
  refine bj 5 rfl (da ad) ?_
  refine bG 6 rfl (iW (j:=3) rfl rfl ad (p).fl rfl (by omega) rfl) ?_
  refine bj 7 rfl (eQ (a2:=fR) (aN:=1) (i:=3) (k:=0) (fun _=>rfl) rfl au (dT aC.o rfl) ad hw rfl) ?_
  refine jx 1 ?_
  refine gU (RY er) ?_
  refine bj 8 rfl (k6 (a:=q3 er) (b:=w) rfl rfl rfl) ?_
  refine pc ?_
  try simp only [List.cons_append,List.nil_append,List.append_nil]
  refine fj ?_
  refine bD ?_ ?_<;>intro bN
  ·refine cE (er+1,er) ?_
   (try dsimp only);exact⟨by omega,by omega,by rw [aaF ⟨o2,by omega⟩ bN,if_pos (by omega)]⟩
  refine cE (er+1,cq) ?_
  (try dsimp only);exact⟨by omega,by omega,by have gr:=aaG ⟨o2,by omega⟩ bN;rw [It];split<;>split<;>omega⟩
 have HT:cq=oD w:=by rw [It,if_pos (by have:=(Ow w).2;omega)]
 refine aj ?_
 refine ap (xm (a:=p) (aN:=1) (l:=4) (h:=p.l.length) (m:=p.c) rfl ad (by exact⟨_,rfl⟩) (by exact rfl) (by exact rfl) (by intro h;exact rfl) um (Nat.le_refl _) p.cap (Nat.le_refl _)) ?_
 refine aj ?_
 rw [HT]
 rw [show(U ax [aa (dU p.l 1).1,aa (dU p.l 2).1,aa (oD w),ak,ak,ak,ak,ak,ak,ak,ak,ak,ak,ak,ak,ak,ak,ak,ak,ak,ak,ak,ak] 184:ar B)=U ax (qT 23 (kQ [(dU p.l 1).1,(dU p.l 2).1,oD w])) 184 from by kernel_rfl]
 refine ds (α:=Nat×(Nat→Int)) (fun⟨k,d⟩=>k≤p.l.length-4∧rU (p.l.drop 4) (kQ [(dU p.l 1).1,(dU p.l 2).1,oD w])=rU (p.l.drop (4+k)) d) (fun⟨k,d⟩=>[(59,aa (k:Int)),(58,aa ((p.cut 1 4 p.l.length p.c um (Nat.le_refl _) p.cap).l.length:Int)),(57,az (p.cut 1 4 p.l.length p.c um (Nat.le_refl _) p.cap)),(0,ag r),(7,ag ax)]) (fun⟨k,d⟩=>[U r [c6,c1,bW,az es,az p] 230,hs p,r5 es,U ax (qT 23 d) 184]) (fun⟨k,d⟩=>p.l.length-k) (0,(kQ [(dU p.l 1).1,(dU p.l 2).1,oD w])) ?_ dq aA ?_
 ·exact⟨Nat.zero_le _,rfl⟩
 rintro⟨k,d⟩ ⟨ai,aJ⟩
 dsimp only
 refine gN ?_
 refine c2 ?_ ?_<;>intro c0
 ·obtain⟨x,al⟩:∃x,p.l[4+k]?=some x:=⟨_,List.getElem?_eq_getElem (by rw [jZ]at c0;omega)⟩
  refine ic ?_
  refine fj ?_
  refine cC ?_
  refine mA ?_
  refine cC ?_
  refine dz ?_
  refine ap (jS rfl rfl ad (p.cut 1 4 p.l.length p.c um (Nat.le_refl _) p.cap).fl rfl (by rw [C4];omega) rfl) ?_
  refine ap (eQ (a2:=fR) (aN:=1) (i:=k) (k:=0) (fun _=>rfl) rfl au (C7 (fun _=>rfl) (dT aC.o rfl)) ad (QT al) rfl) ?_
  refine aj ?_
  refine ap (AK rfl ad) ?_
  refine cm (Lg ax 23 184 19 4 d (by decide) (by decide) x (aC.q x (List.mem_of_getElem? al)) 62) ?_
  rintro _ _ ⟨d2,rD,⟨o2,h7⟩,rfl,rfl⟩
  refine cx ?_
  refine cc ?_ ?_<;>intro fO
  ·refine ap (AK rfl ad) ?_
   refine cm (Lg ax 23 184 3 16 d2 (by decide) (by decide) x (aC.q x (List.mem_of_getElem? al)) 58) ?_
   rintro _ _ ⟨d3,ako,⟨UX,nN⟩,rfl,rfl⟩
   refine cx ?_
   refine bD ?_ ?_<;>intro gk
   ·exact aO ⟨es,false,⟨Bu,Nat.le_succ _,fun e=>(by cases e),fun _=>aaI hw (aJ.trans (YT al ((QU (h7 (by simpa using fO)).1).trans (by have q:=(nN (by simpa using gk)).1;rw [(h7 (by simpa using fO)).2]at q;exact q))))⟩,rfl,rfl⟩
   refine cE (k+1,d3) ?_
   (try dsimp only);exact⟨by omega,aJ.trans (PL al ((QU (h7 (by simpa using fO)).1).trans (by have q:=UX (by simpa using gk);rw [(h7 (by simpa using fO)).2]at q;exact q)))⟩
  refine cE (k+1,d2) ?_
  (try dsimp only);exact⟨by omega,aJ.trans (PL al (aaH (o2 (by simpa using fO))))⟩
 have nN:4+k=p.l.length:=by rw [jZ]at c0;omega
 have ais:rU (p.l.drop 4) (kQ [(dU p.l 1).1,(dU p.l 2).1,oD w])=some d:=by rw [aJ,nN,List.drop_eq_nil_of_le (Nat.le_refl _),rU]
 refine aj ?_
 refine cZ [U r [c6,c1,bW,az es,az p] 230,U ax (qT 23 d) 184] ad aA ?_
 refine bG 0 rfl (dD rfl) ?_
 refine bG 1 rfl (dD rfl) ?_
 refine bG 2 rfl (mz rfl) ?_
 refine bG 3 rfl (hn ad) ?_
 refine bG 4 rfl (hn ad) ?_
 refine bj 5 rfl (da ad) ?_
 refine bj 6 rfl (ed (bK:=qT 23 d) rfl au ad rfl (by rfl)) ?_
 refine jx 7 ?_
 refine qV (aF:=(([d]:List _).flatMap dP)) rfl .no rfl ad (by decide) (by decide) (by rfl) (by kernel_rfl) rfl rfl (fun Vv=>?_)
 refine jx 8 ?_
 refine p1 (a2:=dP) (c:=es) (b:=an.lit Vv [d] (by simp)) rfl .no rfl rfl ad au dy (show Out (U Vv (([d]:List _).flatMap dP) 184) _ _ from au) ir (fun _=>rfl) (fun _=>rfl) (by show es.l.length+1≤_;omega) (by show(es.l.length+1)*_≤_;omega) rfl (fun z3 iv lc=>?_)
 refine bG 9 rfl (mz rfl) ?_
 refine bG 10 rfl (hn ad) ?_
 refine bG 11 rfl (hn ad) ?_
 refine jx 12 ?_
 refine l4 rfl dy (jr rfl rfl rfl au ad kC) ?_
 refine pc ?_
 try simp only [List.cons_append,List.nil_append,List.append_nil]
 refine fj ?_
 refine cC ?_
 refine dz ?_
 refine ap (ia ad) ?_
 refine ap (ft (v:=aa (d 2)) rfl au ad (KO (by decide))) ?_
 refine aj ?_
 have sy:=aaJ hw (by simpa using ab) (by simpa using ae) ais
 exact aO ⟨z3,_,⟨lc,by rw [iv,List.length_append];exact Nat.le_refl _,fun e=>⟨d,by rw [sy,if_neg (by simpa using e)],iv⟩,fun e=>by rw [sy,if_pos (by simpa using e)]⟩,rfl,rfl⟩
section
structure km(n:Nat)(y:bZ):Prop where
  own:y.Own
  t:y.aw.l.length≤n
  m:y.a9.l.length≤n
  e:y.bd.l.length≤n
  q:∀m∈y.a9.l,m.q.l.length≤n
theorem km.up{n:Nat}{y:bZ}(h:km n y):km (n+1) y:=⟨h.own,Nat.le_succ_of_le h.t,Nat.le_succ_of_le h.m,Nat.le_succ_of_le h.e,fun m hm=>Nat.le_succ_of_le (h.q m hm)⟩
theorem km.cA{n:Nat}{y:bZ}(h:km n y)(z:Int):km (n+1) ⟨z,y.aw,y.a9,y.bd⟩:=⟨⟨h.own.aw,h.own.bd,h.own.a9,h.own.rR⟩,h.up.t,h.up.m,h.up.e,h.up.q⟩
theorem km.mL{n:Nat}{y:bZ}(h:km n y){a:an (Nat→Int)}(aq:a.Own)(aE:a.l.length≤y.aw.l.length+1):km (n+1) ⟨y.cA,a,y.a9,y.bd⟩:=⟨⟨aq,h.own.bd,h.own.a9,h.own.rR⟩,by have:=h.t;show a.l.length≤_;omega,h.up.m,h.up.e,h.up.q⟩
theorem km.aT{n:Nat}{y:bZ}(h:km n y){a:an (Nat→Int)}(aq:a.Own)(aE:a.l.length≤y.bd.l.length+1):km (n+1) ⟨y.cA,y.aw,y.a9,a⟩:=⟨⟨h.own.aw,aq,h.own.a9,h.own.rR⟩,h.up.t,h.up.m,by have:=h.e;show a.l.length≤_;omega,h.up.q⟩
theorem km.mode{n:Nat}{y:bZ}(h:km n y){a:an Mode}(aq:a.Own)(bF:a=y.a9∨∃cJ x,a.l=cJ++[x]∧cJ.length≤n∧(∀m∈cJ,m∈y.a9.l)∧x.q.Own∧x.q.l.length≤n+1):km (n+1) ⟨y.cA,y.aw,a,y.bd⟩:=by
 rcases bF with rfl|⟨cJ,x,e,ab,ae,av,aV⟩
 ·exact h.up
 refine⟨⟨h.own.aw,h.own.bd,aq,fun m hm=>?_⟩,h.up.t,by show a.l.length≤_;rw [e];simp;omega,h.up.e,fun m hm=>?_⟩
 ·have hm:m∈a.l:=hm
  rw [e]at hm
  rcases List.mem_append.1 hm with g|g
  ·exact h.own.rR m (ae m g)
  rw [List.mem_singleton.1 g];exact av
 have hm:m∈a.l:=hm
 rw [e]at hm
 rcases List.mem_append.1 hm with g|g
 ·exact h.up.q m (ae m g)
 rw [List.mem_singleton.1 g];exact aV
def ny(first:Bool)(p:List (List UInt8))(eV:ck):Option ck:=
  if first≠(p.getD 0 []==[114,101,115])then none else if p.getD 0 []=[114,101,115]then(if(dU p 1).2=true∧p.length=2 then some ⟨(dU p 1).1,eV.aw,eV.a9,eV.bd⟩else none)
  else if p.getD 0 []=[116,97,115,107]then(match wb p with|some d=>some ⟨eV.cA,eV.aw++[d],eV.a9,eV.bd⟩|none=>none)
  else if p.getD 0 []=[109,111,100,101]then(match r6 (p.drop 1) 0#32 with|some m=>some ⟨eV.cA,eV.aw,eV.a9++[(m,[])],eV.bd⟩|none=>none)
  else if p.getD 0 []=[113,117,101,117,101]then(match sK p eV.a9 with|some l=>some ⟨eV.cA,eV.aw,l,eV.bd⟩|none=>none)
  else if p.getD 0 []=[101,100,103,101]then(match wc p with|some d=>some ⟨eV.cA,eV.aw,eV.a9,eV.bd++[d]⟩|none=>none)else none
section
variable{first:Bool}{p:List (List UInt8)}{eV:ck}{w:List UInt8}(hw:p[0]?=some w)
 include hw
theorem y0:p.getD 0 []=w:=by simp [List.getD,hw]
theorem acZ(h:¬first=(w==[114,101,115])):ny first p eV=none:=by unfold ny;rw [y0 hw,if_pos h]
theorem PM(h:first=(w==[114,101,115]))(ab:w=[114,101,115]):ny first p eV=if(dU p 1).2=true∧p.length=2 then some ⟨(dU p 1).1,eV.aw,eV.a9,eV.bd⟩else none:=by
  unfold ny;rw [y0 hw,if_neg (fun q=>q h),if_pos ab]
theorem Ox(h:first=(w==[114,101,115]))(ab:¬w=[114,101,115])(ae:w=[116,97,115,107]):ny first p eV=match wb p with|some d=>some ⟨eV.cA,eV.aw++[d],eV.a9,eV.bd⟩|none=>none:=by
  unfold ny;rw [y0 hw,if_neg (fun q=>q h),if_neg ab,if_pos ae]
theorem Oy(h:first=(w==[114,101,115]))(ab:¬w=[114,101,115])(ae:¬w=[116,97,115,107])(av:w=[109,111,100,101]):ny first p eV=match r6 (p.drop 1) 0#32 with|some m=>some ⟨eV.cA,eV.aw,eV.a9++[(m,[])],eV.bd⟩|none=>none:=by
  unfold ny;rw [y0 hw,if_neg (fun q=>q h),if_neg ab,if_neg ae,if_pos av]
theorem NT(h:first=(w==[114,101,115]))(ab:¬w=[114,101,115])(ae:¬w=[116,97,115,107])(av:¬w=[109,111,100,101])(aV:w=[113,117,101,117,101]):ny first p eV=match sK p eV.a9 with|some l=>some ⟨eV.cA,eV.aw,l,eV.bd⟩|none=>none:=by
  unfold ny;rw [y0 hw,if_neg (fun q=>q h),if_neg ab,if_neg ae,if_neg av,if_pos aV]
theorem Oz(h:first=(w==[114,101,115]))(ab:¬w=[114,101,115])(ae:¬w=[116,97,115,107])(av:¬w=[109,111,100,101])(aV:¬w=[113,117,101,117,101])(bN:w=[101,100,103,101]):ny first p eV=match wc p with|some d=>some ⟨eV.cA,eV.aw,eV.a9,eV.bd++[d]⟩|none=>none:=by
  unfold ny;rw [y0 hw,if_neg (fun q=>q h),if_neg ab,if_neg ae,if_neg av,if_neg aV,if_pos bN]
theorem aaK(ab:¬w=[114,101,115])(ae:¬w=[116,97,115,107])(av:¬w=[109,111,100,101])(aV:¬w=[113,117,101,117,101])(bN:¬w=[101,100,103,101]):ny first p eV=none:=by
  unfold ny;rw [y0 hw,if_neg ab,if_neg ae,if_neg av,if_neg aV,if_neg bN];split<;>rfl
end
theorem agT(r:Nat)(c6 c1 bW eF:Value)(p:an (List UInt8))(aC:p.Own):a6 B 158 [ag r] [U r [c6,c1,bW,eF,az p] 230,hs p] (fun v S=>v= .bool ((dU p.l 1).2&&((p.l.length:Int)==2))∧S=[U r [(aa (dU p.l 1).1),c1,bW,eF,az p] 230,hs p]):=by
 refine bM 24 Tryz.func158 fun ba bf=>?_
 refine eR (x0 r c6 c1 bW eF p aC 1 (by decide)) ?_
 refine cp ?_
 refine bp (aa (dU p.l 1).1) ?_
 refine bp (.bool (dU p.l 1).2) ?_
 refine aj ?_
 refine cc ?_ ?_<;>intro ab
 ·exact aO ⟨by first|(simp_all;done)|(simp_all;omega),rfl⟩
 exact aO ⟨by first|(simp_all;done)|(simp_all;omega),rfl⟩
theorem aff(r:Nat)(p:an (List UInt8))(aC:Bh p)(MM:1≤p.l.length)(n:Nat)(aP:n≤100000)(y:bZ)(aZ:km n y)(first:Bool):a6 B 102 [ag r,.bool first] [U r [aa y.cA,az y.aw,az y.a9,az y.bd,az p] 230,hs p,tI y.aw,mJ y.a9,r5 y.bd,mi y.a9.l] (fun v S=>∃(iE:bZ) (b:Bool),(km (n+1) iE∧(b=true→ny first p.l y.c=some iE.c)∧(b=false→ny first p.l y.c=none))∧v= .bool b∧S=[U r [aa iE.cA,az iE.aw,az iE.a9,az iE.bd,az p] 230,hs p,tI iE.aw,mJ iE.a9,r5 iE.bd,mi iE.a9.l]):=by
 refine dN 40 Tryz.func102 fun ba bf=>?_
 obtain⟨w,hw⟩:=fp p.l 0
 have ly:=p.small
 refine aj ?_
 refine ap (jS (j:=0) rfl rfl ad (p).fl (rfl:(0:Int)=((0:Nat):Int)) ah rfl) ?_
 refine ap (eQ (a2:=fR) (aN:=1) (i:=0) (k:=0) (fun _=>rfl) rfl au (dT aC.o rfl) ad hw rfl) ?_
 refine ap (k6 (a:=w) (b:=[114,101,115]) rfl rfl rfl) ?_
 refine ap (adl rfl rfl ad rfl) ?_
 refine bT ?_ ?_<;>intro ab
 ·exact aO ⟨y,false,⟨aZ.up,fun e=>(by cases e),fun e=>acZ hw (by simpa using ab)⟩,rfl,rfl⟩
 refine ap (jS (j:=0) rfl rfl ad (p).fl (rfl:(0:Int)=((0:Nat):Int)) ah rfl) ?_
 refine ap (eQ (a2:=fR) (aN:=1) (i:=0) (k:=0) (fun _=>rfl) rfl au (dT aC.o rfl) ad hw rfl) ?_
 refine aj ?_
 refine ap (k6 (a:=w) (b:=[114,101,115]) rfl rfl rfl) ?_
 refine bT ?_ ?_<;>intro ae
 ·refine gH (agT r (aa y.cA) (az y.aw) (az y.a9) (az y.bd) p aC.o) ?_
  exact aO ⟨⟨(dU p.l 1).1,y.aw,y.a9,y.bd⟩,_,⟨aZ.cA _,fun e=>(PM hw (by simpa using ab) ae).trans (if_pos (by simp at e;exact⟨e.1,by omega⟩)),fun e=>(PM hw (by simpa using ab) ae).trans (if_neg (fun z=>by rw [z.1,z.2]at e;simp at e))⟩,rfl,rfl⟩
 refine ap (k6 (a:=w) (b:=[116,97,115,107]) rfl rfl rfl) ?_
 refine bT ?_ ?_<;>intro av
 ·refine cm (afc r (aa y.cA) (az y.a9) (az y.bd) p aC y.aw aZ.own.aw (by have:=aZ.t;omega)) ?_
  rintro _ _ ⟨a,b,⟨aq,aE,st,jj⟩,rfl,rfl⟩
  refine cx ?_
  exact aO ⟨⟨y.cA,a,y.a9,y.bd⟩,b,⟨aZ.mL aq aE,fun e=>by obtain⟨d,a1,a3⟩:=st e;rw [Ox hw (by simpa using ab) ae av,a1];show some (ck.mk _ _ _ _)=some (ck.mk _ a.l _ _);rw [a3];try rfl,fun e=>by rw [Ox hw (by simpa using ab) ae av,jj e]⟩,rfl,rfl⟩
 refine ap (k6 (a:=w) (b:=[109,111,100,101]) rfl rfl rfl) ?_
 refine bT ?_ ?_<;>intro aV
 ·refine cm (afd r (aa y.cA) (az y.aw) (az y.bd) p aC MM y.a9 aZ.own.a9 (by have:=aZ.m;omega)) ?_
  rintro _ _ ⟨a,b,⟨aq,st,jj⟩,rfl,rfl⟩
  refine cx ?_
  exact aO ⟨⟨y.cA,y.aw,a,y.bd⟩,b,⟨aZ.mode aq (by cases b with|false=>exact .inl (jj rfl).1|true=>(obtain⟨m,a1,a3⟩:=st rfl;exact .inr ⟨_,_,a3,aZ.m,fun _ h=>h,an.fk,Nat.zero_le _⟩)),fun e=>by obtain⟨m,a1,a3⟩:=st e;rw [Oy hw (by simpa using ab) ae av aV,a1];show some (ck.mk _ _ _ _)=some (ck.mk _ _ (a.l.map lr) _);rw [a3,List.map_append];try rfl,fun e=>by rw [Oy hw (by simpa using ab) ae av aV,(jj e).2]⟩,rfl,rfl⟩
 refine ap (k6 (a:=w) (b:=[113,117,101,117,101]) rfl rfl rfl) ?_
 refine bT ?_ ?_<;>intro bN
 ·refine cm (acY r (aa y.cA) (az y.aw) (az y.bd) p aC y.a9 aZ.own.a9 (fun m hm=>⟨aZ.own.rR m hm,by have:=aZ.q m hm;omega⟩)) ?_
  rintro _ _ ⟨a,b,⟨aq,st,jj⟩,rfl,rfl⟩
  refine cx ?_
  exact aO ⟨⟨y.cA,y.aw,a,y.bd⟩,b,⟨aZ.mode aq (by cases b with|false=>exact .inl (jj rfl).1|true=>(obtain⟨_,cJ,m,cI,a1,a3,bI,cv⟩:=st rfl;exact .inr ⟨_,_,a3,by have:=aZ.m;rw [a1]at this;simp at this;omega,fun x al=>by rw [a1];exact List.mem_append_left _ al,bI,by have:=aZ.q m (by rw [a1];simp);show cI.l.length≤_;omega⟩)),fun e=>by obtain⟨a1,_⟩:=st e;rw [NT hw (by simpa using ab) ae av aV bN];show(match sK p.l (y.a9.l.map lr)with|some l=>_|none=>_)=_;rw [a1];try rfl,fun e=>by rw [NT hw (by simpa using ab) ae av aV bN];show(match sK p.l (y.a9.l.map lr)with|some l=>_|none=>_)=_;rw [(jj e).2]⟩,rfl,rfl⟩
 refine ap (k6 (a:=w) (b:=[101,100,103,101]) rfl rfl rfl) ?_
 refine bT ?_ ?_<;>intro c0
 ·refine cm (afe r (aa y.cA) (az y.aw) (az y.a9) p aC y.bd aZ.own.bd (by have:=aZ.e;omega)) ?_
  rintro _ _ ⟨a,b,⟨aq,aE,st,jj⟩,rfl,rfl⟩
  refine cx ?_
  exact aO ⟨⟨y.cA,y.aw,y.a9,a⟩,b,⟨aZ.aT aq aE,fun e=>by obtain⟨d,a1,a3⟩:=st e;rw [Oz hw (by simpa using ab) ae av aV bN c0,a1];show some (ck.mk _ _ _ _)=some (ck.mk _ _ _ a.l);rw [a3];try rfl,fun e=>by rw [Oz hw (by simpa using ab) ae av aV bN c0,jj e]⟩,rfl,rfl⟩
 exact aO ⟨y,false,⟨aZ.up,fun e=>(by cases e),fun e=>aaK hw ae av aV bN c0⟩,rfl,rfl⟩
end
def p8:List (List UInt8)→Bool→ck→Option (Bool×ck)
  |[],f,eV=>some (f,eV)
  |l::jy,f,eV=>if pieces l=[]then p8 jy f eV else match ny f (pieces l) eV with
    |some ait=>p8 jy false ait
    |none=>none
abbrev yw:ck:=⟨0,[],[],[]⟩
structure us(L:List (List UInt8))(i:Nat)(f:Bool)(y:bZ)(p:an (List UInt8)):Prop where
  ok:km i y
  VV:p.Own
  e:p8 L true yw=p8 (L.drop i) f y.c
theorem us.skip{L:List (List UInt8)}{i:Nat}{f:Bool}{y:bZ}{p fE:an (List UInt8)}{q:List UInt8}(J:us L i f y p)(bF:L[i]?=some q)(h:pieces q=[])(aq:fE.Own):us L (i+1) f y fE:=
  ⟨J.ok.up,aq,by rw [J.e,qX bF,p8,if_pos h]⟩
theorem us.next{L:List (List UInt8)}{i:Nat}{f:Bool}{y iE:bZ}{p fE:an (List UInt8)}{q:List UInt8}(J:us L i f y p)(bF:L[i]?=some q)(aP:pieces q≠[])(h:ny f (pieces q) y.c=some iE.c)(aZ:km (i+1) iE)(aq:fE.Own):us L (i+1) false iE fE:=
  ⟨aZ,aq,by rw [J.e,qX bF,p8,if_neg aP,h]⟩
theorem us.bad{L:List (List UInt8)}{i:Nat}{f:Bool}{y:bZ}{p:an (List UInt8)}{q:List UInt8}(J:us L i f y p)(bF:L[i]?=some q)(aP:pieces q≠[])(h:ny f (pieces q) y.c=none):p8 L true yw=none:=by
  rw [J.e,qX bF,p8,if_neg aP,h]
theorem us.fin{L:List (List UInt8)}{f:Bool}{y:bZ}{p:an (List UInt8)}(J:us L L.length f y p):p8 L true yw=some (f,y.c):=by
  rw [J.e,List.drop_eq_nil_of_le (Nat.le_refl _),p8]
theorem km.bt:km 0 (⟨0,an.bt,an.bt,an.bt⟩:bZ):=⟨⟨an.fk,an.fk,an.fk,fun m hm=>(by cases hm)⟩,Nat.le_refl _,Nat.le_refl _,Nat.le_refl _,fun m hm=>(by cases hm)⟩
theorem km.le{n m:Nat}{y:bZ}(h:km n y)(hm:n≤m):km m y:=⟨h.own,Nat.le_trans h.t hm,Nat.le_trans h.m hm,Nat.le_trans h.e hm,fun x al=>Nat.le_trans (h.q x al) hm⟩
theorem aaL(s:List UInt8)(EJ:s.length≤1000000):a6 B 54 [str s] [] (fun v S=>∃(x:bZ) (z b8:Int) (X:ar B),(km 70000 x∧(b8=0→X=all (fr x))∧∀eV,p8 (ie s) true yw=some (false,eV)→s.length≤65536→b8=0∧x.c=eV)∧v= .tuple #[x.v,aa z,aa b8]∧S=[X]):=by
 refine bM 61 Tryz.func54 fun ba bf=>?_
 refine fe fun ax=>?_
 refine fe fun aK=>?_
 refine de fun bq=>?_
 refine Aq ?_
 refine bT ?_ ?_<;>intro ab
 ·refine mb ?_
  refine dA (.nil _) (Gf rfl rfl rfl rfl au au au ad ad ad (by rfl)) ?_
  exact aO ⟨(⟨0,an.bt,an.bt,an.bt⟩:bZ),_,120,_,⟨km.bt.le (by decide),fun e=>absurd e (by decide),fun eV h aE=>absurd aE (by omega)⟩,rfl,rfl⟩
 refine eD (aF:=[ak,bw,bw,bw,bw]) fun bV=>?_
 refine de fun dp=>?_
 refine de fun ln=>?_
 refine CK ?_
 refine gN ?_
 refine cm (RW s) ?_
 rintro _ _ ⟨c,rfl,rfl⟩
 refine bP ?_
 refine e8 ?_
 refine mA ?_
 refine gE dd 173 11 ?_
 refine gE gg 177 2 ?_
 refine gE dP 184 23 ?_
 refine gE fR 9 1 ?_
 refine tr ?_
 refine OP (own:=[U c [str s] 9]) (aU:=[U bV [ak,bw,bw,bw,bw] 230,eO (an.bt:an (List UInt8)) 9 1 fR,eO (an.bt:an (Nat→Int)) 173 11 dd,eO (an.bt:an Mode) 177 2 gg,eO (an.bt:an (Nat→Int)) 184 23 dP,all [],U dp [ag bV] 228,U ln [.bool true] 4,U ax [ak,bw,bw,bw] 41,U aK [ak] 3,U bq [ak] 53]) rfl fF (SQ c s (by omega)) (fun i S=>∃(y:bZ) (p:an (List UInt8)) (f:Bool),us (ie s) i f y p∧S=[U bV [aa y.cA,az y.aw,az y.a9,az y.bd,az p] 230,hs p,tI y.aw,mJ y.a9,r5 y.bd,mi y.a9.l,U dp [ag bV] 228,U ln [.bool f] 4,U ax [ak,bw,bw,bw] 41,U aK [ak] 3,U bq [ak] 53]) (fun c i S=>c= .ret∧p8 (ie s) true yw=none∧∃(y:bZ) (p:an (List UInt8)) (f:Bool) (n:Int),S=[U bV [aa y.cA,az y.aw,az y.a9,az y.bd,az p] 230,hs p,tI y.aw,mJ y.a9,r5 y.bd,mi y.a9.l,U dp [ag bV] 228,U ln [.bool f] 4,U ax [ak,bw,bw,bw] 41,U aK [aa n] 3,U bq [aa 120] 53]) (show Take ([U c [str s] 9,U bV [ak,bw,bw,bw,bw] 230,eO (an.bt:an (List UInt8)) 9 1 fR,eO (an.bt:an (Nat→Int)) 173 11 dd,eO (an.bt:an Mode) 177 2 gg,eO (an.bt:an (Nat→Int)) 184 23 dP,all [],U dp [ag bV] 228,U ln [.bool true] 4,U ax [ak,bw,bw,bw] 41,U aK [ak] 3,U bq [ak] 53]) _ _ from aA) (⟨(⟨0,an.bt,an.bt,an.bt⟩:bZ),an.bt,true,⟨km.bt,an.fk,rfl⟩,rfl⟩) rfl (fun x al=>by obtain⟨j,_,rfl⟩:=List.mem_map.1 al;rfl) ?_ ?_ ?_
 ·intro cr rec j3 i0 bh af bo
  obtain⟨y,p,f,mx,rfl⟩:=bo
  rw [yQ]at af
  obtain⟨q,bF⟩:∃q,(ie s)[i0]?=some q:=⟨_,List.getElem?_eq_getElem af⟩
  rw [Kd bF]
  have nb:=(xh s).2 q (List.mem_of_getElem? bF)
  have kM:i0≤65536:=by have:=(xh s).1;omega
  have akp:=mx.VV
  refine cC ?_
  refine dz ?_
  refine ap (cj rfl) ?_
  refine e8 ?_
  refine dz ?_
  refine ap (cj rfl) ?_
  refine uF ?_
  refine⟨rfl,_,_,.cons au (Take.self _),fun hz=>?_⟩
  refine mA ?_
  refine cC ?_
  refine cZ [U dp [ag bV] 228,U bV [aa y.cA,az y.aw,az y.a9,az y.bd,az p] 230] ad aA ?_
  refine bj 0 rfl (da ad) ?_
  refine bj 1 rfl (da ad) ?_
  refine bG 2 rfl (mz rfl) ?_
  refine bG 3 rfl (hn ad) ?_
  refine bj 4 rfl (da (v:=az p) ad) ?_
  refine bj 5 rfl (XU rfl rfl ad) ?_
  refine bG 6 rfl (mz rfl) ?_
  refine bG 7 rfl (hn ad) ?_
  refine jx 8 ?_
  refine l4 rfl dy (jr rfl rfl rfl au ad kC) ?_
  refine pc ?_
  try simp only [List.cons_append,List.nil_append,List.append_nil]
  refine fj ?_
  refine cC ?_
  refine cC ?_
  refine dz ?_
  rw [show(U bV [aa y.cA,az y.aw,az y.a9,az y.bd,.slice p.bn 0 p.c] 230:ar B)=U bV [aa y.cA,az y.aw,az y.a9,az y.bd,az p.tb] 230 from rfl]
  refine hr (Zc (a:=p) (a2:=fR) (e:=9) (aN:=1) au) ?_
  refine ap (cj rfl) ?_
  refine cm (Kb q) ?_
  rintro _ _ ⟨bW,rfl,rfl⟩
  refine bP ?_
  refine e8 ?_
  refine mA ?_
  refine FX (own:=[U bW [str q] 9]) (aU:=[U bV [aa y.cA,az y.aw,az y.a9,az y.bd,az p.tb] 230,hs p.tb,U dp [ag bV] 228]) au rfl fF (Ld bW q (by omega)) (fun j S=>∃fE:an (List UInt8),(fE.l=(pieces q).take j∧fE.Own)∧S=[U bV [aa y.cA,az y.aw,az y.a9,az y.bd,az fE] 230,hs fE,U dp [ag bV] 228]) (fun c j S=>False) (show Take ([U bW [str q] 9,U bV [aa y.cA,az y.aw,az y.a9,az y.bd,az p.tb] 230,hs p.tb,U dp [ag bV] 228]) _ _ from aA) (⟨p.tb,⟨rfl,an.Zb mx.VV⟩,rfl⟩) rfl (fun x al=>by obtain⟨j,_,rfl⟩:=List.mem_map.1 al;rfl) ?_ ?_ ?_
  ·intro x9 DS Fa j cS aI ki
   obtain⟨fE,⟨iy,Hy⟩,rfl⟩:=ki
   rw [tw]at aI
   obtain⟨w,hw⟩:∃w,(pieces q)[j]?=some w:=⟨_,List.getElem?_eq_getElem aI⟩
   rw [C1 hw]
   have ajx:fE.l.length≤200000:=by have ab:=congrArg List.length iy;rw [List.length_take]at ab;have ae:(pieces q).length≤q.length+1:=yY q [];omega
   refine dz ?_
   refine ap (cj rfl) ?_
   refine uF ?_
   refine⟨rfl,_,_,.cons au (Take.self _),fun hz=>?_⟩
   refine mA ?_
   refine cZ [U dp [ag bV] 228,U bV [aa y.cA,az y.aw,az y.a9,az y.bd,az fE] 230] ad aA ?_
   refine bj 0 rfl (da ad) ?_
   refine bj 1 rfl (da ad) ?_
   refine bG 2 rfl (mz rfl) ?_
   refine bG 3 rfl (hn ad) ?_
   refine bj 4 rfl (da (v:=az fE) ad) ?_
   refine bG 5 rfl (dD rfl) ?_
   refine jx 6 ?_
   refine qV (aF:=(([w]:List _).flatMap fR)) rfl .no rfl ad (by decide) (by decide) (by rfl) (by rfl) rfl rfl (fun Vw=>?_)
   refine jx 7 ?_
   refine p1 (a2:=fR) (c:=fE) (b:=an.lit Vw [w] (by simp)) rfl .no rfl rfl ad au dy (show Out (U Vw (([w]:List _).flatMap fR) 9) _ _ from au) ir (fun _=>rfl) (fun _=>rfl) (by show fE.l.length+1≤_;omega) (by show(fE.l.length+1)*_≤_;omega) rfl (fun Nd iv lc=>?_)
   refine bG 8 rfl (mz rfl) ?_
   refine bG 9 rfl (hn ad) ?_
   refine jx 10 ?_
   refine l4 rfl dy (jr rfl rfl rfl au ad kC) ?_
   refine pc ?_
   try simp only [List.cons_append,List.nil_append,List.append_nil]
   refine tm ?_
   exact⟨[U bV [aa y.cA,az y.aw,az y.a9,az y.bd,az Nd] 230,hs Nd,U dp [ag bV] 228],_,aA,⟨Nd,⟨by rw [iv,iy,List.take_add_one,hw];rfl,lc⟩,rfl⟩⟩
  ·intro cS ki
   obtain⟨fE,⟨iy,Hy⟩,rfl⟩:=ki
   rw [tw,List.take_length]at iy
   have aiu:Bh fE:=⟨Hy,by rw [iy];have ae:(pieces q).length≤q.length+1:=yY q [];omega,fun x al=>by rw [iy]at al;have:=xz q [] x al;simp at this;omega⟩
   refine bP ?_
   refine tm ?_
   refine fj ?_
   refine cC ?_
   refine cC ?_
   refine dz ?_
   refine ap (da ad) ?_
   refine ap (ou rfl) ?_
   refine ap (ia ad) ?_
   refine dn (az fE) ?_
   refine aj ?_
   refine c2 ?_ ?_<;>intro ae
   ·have MK:pieces q=[]:=by rw [←iy];exact List.length_eq_zero_iff.1 (by omega)
    refine aj ?_
    exact⟨[U bV [aa y.cA,az y.aw,az y.a9,az y.bd,az fE] 230,hs fE,tI y.aw,mJ y.a9,r5 y.bd,mi y.a9.l,U dp [ag bV] 228,U ln [.bool f] 4,U ax [ak,bw,bw,bw] 41,U aK [ak] 3,U bq [ak] 53],_,aA,⟨y,fE,f,mx.skip bF MK Hy,rfl⟩⟩
   have yv:pieces q≠[]:=fun e=>ae (by rw [iy,e];rfl)
   refine ic ?_
   refine fj ?_
   refine cC ?_
   refine cC ?_
   refine dz ?_
   refine ap (da ad) ?_
   refine ap (da (v:= .bool f) ad) ?_
   refine cm (aff bV fE aiu (by omega) i0 (by omega) y mx.ok f) ?_
   rintro _ _ ⟨iE,rD,⟨HF,st,jj⟩,rfl,rfl⟩
   refine cx ?_
   refine bD ?_ ?_<;>intro av
   ·exact⟨[U bV [aa iE.cA,az iE.aw,az iE.a9,az iE.bd,az fE] 230,hs fE,tI iE.aw,mJ iE.a9,r5 iE.bd,mi iE.a9.l,U dp [ag bV] 228,U ln [.bool f] 4,U ax [ak,bw,bw,bw] 41,U aK [aa ((i0+1:Nat):Int)] 3,U bq [aa 120] 53],_,aA,⟨rfl,mx.bad bF yv (by rw [←iy];exact jj (by simpa using av)),iE,fE,f,_,rfl⟩⟩
   exact⟨[U bV [aa iE.cA,az iE.aw,az iE.a9,az iE.bd,az fE] 230,hs fE,tI iE.aw,mJ iE.a9,r5 iE.bd,mi iE.a9.l,U dp [ag bV] 228,U ln [.bool false] 4,U ax [ak,bw,bw,bw] 41,U aK [ak] 3,U bq [ak] 53],_,aA,⟨iE,fE,false,mx.next bF yv (by rw [←iy];exact st (by simpa using av)) HF Hy,rfl⟩⟩
  intro c i bh af h
  exact h.elim
 ·intro cG bh bo
  rw [yQ]at bo
  obtain⟨y,p,f,mx,rfl⟩:=bo
  refine bP ?_
  have Ip:=(xh s).1
  refine tm ?_
  refine fj ?_
  refine cC ?_
  refine cC ?_
  refine dz ?_
  refine dn (.bool f) ?_
  refine aj ?_
  refine c2 ?_ ?_<;>intro aV
  ·refine aj ?_
   refine mb ?_
   refine dA (show Take [dl cG] _ _ from aA) (Gf rfl rfl rfl rfl au au au ad ad ad (by rfl)) ?_
   exact aO ⟨(⟨0,an.bt,an.bt,an.bt⟩:bZ),_,120,_,⟨km.bt.le (by decide),fun e=>absurd e (by decide),fun eV h _=>by have aiv:f=true:=(by simpa using aV);rw [mx.fin,aiv]at h;cases h⟩,rfl,rfl⟩
  have aiw:f=false:=by simpa using aV
  refine yE (m:=y.a9.l.reverse.map fun m=>kK m.q) (mJ y.a9) aA ?_
  refine yE (m:=mJ y.a9::y.a9.l.reverse.map fun m=>kK m.q) (r5 y.bd) aA ?_
  refine yE (m:=r5 y.bd::mJ y.a9::y.a9.l.reverse.map fun m=>kK m.q) (tI y.aw) aA ?_
  refine l5 ?_
  refine du (b9 y) ?_
  refine aj ?_
  refine mb ?_
  refine dA (show Take [dl cG] _ _ from aA) (Gf rfl rfl rfl rfl au au au ad ad ad (by rfl)) ?_
  subst aiw
  exact aO ⟨y,_,0,_,⟨mx.ok.le (by omega),fun _=>rfl,fun eV h _=>⟨rfl,by rw [mx.fin]at h;cases h;rfl⟩⟩,rfl,rfl⟩
 intro cG c i bh af h
 obtain⟨rfl,cN,y,p,f,n,rfl⟩:=h
 refine cx ?_
 refine mb ?_
 refine dA (show Take [dl cG] _ _ from aA) (Gf rfl rfl rfl rfl au au au ad ad ad (by rfl)) ?_
 exact aO ⟨(⟨0,an.bt,an.bt,an.bt⟩:bZ),_,120,_,⟨km.bt.le (by decide),fun e=>absurd e (by decide),fun eV h _=>by rw [cN]at h;cases h⟩,rfl,rfl⟩
def tl(d:Nat→Int):List Int:=[d 0,d 1,d 2,((K2 d).toNat:Int)]++(h5 d 8).map (·.2)
def uu(m:Mode):List Int:=[(m.aw.toNat:Int),(m.q.l.length:Int)]++m.q.l.flatMap fun y=>[y 0,y 1]
def rK(x:bZ)(d:Nat→Int):List Int:=[d 0,d 1,d 2,d 19,d 20,d 21,d 22]++(if d 2=3 then(bb (fs x.c d)).map (fun k=>d (3+k.toNat))else [])
def rL(x:bZ):List Int:=[1380273457,x.cA,(x.aw.l.length:Int),(x.a9.l.length:Int),(x.bd.l.length:Int)]++(x.aw.l.flatMap tl++(x.a9.l.flatMap uu++x.bd.l.flatMap (rK x)))
theorem tJ{α:Type}{a b:List α}{i:Nat}{n:Nat}{w:α}(aP:a.length=n)(h:b[i]?=some w):(a++b)[n+i]?=some w:=by
  rw [List.getElem?_append_right (by omega),show n+i-a.length=i by omega];exact h
theorem afg(d:Nat→Int)(cr:Nat)(J:Nat→List (ar B)→Prop)(cV:List (ar B))(g7:J 0 cV)(aZ:∀i w S,(tl d)[i]?=some w→J i S→oP Tryz.prog B cr [aa w] S fun b bh=>b=true∧J (i+1) bh):a6 B 168 [.agg (dd d).toArray,.func (.yield cr) #[] #[]] cV (fun v S=>v= .bool true∧J (tl d).length S):=by
 refine BU 42 Tryz.func168 fun ba bf=>?_
 refine cC ?_
 refine dz ?_
 refine Ei (aF:=dd d) fun ax=>?_
 refine Ei (aF:=[.func (.yield cr) #[] #[]]) fun aK=>?_
 refine ve ad fun bq=>?_
 refine e8 ?_
 refine cC ?_
 refine cC ?_
 refine k3 [U ax (dd d) 173,U aK [.func (.yield cr) #[] #[]] 302] ad aA ?_
 refine bj 0 rfl (da (v:= .func (.yield cr) #[] #[]) ad) ?_
 refine bG 1 rfl (hn ad) ?_
 refine bj 2 rfl (da (v:=aa (d 0)) ad) ?_
 refine jx 3 ?_
 have z4:=aZ (0) (d 0) cV (rfl) g7
 refine An rfl .no rfl rfl dy z4 aA rfl ?_
 rintro _ aU ⟨rfl,lE⟩
 refine⟨U bq [.bool false] 4::aU,_,_,dy,aA,?_⟩
 refine bG 4 rfl (dD rfl) ?_
 refine bG 5 rfl (dD rfl) ?_
 refine bj 6 rfl (da (v:= .func (.yield cr) #[] #[]) ad) (hw:=(.yes 12 rfl rfl rfl)) ?_
 refine bG 7 rfl (hn ad) (hw:=(.yes 12 rfl rfl rfl)) ?_
 refine bj 8 rfl (da (v:=aa (d 1)) ad) (hw:=(.yes 12 rfl rfl rfl)) ?_
 refine jx 9 ?_
 have z5:=aZ (1) (d 1) aU (rfl) lE
 refine An rfl (.yes 12 rfl rfl rfl) rfl rfl dy z5 aA rfl ?_
 rintro _ bh ⟨rfl,ki⟩
 refine⟨U bq [.bool false] 4::bh,_,_,dy,aA,?_⟩
 refine bG 10 rfl (dD rfl) (hw:=(.yes 12 rfl rfl rfl)) ?_
 refine bG 11 rfl (dD rfl) ?_
 refine bG 12 rfl (dD rfl) ?_
 refine bj 13 rfl (da (v:= .func (.yield cr) #[] #[]) ad) (hw:=(.yes 19 rfl rfl rfl)) ?_
 refine bG 14 rfl (hn ad) (hw:=(.yes 19 rfl rfl rfl)) ?_
 refine bj 15 rfl (da (v:=aa (d 2)) ad) (hw:=(.yes 19 rfl rfl rfl)) ?_
 refine jx 16 ?_
 have EP:=aZ (2) (d 2) bh (rfl) ki
 refine An rfl (.yes 19 rfl rfl rfl) rfl rfl dy EP aA rfl ?_
 rintro _ cS ⟨rfl,oS⟩
 refine⟨U bq [.bool false] 4::cS,_,_,dy,aA,?_⟩
 refine bG 17 rfl (dD rfl) (hw:=(.yes 19 rfl rfl rfl)) ?_
 refine bG 18 rfl (dD rfl) ?_
 refine bG 19 rfl (dD rfl) ?_
 refine bj 20 rfl (da (v:= .func (.yield cr) #[] #[]) ad) (hw:=(.yes 26 rfl rfl rfl)) ?_
 refine bj 21 rfl (ed (bK:=dd d) rfl au ad rfl (by rfl)) (hw:=(.yes 26 rfl rfl rfl)) ?_
 refine jx 22 ?_
 refine gU (adZ d) (hw:=(.yes 26 rfl rfl rfl)) ?_
 refine bj 23 rfl (ja rfl ad (lP ah ah)) (hw:=(.yes 26 rfl rfl rfl)) ?_
 refine jx 24 ?_
 have MN:=aZ (3) (((K2 d).toNat:Int)) cS (rfl) oS
 refine An rfl (.yes 26 rfl rfl rfl) rfl rfl dy MN aA rfl ?_
 rintro _ jC ⟨rfl,vs⟩
 refine⟨U bq [.bool false] 4::jC,_,_,dy,aA,?_⟩
 refine bG 25 rfl (dD rfl) (hw:=(.yes 26 rfl rfl rfl)) ?_
 refine bG 26 rfl (dD rfl) ?_
 refine pc ?_
 try simp only [List.cons_append,List.nil_append,List.append_nil]
 refine fj ?_
 refine uz rfl rfl ?_
 refine ic ?_
 refine fj ?_
 refine cC ?_
 refine cC ?_
 refine dz ?_
 refine ap (ed (bK:=dd d) rfl au ad rfl (by rfl)) ?_
 refine E7 (KZ d) ?_
 rintro _ _ ⟨Nf,rfl,rfl⟩
 simp only [List.cons_append,List.nil_append]
 refine e8 ?_
 refine mA ?_
 refine kS (own:=[U Nf (dd d) 173]) (aU:=U aK [.func (.yield cr) #[] #[]] 302::U bq [.bool false] 4::jC) rfl fF (JM Nf d) (fun i S=>∃ni,J (4+i) ni∧S=U aK [.func (.yield cr) #[] #[]] 302::U bq [.bool false] 4::ni) (fun c i S=>False) (show Take (U Nf (dd d) 173::U aK [.func (.yield cr) #[] #[]] 302::U bq [.bool false] 4::jC) _ _ from aA) (⟨jC,vs,rfl⟩) rfl (fun x al=>by obtain⟨j,_,rfl⟩:=List.mem_map.1 al;rfl) ?_ ?_ ?_
 ·intro x9 DS Fa i cS af MO
  obtain⟨ni,qu,rfl⟩:=MO
  rw [List.length_map]at af
  obtain⟨u,hu⟩:∃u,(h5 d 8)[i]?=some u:=⟨_,List.getElem?_eq_getElem af⟩
  rw [show((h5 d 8).map fun p=>[Value.int .i64 (p.1:Int),aa p.2]).getD i []=[aa (u.1:Int),aa u.2]from by simp [List.getD,hu]]
  refine dz ?_
  refine ap (cj rfl) ?_
  refine uF ?_
  refine⟨rfl,_,_,.cons au (Take.self _),fun hz=>?_⟩
  refine mA ?_
  refine cC ?_
  refine dz ?_
  refine ap (da (v:= .func (.yield cr) #[] #[]) ad) ?_
  refine ap (cj rfl) ?_
  have MP:=aZ (4+i) (u.2) ni (tJ rfl (by rw [List.getElem?_map,hu];rfl)) qu
  refine qY [obj x9 (.loop hz),U aK [.func (.yield cr) #[] #[]] 302,U bq [.bool false] 4] aA ?_
  refine iq (own:=[obj x9 (.loop hz),U aK [.func (.yield cr) #[] #[]] 302,U bq [.bool false] 4]) (hM:=ni) .no rfl rfl MP rfl ?_
  rintro _ uv ⟨rfl,z6⟩
  simp only [List.cons_append,List.nil_append]
  refine ap (cj rfl) ?_
  refine e8 ?_
  refine uz rfl rfl ?_
  refine ic ?_
  refine tm ?_
  exact⟨U aK [.func (.yield cr) #[] #[]] 302::U bq [.bool false] 4::uv,_,aA,⟨uv,z6,rfl⟩⟩
 ·intro cG bh bo
  obtain⟨ni,qu,rfl⟩:=bo
  simp only [List.cons_append,List.nil_append]
  refine tm ?_
  refine fj ?_
  refine cC ?_
  refine dz ?_
  refine fq (jr rfl rfl rfl au ad kC) ?_
  refine e8 ?_
  refine nv ?_
  refine dA (show Take [dl cG] _ _ from aA) (my rfl rfl au ad) ?_
  exact⟨ni,⟨rfl,by rw [show(tl d).length=4+((h5 d 8).map fun p=>[Value.int .i64 (p.1:Int),aa p.2]).length from by unfold tl;simp;omega];exact qu⟩,_,cd⟩
 ·intro cG c i bh af h
  exact h.elim
theorem Lh:∀{l:List (Nat→Int)} {i:Nat} {y:Nat→Int},l[i]?=some y→(l.flatMap fun y=>[y 0,y 1])[2*i]?=some (y 0)∧(l.flatMap fun y=>[y 0,y 1])[2*i+1]?=some (y 1)
  |[],_,_,h=>by simp at h
  |a::l,0,y,h=>by
    have:a=y:=by simpa using h
    subst this;exact⟨rfl,rfl⟩
  |a::l,i+1,y,h=>by
    have ih:=Lh (l:=l) (i:=i) (by simpa using h)
    rw [List.flatMap_cons,show 2*(i+1)=2*i+2 by omega,show 2*i+2+1=(2*i+1)+2 by omega]
    exact ih
theorem RZ(m:Mode):(uu m).length=2+2*m.q.l.length:=by
  unfold uu;rw [List.length_append]
  have:∀l:List (Nat→Int),(l.flatMap fun y=>[y 0,y 1]).length=2*l.length:=by
    intro l;induction l with
    |nil=>rfl
    |cons a l ih=>simp only [List.flatMap_cons,List.length_append,List.length_cons,List.length_nil,ih];omega
  rw [this];rfl
theorem T4{m:Mode}{i:Nat}{y:Nat→Int}(h:m.q.l[i]?=some y):(uu m)[2+2*i]?=some (y 0)∧(uu m)[2+(2*i+1)]?=some (y 1):=⟨tJ rfl (Lh h).1,tJ rfl (Lh h).2⟩
theorem afh(m:Mode)(hm:dI K m.q.bu (m.q.l.flatMap jX))(cr:Nat)(J:Nat→List (ar B)→Prop)(cV:List (ar B))(g7:J 0 cV)(aZ:∀i w S,(uu m)[i]?=some w→J i S→oP Tryz.prog B cr [aa w] S fun b bh=>b=true∧J (i+1) bh):a6 B 169 [.agg (gg m).toArray,.func (.yield cr) #[] #[]] (K::cV) (fun v S=>v= .bool true∧∃bh,J (uu m).length bh∧S=K::bh):=by
 refine dN 41 Tryz.func169 fun ba bf=>?_
 have EG:=m.q.small
 refine aj ?_
 refine eD (aF:=gg m) fun ax=>?_
 refine l5 ?_
 refine dn (aQ m.aw.toNat) ?_
 refine ap (ja rfl ad (lP ah ah)) ?_
 have z4:=aZ (0) ((m.aw.toNat:Int)) cV (rfl) g7
 refine qY [K,U ax (gg m) 177] aA ?_
 refine iq (own:=[K,U ax (gg m) 177]) (hM:=cV) .no rfl rfl z4 rfl ?_
 rintro _ aU ⟨rfl,lE⟩
 refine bP ?_
 refine hi ?_
 refine dn (az m.q) ?_
 refine aj ?_
 have z5:=aZ (1) ((m.q.l.length:Int)) aU (rfl) lE
 refine qY [K,U ax (gg m) 177] aA ?_
 refine iq (own:=[K,U ax (gg m) 177]) (hM:=aU) (.yes 13 rfl rfl rfl) rfl rfl z5 rfl ?_
 rintro _ bh ⟨rfl,ki⟩
 refine bP ?_
 refine wi ?_
 refine dn (az m.q) ?_
 refine aj ?_
 refine ds (α:=Nat×List (ar B)) (fun⟨i,jC⟩=>i≤m.q.l.length∧J (2+2*i) jC) (fun⟨i,jC⟩=>[(24,aa (i:Int)),(23,aa (m.q.l.length:Int)),(22,az m.q),(0,.agg (gg m).toArray),(1,.func (.yield cr) #[] #[]),(2,ag ax)]) (fun⟨i,jC⟩=>K::U ax (gg m) 177::jC) (fun⟨i,jC⟩=>m.q.l.length-i) (0,bh) ?_ dq aA ?_
 ·exact⟨Nat.zero_le _,ki⟩
 rintro⟨i,jC⟩ ⟨af,vs⟩
 dsimp only
 refine bT ?_ ?_<;>intro ab
 ·obtain⟨y,bl⟩:=fp m.q.l i
  refine aj ?_
  refine ap (jV (a2:=jX) (aN:=2) (i:=i) (fun _=>rfl) rfl au hm ad bl) ?_
  refine fe fun aK=>?_
  refine ky ?_
  refine dn (aa (y 0)) ?_
  have EQ:=aZ (2+2*i) (y 0) jC ((T4 bl).1) vs
  refine qY [K,U ax (gg m) 177,U aK (jX y) 180] aA ?_
  refine iq (own:=[K,U ax (gg m) 177,U aK (jX y) 180]) (hM:=jC) .no rfl rfl EQ rfl ?_
  rintro _ ni ⟨rfl,qu⟩
  refine bP ?_
  refine hi ?_
  refine dn (aa (y 1)) ?_
  have MP:=aZ (2+(2*i+1)) (y 1) ni ((T4 bl).2) qu
  refine qY [K,U ax (gg m) 177,U aK (jX y) 180] aA ?_
  refine iq (own:=[K,U ax (gg m) 177,U aK (jX y) 180]) (hM:=ni) (.yes 33 rfl rfl rfl) rfl rfl MP rfl ?_
  rintro _ uv ⟨rfl,z6⟩
  refine cx ?_
  refine cE (i+1,uv) ?_
  (try dsimp only);exact⟨by omega,by rw [show 2+2*(i+1)=2+(2*i+1)+1 by omega];exact z6⟩
 obtain rfl:i=m.q.l.length:=by omega
 refine aj ?_
 exact⟨K::jC,⟨rfl,jC,by rw [RZ];exact vs,rfl⟩,_,aA⟩
theorem YU{d:Nat→Int}{j:Nat}(h:j<4):([aa (d 19),aa (d 20),aa (d 21),aa (d 22)]:List Value)[j]?=some (aa (d (19+j))):=by
  rcases(show j=0∨j=1∨j=2∨j=3 by omega)with rfl|rfl|rfl|rfl<;>rfl
theorem ac0{x:bZ}{d:Nat→Int}{j:Nat}(h:j<4):(rK x d)[3+j]?=some (d (19+j)):=by
  rcases(show j=0∨j=1∨j=2∨j=3 by omega)with rfl|rfl|rfl|rfl<;>rfl
theorem agU{x:bZ}{d:Nat→Int}{i mZ:Nat}(h:d 2=3)(ai:(bb (fs x.c d))[i]?=some (mZ:Int)):(rK x d)[7+i]?=some (d (3+mZ)):=by
  unfold rK;rw [if_pos h]
  exact tJ rfl (by rw [List.getElem?_map,ai];rfl)
theorem afi(x:bZ)(al:x.In K)(i:Nat)(d:Nat→Int)(kN:x.bd.l[i]?=some d)(uc:d 2=3→∀k∈bb (fs x.c d),∃mZ:Nat,k=(mZ:Int)∧mZ<16){aB:ar B}(bO:hd aB)(aJ:hK aB)(cr:Nat)(J:Nat→List (ar B)→Prop)(cV:List (ar B))(g7:J 0 cV)(aZ:∀i w S,(rK x d)[i]?=some w→J i S→oP Tryz.prog B cr [aa w] S fun b bh=>b=true∧J (i+1) bh):a6 B 170 [x.v,aa (i:Int),.func (.yield cr) #[] #[]] (K::aB::cV) (fun v S=>v= .bool true∧∃bh,J (rK x d).length bh∧S=K::aB::bh):=by
 refine dN 60 Tryz.func170 fun ba bf=>?_
 have kM:=(List.getElem?_eq_some_iff.1 kN).1
 refine aj ?_
 refine eD (aF:=(b9 x)) fun ax=>?_
 refine eD (aF:=[.func (.yield cr) #[] #[]]) fun aK=>?_
 refine de fun bq=>?_
 refine ap (jV (a2:=dP) (aN:=23) (i:=i) (fun _=>rfl) rfl au al.bd ad kN) ?_
 refine fe fun bV=>?_
 refine gN ?_
 refine dn (.func (.yield cr) #[] #[]) ?_
 refine cp ?_
 refine dn (aa (d 0)) ?_
 have z4:=aZ (0) (d 0) cV (rfl) g7
 refine qY [K,U ax (b9 x) 41,U aK [.func (.yield cr) #[] #[]] 302,U bq [.bool false] 4,U bV (dP d) 184,aB] aA ?_
 refine iq (own:=[K,U ax (b9 x) 41,U aK [.func (.yield cr) #[] #[]] 302,U bq [.bool false] 4,U bV (dP d) 184,aB]) (hM:=cV) .no rfl rfl z4 rfl ?_
 rintro _ aU ⟨rfl,lE⟩
 refine bP ?_
 refine gI ?_
 refine dn (.func (.yield cr) #[] #[]) ?_
 refine cp ?_
 refine dn (aa (d 1)) ?_
 have z5:=aZ (1) (d 1) aU (rfl) lE
 refine qY [K,U ax (b9 x) 41,U aK [.func (.yield cr) #[] #[]] 302,U bq [.bool false] 4,U bV (dP d) 184,aB] aA ?_
 refine iq (own:=[K,U ax (b9 x) 41,U aK [.func (.yield cr) #[] #[]] 302,U bq [.bool false] 4,U bV (dP d) 184,aB]) (hM:=aU) (.yes 21 rfl rfl rfl) rfl rfl z5 rfl ?_
 rintro _ bh ⟨rfl,ki⟩
 refine bP ?_
 refine iK ?_
 refine dn (.func (.yield cr) #[] #[]) ?_
 refine cp ?_
 refine dn (aa (d 2)) ?_
 have EP:=aZ (2) (d 2) bh (rfl) ki
 refine qY [K,U ax (b9 x) 41,U aK [.func (.yield cr) #[] #[]] 302,U bq [.bool false] 4,U bV (dP d) 184,aB] aA ?_
 refine iq (own:=[K,U ax (b9 x) 41,U aK [.func (.yield cr) #[] #[]] 302,U bq [.bool false] 4,U bV (dP d) 184,aB]) (hM:=bh) (.yes 28 rfl rfl rfl) rfl rfl EP rfl ?_
 rintro _ cS ⟨rfl,oS⟩
 refine bP ?_
 refine wi ?_
 refine du [aa (d 19),aa (d 20),aa (d 21),aa (d 22)] ?_
 refine aj ?_
 refine ds (α:=Nat×List (ar B)) (fun⟨j,jC⟩=>j≤4∧J (3+j) jC) (fun⟨j,jC⟩=>[(37,aa (j:Int)),(36,.agg ([aa (d 19),aa (d 20),aa (d 21),aa (d 22)]).toArray),(0,x.v),(1,aa (i:Int)),(2,.func (.yield cr) #[] #[]),(3,ag ax),(5,ag aK),(6,ag bq),(7,ag bV)]) (fun⟨j,jC⟩=>K::U ax (b9 x) 41::U aK [.func (.yield cr) #[] #[]] 302::U bq [.bool false] 4::U bV (dP d) 184::aB::jC) (fun⟨j,jC⟩=>4-j) (0,cS) ?_ dq aA ?_
 ·exact⟨Nat.zero_le _,oS⟩
 rintro⟨j,jC⟩ ⟨aI,vs⟩
 dsimp only
 refine aj ?_
 refine c2 ?_ ?_<;>intro ab
 ·refine aj ?_
  refine ap (xl rfl rfl ad rfl ah (YU ah)) ?_
  refine hi ?_
  refine dn (.func (.yield cr) #[] #[]) ?_
  refine aj ?_
  have EQ:=aZ (3+j) (d (19+j)) jC (ac0 ah) vs
  refine qY [K,U ax (b9 x) 41,U aK [.func (.yield cr) #[] #[]] 302,U bq [.bool false] 4,U bV (dP d) 184,aB] aA ?_
  refine iq (own:=[K,U ax (b9 x) 41,U aK [.func (.yield cr) #[] #[]] 302,U bq [.bool false] 4,U bV (dP d) 184,aB]) (hM:=jC) .no rfl rfl EQ rfl ?_
  rintro _ ni ⟨rfl,qu⟩
  refine cx ?_
  refine cE (j+1,ni) ?_
  (try dsimp only);exact⟨by omega,qu⟩
 obtain rfl:j=4:=by omega
 refine tx ?_
 refine tn ?_
 refine tp ?_
 refine to ?_
 refine fj ?_
 refine cC ?_
 refine cC ?_
 refine dz ?_
 refine ap (ia ad) ?_
 refine ap (da (v:=aa (d 2)) ad) ?_
 refine aj ?_
 refine c2 ?_ ?_<;>intro ae
 ·refine aj ?_
  refine dA (.nil _) (my rfl rfl au ad) ?_
  exact aO ⟨rfl,jC,by rw [show(rK x d).length=3+4 from by unfold rK;rw [if_neg ae];rfl];exact vs,rfl⟩
 refine gN ?_
 refine du (b9 x) ?_
 refine du (dP d) ?_
 refine eR (Rt x al d) ?_
 refine cm (re (fs x.c d)) ?_
 rintro _ _ ⟨hY,rfl,rfl⟩
 refine cx ?_
 refine kS (own:=[U hY [aQ (fs x.c d).toNat] 158,aB]) (aU:=U aK [.func (.yield cr) #[] #[]] 302::U bq [.bool false] 4::U bV (dP d) 184::jC) rfl fF (q1 hY (fs x.c d) bO) (fun i2 S=>∃uv,J (7+i2) uv∧S=U aK [.func (.yield cr) #[] #[]] 302::U bq [.bool false] 4::U bV (dP d) 184::uv) (fun c i2 S=>False) (show Take (U hY [aQ (fs x.c d).toNat] 158::aB::U aK [.func (.yield cr) #[] #[]] 302::U bq [.bool false] 4::U bV (dP d) 184::jC) _ _ from aA) (⟨jC,vs,rfl⟩) rfl (fun x al=>by obtain⟨j,_,rfl⟩:=List.mem_map.1 al;rfl) ?_ ?_ ?_
 ·intro x9 DS Fa i2 akq ug MO
  obtain⟨uv,z6,rfl⟩:=MO
  rw [List.length_map]at ug
  obtain⟨k,ai⟩:∃k,(bb (fs x.c d))[i2]?=some k:=⟨_,List.getElem?_eq_getElem ug⟩
  obtain⟨mZ,rfl,jH⟩:=uc ah k (List.mem_of_getElem? ai)
  rw [show((bb (fs x.c d)).map fun n=>[Value.int .i64 n]).getD i2 []=[aa (mZ:Int)]from by simp [List.getD,ai]]
  refine aj ?_
  refine⟨rfl,_,_,.cons au (Take.self _),fun hz=>?_⟩
  refine gI ?_
  refine k3 [U aK [.func (.yield cr) #[] #[]] 302,U bV (dP d) 184] ad aA ?_
  refine bj 0 rfl (da (v:= .func (.yield cr) #[] #[]) ad) ?_
  refine bG 1 rfl (dD rfl) ?_
  refine bG 2 rfl (hn ad) ?_
  refine bG 3 rfl (ns rfl rfl ad rfl jH rfl) ?_
  refine bj 4 rfl (ft (v:=aa (d (3+mZ))) rfl au ad (ZO jH)) ?_
  refine jx 5 ?_
  have aix:=aZ (7+i2) (d (3+mZ)) uv (agU ah ai) z6
  refine An rfl .no rfl rfl dy aix aA rfl ?_
  rintro _ Ng ⟨rfl,aiy⟩
  refine⟨obj x9 (.loop hz)::U bq [.bool false] 4::Ng,_,_,dy,aA,?_⟩
  refine bG 6 rfl (dD rfl) ?_
  refine pc ?_
  try simp only [List.cons_append,List.nil_append,List.append_nil]
  refine fj ?_
  refine uz rfl rfl ?_
  refine ic ?_
  refine tm ?_
  exact⟨U aK [.func (.yield cr) #[] #[]] 302::U bq [.bool false] 4::U bV (dP d) 184::Ng,_,aA,⟨Ng,aiy,rfl⟩⟩
 ·intro cG bh bo
  obtain⟨uv,z6,rfl⟩:=bo
  refine cx ?_
  refine dA (show Take [dl cG] _ _ from aA) (my rfl rfl au ad) ?_
  exact aO ⟨rfl,uv,by rw [show(rK x d).length=7+((bb (fs x.c d)).map fun n=>[Value.int .i64 n]).length from by unfold rK;rw [if_pos ah];simp;omega];exact z6,rfl⟩
 intro cG c i bh af h
 exact h.elim
theorem Gb{α β:Type}{f:α→List β}:∀{l:List α} {i k:Nat} {d:α} {w:β},l[i]?=some d→(f d)[k]?=some w→(l.flatMap f)[((l.take i).flatMap f).length+k]?=some w
  |[],i,_,_,_,h,_=>by simp at h
  |a::l,0,k,d,w,h,ai=>by
    have:a=d:=by simpa using h
    subst this
    rw [List.flatMap_cons]
    show(f a++l.flatMap f)[0+k]?=_
    rw [Nat.zero_add,List.getElem?_append_left (List.getElem?_eq_some_iff.1 ai).1];exact ai
  |a::l,i+1,k,d,w,h,ai=>by
    have ih:=Gb (f:=f) (l:=l) (i:=i) (by simpa using h) ai
    rw [List.take_succ_cons,List.flatMap_cons,List.flatMap_cons,List.length_append,Nat.add_assoc]
    exact tJ rfl ih
theorem Kj{α β:Type}{f:α→List β}{l:List α}{i:Nat}{d:α}(h:l[i]?=some d):((l.take (i+1)).flatMap f).length=((l.take i).flatMap f).length+(f d).length:=by
  rw [List.take_add_one,h];simp
theorem SV{α:Type}{a b:List α}{i:Nat}{w:α}(h:a[i]?=some w):(a++b)[i]?=some w:=by rw [List.getElem?_append_left (List.getElem?_eq_some_iff.1 h).1];exact h
abbrev yD(x:bZ)(i:Nat):Nat:=5+((x.aw.l.take i).flatMap tl).length
abbrev xc(x:bZ)(i:Nat):Nat:=5+((x.aw.l.flatMap tl).length+((x.a9.l.take i).flatMap uu).length)
abbrev xd(x:bZ)(i:Nat):Nat:=5+((x.aw.l.flatMap tl).length+((x.a9.l.flatMap uu).length+((x.bd.l.take i).flatMap (rK x)).length))
theorem ac1(x:bZ):a6 B 107 [x.v] [] (fun v S=>∃b,v= .func (.func 167) #[] #[ag b]∧S=[U b (b9 x) 41]):=by
 refine bM 4 Tryz.func107 fun ba bf=>?_
 refine fX (aF:=(b9 x)) fun ax=>?_
 exact aO ⟨ax,rfl,rfl⟩
theorem afj(c:Nat)(x:bZ)(al:x.In K)(uc:∀d∈x.bd.l,d 2=3→∀k∈bb (fs x.c d),∃mZ:Nat,k=(mZ:Int)∧mZ<16){aB:ar B}(bO:hd aB)(aJ:hK aB):Tc Tryz.prog B 167 [ag c] [U c (b9 x) 41,K,aB] ((rL x).map fun n=>[.int .i64 n]):=by
 intro cr J hc cV Mm g7 pK
 have aZ:∀i w S,(rL x)[i]?=some w→J i S→oP Tryz.prog B cr [aa w] S fun b bh=>b=true∧J (i+1) bh:=fun i w S hw bo=>by
  have h:=pK i S (by rw [List.length_map];exact(List.getElem?_eq_some_iff.1 hw).1) bo
  rw [show((rL x).map fun n=>[Value.int .i64 n]).getD i []=[aa w]from by simp [List.getD,hw]]at h
  exact h.mono fun b bh q=>q.resolve_right (fun q=>Mm _ _ q.2)
 change di _ _ _ _ (U c (b9 x) 41::K::aB::cV) _
 refine dN 78 Tryz.func167 fun ba bf=>?_
 have zz:=x.aw.small
 have L1:=x.a9.small
 have akr:=x.bd.small
 refine aj ?_
 have z4:=aZ (0) (1380273457) cV (rfl) g7
 refine qY [U c (b9 x) 41,K,aB] aA ?_
 refine iq (own:=[U c (b9 x) 41,K,aB]) (hM:=cV) .no rfl rfl z4 rfl ?_
 rintro _ aU ⟨rfl,lE⟩
 refine cx ?_
 have z5:=aZ (1) (x.cA) aU (rfl) lE
 refine qY [U c (b9 x) 41,K,aB] aA ?_
 refine iq (own:=[U c (b9 x) 41,K,aB]) (hM:=aU) (.yes 11 rfl rfl rfl) rfl rfl z5 rfl ?_
 rintro _ bh ⟨rfl,ki⟩
 refine cx ?_
 have EP:=aZ (2) ((x.aw.l.length:Int)) bh (rfl) ki
 refine qY [U c (b9 x) 41,K,aB] aA ?_
 refine iq (own:=[U c (b9 x) 41,K,aB]) (hM:=bh) (.yes 18 rfl rfl rfl) rfl rfl EP rfl ?_
 rintro _ cS ⟨rfl,oS⟩
 refine cx ?_
 have MN:=aZ (3) ((x.a9.l.length:Int)) cS (rfl) oS
 refine qY [U c (b9 x) 41,K,aB] aA ?_
 refine iq (own:=[U c (b9 x) 41,K,aB]) (hM:=cS) (.yes 26 rfl rfl rfl) rfl rfl MN rfl ?_
 rintro _ jC ⟨rfl,vs⟩
 refine cx ?_
 have EQ:=aZ (4) ((x.bd.l.length:Int)) jC (rfl) vs
 refine qY [U c (b9 x) 41,K,aB] aA ?_
 refine iq (own:=[U c (b9 x) 41,K,aB]) (hM:=jC) (.yes 34 rfl rfl rfl) rfl rfl EQ rfl ?_
 rintro _ ni ⟨rfl,qu⟩
 refine cx ?_
 refine ds (α:=Nat×List (ar B)) (fun⟨i,aU⟩=>i≤x.aw.l.length∧J (yD x i) aU) (fun⟨i,aU⟩=>[(45,aa (i:Int)),(44,aa (x.aw.l.length:Int)),(0,.func (.yield cr) #[] #[]),(1,ag c),(43,az x.aw)]) (fun⟨i,aU⟩=>U c (b9 x) 41::K::aB::aU) (fun⟨i,aU⟩=>x.aw.l.length-i) (0,ni) ?_ dq aA ?_
 ·exact⟨Nat.zero_le _,qu⟩
 rintro⟨i,aU⟩ ⟨af,lE⟩
 dsimp only
 refine bT ?_ ?_<;>intro ab
 ·obtain⟨d,bl⟩:=fp x.aw.l i
  refine aj ?_
  refine ap (jV (a2:=dd) (aN:=11) (i:=i) (fun _=>rfl) rfl au al.aw ad bl) ?_
  refine fe fun ax=>?_
  refine hi ?_
  refine du (dd d) ?_
  refine aj ?_
  refine cm (afg d cr (fun k=>J (yD x i+k)) aU lE (fun k w S ai bo=>aZ (yD x i+k) w S (by rw [yD,Nat.add_assoc];exact tJ rfl (SV (Gb bl ai))) bo)) ?_
  rintro _ bh ⟨rfl,ki⟩
  try refine bP ?_
  refine aj ?_
  refine cE (i+1,bh) ?_
  (try dsimp only);exact⟨by omega,by rw [show yD x (i+1)=yD x i+(tl d).length from by show 5+_=5+_+_;rw [Kj bl];omega];exact ki⟩
 obtain rfl:i=x.aw.l.length:=by omega
 refine aj ?_
 refine ds (α:=Nat×List (ar B)) (fun⟨i,aU⟩=>i≤x.a9.l.length∧J (xc x i) aU) (fun⟨i,aU⟩=>[(57,aa (i:Int)),(56,aa (x.a9.l.length:Int)),(0,.func (.yield cr) #[] #[]),(1,ag c),(55,az x.a9)]) (fun⟨i,aU⟩=>U c (b9 x) 41::K::aB::aU) (fun⟨i,aU⟩=>x.a9.l.length-i) (0,aU) ?_ dq aA ?_
 ·exact⟨Nat.zero_le _,by rw [show xc x 0=yD x x.aw.l.length from by rw [yD,List.take_length];rfl];exact lE⟩
 rintro⟨i,aU⟩ ⟨af,lE⟩
 dsimp only
 refine bT ?_ ?_<;>intro ae
 ·obtain⟨d,bl⟩:=fp x.a9.l i
  refine aj ?_
  refine ap (jV (a2:=gg) (aN:=2) (i:=i) (fun _=>rfl) rfl au al.a9 ad bl) ?_
  refine fe fun aK=>?_
  refine hi ?_
  refine du (gg d) ?_
  refine aj ?_
  refine cm (afh d (al.rR d (List.mem_of_getElem? bl)) cr (fun k=>J (xc x i+k)) aU lE (fun k w S ai bo=>aZ (xc x i+k) w S (by rw [xc,Nat.add_assoc,Nat.add_assoc];exact tJ rfl (tJ rfl (SV (Gb bl ai)))) bo)) ?_
  rintro _ _ ⟨rfl,bh,ki,rfl⟩
  try refine bP ?_
  refine aj ?_
  refine cE (i+1,bh) ?_
  (try dsimp only);exact⟨by omega,by rw [show xc x (i+1)=xc x i+(uu d).length from by show 5+(_+_)=5+(_+_)+_;rw [Kj bl];omega];exact ki⟩
 obtain rfl:i=x.a9.l.length:=by omega
 refine aj ?_
 refine ds (α:=Nat×List (ar B)) (fun⟨i,aU⟩=>i≤x.bd.l.length∧J (xd x i) aU) (fun⟨i,aU⟩=>[(69,aa (i:Int)),(68,aa (x.bd.l.length:Int)),(0,.func (.yield cr) #[] #[]),(1,ag c)]) (fun⟨i,aU⟩=>U c (b9 x) 41::K::aB::aU) (fun⟨i,aU⟩=>x.bd.l.length-i) (0,aU) ?_ dq aA ?_
 ·exact⟨Nat.zero_le _,by rw [show xd x 0=xc x x.a9.l.length from by rw [xc,List.take_length];rfl];exact lE⟩
 rintro⟨i,aU⟩ ⟨af,lE⟩
 dsimp only
 refine aj ?_
 refine c2 ?_ ?_<;>intro av
 ·obtain⟨d,bl⟩:=fp x.bd.l i
  refine ic ?_
  refine fj ?_
  refine cC ?_
  refine mA ?_
  refine cC ?_
  refine dz ?_
  refine ap (cj rfl) ?_
  refine ap (cj rfl) ?_
  refine e8 ?_
  refine cC ?_
  refine dz ?_
  refine ap (ed (bK:=(b9 x)) rfl au ad rfl (by rfl)) ?_
  refine aj ?_
  refine cm (afi x al i d bl (uc d (List.mem_of_getElem? bl)) bO aJ cr (fun k=>J (xd x i+k)) aU lE (fun k w S ai bo=>aZ (xd x i+k) w S (by rw [xd,Nat.add_assoc,Nat.add_assoc,Nat.add_assoc];exact tJ rfl (tJ rfl (tJ rfl (Gb bl ai)))) bo)) ?_
  rintro _ _ ⟨rfl,bh,ki,rfl⟩
  try refine bP ?_
  refine aj ?_
  refine cE (i+1,bh) ?_
  (try dsimp only);exact⟨by omega,by rw [show xd x (i+1)=xd x i+(rK x d).length from by show 5+(_+(_+_))=5+(_+(_+_))+_;rw [Kj bl];omega];exact ki⟩
 obtain rfl:i=x.bd.l.length:=by omega
 refine aj ?_
 exact⟨U c (b9 x) 41::K::aB::aU,⟨aU,rfl,.inl (by rw [List.length_map,show(rL x).length=xd x x.bd.l.length from by rw [xd,List.take_length];unfold rL;simp only [List.length_append,List.length_cons,List.length_nil]];exact lE)⟩,_,aA⟩
theorem He{α β:Type}{f:α→List β}{b:Nat}:∀{l:List α},(∀d∈l,(f d).length≤b)→(l.flatMap f).length≤b*l.length
  |[],_=>Nat.zero_le _
  |a::l,h=>by
    have ih:=He (f:=f) (b:=b) (l:=l) fun d aJ=>h d (List.mem_cons_of_mem _ aJ)
    have ab:=h a (List.mem_cons_self ..)
    rw [List.flatMap_cons,List.length_append,List.length_cons,Nat.mul_succ];omega
theorem QV{x:bZ}(h:(iY x.c).2=0):(rL x).length≤100000:=by
  have ai:=yW h
  have ab:x.aw.l.length≤16:=ai.t.2
  have ae:x.a9.l.length≤8:=by have:=ai.m.2;rw [show x.c.a9.length=x.a9.l.length from List.length_map _]at this;exact this
  have av:x.bd.l.length≤24:=ai.e
  have cb:=He (f:=tl) (b:=12) (l:=x.aw.l) fun d _=>by unfold tl;rw [List.length_append,List.length_map];have:=W5 d 8;show 4+_≤_;omega
  have cq:=He (f:=uu) (b:=10) (l:=x.a9.l) fun m hm=>by rw [RZ];have:=(ai.dX (m.aw,m.q.l) (List.mem_map.2 ⟨m,hm,rfl⟩)).2.1;have:m.q.l.length≤4:=this;omega
  have fP:=He (f:=rK x) (b:=39) (l:=x.bd.l) fun d _=>by
    unfold rK;rw [List.length_append];split
    · rw [List.length_map];have:=xo (fs x.c d);show 7+_≤_;omega
    · show 7+0≤_;omega
  unfold rL
  rw [List.length_append,List.length_append,List.length_append]
  show 5+_≤_
  omega
theorem ac2{x:bZ}(h:(iY x.c).2=0):∀d∈x.bd.l,d 2=3→∀k∈bb (fs x.c d),∃mZ:Nat,k=(mZ:Int)∧mZ<16:=by
  have ai:=yW h
  intro d _ _ k hm
  have:=Pa (JU (c:=x.c) (fun p aC=>ai.Mj aC) d) hm
  obtain⟨mZ,yg⟩:=Int.eq_ofNat_of_zero_le this.1
  exact⟨mZ,yg,by omega⟩
theorem aaM(x:bZ)(al:x.In K)(a7:(iY x.c).2=0)(uc:∀d∈x.bd.l,d 2=3→∀k∈bb (fs x.c d),∃mZ:Nat,k=(mZ:Int)∧mZ<16)(aP:(rL x).length≤100000){aB:ar B}(bO:hd aB)(aJ:hK aB):a6 B 56 [x.v] [K,aB] (fun v S=>∃a:an (BitVec 32),(a.l=(rL x).map iz∧a.Own)∧v= .tuple #[az a,ak]∧S=[cR a,K,aB]):=by
 refine bM 25 Tryz.func56 fun ba bf=>?_
 refine eD (aF:=(b9 x)) fun ax=>?_
 refine ky ?_
 refine du (b9 x) ?_
 refine eR (GQ x al) ?_
 rw [a7]
 refine cp ?_
 refine bp (aa (iY x.c).1) ?_
 refine bp (ak) ?_
 refine rm ?_
 refine bD ?_ ?_<;>intro ab
 ·exact zJ ab
 refine fe fun aK=>?_
 refine hi ?_
 refine du (b9 x) ?_
 refine cm (ac1 x) ?_
 rintro _ _ ⟨c,rfl,rfl⟩
 refine bP ?_
 refine gI ?_
 refine gE dh 42 1 ?_
 rw [show(U aK [bw] 46:ar B)=U aK [az (an.bt:an (BitVec 32))] 46 from rfl]
 refine XV (own:=[U c (b9 x) 41,K,aB]) (aU:=[U aK [az (an.bt:an (BitVec 32))] 46,cR an.bt]) rfl fF (afj c x al uc bO aJ) (fun i S=>∃a:an (BitVec 32),(a.l=((rL x).take i).map iz∧a.Own)∧S=[U aK [az a] 46,cR a]) (fun c i S=>False) (fun _ _ _ h=>h) (show Take ([U c (b9 x) 41,K,aB,U aK [az (an.bt:an (BitVec 32))] 46,cR an.bt]) _ _ from aA) (⟨an.bt,⟨rfl,an.fk⟩,rfl⟩) rfl (fun x al=>by obtain⟨j,_,rfl⟩:=List.mem_map.1 al;rfl) ?_ ?_ ?_
 ·intro cr rec j3 i bh af bo
  obtain⟨a,⟨a5,cO⟩,rfl⟩:=bo
  rw [List.length_map]at af
  obtain⟨n,bl⟩:∃n,(rL x)[i]?=some n:=⟨_,List.getElem?_eq_getElem af⟩
  rw [show((rL x).map fun n=>[Value.int .i64 n]).getD i []=[aa n]from by simp [List.getD,bl]]
  have fT:a.l.length=i:=by rw [a5,List.length_map,List.length_take];omega
  refine aj ?_
  refine⟨rfl,_,_,.cons au (Take.self _),fun hz=>?_⟩
  refine aj ?_
  refine ap (ja rfl ad (St n)) ?_
  refine im (aF:=dh (iz n)) .no rfl ad b2 b2 (by rfl) (by rfl) rfl rfl (fun bq=>?_)
  refine xr (a2:=dh) (c:=a) (y:=(iz n)) (K:=_) .no rfl rfl ad au au (ir) rfl rfl ah ah rfl (fun cI fH iH=>?_)
  refine aj ?_
  exact⟨[U aK [az cI] 46,cR cI],_,aA,⟨cI,⟨by rw [fH,a5,List.take_add_one,bl];simp,iH⟩,rfl⟩⟩
 ·intro cG bh bo
  obtain⟨a,⟨a5,cO⟩,rfl⟩:=bo
  rw [List.length_map,List.take_length]at a5
  refine bP ?_
  refine hi ?_
  refine dn (az a) ?_
  refine aj ?_
  refine dA (show Take [dl cG] _ _ from aA) (Ak rfl rfl rfl) ?_
  exact aO ⟨a,⟨a5,cO⟩,rfl,rfl⟩
 intro cG c i bh af h
 exact h.elim
def aiz(p:BitVec 32×List (Nat→Int)):List Int:=[(p.1.toNat:Int),(p.2.length:Int)]++p.2.flatMap fun y=>[y 0,y 1]
def aiA(c:ck)(d:Nat→Int):List Int:=[d 0,d 1,d 2,d 19,d 20,d 21,d 22]++(if d 2=3 then(bb (fs c d)).map (fun k=>d (3+k.toNat))else [])
def Iu(c:ck):List Int:=[1380273457,c.cA,(c.aw.length:Int),(c.a9.length:Int),(c.bd.length:Int)]++(c.aw.flatMap tl++(c.a9.flatMap aiz++c.bd.flatMap (aiA c)))
theorem agV(x:bZ):rL x=Iu x.c:=by
  unfold rL Iu
  rw [show x.c.a9=x.a9.l.map lr from rfl,List.length_map,List.flatMap_map];rfl
theorem R0(s:List UInt8)(EJ:s.length≤1000000){aB:ar B}(bO:hd aB)(aJ:hK aB):a6 B 23 [str s] [aB] (fun v S=>∃(a:an (BitVec 32)) (b8:Value),(a.Own∧a.l.length≤100000∧uJ b8∧((∃eV,p8 (ie s) true yw=some (false,eV)∧s.length≤65536∧(iY eV).2=0)→qf b8=false)∧(qf b8=false→∀eV,p8 (ie s) true yw=some (false,eV)→s.length≤65536→a.l=(Iu eV).map iz))∧v= .tuple #[az a,b8]∧S=[cR a,aB]):=by
 refine bM 42 Tryz.func23 fun ba bf=>?_
 refine cm (aaL s EJ) ?_
 rintro _ _ ⟨x,z,b8,X,⟨aiB,yy,LV⟩,rfl,rfl⟩
 refine bP ?_
 refine cp ?_
 refine bp x.v ?_
 refine bp (aa z) ?_
 refine bp (aa b8) ?_
 refine de fun ax=>?_
 refine c2 ?_ ?_<;>intro ab
 ·refine gE dh 42 1 ?_
  refine aj ?_
  refine eD fun aK=>?_
  refine ap (GI rfl ad) ?_
  refine aj ?_
  exact aO ⟨an.bt,_,⟨an.fk,Nat.zero_le _,.some _ _,fun⟨eV,a1,a3,bI⟩=>absurd (LV eV a1 a3).1 ch,fun h=>(by cases h)⟩,rfl,rfl⟩
 obtain rfl:=yy (by simpa using ab)
 have rr:=tF (B:=B) aiB.own
 refine gN ?_
 refine du (b9 x) ?_
 refine eR (GQ x rr) ?_
 refine cp ?_
 refine bp (aa (iY x.c).1) ?_
 refine bp (aa (iY x.c).2) ?_
 refine aj ?_
 refine c2 ?_ ?_<;>intro ae
 ·refine gE dh 42 1 ?_
  refine aj ?_
  refine eD fun bq=>?_
  refine ap (GI rfl ad) ?_
  refine aj ?_
  exact aO ⟨an.bt,_,⟨an.fk,Nat.zero_le _,.some _ _,fun⟨eV,a1,a3,bI⟩=>by have cv:=(LV eV a1 a3).2;rw [←cv]at bI;contradiction,fun h=>(by cases h)⟩,rfl,rfl⟩
 refine hi ?_
 refine du (b9 x) ?_
 refine cm (aaM x rr (by assumption) (ac2 (by assumption)) (QV (by assumption)) bO aJ) ?_
 rintro _ _ ⟨a,⟨a5,cO⟩,rfl,rfl⟩
 refine bP ?_
 refine cp ?_
 refine bp (az a) ?_
 refine bp (ak) ?_
 refine aj ?_
 exact aO ⟨a,_,⟨cO,by rw [a5,List.length_map];exact QV ch,.nil,fun _=>rfl,fun _ eV a1 a3=>by rw [a5,agV,(LV eV a1 a3).2]⟩,rfl,rfl⟩
theorem ac3(m:Nat):Int.tmod (m:Int) 16=((m%16:Nat):Int):=by rw [Int.tmod_eq_emod_of_nonneg (by omega)];omega
theorem afk{s:List UInt8}{f i:Nat}{b:UInt8}(bs:f≤i)(h:s[i]?=some b):(s.drop f).take (i+1-f)=(s.drop f).take (i-f)++[b]:=by
  rw [show i+1-f=(i-f)+1 by omega,List.take_add_one,List.getElem?_drop,show f+(i-f)=i by omega,h];rfl
theorem Li(s:List UInt8):0≤(dx s).2∧(dx s).2≤10:=by unfold dx;split<;>(constructor<;>simp)
theorem YV{l:List UInt8}{k:Nat}(ai:¬(k:Int)<l.length)(h:∀c∈l.take k,c≠35):m9 l=l:=GC (by rwa [List.take_of_length_le (by omega)]at h)
theorem T5(l:List UInt8)(aE:l.length≤1000000000000):a6 B 35 [str l] [] (fun v S=>v=str (m9 l)∧S=[]):=by
 refine bM 18 Tryz.func35 fun ba bf=>?_
 refine ds (α:=Nat) (fun k=>k≤l.length∧∀c∈l.take k,c≠35) (fun k=>[(3,aa (k:Int)),(0,str l)]) (fun k=>[]) (fun k=>l.length-k) 0 ?_ dq aA ?_
 ·exact⟨Nat.zero_le _,by simp⟩
 rintro k ⟨ai,zv⟩
 refine bT ?_ ?_<;>intro ab
 ·obtain⟨c,a7⟩:=fp l k
  refine aj ?_
  refine ap (jq (i:=k) rfl rfl ad rfl a7) ?_
  refine bT ?_ ?_<;>intro ae
  ·refine ap (np (wK:=none) (ec:=0) (af:=k) (p:=l.take k) rfl ad rfl ⟨_,rfl⟩ (Nat.zero_le _) ah (by simp)) ?_
   refine aj ?_
   exact⟨[],⟨by rw [QR (a7.trans (congrArg some (UInt8.toNat_inj.1 (show c.toNat=35 by omega)))) zv],rfl⟩,_,.nil _⟩
  exact cE (k+1) ⟨by omega,KN (d:=35) a7 ch zv⟩
 exact⟨[],⟨by rw [YV ah zv],rfl⟩,_,.nil _⟩
theorem R1(s:List UInt8)(aH:s.length≤1000000000000):a6 B 10 [str s] [] (fun v S=>∃x:an (List UInt8),(x.l=ie s∧x.Own)∧v=az x∧S=[hs x]):=by
 refine dN 38 Tryz.func10 fun ba bf=>?_
 refine Tr ?_
 refine gE fR 9 1 ?_
 refine ds (α:=Nat×Nat×an (List UInt8)) (fun⟨i,f,a⟩=>i≤s.length∧f≤i∧a.l.length≤i∧a.Own∧ie s=a.l++pR ((s.drop f).take (i-f)) (s.drop i)) (fun⟨i,f,a⟩=>[(5,aa (i:Int)),(4,aa (f:Int)),(3,az a),(0,str s)]) (fun⟨i,f,a⟩=>[hs a]) (fun⟨i,f,a⟩=>s.length-i) (0,0,an.bt) ?_ dq aA ?_
 ·exact⟨Nat.zero_le _,Nat.le_refl _,Nat.le_refl _,an.fk,rfl⟩
 rintro⟨i,f,a⟩ ⟨af,bs,fT,cO,cn⟩
 dsimp only
 refine bT ?_ ?_<;>intro ab
 ·obtain⟨b,aR⟩:=fp s i
  refine aj ?_
  refine ap (jq (i:=i) rfl rfl ad rfl aR) ?_
  refine bT ?_ ?_<;>intro ae
  ·refine ap (np (ec:=f) (af:=i) (p:=((s.drop f).take (i-f))) rfl ad ⟨_,rfl⟩ ⟨_,rfl⟩ ah ah rfl) ?_
   refine eR (T5 ((s.drop f).take (i-f)) (by rw [List.length_take,List.length_drop];omega)) ?_
   refine im (aF:=(([(m9 ((s.drop f).take (i-f)))]:List _).flatMap fR)) .no rfl ad b2 b2 (by rfl) (by rfl) rfl rfl (fun yr=>?_)
   refine j7 (a2:=fR) (c:=a) (b:=an.lit yr [(m9 ((s.drop f).take (i-f)))] (by simp)) .no rfl rfl ad au (show Out (U yr (([(m9 ((s.drop f).take (i-f)))]:List _).flatMap fR) 9) _ _ from au) ir (fun _=>rfl) (fun _=>rfl) (by show a.l.length+1≤_;omega) (by show(a.l.length+1)*_≤_;omega) rfl (fun cI iv lc=>?_)
   refine aj ?_
   refine cE (i+1,i+1,cI) ?_
   (try dsimp only);exact⟨by omega,Nat.le_refl _,by rw [iv,List.length_append];show a.l.length+1≤_;omega,lc,by rw [cn,qX aR,UInt8.toNat_inj.1 (show b.toNat=(10:UInt8).toNat by show b.toNat=10;omega),Dn,iv,Nat.sub_self,List.take_zero,List.append_assoc];rfl⟩
  refine cE (i+1,f,a) ?_
  (try dsimp only);exact⟨by omega,by omega,by omega,cO,by rw [cn,qX aR,Le (fun e=>ae (by rw [e];rfl)),afk bs aR]⟩
 obtain rfl:i=s.length:=by omega
 rw [List.drop_eq_nil_of_le (Nat.le_refl _),pR]at cn
 refine bT ?_ ?_<;>intro av
 ·refine ap (np (wL:=none) (ec:=f) (af:=s.length) (p:=s.drop f) rfl ad ⟨_,rfl⟩ Ke ah (Nat.le_refl _) (List.take_of_length_le (by simp))) ?_
  refine eR (T5 (s.drop f) (by rw [List.length_drop];omega)) ?_
  refine im (aF:=(([(m9 (s.drop f))]:List _).flatMap fR)) .no rfl ad b2 b2 (by rfl) (by rfl) rfl rfl (fun Vx=>?_)
  refine j7 (a2:=fR) (c:=a) (b:=an.lit Vx [(m9 (s.drop f))] (by simp)) .no rfl rfl ad au (show Out (U Vx (([(m9 (s.drop f))]:List _).flatMap fR) 9) _ _ from au) ir (fun _=>rfl) (fun _=>rfl) (by show a.l.length+1≤_;omega) (by show(a.l.length+1)*_≤_;omega) rfl (fun cI iv lc=>?_)
  refine aj ?_
  exact aO ⟨cI,⟨by rw [cn,iv,List.take_of_length_le (by rw [List.length_drop];omega),if_neg (fun e=>by rw [List.drop_eq_nil_iff]at e;omega)];rfl,lc⟩,rfl,rfl⟩
 exact aO ⟨a,⟨by rw [cn,if_pos (by rw [show s.length-f=0 by omega];rfl),List.append_nil],cO⟩,rfl,rfl⟩
theorem SW(x:List UInt8)(al:x.length≤5000000)(c:Int):a6 B 100 [str x,.int .u8 c] [] (fun v S=>∃(a b:List UInt8) (k:Bool),(a.length≤5000000∧b.length≤5000000)∧v= .tuple #[str a,str b,.bool k]∧S=[]):=by
 refine bM 26 Tryz.func100 fun ba bf=>?_
 refine ds (α:=Nat) (fun j=>j≤x.length) (fun j=>[(7,aa (j:Int)),(0,str x),(1,.int .u8 c)]) (fun j=>[]) (fun j=>x.length-j) 0 ?_ dq aA ?_
 ·exact Nat.zero_le _
 intro j aI
 refine aj ?_
 refine c2 ?_ ?_<;>intro ab
 ·refine aj ?_
  refine ap (jq (i:=j) rfl rfl ad rfl (List.getElem?_eq_getElem (show j<x.length by omega))) ?_
  refine aj ?_
  refine c2 ?_ ?_<;>intro ae
  ·refine aj ?_
   refine cZ _ ad (Take.self _) ?_
   refine bG 0 rfl (dD rfl) ?_
   refine bG 1 rfl (dD rfl) ?_
   refine bj 2 rfl (np (wK:=none) (ec:=0) (af:=j) (p:=x.take j) rfl ad (by exact rfl) ⟨_,rfl⟩ (Nat.zero_le _) ah (by simp)) ?_
   refine bG 3 rfl (dD rfl) ?_
   refine bG 4 rfl (dD rfl) ?_
   refine bj 5 rfl (mE rfl rfl ah ah) ?_
   refine bj 6 rfl (np (wL:=none) (ec:=j+1) (af:=x.length) (p:=x.drop (j+1)) rfl ad ⟨_,rfl⟩ (by exact rfl) ah (Nat.le_refl _) (List.take_of_length_le (by simp))) ?_
   refine bG 7 rfl (dD rfl) ?_
   refine bG 8 rfl (dD rfl) ?_
   refine bG 9 rfl (dD rfl) ?_
   refine pc ?_
   try simp only [List.cons_append,List.nil_append,List.append_nil]
   refine fj ?_
   refine nv ?_
   refine vE ?_
   refine pf ?_
   refine Ch ?_
   refine vE ?_
   refine pf ?_
   refine dA (.nil _) (tu rfl rfl rfl rfl) ?_
   exact⟨[],⟨x.take j,x.drop (j+1),true,⟨by rw [List.length_take];omega,by rw [List.length_drop];omega⟩,rfl,rfl⟩,_,.nil _⟩
  refine aj ?_
  refine cE (j+1) ?_
  show j+1≤_;omega
 refine xS ?_
 refine dA (.nil _) (tu rfl rfl rfl rfl) ?_
 exact⟨[],⟨[],[],false,⟨by decide,by decide⟩,rfl,rfl⟩,_,.nil _⟩
theorem YW(x:List UInt8)(al:x.length≤5000000):a6 B 52 [str x] [] (fun v S=>∃(q:dt) (k:Bool),v= .tuple #[.agg (gq q).toArray,.bool k]∧S=[]):=by
 refine bM 60 Tryz.func52 fun ba bf=>?_
 refine de fun ax=>?_
 refine cm (SW x (by omega) 58) ?_
 rintro _ _ ⟨a,b,e2,⟨a5,aR⟩,rfl,rfl⟩
 refine bP ?_
 refine cp ?_
 refine bp (str a) ?_
 refine bp (str b) ?_
 refine bp (.bool e2) ?_
 refine aj ?_
 refine cm (SW b (by omega) 45) ?_
 rintro _ _ ⟨e,d,cD,⟨he,aJ⟩,rfl,rfl⟩
 refine bP ?_
 refine cp ?_
 refine bp (str e) ?_
 refine bp (str d) ?_
 refine bp (.bool cD) ?_
 refine aj ?_
 refine cc ?_ ?_<;>intro ab
 ·refine fS ?_
  first|exact⟨[],⟨(0,0,0),_,rfl,rfl⟩,_,.nil _⟩|exact⟨[],⟨((dx a).1,(dx e).1,(dx d).1),_,rfl,rfl⟩,_,.nil _⟩
 refine bD ?_ ?_<;>intro ae
 ·refine fS ?_
  first|exact⟨[],⟨(0,0,0),_,rfl,rfl⟩,_,.nil _⟩|exact⟨[],⟨((dx a).1,(dx e).1,(dx d).1),_,rfl,rfl⟩,_,.nil _⟩
 refine gj (DG a) ?_
 rw [tH]
 have Vq:=Li a
 refine cp ?_
 refine bp (aa (dx a).1) ?_
 refine bp (aa (dx a).2) ?_
 refine aj ?_
 refine gj (DG e) ?_
 rw [tH]
 have aks:=Li e
 refine cp ?_
 refine bp (aa (dx e).1) ?_
 refine bp (aa (dx e).2) ?_
 refine aj ?_
 refine gj (DG d) ?_
 rw [tH]
 have Vp:=Li d
 refine cp ?_
 refine bp (aa (dx d).1) ?_
 refine bp (aa (dx d).2) ?_
 refine aj ?_
 refine fS ?_
 first|exact⟨[],⟨(0,0,0),_,rfl,rfl⟩,_,.nil _⟩|exact⟨[],⟨((dx a).1,(dx e).1,(dx d).1),_,rfl,rfl⟩,_,.nil _⟩
theorem SX(qQ:Nat):a6 B 101 [aQ (qQ:Int)] [] (fun v S=>∃l:List UInt8,v=str l∧S=[]):=by
 refine bM 19 Tryz.func101 fun ba bf=>?_
 refine ds (α:=Nat×Nat×List UInt8) (fun⟨i,m,l⟩=>i≤8∧l.length≤i) (fun⟨i,m,l⟩=>[(4,aa (i:Int)),(0,aQ (m:Int)),(3,str l)]) (fun⟨i,m,l⟩=>[]) (fun⟨i,m,l⟩=>8-i) (0,qQ,[]) ?_ dq aA ?_
 ·exact⟨Nat.zero_le _,Nat.le_refl _⟩
 rintro⟨i,m,l⟩ ⟨af,aE⟩
 dsimp only
 refine bT ?_ ?_<;>intro ab
 ·obtain⟨c,a7⟩:∃c,zu[m%16]?=some c:=⟨_,List.getElem?_eq_getElem (by show m%16<16;omega)⟩
  refine aj ?_
  refine ap (pX (z:=((m%16:Nat):Int)) rfl rfl b2 (ac3 m)) ?_
  refine ap (jq (i:=(m%16)) rfl rfl ad rfl a7) ?_
  refine im (aF:=m8 c) .no rfl ad b2 b2 (by rfl) (by rfl) rfl rfl (fun ax=>?_)
  refine ap (GF (a:=an.lit ax [c] (by simp)) (l:=[c]) rfl au (lQ (aF:=m8 c)) rfl ad) ?_
  refine aj ?_
  refine ap (gw rfl rfl (by simp;omega)) ?_
  refine aj ?_
  refine ap (pX (z:=((BitVec.ofInt 32 ((m:Int).tdiv 16)).toNat:Int)) rfl rfl b2 (xx _)) ?_
  refine aj ?_
  refine cE (i+1,(BitVec.ofInt 32 ((m:Int).tdiv 16)).toNat,[c]++l) ?_
  (try dsimp only);exact⟨by omega,by simp;omega⟩
 exact aO ⟨_,rfl,rfl⟩
theorem R2(l:List UInt8)(aE:l.length≤5000000):a6 B 53 [str l] [] (fun v S=>∃(w:BitVec 32) (b8:Int),v= .tuple #[aQ w.toNat,aa b8]∧S=[]):=by
 refine bM 37 Tryz.func53 fun ba bf=>?_
 refine ds (α:=Nat×BitVec 32) (fun⟨i,x⟩=>i≤l.length) (fun⟨i,x⟩=>[(5,aa (i:Int)),(4,aQ x.toNat),(0,str l)]) (fun⟨i,x⟩=>[]) (fun⟨i,x⟩=>l.length-i) (0,0#32) ?_ dq aA ?_
 ·exact Nat.zero_le _
 rintro⟨i,x⟩ af
 dsimp only
 refine aj ?_
 refine cc ?_ ?_<;>intro ab
 ·refine bD ?_ ?_<;>intro ae
  ·refine ds (α:=Nat×BitVec 32) (fun⟨k,x⟩=>k≤16) (fun⟨k,x⟩=>[(6,aa (k:Int)),(4,aQ x.toNat),(0,str l),(5,aa (i:Int))]) (fun⟨k,x⟩=>[]) (fun⟨k,x⟩=>16-k) (0,x) ?_ dq aA ?_
   ·exact Nat.zero_le _
   rintro⟨k,x⟩ ai
   dsimp only
   refine aj ?_
   refine c2 ?_ ?_<;>intro av
   ·refine aj ?_
    refine cZ _ ad (Take.self _) ?_
    refine bG 0 rfl (dD rfl) ?_
    refine bj 1 rfl (jq (i:=k) rfl rfl ad rfl (List.getElem?_eq_getElem (show k<16 by omega))) ?_
    refine bG 2 rfl (dD rfl) ?_
    refine bG 3 rfl (dD rfl) ?_
    refine bj 4 rfl (jq (i:=i) rfl rfl ad rfl (List.getElem?_eq_getElem (show i<l.length by omega))) ?_
    refine bG 5 rfl (dD rfl) ?_
    refine pc ?_
    try simp only [List.cons_append,List.nil_append,List.append_nil]
    refine fj ?_
    refine bD ?_ ?_<;>intro aV
    ·refine ap (g6 rfl rfl rfl (dM _) rfl) ?_
     refine aj ?_
     refine ap (ja rfl ad (xx _)) ?_
     refine ap (g6 rfl rfl (dM _) (dM _) rfl) ?_
     refine aj ?_
     refine cE (k+1,BitVec.ofInt 32 16*x+BitVec.ofInt 32 (k:Int)) ?_
     (try dsimp only);show k+1≤_;omega
    refine cE (k+1,x) ?_
    (try dsimp only);show k+1≤_;omega
   refine aj ?_
   refine cE (i+1,x) ?_
   (try dsimp only);show i+1≤_;omega
  refine cm (SX x.toNat) ?_
  rintro _ _ ⟨z,rfl,rfl⟩
  refine cx ?_
  refine ap (k6 (q:=!(z==l)) rfl rfl rfl) ?_
  refine bT ?_ ?_<;>intro bN
  ·first|exact⟨[],⟨_,_,rfl,rfl⟩,_,.nil _⟩|exact⟨[],⟨0#32,_,rfl,rfl⟩,_,.nil _⟩
  first|exact⟨[],⟨_,_,rfl,rfl⟩,_,.nil _⟩|exact⟨[],⟨0#32,_,rfl,rfl⟩,_,.nil _⟩
 refine cm (SX x.toNat) ?_
 rintro _ _ ⟨z,rfl,rfl⟩
 refine cx ?_
 refine ap (k6 (q:=!(z==l)) rfl rfl rfl) ?_
 refine bT ?_ ?_<;>intro c0
 ·first|exact⟨[],⟨_,_,rfl,rfl⟩,_,.nil _⟩|exact⟨[],⟨0#32,_,rfl,rfl⟩,_,.nil _⟩
 first|exact⟨[],⟨_,_,rfl,rfl⟩,_,.nil _⟩|exact⟨[],⟨0#32,_,rfl,rfl⟩,_,.nil _⟩
def LW:List (List UInt8):=[[116,105,99,107],[111,102,102,101,114],[114,101,113,117,101,115,116],[115,101,110,100],[116,97,107,101],[115,101,116],[99,108,101,97,114],[116,101,115,116],[98,101,103,105,110],[112,117,116],[99,111,109,109,105,116],[99,111,110,102,105,114,109],[99,117,116],[111,102,102],[98,111,111,116]]
def D7:List (List UInt8):=[[110],[97,110,115],[97],[97,110],[97],[104],[104],[97,104],[],[119],[],[],[97,104],[],[]]
theorem KP:∀{l:List (List UInt8)} {j:Nat} {a:List UInt8},l[j]?=some a→(l.flatMap fR)[j]?=some (str a)
  |[],_,_,h=>by simp at h
  |x::l,0,a,h=>by
    have:x=a:=by simpa using h
    subst this;rfl
  |x::l,j+1,a,h=>by rw [List.flatMap_cons];exact KP (l:=l) (j:=j) (by simpa using h)
theorem aaN{i:Nat}{b:List UInt8}(h:D7[i]?=some b):b.length≤3:=by
  have:∀x∈D7,x.length≤3:=by decide
  exact this b (List.mem_of_getElem? h)
theorem afl(k:Int):a6 B 51 [aa k] [] (fun v S=>∃a b:List UInt8,b.length≤3∧v= .tuple #[str a,str b]∧S=[]):=by
 refine bM 24 Tryz.func51 fun ba bf=>?_
 refine cc ?_ ?_<;>intro ab
 ·exact aO ⟨[],[],by decide,rfl,rfl⟩
 refine bD ?_ ?_<;>intro ae
 ·exact aO ⟨[],[],by decide,rfl,rfl⟩
 obtain⟨j,aI⟩:∃j:Nat,k-1=(j:Int):=Int.eq_ofNat_of_zero_le (by omega)
 obtain⟨a,a5⟩:∃a,LW[j]?=some a:=⟨_,List.getElem?_eq_getElem (by show j<15;omega)⟩
 obtain⟨b,aR⟩:∃b,D7[j]?=some b:=⟨_,List.getElem?_eq_getElem (by show j<15;omega)⟩
 refine aj ?_
 refine im (aF:=LW.flatMap fR) .no rfl ad (by decide) (by decide) (by rfl) (by rfl) rfl rfl (fun aiC=>?_)
 refine aj ?_
 refine im (aF:=D7.flatMap fR) .no rfl ad (by decide) (by decide) (by rfl) (by rfl) rfl rfl (fun aiD=>?_)
 refine iK ?_
 refine cZ [U aiC (LW.flatMap fR) 9,U aiD (D7.flatMap fR) 9] ad aA ?_
 refine bG 0 rfl (dD rfl) ?_
 refine bG 1 rfl (dD rfl) ?_
 refine bj 2 rfl (y1 rfl rfl (by omega) (by omega)) ?_
 refine bj 3 rfl (C3 (o:=0) (j:=j) rfl rfl ad (by omega) (by omega)) ?_
 refine bj 4 rfl (ft (v:=str a) rfl au ad (by rw [Nat.zero_add];exact KP a5)) ?_
 refine bG 5 rfl (dD rfl) ?_
 refine bG 6 rfl (dD rfl) ?_
 refine bj 7 rfl (y1 rfl rfl (by omega) (by omega)) ?_
 refine bj 8 rfl (C3 (o:=0) (j:=j) rfl rfl ad (by omega) (by omega)) ?_
 refine bj 9 rfl (ft (v:=str b) rfl au ad (by rw [Nat.zero_add];exact KP aR)) ?_
 refine bG 10 rfl (dD rfl) ?_
 refine bG 11 rfl (dD rfl) ?_
 refine pc ?_
 try simp only [List.cons_append,List.nil_append,List.append_nil]
 refine fj ?_
 refine nv ?_
 refine dA (.nil _) (Ak rfl rfl rfl) ?_
 exact⟨[],⟨a,b,aaN aR,rfl,rfl⟩,_,.nil _⟩
theorem afm(s:List UInt8)(aH:s.length≤100000):a6 B 22 [str s] [] (fun v S=>∃(g:dQ) (b:Bool),v= .tuple #[.agg (e9 g).toArray,.bool b]∧S=[]):=by
 refine bM 168 Tryz.func22 fun ba bf=>?_
 refine de fun ax=>?_
 refine cm (GA s (by omega)) ?_
 rintro _ _ ⟨x,⟨al,lH⟩,rfl,rfl⟩
 refine cx ?_
 refine de fun aK=>?_
 refine c2 ?_ ?_<;>intro ab
 ·refine aj ?_
  refine fS ?_
  exact⟨[],⟨(⟨0,0,0,an.bt,an.bt⟩:dQ),_,rfl,rfl⟩,_,.nil _⟩
 obtain⟨w,hw⟩:=fp x.l 0
 have By:x.l.length≤100001:=by rw [al];have:(pieces s).length≤s.length+1:=yY s [];omega
 refine ic ?_
 refine fj ?_
 refine cC ?_
 refine dz ?_
 refine ap (cj rfl) ?_
 refine e8 ?_
 refine cC ?_
 refine cC ?_
 refine dz ?_
 refine ap (cj rfl) ?_
 refine e8 ?_
 refine mA ?_
 refine gE gq 135 3 ?_
 refine gE dh 42 1 ?_
 refine ds (α:=Int×dQ×List UInt8) (fun⟨er,g,h8⟩=>1≤er∧er≤16∧h8.length≤3∧g.bA.Own∧g.cQ.Own∧g.bA.l.length≤1∧g.cQ.l.length≤1) (fun⟨er,g,h8⟩=>[(7,aa er),(6,str h8),(2,ag ax),(4,az x),(5,ag aK)]) (fun⟨er,g,h8⟩=>[U ax [ak,ak,ak,bw,bw] 63,U aK (e9 g) 63,hs x,kT g.bA,cR g.cQ]) (fun⟨er,g,h8⟩=>(16-er).toNat) (1,(⟨0,0,0,an.bt,an.bt⟩:dQ),[]) ?_ dq cd ?_
 ·exact⟨by decide,by decide,by decide,an.fk,an.fk,Nat.zero_le _,Nat.zero_le _⟩
 rintro⟨er,g,h8⟩ ⟨o2,h7,Bj,gM,hI,mn,o9⟩
 dsimp only
 refine bT ?_ ?_<;>intro ae
 ·refine cm (afl er) ?_
  rintro _ _ ⟨a,b,hj,rfl,rfl⟩
  refine bP ?_
  refine cp ?_
  refine bp (str a) ?_
  refine bp (str b) ?_
  refine aj ?_
  refine ap (jS (j:=0) rfl rfl ad (x).fl (rfl:(0:Int)=((0:Nat):Int)) ah rfl) ?_
  refine ap (eQ (a2:=fR) (aN:=1) (i:=0) (k:=0) (fun _=>rfl) rfl au (dT lH rfl) ad hw rfl) ?_
  refine ap (k6 (a:=a) (b:=w) rfl rfl rfl) ?_
  refine bT ?_ ?_<;>intro av
  ·refine cE (er+1,⟨er,g.c4,g.cs,g.bA,g.cQ⟩,b) ?_
   (try dsimp only);exact⟨by omega,by omega,hj,gM,hI,mn,o9⟩
  refine cE (er+1,g,h8) ?_
  (try dsimp only);exact⟨by omega,by omega,Bj,gM,hI,mn,o9⟩
 refine bD ?_ ?_<;>intro aV
 ·refine fS ?_
  exact⟨[],⟨g,_,rfl,rfl⟩,_,.nil _⟩
 refine ds (α:=Nat×Nat×dQ) (fun⟨k,i,g⟩=>k≤h8.length∧1≤i∧i≤x.l.length∧g.bA.Own∧g.cQ.Own∧g.bA.l.length≤i∧g.cQ.l.length≤i) (fun⟨k,i,g⟩=>[(11,aa (k:Int)),(10,aa (i:Int)),(2,ag ax),(4,az x),(5,ag aK),(6,str h8)]) (fun⟨k,i,g⟩=>[U ax [ak,ak,ak,bw,bw] 63,U aK (e9 g) 63,hs x,kT g.bA,cR g.cQ]) (fun⟨k,i,g⟩=>h8.length-k) (0,1,g) ?_ dq cd ?_
 ·exact⟨Nat.zero_le _,Nat.le_refl _,by omega,gM,hI,mn,o9⟩
 rintro⟨k,i,g⟩ ⟨ai,te,ug,gM,hI,mn,o9⟩
 dsimp only
 refine aj ?_
 refine c2 ?_ ?_<;>intro bN
 ·obtain⟨c,a7⟩:=fp h8 k
  refine ic ?_
  refine fj ?_
  refine cC ?_
  refine mA ?_
  refine jT (α:=Nat×dQ) (fun⟨i,g⟩=>1≤i∧i≤x.l.length∧g.bA.Own∧g.cQ.Own∧g.bA.l.length≤i∧g.cQ.l.length≤i) (fun⟨i,g⟩=>[(10,aa (i:Int)),(2,ag ax),(4,az x),(5,ag aK),(6,str h8),(11,aa (k:Int))]) (fun⟨i,g⟩=>[U ax [ak,ak,ak,bw,bw] 63,U aK (e9 g) 63,hs x,kT g.bA,cR g.cQ]) ?_ ?_
  ·skip
   refine aj ?_
   refine ds (α:=Nat×dQ) (fun⟨i,g⟩=>1≤i∧i≤x.l.length∧g.bA.Own∧g.cQ.Own∧g.bA.l.length≤i∧g.cQ.l.length≤i) (fun⟨i,g⟩=>[(10,aa (i:Int)),(2,ag ax),(4,az x),(5,ag aK),(6,str h8),(11,aa (k:Int))]) (fun⟨i,g⟩=>[U ax [ak,ak,ak,bw,bw] 63,U aK (e9 g) 63,hs x,kT g.bA,cR g.cQ]) (fun⟨i,g⟩=>x.l.length-i) (i,g) ?_ dq cd ?_
   ·exact⟨te,ug,gM,hI,mn,o9⟩
   rintro⟨i,g⟩ ⟨te,ug,gM,hI,mn,o9⟩
   dsimp only
   refine aj ?_
   refine ap (jq (i:=k) rfl rfl ad rfl a7) ?_
   refine aj ?_
   refine cc ?_ ?_<;>intro c0
   ·refine bD ?_ ?_<;>intro fO
    ·obtain⟨q,bF⟩:=fp x.l i
     have nb:q.length≤5000000:=by have yx:q∈pieces s:=(by rw [←al];exact List.mem_of_getElem? bF);have:=xz s [] q yx;simp at this;omega
     refine aj ?_
     refine de fun bq=>?_
     refine ap (jq (i:=k) rfl rfl ad rfl a7) ?_
     refine bT ?_ ?_<;>intro gk
     ·refine ap (eQ (a2:=fR) (aN:=1) (i:=i) (k:=0) (fun _=>rfl) rfl au (dT lH rfl) ad bF rfl) ?_
      refine cm (YW q nb) ?_
      rintro _ _ ⟨eB,rD,rfl,rfl⟩
      refine bP ?_
      refine cp ?_
      refine bp (.agg (gq eB).toArray) ?_
      refine bp (.bool rD) ?_
      refine aj ?_
      refine im (aF:=(([eB]:List _).flatMap gq)) .no rfl ad b2 b2 (by rfl) (by rfl) rfl rfl (fun Vy=>?_)
      refine j7 (a2:=gq) (c:=g.bA) (b:=an.lit Vy [eB] (by simp)) .no rfl rfl ad au (show Out (U Vy (([eB]:List _).flatMap gq) 135) _ _ from au) ir (fun _=>rfl) (fun _=>rfl) (by show g.bA.l.length+1≤_;omega) (by show(g.bA.l.length+1)*_≤_;omega) rfl (fun m iv lc=>?_)
      refine nH ?_
      refine qW (t:=105) rfl (fun hW=>?_) (fun hW=>?_)
      ·replace hW:=gX hW
       refine hi ?_
       refine c2 ?_ ?_<;>intro na
       ·refine aj ?_
        refine fS ?_
        exact⟨[],⟨⟨g.cT,g.c4,g.cs,m,g.cQ⟩,_,rfl,rfl⟩,_,.nil _⟩
       first|omega|simp at na|(simp at na;done)
      replace hW:=gX hW
      refine aj ?_
      refine cE (i+1,⟨g.cT,g.c4,g.cs,m,g.cQ⟩) ?_
      (try dsimp only);exact⟨by omega,by omega,lc,hI,by show m.l.length≤_;rw [iv,List.length_append];exact Nat.succ_le_succ mn,by show g.cQ.l.length≤_;omega⟩
     omega
    exact ez (i,g) ⟨te,ug,gM,hI,mn,o9⟩
   refine ap (jq (i:=k) rfl rfl ad rfl a7) ?_
   refine aj ?_
   refine cc ?_ ?_<;>intro zM
   ·refine bD ?_ ?_<;>intro H2
    ·obtain⟨q,bF⟩:=fp x.l i
     have nb:q.length≤5000000:=by have yx:q∈pieces s:=(by rw [←al];exact List.mem_of_getElem? bF);have:=xz s [] q yx;simp at this;omega
     refine aj ?_
     refine de fun bV=>?_
     refine ap (jq (i:=k) rfl rfl ad rfl a7) ?_
     refine bT ?_ ?_<;>intro Er
     ·omega
     refine ap (eQ (a2:=fR) (aN:=1) (i:=i) (k:=0) (fun _=>rfl) rfl au (dT lH rfl) ad bF rfl) ?_
     refine cm (R2 q nb) ?_
     rintro _ _ ⟨w,b8,rfl,rfl⟩
     refine bP ?_
     refine cp ?_
     refine bp (aQ w.toNat) ?_
     refine bp (aa b8) ?_
     refine aj ?_
     refine im (aF:=(([w]:List _).flatMap dh)) .no rfl ad b2 b2 (by rfl) (by rfl) rfl rfl (fun T6=>?_)
     refine j7 (a2:=dh) (c:=g.cQ) (b:=an.lit T6 [w] (by simp)) .no rfl rfl ad au (show Out (U T6 (([w]:List _).flatMap dh) 42) _ _ from au) ir (fun _=>rfl) (fun _=>rfl) (by show g.cQ.l.length+1≤_;omega) (by show(g.cQ.l.length+1)*_≤_;omega) rfl (fun m iv lc=>?_)
     refine bT ?_ ?_<;>intro Bx
     ·refine fS ?_
      exact⟨[],⟨⟨g.cT,g.c4,g.cs,g.bA,m⟩,_,rfl,rfl⟩,_,.nil _⟩
     refine cE (i+1,⟨g.cT,g.c4,g.cs,g.bA,m⟩) ?_
     (try dsimp only);exact⟨by omega,by omega,gM,lc,by show g.bA.l.length≤_;omega,by show m.l.length≤_;rw [iv,List.length_append];exact Nat.succ_le_succ o9⟩
    exact ez (i,g) ⟨te,ug,gM,hI,mn,o9⟩
   exact ez (i,g) ⟨te,ug,gM,hI,mn,o9⟩
  rintro⟨i,g⟩ ⟨te,ug,gM,hI,mn,o9⟩
  refine aj ?_
  refine ap (jq (i:=k) rfl rfl ad rfl a7) ?_
  refine aj ?_
  refine cc ?_ ?_<;>intro Io
  ·refine cE (k+1,i,g) ?_
   (try dsimp only);exact⟨by omega,by omega,by omega,gM,hI,by omega,by omega⟩
  refine ap (jq (i:=k) rfl rfl ad rfl a7) ?_
  refine bT ?_ ?_<;>intro mT
  ·refine cE (k+1,i,g) ?_
   (try dsimp only);exact⟨by omega,by omega,by omega,gM,hI,by omega,by omega⟩
  refine bD ?_ ?_<;>intro aip
  ·refine fS ?_
   exact⟨[],⟨g,_,rfl,rfl⟩,_,.nil _⟩
  obtain⟨q,bF⟩:=fp x.l i
  have nb:q.length≤5000000:=by have yx:q∈pieces s:=(by rw [←al];exact List.mem_of_getElem? bF);have:=xz s [] q yx;simp at this;omega
  refine aj ?_
  refine ap (eQ (a2:=fR) (aN:=1) (i:=i) (k:=0) (fun _=>rfl) rfl au (dT lH rfl) ad bF rfl) ?_
  refine gj (DG q) ?_
  refine cp ?_
  refine bp (aa (lI q).1) ?_
  refine bp (aa (lI q).2) ?_
  refine iK ?_
  refine jT (α:=Int×Int) (fun⟨n,e⟩=>True) (fun⟨n,e⟩=>[(16,aa n),(17,aa e),(2,ag ax),(4,az x),(5,ag aK),(6,str h8),(10,aa (i:Int)),(11,aa (k:Int))]) (fun⟨n,e⟩=>[U ax [ak,ak,ak,bw,bw] 63,U aK (e9 g) 63,hs x,kT g.bA,cR g.cQ]) ?_ ?_
  ·skip
   refine aj ?_
   refine ap (jq (i:=k) rfl rfl ad rfl a7) ?_
   refine bT ?_ ?_<;>intro aiq
   ·refine ap (eQ (a2:=fR) (aN:=1) (i:=i) (k:=0) (fun _=>rfl) rfl au (dT lH rfl) ad bF rfl) ?_
    refine cm (R2 q nb) ?_
    rintro _ _ ⟨w,b8,rfl,rfl⟩
    refine bP ?_
    refine cp ?_
    refine bp (aQ w.toNat) ?_
    refine bp (aa b8) ?_
    refine aj ?_
    refine ap (ja rfl ad (lP ah ah)) ?_
    refine aj ?_
    exact ez ((w.toNat:Int),b8) trivial
   exact ez ((lI q).1,(lI q).2) trivial
  rintro⟨n,e⟩ _
  refine bT ?_ ?_<;>intro akt
  ·refine fS ?_
   exact⟨[],⟨g,_,rfl,rfl⟩,_,.nil _⟩
  refine ap (jq (i:=k) rfl rfl ad rfl a7) ?_
  refine bT ?_ ?_<;>intro aku
  ·refine cE (k+1,i+1,⟨g.cT,n,g.cs,g.bA,g.cQ⟩) ?_
   (try dsimp only);exact⟨by omega,by omega,by omega,gM,hI,by show g.bA.l.length≤_;omega,by show g.cQ.l.length≤_;omega⟩
  refine cE (k+1,i+1,⟨g.cT,g.c4,n,g.bA,g.cQ⟩) ?_
  (try dsimp only);exact⟨by omega,by omega,by omega,gM,hI,by show g.bA.l.length≤_;omega,by show g.cQ.l.length≤_;omega⟩
 refine aj ?_
 refine fS ?_
 exact⟨[],⟨g,_,rfl,rfl⟩,_,.nil _⟩
theorem ac4(s:List UInt8)(EJ:s.length≤1000000):a6 B 6 [str s] [] (fun v S=>∃(a:an dQ) (z b8:Int),(a.Own∧a.l.length≤512)∧v= .tuple #[az a,aa z,aa b8]∧S=[rT a]):=by
 refine bM 50 Tryz.func6 fun ba bf=>?_
 refine c2 ?_ ?_<;>intro ab
 ·refine gE e9 63 5 ?_
  refine rm ?_
  refine dA (.nil _) (tu rfl rfl rfl rfl) ?_
  exact aO ⟨an.bt,_,_,⟨an.fk,Nat.zero_le _⟩,rfl,rfl⟩
 have jK:s.length≤65536:=by omega
 refine aj ?_
 refine cm (R1 s (by omega)) ?_
 rintro _ _ ⟨x,⟨al,lH⟩,rfl,rfl⟩
 refine bP ?_
 refine rm ?_
 refine gE e9 63 5 ?_
 refine gE e9 63 5 ?_
 refine ds (α:=Nat×an dQ) (fun⟨i,a⟩=>i≤x.l.length∧a.Own∧a.l.length≤512) (fun⟨i,a⟩=>[(7,aa (i:Int)),(5,az a),(6,az x)]) (fun⟨i,a⟩=>[hs x,rT a,eO (an.bt:an dQ) 63 5 e9]) (fun⟨i,a⟩=>x.l.length-i) (0,(an.bt:an dQ)) ?_ dq cd ?_
 ·exact⟨Nat.zero_le _,an.fk,Nat.zero_le _⟩
 rintro⟨i,a⟩ ⟨af,cO,fT⟩
 dsimp only
 refine aj ?_
 refine c2 ?_ ?_<;>intro ae
 ·obtain⟨q,bF⟩:=fp x.l i
  have nb:=(xh s).2 q (by rw [←al];exact List.mem_of_getElem? bF)
  have akv:x.l.length≤s.length:=by rw [al];exact(xh s).1
  refine aj ?_
  refine ap (eQ (a2:=fR) (aN:=1) (i:=i) (k:=0) (fun _=>rfl) rfl au (dT lH rfl) ad bF rfl) ?_
  refine cm (GA q (by omega)) ?_
  rintro _ _ ⟨y,⟨aZ,rv⟩,rfl,rfl⟩
  refine cx ?_
  refine bD ?_ ?_<;>intro av
  ·refine cE (i+1,a) ?_
   (try dsimp only);exact⟨by omega,cO,fT⟩
  refine ap (eQ (a2:=fR) (aN:=1) (i:=i) (k:=0) (fun _=>rfl) rfl au (dT lH rfl) ad bF rfl) ?_
  refine cm (afm q (by omega)) ?_
  rintro _ _ ⟨g,b,rfl,rfl⟩
  refine bP ?_
  refine cp ?_
  refine bp (.agg (e9 g).toArray) ?_
  refine bp (.bool b) ?_
  refine de fun ax=>?_
  refine pJ ?_ ?_<;>intro aV
  ·refine afG ?_
   refine dA (.nil _) (tu rfl rfl rfl rfl) ?_
   exact aO ⟨an.bt,_,_,⟨an.fk,Nat.zero_le _⟩,rfl,rfl⟩
  refine aj ?_
  refine c2 ?_ ?_<;>intro bN
  ·refine Ls ?_
   refine dA (.nil _) (tu rfl rfl rfl rfl) ?_
   exact aO ⟨an.bt,_,_,⟨an.fk,Nat.zero_le _⟩,rfl,rfl⟩
  refine hi ?_
  refine du (e9 g) ?_
  refine im (aF:=e9 g) .no rfl ad b2 b2 (by rfl) (by rfl) rfl rfl (fun Iv=>?_)
  rw [show(U Iv (e9 g) 63:ar B)=U Iv (([g]:List dQ).flatMap e9) 63 from rfl]
  refine j7 (a2:=e9) (c:=a) (b:=an.lit Iv [g] (by simp)) .no rfl rfl ad au (show Out (U Iv (([g]:List dQ).flatMap e9) 63) _ _ from au) ir (fun _=>rfl) (fun _=>rfl) (by show a.l.length+1≤_;omega) (by show(a.l.length+1)*_≤_;omega) rfl (fun cI iv lc=>?_)
  refine aj ?_
  refine cE (i+1,cI) ?_
  (try dsimp only);exact⟨by omega,lc,by rw [iv,List.length_append];show a.l.length+1≤_;omega⟩
 refine zi ?_
 refine dA (.nil _) (tu rfl rfl rfl rfl) ?_
 exact aO ⟨a,_,_,⟨cO,fT⟩,rfl,rfl⟩
theorem ac5(a:an dQ)(aq:a.Own)(aP:a.l.length≤512):a6 B 7 [az a,aa 40] [rT a] (fun v S=>∃b:Bool,v= .bool b∧S=[]):=by
 refine bM 71 Tryz.func7 fun ba bf=>?_
 refine ds (α:=Nat×Int) (fun⟨i,n⟩=>i≤a.l.length∧0≤n∧n≤4096*(i:Int)) (fun⟨i,n⟩=>[(6,aa (i:Int)),(5,aa n),(0,az a),(1,aa 40)]) (fun⟨i,n⟩=>[rT a]) (fun⟨i,n⟩=>a.l.length-i) (0,0) ?_ dq aA ?_
 ·exact⟨Nat.zero_le _,Int.le_refl _,Int.le_refl _⟩
 rintro⟨i,n⟩ ⟨af,yb,mn⟩
 dsimp only
 refine aj ?_
 refine cc ?_ ?_<;>intro ab
 ·obtain⟨x,bl⟩:=fp a.l i
  have Bm:=x.bA.small
  have Bn:=x.cQ.small
  refine bT ?_ ?_<;>intro ae
  ·refine ap (eQ (a2:=e9) (aN:=5) (i:=i) (k:=3) (fun _=>rfl) rfl au (dT aq rfl) ad bl rfl) ?_
   refine aj ?_
   refine cc ?_ ?_<;>intro av
   ·exact aO ⟨_,rfl,rfl⟩
   refine ap (eQ (a2:=e9) (aN:=5) (i:=i) (k:=4) (fun _=>rfl) rfl au (dT aq rfl) ad bl rfl) ?_
   refine bT ?_ ?_<;>intro aV
   ·exact aO ⟨_,rfl,rfl⟩
   refine ap (eQ (a2:=e9) (aN:=5) (i:=i) (k:=0) (fun _=>rfl) rfl au (dT aq rfl) ad bl rfl) ?_
   refine aj ?_
   refine cc ?_ ?_<;>intro bN
   ·refine ap (eQ (a2:=e9) (aN:=5) (i:=i) (k:=2) (fun _=>rfl) rfl au (dT aq rfl) ad bl rfl) ?_
    refine aj ?_
    refine cc ?_ ?_<;>intro c0
    ·refine ap (eQ (a2:=e9) (aN:=5) (i:=i) (k:=2) (fun _=>rfl) rfl au (dT aq rfl) ad bl rfl) ?_
     refine bT ?_ ?_<;>intro fO
     ·refine ap (eQ (a2:=e9) (aN:=5) (i:=i) (k:=2) (fun _=>rfl) rfl au (dT aq rfl) ad bl rfl) ?_
      refine aj ?_
      refine cE (i+1,n+x.cs) ?_
      (try dsimp only);exact⟨by omega,by omega,by omega⟩
     refine cE (i+1,n) ?_
     (try dsimp only);exact⟨by omega,by omega,by omega⟩
    refine cE (i+1,n) ?_
    (try dsimp only);exact⟨by omega,by omega,by omega⟩
   refine cE (i+1,n) ?_
   (try dsimp only);exact⟨by omega,by omega,by omega⟩
  refine cc ?_ ?_<;>intro gk
  ·exact aO ⟨_,rfl,rfl⟩
  exact aO ⟨_,rfl,rfl⟩
 refine cc ?_ ?_<;>intro hW
 ·exact aO ⟨_,rfl,rfl⟩
 exact aO ⟨_,rfl,rfl⟩
theorem Kk{b o:Nat}{aF xs:List Value}{t:TypeId}(h:(aF.drop o).take xs.length=xs):dI (U (B:=B) b aF t) ⟨b,o,none⟩ xs:=by
  intro D w hw k ai
  have ab:xs[k]?=aF[o+k]?:=by rw [←h,List.getElem?_take_of_lt ai,List.getElem?_drop]
  have ae:o+k<aF.length:=by
    have:=List.getElem?_eq_getElem ai
    rw [ab]at this
    exact(List.getElem?_eq_some_iff.1 this).1
  rw [ab]
  have:=lQ D w hw (o+k) ae
  rw [←this,nq,nq,Nat.zero_add]
def agW(bu:Addr)(l:List Int)(h:l.length≤100):an Int:=⟨some bu,l.length,l,fun e=>(by cases e),by omega,by omega⟩
def p2(k1:List UInt8)(l:List Int):Nat→List UInt8
  |0=>[]
  |i+1=>p2 k1 l i++(match l[i]? with|some x=>if x=0 then []else [32]++eL (i:Int)++k1++eL x|none=>[])
theorem XB{k1:List UInt8}{l:List Int}{i:Nat}{x:Int}(h:l[i]?=some x)(al:¬x=0):p2 k1 l (i+1)=p2 k1 l i++([32]++eL (i:Int)++k1++eL x):=by rw [p2,h];show _++(if x=0 then _ else _)=_;rw [if_neg al]
theorem XC{k1:List UInt8}{l:List Int}{i:Nat}{x:Int}(h:l[i]?=some x)(al:x=0):p2 k1 l (i+1)=p2 k1 l i:=by rw [p2,h];show _++(if x=0 then _ else _)=_;rw [if_pos al,List.append_nil]
theorem xe(k1:List UInt8)(l:List Int)(h:k1.length≤1):∀i,(p2 k1 l i).length≤24*i
  |0=>Nat.le_refl _
  |i+1=>by
    have ih:=xe k1 l h i
    rw [p2,List.length_append]
    have:(match l[i]? with|some x=>if x=0 then []else [32]++eL (i:Int)++k1++eL x|none=>([]:List UInt8)).length≤24:=by
      cases l[i]? with
      |none=>simp
      |some x=>
        show(if x=0 then _ else _:List UInt8).length≤_
        split
        · simp
        · have ab:=hZ (i:Int);have ae:=hZ x
          simp only [List.length_append,List.length_cons,List.length_nil];omega
    omega
theorem NU(p:Int):(q3 p).length≤7:=by
  unfold q3
  repeat' split
  all_goals simp
theorem ac6(a:an Int)(a5:dI K a.bu (a.l.flatMap ea))(fT:a.l.length≤100)(k1:List UInt8)(MQ:k1.length≤1):a6 B 68 [az a,str k1] [K] (fun v S=>v=str (p2 k1 a.l a.l.length)∧S=[K]):=by
 refine bM 29 Tryz.func68 fun ba bf=>?_
 refine ds (α:=Nat) (fun i=>i≤a.l.length) (fun i=>[(5,str (p2 k1 a.l i)),(10,aa (i:Int)),(9,aa (a.l.length:Int)),(0,az a),(1,str k1),(8,az a)]) (fun i=>[K]) (fun i=>a.l.length-i) 0 ?_ dq aA ?_
 ·exact Nat.zero_le _
 intro i af
 have a1:=hZ (i:Int)
 have a3:=xe k1 a.l MQ i
 refine bT ?_ ?_<;>intro ab
 ·obtain⟨x,bl⟩:=fp a.l i
  have bI:=hZ x
  refine aj ?_
  refine ap (eQ (a2:=ea) (aN:=1) (i:=i) (k:=0) (fun _=>rfl) rfl au a5 ad bl rfl) ?_
  refine bT ?_ ?_<;>intro ae
  ·refine gj (n0 (i:Int)) ?_
   refine ap (gw rfl rfl gO) ?_
   refine aj ?_
   refine ap (gw rfl rfl gO) ?_
   refine aj ?_
   refine gj (n0 x) ?_
   refine ap (gw rfl rfl gO) ?_
   refine ap (gw rfl rfl gO) ?_
   refine aj ?_
   refine k2 (i+1) ?_ ?_ ?_ ?_
   ·show i+1≤_;omega
   ·omega
   ·refine⟨by rw [XB bl ae];rfl,?_,?_,?_,?_,?_,trivial⟩<;>rfl
   exact⟨_,aA⟩
  refine k2 (i+1) ?_ ?_ ?_ ?_
  ·show i+1≤_;omega
  ·omega
  ·refine⟨by rw [XC bl ah];rfl,?_,?_,?_,?_,?_,trivial⟩<;>rfl
  exact⟨_,aA⟩
 obtain rfl:i=a.l.length:=by omega
 exact oi
abbrev Hf(d:Nat→Int):List Int:=[d 3,d 4,d 5,d 6,d 7,d 8,d 9,d 10]
abbrev Hg(d:Nat→Int):List Int:=[d 3,d 4,d 5,d 6,d 7,d 8,d 9,d 10,d 11,d 12,d 13,d 14,d 15,d 16,d 17,d 18]
abbrev Hh(d:Nat→Int):List Int:=[d 19,d 20,d 21,d 22]
def za(d:Nat→Int):List UInt8:=[116,97,115,107,32]++eL (d 0)++[32]++eL (d 1)++[32]++eL (d 2)++p2 [58] (Hf d) 8++[10]
def DH(d:Nat→Int):List UInt8:=[101,100,103,101,32]++eL (d 0)++[32]++eL (d 1)++[32]++q3 (d 2)++p2 [62] (Hh d) 4++p2 [58] (Hg d) 16++[10]
def tK(m:BitVec 32):Nat→List UInt8
  |0=>[]
  |i+1=>tK m i++(if m>>>i&&&1#32=1#32 then [32]++eL (i:Int)else [])
theorem aaO{m:BitVec 32}{i:Nat}(h:m>>>i&&&1#32=1#32):tK m (i+1)=tK m i++([32]++eL (i:Int)):=by rw [tK,if_pos h]
theorem aaP{m:BitVec 32}{i:Nat}(h:¬m>>>i&&&1#32=1#32):tK m (i+1)=tK m i:=by rw [tK,if_neg h,List.append_nil]
theorem OA(m:BitVec 32):∀i,(tK m i).length≤12*i
  |0=>Nat.le_refl _
  |i+1=>by
    have ih:=OA m i
    rw [tK,List.length_append]
    have:(if m>>>i&&&1#32=1#32 then [32]++eL (i:Int)else []).length≤12:=by
      split
      · have ab:=hZ (i:Int);simp only [List.length_append,List.length_cons,List.length_nil];omega
      · simp
    omega
def Hi(m:Mode):List UInt8:=[109,111,100,101]++tK m.aw 32++[10]
def KQ(x:bZ):List UInt8:=[114,101,115,32]++eL x.cA++[10]++x.aw.l.flatMap za++x.a9.l.flatMap Hi++x.bd.l.flatMap DH
theorem Kl{α:Type}{f:α→List UInt8}{l:List α}{i:Nat}{d:α}(h:l[i]?=some d):(l.take (i+1)).flatMap f=(l.take i).flatMap f++f d:=by
  rw [List.take_add_one,h];simp
theorem XD(d:Nat→Int):(za d).length≤300:=by
  have ab:=hZ (d 0);have ae:=hZ (d 1);have av:=hZ (d 2);have aV:=xe [58] (Hf d) (by decide) 8
  unfold za;simp only [List.length_append,List.length_cons,List.length_nil];omega
theorem XE(d:Nat→Int):(DH d).length≤600:=by
  have ab:=hZ (d 0);have ae:=hZ (d 1);have av:=NU (d 2);have aV:=xe [62] (Hh d) (by decide) 4;have bN:=xe [58] (Hg d) (by decide) 16
  unfold DH;simp only [List.length_append,List.length_cons,List.length_nil];omega
theorem Km{mu:ar B}(bu:Addr)(l:List Int)(n:Nat)(aP:l.length=n)(h:n≤100)(a4:dI mu bu (l.flatMap ea))(k1:List UInt8)(MQ:k1.length≤1):a6 B 68 [.slice (some bu) n n,str k1] [mu] (fun v S=>v=str (p2 k1 l n)∧S=[mu]):=by
  subst aP
  exact ac6 (agW bu l h) a4 h k1 MQ
theorem sprint(x:bZ)(al:x.In K)(bF:∀m∈x.a9.l,m.q.l=[])(akw:x.aw.l.length≤60)(akx:x.a9.l.length≤60)(aky:x.bd.l.length≤60):a6 B 32 [x.v] [K] (fun v S=>v=str (KQ x)∧S=[K]):=by
 refine dN 128 Tryz.func32 fun ba bf=>?_
 have l7:=hZ x.cA
 refine aj ?_
 refine fX (aF:=(b9 x)) fun ax=>?_
 refine gj (n0 x.cA) ?_
 refine ap (gw rfl rfl gO) ?_
 refine ap (gw rfl rfl gO) ?_
 refine aj ?_
 refine ds (α:=Nat×List UInt8) (fun⟨i,b⟩=>i≤x.aw.l.length∧b=([114,101,115,32]++eL x.cA++[10])++(x.aw.l.take i).flatMap za∧b.length≤40+300*i) (fun⟨i,b⟩=>[(3,str b),(21,aa (i:Int)),(20,aa (x.aw.l.length:Int)),(0,x.v),(1,ag ax),(19,az x.aw)]) (fun⟨i,b⟩=>[U ax (b9 x) 41,K]) (fun⟨i,b⟩=>x.aw.l.length-i) (0,([114,101,115,32]++eL x.cA++[10])) ?_ dq aA ?_
 ·exact⟨Nat.zero_le _,(List.append_nil _).symm,by have:=hZ x.cA;simp only [List.length_append,List.length_cons,List.length_nil];omega⟩
 rintro⟨i,b⟩ ⟨af,aR,hj⟩
 dsimp only
 refine bT ?_ ?_<;>intro ab
 ·obtain⟨d,bl⟩:=fp x.aw.l i
  have a1:=hZ (d 0)
  have a3:=hZ (d 1)
  have bI:=hZ (d 2)
  have cv:=xe [58] (Hf d) b2 8
  refine aj ?_
  refine ap (jV (a2:=dd) (aN:=11) (i:=i) (fun _=>rfl) rfl au al.aw ad bl) ?_
  refine fe fun aK=>?_
  refine aj ?_
  refine k3 [U aK (dd d) 173] ad aA ?_
  refine bG 0 rfl (dD rfl) ?_
  refine bG 1 rfl (hn ad) ?_
  refine bj 2 rfl (da (v:=aa (d 0)) ad) ?_
  refine bG 6 rfl (hn ad) ?_
  refine bj 7 rfl (da (v:=aa (d 1)) ad) ?_
  refine bG 11 rfl (hn ad) ?_
  refine bj 12 rfl (da (v:=aa (d 2)) ad) ?_
  refine bG 15 rfl (hn ad) ?_
  refine bj 16 rfl (AK rfl ad) ?_
  refine jx 3 ?_
  refine gU (n0 (d 0)) ?_
  refine bj 4 rfl (gw rfl rfl gO) ?_
  refine bj 5 rfl (gw rfl rfl gO) ?_
  refine jx 8 ?_
  refine gU (n0 (d 1)) ?_
  refine bj 9 rfl (gw rfl rfl gO) ?_
  refine bj 10 rfl (gw rfl rfl gO) ?_
  refine jx 13 ?_
  refine gU (n0 (d 2)) ?_
  refine bj 14 rfl (gw rfl rfl gO) ?_
  refine lB 17 (Km (mu:=U aK (dd d) 173) ⟨aK,3,none⟩ (Hf d) 8 rfl b2 (Kk rfl) [58] b2) ?_
  refine bj 18 rfl (gw rfl rfl gO) ?_
  refine bj 19 rfl (gw rfl rfl gO) ?_
  refine bj 20 rfl (gw rfl rfl gO) ?_
  refine bG 21 rfl (dD rfl) ?_
  refine pc ?_
  try simp only [List.cons_append,List.nil_append,List.append_nil]
  refine tm ?_
  refine fj ?_
  refine dz ?_
  refine ap (mE rfl rfl ah ah) ?_
  refine ap (cj rfl) ?_
  refine uF ?_
  refine cE (i+1,b++za d) ?_
  (try dsimp only);exact⟨by omega,by rw [aR,Kl bl];simp only [List.append_assoc,List.cons_append,List.nil_append],by rw [List.length_append];have:=XD d;omega⟩
 obtain rfl:i=x.aw.l.length:=by omega
 rw [List.take_length]at aR
 refine aj ?_
 refine ds (α:=Nat×List UInt8) (fun⟨i,b⟩=>i≤x.a9.l.length∧b=(([114,101,115,32]++eL x.cA++[10])++x.aw.l.flatMap za)++(x.a9.l.take i).flatMap Hi∧b.length≤20000+400*i) (fun⟨i,b⟩=>[(3,str b),(50,aa (i:Int)),(49,aa (x.a9.l.length:Int)),(0,x.v),(1,ag ax),(48,az x.a9)]) (fun⟨i,b⟩=>[U ax (b9 x) 41,K]) (fun⟨i,b⟩=>x.a9.l.length-i) (0,b) ?_ dq aA ?_
 ·exact⟨Nat.zero_le _,by rw [aR];exact(List.append_nil _).symm,by omega⟩
 rintro⟨i,b⟩ ⟨af,aR,hj⟩
 dsimp only
 refine bT ?_ ?_<;>intro ae
 ·obtain⟨m,bl⟩:∃d,x.a9.l[i]?=some d:=⟨_,List.getElem?_eq_getElem ah⟩
  have ml:=bF m (List.mem_of_getElem? bl)
  have nb:m.q.l.length=0:=by rw [ml];rfl
  refine aj ?_
  refine ap (jV (a2:=gg) (aN:=2) (i:=i) (fun _=>rfl) rfl au al.a9 ad bl) ?_
  refine de fun bq=>?_
  refine ap (gw rfl rfl gO) ?_
  refine aj ?_
  refine ds (α:=Nat×List UInt8) (fun⟨j,c⟩=>j≤32∧c=b++([109,111,100,101]++tK m.aw j)) (fun⟨j,c⟩=>[(3,str c),(56,aa (j:Int)),(0,x.v),(1,ag ax),(7,ag bq),(48,az x.a9),(49,aa (x.a9.l.length:Int)),(50,aa (i:Int))]) (fun⟨j,c⟩=>[U ax (b9 x) 41,U bq (gg m) 177,K]) (fun⟨j,c⟩=>32-j) (0,b++[109,111,100,101]) ?_ dq aA ?_
  ·exact⟨Nat.zero_le _,rfl⟩
  rintro⟨j,c⟩ ⟨aI,a7⟩
  dsimp only
  have jZ:c.length≤20388+400*i:=by rw [a7];have:=OA m.aw j;simp only [List.length_append,List.length_cons,List.length_nil];omega
  have a1:=hZ (j:Int)
  refine aj ?_
  refine c2 ?_ ?_<;>intro av
  ·refine xS ?_
   refine dn (aQ m.aw.toNat) ?_
   refine aj ?_
   refine ap (xq rfl rfl rfl ah ah) ?_
   refine ap (g6 rfl rfl (dM _) rfl rfl) ?_
   refine bT ?_ ?_<;>intro aV
   ·have LX:m.aw>>>j&&&1#32=1#32:=BitVec.eq_of_toNat_eq (by have cb:(1#32:BitVec 32).toNat=1:=rfl;rw [cb];exact Int.ofNat.inj aV)
    refine aj ?_
    refine gj (n0 (j:Int)) ?_
    refine ap (gw rfl rfl gO) ?_
    refine ap (gw rfl rfl gO) ?_
    refine aj ?_
    refine cE (j+1,c++([32]++eL (j:Int))) ?_
    (try dsimp only);exact⟨by omega,by rw [a7,aaO LX];simp only [List.append_assoc]⟩
   have LX:¬m.aw>>>j&&&1#32=1#32:=fun q=>aV (by have cb:=congrArg BitVec.toNat q;exact congrArg Int.ofNat cb)
   refine aj ?_
   refine cE (j+1,c) ?_
   (try dsimp only);exact⟨by omega,by rw [a7,aaP LX]⟩
  obtain rfl:j=32:=by omega
  refine aj ?_
  refine ap (gw rfl rfl gO) ?_
  refine gN ?_
  refine dn (az m.q) ?_
  refine aj ?_
  refine P3 0 ?_
  refine bT ?_ ?_<;>intro bN
  ·exact zJ bN
  refine N2 ?_
  refine aj ?_
  refine cE (i+1,c++[10]) ?_
  (try dsimp only);exact⟨by omega,by rw [a7,aR,Kl bl];unfold Hi;simp only [List.append_assoc,List.cons_append,List.nil_append],by rw [List.length_append];show c.length+1≤_;omega⟩
 obtain rfl:i=x.a9.l.length:=by omega
 rw [List.take_length]at aR
 refine aj ?_
 refine ds (α:=Nat×List UInt8) (fun⟨i,b⟩=>i≤x.bd.l.length∧b=((([114,101,115,32]++eL x.cA++[10])++x.aw.l.flatMap za)++x.a9.l.flatMap Hi)++(x.bd.l.take i).flatMap DH∧b.length≤50000+600*i) (fun⟨i,b⟩=>[(3,str b),(97,aa (i:Int)),(96,aa (x.bd.l.length:Int)),(0,x.v),(1,ag ax),(95,az x.bd)]) (fun⟨i,b⟩=>[U ax (b9 x) 41,K]) (fun⟨i,b⟩=>x.bd.l.length-i) (0,b) ?_ dq aA ?_
 ·exact⟨Nat.zero_le _,by rw [aR];exact(List.append_nil _).symm,by omega⟩
 rintro⟨i,b⟩ ⟨af,aR,hj⟩
 dsimp only
 refine bT ?_ ?_<;>intro c0
 ·obtain⟨d,bl⟩:=fp x.bd.l i
  have a1:=hZ (d 0)
  have a3:=hZ (d 1)
  have bI:=NU (d 2)
  have cv:=xe [62] (Hh d) b2 4
  have eX:=xe [58] (Hg d) b2 16
  refine aj ?_
  refine ap (jV (a2:=dP) (aN:=23) (i:=i) (fun _=>rfl) rfl au al.bd ad bl) ?_
  refine fe fun bV=>?_
  refine aj ?_
  refine k3 [U bV (dP d) 184] ad aA ?_
  refine bG 0 rfl (dD rfl) ?_
  refine bG 1 rfl (hn ad) ?_
  refine bj 2 rfl (da (v:=aa (d 0)) ad) ?_
  refine bG 6 rfl (hn ad) ?_
  refine bj 7 rfl (da (v:=aa (d 1)) ad) ?_
  refine bG 11 rfl (hn ad) ?_
  refine bj 12 rfl (da (v:=aa (d 2)) ad) ?_
  refine bG 15 rfl (hn ad) ?_
  refine bj 16 rfl (AK rfl ad) ?_
  refine bG 19 rfl (hn ad) ?_
  refine bj 20 rfl (AK rfl ad) ?_
  refine jx 3 ?_
  refine gU (n0 (d 0)) ?_
  refine bj 4 rfl (gw rfl rfl gO) ?_
  refine bj 5 rfl (gw rfl rfl gO) ?_
  refine jx 8 ?_
  refine gU (n0 (d 1)) ?_
  refine bj 9 rfl (gw rfl rfl gO) ?_
  refine bj 10 rfl (gw rfl rfl gO) ?_
  refine jx 13 ?_
  refine gU (RY (d 2)) ?_
  refine bj 14 rfl (gw rfl rfl gO) ?_
  refine lB 17 (Km (mu:=U bV (dP d) 184) ⟨bV,19,none⟩ (Hh d) 4 rfl b2 (Kk rfl) [62] b2) ?_
  refine bj 18 rfl (gw rfl rfl gO) ?_
  refine lB 21 (Km (mu:=U bV (dP d) 184) ⟨bV,3,none⟩ (Hg d) 16 rfl b2 (Kk rfl) [58] b2) ?_
  refine bj 22 rfl (gw rfl rfl gO) ?_
  refine bj 23 rfl (gw rfl rfl gO) ?_
  refine bj 24 rfl (gw rfl rfl gO) ?_
  refine bG 25 rfl (dD rfl) ?_
  refine pc ?_
  try simp only [List.cons_append,List.nil_append,List.append_nil]
  refine tm ?_
  refine fj ?_
  refine dz ?_
  refine ap (mE rfl rfl ah ah) ?_
  refine ap (cj rfl) ?_
  refine uF ?_
  refine cE (i+1,b++DH d) ?_
  (try dsimp only);exact⟨by omega,by rw [aR,Kl bl];simp only [List.append_assoc,List.cons_append,List.nil_append],by rw [List.length_append];have:=XE d;omega⟩
 obtain rfl:i=x.bd.l.length:=by omega
 rw [List.take_length]at aR
 refine aj ?_
 exact aO ⟨by rw [aR];rfl,rfl⟩
abbrev VW:List (Nat→Int):=[kQ [10,10,2,1],kQ [20,18,5],kQ [40,40,6,2]]
abbrev IG:List (Nat→Int):=[kQ [0,1,1],kQ [1,2,2],kQ [2,0,3],kQ [0,2,3]]
abbrev Cd:List Mode:=[⟨3#32,an.bt⟩,⟨6#32,an.bt⟩,⟨7#32,an.bt⟩]
abbrev si(ax aK bq:Nat):bZ:=⟨1,an.lit ax VW (by show 3≤_;decide),an.lit aK Cd (by show 3≤_;decide),an.lit bq IG (by show 4≤_;decide)⟩
abbrev VX(b:Nat):ar B:=row (.slice (some ⟨b,0,none⟩) 3 3) 173 11 3 (VW.flatMap dd)
abbrev VY(b:Nat):ar B:=row (.slice (some ⟨b,0,none⟩) 3 3) 177 2 3 (Cd.flatMap gg)
abbrev VZ(b:Nat):ar B:=row (.slice (some ⟨b,0,none⟩) 4 4) 184 23 4 (IG.flatMap dP)
abbrev A1(x:bZ):List (ar B):=[eO x.aw 173 11 dd,eO x.a9 177 2 gg,eO x.bd 184 23 dP]
theorem aaQ(ax aK bq:Nat):(si ax aK bq).In (all (A1 (B:=B) (si ax aK bq))):=
  ⟨nU (.head _) (dT an.vK rfl),nU (.tail _ (.head _)) (dT an.vK rfl),nU (.tail _ (.tail _ (.head _))) (dT an.vK rfl),fun m hm=>by
    have:m.q.l=[]:=by
      have h:m∈Cd:=hm
      simp only [Cd,List.mem_cons,List.not_mem_nil,or_false]at h
      rcases h with rfl|rfl|rfl<;>rfl
    rw [this];exact ab5⟩
theorem three:a6 B 33 [.bool false] [] (fun v S=>∃a b c:Nat,v=(si a b c).v∧S=[VX a,VY b,VZ c]):=by
 refine bM 35 Tryz.func33 fun ba bf=>?_
 refine de fun ax=>?_
 refine de fun aK=>?_
 refine de fun bq=>?_
 refine fe fun bV=>?_
 refine gN ?_
 refine ap (p3 rfl rfl ad (rfl:(0:Int)=((0:Nat):Int)) b2 rfl) ?_
 refine gI ?_
 refine ap (p3 rfl rfl ad (rfl:(0:Int)=((0:Nat):Int)) b2 rfl) ?_
 refine aj ?_
 refine im (aF:=[aa 10,aa 10,aa 2,aa 1,ak,ak,ak,ak,ak,ak,ak,aa 20,aa 18,aa 5,ak,ak,ak,ak,ak,ak,ak,ak,aa 40,aa 40,aa 6,aa 2,ak,ak,ak,ak,ak,ak,ak]) .no rfl ad b2 b2 (by rfl) (by rfl) rfl rfl (fun Hz=>?_)
 refine FM (b:=Hz) 3 11 (.here _ _) rfl rfl ?_
 rw [show(row (.slice (some ⟨Hz,0,none⟩) 3 3) 173 11 3 [aa 10,aa 10,aa 2,aa 1,ak,ak,ak,ak,ak,ak,ak,aa 20,aa 18,aa 5,ak,ak,ak,ak,ak,ak,ak,ak,aa 40,aa 40,aa 6,aa 2,ak,ak,ak,ak,ak,ak,ak]:ar B)=VX Hz from rfl]
 refine aj ?_
 refine im (aF:=[aQ 3,bw,aQ 6,bw,aQ 7,bw]) .no rfl ad b2 b2 (by rfl) (by rfl) rfl rfl (fun HA=>?_)
 refine FM (b:=HA) 3 2 (.here _ _) rfl rfl ?_
 rw [show(row (.slice (some ⟨HA,0,none⟩) 3 3) 177 2 3 [aQ 3,bw,aQ 6,bw,aQ 7,bw]:ar B)=VY HA from rfl]
 refine aj ?_
 refine de fun dp=>?_
 refine im (aF:=[ak,aa 1,aa 1,ak,ak,ak,ak,ak,ak,ak,ak,ak,ak,ak,ak,ak,ak,ak,ak,ak,ak,ak,ak,aa 1,aa 2,aa 2,ak,ak,ak,ak,ak,ak,ak,ak,ak,ak,ak,ak,ak,ak,ak,ak,ak,ak,ak,ak,aa 2,ak,aa 3,ak,ak,ak,ak,ak,ak,ak,ak,ak,ak,ak,ak,ak,ak,ak,ak,ak,ak,ak,ak,ak,aa 2,aa 3,ak,ak,ak,ak,ak,ak,ak,ak,ak,ak,ak,ak,ak,ak,ak,ak,ak,ak,ak,ak]) .no rfl ad b2 b2 (by rfl) (by rfl) rfl rfl (fun HB=>?_)
 refine FM (b:=HB) 4 23 (.here _ _) rfl rfl ?_
 rw [show(row (.slice (some ⟨HB,0,none⟩) 4 4) 184 23 4 [ak,aa 1,aa 1,ak,ak,ak,ak,ak,ak,ak,ak,ak,ak,ak,ak,ak,ak,ak,ak,ak,ak,ak,ak,aa 1,aa 2,aa 2,ak,ak,ak,ak,ak,ak,ak,ak,ak,ak,ak,ak,ak,ak,ak,ak,ak,ak,ak,ak,aa 2,ak,aa 3,ak,ak,ak,ak,ak,ak,ak,ak,ak,ak,ak,ak,ak,ak,ak,ak,ak,ak,ak,ak,ak,aa 2,aa 3,ak,ak,ak,ak,ak,ak,ak,ak,ak,ak,ak,ak,ak,ak,ak,ak,ak,ak,ak,ak]:ar B)=VZ HB from rfl]
 refine aj ?_
 refine g2 ?_
 exact aO ⟨Hz,HA,HB,rfl,rfl⟩
theorem afn(p e:List UInt8)(h:(p++e).length≤1000000000000):a6 B 34 [str (p++e),str e] [] (fun v S=>v= .bool true∧S=[]):=by
 refine dN 21 Tryz.func34 fun ba bf=>?_
 have aE:(p++e).length=p.length+e.length:=List.length_append
 refine aj ?_
 refine cc ?_ ?_<;>intro ab
 ·refine ap (np (wL:=none) (ec:=p.length) (af:=(p++e).length) (p:=e) rfl ad ⟨_,congrArg (fun n:Int=>some (Value.int .i64 n)) ah⟩ Ke ah (Nat.le_refl _) (by rw [List.drop_left,List.take_of_length_le ah])) ?_
  refine aj ?_
  refine ap (k6 (a:=e) (b:=e) rfl rfl rfl) ?_
  refine aj ?_
  exact aO ⟨by simp,rfl⟩
 omega
def eG:ck:=⟨1,[bz (kQ [10,10,2]) 3 1,kQ [20,18,5],bz (kQ [40,40,6]) 3 2],[(3#32,[]),(6#32,[]),(7#32,[])],IG⟩
abbrev uw:List (BitVec 32):=DW eG
abbrev zb:List UInt8:=KQ (si 0 0 0)
set_option maxRecDepth 100000 in
theorem PN:p8 (ie zb) true yw=some (false,eG):=by kernel_rfl
theorem ac7:(iY eG).2=0:=by decide+kernel
theorem R3:kx eG=0:=by decide+kernel
theorem YX:(Iu eG).map iz=uw:=by decide+kernel
theorem KR:zb.length≤65536:=by decide+kernel
def DI:List UInt8:=[98,111,111,116,10,111,102,102,101,114,32,48,32,50,10,114,101,113,117,101,115,116,32,49,10,116,105,99,107,32,50,48,10,114,101,113,117,101,115,116,32,50,10,116,105,99,107,32,53,48,10,114,101,113,117,101,115,116,32,48,10,116,105,99,107,32,57,57,10]
def HC:List kl:=[⟨15,0,0,[],[]⟩,⟨2,0,2,[],[]⟩,⟨3,1,0,[],[]⟩,⟨1,0,20,[],[]⟩,⟨3,2,0,[],[]⟩,⟨1,0,50,[],[]⟩,⟨3,0,0,[],[]⟩,⟨1,0,99,[],[]⟩]
set_option maxRecDepth 100000 in
theorem OB:ss (ie DI) []=some HC:=by kernel_rfl
theorem G2{l:List Int}{k:Nat}(h:l.length≤k):kQ l k=0:=by
  show l.getD k 0=0
  rw [List.getD_eq_getElem?_getD,List.getElem?_eq_none h];rfl
theorem ac8:Can eG:=⟨fun e he=>by
    simp only [eG,List.mem_cons,List.not_mem_nil,or_false]at he
    rcases he with rfl|rfl|rfl<;>intro k ai
    · rw [fG _ _ (by omega)];exact G2 (by simp;omega)
    · exact G2 (by simp;omega)
    · rw [fG _ _ (by omega)];exact G2 (by simp;omega),fun p aC=>by
    simp only [eG,List.mem_cons,List.not_mem_nil,or_false]at aC
    rcases aC with rfl|rfl|rfl<;>(intro y aZ;cases aZ),fun e he=>by
    simp only [eG,IG,List.mem_cons,List.not_mem_nil,or_false]at he
    rcases he with rfl|rfl|rfl|rfl<;>(intro k ai;exact G2 (by simp;omega))⟩
theorem R4:lg uw=some eG:=ZQ (CB R3) ac8
theorem YY:mD uw=true:=CD R4 R3
theorem SY{l:List Int}(h:l.length=16):∃vt Fi Fj Fk Fl Fm Fo Fp Fq Fs ER ES ET EU EV EW,l=[vt,Fi,Fj,Fk,Fl,Fm,Fo,Fp,Fq,Fs,ER,ES,ET,EU,EV,EW]:=by
  match l,h with
  |[vt,Fi,Fj,Fk,Fl,Fm,Fo,Fp,Fq,Fs,ER,ES,ET,EU,EV,EW],_=>exact⟨vt,Fi,Fj,Fk,Fl,Fm,Fo,Fp,Fq,Fs,ER,ES,ET,EU,EV,EW,rfl⟩
set_option maxRecDepth 100000 in
theorem afo(a:an (BitVec 32)){b:an Int}(h:b.l.length=16):(jb (pi 256 1000 a b) (lZ (b.l.length/2) 0) uw).2.2=0:=by
  obtain⟨bn,c,l,ab,ae,av⟩:=b
  obtain⟨vt,Fi,Fj,Fk,Fl,Fm,Fo,Fp,Fq,Fs,ER,ES,ET,EU,EV,EW,rfl⟩:=SY h
  kernel_rfl
set_option maxRecDepth 100000 in
theorem ac9(a:an (BitVec 32)){b:an Int}(h:b.l.length=16):oC (ry 256 1000 a b uw)=some 0∧nZ (ry 256 1000 a b uw)=0∧ix (ry 256 1000 a b uw) 0=⟨0,1#32,false,uw⟩:=by
  obtain⟨bn,c,l,ab,ae,av⟩:=b
  obtain⟨vt,Fi,Fj,Fk,Fl,Fm,Fo,Fp,Fq,Fs,ER,ES,ET,EU,EV,EW,rfl⟩:=SY h
  exact⟨by kernel_rfl,by kernel_rfl,by kernel_rfl⟩
theorem ada:Im uw eG:=⟨fun a b h=>ac9 a h.b.1,R4⟩
def lm(s:cf):Prop:=s.live=0#32
structure oo(d:Int)(s:cf):Prop where
  live:s.live=dL 0
  cost:(s.aD 0).cost=2
  done:(s.aD 0).done=d
  rel:(s.aD 0).rel=0
  hO:(s.aD 0).hO=10
  cz:(s.aD 0).cz.l=[]
theorem T7{d:Int}{s eZ:cf}(ab:eZ.aD=s.aD)(ae:eZ.live=s.live)(h:oo d s):oo d eZ:=⟨ae.trans h.live,by rw [ab];exact h.cost,by rw [ab];exact h.done,by rw [ab];exact h.rel,by rw [ab];exact h.hO,by rw [ab];exact h.cz⟩
theorem YZ{s:cf}(h:jt s)(aI:lm s):lm (b4 s).1∧(b4 s).1.now=s.now+1:=by
  rcases FJ h with⟨_,k,_,aE,_⟩|⟨ab,_⟩
  · have aE:hasB s.live (k:Int)=true:=aE
    rw [show s.live=0#32 from aI]at aE
    simp [hasB]at aE
  · rw [Gm (by rw [ab])]
    exact⟨aI,rfl⟩
theorem agX:∀m:Nat,m<16→hasB (dL 0) (m:Int)=true→m=0:=by decide
theorem PO{d:Int}{s:cf}(h:jt s)(aI:oo d s):(iX s.r).2=true∧(iX s.r).1=((0:Nat):Int):=by
  rcases FJ h with⟨ab,k,ai,aE,ae,_⟩|⟨_,ab⟩
  · have aE:hasB s.live (k:Int)=true:=aE
    rw [aI.live]at aE
    have:=agX k ai aE;subst this
    exact⟨ab,ae⟩
  · exact absurd (show hasB s.live ((0:Nat):Int)=true by rw [aI.live];decide) (ab 0)
theorem afp{s:cf}(h:jt s)(aI:oo 0 s):oo 1 (b4 s).1∧(b4 s).1.now=s.now+1:=by
 obtain⟨f1,f2⟩:=PO h aI
 have a7:=aI.cost;have aJ:=aI.done
 rw [CO f1 f2 (by rw [a7,aJ];decide)]
 have e:bz s.aD 0 (gF (s.aD 0)) 0=gF (s.aD 0):=e4 _ _ _
 refine⟨⟨aI.live,?_,?_,?_,?_,?_⟩,rfl⟩
 ·show(bz s.aD 0 (gF (s.aD 0)) 0).cost=_;rw [e];exact a7
 ·show(bz s.aD 0 (gF (s.aD 0)) 0).done=_;rw [e];show min ((s.aD 0).done+1) (s.aD 0).cost=1;rw [a7,aJ];decide
 ·show(bz s.aD 0 (gF (s.aD 0)) 0).rel=_;rw [e];exact aI.rel
 ·show(bz s.aD 0 (gF (s.aD 0)) 0).hO=_;rw [e];exact aI.hO
 show(bz s.aD 0 (gF (s.aD 0)) 0).cz.l=_;rw [e];exact aI.cz
theorem aaR{s:cf}(h:jt s)(aI:oo 1 s):lm (b4 s).1∧(b4 s).1.now=s.now+1:=by
 obtain⟨f1,f2⟩:=PO h aI
 have a7:=aI.cost;have aJ:=aI.done
 rw [Cl f1 f2 (by rw [a7,aJ];decide)]
 refine⟨?_,rfl⟩
 show s.live&&&~~~(dL ((0:Nat):Int))=0#32;rw [aI.live];decide
def il(eH:cw)(Q:cf→Prop)(n:Int):jR:=fun e s f=>e=eH∧Q s∧s.now=n
def rC(e:cw):Nat→cw
  |0=>e
  |n+1=>gz eG 0#32 (rC e n)
theorem SZ{eH:cw}{n:Int}:wA eG (il eH lm n) (il (gz eG 0#32 eH) lm (n+1)):=by
 rintro e s f af ⟨rfl,aI,aP⟩
 have ab:=YZ af.sys.ok aI
 have ae:=vJ (c:=eG) (e:=gz eG (b4 s).1.live e) (a:=je eG e) (s:=(b4 s).1)
 refine⟨by rw [show(b4 s).1.live=0#32 from ab.1],?_,?_⟩
 ·exact ae.2.2.trans ab.1
 rw [ae.2.1,ab.2,aP]
theorem S0{eH:cw}{n m:Int}:D4 eG m (il eH lm n) (il (hH eG 0#32 eH m) lm n):=by
  rintro e s f af ⟨rfl,aI,aP⟩
  have ae:=vJ (c:=eG) (e:=hH eG s.live e m) (a:=je eG e) (s:=s)
  exact⟨by rw [show s.live=0#32 from aI],ae.2.2.trans aI,by rw [ae.2.1,aP]⟩
theorem afq{eH:cw}{n m d:Int}:D4 eG m (il eH (oo d) n) (il (hH eG (dL 0) eH m) (oo d) n):=by
  rintro e s f af ⟨rfl,aI,aP⟩
  have ae:=vJ (c:=eG) (e:=hH eG s.live e m) (a:=je eG e) (s:=s)
  exact⟨by rw [aI.live],T7 ae.1 ae.2.2 aI,by rw [ae.2.1,aP]⟩
theorem afr{eH:cw}{n:Int}:wA eG (il eH (oo 0) n) (il (gz eG (dL 0) eH) (oo 1) (n+1)):=by
  rintro e s f af ⟨rfl,aI,aP⟩
  have ab:=afp af.sys.ok aI
  have ae:=vJ (c:=eG) (e:=gz eG (b4 s).1.live e) (a:=je eG e) (s:=(b4 s).1)
  exact⟨by rw [ab.1.live],T7 ae.1 ae.2.2 ab.1,by rw [ae.2.1,ab.2,aP]⟩
theorem aaS{eH:cw}{n:Int}:wA eG (il eH (oo 1) n) (il (gz eG 0#32 eH) lm (n+1)):=by
  rintro e s f af ⟨rfl,aI,aP⟩
  have ab:=aaR af.sys.ok aI
  have ae:=vJ (c:=eG) (e:=gz eG (b4 s).1.live e) (a:=je eG e) (s:=(b4 s).1)
  exact⟨by rw [show(b4 s).1.live=0#32 from ab.1],ae.2.2.trans ab.1,by rw [ae.2.1,ab.2,aP]⟩
theorem agY:LN eG 0 2 [] (xb eG) (il rB (oo 0) 0):=by
 rintro e s f s2 f2 af ⟨rfl,aH,rfl⟩ aq sk
 have Ex:=vJ (c:=eG) (e:=rB) (a:=0#32) (s:=iL)
 rw [←aH]at Ex
 have pN:s.live=0#32:=Ex.2.2
 have aP:s.now=0:=Ex.2.1
 obtain⟨x,a,al,a5,cO,rfl⟩:=aq 0 rfl b2 (by decide+kernel) (by rw [pN];decide) (by rw [aP];exact Int.le_refl _)
 have aiE:x.l=[]:=al
 have aS:pn s (⟨((0:Nat):Int),s.now,s.now+dg eG.aw 0 1,min (max 2 1) (dg eG.aw 0 2),0,x⟩:fN)=0:=Sr (by show¬((0:Int)<0∨(0:Int)≥16∨(0:Int)≥2);decide) (by show hasB s.live 0=false;rw [pN];decide)
 refine⟨rfl,?_,by rw [sk,aP]⟩
 have e:=(congrFun (congrArg cf.aD (AF (a:=a) aS)) 0).trans (e4 s.aD 0 (⟨0,s.now,s.now+dg eG.aw 0 1,min (max 2 1) (dg eG.aw 0 2),0,a⟩:fN))
 refine⟨?_,by rw [e];rfl,by rw [e],by rw [e];exact aP,by rw [e];show s.now+10=10;omega,by rw [e];exact a5.trans aiE⟩
 refine(congrArg cf.live (AF (a:=a) aS)).trans ?_
 show s.live|||dL 0=dL 0;rw [pN];decide
def cb:cw:=hH eG (dL 0) rB 1
def fP:cw:=gz eG 0#32 (gz eG (dL 0) cb)
def sx:cw:=hH eG 0#32 (rC fP 18) 2
def yz:cw:=hH eG 0#32 (rC sx 50) 0
def B1:cw:=rC yz 99
theorem aaT:B1.mode=0:=by decide+kernel
theorem Lj{G hp:jR}{m cs:Int}{l:List dt}(h:D4 eG m G hp):sh eG 3 m cs l G hp:=⟨fun q=>by omega,fun _ _ q=>absurd rfl q,fun q=>by omega,fun _=>h⟩
theorem S1{eH:cw}{n c4:Int}{l:List dt}(m:Nat)(hm:1≤m∧m≤4096):sh eG 1 c4 (m:Int) l (il eH lm n) (il (rC eH m) lm (n+m)):=by
 refine⟨fun _=>⟨fun i=>il (rC eH i) lm (n+i),?_,fun i _=>?_,fun i af=>?_⟩,fun q=>absurd rfl q,fun q=>by omega,fun q=>by omega⟩
 ·show il eH lm (n+((0:Nat):Int))=_
  rw [show n+((0:Nat):Int)=n by omega]
 ·show wA eG (il (rC eH i) lm (n+i)) (il (gz eG 0#32 (rC eH i)) lm (n+((i+1:Nat):Int)))
  rw [show n+((i+1:Nat):Int)=n+(i:Int)+1 by omega];exact SZ
 obtain rfl:i=m:=by have:=af ah ah;omega
 exact nO.rfl'
def aiF(eH:cw):Nat→jR
  |0=>il eH (oo 0) 0
  |1=>il (gz eG (dL 0) eH) (oo 1) (0+1)
  |i+2=>il (rC (gz eG 0#32 (gz eG (dL 0) eH)) i) lm ((i:Int)+2)
theorem afs{eH:cw}{c4:Int}{l:List dt}(m:Nat)(hm:m+2≤4096):sh eG 1 c4 ((m+2:Nat):Int) l (il eH (oo 0) 0) (il (rC (gz eG 0#32 (gz eG (dL 0) eH)) m) lm ((m:Int)+2)):=by
 refine⟨fun _=>⟨aiF eH,rfl,fun i _=>?_,fun i af=>?_⟩,fun q=>absurd rfl q,fun q=>by omega,fun q=>by omega⟩
 ·match i with
  |0=>exact afr
  |1=>
   show wA eG (il _ (oo 1) (0+1)) (il _ lm (((0:Nat):Int)+2))
   rw [show((0:Nat):Int)+2=0+1+1 by decide];exact aaS
  |i+2=>
   show wA eG (il (rC _ i) lm ((i:Int)+2)) (il (gz eG 0#32 (rC _ i)) lm (((i+1:Nat):Int)+2))
   rw [show((i+1:Nat):Int)+2=(i:Int)+2+1 by omega];exact SZ
 obtain rfl:i=m+2:=by have:=af ah ah;omega
 exact nO.rfl'
def Iw:Nat→rI
  |0=> .off uw
  |1=> .on eG 1#32 (xb eG)
  |2=> .on eG 1#32 (il rB (oo 0) 0)
  |3=> .on eG 1#32 (il cb (oo 0) 0)
  |4=> .on eG 1#32 (il (rC fP 18) lm (((18:Nat):Int)+2))
  |5=> .on eG 1#32 (il sx lm (((18:Nat):Int)+2))
  |6=> .on eG 1#32 (il (rC sx 50) lm (((18:Nat):Int)+2+(50:Nat)))
  |7=> .on eG 1#32 (il yz lm (((18:Nat):Int)+2+(50:Nat)))
  |_+8=> .on eG 1#32 (il B1 lm (((18:Nat):Int)+2+(50:Nat)+(99:Nat)))
theorem adb(i:Nat)(x:kl)(h:HC[i]?=some x):u7 (Iw i) x.cT x.c4 x.cs x.th (Iw (i+1)):=by
  match i with
  |0=>cases h;exact .LP ada
  |1=>cases h;exact .on ⟨fun q=>absurd q (by decide),fun _ q=>absurd rfl q,fun _=>agY,fun q=>absurd q (by decide)⟩ (by decide)
  |2=>cases h;exact .on (Lj afq) (by decide)
  |3=>cases h;exact .on (afs 18 (by decide)) (by decide)
  |4=>cases h;exact .on (Lj S0) (by decide)
  |5=>cases h;exact .on (S1 50 (by decide)) (by decide)
  |6=>cases h;exact .on (Lj S0) (by decide)
  |7=>cases h;exact .on (S1 99 (by decide)) (by decide)
  |i+8=>simp [HC]at h
theorem aaU{jv:List UInt8}(h:∀c dW G,Iw 8= .on c dW G→∃e s f,G e s f∧jv=qb s.now e.mode 0 (dW.toNat:Int)):jv=qb 169 0 0 1:=by
  have b5:∃(e:cw) (s:cf) (f:Nat→Int),(e=B1∧lm s∧s.now=((18:Nat):Int)+2+(50:Nat)+(99:Nat))∧jv=qb s.now e.mode 0 ((1#32:BitVec 32).toNat:Int):=h eG 1#32 _ rfl
  obtain⟨e,s,f,⟨ab,_,ae⟩,av⟩:=b5
  rw [av,ae,ab,aaT,show((18:Nat):Int)+2+(50:Nat)+(99:Nat)=169 by decide,show((1#32:BitVec 32).toNat:Int)=1 by decide]
set_option maxRecDepth 100000 in
theorem aaV:qb 169 0 0 1++[10]=[111,110,32,49,54,57,32,109,111,100,101,32,48,32,108,97,116,101,32,48,32,105,109,97,103,101,32,49,10]:=by kernel_rfl
end Go.Proofs.YtkpibibplbjciaaGreatDoor
