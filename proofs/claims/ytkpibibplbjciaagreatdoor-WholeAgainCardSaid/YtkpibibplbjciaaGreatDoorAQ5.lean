/- A part of the proof of WholeAgain: it hangs on nothing beside the given files. -/
import Derived.Test.YtkpibibplbjciaaGreatDoorAQ4
set_option linter.unusedVariables false
set_option linter.unusedSectionVars false
set_option linter.unusedSimpArgs false
namespace Go.Proofs.YtkpibibplbjciaaGreatDoor
open Go Go.Sl
set_option maxRecDepth 4000
variable {B : Nat} {K : ao B}
abbrev c6(p:Nat)(bz co:Value)(w:ai (BitVec 32))(seq:BitVec 32)(cH:Int):List Value:=[ag p,bz,co,aw w,aI seq.toNat,U cH]
abbrev ga(d:a2)(z:Bool):a2:=⟨d.words,d.il,d.a,d.g,d.b,d.wr,z,d.ew,d.a3,d.hP,d.ops⟩
abbrev Vt(d:a2)(n:Int)(x:BitVec 32):a2:=⟨d.words,d.il,d.a,d.g,d.b,d.wr,d.on,true,max n 0,x,d.ops⟩
def jM(l:List (BitVec 32)):Bool:=match ld l with
  |some c=>decide (iU c=0)
  |none=>false
theorem KS{l:List (BitVec 32)}(h:¬oO l=0):jM l=false:=by
  unfold oO at h;unfold jM
  cases aD:ld l with
  |some c=>rw [aD]at h;exact absurd rfl h
  |none=>rfl
theorem MC{l:List (BitVec 32)}(h:oO l=0):∃c,ld l=some c:=by
  unfold oO at h
  cases aD:ld l with
  |some c=>exact⟨c,rfl⟩
  |none=>rw [aD]at h;cases h
theorem Wh(l:ai (BitVec 32))(aJ:c1 K l.bl (l.l.flatMap de)){aq:ao B}(bc:dL aq)(aD:dS aq):aS B 61 [aw l] [K,aq] (fun v S=>v= .bool (jM l.l)∧S=[K,aq]):=by
 refine bD 20 Tryz.func61 fun a4 ax=>?_
 refine cA (Ly l aJ bc) ?_
 rintro _ _ ⟨y,⟨aZ,st⟩,rfl,rfl⟩
 simp only [List.cons_append,List.nil_append]
 refine ct ?_
 refine bH (.agg #[U y.cG,aw y.aG,aw y.ba,aw y.a0]) ?_
 refine bH (U (oO l.l)) ?_
 refine da fun ay=>?_
 refine bX ?_ ?_<;>intro ab
 ·refine ah ?_
  rw [KS ab]
  exact bA
 refine gK ?_
 refine cM (bJ y) ?_
 refine cA (zadm (K:=all (hn y)) y (kp st) bc aD) ?_
 rintro _ _ ⟨o,z,ap,rfl,rfl⟩
 simp only [List.cons_append,List.nil_append]
 refine ct ?_
 refine bH (.agg #[aw o.ba,aw o.a0]) ?_
 refine bH (U z) ?_
 refine bH (U (iU y.c)) ?_
 refine ah ?_
 obtain⟨c,bg⟩:=MC ab
 have aB:jM l.l=(iU y.c==0):=by unfold jM;rw [bg,aZ c bg];exact(Bool.eq_iff_iff.2 (by simp))
 rw [aB]
 exact bA
theorem Ao(q p:Nat)(w:ai (BitVec 32))(seq:BitVec 32)(cH:Int)(bz co:Value)(d:a2):aS B 17 [ag q] [aa q (c6 p (bz) (co) w seq cH) 116,aa p (bE d) 196] (fun v S=>v= .tuple #[]∧S=[aa q (c6 p (.pointer none) (.pointer none) w seq cH) 116,aa p (bE (ga d false)) 196]):=by
 refine bD 13 Tryz.func17 fun a4 ax=>?_
 refine cA (Gj p d false) ?_
 rintro _ _ rfl
 simp only [List.cons_append,List.nil_append]
 exact mz
theorem af2(q p:Nat)(w:ai (BitVec 32))(seq:BitVec 32)(cH:Int)(bz co:Value)(d:a2)(n:Int)(x:BitVec 32):aS B 15 [ag q,.agg #[U n,aI x.toNat]] [aa q (c6 p (bz) (co) w seq cH) 116,aa p (bE d) 196] (fun v S=>v= .tuple #[]∧S=[aa q (c6 p (bz) (co) w seq cH) 116,aa p (bE (Vt d n x)) 196]):=by
 refine bD 10 Tryz.func15 fun a4 ax=>?_
 refine fe (au:=[U n,aI x.toNat]) fun ay=>?_
 refine c8 [aa q (c6 p (bz) (co) w seq cH) 116,aa ay [U n,aI x.toNat] 52] ae aC ?_
 refine aN [0,1,2,3] ?_
 refine bs 4 rfl (dw (bx:=[U n,aI x.toNat]) rfl ar ae rfl (by rfl)) ?_
 refine jU 5 (agE p d n x) ?_
 rintro _ _ rfl
 simp only [List.cons_append,List.nil_append]
 refine fV ?_
 refine c7 [99] ?_
 exact bA
theorem MD(q p:Nat)(w:ai (BitVec 32))(seq:BitVec 32)(cH:Int)(bz:Value)(bN:Nat)(hw:c1 K w.bl (w.l.flatMap de))(Ej:w.l.length≤100000):aS B 49 [ag q] [aa q (c6 p (bz) (ag bN) w seq cH) 116,K] (fun v S=>∃a:ai (BitVec 32),(a.l=w.l∧a.Own)∧v= .tuple #[aw a,aI seq.toNat,.bool true]∧S=[cK a,aa q (c6 p (bz) (ag bN) w seq cH) 116,K]):=by
 refine dn 19 Tryz.func49 fun a4 ax=>?_
 refine hy de 42 1 ?_
 refine ah ?_
 refine c8 [aa q (c6 p (bz) (ag bN) w seq cH) 116] ae aC ?_
 refine aN [0,1,2,3,5,6,7,8,104] ?_
 refine mb (aW:=de) (c:=(ai.bG:ai (BitVec 32))) (b:=w) rfl .no rfl rfl ae ar dr (show Out K _ _ from ar) hw (fun _=>rfl) (fun _=>rfl) (by show 0+w.l.length≤_;omega) (by show(0+w.l.length)*_≤_;omega) rfl (fun a aO bT=>?_)
 refine aN [9,10,11,99] ?_
 refine dW ?_
 refine cc (.nil _) (Fk rfl rfl rfl rfl) ?_
 exact⟨[cK a,aa q (c6 p (bz) (ag bN) w seq cH) 116,K],⟨a,⟨by rw [aO];rfl,bT⟩,rfl,rfl⟩,_,bq⟩
theorem J2{n W L:Nat}{a:ai (BitVec 32)}{b:ai Int}(a7:1≤n∧n≤64)(rB:1≤W∧W≤1024)(eL:L≤1048576)(aO:a.l.length=n*W)(bT:a.Own)(bb:b.l.length=n)(oc:b.Own):cZ (lR W L a b):=
  ⟨by show 1≤b.l.length∧b.l.length≤64;omega,rB,by show a.l.length=b.l.length*W;rw [aO,bb],eL,bT,oc,⟨by show(0:Int)≤0;omega,by show(0:Int)≤1000000000;omega⟩,⟨by show(0:Int)≤0;omega,by show(0:Int)≤9223372036854775807;omega⟩,fun k=>⟨by show(0:Int)≤0;omega,by show(0:Int)≤2000000;omega⟩⟩
theorem CJ{d:a2}{m i:Nat}(hm:3≤m)(ak:i<2)(aD:m*2≤d.b.l.length)(hw:13≤d.words):dj d (lc m i):=
  ⟨⟨hm,by show i*m+m≤_;rcases(show i=0∨i=1 by omega)with rfl|rfl<;>omega⟩,hw,by show 0≤4096;omega,by show(0:Int)≤0;omega,by show(0:Int)≤4*((0:Nat):Int);omega⟩
abbrev g8(W L:Nat)(a:ai (BitVec 32))(b:ai Int)(l:List (BitVec 32)):a2:=ga (hf (lR W L a b) (lc (b.l.length/2) 0) l).1 false
theorem Ol(n W L:Nat)(a7:6≤n∧n≤64)(rB:13≤W∧W≤1024)(eL:L≤1048576)(l:ai (BitVec 32))(aJ:c1 K l.bl (l.l.flatMap de))(aB:jM l.l=true)(ak:∀(a:ai (BitVec 32)) (b:ai Int),a.l.length=n*W→a.Own→b.l.length=n→b.Own→(hf (lR W L a b) (lc (b.l.length/2) 0) l.l).2.2=0){aq:ao B}(bc:dL aq)(aD:dS aq):aS B 25 [.agg #[U (n:Int),U (W:Int),U (L:Int)],aw l] [K,aq] (fun v S=>∃(q p:Nat) (a:ai (BitVec 32)) (b:ai Int),(a.l.length=n*W∧a.Own∧b.l.length=n∧b.Own)∧v= .tuple #[ag q,U 0]∧S=[aa q (c6 p (.pointer none) (.pointer none) ai.bG 0#32 0) 116,aa p (bE (g8 W L a b l.l)) 196,b5 (g8 W L a b l.l),dT (g8 W L a b l.l),K,aq]):=by
 refine bD 45 Tryz.func25 fun a4 ax=>?_
 refine fe (au:=[U (n:Int),U (W:Int),U (L:Int)]) fun ay=>?_
 refine cA (ZU n W L (by omega) (by omega) eL) ?_
 rintro _ _ ⟨p,a,b,⟨dB,bT,nF,oc⟩,rfl,rfl⟩
 simp only [List.cons_append,List.nil_append]
 have sq:=J2 (n:=n) (L:=L) al al eL dB bT nF oc
 have o6:=ak a b dB bT nF oc
 refine ct ?_
 refine bH (ag p) ?_
 refine bH (U 0) ?_
 refine jT ?_
 refine aT ?_ ?_<;>intro ab
 ·first|omega|simp at ab
 refine cA (Nc p (lR W L a b) sq (by show 6≤b.l.length;omega) rB.1) ?_
 rintro _ _ ⟨a6,Q,rfl,rfl⟩
 simp only [List.cons_append,List.nil_append]
 refine ct ?_
 refine bH (ag a6) ?_
 refine bH (U 0) ?_
 refine jT ?_
 refine aT ?_ ?_<;>intro af
 ·first|omega|simp at af
 refine dA (Wh l aJ bc aD) ?_
 rw [aB]
 refine ah ?_
 refine e1 (RB a6 p Q (lR W L a b) sq (lc (b.l.length/2)) (CJ (by omega) (by decide) (by show b.l.length/2*2≤b.l.length;omega) rB.1) (by show(0:Int)≤700000000;omega) l aJ) ?_
 refine aT ?_ ?_<;>intro az
 ·first|omega|simp_all
 refine cA (Gj p (hf (lR W L a b) (lc (b.l.length/2) 0) l.l).1 false) ?_
 rintro _ _ rfl
 refine cU ?_
 refine fe (au:=c6 p (.pointer none) (.pointer none) ai.bG 0#32 0) fun aM=>?_
 exact⟨[aa aM (c6 p (.pointer none) (.pointer none) ai.bG 0#32 0) 116,aa p (bE (g8 W L a b l.l)) 196,b5 (g8 W L a b l.l),dT (g8 W L a b l.l),K,aq],⟨aM,p,a,b,⟨dB,bT,nF,oc⟩,rfl,rfl⟩,_,bq⟩
abbrev bi(d:a2):Nat→bL:=lc (d.b.l.length/2)
abbrev db(d:a2):a2:=ga d true
abbrev e5(d:a2)(j:Nat):Hd:=dV (db d) (bi d j) j
def j4(d:a2):Option Nat:=(nf (db d) (bi d)).find? fun j=>jM (e5 d j).l
def kG(d:a2):Int:=match j4 d with
  |none=>90
  |some j=>(e9 (db d) (bi d j)).2.1
def bm(d:a2):a2:=match j4 d with
  |none=>db d
  |some j=>(e9 (db d) (bi d j)).1
theorem KT{d:a2}{ad:Nat→bL}{j:Nat}(h:j∈nf d ad):j<2∧fF d (ad j)=true:=by
  unfold nf at h
  split at h
  · rename_i q
    split at h
    · simp at h;rcases h with rfl|rfl
      · exact⟨by decide,q.2⟩
      · exact⟨by decide,q.1⟩
    · simp at h;rcases h with rfl|rfl
      · exact⟨by decide,q.1⟩
      · exact⟨by decide,q.2⟩
  · rcases List.mem_append.1 h with h|h
    · split at h
      · rename_i q;simp at h;subst h;exact⟨by decide,q⟩
      · cases h
    · split at h
      · rename_i q;simp at h;subst h;exact⟨by decide,q⟩
      · cases h
theorem Un{d:a2}{k:bL}{j:Nat}(h:fF d k=true):(dV d k j).i=j:=by unfold dV;rw [if_pos h]
theorem SU{d:a2}{k:bL}(h:(e9 d k).2.1=0):(e9 d k).2.2=true:=by
  unfold e9 at*
  split at h
  · split at h
    · split at h
      · rename_i ab af az;rw [if_pos ab,if_pos af,if_pos az]
      · split at h
        · rename_i ab af az a5;rw [if_pos ab,if_pos af,if_neg az,if_pos a5]
        · rename_i ab af az a5;exact absurd h a5
    · cases h
  · cases h
theorem SV{d:a2}{k:bL}(h:cZ d)(ap:d.ops≤900000000):(e9 d k).1.b=d.b∧(e9 d k).1.wr=d.wr:=by
  unfold e9
  split
  · split
    · split
      · exact⟨rfl,rfl⟩
      · split
        · exact⟨(Gp h ap).b,Mc d k⟩
        · exact⟨(Gp h ap).b,Mc d k⟩
    · exact⟨rfl,rfl⟩
  · exact⟨rfl,rfl⟩
theorem zJ{d:a2}{z:Bool}(h:cZ d):cZ (ga d z):=⟨h.s,h.w,h.n,h.lj,h.pb,h.gd,h.ops,h.a3,h.AK⟩
theorem SW{l:List (BitVec 32)}{c:dG}(h:ld l=some c)(aO:¬iU c=0):jM l=false:=by unfold jM;rw [h];exact decide_eq_false aO
theorem Ci{l:List (BitVec 32)}{c:dG}(h:ld l=some c)(aO:iU c=0):jM l=true:=by unfold jM;rw [h];exact decide_eq_true aO
theorem ME{d:a2}{i j:Nat}(aY:(nf (db d) (bi d))[i]?=some j)(aB:jM (e5 d j).l=true)(cR:∀k,k∈(nf (db d) (bi d)).take i→jM (e5 d k).l=false):j4 d=some j:=by
 obtain⟨ak,bh⟩:=List.getElem?_eq_some_iff.1 aY
 unfold j4
 rw [List.find?_eq_some_iff_getElem]
 refine⟨aB,i,ak,bh,fun k aj=>?_⟩
 rw [cR _ (by rw [List.mem_take_iff_getElem];exact⟨k,by omega,rfl⟩)];rfl
theorem Wi{d:a2}(cR:∀k,k∈nf (db d) (bi d)→jM (e5 d k).l=false):j4 d=none:=by
  unfold j4;rw [List.find?_eq_none];intro k aj;rw [cR k aj];decide
theorem SX{d:a2}{j:Nat}(h:j4 d=some j):j<2∧fF (db d) (bi d j)=true:=KT (List.mem_of_find?_eq_some h)
abbrev iI(Q:Nat→Nat)(p:Nat)(d:a2)(j:Nat):ao B:=aa (Q j) (bp p (bi d j)) 273
abbrev Hp(a6 p:Nat)(Q:Nat→Nat)(d:a2)(j:Nat)(z:Int)(w:ai (BitVec 32)):List (ao B):=[aa a6 [ag p,.pointer (some ⟨Q 0,0,none⟩),.pointer (some ⟨Q 1,0,none⟩),U z] 200,iI Q p d j,iI Q p d (1-j),cK w]
structure xV(p:Nat)(d:a2)(bz co:Value)(w:ai (BitVec 32))(seq:BitVec 32)(hX:ao B):Prop where
  on:kG d=0→∃(a6:Nat) (Q:Nat→Nat) (bN j:Nat),j4 d=some j∧bz=ag a6∧co=ag bN∧w.l=(e5 d j).l∧w.Own∧seq=(e5 d j).seq∧hX=all (Hp a6 p Q d j (j:Int) w)
  off:kG d≠0→bz= .pointer none∧co= .pointer none
def MF(d:a2)(co:Value)(jH:ao B):Prop:=kG d=0→∃(j:Nat) (c:dG),j4 d=some j∧ld (e5 d j).l=some c∧CI c co jH
theorem MG(q p:Nat)(w:ai (BitVec 32))(seq:BitVec 32)(cH:Int)(d:a2)(h:cZ d)(g6:d.on=false)(fA:d.ops≤800000000)(c5:6≤d.b.l.length)(hw:13≤d.words)(bb:0≤cH∧cH≤100000){aq:ao B}(bc:c1 aq ⟨0,0,none⟩ (q2.map fun m=> .int .u8 m))(aD:dS aq):dQ Tryz.prog B 18 [.pointer (some ⟨q,0,none⟩)] [aa q (c6 p (.pointer none) (.pointer none) w seq (cH)) 116,aa p (bE d) 196,row (.slice d.a.b1 d.a.l.length d.a.c) 42 1 d.a.l.length ((df d.a.l.length d.g).flatMap de),row (.slice d.b.b1 d.b.l.length d.b.c) 3 1 d.b.l.length ((df d.b.l.length d.wr).flatMap ei),aq] (fun v S=>∃(bz co:Value) (hV:ai (BitVec 32)) (dx:BitVec 32) (hX jH:ao B),(xV p d bz co hV dx hX∧MF d co jH)∧v= .int .i64 (kG d)∧S=[aa q (c6 p bz co hV dx (cH+1)) 116,aa p (bE (bm d)) 196,row (.slice (bm d).a.b1 (bm d).a.l.length (bm d).a.c) 42 1 (bm d).a.l.length ((df (bm d).a.l.length (bm d).g).flatMap de),row (.slice (bm d).b.b1 (bm d).b.l.length (bm d).b.c) 3 1 (bm d).b.l.length ((df (bm d).b.l.length (bm d).wr).flatMap ei),hX,jH,aq]):=by
 refine dn 89 Tryz.func18 fun a4 ax=>?_
 refine td um ?_
 have b0:cZ (db d):=zJ h
 have PO:∀i,i<2→dj (db d) (bi d i):=fun i ak=>CJ (by show 3≤d.b.l.length/2;omega) ak (by show d.b.l.length/2*2≤d.b.l.length;omega) hw
 refine ah ?_
 refine dt (au:=[.pointer (some ⟨q,0,none⟩)]) fun ay=>?_
 refine da fun aM=>?_
 refine FH ?_
 refine ah ?_
 refine dA (wK p d) ?_
 rw [g6]
 refine ah ?_
 refine cA (Gj p d true) ?_
 rintro _ _ rfl
 refine cU ?_
 refine cA (Nc p (db d) b0 c5 hw) ?_
 rintro _ _ ⟨a6,Q,rfl,rfl⟩
 simp only [List.cons_append,List.nil_append]
 refine ct ?_
 refine bH (.pointer (some ⟨a6,0,none⟩)) ?_
 refine bH (.int .i64 0) ?_
 refine ds fun bw=>?_
 refine jT ?_
 refine aT ?_ ?_<;>intro ab
 ·first|omega|simp at ab
 refine FG ?_
 refine ah ?_
 refine cA (Um a6) ?_
 rintro _ _ ⟨c,rfl,rfl⟩
 refine cU ?_
 refine Sm (own:=[aa c [.pointer (some ⟨a6,0,none⟩)] 114]) (V:=[aa a6 [.pointer (some ⟨p,0,none⟩),.pointer (some ⟨Q 0,0,none⟩),.pointer (some ⟨Q 1,0,none⟩),.int .i64 (-1)] 200,iI Q p d 0,iI Q p d 1,aa p (bE (db d)) 196,row (.slice (db d).a.b1 (db d).a.l.length (db d).a.c) 42 1 (db d).a.l.length ((df (db d).a.l.length (db d).g).flatMap de)]) (cb:=[aa ay [.pointer (some ⟨q,0,none⟩)] 49,aa aM [.int .i64 0] 53,aa q (c6 p (.pointer none) (.pointer none) w seq (cH+1)) 116,aa bw [.pointer (some ⟨a6,0,none⟩)] 114,row (.slice (db d).b.b1 (db d).b.l.length (db d).b.c) 3 1 (db d).b.l.length ((df (db d).b.l.length (db d).wr).flatMap ei),aq]) rfl e2 (Ul c a6 p Q (db d) b0 (bi d) PO (-1)) (fun x i S=>(∀k,k∈(nf (db d) (bi d)).take i→jM (e5 d k).l=false)∧∃m,m<2∧S=[aa ay [.pointer (some ⟨q,0,none⟩)] 49,aa aM [.int .i64 0] 53,aa q (c6 p (.pointer none) (.pointer none) w seq (cH+1)) 116,aa bw [.pointer (some ⟨a6,0,none⟩)] 114,row (.slice (db d).b.b1 (db d).b.l.length (db d).b.c) 3 1 (db d).b.l.length ((df (db d).b.l.length (db d).wr).flatMap ei),aq,cK (jN x m),cK (jN x (1-m)),aa a6 [.pointer (some ⟨p,0,none⟩),.pointer (some ⟨Q 0,0,none⟩),.pointer (some ⟨Q 1,0,none⟩),.int .i64 (-1)] 200,iI Q p d m,iI Q p d (1-m),aa p (bE (db d)) 196,row (.slice (db d).a.b1 (db d).a.l.length (db d).a.c) 42 1 (db d).a.l.length ((df (db d).a.l.length (db d).g).flatMap de)]) (fun x c i S=>c= .ret∧∃(j:Nat) (bz co:Value) (hV:ai (BitVec 32)) (dx:BitVec 32) (jH:ao B),j4 d=some j∧((e9 (db d) (bi d j)).2.1=0→bz= .pointer (some ⟨a6,0,none⟩)∧(∃bN:Nat,co= .pointer (some ⟨bN,0,none⟩))∧hV=jN x j∧dx=(e5 d j).seq)∧((e9 (db d) (bi d j)).2.1≠0→bz= .pointer none∧co= .pointer none)∧((e9 (db d) (bi d j)).2.1=0→∃vr,ld (e5 d j).l=some vr∧CI vr co jH)∧S=[aa ay [.pointer (some ⟨q,0,none⟩)] 49,aa aM [.int .i64 (e9 (db d) (bi d j)).2.1] 53,aa q (c6 p (bz) (co) hV dx (cH+1)) 116,row (.slice (db d).b.b1 (db d).b.l.length (db d).b.c) 3 1 (db d).b.l.length ((df (db d).b.l.length (db d).wr).flatMap ei),aq,cK (jN x j),aa a6 [.pointer (some ⟨p,0,none⟩),.pointer (some ⟨Q 0,0,none⟩),.pointer (some ⟨Q 1,0,none⟩),.int .i64 (if(e9 (db d) (bi d j)).2.2=true then(j:Int)else(-1))] 200,iI Q p d j,iI Q p d (1-j),aa p (bE ((e9 (db d) (bi d j)).1)) 196,row (.slice (e9 (db d) (bi d j)).1.a.b1 (e9 (db d) (bi d j)).1.a.l.length (e9 (db d) (bi d j)).1.a.c) 42 1 (e9 (db d) (bi d j)).1.a.l.length ((df (e9 (db d) (bi d j)).1.a.l.length (e9 (db d) (bi d j)).1.g).flatMap de),jH]) (show Take [aa c [.pointer (some ⟨a6,0,none⟩)] 114,aa ay [.pointer (some ⟨q,0,none⟩)] 49,aa aM [.int .i64 0] 53,aa q (c6 p (.pointer none) (.pointer none) w seq (cH+1)) 116,aa bw [.pointer (some ⟨a6,0,none⟩)] 114,row (.slice (db d).b.b1 (db d).b.l.length (db d).b.c) 3 1 (db d).b.l.length ((df (db d).b.l.length (db d).wr).flatMap ei),aq,aa a6 [.pointer (some ⟨p,0,none⟩),.pointer (some ⟨Q 0,0,none⟩),.pointer (some ⟨Q 1,0,none⟩),.int .i64 (-1)] 200,iI Q p d 0,iI Q p d 1,aa p (bE (db d)) 196,row (.slice (db d).a.b1 (db d).a.l.length (db d).a.c) 42 1 (db d).a.l.length ((df (db d).a.l.length (db d).g).flatMap de)] _ _ from aC) (fun x av=>⟨fun k aj=>(by cases aj),0,by decide,rfl⟩) rfl (fun x av y aZ=>by obtain⟨j,_,rfl⟩:=List.mem_map.1 aZ;rfl) ?_ ?_ ?_
 ·intro x cu rec jF i aQ av ak bt
  obtain⟨cR,m,nC,rfl⟩:=bt
  unfold mj at ak
  rw [List.length_map]at ak
  obtain⟨j,cN⟩:∃j,(nf (db d) (bi d))[i]?=some j:=⟨_,List.getElem?_eq_getElem ak⟩
  obtain⟨mw,wO⟩:=KT (List.mem_of_getElem? cN)
  rw [show(mj (db d) (bi d) x).getD i []=uG (db d) (bi d) x j from by unfold mj;simp [List.getD,cN]]
  obtain⟨dB,bT⟩:(jN x j).l=(e5 d j).l∧(jN x j).Own:=by rcases(show j=0∨j=1 by omega)with rfl|rfl;exact av.1;exact av.2
  refine Df (fun j=>cK (jN x j)) mw nC aC ?_
  refine Df (fun j=>iI Q p d j) mw nC aC ?_
  refine ah ?_
  refine da fun b9=>?_
  refine⟨rfl,_,_,.cons ar (Take.self _),fun h1=>?_⟩
  refine gK ?_
  refine cv (.slice (jN x j).b1 (jN x j).l.length (jN x j).c) ?_
  refine cA (Ly (K:=cK (jN x j)) (jN x j) (eh bT rfl) bc) ?_
  rintro _ _ ⟨y,⟨aZ,st⟩,rfl,rfl⟩
  simp only [List.cons_append,List.nil_append]
  rw [dB]
  refine ct ?_
  refine bH (.agg #[.int .i64 y.cG,.slice y.aG.b1 y.aG.l.length y.aG.c,.slice y.ba.b1 y.ba.l.length y.ba.c,.slice y.a0.b1 y.a0.l.length y.a0.c]) ?_
  refine bH (.int .i64 (oO (e5 d j).l)) ?_
  refine da fun dK=>?_
  refine bX ?_ ?_<;>intro af
  ·refine ah ?_
   exact⟨[aa ay [.pointer (some ⟨q,0,none⟩)] 49,aa aM [.int .i64 0] 53,aa q (c6 p (.pointer none) (.pointer none) w seq (cH+1)) 116,aa bw [.pointer (some ⟨a6,0,none⟩)] 114,row (.slice (db d).b.b1 (db d).b.l.length (db d).b.c) 3 1 (db d).b.l.length ((df (db d).b.l.length (db d).wr).flatMap ei),aq,cK (jN x j),cK (jN x (1-j)),aa a6 [.pointer (some ⟨p,0,none⟩),.pointer (some ⟨Q 0,0,none⟩),.pointer (some ⟨Q 1,0,none⟩),.int .i64 (-1)] 200,iI Q p d j,iI Q p d (1-j),aa p (bE (db d)) 196,row (.slice (db d).a.b1 (db d).a.l.length (db d).a.c) 42 1 (db d).a.l.length ((df (db d).a.l.length (db d).g).flatMap de)],_,aC,⟨fun k aj=>(by rw [List.take_add_one,cN]at aj;rcases List.mem_append.1 aj with q|q;exact cR k q;simp at q;subst q;exact KS cl),j,mw,rfl⟩⟩
  obtain⟨vr,fh⟩:=MC af
  have fI:y.c=vr:=aZ _ (by rw [dB];exact fh)
  refine kk ?_
  refine ik ?_
  refine dZ ?_
  refine fl ?_
  refine aA (dw (bx:=[.int .i64 y.cG,.slice y.aG.b1 y.aG.l.length y.aG.c,.slice y.ba.b1 y.ba.l.length y.ba.c,.slice y.a0.b1 y.a0.l.length y.a0.c]) rfl ar ae rfl (by rfl)) ?_
  refine cA (LI (K:=all (hn y)) y (kp st) bc aD) ?_
  rintro _ _ ⟨ol,Bx,jH,⟨om,jb⟩,rfl,rfl⟩
  simp only [List.cons_append,List.nil_append]
  refine ct ?_
  refine bH ol ?_
  refine bH (.int .i64 Bx) ?_
  refine bH (.int .i64 (iU y.c)) ?_
  refine ah ?_
  refine bX ?_ ?_<;>intro az
  ·refine ah ?_
   exact⟨[aa ay [.pointer (some ⟨q,0,none⟩)] 49,aa aM [.int .i64 0] 53,aa q (c6 p (.pointer none) (.pointer none) w seq (cH+1)) 116,aa bw [.pointer (some ⟨a6,0,none⟩)] 114,row (.slice (db d).b.b1 (db d).b.l.length (db d).b.c) 3 1 (db d).b.l.length ((df (db d).b.l.length (db d).wr).flatMap ei),aq,cK (jN x j),cK (jN x (1-j)),aa a6 [.pointer (some ⟨p,0,none⟩),.pointer (some ⟨Q 0,0,none⟩),.pointer (some ⟨Q 1,0,none⟩),.int .i64 (-1)] 200,iI Q p d j,iI Q p d (1-j),aa p (bE (db d)) 196,row (.slice (db d).a.b1 (db d).a.l.length (db d).a.c) 42 1 (db d).a.l.length ((df (db d).a.l.length (db d).g).flatMap de)],_,aC,⟨fun k aj=>(by rw [List.take_add_one,cN]at aj;rcases List.mem_append.1 aj with q|q;exact cR k q;simp at q;subst q;exact SW fh (by rw [←fI];assumption)),j,mw,rfl⟩⟩
  obtain⟨IY,_,_,_,_,_,H5,_⟩:=om az
  subst H5
  refine kk ?_
  refine ik ?_
  refine dZ ?_
  refine dZ ?_
  refine fl ?_
  refine aA (ed ae) ?_
  refine aA (kf ae) ?_
  refine aA (fm (v:= .int .i64 ((e5 d j).i:Int)) rfl ar ae (by rfl)) ?_
  rw [show(e5 d j).i=j from Un wO]
  refine e1 (TL a6 p Q (db d) b0 (bi d) j mw (PO j mw) (-1)) ?_
  refine aT ?_ ?_<;>intro a5
  ·exact⟨[aa ay [.pointer (some ⟨q,0,none⟩)] 49,aa aM [.int .i64 (e9 (db d) (bi d j)).2.1] 53,aa q (c6 p (.pointer none) (.pointer none) w seq (cH+1)) 116,row (.slice (db d).b.b1 (db d).b.l.length (db d).b.c) 3 1 (db d).b.l.length ((df (db d).b.l.length (db d).wr).flatMap ei),aq,cK (jN x j),aa a6 [.pointer (some ⟨p,0,none⟩),.pointer (some ⟨Q 0,0,none⟩),.pointer (some ⟨Q 1,0,none⟩),.int .i64 (if(e9 (db d) (bi d j)).2.2=true then(j:Int)else(-1))] 200,iI Q p d j,iI Q p d (1-j),aa p (bE ((e9 (db d) (bi d j)).1)) 196,row (.slice (e9 (db d) (bi d j)).1.a.b1 (e9 (db d) (bi d j)).1.a.l.length (e9 (db d) (bi d j)).1.a.c) 42 1 (e9 (db d) (bi d j)).1.a.l.length ((df (e9 (db d) (bi d j)).1.a.l.length (e9 (db d) (bi d j)).1.g).flatMap de),jH],_,aC,⟨rfl,j,.pointer none,.pointer none,w,seq,jH,ME cN (Ci fh (by rw [←fI];assumption)) cR,fun q=>absurd q cl,fun _=>⟨rfl,rfl⟩,fun q=>absurd q cl,rfl⟩⟩
  refine ki [aa ay [.pointer (some ⟨q,0,none⟩)] 49,aa bw [.pointer (some ⟨a6,0,none⟩)] 114,aa b9 (gq (e5 d j) (jN x j)) 124] ae aC ?_
  refine aN [0,1,2,3,4,5,6] ?_
  refine bs 7 rfl (ed (v:= .slice (jN x j).b1 (jN x j).l.length (jN x j).c) ae) ?_
  refine aN [8] ?_
  refine bs 9 rfl (ed (v:= .int .u32 (e5 d j).seq.toNat) ae) ?_
  refine aN [10,11,112] ?_
  refine mg rfl .no dr (oB rfl rfl rfl ar ae pH) aC ?_
  refine aN [13,14,115] ?_
  refine mg rfl .no dr (oB rfl rfl rfl ar ae pH) aC ?_
  refine aN [16,17,118] ?_
  refine mg rfl .no dr (oB rfl rfl rfl ar ae pH) aC ?_
  refine aN [19,20,121] ?_
  refine mg rfl .no dr (oB rfl rfl rfl ar ae pH) aC ?_
  refine c7 [99] ?_
  have Ec:(e9 (db d) (bi d j)).2.1=0:=by assumption
  rw [show(aa aM [.int .i64 0] 53:ao B)=aa aM [.int .i64 (e9 (db d) (bi d j)).2.1] 53 from by rw [Ec]]
  exact⟨[aa ay [.pointer (some ⟨q,0,none⟩)] 49,aa aM [.int .i64 (e9 (db d) (bi d j)).2.1] 53,aa q (c6 p (.pointer (some ⟨a6,0,none⟩)) (.pointer (some ⟨IY,0,none⟩)) (jN x j) (e5 d j).seq (cH+1)) 116,row (.slice (db d).b.b1 (db d).b.l.length (db d).b.c) 3 1 (db d).b.l.length ((df (db d).b.l.length (db d).wr).flatMap ei),aq,cK (jN x j),aa a6 [.pointer (some ⟨p,0,none⟩),.pointer (some ⟨Q 0,0,none⟩),.pointer (some ⟨Q 1,0,none⟩),.int .i64 (if(e9 (db d) (bi d j)).2.2=true then(j:Int)else(-1))] 200,iI Q p d j,iI Q p d (1-j),aa p (bE ((e9 (db d) (bi d j)).1)) 196,row (.slice (e9 (db d) (bi d j)).1.a.b1 (e9 (db d) (bi d j)).1.a.l.length (e9 (db d) (bi d j)).1.a.c) 42 1 (e9 (db d) (bi d j)).1.a.l.length ((df (e9 (db d) (bi d j)).1.a.l.length (e9 (db d) (bi d j)).1.g).flatMap de),jH],_,aC,⟨rfl,j,.pointer (some ⟨a6,0,none⟩),.pointer (some ⟨IY,0,none⟩),jN x j,(e5 d j).seq,jH,ME cN (Ci fh (by rw [←fI];assumption)) cR,fun _=>⟨rfl,⟨IY,rfl⟩,rfl,rfl⟩,fun q=>absurd Ec q,fun _=>⟨vr,fh,by rw [←fI];exact om cl⟩,rfl⟩⟩
 ·intro x c0 aQ av bt
  obtain⟨cR,m,nC,rfl⟩:=bt
  refine cU ?_
  refine xo ?_
  refine cc (show Take [du c0] _ _ from aC) (mF rfl rfl ar ae) ?_
  have wM:j4 d=none:=Wi (fun k aj=>cR k (by unfold mj;rw [List.length_map,List.take_length];exact aj))
  have ek:kG d=90:=by unfold kG;rw [wM]
  have bZ:bm d=db d:=by unfold bm;rw [wM]
  rw [show(aa p (bE (db d)) 196:ao B)=aa p (bE (bm d)) 196 from by rw [bZ]]
  rw [show(row (.slice (db d).a.b1 (db d).a.l.length (db d).a.c) 42 1 (db d).a.l.length ((df (db d).a.l.length (db d).g).flatMap de):ao B)=row (.slice (bm d).a.b1 (bm d).a.l.length (bm d).a.c) 42 1 (bm d).a.l.length ((df (bm d).a.l.length (bm d).g).flatMap de)from by rw [bZ]]
  rw [show(row (.slice (db d).b.b1 (db d).b.l.length (db d).b.c) 3 1 (db d).b.l.length ((df (db d).b.l.length (db d).wr).flatMap ei):ao B)=row (.slice (bm d).b.b1 (bm d).b.l.length (bm d).b.c) 3 1 (bm d).b.l.length ((df (bm d).b.l.length (bm d).wr).flatMap ei)from by rw [bZ]]
  exact⟨[aa q (c6 p (.pointer none) (.pointer none) w seq (cH+1)) 116,aa p (bE (bm d)) 196,row (.slice (bm d).a.b1 (bm d).a.l.length (bm d).a.c) 42 1 (bm d).a.l.length ((df (bm d).a.l.length (bm d).g).flatMap de),row (.slice (bm d).b.b1 (bm d).b.l.length (bm d).b.c) 3 1 (bm d).b.l.length ((df (bm d).b.l.length (bm d).wr).flatMap ei),iI Q p d m,all [],aq],⟨.pointer none,.pointer none,w,seq,iI Q p d m,all [],⟨⟨fun q=>absurd (ek.symm.trans q) bu,fun _=>⟨rfl,rfl⟩⟩,fun q=>absurd (ek.symm.trans q) bu⟩,by rw [ek],rfl⟩,_,bq⟩
 intro x c0 c i aQ av ak h
 obtain⟨rfl,j,bz,co,hV,dx,jH,AW,aay,Ds,acC,rfl⟩:=h
 simp only [List.cons_append,List.nil_append]
 refine td (jv (l:=[aa a6 [.pointer (some ⟨p,0,none⟩),.pointer (some ⟨Q 0,0,none⟩),.pointer (some ⟨Q 1,0,none⟩),.int .i64 (if(e9 (db d) (bi d j)).2.2=true then(j:Int)else(-1))] 200,iI Q p d j,iI Q p d (1-j),cK (jN x j)]) aC) ?_
 refine ah ?_
 refine xo ?_
 refine cc (show Take [du c0] _ _ from aC) (mF rfl rfl ar ae) ?_
 obtain⟨mw,wO⟩:=SX AW
 have ek:kG d=(e9 (db d) (bi d j)).2.1:=by unfold kG;rw [AW]
 have bZ:bm d=(e9 (db d) (bi d j)).1:=by unfold bm;rw [AW]
 have l1:=SV (k:=bi d j) b0 (show(db d).ops≤900000000 by show d.ops≤_;omega)
 rw [show(aa p (bE ((e9 (db d) (bi d j)).1)) 196:ao B)=aa p (bE (bm d)) 196 from by rw [bZ]]
 rw [show(row (.slice (e9 (db d) (bi d j)).1.a.b1 (e9 (db d) (bi d j)).1.a.l.length (e9 (db d) (bi d j)).1.a.c) 42 1 (e9 (db d) (bi d j)).1.a.l.length ((df (e9 (db d) (bi d j)).1.a.l.length (e9 (db d) (bi d j)).1.g).flatMap de):ao B)=row (.slice (bm d).a.b1 (bm d).a.l.length (bm d).a.c) 42 1 (bm d).a.l.length ((df (bm d).a.l.length (bm d).g).flatMap de)from by rw [bZ]]
 rw [show(row (.slice (db d).b.b1 (db d).b.l.length (db d).b.c) 3 1 (db d).b.l.length ((df (db d).b.l.length (db d).wr).flatMap ei):ao B)=row (.slice (bm d).b.b1 (bm d).b.l.length (bm d).b.c) 3 1 (bm d).b.l.length ((df (bm d).b.l.length (bm d).wr).flatMap ei)from by rw [bZ,l1.1,l1.2]]
 obtain⟨dB,bT⟩:(jN x j).l=(e5 d j).l∧(jN x j).Own:=by rcases(show j=0∨j=1 by omega)with rfl|rfl;exact av.1;exact av.2
 have hq:xV p d bz co hV dx (all [aa a6 [.pointer (some ⟨p,0,none⟩),.pointer (some ⟨Q 0,0,none⟩),.pointer (some ⟨Q 1,0,none⟩),.int .i64 (if(e9 (db d) (bi d j)).2.2=true then(j:Int)else(-1))] 200,iI Q p d j,iI Q p d (1-j),cK (jN x j)]:ao B):=⟨fun q=>by obtain⟨ab,⟨bN,af⟩,az,a5⟩:=aay (ek.symm.trans q);subst az;exact⟨a6,Q,bN,j,AW,ab,af,dB,bT,a5,by rw [SU (ek.symm.trans q)];rfl⟩,fun q=>Ds (fun z=>q (ek.trans z))⟩
 exact⟨[aa q (c6 p (bz) (co) hV dx (cH+1)) 116,aa p (bE (bm d)) 196,row (.slice (bm d).a.b1 (bm d).a.l.length (bm d).a.c) 42 1 (bm d).a.l.length ((df (bm d).a.l.length (bm d).g).flatMap de),row (.slice (bm d).b.b1 (bm d).b.l.length (bm d).b.c) 3 1 (bm d).b.l.length ((df (bm d).b.l.length (bm d).wr).flatMap ei),all [aa a6 [.pointer (some ⟨p,0,none⟩),.pointer (some ⟨Q 0,0,none⟩),.pointer (some ⟨Q 1,0,none⟩),.int .i64 (if(e9 (db d) (bi d j)).2.2=true then(j:Int)else(-1))] 200,iI Q p d j,iI Q p d (1-j),cK (jN x j)],jH,aq],⟨bz,co,hV,dx,all [aa a6 [.pointer (some ⟨p,0,none⟩),.pointer (some ⟨Q 0,0,none⟩),.pointer (some ⟨Q 1,0,none⟩),.int .i64 (if(e9 (db d) (bi d j)).2.2=true then(j:Int)else(-1))] 200,iI Q p d j,iI Q p d (1-j),cK (jN x j)],jH,⟨hq,fun q=>let⟨c,ab,af⟩:=acC (ek.symm.trans q);⟨j,c,AW,ab,af⟩⟩,by rw [ek],rfl⟩,_,bq⟩
theorem No(q p:Nat)(w:ai (BitVec 32))(seq:BitVec 32)(cH:Int)(d:a2)(h:cZ d)(g6:d.on=false)(fA:d.ops≤800000000)(c5:6≤d.b.l.length)(hw:13≤d.words)(bb:0≤cH∧cH≤100000){aq:ao B}(bc:dL aq)(aD:dS aq):aS B 18 [ag q] [aa q (c6 p (.pointer none) (.pointer none) w seq (cH)) 116,aa p (bE d) 196,b5 d,dT d,aq] (fun v S=>∃(bz co:Value) (hV:ai (BitVec 32)) (dx:BitVec 32) (hX:ao B),xV p d bz co hV dx hX∧v=U (kG d)∧S=[aa q (c6 p bz co hV dx (cH+1)) 116,aa p (bE (bm d)) 196,b5 (bm d),dT (bm d),hX,aq]):=by
 refine gB (MG q p w seq cH d h g6 fA c5 hw bb bc aD) ?_
 rintro _ _ ⟨bz,co,hV,dx,hX,jH,⟨hq,_⟩,rfl,rfl⟩
 exact⟨_,[aa q (c6 p bz co hV dx (cH+1)) 116,aa p (bE (bm d)) 196,b5 (bm d),dT (bm d),hX,aq],_,fun _ _ h=>h,aC,bz,co,hV,dx,hX,hq,rfl,rfl⟩
abbrev eU(d:a2)(e:Int):a2:=if e=63 then ga d false else d
abbrev gR(e:Int)(b:Nat):Value:=if e=63 then .pointer none else ag b
theorem MH{d:a2}{z:Int}{k cB:bL}{l:List (BitVec 32)}(h:cZ d)(aj:dj d cB)(ap:d.ops≤900000000):(e4 d z k cB l).1.b=d.b∧(e4 d z k cB l).1.wr=d.wr:=by
  unfold e4;split
  · exact⟨(CV h aj ap l).1.b,CW d cB l⟩
  · exact⟨rfl,rfl⟩
theorem J3{d:a2}{z:Int}{ad:Nat→bL}{a:Nat}(h:cZ d)(aj:dj d (ad (1-a)))(ap:d.ops≤800000000):(eM d z ad a).1.b=d.b∧(eM d z ad a).1.wr=d.wr:=by
  unfold eM;repeat' split
  all_goals first|exact⟨rfl,rfl⟩|exact⟨(B5 h aj (by omega) _).1.b,E3 _ _ _⟩
theorem JH{d:a2}{z:Int}{k:bL}(h:cZ d)(ap:d.ops≤900000000):(eB d z k).1.b=d.b∧(eB d z k).1.wr=d.wr:=by
  unfold eB;split
  · exact⟨rfl,rfl⟩
  · exact⟨(B0 h ap).b,Jx _ _⟩
theorem Uo(q p a6 bN:Nat)(Q:Nat→Nat)(w:ai (BitVec 32))(seq:BitVec 32)(cH:Int)(d:a2)(h:cZ d)(ad:Nat→bL)(aj:∀i,i<2→dj d (ad i))(a:Nat)(aO:a<2)(fA:d.ops≤800000000):aS B 99 [ag q,.agg #[U 9,U 0,U 0,.slice none 0 0,.slice none 0 0]] [aa q (c6 p (ag a6) (ag bN) w seq cH) 116,aa a6 [ag p,ag (Q 0),ag (Q 1),U (a:Int)] 200,aa (Q a) (bp p (ad a)) 273,aa (Q (1-a)) (bp p (ad (1-a))) 273,aa p (bE d) 196,b5 (d),dT (d)] (fun v S=>v=U (e3 d (a:Int) (ad a) (ad (1-a))).2.2∧S=[aa q (c6 p (gR (e3 d (a:Int) (ad a) (ad (1-a))).2.2 a6) (gR (e3 d (a:Int) (ad a) (ad (1-a))).2.2 bN) w seq cH) 116,aa a6 [ag p,ag (Q 0),ag (Q 1),U (a:Int)] 200,aa (Q a) (bp p (ad a)) 273,aa (Q (1-a)) (bp p (e3 d (a:Int) (ad a) (ad (1-a))).2.1) 273,aa p (bE (eU (e3 d (a:Int) (ad a) (ad (1-a))).1 (e3 d (a:Int) (ad a) (ad (1-a))).2.2)) 196,b5 (eU (e3 d (a:Int) (ad a) (ad (1-a))).1 (e3 d (a:Int) (ad a) (ad (1-a))).2.2),dT (eU (e3 d (a:Int) (ad a) (ad (1-a))).1 (e3 d (a:Int) (ad a) (ad (1-a))).2.2)]):=by
 refine dn 43 Tryz.func99 fun a4 ax=>?_
 have pE:1-a<2:=by omega
 refine ah ?_
 refine dt (au:=[U 9,U 0,U 0,.slice none 0 0,.slice none 0 0]) fun ay=>?_
 refine tf ?_
 refine aT ?_ ?_<;>intro ab
 ·refine e1 (TK a6 p Q d h ad a aO (a:Int) (.inr rfl) (aj a aO) (aj (1-a) (by omega)) (by omega)) ?_
  refine aT ?_ ?_<;>intro af
  ·refine e1 (Ao q p w seq cH (ag a6) (ag bN) (e3 d (a:Int) (ad a) (ad (1-a))).1) ?_
   have dc:eU (e3 d (a:Int) (ad a) (ad (1-a))).1 (e3 d (a:Int) (ad a) (ad (1-a))).2.2=(ga (e3 d (a:Int) (ad a) (ad (1-a))).1 false):=if_pos cl
   have dd:∀b,gR (e3 d (a:Int) (ad a) (ad (1-a))).2.2 b= .pointer none:=fun b=>if_pos cl
   rw [dc,dd,dd]
   exact bA
  have dc:eU (e3 d (a:Int) (ad a) (ad (1-a))).1 (e3 d (a:Int) (ad a) (ad (1-a))).2.2=(e3 d (a:Int) (ad a) (ad (1-a))).1:=if_neg cl
  have dd:∀b,gR (e3 d (a:Int) (ad a) (ad (1-a))).2.2 b=ag b:=fun b=>if_neg cl
  rw [dc,dd,dd]
  exact bA
 exact bW ab
theorem YA(q p a6 bN:Nat)(Q:Nat→Nat)(w:ai (BitVec 32))(seq:BitVec 32)(cH:Int)(d:a2)(h:cZ d)(ad:Nat→bL)(aj:∀i,i<2→dj d (ad i))(a:Nat)(aO:a<2)(fA:d.ops≤800000000)(l:ai (BitVec 32))(aJ:c1 K l.bl (l.l.flatMap de)):dQ Tryz.prog B 99 [.pointer (some ⟨q,0,none⟩),.agg #[.int .i64 10,.int .i64 0,.int .i64 0,.slice none 0 0,.slice l.b1 l.l.length l.c]] [aa q (c6 p (.pointer (some ⟨a6,0,none⟩)) (.pointer (some ⟨bN,0,none⟩)) w seq cH) 116,aa a6 [.pointer (some ⟨p,0,none⟩),.pointer (some ⟨(Q 0),0,none⟩),.pointer (some ⟨(Q 1),0,none⟩),.int .i64 (a:Int)] 200,aa (Q a) (bp p (ad a)) 273,aa (Q (1-a)) (bp p (ad (1-a))) 273,aa p (bE d) 196,row (.slice (d).a.b1 (d).a.l.length (d).a.c) 42 1 (d).a.l.length ((df (d).a.l.length (d).g).flatMap de),row (.slice (d).b.b1 (d).b.l.length (d).b.c) 3 1 (d).b.l.length ((df (d).b.l.length (d).wr).flatMap ei),K] (fun v S=>v= .int .i64 (e4 d (a:Int) (ad a) (ad (1-a)) l.l).2.2∧S=[aa q (c6 p (gR (e4 d (a:Int) (ad a) (ad (1-a)) l.l).2.2 a6) (gR (e4 d (a:Int) (ad a) (ad (1-a)) l.l).2.2 bN) w seq cH) 116,aa a6 [.pointer (some ⟨p,0,none⟩),.pointer (some ⟨(Q 0),0,none⟩),.pointer (some ⟨(Q 1),0,none⟩),.int .i64 (a:Int)] 200,aa (Q a) (bp p (ad a)) 273,aa (Q (1-a)) (bp p (e4 d (a:Int) (ad a) (ad (1-a)) l.l).2.1) 273,aa p (bE (eU (e4 d (a:Int) (ad a) (ad (1-a)) l.l).1 (e4 d (a:Int) (ad a) (ad (1-a)) l.l).2.2)) 196,row (.slice (eU (e4 d (a:Int) (ad a) (ad (1-a)) l.l).1 (e4 d (a:Int) (ad a) (ad (1-a)) l.l).2.2).a.b1 (eU (e4 d (a:Int) (ad a) (ad (1-a)) l.l).1 (e4 d (a:Int) (ad a) (ad (1-a)) l.l).2.2).a.l.length (eU (e4 d (a:Int) (ad a) (ad (1-a)) l.l).1 (e4 d (a:Int) (ad a) (ad (1-a)) l.l).2.2).a.c) 42 1 (eU (e4 d (a:Int) (ad a) (ad (1-a)) l.l).1 (e4 d (a:Int) (ad a) (ad (1-a)) l.l).2.2).a.l.length ((df (eU (e4 d (a:Int) (ad a) (ad (1-a)) l.l).1 (e4 d (a:Int) (ad a) (ad (1-a)) l.l).2.2).a.l.length (eU (e4 d (a:Int) (ad a) (ad (1-a)) l.l).1 (e4 d (a:Int) (ad a) (ad (1-a)) l.l).2.2).g).flatMap de),row (.slice (eU (e4 d (a:Int) (ad a) (ad (1-a)) l.l).1 (e4 d (a:Int) (ad a) (ad (1-a)) l.l).2.2).b.b1 (eU (e4 d (a:Int) (ad a) (ad (1-a)) l.l).1 (e4 d (a:Int) (ad a) (ad (1-a)) l.l).2.2).b.l.length (eU (e4 d (a:Int) (ad a) (ad (1-a)) l.l).1 (e4 d (a:Int) (ad a) (ad (1-a)) l.l).2.2).b.c) 3 1 (eU (e4 d (a:Int) (ad a) (ad (1-a)) l.l).1 (e4 d (a:Int) (ad a) (ad (1-a)) l.l).2.2).b.l.length ((df (eU (e4 d (a:Int) (ad a) (ad (1-a)) l.l).1 (e4 d (a:Int) (ad a) (ad (1-a)) l.l).2.2).b.l.length (eU (e4 d (a:Int) (ad a) (ad (1-a)) l.l).1 (e4 d (a:Int) (ad a) (ad (1-a)) l.l).2.2).wr).flatMap ei),K]):=by
 refine dn 43 Tryz.func99 fun a4 ax=>?_
 have pE:1-a<2:=by omega
 refine ah ?_
 refine dt (au:=[.int .i64 10,.int .i64 0,.int .i64 0,.slice none 0 0,.slice l.b1 l.l.length l.c]) fun ay=>?_
 refine tf ?_
 refine bX ?_ ?_<;>intro ab
 ·exact bW ab
 refine cW ?_
 refine aT ?_ ?_<;>intro af
 ·refine c8 [aa q (c6 p (.pointer (some ⟨a6,0,none⟩)) (.pointer (some ⟨bN,0,none⟩)) w seq cH) 116,aa ay [.int .i64 10,.int .i64 0,.int .i64 0,.slice none 0 0,.slice l.b1 l.l.length l.c] 63] ae aC ?_
  refine aN [0,1,2,3,4,5] ?_
  refine e6 6 (XX a6 p Q d h ad a aO (a:Int) (.inr rfl) (aj a aO) (aj (1-a) (by omega)) (by omega) l aJ) ?_
  refine c7 [7,99] ?_
  refine aT ?_ ?_<;>intro az
  ·refine e1 (Ao q p w seq cH (.pointer (some ⟨a6,0,none⟩)) (.pointer (some ⟨bN,0,none⟩)) (e4 d (a:Int) (ad a) (ad (1-a)) l.l).1) ?_
   have l1:=MH (z:=(a:Int)) (k:=ad a) (l:=l.l) h (aj (1-a) al) al
   rw [show(row (.slice d.b.b1 d.b.l.length d.b.c) 3 1 d.b.l.length ((df d.b.l.length d.wr).flatMap ei):ao B)=row (.slice ((e4 d (a:Int) (ad a) (ad (1-a)) l.l).1).b.b1 ((e4 d (a:Int) (ad a) (ad (1-a)) l.l).1).b.l.length ((e4 d (a:Int) (ad a) (ad (1-a)) l.l).1).b.c) 3 1 ((e4 d (a:Int) (ad a) (ad (1-a)) l.l).1).b.l.length ((df ((e4 d (a:Int) (ad a) (ad (1-a)) l.l).1).b.l.length ((e4 d (a:Int) (ad a) (ad (1-a)) l.l).1).wr).flatMap ei)from by rw [l1.1,l1.2]]
   have dc:eU (e4 d (a:Int) (ad a) (ad (1-a)) l.l).1 (e4 d (a:Int) (ad a) (ad (1-a)) l.l).2.2=(ga (e4 d (a:Int) (ad a) (ad (1-a)) l.l).1 false):=if_pos cl
   have dd:∀b,gR (e4 d (a:Int) (ad a) (ad (1-a)) l.l).2.2 b= .pointer none:=fun b=>if_pos cl
   rw [dc,dd,dd]
   exact bA
  have l1:=MH (z:=(a:Int)) (k:=ad a) (l:=l.l) h (aj (1-a) al) al
  rw [show(row (.slice d.b.b1 d.b.l.length d.b.c) 3 1 d.b.l.length ((df d.b.l.length d.wr).flatMap ei):ao B)=row (.slice ((e4 d (a:Int) (ad a) (ad (1-a)) l.l).1).b.b1 ((e4 d (a:Int) (ad a) (ad (1-a)) l.l).1).b.l.length ((e4 d (a:Int) (ad a) (ad (1-a)) l.l).1).b.c) 3 1 ((e4 d (a:Int) (ad a) (ad (1-a)) l.l).1).b.l.length ((df ((e4 d (a:Int) (ad a) (ad (1-a)) l.l).1).b.l.length ((e4 d (a:Int) (ad a) (ad (1-a)) l.l).1).wr).flatMap ei)from by rw [l1.1,l1.2]]
  have dc:eU (e4 d (a:Int) (ad a) (ad (1-a)) l.l).1 (e4 d (a:Int) (ad a) (ad (1-a)) l.l).2.2=(e4 d (a:Int) (ad a) (ad (1-a)) l.l).1:=if_neg cl
  have dd:∀b,gR (e4 d (a:Int) (ad a) (ad (1-a)) l.l).2.2 b= .pointer (some ⟨b,0,none⟩):=fun b=>if_neg cl
  rw [dc,dd,dd]
  exact bA
 exact bW af
theorem SY(q p a6 bN:Nat)(Q:Nat→Nat)(w:ai (BitVec 32))(seq:BitVec 32)(cH:Int)(d:a2)(h:cZ d)(ad:Nat→bL)(aj:∀i,i<2→dj d (ad i))(a:Nat)(aO:a<2)(fA:d.ops≤800000000):dQ Tryz.prog B 99 [.pointer (some ⟨q,0,none⟩),.agg #[.int .i64 11,.int .i64 0,.int .i64 0,.slice none 0 0,.slice none 0 0]] [aa q (c6 p (.pointer (some ⟨a6,0,none⟩)) (.pointer (some ⟨bN,0,none⟩)) w seq cH) 116,aa a6 [.pointer (some ⟨p,0,none⟩),.pointer (some ⟨(Q 0),0,none⟩),.pointer (some ⟨(Q 1),0,none⟩),.int .i64 (a:Int)] 200,aa (Q a) (bp p (ad a)) 273,aa (Q (1-a)) (bp p (ad (1-a))) 273,aa p (bE d) 196,row (.slice (d).a.b1 (d).a.l.length (d).a.c) 42 1 (d).a.l.length ((df (d).a.l.length (d).g).flatMap de),row (.slice (d).b.b1 (d).b.l.length (d).b.c) 3 1 (d).b.l.length ((df (d).b.l.length (d).wr).flatMap ei)] (fun v S=>v= .int .i64 (eM d (a:Int) ad a).2.2∧S=[aa q (c6 p (gR (eM d (a:Int) ad a).2.2 a6) (gR (eM d (a:Int) ad a).2.2 bN) w seq cH) 116,aa a6 [.pointer (some ⟨p,0,none⟩),.pointer (some ⟨(Q 0),0,none⟩),.pointer (some ⟨(Q 1),0,none⟩),.int .i64 (a:Int)] 200,aa (Q a) (bp p (ad a)) 273,aa (Q (1-a)) (bp p (eM d (a:Int) ad a).2.1) 273,aa p (bE (eU (eM d (a:Int) ad a).1 (eM d (a:Int) ad a).2.2)) 196,row (.slice (eU (eM d (a:Int) ad a).1 (eM d (a:Int) ad a).2.2).a.b1 (eU (eM d (a:Int) ad a).1 (eM d (a:Int) ad a).2.2).a.l.length (eU (eM d (a:Int) ad a).1 (eM d (a:Int) ad a).2.2).a.c) 42 1 (eU (eM d (a:Int) ad a).1 (eM d (a:Int) ad a).2.2).a.l.length ((df (eU (eM d (a:Int) ad a).1 (eM d (a:Int) ad a).2.2).a.l.length (eU (eM d (a:Int) ad a).1 (eM d (a:Int) ad a).2.2).g).flatMap de),row (.slice (eU (eM d (a:Int) ad a).1 (eM d (a:Int) ad a).2.2).b.b1 (eU (eM d (a:Int) ad a).1 (eM d (a:Int) ad a).2.2).b.l.length (eU (eM d (a:Int) ad a).1 (eM d (a:Int) ad a).2.2).b.c) 3 1 (eU (eM d (a:Int) ad a).1 (eM d (a:Int) ad a).2.2).b.l.length ((df (eU (eM d (a:Int) ad a).1 (eM d (a:Int) ad a).2.2).b.l.length (eU (eM d (a:Int) ad a).1 (eM d (a:Int) ad a).2.2).wr).flatMap ei)]):=by
 refine dn 43 Tryz.func99 fun a4 ax=>?_
 have pE:1-a<2:=by omega
 refine ah ?_
 refine dt (au:=[.int .i64 11,.int .i64 0,.int .i64 0,.slice none 0 0,.slice none 0 0]) fun ay=>?_
 refine tf ?_
 refine bX ?_ ?_<;>intro ab
 ·exact bW ab
 refine cW ?_
 refine bX ?_ ?_<;>intro af
 ·exact bW af
 refine cW ?_
 refine aT ?_ ?_<;>intro az
 ·refine e1 (Su a6 p Q d h ad a aO (a:Int) (.inr rfl) aj fA) ?_
  refine aT ?_ ?_<;>intro a5
  ·refine e1 (Ao q p w seq cH (.pointer (some ⟨a6,0,none⟩)) (.pointer (some ⟨bN,0,none⟩)) (eM d (a:Int) ad a).1) ?_
   have l1:=J3 (z:=(a:Int)) (ad:=ad) (a:=a) h (aj (1-a) al) fA
   rw [show(row (.slice d.b.b1 d.b.l.length d.b.c) 3 1 d.b.l.length ((df d.b.l.length d.wr).flatMap ei):ao B)=row (.slice ((eM d (a:Int) ad a).1).b.b1 ((eM d (a:Int) ad a).1).b.l.length ((eM d (a:Int) ad a).1).b.c) 3 1 ((eM d (a:Int) ad a).1).b.l.length ((df ((eM d (a:Int) ad a).1).b.l.length ((eM d (a:Int) ad a).1).wr).flatMap ei)from by rw [l1.1,l1.2]]
   have dc:eU (eM d (a:Int) ad a).1 (eM d (a:Int) ad a).2.2=(ga (eM d (a:Int) ad a).1 false):=if_pos cl
   have dd:∀b,gR (eM d (a:Int) ad a).2.2 b= .pointer none:=fun b=>if_pos cl
   rw [dc,dd,dd]
   exact bA
  have l1:=J3 (z:=(a:Int)) (ad:=ad) (a:=a) h (aj (1-a) al) fA
  rw [show(row (.slice d.b.b1 d.b.l.length d.b.c) 3 1 d.b.l.length ((df d.b.l.length d.wr).flatMap ei):ao B)=row (.slice ((eM d (a:Int) ad a).1).b.b1 ((eM d (a:Int) ad a).1).b.l.length ((eM d (a:Int) ad a).1).b.c) 3 1 ((eM d (a:Int) ad a).1).b.l.length ((df ((eM d (a:Int) ad a).1).b.l.length ((eM d (a:Int) ad a).1).wr).flatMap ei)from by rw [l1.1,l1.2]]
  have dc:eU (eM d (a:Int) ad a).1 (eM d (a:Int) ad a).2.2=(eM d (a:Int) ad a).1:=if_neg cl
  have dd:∀b,gR (eM d (a:Int) ad a).2.2 b= .pointer (some ⟨b,0,none⟩):=fun b=>if_neg cl
  rw [dc,dd,dd]
  exact bA
 exact bW az
theorem RT(q p a6 bN:Nat)(Q:Nat→Nat)(w:ai (BitVec 32))(seq:BitVec 32)(cH:Int)(d:a2)(h:cZ d)(ad:Nat→bL)(aj:∀i,i<2→dj d (ad i))(a:Nat)(aO:a<2)(fA:d.ops≤800000000):dQ Tryz.prog B 99 [.pointer (some ⟨q,0,none⟩),.agg #[.int .i64 12,.int .i64 0,.int .i64 0,.slice none 0 0,.slice none 0 0]] [aa q (c6 p (.pointer (some ⟨a6,0,none⟩)) (.pointer (some ⟨bN,0,none⟩)) w seq cH) 116,aa a6 [.pointer (some ⟨p,0,none⟩),.pointer (some ⟨(Q 0),0,none⟩),.pointer (some ⟨(Q 1),0,none⟩),.int .i64 (a:Int)] 200,aa (Q a) (bp p (ad a)) 273,aa (Q (1-a)) (bp p (ad (1-a))) 273,aa p (bE d) 196,row (.slice (d).a.b1 (d).a.l.length (d).a.c) 42 1 (d).a.l.length ((df (d).a.l.length (d).g).flatMap de),row (.slice (d).b.b1 (d).b.l.length (d).b.c) 3 1 (d).b.l.length ((df (d).b.l.length (d).wr).flatMap ei)] (fun v S=>v= .int .i64 (eB d (a:Int) (ad a)).2∧S=[aa q (c6 p (gR (eB d (a:Int) (ad a)).2 a6) (gR (eB d (a:Int) (ad a)).2 bN) w seq cH) 116,aa a6 [.pointer (some ⟨p,0,none⟩),.pointer (some ⟨(Q 0),0,none⟩),.pointer (some ⟨(Q 1),0,none⟩),.int .i64 (a:Int)] 200,aa (Q a) (bp p (ad a)) 273,aa (Q (1-a)) (bp p (ad (1-a))) 273,aa p (bE (eU (eB d (a:Int) (ad a)).1 (eB d (a:Int) (ad a)).2)) 196,row (.slice (eU (eB d (a:Int) (ad a)).1 (eB d (a:Int) (ad a)).2).a.b1 (eU (eB d (a:Int) (ad a)).1 (eB d (a:Int) (ad a)).2).a.l.length (eU (eB d (a:Int) (ad a)).1 (eB d (a:Int) (ad a)).2).a.c) 42 1 (eU (eB d (a:Int) (ad a)).1 (eB d (a:Int) (ad a)).2).a.l.length ((df (eU (eB d (a:Int) (ad a)).1 (eB d (a:Int) (ad a)).2).a.l.length (eU (eB d (a:Int) (ad a)).1 (eB d (a:Int) (ad a)).2).g).flatMap de),row (.slice (eU (eB d (a:Int) (ad a)).1 (eB d (a:Int) (ad a)).2).b.b1 (eU (eB d (a:Int) (ad a)).1 (eB d (a:Int) (ad a)).2).b.l.length (eU (eB d (a:Int) (ad a)).1 (eB d (a:Int) (ad a)).2).b.c) 3 1 (eU (eB d (a:Int) (ad a)).1 (eB d (a:Int) (ad a)).2).b.l.length ((df (eU (eB d (a:Int) (ad a)).1 (eB d (a:Int) (ad a)).2).b.l.length (eU (eB d (a:Int) (ad a)).1 (eB d (a:Int) (ad a)).2).wr).flatMap ei)]):=by
 refine dn 43 Tryz.func99 fun a4 ax=>?_
 have pE:1-a<2:=by omega
 refine ah ?_
 refine dt (au:=[.int .i64 12,.int .i64 0,.int .i64 0,.slice none 0 0,.slice none 0 0]) fun ay=>?_
 refine tf ?_
 refine bX ?_ ?_<;>intro ab
 ·exact bW ab
 refine cW ?_
 refine bX ?_ ?_<;>intro af
 ·exact bW af
 refine cW ?_
 refine bX ?_ ?_<;>intro az
 ·exact bW az
 refine cW ?_
 refine aT ?_ ?_<;>intro a5
 ·refine e1 (RA a6 p Q d h ad a aO (a:Int) (.inr rfl) (aj a aO) (by omega)) ?_
  refine aT ?_ ?_<;>intro cd
  ·refine e1 (Ao q p w seq cH (.pointer (some ⟨a6,0,none⟩)) (.pointer (some ⟨bN,0,none⟩)) (eB d (a:Int) (ad a)).1) ?_
   have l1:=JH (z:=(a:Int)) (k:=ad a) h al
   rw [show(row (.slice d.b.b1 d.b.l.length d.b.c) 3 1 d.b.l.length ((df d.b.l.length d.wr).flatMap ei):ao B)=row (.slice ((eB d (a:Int) (ad a)).1).b.b1 ((eB d (a:Int) (ad a)).1).b.l.length ((eB d (a:Int) (ad a)).1).b.c) 3 1 ((eB d (a:Int) (ad a)).1).b.l.length ((df ((eB d (a:Int) (ad a)).1).b.l.length ((eB d (a:Int) (ad a)).1).wr).flatMap ei)from by rw [l1.1,l1.2]]
   have dc:eU (eB d (a:Int) (ad a)).1 (eB d (a:Int) (ad a)).2=(ga (eB d (a:Int) (ad a)).1 false):=if_pos cl
   have dd:∀b,gR (eB d (a:Int) (ad a)).2 b= .pointer none:=fun b=>if_pos cl
   rw [dc,dd,dd]
   exact bA
  have l1:=JH (z:=(a:Int)) (k:=ad a) h al
  rw [show(row (.slice d.b.b1 d.b.l.length d.b.c) 3 1 d.b.l.length ((df d.b.l.length d.wr).flatMap ei):ao B)=row (.slice ((eB d (a:Int) (ad a)).1).b.b1 ((eB d (a:Int) (ad a)).1).b.l.length ((eB d (a:Int) (ad a)).1).b.c) 3 1 ((eB d (a:Int) (ad a)).1).b.l.length ((df ((eB d (a:Int) (ad a)).1).b.l.length ((eB d (a:Int) (ad a)).1).wr).flatMap ei)from by rw [l1.1,l1.2]]
  have dc:eU (eB d (a:Int) (ad a)).1 (eB d (a:Int) (ad a)).2=(eB d (a:Int) (ad a)).1:=if_neg cl
  have dd:∀b,gR (eB d (a:Int) (ad a)).2 b= .pointer (some ⟨b,0,none⟩):=fun b=>if_neg cl
  rw [dc,dd,dd]
  exact bA
 exact bW a5
theorem Up(q p a6 bN:Nat)(Q:Nat→Nat)(w:ai (BitVec 32))(seq:BitVec 32)(cH:Int)(d:a2)(h:cZ d)(ad:Nat→bL)(aj:∀i,i<2→dj d (ad i))(a:Nat)(aO:a<2)(fA:d.ops≤800000000):aS B 50 [ag q,.agg #[U 9,U 0,U 0,.slice none 0 0,.slice none 0 0]] [aa q (c6 p (ag a6) (ag bN) w seq cH) 116,aa a6 [ag p,ag (Q 0),ag (Q 1),U (a:Int)] 200,aa (Q a) (bp p (ad a)) 273,aa (Q (1-a)) (bp p (ad (1-a))) 273,aa p (bE d) 196,b5 (d),dT (d)] (fun v S=>v= .agg #[U (e3 d (a:Int) (ad a) (ad (1-a))).2.2,U 0]∧S=[aa q (c6 p (gR (e3 d (a:Int) (ad a) (ad (1-a))).2.2 a6) (gR (e3 d (a:Int) (ad a) (ad (1-a))).2.2 bN) w seq cH) 116,aa a6 [ag p,ag (Q 0),ag (Q 1),U (a:Int)] 200,aa (Q a) (bp p (ad a)) 273,aa (Q (1-a)) (bp p (e3 d (a:Int) (ad a) (ad (1-a))).2.1) 273,aa p (bE (eU (e3 d (a:Int) (ad a) (ad (1-a))).1 (e3 d (a:Int) (ad a) (ad (1-a))).2.2)) 196,b5 (eU (e3 d (a:Int) (ad a) (ad (1-a))).1 (e3 d (a:Int) (ad a) (ad (1-a))).2.2),dT (eU (e3 d (a:Int) (ad a) (ad (1-a))).1 (e3 d (a:Int) (ad a) (ad (1-a))).2.2)]):=by
 refine bD 93 Tryz.func50 fun a4 ax=>?_
 refine dt (au:=[U 9,U 0,U 0,.slice none 0 0,.slice none 0 0]) fun ay=>?_
 refine ds fun aM=>?_
 refine uN ?_
 refine bX ?_ ?_<;>intro ab
 ·exact bW ab
 refine cW ?_
 refine bX ?_ ?_<;>intro af
 ·exact bW af
 refine cW ?_
 refine bX ?_ ?_<;>intro az
 ·exact bW az
 refine cW ?_
 refine bX ?_ ?_<;>intro a5
 ·exact bW a5
 refine cW ?_
 refine bX ?_ ?_<;>intro cd
 ·exact bW cd
 refine cW ?_
 refine bX ?_ ?_<;>intro c5
 ·exact bW c5
 refine cW ?_
 refine bX ?_ ?_<;>intro fo
 ·exact bW fo
 refine cW ?_
 refine bX ?_ ?_<;>intro gx
 ·exact bW gx
 refine ho ?_
 refine cM [U 9,U 0,U 0,.slice none 0 0,.slice none 0 0] ?_
 refine e1 (Uo q p a6 bN Q w seq cH d h ad aj a aO fA) ?_
 refine cc (.nil _) (gA rfl rfl ar ae (by rfl)) ?_
 exact bA
theorem Uq(q p a6 bN:Nat)(Q:Nat→Nat)(w:ai (BitVec 32))(seq:BitVec 32)(cH:Int)(d:a2)(h:cZ d)(ad:Nat→bL)(aj:∀i,i<2→dj d (ad i))(a:Nat)(aO:a<2)(fA:d.ops≤800000000):aS B 20 [ag q,.agg #[U 9,U 0,U 0,.slice none 0 0,.slice none 0 0]] [aa q (c6 p (ag a6) (ag bN) w seq cH) 116,aa a6 [ag p,ag (Q 0),ag (Q 1),U (a:Int)] 200,aa (Q a) (bp p (ad a)) 273,aa (Q (1-a)) (bp p (ad (1-a))) 273,aa p (bE d) 196,b5 (d),dT (d)] (fun v S=>v= .agg #[U (e3 d (a:Int) (ad a) (ad (1-a))).2.2,U 0]∧S=[aa q (c6 p (gR (e3 d (a:Int) (ad a) (ad (1-a))).2.2 a6) (gR (e3 d (a:Int) (ad a) (ad (1-a))).2.2 bN) w seq cH) 116,aa a6 [ag p,ag (Q 0),ag (Q 1),U (a:Int)] 200,aa (Q a) (bp p (ad a)) 273,aa (Q (1-a)) (bp p (e3 d (a:Int) (ad a) (ad (1-a))).2.1) 273,aa p (bE (eU (e3 d (a:Int) (ad a) (ad (1-a))).1 (e3 d (a:Int) (ad a) (ad (1-a))).2.2)) 196,b5 (eU (e3 d (a:Int) (ad a) (ad (1-a))).1 (e3 d (a:Int) (ad a) (ad (1-a))).2.2),dT (eU (e3 d (a:Int) (ad a) (ad (1-a))).1 (e3 d (a:Int) (ad a) (ad (1-a))).2.2)]):=by
 refine bD 46 Tryz.func20 fun a4 ax=>?_
 refine dt (au:=[U 9,U 0,U 0,.slice none 0 0,.slice none 0 0]) fun ay=>?_
 refine ds fun aM=>?_
 refine kZ ?_
 refine kg (t:=8) rfl (fun ab=>?_) (fun ab=>?_)
 ·replace ab:=fb ab
  exact bW ab
 replace ab:=fb ab
 refine cW ?_
 refine bX ?_ ?_<;>intro af
 ·exact bW af
 refine ra ?_
 refine bX ?_ ?_<;>intro az
 ·exact bW az
 refine cW ?_
 refine bX ?_ ?_<;>intro a5
 ·exact bW a5
 refine cW ?_
 refine bX ?_ ?_<;>intro cd
 ·exact bW cd
 refine tf ?_
 refine cM [U 9,U 0,U 0,.slice none 0 0,.slice none 0 0] ?_
 refine e1 (Up q p a6 bN Q w seq cH d h ad aj a aO fA) ?_
 refine cc (.nil _) (gA rfl rfl ar ae (by rfl)) ?_
 exact bA
theorem YB(q p a6 bN:Nat)(Q:Nat→Nat)(w:ai (BitVec 32))(seq:BitVec 32)(cH:Int)(d:a2)(h:cZ d)(ad:Nat→bL)(aj:∀i,i<2→dj d (ad i))(a:Nat)(aO:a<2)(fA:d.ops≤800000000)(l:ai (BitVec 32))(aJ:c1 K l.bl (l.l.flatMap de)):aS B 50 [ag q,.agg #[U 10,U 0,U 0,.slice none 0 0,aw l]] [aa q (c6 p (ag a6) (ag bN) w seq cH) 116,aa a6 [ag p,ag (Q 0),ag (Q 1),U (a:Int)] 200,aa (Q a) (bp p (ad a)) 273,aa (Q (1-a)) (bp p (ad (1-a))) 273,aa p (bE d) 196,b5 (d),dT (d),K] (fun v S=>v= .agg #[U (e4 d (a:Int) (ad a) (ad (1-a)) l.l).2.2,U 0]∧S=[aa q (c6 p (gR (e4 d (a:Int) (ad a) (ad (1-a)) l.l).2.2 a6) (gR (e4 d (a:Int) (ad a) (ad (1-a)) l.l).2.2 bN) w seq cH) 116,aa a6 [ag p,ag (Q 0),ag (Q 1),U (a:Int)] 200,aa (Q a) (bp p (ad a)) 273,aa (Q (1-a)) (bp p (e4 d (a:Int) (ad a) (ad (1-a)) l.l).2.1) 273,aa p (bE (eU (e4 d (a:Int) (ad a) (ad (1-a)) l.l).1 (e4 d (a:Int) (ad a) (ad (1-a)) l.l).2.2)) 196,b5 (eU (e4 d (a:Int) (ad a) (ad (1-a)) l.l).1 (e4 d (a:Int) (ad a) (ad (1-a)) l.l).2.2),dT (eU (e4 d (a:Int) (ad a) (ad (1-a)) l.l).1 (e4 d (a:Int) (ad a) (ad (1-a)) l.l).2.2),K]):=by
 refine bD 93 Tryz.func50 fun a4 ax=>?_
 refine dt (au:=[U 10,U 0,U 0,.slice none 0 0,aw l]) fun ay=>?_
 refine ds fun aM=>?_
 refine uN ?_
 refine bX ?_ ?_<;>intro ab
 ·exact bW ab
 refine cW ?_
 refine bX ?_ ?_<;>intro af
 ·exact bW af
 refine cW ?_
 refine bX ?_ ?_<;>intro az
 ·exact bW az
 refine cW ?_
 refine bX ?_ ?_<;>intro a5
 ·exact bW a5
 refine cW ?_
 refine bX ?_ ?_<;>intro cd
 ·exact bW cd
 refine cW ?_
 refine bX ?_ ?_<;>intro c5
 ·exact bW c5
 refine cW ?_
 refine bX ?_ ?_<;>intro fo
 ·exact bW fo
 refine cW ?_
 refine bX ?_ ?_<;>intro gx
 ·exact bW gx
 refine ho ?_
 refine cM [U 10,U 0,U 0,.slice none 0 0,aw l] ?_
 refine e1 (YA q p a6 bN Q w seq cH d h ad aj a aO fA l aJ) ?_
 refine cc (.nil _) (gA rfl rfl ar ae (by rfl)) ?_
 exact bA
theorem YC(q p a6 bN:Nat)(Q:Nat→Nat)(w:ai (BitVec 32))(seq:BitVec 32)(cH:Int)(d:a2)(h:cZ d)(ad:Nat→bL)(aj:∀i,i<2→dj d (ad i))(a:Nat)(aO:a<2)(fA:d.ops≤800000000)(l:ai (BitVec 32))(aJ:c1 K l.bl (l.l.flatMap de)):aS B 20 [ag q,.agg #[U 10,U 0,U 0,.slice none 0 0,aw l]] [aa q (c6 p (ag a6) (ag bN) w seq cH) 116,aa a6 [ag p,ag (Q 0),ag (Q 1),U (a:Int)] 200,aa (Q a) (bp p (ad a)) 273,aa (Q (1-a)) (bp p (ad (1-a))) 273,aa p (bE d) 196,b5 (d),dT (d),K] (fun v S=>v= .agg #[U (e4 d (a:Int) (ad a) (ad (1-a)) l.l).2.2,U 0]∧S=[aa q (c6 p (gR (e4 d (a:Int) (ad a) (ad (1-a)) l.l).2.2 a6) (gR (e4 d (a:Int) (ad a) (ad (1-a)) l.l).2.2 bN) w seq cH) 116,aa a6 [ag p,ag (Q 0),ag (Q 1),U (a:Int)] 200,aa (Q a) (bp p (ad a)) 273,aa (Q (1-a)) (bp p (e4 d (a:Int) (ad a) (ad (1-a)) l.l).2.1) 273,aa p (bE (eU (e4 d (a:Int) (ad a) (ad (1-a)) l.l).1 (e4 d (a:Int) (ad a) (ad (1-a)) l.l).2.2)) 196,b5 (eU (e4 d (a:Int) (ad a) (ad (1-a)) l.l).1 (e4 d (a:Int) (ad a) (ad (1-a)) l.l).2.2),dT (eU (e4 d (a:Int) (ad a) (ad (1-a)) l.l).1 (e4 d (a:Int) (ad a) (ad (1-a)) l.l).2.2),K]):=by
 refine bD 46 Tryz.func20 fun a4 ax=>?_
 refine dt (au:=[U 10,U 0,U 0,.slice none 0 0,aw l]) fun ay=>?_
 refine ds fun aM=>?_
 refine kZ ?_
 refine kg (t:=8) rfl (fun ab=>?_) (fun ab=>?_)
 ·replace ab:=fb ab
  exact bW ab
 replace ab:=fb ab
 refine cW ?_
 refine bX ?_ ?_<;>intro af
 ·exact bW af
 refine ra ?_
 refine bX ?_ ?_<;>intro az
 ·exact bW az
 refine cW ?_
 refine bX ?_ ?_<;>intro a5
 ·exact bW a5
 refine cW ?_
 refine bX ?_ ?_<;>intro cd
 ·exact bW cd
 refine tf ?_
 refine cM [U 10,U 0,U 0,.slice none 0 0,aw l] ?_
 refine e1 (YB q p a6 bN Q w seq cH d h ad aj a aO fA l aJ) ?_
 refine cc (.nil _) (gA rfl rfl ar ae (by rfl)) ?_
 exact bA
theorem SZ(q p a6 bN:Nat)(Q:Nat→Nat)(w:ai (BitVec 32))(seq:BitVec 32)(cH:Int)(d:a2)(h:cZ d)(ad:Nat→bL)(aj:∀i,i<2→dj d (ad i))(a:Nat)(aO:a<2)(fA:d.ops≤800000000):aS B 50 [ag q,.agg #[U 11,U 0,U 0,.slice none 0 0,.slice none 0 0]] [aa q (c6 p (ag a6) (ag bN) w seq cH) 116,aa a6 [ag p,ag (Q 0),ag (Q 1),U (a:Int)] 200,aa (Q a) (bp p (ad a)) 273,aa (Q (1-a)) (bp p (ad (1-a))) 273,aa p (bE d) 196,b5 (d),dT (d)] (fun v S=>v= .agg #[U (eM d (a:Int) ad a).2.2,U 0]∧S=[aa q (c6 p (gR (eM d (a:Int) ad a).2.2 a6) (gR (eM d (a:Int) ad a).2.2 bN) w seq cH) 116,aa a6 [ag p,ag (Q 0),ag (Q 1),U (a:Int)] 200,aa (Q a) (bp p (ad a)) 273,aa (Q (1-a)) (bp p (eM d (a:Int) ad a).2.1) 273,aa p (bE (eU (eM d (a:Int) ad a).1 (eM d (a:Int) ad a).2.2)) 196,b5 (eU (eM d (a:Int) ad a).1 (eM d (a:Int) ad a).2.2),dT (eU (eM d (a:Int) ad a).1 (eM d (a:Int) ad a).2.2)]):=by
 refine bD 93 Tryz.func50 fun a4 ax=>?_
 refine dt (au:=[U 11,U 0,U 0,.slice none 0 0,.slice none 0 0]) fun ay=>?_
 refine ds fun aM=>?_
 refine uN ?_
 refine bX ?_ ?_<;>intro ab
 ·exact bW ab
 refine cW ?_
 refine bX ?_ ?_<;>intro af
 ·exact bW af
 refine cW ?_
 refine bX ?_ ?_<;>intro az
 ·exact bW az
 refine cW ?_
 refine bX ?_ ?_<;>intro a5
 ·exact bW a5
 refine cW ?_
 refine bX ?_ ?_<;>intro cd
 ·exact bW cd
 refine cW ?_
 refine bX ?_ ?_<;>intro c5
 ·exact bW c5
 refine cW ?_
 refine bX ?_ ?_<;>intro fo
 ·exact bW fo
 refine cW ?_
 refine bX ?_ ?_<;>intro gx
 ·exact bW gx
 refine ho ?_
 refine cM [U 11,U 0,U 0,.slice none 0 0,.slice none 0 0] ?_
 refine e1 (SY q p a6 bN Q w seq cH d h ad aj a aO fA) ?_
 refine cc (.nil _) (gA rfl rfl ar ae (by rfl)) ?_
 exact bA
theorem S0(q p a6 bN:Nat)(Q:Nat→Nat)(w:ai (BitVec 32))(seq:BitVec 32)(cH:Int)(d:a2)(h:cZ d)(ad:Nat→bL)(aj:∀i,i<2→dj d (ad i))(a:Nat)(aO:a<2)(fA:d.ops≤800000000):aS B 20 [ag q,.agg #[U 11,U 0,U 0,.slice none 0 0,.slice none 0 0]] [aa q (c6 p (ag a6) (ag bN) w seq cH) 116,aa a6 [ag p,ag (Q 0),ag (Q 1),U (a:Int)] 200,aa (Q a) (bp p (ad a)) 273,aa (Q (1-a)) (bp p (ad (1-a))) 273,aa p (bE d) 196,b5 (d),dT (d)] (fun v S=>v= .agg #[U (eM d (a:Int) ad a).2.2,U 0]∧S=[aa q (c6 p (gR (eM d (a:Int) ad a).2.2 a6) (gR (eM d (a:Int) ad a).2.2 bN) w seq cH) 116,aa a6 [ag p,ag (Q 0),ag (Q 1),U (a:Int)] 200,aa (Q a) (bp p (ad a)) 273,aa (Q (1-a)) (bp p (eM d (a:Int) ad a).2.1) 273,aa p (bE (eU (eM d (a:Int) ad a).1 (eM d (a:Int) ad a).2.2)) 196,b5 (eU (eM d (a:Int) ad a).1 (eM d (a:Int) ad a).2.2),dT (eU (eM d (a:Int) ad a).1 (eM d (a:Int) ad a).2.2)]):=by
 refine bD 46 Tryz.func20 fun a4 ax=>?_
 refine dt (au:=[U 11,U 0,U 0,.slice none 0 0,.slice none 0 0]) fun ay=>?_
 refine ds fun aM=>?_
 refine kZ ?_
 refine kg (t:=8) rfl (fun ab=>?_) (fun ab=>?_)
 ·replace ab:=fb ab
  exact bW ab
 replace ab:=fb ab
 refine cW ?_
 refine bX ?_ ?_<;>intro af
 ·exact bW af
 refine ra ?_
 refine bX ?_ ?_<;>intro az
 ·exact bW az
 refine cW ?_
 refine bX ?_ ?_<;>intro a5
 ·exact bW a5
 refine cW ?_
 refine bX ?_ ?_<;>intro cd
 ·exact bW cd
 refine tf ?_
 refine cM [U 11,U 0,U 0,.slice none 0 0,.slice none 0 0] ?_
 refine e1 (SZ q p a6 bN Q w seq cH d h ad aj a aO fA) ?_
 refine cc (.nil _) (gA rfl rfl ar ae (by rfl)) ?_
 exact bA
theorem RU(q p a6 bN:Nat)(Q:Nat→Nat)(w:ai (BitVec 32))(seq:BitVec 32)(cH:Int)(d:a2)(h:cZ d)(ad:Nat→bL)(aj:∀i,i<2→dj d (ad i))(a:Nat)(aO:a<2)(fA:d.ops≤800000000):aS B 50 [ag q,.agg #[U 12,U 0,U 0,.slice none 0 0,.slice none 0 0]] [aa q (c6 p (ag a6) (ag bN) w seq cH) 116,aa a6 [ag p,ag (Q 0),ag (Q 1),U (a:Int)] 200,aa (Q a) (bp p (ad a)) 273,aa (Q (1-a)) (bp p (ad (1-a))) 273,aa p (bE d) 196,b5 (d),dT (d)] (fun v S=>v= .agg #[U (eB d (a:Int) (ad a)).2,U 0]∧S=[aa q (c6 p (gR (eB d (a:Int) (ad a)).2 a6) (gR (eB d (a:Int) (ad a)).2 bN) w seq cH) 116,aa a6 [ag p,ag (Q 0),ag (Q 1),U (a:Int)] 200,aa (Q a) (bp p (ad a)) 273,aa (Q (1-a)) (bp p (ad (1-a))) 273,aa p (bE (eU (eB d (a:Int) (ad a)).1 (eB d (a:Int) (ad a)).2)) 196,b5 (eU (eB d (a:Int) (ad a)).1 (eB d (a:Int) (ad a)).2),dT (eU (eB d (a:Int) (ad a)).1 (eB d (a:Int) (ad a)).2)]):=by
 refine bD 93 Tryz.func50 fun a4 ax=>?_
 refine dt (au:=[U 12,U 0,U 0,.slice none 0 0,.slice none 0 0]) fun ay=>?_
 refine ds fun aM=>?_
 refine uN ?_
 refine bX ?_ ?_<;>intro ab
 ·exact bW ab
 refine cW ?_
 refine bX ?_ ?_<;>intro af
 ·exact bW af
 refine cW ?_
 refine bX ?_ ?_<;>intro az
 ·exact bW az
 refine cW ?_
 refine bX ?_ ?_<;>intro a5
 ·exact bW a5
 refine cW ?_
 refine bX ?_ ?_<;>intro cd
 ·exact bW cd
 refine cW ?_
 refine bX ?_ ?_<;>intro c5
 ·exact bW c5
 refine cW ?_
 refine bX ?_ ?_<;>intro fo
 ·exact bW fo
 refine cW ?_
 refine bX ?_ ?_<;>intro gx
 ·exact bW gx
 refine ho ?_
 refine cM [U 12,U 0,U 0,.slice none 0 0,.slice none 0 0] ?_
 refine e1 (RT q p a6 bN Q w seq cH d h ad aj a aO fA) ?_
 refine cc (.nil _) (gA rfl rfl ar ae (by rfl)) ?_
 exact bA
theorem RV(q p a6 bN:Nat)(Q:Nat→Nat)(w:ai (BitVec 32))(seq:BitVec 32)(cH:Int)(d:a2)(h:cZ d)(ad:Nat→bL)(aj:∀i,i<2→dj d (ad i))(a:Nat)(aO:a<2)(fA:d.ops≤800000000):aS B 20 [ag q,.agg #[U 12,U 0,U 0,.slice none 0 0,.slice none 0 0]] [aa q (c6 p (ag a6) (ag bN) w seq cH) 116,aa a6 [ag p,ag (Q 0),ag (Q 1),U (a:Int)] 200,aa (Q a) (bp p (ad a)) 273,aa (Q (1-a)) (bp p (ad (1-a))) 273,aa p (bE d) 196,b5 (d),dT (d)] (fun v S=>v= .agg #[U (eB d (a:Int) (ad a)).2,U 0]∧S=[aa q (c6 p (gR (eB d (a:Int) (ad a)).2 a6) (gR (eB d (a:Int) (ad a)).2 bN) w seq cH) 116,aa a6 [ag p,ag (Q 0),ag (Q 1),U (a:Int)] 200,aa (Q a) (bp p (ad a)) 273,aa (Q (1-a)) (bp p (ad (1-a))) 273,aa p (bE (eU (eB d (a:Int) (ad a)).1 (eB d (a:Int) (ad a)).2)) 196,b5 (eU (eB d (a:Int) (ad a)).1 (eB d (a:Int) (ad a)).2),dT (eU (eB d (a:Int) (ad a)).1 (eB d (a:Int) (ad a)).2)]):=by
 refine bD 46 Tryz.func20 fun a4 ax=>?_
 refine dt (au:=[U 12,U 0,U 0,.slice none 0 0,.slice none 0 0]) fun ay=>?_
 refine ds fun aM=>?_
 refine kZ ?_
 refine kg (t:=8) rfl (fun ab=>?_) (fun ab=>?_)
 ·replace ab:=fb ab
  exact bW ab
 replace ab:=fb ab
 refine cW ?_
 refine bX ?_ ?_<;>intro af
 ·exact bW af
 refine ra ?_
 refine bX ?_ ?_<;>intro az
 ·exact bW az
 refine cW ?_
 refine bX ?_ ?_<;>intro a5
 ·exact bW a5
 refine cW ?_
 refine bX ?_ ?_<;>intro cd
 ·exact bW cd
 refine tf ?_
 refine cM [U 12,U 0,U 0,.slice none 0 0,.slice none 0 0] ?_
 refine e1 (RU q p a6 bN Q w seq cH d h ad aj a aO fA) ?_
 refine cc (.nil _) (gA rfl rfl ar ae (by rfl)) ?_
 exact bA
def oT(x:bQ):Bool:=!qn x&&decide (iU x.c=0)
theorem RW{α:Type}{a b:List α}{i:Nat}{u v:α}(h:a.take i=b.take i)(aO:a[i]?=some u)(bb:b[i]?=some v)(e:u=v):a.take (i+1)=b.take (i+1):=by
  rw [List.take_add_one,List.take_add_one,h,aO,bb,e]
theorem Om(a b:ai (BitVec 32)){xd xe:ao B}(aO:c1 xd a.bl (a.l.flatMap de))(bb:c1 xe b.bl (b.l.flatMap de)):aS B 21 [aw a,aw b] [xd,xe] (fun v S=>v= .bool (decide (a.l=b.l))∧S=[xd,xe]):=by
 refine bD 26 Tryz.func21 fun a4 ax=>?_
 refine aT ?_ ?_<;>intro ab
 ·exact bI ⟨by rw [decide_eq_false (fun q=>ab (by rw [q]))],rfl⟩
 refine dH (α:=Nat) (fun i=>i≤a.l.length∧a.l.take i=b.l.take i) (fun i=>[(5,U (i:Int)),(0,aw a),(1,aw b),(4,.bool false)]) (fun i=>[xd,xe]) (fun i=>a.l.length-i) 0 ?_ dD aC ?_
 ·exact⟨Nat.zero_le _,rfl⟩
 rintro i ⟨ak,bP⟩
 have su:=a.small
 have vc:=b.small
 refine ah ?_
 refine aT ?_ ?_<;>intro af
 ·obtain⟨u,Ek⟩:∃u,a.l[i]?=some u:=⟨_,List.getElem?_eq_getElem al⟩
  obtain⟨y,H6⟩:∃y,b.l[i]?=some y:=⟨_,List.getElem?_eq_getElem al⟩
  refine ah ?_
  refine c8 [xd,xe] ae aC ?_
  refine aN [0,1] ?_
  refine cy 2 rfl (h7 rfl rfl ae (a).en rfl al rfl) ?_
  refine bs 3 rfl (eO (aW:=de) (aH:=1) (i:=i) (k:=0) (fun _=>rfl) rfl ar aO ae Ek rfl) ?_
  refine aN [4,5] ?_
  refine cy 6 rfl (h7 rfl rfl ae (b).en rfl al rfl) ?_
  refine bs 7 rfl (eO (aW:=de) (aH:=1) (i:=i) (k:=0) (fun _=>rfl) rfl ar bb ae H6 rfl) ?_
  refine c7 [8,99] ?_
  refine aT ?_ ?_<;>intro az
  ·exact bI ⟨by rw [decide_eq_false (fun q=>by rw [q,H6]at Ek;have:=Option.some.inj Ek;subst this;exact az rfl)],rfl⟩
  exact fX (i+1) ⟨by omega,RW bP Ek H6 (BitVec.eq_of_toNat_eq al)⟩
 exact bI ⟨by rw [decide_eq_true (show a.l=b.l by rwa [List.take_of_length_le al,List.take_of_length_le al]at bP)],rfl⟩
theorem YD:aS B 40 [] [] (fun v S=>v= .agg #[U 10,U 300,U 1000]∧S=[]):=by
 refine bD 2 Tryz.func40 fun a4 ax=>?_
 refine da fun ay=>?_
 refine cc (.nil _) (gA rfl rfl ar ae (by rfl)) ?_
 exact bA
theorem YE(x:bQ)(av:x.In K)(l5:oT x=true){aq:ao B}(bc:dL aq)(aD:dS aq):aS B 13 [x.v] [K,aq] (fun v S=>∃a:ai (BitVec 32),(a.l=np x.c∧a.Own)∧v= .tuple #[aw a,.bool true]∧S=[cK a,K,aq]):=by
 refine dn 15 Tryz.func13 fun a4 ax=>?_
 obtain⟨bh,aO⟩:qn x=false∧iU x.c=0:=by unfold oT at l5;simpa using l5
 refine ah ?_
 refine dt (au:=(bJ x)) fun ay=>?_
 refine cW ?_
 refine cM (bJ x) ?_
 refine cA (MB x av bc aD) ?_
 rintro _ _ ⟨ol,au,⟨aE,a7,b7⟩,rfl,rfl⟩
 simp only [List.cons_append,List.nil_append]
 obtain⟨adM,rfl⟩:=aE bh aO
 refine ct ?_
 refine bH (ag adM) ?_
 refine bH (.agg au.toArray) ?_
 refine ds fun aM=>?_
 refine ct ?_
 refine fw (hA rfl rfl b7.one ar ae (by rw [b7.len];rfl) (by rfl)) ?_
 refine mn ?_
 refine cM (bJ x) ?_
 refine cA (Ud x av (xT (xx aO)).aW) ?_
 rintro _ _ ⟨a,⟨dB,bT⟩,rfl,rfl⟩
 refine cU ?_
 exact⟨[cK a,K,aq],⟨a,⟨dB,bT⟩,rfl,rfl⟩,_,bq⟩
theorem YF(x:bQ)(av:x.In K)(l5:oT x=false){aq:ao B}(bc:dL aq)(aD:dS aq):aS B 13 [x.v] [K,aq] (fun v S=>v= .tuple #[.slice none 0 0,.bool false]∧S=[K,aq]):=by
 refine dn 15 Tryz.func13 fun a4 ax=>?_
 have aaz:qn x=true∨iU x.c≠0:=by unfold oT at l5;cases bh:qn x with|true=>exact .inl rfl|false=>rw [bh]at l5;exact .inr (by simpa using l5)
 refine ah ?_
 refine dt (au:=(bJ x)) fun ay=>?_
 refine cW ?_
 refine cM (bJ x) ?_
 refine cA (MB x av bc aD) ?_
 rintro _ _ ⟨ol,au,⟨aE,a7,b7⟩,rfl,rfl⟩
 simp only [List.cons_append,List.nil_append]
 obtain rfl:=a7 aaz
 refine ct ?_
 refine bH (.pointer none) ?_
 refine bH (.agg au.toArray) ?_
 refine ds fun aM=>?_
 refine ct ?_
 refine fw (hA rfl rfl b7.one ar ae (by rw [b7.len];rfl) (by rfl)) ?_
 exact mz
theorem Wj{a b:BitVec 32}:((a.toNat:Int)==(b.toNat:Int))=decide (a=b):=by
  rw [Bool.eq_iff_iff];simp only [beq_iff_eq,decide_eq_true_eq]
  exact⟨fun q=>BitVec.eq_of_toNat_eq (by omega),fun q=>by rw [q]⟩
theorem YG(q p:Nat)(w:ai (BitVec 32))(seq:BitVec 32)(cH:Int)(bz:Value)(bN:Nat){BD nL:ao B}(hw:c1 BD w.bl (w.l.flatMap de))(Ej:w.l.length≤100000)(l:ai (BitVec 32))(aJ:c1 nL l.bl (l.l.flatMap de))(s2:BitVec 32):aS B 19 [ag q,aw l,aI s2.toNat] [aa q (c6 p (bz) (ag bN) w seq cH) 116,BD,nL] (fun v S=>v= .bool (decide (w.l=l.l)&&(decide (s2=0#32)||decide (seq=s2)))∧S=[aa q (c6 p (bz) (ag bN) w seq cH) 116,BD,nL]):=by
 refine bD 31 Tryz.func19 fun a4 ax=>?_
 refine cA (MD (K:=BD) q p w seq cH bz bN hw Ej) ?_
 rintro _ _ ⟨a,⟨dB,bT⟩,rfl,rfl⟩
 simp only [List.cons_append,List.nil_append]
 refine ct ?_
 refine bH (aw a) ?_
 refine bH (aI seq.toNat) ?_
 refine bH (.bool true) ?_
 refine ah ?_
 refine dA (Om a l (xd:=cK a) (xe:=nL) (eh bT rfl) aJ) ?_
 rw [dB]
 refine ah ?_
 refine cC ?_ ?_<;>intro ab
 ·refine cC ?_ ?_<;>intro af
  ·have aB:s2=0#32:=BitVec.eq_of_toNat_eq (by show s2.toNat=0;omega)
   rw [show(decide (w.l=l.l)&&(decide (s2=0#32)||decide (seq=s2)))=true from by rw [decide_eq_true ab,decide_eq_true aB];rfl]
   exact bA
  have aB:¬s2=0#32:=fun q=>af (by rw [q];rfl)
  rw [show(decide (w.l=l.l)&&(decide (s2=0#32)||decide (seq=s2)))=((seq.toNat:Int)==(s2.toNat:Int))from by rw [decide_eq_true ab,decide_eq_false aB,Wj];rfl]
  exact bA
 rw [show(decide (w.l=l.l)&&(decide (s2=0#32)||decide (seq=s2)))=false from by rw [decide_eq_false ab];rfl]
 exact bA
theorem Ur{d:a2}{k:bL}(h:cZ d)(aj:dj d k)(ap:d.ops≤700000000)(l:List (BitVec 32)):fE 4171 d (hf d k l).1:=by
  obtain⟨bM,bS⟩:=Fl h aj (by omega)
  have Pt:=bM.ops
  obtain⟨cD,cV⟩:=CV bM.ok bS (by omega) l
  have ab7:=cD.ops
  obtain⟨ff,gE⟩:=B5 cD.ok cV (by omega) 1#32
  have ab8:=ff.ops
  have rD:=B0 (k:=(dU (b2 (a1 d k).1 (a1 d k).2.1 l).1 (b2 (a1 d k).1 (a1 d k).2.1 l).2.1 1#32).2.1) ff.ok (by omega)
  unfold hf
  split
  · split
    · split
      · exact(((bM.trans cD).trans ff).trans rD).mono (by omega)
      · exact((bM.trans cD).trans ff).mono (by omega)
    · exact(bM.trans cD).mono (by omega)
  · exact bM.mono (by omega)
theorem Gw{n W L:Nat}{a:ai (BitVec 32)}{b:ai Int}{l:List (BitVec 32)}(a7:6≤n∧n≤64)(rB:13≤W∧W≤1024)(eL:L≤1048576)(aO:a.l.length=n*W)(bT:a.Own)(bb:b.l.length=n)(oc:b.Own):fE 4171 (lR W L a b) (g8 W L a b l):=by
  have h:=J2 (n:=n) (W:=W) (L:=L) (by omega) (by omega) eL aO bT bb oc
  have g:=Ur h (CJ (d:=lR W L a b) (m:=b.l.length/2) (i:=0) (by omega) (by decide) (by show b.l.length/2*2≤b.l.length;omega) rB.1) (by show(0:Int)≤700000000;omega) l
  exact⟨zJ g.ok,g.ops,g.w,g.b,g.a,g.lj⟩
theorem YH(l:ai (BitVec 32))(aJ:c1 K l.bl (l.l.flatMap de))(aB:jM l.l=true)(ak:∀(a:ai (BitVec 32)) (b:ai Int),a.l.length=10*300→a.Own→b.l.length=10→b.Own→(hf (lR 300 1000 a b) (lc (b.l.length/2) 0) l.l).2.2=0∧kG (g8 300 1000 a b l.l)=0){aq:ao B}(bc:dL aq)(aD:dS aq):aS B 14 [aw l] [K,aq] (fun v S=>∃(q p:Nat) (a:ai (BitVec 32)) (b:ai Int) (bz co:Value) (w:ai (BitVec 32)) (dx:BitVec 32) (hX:ao B),((a.l.length=10*300∧a.Own∧b.l.length=10∧b.Own)∧xV p (g8 300 1000 a b l.l) bz co w dx hX)∧v=ag q∧S=[aa q (c6 p bz co w dx 1) 116,aa p (bE (bm (g8 300 1000 a b l.l))) 196,b5 (bm (g8 300 1000 a b l.l)),dT (bm (g8 300 1000 a b l.l)),hX,K,aq]):=by
 refine bD 23 Tryz.func14 fun a4 ax=>?_
 refine fL (YD) ?_
 refine cA (Ol 10 300 1000 (by decide) (by decide) (by decide) l aJ aB (fun a b ab af az a5=>(ak a b ab af az a5).1) bc aD) ?_
 rintro _ _ ⟨q,p,a,b,⟨dB,bT,nF,oc⟩,rfl,rfl⟩
 simp only [List.cons_append,List.nil_append]
 have yJ:=Gw (l:=l.l) (n:=10) (W:=300) (L:=1000) bu bu bu dB bT nF oc
 have AX:=(ak a b dB bT nF oc).2
 refine ct ?_
 refine bH (ag q) ?_
 refine bH (U 0) ?_
 refine ah ?_
 refine cC ?_ ?_<;>intro ab
 ·exact bW ab
 refine cA (No q p ai.bG 0#32 0 (g8 300 1000 a b l.l) yJ.ok rfl (by have:=yJ.ops;have b0:(lR 300 1000 a b).ops=0:=rfl;omega) (by rw [yJ.b];show 6≤b.l.length;omega) (by rw [yJ.w];show 13≤300;decide) (by decide) bc aD) ?_
 rintro _ _ ⟨bz,co,w,dx,hX,acD,rfl,rfl⟩
 simp only [List.cons_append,List.nil_append]
 rw [AX]
 refine gD ?_
 refine aT ?_ ?_<;>intro af
 ·exact bW af
 exact⟨[aa q (c6 p bz co w dx 1) 116,aa p (bE (bm (g8 300 1000 a b l.l))) 196,b5 (bm (g8 300 1000 a b l.l)),dT (bm (g8 300 1000 a b l.l)),hX,K,aq],⟨q,p,a,b,bz,co,w,dx,hX,⟨⟨dB,bT,nF,oc⟩,acD⟩,rfl,rfl⟩,_,bq⟩
abbrev vQ(s:Int×Value):List Value:=[U s.1,U 0,U 0,.slice none 0 0,s.2]
abbrev H7(l:ai (BitVec 32)):List (Int×Value):=[(9,.slice none 0 0),(10,aw l),(11,.slice none 0 0)]
def wU(b:Nat)(l:ai (BitVec 32)):ai (Int×Value):=ai.lit b (H7 l) (by show 3≤_;decide)
def H8(l:ai (BitVec 32)):Nat→Int×Value
  |0=>(9,.slice none 0 0)
  |1=>(10,aw l)
  |_=>(11,.slice none 0 0)
theorem Wk{l:ai (BitVec 32)}{b i:Nat}(h:i<3):(wU b l).l[i]?=some (H8 l i):=by
  rcases(show i=0∨i=1∨i=2 by omega)with rfl|rfl|rfl<;>rfl
def eC(d:a2)(ad:Nat→bL)(a:Nat)(l:List (BitVec 32)):Nat→a2×bL×Int
  |0=>(d,ad (1-a),0)
  |1=>e3 d (a:Int) (ad a) (ad (1-a))
  |2=>e4 (e3 d (a:Int) (ad a) (ad (1-a))).1 (a:Int) (ad a) (e3 d (a:Int) (ad a) (ad (1-a))).2.1 l
  |_=>eM (e4 (e3 d (a:Int) (ad a) (ad (1-a))).1 (a:Int) (ad a) (e3 d (a:Int) (ad a) (ad (1-a))).2.1 l).1 (a:Int) (bF ad (1-a) (e4 (e3 d (a:Int) (ad a) (ad (1-a))).1 (a:Int) (ad a) (e3 d (a:Int) (ad a) (ad (1-a))).2.1 l).2.1) a
def bO(d:a2)(ad:Nat→bL)(a:Nat)(l:List (BitVec 32)):a2×bL×Int:=if(eC d ad a l 1).2.2≠0 then eC d ad a l 1 else if(eC d ad a l 2).2.2≠0 then eC d ad a l 2 else eC d ad a l 3
theorem RX{d:a2}{z:Int}{k cB:bL}(h:cZ d)(aj:dj d cB)(ap:d.ops≤900000000):fE 65 d (e3 d z k cB).1∧dj (e3 d z k cB).1 (e3 d z k cB).2.1:=by
  unfold e3;split
  · exact Fl h aj ap
  · exact⟨fE.rfl' h,aj⟩
theorem Us{d:a2}{z:Int}{k cB:bL}(h:cZ d)(aj:dj d cB)(ap:d.ops≤900000000)(l:List (BitVec 32)):fE 4096 d (e4 d z k cB l).1∧dj (e4 d z k cB l).1 (e4 d z k cB l).2.1:=by
  unfold e4;split
  · exact CV h aj ap l
  · exact⟨fE.rfl' h,aj⟩
theorem F1{d:a2}{ad:Nat→bL}{a:Nat}{l:List (BitVec 32)}(h:cZ d)(aj:∀i,i<2→dj d (ad i))(aO:a<2)(ap:d.ops≤700000000):∀i,i<3→fE 4161 d (eC d ad a l i).1∧dj (eC d ad a l i).1 (eC d ad a l i).2.1:=by
  have bM:=RX (z:=(a:Int)) (k:=ad a) h (aj (1-a) (by omega)) (by omega)
  have Pt:=bM.1.ops
  have bS:=Us (z:=(a:Int)) (k:=ad a) bM.1.ok bM.2 (by omega) l
  intro i ak
  rcases(show i=0∨i=1∨i=2 by omega)with rfl|rfl|rfl
  · exact⟨fE.rfl' h,aj _ (by omega)⟩
  · exact⟨bM.1.mono (by omega),bM.2⟩
  · exact⟨(bM.1.trans bS.1).mono (by omega),bS.2⟩
theorem On{ad:Nat→bL}{a:Nat}{k:bL}(aO:a<2):bF ad (1-a) k a=ad a:=fs _ _ (by omega)
theorem Np{d d2:a2}{ad:Nat→bL}{a n:Nat}{k:bL}(g:fE n d d2)(aj:∀i,i<2→dj d (ad i))(aO:a<2)(bb:dj d2 k):∀i,i<2→dj d2 (bF ad (1-a) k i):=by
  intro i ak
  by_cases q:i=1-a
  · subst q;rw [e8];exact bb
  · rw [fs _ _ q];exact g.nK (aj i ak)
theorem Wl(q p a6 bN:Nat)(Q:Nat→Nat)(w:ai (BitVec 32))(seq:BitVec 32)(cH:Int)(d:a2)(h:cZ d)(ad:Nat→bL)(aj:∀i,i<2→dj d (ad i))(a:Nat)(aO:a<2)(fA:d.ops≤700000000)(l:ai (BitVec 32))(aJ:c1 K l.bl (l.l.flatMap de))(i:Nat)(ak:i<3):aS B 20 [ag q,.agg (vQ (H8 l i)).toArray] [aa q (c6 p (ag a6) (ag bN) w seq cH) 116,aa a6 [ag p,ag (Q 0),ag (Q 1),U (a:Int)] 200,aa (Q a) (bp p (ad a)) 273,aa (Q (1-a)) (bp p (eC d ad a l.l i).2.1) 273,aa p (bE ((eC d ad a l.l i).1)) 196,b5 ((eC d ad a l.l i).1),dT ((eC d ad a l.l i).1),K] (fun v S=>v= .agg #[U (eC d ad a l.l (i+1)).2.2,U 0]∧S=[aa q (c6 p (gR (eC d ad a l.l (i+1)).2.2 a6) (gR (eC d ad a l.l (i+1)).2.2 bN) w seq cH) 116,aa a6 [ag p,ag (Q 0),ag (Q 1),U (a:Int)] 200,aa (Q a) (bp p (ad a)) 273,aa (Q (1-a)) (bp p (eC d ad a l.l (i+1)).2.1) 273,aa p (bE (eU (eC d ad a l.l (i+1)).1 (eC d ad a l.l (i+1)).2.2)) 196,b5 (eU (eC d ad a l.l (i+1)).1 (eC d ad a l.l (i+1)).2.2),dT (eU (eC d ad a l.l (i+1)).1 (eC d ad a l.l (i+1)).2.2),K]):=by
 obtain⟨g,Qp⟩:=F1 (l:=l.l) h aj aO fA i ak
 have go:=g.ops
 rcases(show i=0∨i=1∨i=2 by omega)with rfl|rfl|rfl
 ·refine dQ.mono (dQ.frame (Uq q p a6 bN Q w seq cH d h ad aj a aO al) [K]) ?_
  rintro v S ⟨aP,rfl,rfl,rfl⟩
  exact⟨rfl,rfl⟩
 ·have c:=YC q p a6 bN Q w seq cH (eC d ad a l.l 1).1 g.ok (bF ad (1-a) (eC d ad a l.l 1).2.1) (Np g aj aO Qp) a aO al l aJ
  rw [e8,On aO]at c
  exact c
 have c:=S0 (B:=B) q p a6 bN Q w seq cH (eC d ad a l.l 2).1 g.ok (bF ad (1-a) (eC d ad a l.l 2).2.1) (Np g aj aO Qp) a aO al
 rw [e8,On aO]at c
 refine dQ.mono (dQ.frame c [K]) ?_
 rintro v S ⟨aP,rfl,rfl,rfl⟩
 exact⟨rfl,rfl⟩
theorem Ut{l:ai (BitVec 32)}(i:Nat):(vQ (H8 l i)).all (·.oneCell')=true:=by
  rcases i with _|_|i<;>rfl
theorem Uu{d:a2}{ad:Nat→bL}{a:Nat}{l:List (BitVec 32)}{i:Nat}(ak:i<3)(h:∀j,j≤i→(eC d ad a l j).2.2=0)(a7:¬(eC d ad a l (i+1)).2.2=0):bO d ad a l=eC d ad a l (i+1):=by
  unfold bO
  rcases(show i=0∨i=1∨i=2 by omega)with rfl|rfl|rfl
  · rw [if_pos a7]
  · rw [if_neg (fun q=>q (h 1 (by omega))),if_pos a7]
  · rw [if_neg (fun q=>q (h 1 (by omega))),if_neg (fun q=>q (h 2 (by omega)))]
theorem Uv{d:a2}{ad:Nat→bL}{a:Nat}{l:List (BitVec 32)}{i:Nat}(ak:¬i<3)(h:∀j,j≤i→(eC d ad a l j).2.2=0):bO d ad a l=eC d ad a l 3∧(bO d ad a l).2.2=0:=by
  have e:bO d ad a l=eC d ad a l 3:=by
    unfold bO;rw [if_neg (fun q=>q (h 1 (by omega))),if_neg (fun q=>q (h 2 (by omega)))]
  exact⟨e,by rw [e];exact h 3 (by omega)⟩
theorem Uw(q p a6 bN:Nat)(Q:Nat→Nat)(w:ai (BitVec 32))(seq:BitVec 32)(cH:Int)(d:a2)(h:cZ d)(ad:Nat→bL)(aj:∀i,i<2→dj d (ad i))(a:Nat)(aO:a<2)(fA:d.ops≤700000000)(l:ai (BitVec 32))(aJ:c1 K l.bl (l.l.flatMap de)):aS B 16 [ag q,aw l] [aa q (c6 p (ag a6) (ag bN) w seq cH) 116,aa a6 [ag p,ag (Q 0),ag (Q 1),U (a:Int)] 200,aa (Q a) (bp p (ad a)) 273,aa (Q (1-a)) (bp p (eC d ad a l.l 0).2.1) 273,aa p (bE ((eC d ad a l.l 0).1)) 196,b5 ((eC d ad a l.l 0).1),dT ((eC d ad a l.l 0).1),K] (fun v S=>v=U (bO d ad a l.l).2.2∧S=[aa q (c6 p (gR (bO d ad a l.l).2.2 a6) (gR (bO d ad a l.l).2.2 bN) w seq cH) 116,aa a6 [ag p,ag (Q 0),ag (Q 1),U (a:Int)] 200,aa (Q a) (bp p (ad a)) 273,aa (Q (1-a)) (bp p (bO d ad a l.l).2.1) 273,aa p (bE (eU (bO d ad a l.l).1 (bO d ad a l.l).2.2)) 196,b5 (eU (bO d ad a l.l).1 (bO d ad a l.l).2.2),dT (eU (bO d ad a l.l).1 (bO d ad a l.l).2.2),K]):=by
 refine bD 27 Tryz.func16 fun a4 ax=>?_
 refine js (au:=(H7 l).flatMap vQ) .no rfl ae (by decide) (by decide) (by rfl) (by rfl) rfl rfl (fun hE=>?_)
 rw [show(aa hE ((H7 l).flatMap vQ) 63:ao B)=aa hE ((wU hE l).l.flatMap vQ) 63 from rfl]
 refine ah ?_
 refine dH (α:=Nat) (fun i=>i≤3∧∀j,j≤i→(eC d ad a l.l j).2.2=0) (fun i=>[(14,U (i:Int)),(0,ag q),(1,aw l),(12,aw (wU hE l)),(13,U ((wU hE l).l.length:Int))]) (fun i=>[aa hE ((wU hE l).l.flatMap vQ) 63,aa q (c6 p (ag a6) (ag bN) w seq cH) 116,aa a6 [ag p,ag (Q 0),ag (Q 1),U (a:Int)] 200,aa (Q a) (bp p (ad a)) 273,aa (Q (1-a)) (bp p (eC d ad a l.l i).2.1) 273,aa p (bE ((eC d ad a l.l i).1)) 196,b5 ((eC d ad a l.l i).1),dT ((eC d ad a l.l i).1),K]) (fun i=>3-i) 0 ?_ dD aC ?_
 ·exact⟨Nat.zero_le _,fun j aY=>(show j=0 by omega)▸rfl⟩
 rintro i ⟨ak,bP⟩
 have sl:(wU hE l).l.length=3:=rfl
 refine ah ?_
 refine bX ?_ ?_<;>intro ab
 ·refine ho ?_
  refine aA (hx rfl rfl ae (wU hE l).en rfl (by omega) rfl) ?_
  refine aA (hN (aW:=vQ) (aH:=5) (i:=i) (fun _=>rfl) rfl ar hF ae (Wk (b:=hE) (by omega))) ?_
  refine ds fun ay=>?_
  refine fw (hA rfl rfl (Ut i) ar ae rfl rfl) ?_
  refine ah ?_
  refine dA (Wl q p a6 bN Q w seq cH d h ad aj a aO fA l aJ i (by omega)) ?_
  refine da fun aM=>?_
  refine aT ?_ ?_<;>intro af
  ·have H9:i<3:=by have:(i:Int)<((3:Nat):Int):=ab;omega
   rw [←Uu H9 bP af]
   exact bA
  have cq:(eC d ad a l.l (i+1)).2.2=0:=by omega
  rw [show gR (eC d ad a l.l (i+1)).2.2 a6=ag a6 from if_neg (by rw [cq];decide),show gR (eC d ad a l.l (i+1)).2.2 bN=ag bN from if_neg (by rw [cq];decide),show eU (eC d ad a l.l (i+1)).1 (eC d ad a l.l (i+1)).2.2=(eC d ad a l.l (i+1)).1 from if_neg (by rw [cq];decide)]
  refine ah ?_
  exact fX (i+1) ⟨by omega,fun j aY=>(Nat.lt_or_ge i j).elim (fun q=>(show i+1=j by omega)▸cq) (fun q=>bP j q)⟩
 refine ah ?_
 have H9:¬i<3:=by have:((3:Nat):Int)≤(i:Int):=ab;omega
 obtain rfl:i=3:=by omega
 obtain⟨dc,dd⟩:=Uv H9 bP
 rw [←dc]
 have f1:eU (bO d ad a l.l).1 (bO d ad a l.l).2.2=(bO d ad a l.l).1:=if_neg (by rw [dd];decide)
 have f2:∀b,gR (bO d ad a l.l).2.2 b=ag b:=fun b=>if_neg (by rw [dd];decide)
 rw [f1,f2,f2,dd]
 exact bA
abbrev DB:Value:= .pointer none
abbrev mT(b:Nat):Value:=ag b
abbrev aaA(d:a2):ao B:=b5 d
abbrev NG(d:a2):ao B:=dT d
abbrev ia(q p:Nat)(bz co:Value)(w:ai (BitVec 32))(seq:BitVec 32)(n:Int)(d:a2):List (ao B):=[aa q (c6 p bz co w seq n) 116,aa p (bE d) 196,aaA d,NG d]
abbrev vd(Q:Nat→Nat)(p:Nat)(ad:Nat→bL)(j:Nat):ao B:=aa (Q j) (bp p (ad j)) 273
abbrev DC(a6 p:Nat)(Q:Nat→Nat)(j:Nat):ao B:=aa a6 [ag p,.pointer (some ⟨Q 0,0,none⟩),.pointer (some ⟨Q 1,0,none⟩),U (j:Int)] 200
def hg(q:Nat)(n:Int)(d:a2):ao B:=ex fun x:Nat×Value×Value×ai (BitVec 32)×BitVec 32=>ia q x.1 x.2.1 x.2.2.1 x.2.2.2.1 x.2.2.2.2 n d
def Hq(q:Nat)(n:Int)(d:a2):ao B:=ex fun x:Nat×ai (BitVec 32)×BitVec 32=>ia q x.1 DB DB x.2.1 x.2.2 n d
def o7(q:Nat)(n:Int)(d0:a2)(j:Nat)(d:a2):ao B:=ex fun x:{x:Nat×Nat×(Nat→Nat)×Nat×ai (BitVec 32)//x.2.2.2.2.l=(e5 d0 j).l∧x.2.2.2.2.Own}=>
  ia q x.1.1 (mT x.1.2.1) (mT x.1.2.2.2.1) x.1.2.2.2.2 (e5 d0 j).seq n d++[DC x.1.2.1 x.1.1 x.1.2.2.1 j,vd x.1.2.2.1 x.1.1 (bi d0) j,vd x.1.2.2.1 x.1.1 (bi d0) (1-j),cK x.1.2.2.2.2]
abbrev DD(aq:ao B):Prop:=dL aq
theorem Wm(q:Nat)(n:Int)(d:a2):aS B 17 [mT q] [hg q n d] (fun v S=>v= .tuple #[]∧S=[Hq q n (ga d false)]):=by
 refine sS fun⟨p,bz,co,w,dx⟩=>?_
 dsimp only [ia];simp only [List.cons_append,List.nil_append,List.append_nil]
 refine gB (jK (Ao q p w dx n bz co d) (by(try dsimp only [ia,bi]);(try simp only [List.cons_append,List.nil_append,List.append_nil]);repeat first|with_reducible exact .nil _|with_reducible exact .here _ _|with_reducible exact Take.self _|with_reducible apply Take.cons|with_reducible apply Out.there|with_reducible apply Take.skip|with_reducible exact Take.pre _ _|with_reducible apply Out.fu)) ?_
 rintro v S ⟨aP,rfl,rfl,rfl⟩
 exact⟨_,[Hq q n (ga d false)],_,kT (F:=fun x:Nat×ai (BitVec 32)×BitVec 32=>ia q x.1 DB DB x.2.1 x.2.2 n (ga d false)) (p,w,dx) (by(try dsimp only [ia,bi]);(try simp only [List.cons_append,List.nil_append,List.append_nil]);repeat first|with_reducible exact .nil _|with_reducible exact .here _ _|with_reducible exact Take.self _|with_reducible apply Take.cons|with_reducible apply Out.there|with_reducible apply Take.skip|with_reducible exact Take.pre _ _|with_reducible apply Out.fu),.cons (.here _ _) (.nil _),rfl,rfl⟩
theorem agu(q:Nat)(n:Int)(d0:a2)(j:Nat)(d:a2):aS B 17 [mT q] [o7 q n d0 j d] (fun v S=>v= .tuple #[]∧S=[Hq q n (ga d false)]):=by
 refine sS fun⟨⟨p,a6,Q,bN,w⟩,_⟩=>?_
 dsimp only [ia];simp only [List.cons_append,List.nil_append,List.append_nil]
 refine gB (jK (Ao q p w (e5 d0 j).seq n (mT a6) (mT bN) d) (by(try dsimp only [ia,bi]);(try simp only [List.cons_append,List.nil_append,List.append_nil]);repeat first|with_reducible exact .nil _|with_reducible exact .here _ _|with_reducible exact Take.self _|with_reducible apply Take.cons|with_reducible apply Out.there|with_reducible apply Take.skip|with_reducible exact Take.pre _ _|with_reducible apply Out.fu)) ?_
 rintro v S ⟨aP,rfl,rfl,rfl⟩
 exact⟨_,[Hq q n (ga d false)],_,kT (F:=fun x:Nat×ai (BitVec 32)×BitVec 32=>ia q x.1 DB DB x.2.1 x.2.2 n (ga d false)) (p,w,(e5 d0 j).seq) (by(try dsimp only [ia,bi]);(try simp only [List.cons_append,List.nil_append,List.append_nil]);repeat first|with_reducible exact .nil _|with_reducible exact .here _ _|with_reducible exact Take.self _|with_reducible apply Take.cons|with_reducible apply Out.there|with_reducible apply Take.skip|with_reducible exact Take.pre _ _|with_reducible apply Out.fu),.cons (.here _ _) (.nil _),rfl,rfl⟩
theorem afJ(q:Nat)(n:Int)(d:a2)(m:Int)(x:BitVec 32):aS B 15 [mT q,.agg #[U m,aI x.toNat]] [Hq q n d] (fun v S=>v= .tuple #[]∧S=[Hq q n (Vt d m x)]):=by
 refine sS fun⟨p,w,dx⟩=>?_
 dsimp only [ia];simp only [List.cons_append,List.nil_append,List.append_nil]
 refine gB (jK (af2 q p w dx n DB DB d m x) (by(try dsimp only [ia,bi]);(try simp only [List.cons_append,List.nil_append,List.append_nil]);repeat first|with_reducible exact .nil _|with_reducible exact .here _ _|with_reducible exact Take.self _|with_reducible apply Take.cons|with_reducible apply Out.there|with_reducible apply Take.skip|with_reducible exact Take.pre _ _|with_reducible apply Out.fu)) ?_
 rintro v S ⟨aP,rfl,rfl,rfl⟩
 exact⟨_,[Hq q n (Vt d m x)],_,kT (F:=fun y:Nat×ai (BitVec 32)×BitVec 32=>ia q y.1 DB DB y.2.1 y.2.2 n (Vt d m x)) (p,w,dx) (by(try dsimp only [ia,bi]);(try simp only [List.cons_append,List.nil_append,List.append_nil]);repeat first|with_reducible exact .nil _|with_reducible exact .here _ _|with_reducible exact Take.self _|with_reducible apply Take.cons|with_reducible apply Out.there|with_reducible apply Take.skip|with_reducible exact Take.pre _ _|with_reducible apply Out.fu),.cons (.here _ _) (.nil _),rfl,rfl⟩
theorem agv(q:Nat)(n:Int)(d0:a2)(j:Nat)(d:a2)(m:Int)(x:BitVec 32):aS B 15 [mT q,.agg #[U m,aI x.toNat]] [o7 q n d0 j d] (fun v S=>v= .tuple #[]∧S=[o7 q n d0 j (Vt d m x)]):=by
 refine sS fun⟨⟨p,a6,Q,bN,w⟩,hw⟩=>?_
 dsimp only [ia];simp only [List.cons_append,List.nil_append,List.append_nil]
 refine gB (jK (af2 q p w (e5 d0 j).seq n (mT a6) (mT bN) d m x) (by(try dsimp only [ia,bi]);(try simp only [List.cons_append,List.nil_append,List.append_nil]);repeat first|with_reducible exact .nil _|with_reducible exact .here _ _|with_reducible exact Take.self _|with_reducible apply Take.cons|with_reducible apply Out.there|with_reducible apply Take.skip|with_reducible exact Take.pre _ _|with_reducible apply Out.fu)) ?_
 rintro v S ⟨aP,rfl,rfl,rfl⟩
 exact⟨_,[o7 q n d0 j (Vt d m x)],_,kT (F:=fun y:{y:Nat×Nat×(Nat→Nat)×Nat×ai (BitVec 32)//y.2.2.2.2.l=(e5 d0 j).l∧y.2.2.2.2.Own}=>
  ia q y.1.1 (mT y.1.2.1) (mT y.1.2.2.2.1) y.1.2.2.2.2 (e5 d0 j).seq n (Vt d m x)++[DC y.1.2.1 y.1.1 y.1.2.2.1 j,vd y.1.2.2.1 y.1.1 (bi d0) j,vd y.1.2.2.1 y.1.1 (bi d0) (1-j),cK y.1.2.2.2.2]) ⟨(p,a6,Q,bN,w),hw⟩ (by(try dsimp only [ia,bi]);(try simp only [List.cons_append,List.nil_append,List.append_nil]);repeat first|with_reducible exact .nil _|with_reducible exact .here _ _|with_reducible exact Take.self _|with_reducible apply Take.cons|with_reducible apply Out.there|with_reducible apply Take.skip|with_reducible exact Take.pre _ _|with_reducible apply Out.fu),.cons (.here _ _) (.nil _),rfl,rfl⟩
theorem Nq{q p:Nat}{bz co:Value}{w:ai (BitVec 32)}{dx:BitVec 32}{hX:ao B}{n:Int}{d0 d:a2}{j:Nat}(hq:xV p d0 bz co w dx hX)(he:kG d0=0)(aY:j4 d0=some j){S R:List (ao B)}(t:Take (ia q p bz co w dx n d++[hX]) S R):hL S (o7 q n d0 j d::R):=by
  obtain⟨a6,Q,bN,yX,yx,rfl,rfl,hw,sv,rfl,rfl⟩:=hq.on he
  obtain rfl:yX=j:=by rw [aY]at yx;exact(Option.some.inj yx).symm
  exact(FI t).trans ((lr (by(try dsimp only [ia,bi]);(try simp only [List.cons_append,List.nil_append,List.append_nil]);repeat first|with_reducible exact .nil _|with_reducible exact .here _ _|with_reducible exact Take.self _|with_reducible apply Take.cons|with_reducible apply Out.there|with_reducible apply Take.skip|with_reducible exact Take.pre _ _|with_reducible apply Out.fu)).trans (kT (F:=fun y:{y:Nat×Nat×(Nat→Nat)×Nat×ai (BitVec 32)//y.2.2.2.2.l=(e5 d0 yX).l∧y.2.2.2.2.Own}=>
    ia q y.1.1 (mT y.1.2.1) (mT y.1.2.2.2.1) y.1.2.2.2.2 (e5 d0 yX).seq n d++[DC y.1.2.1 y.1.1 y.1.2.2.1 yX,vd y.1.2.2.1 y.1.1 (bi d0) yX,vd y.1.2.2.1 y.1.1 (bi d0) (1-yX),cK y.1.2.2.2.2]) ⟨(p,a6,Q,bN,w),hw,sv⟩ (by(try dsimp only [ia,bi]);(try simp only [List.cons_append,List.nil_append,List.append_nil]);repeat first|with_reducible exact .nil _|with_reducible exact .here _ _|with_reducible exact Take.self _|with_reducible apply Take.cons|with_reducible apply Out.there|with_reducible apply Take.skip|with_reducible exact Take.pre _ _|with_reducible apply Out.fu)))
theorem Ux(q:Nat)(n:Int)(d:a2)(h:cZ d)(g6:d.on=false)(fA:d.ops≤800000000)(c5:6≤d.b.l.length)(hw:13≤d.words)(bb:0≤n∧n≤100000){aq:ao B}(bc:DD aq)(aD:dS aq)(j:Nat)(he:kG d=0)(aY:j4 d=some j):aS B 18 [mT q] [Hq q n d,aq] (fun v S=>v=U 0∧S=[o7 q (n+1) d j (bm d),aq]):=by
 refine sS fun⟨p,w,dx⟩=>?_
 dsimp only [ia];simp only [List.cons_append,List.nil_append,List.append_nil]
 refine gB (No q p w dx n d h g6 fA c5 hw bb bc aD) ?_
 rintro v S ⟨bz,co,hV,ae7,hX,hq,rfl,rfl⟩
 exact⟨_,[o7 q (n+1) d j (bm d),aq],_,Nq (q:=q) (n:=n+1) (d:=bm d) hq he aY (by(try dsimp only [ia,bi]);(try simp only [List.cons_append,List.nil_append,List.append_nil]);repeat first|with_reducible exact .nil _|with_reducible exact .here _ _|with_reducible exact Take.self _|with_reducible apply Take.cons|with_reducible apply Out.there|with_reducible apply Take.skip|with_reducible exact Take.pre _ _|with_reducible apply Out.fu),(by(try dsimp only [ia,bi]);(try simp only [List.cons_append,List.nil_append,List.append_nil]);repeat first|with_reducible exact .nil _|with_reducible exact .here _ _|with_reducible exact Take.self _|with_reducible apply Take.cons|with_reducible apply Out.there|with_reducible apply Take.skip|with_reducible exact Take.pre _ _|with_reducible apply Out.fu),by rw [he],rfl⟩
theorem agp(q:Nat)(n:Int)(d:a2)(h:cZ d)(g6:d.on=false)(fA:d.ops≤800000000)(c5:6≤d.b.l.length)(hw:13≤d.words)(bb:0≤n∧n≤100000){aq:ao B}(bc:DD aq)(aD:dS aq)(he:kG d≠0):aS B 18 [mT q] [Hq q n d,aq] (fun v S=>v=U (kG d)∧S=[Hq q (n+1) (bm d),aq]):=by
 refine sS fun⟨p,w,dx⟩=>?_
 dsimp only [ia];simp only [List.cons_append,List.nil_append,List.append_nil]
 refine gB (No q p w dx n d h g6 fA c5 hw bb bc aD) ?_
 rintro v S ⟨bz,co,hV,ae7,hX,hq,rfl,rfl⟩
 obtain⟨rfl,rfl⟩:=hq.off he
 exact⟨_,[Hq q (n+1) (bm d),aq],_,kT (F:=fun x:Nat×ai (BitVec 32)×BitVec 32=>ia q x.1 DB DB x.2.1 x.2.2 (n+1) (bm d)) (p,hV,ae7) (by(try dsimp only [ia,bi]);(try simp only [List.cons_append,List.nil_append,List.append_nil]);repeat first|with_reducible exact .nil _|with_reducible exact .here _ _|with_reducible exact Take.self _|with_reducible apply Take.cons|with_reducible apply Out.there|with_reducible apply Take.skip|with_reducible exact Take.pre _ _|with_reducible apply Out.fu),.cons (.here _ _) (by(try dsimp only [ia,bi]);(try simp only [List.cons_append,List.nil_append,List.append_nil]);repeat first|with_reducible exact .nil _|with_reducible exact .here _ _|with_reducible exact Take.self _|with_reducible apply Take.cons|with_reducible apply Out.there|with_reducible apply Take.skip|with_reducible exact Take.pre _ _|with_reducible apply Out.fu),rfl,rfl⟩
theorem Wn(q:Nat)(n:Int)(d0:a2)(j:Nat)(d:a2)(bg:(e5 d0 j).l.length≤100000){nL:ao B}(l:ai (BitVec 32))(aJ:c1 nL l.bl (l.l.flatMap de))(s2:BitVec 32):aS B 19 [mT q,aw l,aI s2.toNat] [o7 q n d0 j d,nL] (fun v S=>v= .bool (decide ((e5 d0 j).l=l.l)&&(decide (s2=0#32)||decide ((e5 d0 j).seq=s2)))∧S=[o7 q n d0 j d,nL]):=by
 refine sS fun⟨⟨p,a6,Q,bN,w⟩,hw,sv⟩=>?_
 dsimp only [ia];simp only [List.cons_append,List.nil_append,List.append_nil]
 have hw:w.l=(e5 d0 j).l:=hw
 have sv:w.Own:=sv
 refine gB (jK (YG q p w (e5 d0 j).seq n (mT a6) bN (BD:=cK w) (eh sv rfl) (by rw [hw];exact bg) l aJ s2) (by(try dsimp only [ia,bi]);(try simp only [List.cons_append,List.nil_append,List.append_nil]);repeat first|with_reducible exact .nil _|with_reducible exact .here _ _|with_reducible exact Take.self _|with_reducible apply Take.cons|with_reducible apply Out.there|with_reducible apply Take.skip|with_reducible exact Take.pre _ _|with_reducible apply Out.fu)) ?_
 rintro v S ⟨aP,rfl,rfl,rfl⟩
 exact⟨_,[o7 q n d0 j d,nL],_,kT (F:=fun y:{y:Nat×Nat×(Nat→Nat)×Nat×ai (BitVec 32)//y.2.2.2.2.l=(e5 d0 j).l∧y.2.2.2.2.Own}=>
  ia q y.1.1 (mT y.1.2.1) (mT y.1.2.2.2.1) y.1.2.2.2.2 (e5 d0 j).seq n d++[DC y.1.2.1 y.1.1 y.1.2.2.1 j,vd y.1.2.2.1 y.1.1 (bi d0) j,vd y.1.2.2.1 y.1.1 (bi d0) (1-j),cK y.1.2.2.2.2]) ⟨(p,a6,Q,bN,w),hw,sv⟩ (by(try dsimp only [ia,bi]);(try simp only [List.cons_append,List.nil_append,List.append_nil]);repeat first|with_reducible exact .nil _|with_reducible exact .here _ _|with_reducible exact Take.self _|with_reducible apply Take.cons|with_reducible apply Out.there|with_reducible apply Take.skip|with_reducible exact Take.pre _ _|with_reducible apply Out.fu),.cons (.here _ _) (by(try dsimp only [ia,bi]);(try simp only [List.cons_append,List.nil_append,List.append_nil]);repeat first|with_reducible exact .nil _|with_reducible exact .here _ _|with_reducible exact Take.self _|with_reducible apply Take.cons|with_reducible apply Out.there|with_reducible apply Take.skip|with_reducible exact Take.pre _ _|with_reducible apply Out.fu),by rw [←hw],rfl⟩
theorem S1(q:Nat)(n:Int)(d0:a2)(j:Nat)(d:a2)(h:cZ d)(aj:∀i,i<2→dj d (bi d0 i))(aO:j<2)(fA:d.ops≤700000000)(l:ai (BitVec 32))(aJ:c1 K l.bl (l.l.flatMap de)):aS B 16 [mT q,aw l] [o7 q n d0 j d,K] (fun v S=>v=U (bO d (bi d0) j l.l).2.2∧S=[hg q n (eU (bO d (bi d0) j l.l).1 (bO d (bi d0) j l.l).2.2),K]):=by
 refine sS fun⟨⟨p,a6,Q,bN,w⟩,_⟩=>?_
 dsimp only [ia];simp only [List.cons_append,List.nil_append,List.append_nil]
 have c:=Uw (B:=B) (K:=K) q p a6 bN Q w (e5 d0 j).seq n d h (bi d0) aj j aO fA l aJ
 rw [show eC d (bi d0) j l.l 0=(d,bi d0 (1-j),0)from rfl]at c
 dsimp only at c
 refine gB (jK c (by(try dsimp only [ia,bi]);(try simp only [List.cons_append,List.nil_append,List.append_nil]);repeat first|with_reducible exact .nil _|with_reducible exact .here _ _|with_reducible exact Take.self _|with_reducible apply Take.cons|with_reducible apply Out.there|with_reducible apply Take.skip|with_reducible exact Take.pre _ _|with_reducible apply Out.fu)) ?_
 rintro v S ⟨aP,rfl,rfl,rfl⟩
 exact⟨_,[hg q n (eU (bO d (bi d0) j l.l).1 (bO d (bi d0) j l.l).2.2),K],_,kT (F:=fun x:Nat×Value×Value×ai (BitVec 32)×BitVec 32=>ia q x.1 x.2.1 x.2.2.1 x.2.2.2.1 x.2.2.2.2 n (eU (bO d (bi d0) j l.l).1 (bO d (bi d0) j l.l).2.2)) (p,gR (bO d (bi d0) j l.l).2.2 a6,gR (bO d (bi d0) j l.l).2.2 bN,w,(e5 d0 j).seq) (by(try dsimp only [ia,bi]);(try simp only [List.cons_append,List.nil_append,List.append_nil]);repeat first|with_reducible exact .nil _|with_reducible exact .here _ _|with_reducible exact Take.self _|with_reducible apply Take.cons|with_reducible apply Out.there|with_reducible apply Take.skip|with_reducible exact Take.pre _ _|with_reducible apply Out.fu),.cons (.here _ _) (by(try dsimp only [ia,bi]);(try simp only [List.cons_append,List.nil_append,List.append_nil]);repeat first|with_reducible exact .nil _|with_reducible exact .here _ _|with_reducible exact Take.self _|with_reducible apply Take.cons|with_reducible apply Out.there|with_reducible apply Take.skip|with_reducible exact Take.pre _ _|with_reducible apply Out.fu),rfl,rfl⟩
theorem zb(q:Nat)(n:Int)(d0:a2)(j:Nat)(d:a2)(h:cZ d)(aj:∀i,i<2→dj d (bi d0 i))(aO:j<2)(fA:d.ops≤800000000):aS B 20 [mT q,.agg #[U 12,U 0,U 0,.slice none 0 0,.slice none 0 0]] [o7 q n d0 j d] (fun v S=>v= .agg #[U (eB d (j:Int) (bi d0 j)).2,U 0]∧S=[hg q n (eU (eB d (j:Int) (bi d0 j)).1 (eB d (j:Int) (bi d0 j)).2)]):=by
 refine sS fun⟨⟨p,a6,Q,bN,w⟩,_⟩=>?_
 dsimp only [ia];simp only [List.cons_append,List.nil_append,List.append_nil]
 refine gB (jK (RV q p a6 bN Q w (e5 d0 j).seq n d h (bi d0) aj j aO fA) (by(try dsimp only [ia,bi]);(try simp only [List.cons_append,List.nil_append,List.append_nil]);repeat first|with_reducible exact .nil _|with_reducible exact .here _ _|with_reducible exact Take.self _|with_reducible apply Take.cons|with_reducible apply Out.there|with_reducible apply Take.skip|with_reducible exact Take.pre _ _|with_reducible apply Out.fu)) ?_
 rintro v S ⟨aP,rfl,rfl,rfl⟩
 exact⟨_,[hg q n (eU (eB d (j:Int) (bi d0 j)).1 (eB d (j:Int) (bi d0 j)).2)],_,kT (F:=fun x:Nat×Value×Value×ai (BitVec 32)×BitVec 32=>ia q x.1 x.2.1 x.2.2.1 x.2.2.2.1 x.2.2.2.2 n (eU (eB d (j:Int) (bi d0 j)).1 (eB d (j:Int) (bi d0 j)).2)) (p,gR (eB d (j:Int) (bi d0 j)).2 a6,gR (eB d (j:Int) (bi d0 j)).2 bN,w,(e5 d0 j).seq) (by(try dsimp only [ia,bi]);(try simp only [List.cons_append,List.nil_append,List.append_nil]);repeat first|with_reducible exact .nil _|with_reducible exact .here _ _|with_reducible exact Take.self _|with_reducible apply Take.cons|with_reducible apply Out.there|with_reducible apply Take.skip|with_reducible exact Take.pre _ _|with_reducible apply Out.fu),.cons (.here _ _) (by(try dsimp only [ia,bi]);(try simp only [List.cons_append,List.nil_append,List.append_nil]);repeat first|with_reducible exact .nil _|with_reducible exact .here _ _|with_reducible exact Take.self _|with_reducible apply Take.cons|with_reducible apply Out.there|with_reducible apply Take.skip|with_reducible exact Take.pre _ _|with_reducible apply Out.fu),rfl,rfl⟩
structure uH(a:ai (BitVec 32))(b:ai Int):Prop where
  a:a.l.length=10*300∧a.Own
  b:b.l.length=10∧b.Own
theorem YI(l:ai (BitVec 32))(aJ:c1 K l.bl (l.l.flatMap de))(aB:jM l.l=true)(ak:∀a b,uH a b→(hf (lR 300 1000 a b) (lc (b.l.length/2) 0) l.l).2.2=0∧kG (g8 300 1000 a b l.l)=0∧j4 (g8 300 1000 a b l.l)=some 0){aq:ao B}(bc:DD aq)(aD:dS aq):aS B 14 [aw l] [K,aq] (fun v S=>∃(q:Nat) (a:ai (BitVec 32)) (b:ai Int),uH a b∧v=mT q∧S=[o7 q 1 (g8 300 1000 a b l.l) 0 (bm (g8 300 1000 a b l.l)),K,aq]):=by
 refine gB (YH l aJ aB (fun a b ab af az a5=>let h:=ak a b ⟨⟨ab,af⟩,az,a5⟩;⟨h.1,h.2.1⟩) bc aD) ?_
 rintro v S ⟨q,p,a,b,bz,co,w,dx,hX,⟨⟨ab,af,az,a5⟩,hq⟩,rfl,rfl⟩
 have h:=ak a b ⟨⟨ab,af⟩,az,a5⟩
 exact⟨_,[o7 q 1 (g8 300 1000 a b l.l) 0 (bm (g8 300 1000 a b l.l)),K,aq],_,Nq (q:=q) (n:=1) (d:=bm (g8 300 1000 a b l.l)) hq h.2.1 h.2.2 (by(try dsimp only [ia,bi]);(try simp only [List.cons_append,List.nil_append,List.append_nil]);repeat first|with_reducible exact .nil _|with_reducible exact .here _ _|with_reducible exact Take.self _|with_reducible apply Take.cons|with_reducible apply Out.there|with_reducible apply Take.skip|with_reducible exact Take.pre _ _|with_reducible apply Out.fu),(by(try dsimp only [ia,bi]);(try simp only [List.cons_append,List.nil_append,List.append_nil]);repeat first|with_reducible exact .nil _|with_reducible exact .here _ _|with_reducible exact Take.self _|with_reducible apply Take.cons|with_reducible apply Out.there|with_reducible apply Take.skip|with_reducible exact Take.pre _ _|with_reducible apply Out.fu),q,a,b,⟨⟨ab,af⟩,az,a5⟩,rfl,rfl⟩
theorem Uy{B:Nat}{S:List (ao B)}:hL S (cK ai.bG::S):=fun D w h=>⟨fun _=>False,D,fun k=>by simp,fun _ h _=>h,Ji,h⟩
theorem Oo(x:bQ)(av:x.In K){aq:ao B}(bc:DD aq)(aD:dS aq):aS B 13 [x.v] [K,aq] (fun v S=>∃a:ai (BitVec 32),((oT x=true→a.l=np x.c)∧a.Own)∧v= .tuple #[aw a,.bool (oT x)]∧S=[cK a,K,aq]):=by
 cases l5:oT x with
 |true=>
  refine(YE x av l5 bc aD).mono ?_
  rintro v S ⟨a,⟨ab,af⟩,rfl,rfl⟩
  exact⟨a,⟨fun _=>ab,af⟩,rfl,rfl⟩
 |false=>
  refine gB (YF x av l5 bc aD) ?_
  rintro v S ⟨rfl,rfl⟩
  exact⟨_,[cK ai.bG,K,aq],[],Uy,Take.self _,ai.bG,⟨fun h=>by simp at h,ai.fY⟩,rfl,rfl⟩
structure ng(d:a2):Prop where
  ok:cZ d
  ops:d.ops≤700000000
  b:d.b.l.length=10
  w:d.words=300
theorem ng.o8{d:a2}(h:ng d)(z:Bool):ng (ga d z):=⟨zJ h.ok,h.ops,h.b,h.w⟩
theorem ng.nK{d d0:a2}(h:ng d)(b0:ng d0):∀i,i<2→dj d (bi d0 i):=fun i ak=>CJ (by rw [b0.b];decide) ak (by rw [b0.b,h.b];decide) (by rw [h.w];decide)
def j5(d:a2):a2×Int:=match j4 d with
  |some j=>eB (bm d) (j:Int) (bi d j)
  |none=>(bm d,0)
structure YK(gm:List (BitVec 32))(a:ai (BitVec 32))(b:ai Int):Prop where
  i:(hf (lR 300 1000 a b) (lc (b.l.length/2) 0) gm).2.2=0
  e:kG (g8 300 1000 a b gm)=0
  j:j4 (g8 300 1000 a b gm)=some 0
def xP(d:a2):Nat:=(j4 d).getD 0
theorem afD{d:a2}(h:kG d=0):j4 d=some (xP d)∧xP d<2:=by
  unfold xP
  cases bb:j4 d with
  |none=>unfold kG at h;rw [bb]at h;cases h
  |some j=>exact⟨rfl,(SX bb).1⟩
def Rv(q:Nat)(n:Int)(d:a2):ao B:=if kG d=0 then o7 q n d (xP d) (bm d)else Hq q n (bm d)
theorem afE{q:Nat}{n:Int}{d:a2}(h:kG d=0):(Rv q n d:ao B)=o7 q n d (xP d) (bm d):=if_pos h
def Ty(d:a2)(l:List (BitVec 32))(s:BitVec 32):Bool:=decide ((e5 d (xP d)).l=l)&&(decide (s=0#32)||decide ((e5 d (xP d)).seq=s))
theorem afA(q:Nat)(n:Int)(d:a2)(h:ng d)(g6:d.on=false)(bb:0≤n∧n≤100000){aq:ao B}(bc:DD aq)(aD:dS aq):aS B 18 [mT q] [Hq q n d,aq] (fun v S=>v=U (kG d)∧S=[Rv q (n+1) d,aq]):=by
  have ab:d.ops≤800000000:=by have:=h.ops;omega
  by_cases he:kG d=0
  · rw [afE he,he]
    exact Ux q n d h.ok g6 ab (by rw [h.b];decide) (by rw [h.w];decide) bb bc aD (xP d) he (afD he).1
  · rw [show(Rv q (n+1) d:ao B)=Hq q (n+1) (bm d)from if_neg he]
    exact agp q n d h.ok g6 ab (by rw [h.b];decide) (by rw [h.w];decide) bb bc aD he
theorem afY(q:Nat)(n:Int)(d:a2):aS B 17 [mT q] [Rv q n d] (fun v S=>v= .tuple #[]∧S=[Hq q n (ga (bm d) false)]):=by
 by_cases he:kG d=0
 ·rw [afE he];exact agu q n d (xP d) (bm d)
 rw [show(Rv q n d:ao B)=Hq q n (bm d)from if_neg he]
 refine j2 (Wm q n (bm d)) ?_
 intro D w aB
 obtain⟨dk,dX,e,aD,⟨⟨p,b3,dx⟩,eR⟩,cB⟩:=aB
 exact⟨dk,dX,e,aD,⟨(p,DB,DB,b3,dx),eR⟩,cB⟩
theorem Ru(q:Nat)(n:Int)(d:a2)(he:kG d=0)(bg:(e5 d (xP d)).l.length≤100000){nL:ao B}(l:ai (BitVec 32))(aJ:c1 nL l.bl (l.l.flatMap de))(s2:BitVec 32):aS B 19 [mT q,aw l,aI s2.toNat] [Rv q n d,nL] (fun v S=>v= .bool (Ty d l.l s2)∧S=[Rv q n d,nL]):=by
  rw [afE he];exact Wn q n d (xP d) (bm d) bg l aJ s2
theorem afZ(q:Nat)(n:Int)(d:a2)(he:kG d=0)(b0:ng d)(h:ng (bm d))(l:ai (BitVec 32))(aJ:c1 K l.bl (l.l.flatMap de)):aS B 16 [mT q,aw l] [Rv q n d,K] (fun v S=>v=U (bO (bm d) (bi d) (xP d) l.l).2.2∧S=[hg q n (eU (bO (bm d) (bi d) (xP d) l.l).1 (bO (bm d) (bi d) (xP d) l.l).2.2),K]):=by
  rw [afE he];exact S1 q n d (xP d) (bm d) h.ok (h.nK b0) (afD he).2 h.ops l aJ
theorem af0(q:Nat)(n:Int)(d:a2)(he:kG d=0)(b0:ng d)(h:ng (bm d)):aS B 20 [mT q,.agg #[U 12,U 0,U 0,.slice none 0 0,.slice none 0 0]] [Rv q n d] (fun v S=>v= .agg #[U (j5 d).2,U 0]∧S=[hg q n (eU (j5 d).1 (j5 d).2)]):=by
  rw [afE he,show j5 d=eB (bm d) (xP d:Int) (bi d (xP d))from by unfold j5;rw [(afD he).1]]
  exact zb q n d (xP d) (bm d) h.ok (h.nK b0) (afD he).2 (by have:=h.ops;omega)
structure agy(gm hv:List (BitVec 32))(d0 d1 d3 d4 d5:a2):Prop where
  AJ:ng d0
  lh:ng d1
  afy:ng d3
  Vu:ng d4
  p9:ng (bm d4)
  afG:kG d4=0→(bO (bm d4) (bi d4) (xP d4) hv).2.2=0→ng d5
  e:(bO d1 (bi d0) 0 hv).2.2=0∨(bO d1 (bi d0) 0 hv).2.2=63
  f:kG d3=0∨kG d3=63
  qg:kG d3=0→(e5 d3 (xP d3)).l.length≤100000
  l7:kG d3=0→Ty d3 gm 1#32=true∨Ty d3 hv 2#32=true
  zC:(bO d1 (bi d0) 0 hv).2.2=0→kG d3=0→Ty d3 hv 2#32=true
  g:kG d4=0
  afx:(e5 d4 (xP d4)).l.length≤100000
  Gh:Ty d4 gm 1#32=true∨Ty d4 hv 2#32=true
  af6:Ty d4 hv 2#32=true→Ty d4 gm 1#32=false→(j5 d4).2=0
  u:¬(Ty d4 hv 2#32=true∧Ty d4 gm 1#32=false)→(bO (bm d4) (bi d4) (xP d4) hv).2.2=0∧kG d5=0∧(e5 d5 (xP d5)).l.length≤100000∧Ty d5 hv 2#32=true
structure af3(kC:Int)(Tz:BitVec 32)(iA:Int)(s1:BitVec 32)(gm hv:List (BitVec 32)):Prop where
  s:jM gm=true
  new:∀a b,uH a b→YK gm a b
  run:∀a b,uH a b→∀d1 d2 d3 d4 d5,d1=Vt (bm (g8 300 1000 a b gm)) kC Tz→d2=ga (eU (bO d1 (bi (g8 300 1000 a b gm)) 0 hv).1 (bO d1 (bi (g8 300 1000 a b gm)) 0 hv).2.2) false→
    d3=Vt d2 iA s1→d4=Vt (ga (bm d3) false) 1099511627776 0#32→d5=ga (eU (bO (bm d4) (bi d4) (xP d4) hv).1 (bO (bm d4) (bi d4) (xP d4) hv).2.2) false→agy gm hv (g8 300 1000 a b gm) d1 d3 d4 d5
set_option maxHeartbeats 4000000 in
theorem agw(x y:bQ){cs:ao B}(av:x.In K)(aZ:y.In cs)(kC:Int)(Tz:BitVec 32)(iA:Int)(s1:BitVec 32){aq:ao B}(bc:dL aq)(aD:dS aq)(l0:aS B 9 [] [aq] (fun v S=>v= .bool true∧S=[aq]))(gO:oT x=true→oT y=true→af3 kC Tz iA s1 (np x.c) (np y.c)):aS B 4 [x.v,y.v,.agg #[U kC,aI Tz.toNat,U iA,aI s1.toNat]] [K,cs,aq] (fun v S=>v= .bool true):=by
 refine bD 156 Tryz.func4 fun a4 ax=>?_
 refine dt (au:=(bJ x)) fun ay=>?_
 refine dt (au:=(bJ y)) fun aM=>?_
 refine dt (au:=[U kC,aI Tz.toNat,U iA,aI s1.toNat]) fun bw=>?_
 refine gK ?_
 refine cM (bJ x) ?_
 refine cA (Oo x av bc aD) ?_
 rintro _ _ ⟨a,⟨dB,bT⟩,rfl,rfl⟩
 simp only [List.cons_append,List.nil_append]
 refine ct ?_
 refine bH (aw a) ?_
 refine bH (.bool (oT x)) ?_
 refine cW ?_
 refine cM (bJ y) ?_
 refine cA (Oo y aZ bc aD) ?_
 rintro _ _ ⟨b,⟨nF,oc⟩,rfl,rfl⟩
 simp only [List.cons_append,List.nil_append]
 refine ct ?_
 refine bH (aw b) ?_
 refine bH (.bool (oT y)) ?_
 refine ah ?_
 refine cC ?_ ?_<;>intro ab
 ·refine e1 (l0) ?_
  first|exact⟨_,rfl,_,bq⟩|(exfalso;clear dc dd fD yT EB gO ve l0;have bY:=wg.e;have bK:=wg.f;have eu:=wg.l7;have sE:=wg.zC;have L4:=wg.Gh;have Rt:=wg.g;simp_all;done)|(exfalso;simp_all;done)|(exfalso;omega)
 refine aT ?_ ?_<;>intro af
 ·refine e1 (l0) ?_
  first|exact⟨_,rfl,_,bq⟩|(exfalso;clear dc dd fD yT EB gO ve l0;have bY:=wg.e;have bK:=wg.f;have eu:=wg.l7;have sE:=wg.zC;have L4:=wg.Gh;have Rt:=wg.g;simp_all;done)|(exfalso;simp_all;done)|(exfalso;omega)
 have AY:oT x=true:=by assumption
 have Ia:oT y=true:=by assumption
 have ve:=gO AY Ia
 refine ah ?_
 refine cA (YI (K:=cK a) a (eh bT rfl) (by rw [dB AY];exact ve.s) (fun c2 aM h=>by rw [dB AY];exact⟨(ve.new c2 aM h).i,(ve.new c2 aM h).e,(ve.new c2 aM h).j⟩) bc aD) ?_
 rintro _ _ ⟨q,c2,aM,wN,rfl,rfl⟩
 simp only [List.cons_append,List.nil_append]
 have nI:=ve.run c2 aM wN
 rw [←dB AY, ←nF Ia]at nI
 generalize g8 300 1000 c2 aM a.l=ax at*
 obtain⟨d1,dc⟩:∃d,d=Vt (bm ax) kC Tz:=⟨_,rfl⟩
 obtain⟨d2,dd⟩:∃d,d=ga (eU (bO d1 (bi ax) 0 b.l).1 (bO d1 (bi ax) 0 b.l).2.2) false:=⟨_,rfl⟩
 obtain⟨d3,fD⟩:∃d,d=Vt d2 iA s1:=⟨_,rfl⟩
 obtain⟨d4,yT⟩:∃d,d=Vt (ga (bm d3) false) 1099511627776 0#32:=⟨_,rfl⟩
 obtain⟨d5,EB⟩:∃d,d=ga (eU (bO (bm d4) (bi d4) (xP d4) b.l).1 (bO (bm d4) (bi d4) (xP d4) b.l).2.2) false:=⟨_,rfl⟩
 have wg:=nI d1 d2 d3 d4 d5 dc dd fD yT EB
 clear nI
 refine ra ?_
 refine aA (m7 (j:=0) (fU:=0) rfl rfl ae rfl bu rfl) ?_
 refine dW ?_
 refine aA (m7 (j:=0) (fU:=0) rfl rfl ae rfl bu rfl) ?_
 refine ah ?_
 refine dA (agv q 1 ax 0 (bm ax) kC Tz) ?_
 rw [←dc]
 refine ah ?_
 refine e1 (S1 (K:=cK b) q 1 ax 0 d1 wg.lh.ok (wg.lh.nK wg.AJ) (by decide) wg.lh.ops b (eh oc rfl)) ?_
 refine cC ?_ ?_<;>intro az
 ·refine aT ?_ ?_<;>intro a5
  ·first|exact⟨_,rfl,_,bq⟩|(exfalso;clear dc dd fD yT EB gO ve l0;have bY:=wg.e;have bK:=wg.f;have eu:=wg.l7;have sE:=wg.zC;have L4:=wg.Gh;have Rt:=wg.g;simp_all;done)|(exfalso;simp_all;done)|(exfalso;omega)
  refine dA (Wm q 1 (eU (bO d1 (bi ax) 0 b.l).1 (bO d1 (bi ax) 0 b.l).2.2)) ?_
  rw [←dd]
  refine gK ?_
  refine aA (m7 (j:=1) (fU:=2) rfl rfl ae rfl bu rfl) ?_
  refine dW ?_
  refine aA (m7 (j:=1) (fU:=2) rfl rfl ae rfl bu rfl) ?_
  refine ah ?_
  refine dA (afJ q 1 d2 iA s1) ?_
  rw [←fD]
  refine ah ?_
  refine dA (afA q 1 d3 wg.afy (by rw [fD,dd]) (by decide) bc aD) ?_
  rw [show(Rv q (1+1) d3:ao B)=Rv q 2 d3 from rfl]
  refine dW ?_
  refine k5 (α:=Unit) (fun z=>True) (fun z=>[(7,aw a),(9,aw b),(11,ag q)]) (fun z=>[Rv q 2 d3,cK b,cK a,K,cs,aq]) ?_ ?_
  ·skip
   refine ah ?_
   refine cC ?_ ?_<;>intro cd
   ·refine cC ?_ ?_<;>intro c5
    ·first|exact⟨_,rfl,_,bq⟩|(exfalso;clear dc dd fD yT EB gO ve l0;have bY:=wg.e;have bK:=wg.f;have eu:=wg.l7;have sE:=wg.zC;have L4:=wg.Gh;have Rt:=wg.g;simp_all;done)|(exfalso;simp_all;done)|(exfalso;omega)
    refine cC ?_ ?_<;>intro fo
    ·refine e1 (Ru q 2 d3 (by assumption) (wg.qg (by assumption)) (nL:=cK a) a (eh bT rfl) 1#32) ?_
     refine cC ?_ ?_<;>intro gx
     ·refine e1 (Ru q 2 d3 (by assumption) (wg.qg (by assumption)) (nL:=cK b) b (eh oc rfl) 2#32) ?_
      refine cC ?_ ?_<;>intro jf
      ·first|exact⟨_,rfl,_,bq⟩|(exfalso;clear dc dd fD yT EB gO ve l0;have bY:=wg.e;have bK:=wg.f;have eu:=wg.l7;have sE:=wg.zC;have L4:=wg.Gh;have Rt:=wg.g;simp_all;done)|(exfalso;simp_all;done)|(exfalso;omega)
      refine cC ?_ ?_<;>intro iw
      ·refine cC ?_ ?_<;>intro qN
       ·refine e1 (Ru q 2 d3 (by assumption) (wg.qg (by assumption)) (nL:=cK b) b (eh oc rfl) 2#32) ?_
        refine aT ?_ ?_<;>intro yz
        ·first|exact⟨_,rfl,_,bq⟩|(exfalso;clear dc dd fD yT EB gO ve l0;have bY:=wg.e;have bK:=wg.f;have eu:=wg.l7;have sE:=wg.zC;have L4:=wg.Gh;have Rt:=wg.g;simp_all;done)|(exfalso;simp_all;done)|(exfalso;omega)
        refine fj () ?_
        first|trivial|(show _;simp_all;done)
       refine fj () ?_
       first|trivial|(show _;simp_all;done)
      refine fj () ?_
      first|trivial|(show _;simp_all;done)
     refine cC ?_ ?_<;>intro Py
     ·refine cC ?_ ?_<;>intro HX
      ·refine e1 (Ru q 2 d3 (by assumption) (wg.qg (by assumption)) (nL:=cK b) b (eh oc rfl) 2#32) ?_
       refine aT ?_ ?_<;>intro yL
       ·first|exact⟨_,rfl,_,bq⟩|(exfalso;clear dc dd fD yT EB gO ve l0;have bY:=wg.e;have bK:=wg.f;have eu:=wg.l7;have sE:=wg.zC;have L4:=wg.Gh;have Rt:=wg.g;simp_all;done)|(exfalso;simp_all;done)|(exfalso;omega)
       refine fj () ?_
       first|trivial|(show _;simp_all;done)
      refine fj () ?_
      first|trivial|(show _;simp_all;done)
     refine fj () ?_
     first|trivial|(show _;simp_all;done)
    refine cC ?_ ?_<;>intro u7
    ·refine cC ?_ ?_<;>intro acE
     ·refine e1 (Ru q 2 d3 (by assumption) (wg.qg (by assumption)) (nL:=cK b) b (eh oc rfl) 2#32) ?_
      refine aT ?_ ?_<;>intro A1
      ·first|exact⟨_,rfl,_,bq⟩|(exfalso;clear dc dd fD yT EB gO ve l0;have bY:=wg.e;have bK:=wg.f;have eu:=wg.l7;have sE:=wg.zC;have L4:=wg.Gh;have Rt:=wg.g;simp_all;done)|(exfalso;simp_all;done)|(exfalso;omega)
      refine fj () ?_
      first|trivial|(show _;simp_all;done)
     refine fj () ?_
     first|trivial|(show _;simp_all;done)
    refine fj () ?_
    first|trivial|(show _;simp_all;done)
   refine cC ?_ ?_<;>intro A2
   ·refine e1 (Ru q 2 d3 (by assumption) (wg.qg (by assumption)) (nL:=cK a) a (eh bT rfl) 1#32) ?_
    refine cC ?_ ?_<;>intro acF
    ·refine e1 (Ru q 2 d3 (by assumption) (wg.qg (by assumption)) (nL:=cK b) b (eh oc rfl) 2#32) ?_
     refine cC ?_ ?_<;>intro ae8
     ·first|exact⟨_,rfl,_,bq⟩|(exfalso;clear dc dd fD yT EB gO ve l0;have bY:=wg.e;have bK:=wg.f;have eu:=wg.l7;have sE:=wg.zC;have L4:=wg.Gh;have Rt:=wg.g;simp_all;done)|(exfalso;simp_all;done)|(exfalso;omega)
     refine cC ?_ ?_<;>intro A3
     ·refine cC ?_ ?_<;>intro A4
      ·refine e1 (Ru q 2 d3 (by assumption) (wg.qg (by assumption)) (nL:=cK b) b (eh oc rfl) 2#32) ?_
       refine aT ?_ ?_<;>intro PQ
       ·first|exact⟨_,rfl,_,bq⟩|(exfalso;clear dc dd fD yT EB gO ve l0;have bY:=wg.e;have bK:=wg.f;have eu:=wg.l7;have sE:=wg.zC;have L4:=wg.Gh;have Rt:=wg.g;simp_all;done)|(exfalso;simp_all;done)|(exfalso;omega)
       refine fj () ?_
       first|trivial|(show _;simp_all;done)
      refine fj () ?_
      first|trivial|(show _;simp_all;done)
     refine fj () ?_
     first|trivial|(show _;simp_all;done)
    refine cC ?_ ?_<;>intro A5
    ·refine cC ?_ ?_<;>intro A6
     ·refine e1 (Ru q 2 d3 (by assumption) (wg.qg (by assumption)) (nL:=cK b) b (eh oc rfl) 2#32) ?_
      refine aT ?_ ?_<;>intro acG
      ·first|exact⟨_,rfl,_,bq⟩|(exfalso;clear dc dd fD yT EB gO ve l0;have bY:=wg.e;have bK:=wg.f;have eu:=wg.l7;have sE:=wg.zC;have L4:=wg.Gh;have Rt:=wg.g;simp_all;done)|(exfalso;simp_all;done)|(exfalso;omega)
      refine fj () ?_
      first|trivial|(show _;simp_all;done)
     refine fj () ?_
     first|trivial|(show _;simp_all;done)
    refine fj () ?_
    first|trivial|(show _;simp_all;done)
   refine cC ?_ ?_<;>intro agO
   ·refine cC ?_ ?_<;>intro agP
    ·refine e1 (Ru q 2 d3 (by assumption) (wg.qg (by assumption)) (nL:=cK b) b (eh oc rfl) 2#32) ?_
     refine aT ?_ ?_<;>intro agQ
     ·first|exact⟨_,rfl,_,bq⟩|(exfalso;clear dc dd fD yT EB gO ve l0;have bY:=wg.e;have bK:=wg.f;have eu:=wg.l7;have sE:=wg.zC;have L4:=wg.Gh;have Rt:=wg.g;simp_all;done)|(exfalso;simp_all;done)|(exfalso;omega)
     refine fj () ?_
     first|trivial|(show _;simp_all;done)
    refine fj () ?_
    first|trivial|(show _;simp_all;done)
   refine fj () ?_
   first|trivial|(show _;simp_all;done)
  intro z bt
  refine ah ?_
  refine e1 (afY q 2 d3) ?_
  refine dA (afJ q 2 (ga (bm d3) false) 1099511627776 0#32) ?_
  rw [←yT]
  refine ct ?_
  refine k5 (α:=Unit) (fun z=>True) (fun z=>[(7,aw a),(9,aw b),(11,ag q)]) (fun z=>[Rv q 3 d4,cK b,cK a,K,cs,aq]) ?_ ?_
  ·skip
   refine ah ?_
   refine dA (afA q 2 d4 wg.Vu (by rw [yT]) (by decide) bc aD) ?_
   rw [show(Rv q (2+1) d4:ao B)=Rv q 3 d4 from rfl,wg.g]
   refine ah ?_
   refine cC ?_ ?_<;>intro agR
   ·first|exact⟨_,rfl,_,bq⟩|(exfalso;clear dc dd fD yT EB gO ve l0;have bY:=wg.e;have bK:=wg.f;have eu:=wg.l7;have sE:=wg.zC;have L4:=wg.Gh;have Rt:=wg.g;simp_all;done)|(exfalso;simp_all;done)|(exfalso;omega)
   refine e1 (Ru q 3 d4 wg.g wg.afx (nL:=cK a) a (eh bT rfl) 1#32) ?_
   refine cC ?_ ?_<;>intro AO
   ·refine e1 (Ru q 3 d4 wg.g wg.afx (nL:=cK b) b (eh oc rfl) 2#32) ?_
    refine aT ?_ ?_<;>intro agS
    ·first|exact⟨_,rfl,_,bq⟩|(exfalso;clear dc dd fD yT EB gO ve l0;have bY:=wg.e;have bK:=wg.f;have eu:=wg.l7;have sE:=wg.zC;have L4:=wg.Gh;have Rt:=wg.g;simp_all;done)|(exfalso;simp_all;done)|(exfalso;omega)
    refine fj () ?_
    first|trivial|(show _;simp_all;done)
   refine fj () ?_
   first|trivial|(show _;simp_all;done)
  intro z bt
  refine k5 (α:=Unit) (fun z=>¬(Ty d4 b.l 2#32=true∧Ty d4 a.l 1#32=false)) (fun z=>[(7,aw a),(9,aw b),(11,ag q)]) (fun z=>[Rv q 3 d4,cK b,cK a,K,cs,aq]) ?_ ?_
  ·skip
   refine ah ?_
   refine e1 (Ru q 3 d4 wg.g wg.afx (nL:=cK b) b (eh oc rfl) 2#32) ?_
   refine cC ?_ ?_<;>intro agT
   ·refine e1 (Ru q 3 d4 wg.g wg.afx (nL:=cK a) a (eh bT rfl) 1#32) ?_
    refine aT ?_ ?_<;>intro agU
    ·refine dA (af0 q 3 d4 wg.g wg.Vu wg.p9) ?_
     rw [wg.af6 cl cl]
     refine aA (ud rfl ae rfl) ?_
     refine ah ?_
     refine cC ?_ ?_<;>intro agV
     ·refine e1 (l0) ?_
      first|exact⟨_,rfl,_,bq⟩|(exfalso;clear dc dd fD yT EB gO ve l0;have bY:=wg.e;have bK:=wg.f;have eu:=wg.l7;have sE:=wg.zC;have L4:=wg.Gh;have Rt:=wg.g;simp_all;done)|(exfalso;simp_all;done)|(exfalso;omega)
     first|exact⟨_,rfl,_,bq⟩|(exfalso;clear dc dd fD yT EB gO ve l0;have bY:=wg.e;have bK:=wg.f;have eu:=wg.l7;have sE:=wg.zC;have L4:=wg.Gh;have Rt:=wg.g;simp_all;done)|(exfalso;simp_all;done)|(exfalso;omega)
    refine fj () ?_
    first|trivial|(show _;simp_all;done)
   refine fj () ?_
   first|trivial|(show _;simp_all;done)
  intro z bt
  refine ah ?_
  refine dA (afZ (K:=cK b) q 3 d4 wg.g wg.Vu wg.p9 b (eh oc rfl)) ?_
  obtain⟨afP,OY,OZ,afQ⟩:=wg.u bt
  have afO:=wg.afG wg.g afP
  refine ah ?_
  refine aT ?_ ?_<;>intro agW
  ·first|exact⟨_,rfl,_,bq⟩|(exfalso;clear dc dd fD yT EB gO ve l0;have bY:=wg.e;have bK:=wg.f;have eu:=wg.l7;have sE:=wg.zC;have L4:=wg.Gh;have Rt:=wg.g;simp_all;done)|(exfalso;simp_all;done)|(exfalso;omega)
  refine dA (Wm q 3 (eU (bO (bm d4) (bi d4) (xP d4) b.l).1 (bO (bm d4) (bi d4) (xP d4) b.l).2.2)) ?_
  rw [←EB]
  refine ah ?_
  refine dA (afA q 3 d5 afO (by rw [EB]) (by decide) bc aD) ?_
  rw [show(Rv q (3+1) d5:ao B)=Rv q 4 d5 from rfl,OY]
  refine ah ?_
  refine cC ?_ ?_<;>intro agX
  ·refine dA (Ru q 4 d5 OY OZ (nL:=cK b) b (eh oc rfl) 2#32) ?_
   rw [afQ]
   refine ah ?_
   refine e1 (l0) ?_
   first|exact⟨_,rfl,_,bq⟩|(exfalso;clear dc dd fD yT EB gO ve l0;have bY:=wg.e;have bK:=wg.f;have eu:=wg.l7;have sE:=wg.zC;have L4:=wg.Gh;have Rt:=wg.g;simp_all;done)|(exfalso;simp_all;done)|(exfalso;omega)
  first|exact⟨_,rfl,_,bq⟩|(exfalso;clear dc dd fD yT EB gO ve l0;have bY:=wg.e;have bK:=wg.f;have eu:=wg.l7;have sE:=wg.zC;have L4:=wg.Gh;have Rt:=wg.g;simp_all;done)|(exfalso;simp_all;done)|(exfalso;omega)
 refine dA (Wm q 1 (eU (bO d1 (bi ax) 0 b.l).1 (bO d1 (bi ax) 0 b.l).2.2)) ?_
 rw [←dd]
 refine gK ?_
 refine aA (m7 (j:=1) (fU:=2) rfl rfl ae rfl bu rfl) ?_
 refine dW ?_
 refine aA (m7 (j:=1) (fU:=2) rfl rfl ae rfl bu rfl) ?_
 refine ah ?_
 refine dA (afJ q 1 d2 iA s1) ?_
 rw [←fD]
 refine ah ?_
 refine dA (afA q 1 d3 wg.afy (by rw [fD,dd]) (by decide) bc aD) ?_
 rw [show(Rv q (1+1) d3:ao B)=Rv q 2 d3 from rfl]
 refine dW ?_
 refine k5 (α:=Unit) (fun z=>True) (fun z=>[(7,aw a),(9,aw b),(11,ag q)]) (fun z=>[Rv q 2 d3,cK b,cK a,K,cs,aq]) ?_ ?_
 ·skip
  refine ah ?_
  refine cC ?_ ?_<;>intro agY
  ·refine cC ?_ ?_<;>intro agZ
   ·first|exact⟨_,rfl,_,bq⟩|(exfalso;clear dc dd fD yT EB gO ve l0;have bY:=wg.e;have bK:=wg.f;have eu:=wg.l7;have sE:=wg.zC;have L4:=wg.Gh;have Rt:=wg.g;simp_all;done)|(exfalso;simp_all;done)|(exfalso;omega)
   refine cC ?_ ?_<;>intro ag0
   ·refine e1 (Ru q 2 d3 (by assumption) (wg.qg (by assumption)) (nL:=cK a) a (eh bT rfl) 1#32) ?_
    refine cC ?_ ?_<;>intro ag1
    ·refine e1 (Ru q 2 d3 (by assumption) (wg.qg (by assumption)) (nL:=cK b) b (eh oc rfl) 2#32) ?_
     refine cC ?_ ?_<;>intro ag2
     ·first|exact⟨_,rfl,_,bq⟩|(exfalso;clear dc dd fD yT EB gO ve l0;have bY:=wg.e;have bK:=wg.f;have eu:=wg.l7;have sE:=wg.zC;have L4:=wg.Gh;have Rt:=wg.g;simp_all;done)|(exfalso;simp_all;done)|(exfalso;omega)
     refine cC ?_ ?_<;>intro ag3
     ·refine cC ?_ ?_<;>intro ag4
      ·refine e1 (Ru q 2 d3 (by assumption) (wg.qg (by assumption)) (nL:=cK b) b (eh oc rfl) 2#32) ?_
       refine aT ?_ ?_<;>intro ag5
       ·first|exact⟨_,rfl,_,bq⟩|(exfalso;clear dc dd fD yT EB gO ve l0;have bY:=wg.e;have bK:=wg.f;have eu:=wg.l7;have sE:=wg.zC;have L4:=wg.Gh;have Rt:=wg.g;simp_all;done)|(exfalso;simp_all;done)|(exfalso;omega)
       refine fj () ?_
       first|trivial|(show _;simp_all;done)
      refine fj () ?_
      first|trivial|(show _;simp_all;done)
     refine fj () ?_
     first|trivial|(show _;simp_all;done)
    refine cC ?_ ?_<;>intro ag6
    ·refine cC ?_ ?_<;>intro ag7
     ·refine e1 (Ru q 2 d3 (by assumption) (wg.qg (by assumption)) (nL:=cK b) b (eh oc rfl) 2#32) ?_
      refine aT ?_ ?_<;>intro ag8
      ·first|exact⟨_,rfl,_,bq⟩|(exfalso;clear dc dd fD yT EB gO ve l0;have bY:=wg.e;have bK:=wg.f;have eu:=wg.l7;have sE:=wg.zC;have L4:=wg.Gh;have Rt:=wg.g;simp_all;done)|(exfalso;simp_all;done)|(exfalso;omega)
      refine fj () ?_
      first|trivial|(show _;simp_all;done)
     refine fj () ?_
     first|trivial|(show _;simp_all;done)
    refine fj () ?_
    first|trivial|(show _;simp_all;done)
   refine cC ?_ ?_<;>intro af7
   ·refine cC ?_ ?_<;>intro af8
    ·refine e1 (Ru q 2 d3 (by assumption) (wg.qg (by assumption)) (nL:=cK b) b (eh oc rfl) 2#32) ?_
     refine aT ?_ ?_<;>intro ag9
     ·first|exact⟨_,rfl,_,bq⟩|(exfalso;clear dc dd fD yT EB gO ve l0;have bY:=wg.e;have bK:=wg.f;have eu:=wg.l7;have sE:=wg.zC;have L4:=wg.Gh;have Rt:=wg.g;simp_all;done)|(exfalso;simp_all;done)|(exfalso;omega)
     refine fj () ?_
     first|trivial|(show _;simp_all;done)
    refine fj () ?_
    first|trivial|(show _;simp_all;done)
   refine fj () ?_
   first|trivial|(show _;simp_all;done)
  refine cC ?_ ?_<;>intro aha
  ·refine e1 (Ru q 2 d3 (by assumption) (wg.qg (by assumption)) (nL:=cK a) a (eh bT rfl) 1#32) ?_
   refine cC ?_ ?_<;>intro ahb
   ·refine e1 (Ru q 2 d3 (by assumption) (wg.qg (by assumption)) (nL:=cK b) b (eh oc rfl) 2#32) ?_
    refine cC ?_ ?_<;>intro ahc
    ·first|exact⟨_,rfl,_,bq⟩|(exfalso;clear dc dd fD yT EB gO ve l0;have bY:=wg.e;have bK:=wg.f;have eu:=wg.l7;have sE:=wg.zC;have L4:=wg.Gh;have Rt:=wg.g;simp_all;done)|(exfalso;simp_all;done)|(exfalso;omega)
    refine cC ?_ ?_<;>intro ahd
    ·refine cC ?_ ?_<;>intro ahe
     ·refine e1 (Ru q 2 d3 (by assumption) (wg.qg (by assumption)) (nL:=cK b) b (eh oc rfl) 2#32) ?_
      refine aT ?_ ?_<;>intro ahf
      ·first|exact⟨_,rfl,_,bq⟩|(exfalso;clear dc dd fD yT EB gO ve l0;have bY:=wg.e;have bK:=wg.f;have eu:=wg.l7;have sE:=wg.zC;have L4:=wg.Gh;have Rt:=wg.g;simp_all;done)|(exfalso;simp_all;done)|(exfalso;omega)
      refine fj () ?_
      first|trivial|(show _;simp_all;done)
     refine fj () ?_
     first|trivial|(show _;simp_all;done)
    refine fj () ?_
    first|trivial|(show _;simp_all;done)
   refine cC ?_ ?_<;>intro ahg
   ·refine cC ?_ ?_<;>intro ahh
    ·refine e1 (Ru q 2 d3 (by assumption) (wg.qg (by assumption)) (nL:=cK b) b (eh oc rfl) 2#32) ?_
     refine aT ?_ ?_<;>intro ahi
     ·first|exact⟨_,rfl,_,bq⟩|(exfalso;clear dc dd fD yT EB gO ve l0;have bY:=wg.e;have bK:=wg.f;have eu:=wg.l7;have sE:=wg.zC;have L4:=wg.Gh;have Rt:=wg.g;simp_all;done)|(exfalso;simp_all;done)|(exfalso;omega)
     refine fj () ?_
     first|trivial|(show _;simp_all;done)
    refine fj () ?_
    first|trivial|(show _;simp_all;done)
   refine fj () ?_
   first|trivial|(show _;simp_all;done)
  refine cC ?_ ?_<;>intro ahj
  ·refine cC ?_ ?_<;>intro oX
   ·refine e1 (Ru q 2 d3 (by assumption) (wg.qg (by assumption)) (nL:=cK b) b (eh oc rfl) 2#32) ?_
    refine aT ?_ ?_<;>intro ahk
    ·first|exact⟨_,rfl,_,bq⟩|(exfalso;clear dc dd fD yT EB gO ve l0;have bY:=wg.e;have bK:=wg.f;have eu:=wg.l7;have sE:=wg.zC;have L4:=wg.Gh;have Rt:=wg.g;simp_all;done)|(exfalso;simp_all;done)|(exfalso;omega)
    refine fj () ?_
    first|trivial|(show _;simp_all;done)
   refine fj () ?_
   first|trivial|(show _;simp_all;done)
  refine fj () ?_
  first|trivial|(show _;simp_all;done)
 intro z bt
 refine ah ?_
 refine e1 (afY q 2 d3) ?_
 refine dA (afJ q 2 (ga (bm d3) false) 1099511627776 0#32) ?_
 rw [←yT]
 refine ct ?_
 refine k5 (α:=Unit) (fun z=>True) (fun z=>[(7,aw a),(9,aw b),(11,ag q)]) (fun z=>[Rv q 3 d4,cK b,cK a,K,cs,aq]) ?_ ?_
 ·skip
  refine ah ?_
  refine dA (afA q 2 d4 wg.Vu (by rw [yT]) (by decide) bc aD) ?_
  rw [show(Rv q (2+1) d4:ao B)=Rv q 3 d4 from rfl,wg.g]
  refine ah ?_
  refine cC ?_ ?_<;>intro ahl
  ·first|exact⟨_,rfl,_,bq⟩|(exfalso;clear dc dd fD yT EB gO ve l0;have bY:=wg.e;have bK:=wg.f;have eu:=wg.l7;have sE:=wg.zC;have L4:=wg.Gh;have Rt:=wg.g;simp_all;done)|(exfalso;simp_all;done)|(exfalso;omega)
  refine e1 (Ru q 3 d4 wg.g wg.afx (nL:=cK a) a (eh bT rfl) 1#32) ?_
  refine cC ?_ ?_<;>intro ahm
  ·refine e1 (Ru q 3 d4 wg.g wg.afx (nL:=cK b) b (eh oc rfl) 2#32) ?_
   refine aT ?_ ?_<;>intro ahn
   ·first|exact⟨_,rfl,_,bq⟩|(exfalso;clear dc dd fD yT EB gO ve l0;have bY:=wg.e;have bK:=wg.f;have eu:=wg.l7;have sE:=wg.zC;have L4:=wg.Gh;have Rt:=wg.g;simp_all;done)|(exfalso;simp_all;done)|(exfalso;omega)
   refine fj () ?_
   first|trivial|(show _;simp_all;done)
  refine fj () ?_
  first|trivial|(show _;simp_all;done)
 intro z bt
 refine k5 (α:=Unit) (fun z=>¬(Ty d4 b.l 2#32=true∧Ty d4 a.l 1#32=false)) (fun z=>[(7,aw a),(9,aw b),(11,ag q)]) (fun z=>[Rv q 3 d4,cK b,cK a,K,cs,aq]) ?_ ?_
 ·skip
  refine ah ?_
  refine e1 (Ru q 3 d4 wg.g wg.afx (nL:=cK b) b (eh oc rfl) 2#32) ?_
  refine cC ?_ ?_<;>intro aho
  ·refine e1 (Ru q 3 d4 wg.g wg.afx (nL:=cK a) a (eh bT rfl) 1#32) ?_
   refine aT ?_ ?_<;>intro ahp
   ·refine dA (af0 q 3 d4 wg.g wg.Vu wg.p9) ?_
    rw [wg.af6 cl cl]
    refine aA (ud rfl ae rfl) ?_
    refine ah ?_
    refine cC ?_ ?_<;>intro ahq
    ·refine e1 (l0) ?_
     first|exact⟨_,rfl,_,bq⟩|(exfalso;clear dc dd fD yT EB gO ve l0;have bY:=wg.e;have bK:=wg.f;have eu:=wg.l7;have sE:=wg.zC;have L4:=wg.Gh;have Rt:=wg.g;simp_all;done)|(exfalso;simp_all;done)|(exfalso;omega)
    first|exact⟨_,rfl,_,bq⟩|(exfalso;clear dc dd fD yT EB gO ve l0;have bY:=wg.e;have bK:=wg.f;have eu:=wg.l7;have sE:=wg.zC;have L4:=wg.Gh;have Rt:=wg.g;simp_all;done)|(exfalso;simp_all;done)|(exfalso;omega)
   refine fj () ?_
   first|trivial|(show _;simp_all;done)
  refine fj () ?_
  first|trivial|(show _;simp_all;done)
 intro z bt
 refine ah ?_
 refine dA (afZ (K:=cK b) q 3 d4 wg.g wg.Vu wg.p9 b (eh oc rfl)) ?_
 obtain⟨afP,OY,OZ,afQ⟩:=wg.u bt
 have afO:=wg.afG wg.g afP
 refine ah ?_
 refine aT ?_ ?_<;>intro ahr
 ·first|exact⟨_,rfl,_,bq⟩|(exfalso;clear dc dd fD yT EB gO ve l0;have bY:=wg.e;have bK:=wg.f;have eu:=wg.l7;have sE:=wg.zC;have L4:=wg.Gh;have Rt:=wg.g;simp_all;done)|(exfalso;simp_all;done)|(exfalso;omega)
 refine dA (Wm q 3 (eU (bO (bm d4) (bi d4) (xP d4) b.l).1 (bO (bm d4) (bi d4) (xP d4) b.l).2.2)) ?_
 rw [←EB]
 refine ah ?_
 refine dA (afA q 3 d5 afO (by rw [EB]) (by decide) bc aD) ?_
 rw [show(Rv q (3+1) d5:ao B)=Rv q 4 d5 from rfl,OY]
 refine ah ?_
 refine cC ?_ ?_<;>intro ahs
 ·refine dA (Ru q 4 d5 OY OZ (nL:=cK b) b (eh oc rfl) 2#32) ?_
  rw [afQ]
  refine ah ?_
  refine e1 (l0) ?_
  first|exact⟨_,rfl,_,bq⟩|(exfalso;clear dc dd fD yT EB gO ve l0;have bY:=wg.e;have bK:=wg.f;have eu:=wg.l7;have sE:=wg.zC;have L4:=wg.Gh;have Rt:=wg.g;simp_all;done)|(exfalso;simp_all;done)|(exfalso;omega)
 first|exact⟨_,rfl,_,bq⟩|(exfalso;clear dc dd fD yT EB gO ve l0;have bY:=wg.e;have bK:=wg.f;have eu:=wg.l7;have sE:=wg.zC;have L4:=wg.Gh;have Rt:=wg.g;simp_all;done)|(exfalso;simp_all;done)|(exfalso;omega)
inductive h6 where
  |p (s w:Nat) (x:BitVec 32)
  |e (s:Nat)
def lg(d:a2):h6→a2×Int
  | .p s w x=>fG d (s:Int) (w:Int) x
  | .e s=>eH d (s:Int)
def fK:a2→List h6→a2×Int
  |d,[]=>(d,0)
  |d,o::l=>if(lg d o).2=0 then fK (lg d o).1 l else lg d o
theorem Cj:∀(l m:List h6) (d:a2),fK d (l++m)=if(fK d l).2=0 then fK (fK d l).1 m else fK d l
  |[],m,d=>by rw [List.nil_append,fK,if_pos rfl]
  |o::l,m,d=>by
    rw [List.cons_append,fK,fK]
    by_cases h:(lg d o).2=0
    · rw [if_pos h,if_pos h];exact Cj l m _
    · rw [if_neg h,if_neg h,if_neg h]
def qP(g:Nat→BitVec 32):h6→Nat→BitVec 32
  | .p s w x=>bF g (s*300+w) x
  | .e s=>k8 g (fun _ _=>fq) (s*300) 300
def PR(z:BitVec 32)(g:Nat→BitVec 32):h6→Nat→BitVec 32
  | .p s w x=>bF g (s*300+w) (vM (g (s*300+w)) x (k7 z))
  | .e s=>k8 g (fun j w=>w|||qp (k7 z) j) (s*300) 300
def PS(g:Nat→BitVec 32):h6→Prop
  | .p s w x=>s<10∧w<300∧x&&&~~~(g (s*300+w))=0#32
  | .e s=>s<10
def okF:(Nat→BitVec 32)→List h6→Prop
  |_,[]=>True
  |g,o::l=>PS g o∧okF (qP g o) l
def hI(g:Nat→BitVec 32)(l:List h6):Nat→BitVec 32:=l.foldl qP g
theorem F2:∀(l m:List h6) (g:Nat→BitVec 32),okF g l→okF (hI g l) m→okF g (l++m)
  |[],m,g,_,h=>h
  |o::l,m,g,h,eW=>⟨h.1,F2 l m _ h.2 eW⟩
theorem LJ(g:Nat→BitVec 32)(l m:List h6):hI g (l++m)=hI (hI g l) m:=List.foldl_append
def acH:h6→Bool
  | .p .. =>false
  | .e _=>true
def n1(l:List h6):Nat:=(l.filter acH).length
structure gS(d:a2)(n:Int):Prop where
  w:d.words=300
  b:d.b.l.length=10
  lj:d.il=1000
  wr:∀k,d.wr k≤n
structure wV(d r:a2)(n:Nat)(e:Nat):Prop where
  w:r.words=d.words
  b:r.b=d.b
  a:r.a=d.a
  lj:r.il=d.il
  wr:∀k,r.wr k≤d.wr k+e
structure Full(d:a2)(l:List h6)(r:a2):Prop where
  s:wV d r l.length (n1 l)
  g:r.g=hI d.g l
  on:r.on=true
  ew:r.ew=d.ew
  a3:d.ew=true→(l.length:Int)≤max d.a3 0∧r.a3=d.a3-l.length
structure Hs(d:a2)(l:List h6)(r:a2):Prop where
  s:wV d r l.length (n1 l)
  c:∃(i:Nat) (o:h6),l[i]?=some o∧d.a3≤(i:Int)∧r.g=PR d.hP (hI d.g (l.take i)) o
  on:r.on=false
  ew:d.ew=true∧r.ew=false
theorem Wp{d:a2}{n:Int}(h:gS d n){s w:Nat}(aB:s<10)(hw:w<300):kz d (s:Int) (w:Int)=((s*300+w:Nat):Int):=by
  unfold kz;rw [if_neg (by rw [h.b,h.w];omega),h.w];omega
theorem Rc{d:a2}{n:Int}(h:gS d n)(a7:n<1000)(g6:d.on=true){o:h6}(ap:PS d.g o):
  ((lg d o).2=0∧Full d [o] (lg d o).1∧(lg d o).1.hP=d.hP∧g5 d=false)∨((lg d o).2=63∧Hs d [o] (lg d o).1∧g5 d=true):=by
 cases o with
 |p s w x=>
  obtain⟨ab,af,az⟩:=ap
  have dc:=Wp h ab af
  have dd:(kz d (s:Int) (w:Int)).toNat=s*300+w:=by rw [dc];omega
  have aE:lg d (.p s w x)=if g5 d=true then((kU d).pR (bF d.g (s*300+w) (vM (d.g (s*300+w)) x (k7 d.hP))),63)else((kU d).pR (bF d.g (s*300+w) x),0):=by
   show fG d (s:Int) (w:Int) x=_
   unfold fG
   rw [if_pos g6,if_neg (by rw [dc];omega),dd,if_pos az]
  cases bh:g5 d with
  |true=>
   rw [bh,if_pos rfl]at aE
   right
   refine⟨by rw [aE],⟨?_,⟨0,_,rfl,?_,?_⟩,?_,?_⟩,rfl⟩
   ·rw [aE];exact⟨rfl,rfl,rfl,rfl,fun k=>by show d.wr k≤d.wr k+((0:Nat):Int);omega⟩
   ·have q:=bh;unfold g5 at q;simp only [Bool.and_eq_true,decide_eq_true_eq]at q;exact q.2
   ·rw [aE];rfl
   ·rw [aE];show(if g5 d=true then false else d.on)=false;rw [if_pos bh]
   refine⟨?_,?_⟩
   ·have q:=bh;unfold g5 at q;simp only [Bool.and_eq_true]at q;exact q.1
   rw [aE];show(if g5 d=true then false else d.ew)=false;rw [if_pos bh]
  |false=>
   rw [bh,if_neg bu]at aE
   left
   refine⟨by rw [aE],⟨?_,?_,?_,?_,?_⟩,by rw [aE],rfl⟩
   ·rw [aE];exact⟨rfl,rfl,rfl,rfl,fun k=>by show d.wr k≤d.wr k+((0:Nat):Int);omega⟩
   ·rw [aE];rfl
   ·rw [aE];show(if g5 d=true then false else d.on)=true;rw [if_neg (by rw [bh];decide)];exact g6
   ·rw [aE];show(if g5 d=true then false else d.ew)=d.ew;rw [if_neg (by rw [bh];decide)]
   intro aO
   have q:=bh;unfold g5 at q;rw [aO]at q;simp only [Bool.true_and,decide_eq_false_iff_not]at q
   rw [aE]
   refine⟨by simp;omega,?_⟩
   show(if d.ew=true∧g5 d=false then d.a3-1 else d.a3)=_
   rw [if_pos ⟨aO,bh⟩];rfl
 |e s=>
  have ab:s<10:=ap
  have aE:lg d (.e s)=if g5 d=true then((kU (d.h9 s)).pR (k8 d.g (fun j w=>w|||qp (k7 d.hP) j) (s*300) 300),63)else((kU (d.h9 s)).pR (k8 d.g (fun _ _=>fq) (s*300) 300),0):=by
   show eH d (s:Int)=_
   unfold eH
   rw [if_pos g6,if_neg (by rw [h.b];omega),Int.toNat_natCast,if_neg (by have:=h.wr s;rw [h.lj];omega)]
   simp only [Gk,Gl,h.w]
  have hw:∀k,(bF d.wr s (d.wr s+1)) k≤d.wr k+((1:Nat):Int):=fun k=>by
   unfold bF;split
   ·subst_vars;omega
   omega
  cases bh:g5 d with
  |true=>
   rw [bh,if_pos rfl]at aE
   right
   have rq:g5 (d.h9 s)=true:=bh
   refine⟨by rw [aE],⟨?_,⟨0,_,rfl,?_,?_⟩,?_,?_⟩,rfl⟩
   ·rw [aE];exact⟨rfl,rfl,rfl,rfl,hw⟩
   ·have q:=bh;unfold g5 at q;simp only [Bool.and_eq_true,decide_eq_true_eq]at q;exact q.2
   ·rw [aE];rfl
   ·rw [aE];show(if g5 (d.h9 s)=true then false else d.on)=false;rw [if_pos rq]
   refine⟨?_,?_⟩
   ·have q:=bh;unfold g5 at q;simp only [Bool.and_eq_true]at q;exact q.1
   rw [aE];show(if g5 (d.h9 s)=true then false else d.ew)=false;rw [if_pos rq]
  |false=>
   rw [bh,if_neg bu]at aE
   left
   have rq:g5 (d.h9 s)=false:=bh
   refine⟨by rw [aE],⟨?_,?_,?_,?_,?_⟩,by rw [aE],rfl⟩
   ·rw [aE];exact⟨rfl,rfl,rfl,rfl,hw⟩
   ·rw [aE];rfl
   ·rw [aE];show(if g5 (d.h9 s)=true then false else d.on)=true;rw [if_neg (by rw [rq];decide)];exact g6
   ·rw [aE];show(if g5 (d.h9 s)=true then false else d.ew)=d.ew;rw [if_neg (by rw [rq];decide)]
   intro aO
   have q:=bh;unfold g5 at q;rw [aO]at q;simp only [Bool.true_and,decide_eq_false_iff_not]at q
   rw [aE]
   refine⟨by simp;omega,?_⟩
   show(if d.ew=true∧g5 (d.h9 s)=false then d.a3-1 else d.a3)=_
   rw [if_pos ⟨aO,rq⟩];rfl
theorem wV.trans{d r t:a2}{n m e f:Nat}(h:wV d r n e)(g:wV r t m f){k j:Nat}(aY:j=e+f):wV d t k j:=⟨by rw [g.w,h.w],by rw [g.b,h.b],by rw [g.a,h.a],by rw [g.lj,h.lj],fun k=>by have:=h.wr k;have:=g.wr k;omega⟩
theorem gS.go{d r:a2}{n m:Int}{k e:Nat}(h:gS d n)(g:wV d r k e)(hm:n+e≤m):gS r m:=⟨by rw [g.w,h.w],by rw [g.b,h.b],by rw [g.lj,h.lj],fun k=>by have:=h.wr k;have:=g.wr k;omega⟩
theorem Fc(o:h6)(l:List h6):n1 (o::l)=n1 [o]+n1 l:=by
  unfold n1;rw [show o::l=[o]++l from rfl,List.filter_append,List.length_append]
theorem sH:∀(l:List h6) {d:a2} {n:Int},gS d n→n+n1 l<1000→d.on=true→(d.ew=true→0≤d.a3)→okF d.g l→
  ((fK d l).2=0∧Full d l (fK d l).1∧(fK d l).1.hP=d.hP)∨((fK d l).2=63∧Hs d l (fK d l).1)
 |[],d,n,h,a7,g6,aO,aj=> .inl ⟨rfl,⟨⟨rfl,rfl,rfl,rfl,fun k=>by show d.wr k≤d.wr k+((0:Nat):Int);omega⟩,rfl,g6,rfl,fun q=>⟨by have:=aO q;simp only [List.length_nil];omega,by simp [fK]⟩⟩,rfl⟩
 |o::l,d,n,h,a7,g6,aO,aj=>by
  have he:=Fc o l
  rcases Rc h al g6 aj.1 with⟨ab,af,az,a5⟩|⟨ab,af,a5⟩
  ·rw [fK,if_pos ab]
   have br:gS (lg d o).1 (n+n1 [o]):=h.go af.s al
   have bh:(lg d o).1.g=qP d.g o:=af.g
   have gL:(lg d o).1.ew=true→0≤(lg d o).1.a3:=fun q=>by
    rw [af.ew]at q
    have:=af.a3 q
    simp at this
    have:=aO q
    omega
   rcases sH l br al af.on gL (by rw [bh];exact aj.2)with⟨bM,bS,cD⟩|⟨bM,bS⟩
   ·refine .inl ⟨bM,⟨af.s.trans bS.s he,?_,bS.on,by rw [bS.ew,af.ew],fun q=>?_⟩,by rw [cD,az]⟩
    ·rw [bS.g,bh];rfl
    have bY:=af.a3 q
    have bK:=bS.a3 (by rw [af.ew];exact q)
    have:=aO q
    have:=gL (by rw [af.ew];exact q)
    simp only [List.length_cons,List.length_nil]at bY⊢
    omega
   refine .inr ⟨bM,⟨af.s.trans bS.s he,?_,bS.on,by rw [←af.ew];exact bS.ew⟩⟩
   obtain⟨i,p,eR,cB,lp⟩:=bS.c
   refine⟨i+1,p,eR,?_,?_⟩
   ·have bY:=af.a3 (by rw [←af.ew];exact bS.ew.1)
    simp only [List.length_cons,List.length_nil]at bY
    omega
   rw [lp,az,bh];rfl
  rw [fK,if_neg (by rw [ab];decide)]
  obtain⟨i,p,eR,cB,lp⟩:=af.c
  have ak:i=0:=by
   rcases i with _|i
   ·rfl
   simp at eR
  subst ak
  exact .inr ⟨ab,⟨⟨af.s.w,af.s.b,af.s.a,af.s.lj,fun k=>by have:=af.s.wr k;omega⟩,⟨0,p,eR,cB,lp⟩,af.on,af.ew⟩⟩
theorem S2{l:List h6}{Q:(Nat→BitVec 32)→Prop}{g:Nat→BitVec 32}(bP:Q g)(aE:∀o,o∈l→∀g,Q g→Q (qP g o)):Q (hI g l):=by
  unfold hI
  induction l generalizing g with
  |nil=>exact bP
  |cons o l ih=>exact ih (aE o (.head _) g bP) (fun p hm=>aE p (.tail _ hm))
abbrev Ap:BitVec 32:=1668246893#32
abbrev r9:BitVec 32:=1668247142#32
abbrev aJ(g:Nat→BitVec 32)(i:Nat):Nat→BitVec 32:=fun j=>g (1500*i+300+j)
abbrev mZ(g:Nat→BitVec 32)(i:Nat):List (BitVec 32):=df 300 (aJ g i)
def tB(g:Nat→BitVec 32)(i:Nat):Bv:=if g (1500*i)≠fq∨(hC (mZ g i)).mR.toNat>900 then⟨0#32,0#32,0#32,false,false,(hC (mZ g i)).uo⟩else hC (mZ g i)
structure jI(k:bL)(i:Nat):Prop where
  b:k.base=5*i
  m:k.many=5
theorem oy{d:a2}{n:Int}(h:gS d n)(i:Nat):jI (bi d i) i:=⟨by show i*(d.b.l.length/2)=_;rw [h.b];omega,by show d.b.l.length/2=5;rw [h.b]⟩
theorem mH{f:Nat→BitVec 32}{n j:Nat}(h:j<n):ef (df n f) j=f j:=by unfold ef df;simp [h]
theorem Nr{d:a2}{n:Int}(h:gS d n){k:bL}{i:Nat}(aj:jI k i)(ak:i<2):nZ d ((k.base+1:Nat):Int)=mZ d.g i:=by
 rw [FK (by rw [h.b,aj.b];omega),h.w,aj.b]
 unfold mZ df aJ
 refine List.map_congr_left fun j _=>?_
 show d.g _=d.g _
 congr 1;omega
theorem qX{d:a2}{n:Int}(h:gS d n){k:bL}{i:Nat}(aj:jI k i)(ak:i<2):fM d k=tB d.g i:=by
  have dc:n0 d k=hC (mZ d.g i):=by rw [n0,Nr h aj ak]
  have dd:(zW d k=true)↔d.g (1500*i)≠fq:=by
    unfold zW;rw [h.w,aj.b,show 5*i*300=1500*i by omega];simp
  have fD:nT d k=900:=by rw [nT,h.w,aj.m];rfl
  unfold fM tB
  rw [dc,fD]
  by_cases q:d.g (1500*i)≠fq∨(hC (mZ d.g i)).mR.toNat>900
  · rw [if_pos q,if_pos (by rw [dd];exact q)]
  · rw [if_neg q,if_neg (by rw [dd];exact q)]
def rE(g:Nat→BitVec 32)(i:Nat):Int:=kj (mZ g i) 3
structure jj(g:Nat→BitVec 32)(i:Nat)(l:List (BitVec 32))(seq:BitVec 32)(j1:Bool):Prop where
  m:g (1500*i)=fq
  b0:aJ g i 0=seq
  ab:aJ g i 1= ~~~seq
  af:aJ g i 2=BitVec.ofNat 32 l.length
  az:aJ g i 3= ~~~(BitVec.ofNat 32 l.length)
  a5:aJ g i 4=jP l
  cd:aJ g i 5= ~~~(jP l)
  c5:aJ g i 6=Ap
  fo:aJ g i 7= ~~~Ap
  gx:aJ g i 8=if j1=true then r9 else fq
  jf:aJ g i 9=if j1=true then~~~r9 else fq
  Em:∀j,(h:j<l.length)→g (1500*i+600+j)=l[j]
structure to(g:Nat→BitVec 32)(i:Nat):Prop where
  v:(tB g i).valid=false
  c:(tB g i).kr=false
  s:(tB g i).seq=0#32
theorem KU{g:Nat→BitVec 32}{i:Nat}:h8 (mZ g i)=(decide (aJ g i 1= ~~~(aJ g i 0))&&decide (aJ g i 3= ~~~(aJ g i 2))&&decide (aJ g i 5= ~~~(aJ g i 4))&&(decide (aJ g i 6=Ap)&&decide (aJ g i 7= ~~~Ap))):=by
  unfold h8 pM yu
  simp only [mH (show(0:Nat)<300 by decide),mH (show(0+1:Nat)<300 by decide),mH (show(2:Nat)<300 by decide),mH (show(2+1:Nat)<300 by decide),mH (show(4:Nat)<300 by decide),mH (show(4+1:Nat)<300 by decide),mH (show(6:Nat)<300 by decide),mH (show(6+1:Nat)<300 by decide)]
theorem LK{g:Nat→BitVec 32}{i:Nat}:ls (mZ g i)=(h8 (mZ g i)&&(decide (aJ g i 8=r9)&&decide (aJ g i 9= ~~~r9))):=by
  unfold ls yu
  simp only [mH (show(8:Nat)<300 by decide),mH (show(8+1:Nat)<300 by decide)]
theorem jj.state{g:Nat→BitVec 32}{i:Nat}{l:List (BitVec 32)}{seq:BitVec 32}{j1:Bool}(h:jj g i l seq j1)(a7:l.length≤900):tB g i=⟨seq,BitVec.ofNat 32 l.length,jP l,true,j1,rE g i⟩:=by
  have ck:h8 (mZ g i)=true:=by
    rw [KU,h.b0,h.ab,h.af,h.az,h.a5,h.cd,h.c5,h.fo];simp
  have bg:ls (mZ g i)=j1:=by
    rw [LK,ck,h.gx,h.jf];cases j1<;>rfl
  have e:hC (mZ g i)=⟨seq,BitVec.ofNat 32 l.length,jP l,true,j1,rE g i⟩:=by
    unfold hC;rw [if_pos ck,bg]
    simp only [mH (show(0:Nat)<300 by decide),mH (show(2:Nat)<300 by decide),mH (show(4:Nat)<300 by decide),h.b0,h.af,h.a5]
    rfl
  unfold tB
  rw [if_neg ?_,e]
  rintro(q|q)
  · exact q h.m
  · rw [e]at q;simp only [BitVec.toNat_ofNat]at q;omega
theorem to.Ot{g:Nat→BitVec 32}{i:Nat}(h:aJ g i 7≠~~~Ap):to g i:=by
  have ck:h8 (mZ g i)=false:=by rw [KU,decide_eq_false h];simp
  have e:hC (mZ g i)=⟨0#32,0#32,0#32,false,false,rE g i⟩:=by unfold hC;rw [if_neg (by rw [ck];decide),LK,ck];rfl
  have dd:tB g i=⟨0#32,0#32,0#32,false,false,rE g i⟩:=by
    unfold tB;rw [e]
    by_cases q:g (1500*i)≠fq∨(0#32:BitVec 32).toNat>900
    · rw [if_pos q]
    · rw [if_neg q]
  exact⟨by rw [dd],by rw [dd],by rw [dd]⟩
theorem KV{d:a2}{n:Int}(h:gS d n){k:bL}{i:Nat}(aj:jI k i)(ak:i<2)(g6:d.on=true){l:List (BitVec 32)}{seq:BitVec 32}{j1:Bool}(eJ:jj d.g i l seq j1)(a7:l.length≤900):mI d k=(l,true):=by
 have aB:=(qX h aj ak).trans (eJ.state a7)
 have jA:nb d k=l.length:=by rw [nb,aB];show(BitVec.ofNat 32 l.length).toNat=_;rw [BitVec.toNat_ofNat];omega
 have hw:rQ d k (nb d k)=l:=by
  rw [jA]
  refine List.ext_getElem (by simp [rQ,df]) fun j ab af=>?_
  have:j<l.length:=af
  simp only [rQ,df,List.getElem_map,List.getElem_range,q1,h.w,aj.b]
  rw [show(5*i+2)*300+j=1500*i+600+j by omega]
  exact eJ.Em j this
 unfold mI
 rw [hw,aB,if_pos ⟨rfl,g6,rfl⟩]
theorem zc{d:a2}{n:Int}(h:gS d n){k:bL}{i:Nat}(aj:jI k i)(ak:i<2)(g6:d.on=true){l:List (BitVec 32)}{seq:BitVec 32}{j1:Bool}(eJ:jj d.g i l seq j1)(a7:l.length≤900):fF d k=(j1||decide (rE d.g i<3)):=by
  unfold fF;rw [KV h aj ak g6 eJ a7,qX h aj ak,eJ.state a7];rfl
theorem QT{d:a2}{n:Int}(h:gS d n){k:bL}{i:Nat}(aj:jI k i)(ak:i<2)(eJ:to d.g i):fF d k=false:=by
  unfold fF mI
  rw [if_neg (by rw [qX h aj ak,eJ.v];simp)];rfl
theorem Fw{d:a2}{n:Int}(h:gS d n){k:bL}{i j:Nat}(aj:jI k i)(ak:i<2)(g6:d.on=true){l:List (BitVec 32)}{seq:BitVec 32}{j1:Bool}(eJ:jj d.g i l seq j1)(a7:l.length≤900)(bg:j1=true∨rE d.g i<3):dV d k j=⟨j,seq,!j1,l⟩:=by
  unfold dV;rw [if_pos (by rw [zc h aj ak g6 eJ a7];rcases bg with q|q;rw [q];rfl;rw [decide_eq_true q];simp),KV h aj ak g6 eJ a7,qX h aj ak,eJ.state a7]
theorem jj.congr{g xf:Nat→BitVec 32}{i:Nat}{l:List (BitVec 32)}{seq:BitVec 32}{j1:Bool}(h:jj g i l seq j1)(a7:l.length≤900)
    (e:∀P,1500*i≤P→P<1500*i+1500→(P<1500*i+310∨1500*i+600≤P)→xf P=g P):jj xf i l seq j1:=by
  have k:∀j,j<10→aJ xf i j=aJ g i j:=fun j aY=>e _ (by omega) (by omega) (.inl (by omega))
  exact⟨by rw [e _ (by omega) (by omega) (.inl (by omega))];exact h.m,by rw [k 0 (by decide)];exact h.b0,by rw [k 1 (by decide)];exact h.ab,by rw [k 2 (by decide)];exact h.af,by rw [k 3 (by decide)];exact h.az,by rw [k 4 (by decide)];exact h.a5,by rw [k 5 (by decide)];exact h.cd,
    by rw [k 6 (by decide)];exact h.c5,by rw [k 7 (by decide)];exact h.fo,by rw [k 8 (by decide)];exact h.gx,by rw [k 9 (by decide)];exact h.jf,fun j aY=>by rw [e _ (by omega) (by omega) (.inr (by omega))];exact h.Em j aY⟩
theorem KW(d:a2)(o:h6):fK d [o]=lg d o:=by
  rw [fK];split
  · rename_i h;rw [fK];exact Prod.ext rfl h.symm
  · rfl
theorem Ou(l:List (BitVec 32)):kj l 3=(if ef l 10=fq then 0 else 1)+(if ef l 11=fq then 0 else 1)+(if ef l 12=fq then 0 else 1):=by
  simp only [kj]
  split<;>split<;>split<;>simp_all
theorem S3{l:List (BitVec 32)}(h:kj l 3<3):∃t,t<3∧na l=(((10+t:Nat):Int),true)∧ef l (10+t)=fq∧∀j,j<t→ef l (10+j)≠fq:=by
 rw [Ou]at h
 by_cases a:ef l 10=fq
 ·exact⟨0,by decide,by unfold na;simp [List.range_succ,a],a,fun j aY=>by omega⟩
 by_cases b:ef l 11=fq
 ·refine⟨1,by decide,by unfold na;simp [List.range_succ,a,b],b,fun j aY=>?_⟩
  obtain rfl:j=0:=by omega
  exact a
 by_cases c:ef l 12=fq
 ·refine⟨2,by decide,by unfold na;simp [List.range_succ,a,b,c],c,fun j aY=>?_⟩
  rcases(show j=0∨j=1 by omega)with rfl|rfl
  ·exact a
  exact b
 rw [if_neg a,if_neg b,if_neg c]at h;omega
theorem gS.o8{d:a2}{n:Int}(h:gS d n)(z:Bool):gS (ga d z) n:=⟨h.w,h.b,h.lj,h.wr⟩
theorem UA{d:a2}{ad:Nat→bL}(b0:fF d (ad 0)=true)(ab:fF d (ad 1)=false):nf d ad=[0]:=by
  unfold nf;rw [if_neg (by rw [ab];simp),if_pos b0,if_neg (by rw [ab];decide)];rfl
theorem MI{d:a2}{n:Int}(h:gS d n){lq:List (BitVec 32)}(eJ:jj d.g 0 lq 1#32 true)(a7:lq.length≤900)(aB:jM lq=true)(ab:fF (db d) (bi d 1)=false):
    j4 d=some 0∧kG d=0∧bm d=db d∧e5 d 0=⟨0,1#32,false,lq⟩:=by
  have br:gS (db d) n:=h.o8 true
  have bg:fF (db d) (bi d 0)=true:=by rw [zc br (oy h 0) (by decide) rfl eJ a7];rfl
  have ck:e5 d 0=⟨0,1#32,false,lq⟩:=Fw br (oy h 0) (by decide) rfl eJ a7 (.inl rfl)
  have aY:j4 d=some 0:=by
    unfold j4;rw [UA bg ab]
    rw [List.find?_cons_of_pos (by rw [ck];exact aB)]
  have et:e9 (db d) (bi d 0)=(db d,0,true):=by
    unfold e9;rw [if_pos rfl,if_pos bg,if_pos (by rw [qX br (oy h 0) (by decide),eJ.state a7])]
  exact⟨aY,by unfold kG;rw [aY];show(e9 (db d) (bi d 0)).2.1=0;rw [et],by unfold bm;rw [aY];show(e9 (db d) (bi d 0)).1=_;rw [et],ck⟩
theorem MJ{d:a2}{n:Int}(h:gS d n){lq cL:List (BitVec 32)}{j1:Bool}(eJ:jj d.g 0 lq 1#32 true)(a7:lq.length≤900)(bb:jj d.g 1 cL 2#32 j1)(En:cL.length≤900)(aB:jM cL=true)(bg:j1=true∨rE d.g 1<3):
  j4 d=some 1∧e5 d 1=⟨1,2#32,!j1,cL⟩∧(j1=true→kG d=0∧bm d=db d)∧
  (j1=false→∃t,t<3∧aJ d.g 1 (10+t)=fq∧(∀j,j<t→aJ d.g 1 (10+j)≠fq)∧kG d=(fK (db d) [.p 6 (10+t) 0#32]).2∧bm d=(fK (db d) [.p 6 (10+t) 0#32]).1):=by
 have br:gS (db d) n:=h.o8 true
 have mY:fF (db d) (bi d 0)=true:=by rw [zc br (oy h 0) bu rfl eJ a7];rfl
 have jn:fF (db d) (bi d 1)=true:=by rw [zc br (oy h 1) bu rfl bb En];rcases bg with q|q;rw [q];rfl;rw [decide_eq_true q];simp
 have qJ:dV (db d) (bi d 0) 0=⟨0,1#32,false,lq⟩:=Fw br (oy h 0) bu rfl eJ a7 (.inl rfl)
 have ck:e5 d 1=⟨1,2#32,!j1,cL⟩:=Fw br (oy h 1) bu rfl bb En bg
 have et:=qX br (oy h 1) (by decide:1<2)
 rw [bb.state En]at et
 have aY:j4 d=some 1:=by
  unfold j4 nf;rw [if_pos ⟨mY,jn⟩,qJ,if_pos (by rw [show dV (db d) (bi d 1) 1=e5 d 1 from rfl,ck];show(1#32:BitVec 32).toNat<(2#32:BitVec 32).toNat;decide)]
  rw [List.find?_cons_of_pos (by rw [ck];exact aB)]
 refine⟨aY,ck,fun q=>?_,fun q=>?_⟩
 ·subst q
  have cq:e9 (db d) (bi d 1)=(db d,0,true):=by unfold e9;rw [if_pos rfl,if_pos jn,if_pos (by rw [et])]
  exact⟨by unfold kG;rw [aY];show(e9 (db d) (bi d 1)).2.1=0;rw [cq],by unfold bm;rw [aY];show(e9 (db d) (bi d 1)).1=_;rw [cq]⟩
 subst q
 have aR:rE d.g 1<3:=bg.resolve_left bu
 obtain⟨t,acI,yJ,nF,acJ⟩:=S3 (l:=mZ d.g 1) aR
 rw [mH al]at nF
 have aaB:nZ (db d) (((bi d 1).base:Int)+1)=mZ d.g 1:=Nr br (oy h 1) bu
 have YL:((bi d 1).base:Int)+1=((6:Nat):Int):=by rw [(oy h 1).b];rfl
 have tv:jR (db d) (bi d 1)=lg (db d) (.p 6 (10+t) 0#32):=by
  unfold jR
  rw [if_pos rfl,et,aaB,yJ,if_pos ⟨rfl,rfl,rfl⟩,YL];rfl
 refine⟨t,acI,nF,fun j mw=>by have:=acJ j mw;rwa [mH al]at this,?_,?_⟩
 ·unfold kG;rw [aY];show(e9 (db d) (bi d 1)).2.1=_
  unfold e9;rw [if_pos rfl,if_pos jn,if_neg (by rw [et];simp),tv,KW]
  split
  ·rename_i z;rw [z]
  rfl
 unfold bm;rw [aY];show(e9 (db d) (bi d 1)).1=_
 unfold e9;rw [if_pos rfl,if_pos jn,if_neg (by rw [et];simp),tv,KW]
 split<;>rfl
def mK(i:Nat):List h6:=[.p (5*i) 0 0#32,.e (5*i+1),.e (5*i+2),.e (5*i+3),.e (5*i+4),.e (5*i)]
def kw(i:Nat):Nat→List (BitVec 32)→List h6
  |_,[]=>[]
  |n,w::l=> .p (5*i+2+n/300) (n%300) w::kw i (n+1) l
def gV(i:Nat)(l:List (Nat×BitVec 32)):List h6:=l.map fun p=> .p (5*i+1) p.1 p.2
abbrev GY(i:Nat)(l:List (BitVec 32))(seq:BitVec 32):List h6:=gV i (k9 seq (BitVec.ofNat 32 l.length) (jP l))
def n2(i:Nat)(l:List (BitVec 32))(seq:BitVec 32):List h6:=mK i++(kw i 0 l++(GY i l seq++gV i iH))
theorem Wq(d:a2)(s w:Int)(x:BitVec 32):(fG d s w x).1.words=d.words:=by
  unfold fG;repeat' split
  all_goals rfl
theorem JI:∀(l:List Nat) (d:a2),iR d l=fK d (l.map h6.e)
  |[],d=>rfl
  |n::l,d=>by rw [iR,List.map_cons,fK,JI l];rfl
theorem y6{k:bL}{i:Nat}(aj:jI k i):∀(l:List (Nat×BitVec 32)) (d:a2),eo k d l=fK d (gV i l)
  |[],d=>rfl
  |p::l,d=>by
    have e:((k.base:Int)+1)=((5*i+1:Nat):Int):=by rw [aj.b];rfl
    rw [eo,gV,List.map_cons,fK,e,y6 aj l];rfl
theorem UB{d:a2}{n:Int}(h:gS d n)(a7:n<1000)(k:bL):qq d k=false:=by
  unfold qq;rw [List.any_eq_false]
  intro s _;have:=h.wr s;rw [h.lj];simp;omega
theorem JJ{d:a2}{n:Int}(h:gS d n)(a7:n<1000){k:bL}{i:Nat}(aj:jI k i)(g6:d.on=true):a1 d k=((fK d (mK i)).1,if(fK d (mK i)).2=0 then k.fresh else k.shut,(fK d (mK i)).2):=by
  have dc:ev d k=lg d (.p (5*i) 0 0#32):=by rw [ev,aj.b];rfl
  have dd:gh k=[5*i+1,5*i+2,5*i+3,5*i+4,5*i]:=by unfold gh;rw [aj.m,aj.b];rfl
  have fD:mK i= .p (5*i) 0 0#32::(gh k).map h6.e:=by rw [dd];rfl
  unfold a1
  rw [if_pos g6,UB h a7,if_neg (by decide),dc,fD,fK]
  split
  · rw [JI];split<;>simp_all
  · rfl
theorem Fx{i:Nat}:∀(l:List (BitVec 32)) {d:a2} {k:bL},d.words=300→jI k i→(ks d k l).1=(fK d (kw i k.put l)).1∧(ks d k l).2.2=(fK d (kw i k.put l)).2∧
  ((fK d (kw i k.put l)).2=0→(ks d k l).2.1=⟨k.base,k.many,k.lZ,k.put+l.length,l.foldl wh k.sum,(ks d k l).2.1.oa⟩)
 |[],d,k,_,_=>⟨rfl,rfl,fun _=>rfl⟩
 |w::l,d,k,hw,aj=>by
  have dc:rb d k w=lg d (.p (5*i+2+k.put/300) (k.put%300) w):=by rw [rb,hw,aj.b];rfl
  have dd:(lg d (.p (5*i+2+k.put/300) (k.put%300) w)).1.words=300:=(Wq d _ _ _).trans hw
  rw [ks,kw,fK,dc]
  by_cases q:(lg d (.p (5*i+2+k.put/300) (k.put%300) w)).2=0
  ·rw [if_pos q,if_pos q]
   obtain⟨cE,c2,m2⟩:=Fx l (d:=(lg d (.p (5*i+2+k.put/300) (k.put%300) w)).1) (k:=k.Af w) dd ⟨aj.b,aj.m⟩
   refine⟨cE,c2,fun z=>(m2 z).trans ?_⟩
   rw [show(k.Af w).put+l.length=k.put+(w::l).length from by show k.put+1+l.length=k.put+(l.length+1);omega];rfl
  rw [if_neg q,if_neg q];exact⟨rfl,rfl,fun z=>absurd z q⟩
theorem Jr{d:a2}{k:bL}{i:Nat}(aj:jI k i)(ap:k.lZ=true)(aE:k.put≠0)(seq:BitVec 32):dU d k seq=((fK d (gV i (j3 k seq)++gV i iH)).1,k.shut,(fK d (gV i (j3 k seq)++gV i iH)).2):=by
  have jm:jI k.shut i:=⟨aj.b,aj.m⟩
  unfold dU
  rw [if_pos ⟨ap,aE⟩,y6 jm,y6 jm,Cj]
  split
  · rfl
  · rfl
abbrev sa(i P:Nat):Prop:=1500*i≤P∧P<1500*i+1500
def wW(i:Nat):h6→Prop
  | .p s w _=>5*i≤s∧s<5*i+5∧w<300
  | .e s=>5*i≤s∧s<5*i+5
theorem UC{i:Nat}{o:h6}(h:wW i o){P:Nat}(oo:¬sa i P)(g:Nat→BitVec 32):qP g o P=g P:=by
  cases o with
  |p s w x=>obtain⟨ab,af,az⟩:=h;exact fs _ _ (by rintro rfl;exact oo ⟨by omega,by omega⟩)
  |e s=>obtain⟨ab,af⟩:=h;simp only [qP,PR,k8];rw [if_neg (by rintro⟨a,b⟩;exact oo ⟨by omega,by omega⟩)]
theorem agq{i:Nat}{o:h6}(h:wW i o){P:Nat}(oo:¬sa i P)(z:BitVec 32)(g:Nat→BitVec 32):PR z g o P=g P:=by
  cases o with
  |p s w x=>obtain⟨ab,af,az⟩:=h;exact fs _ _ (by rintro rfl;exact oo ⟨by omega,by omega⟩)
  |e s=>obtain⟨ab,af⟩:=h;simp only [qP,PR,k8];rw [if_neg (by rintro⟨a,b⟩;exact oo ⟨by omega,by omega⟩)]
theorem xG{i:Nat}{l:List h6}(h:∀o,o∈l→wW i o){P:Nat}(oo:¬sa i P)(g:Nat→BitVec 32):hI g l P=g P:=
  S2 (Q:=fun xf=>xf P=g P) rfl fun o ap xf e=>(UC (h o ap) oo xf).trans e
theorem LL{i:Nat}:∀o,o∈mK i→wW i o:=by
  intro o ap
  simp only [mK,List.mem_cons,List.not_mem_nil,or_false]at ap
  rcases ap with rfl|rfl|rfl|rfl|rfl|rfl<;>simp only [wW]<;>omega
theorem GZ{i:Nat}:∀(l:List (BitVec 32)) (n:Nat),n+l.length≤900→∀o,o∈kw i n l→wW i o
  |[],n,_,o,ap=>by cases ap
  |w::l,n,a7,o,ap=>by
    rw [List.length_cons]at a7
    rw [kw,List.mem_cons]at ap
    rcases ap with rfl|ap
    · exact⟨by omega,by omega,by omega⟩
    · exact GZ l (n+1) (by omega) o ap
theorem Ht{i:Nat}{l:List (Nat×BitVec 32)}(aJ:∀p,p∈l→p.1<300):∀o,o∈gV i l→wW i o:=by
  intro o ap
  obtain⟨p,aE,rfl⟩:=List.mem_map.1 ap
  exact⟨by omega,by omega,aJ p aE⟩
theorem agn{x y z:BitVec 32}:∀p,p∈k9 x y z→p.1<6:=by
  intro p aE;simp only [k9,jx,List.mem_append,List.mem_cons,List.not_mem_nil,or_false]at aE
  rcases aE with((rfl|rfl)|(rfl|rfl))|(rfl|rfl)<;>simp
theorem vK(i:Nat)(g:Nat→BitVec 32)(P:Nat):hI g (mK i) P=if sa i P then fq else g P:=by
  simp only [mK,hI,List.foldl_cons,List.foldl_nil,qP,k8,bF,sa]
  repeat' split
  all_goals first|rfl|(exfalso;omega)
theorem Fy{i:Nat}(ak:i<2)(g:Nat→BitVec 32):okF g (mK i):=
  ⟨⟨by omega,by decide,by simp⟩,(by show 5*i+1<10;omega),(by show 5*i+2<10;omega),(by show 5*i+3<10;omega),(by show 5*i+4<10;omega),(by show 5*i<10;omega),trivial⟩
theorem xz{i:Nat}:∀(l:List (BitVec 32)) (n:Nat) (g:Nat→BitVec 32) (P:Nat),¬(1500*i+600+n≤P∧P<1500*i+600+n+l.length)→hI g (kw i n l) P=g P
  |[],n,g,P,_=>rfl
  |w::l,n,g,P,h=>by
    rw [List.length_cons]at h
    show hI (qP g (.p (5*i+2+n/300) (n%300) w)) (kw i (n+1) l) P=_
    rw [xz l (n+1) _ P (by omega)]
    exact fs _ _ (by omega)
theorem LM{i:Nat}:∀(l:List (BitVec 32)) (n:Nat) (g:Nat→BitVec 32) (j:Nat),(h:j<l.length)→hI g (kw i n l) (1500*i+600+n+j)=l[j]
  |w::l,n,g,0,h=>by
    show hI (qP g (.p (5*i+2+n/300) (n%300) w)) (kw i (n+1) l) _=_
    rw [xz l (n+1) _ _ (by omega)]
    show bF g _ w _=w
    rw [show 1500*i+600+n+0=(5*i+2+n/300)*300+n%300 by omega];exact e8 _ _ _
  |w::l,n,g,j+1,h=>by
    show hI (qP g (.p (5*i+2+n/300) (n%300) w)) (kw i (n+1) l) _=_
    rw [show 1500*i+600+n+(j+1)=1500*i+600+(n+1)+j by omega]
    exact LM l (n+1) _ j (by simpa using h)
theorem KX(x:BitVec 32):x&&&~~~fq=0#32:=by
  rw [show(~~~fq:BitVec 32)=0#32 from by decide];simp
theorem CL{i:Nat}(ak:i<2):∀(l:List (BitVec 32)) (n:Nat) (g:Nat→BitVec 32),n+l.length≤900→(∀j,j<l.length→g (1500*i+600+n+j)=fq)→okF g (kw i n l)
 |[],n,g,_,_=>trivial
 |w::l,n,g,a7,h=>by
  rw [List.length_cons]at a7
  refine⟨⟨by omega,by omega,?_⟩,CL ak l (n+1) _ al fun j aY=>?_⟩
  ·rw [show(5*i+2+n/300)*300+n%300=1500*i+600+n+0 by omega,h 0 (by simp)];exact KX w
  show bF g _ w _=_
  rw [fs _ _ al,show 1500*i+600+(n+1)+j=1500*i+600+n+(j+1)by omega];exact h (j+1) (by simp;omega)
theorem xH{i:Nat}:∀(l:List (Nat×BitVec 32)) (g:Nat→BitVec 32) (P:Nat),(∀p,p∈l→P≠1500*i+300+p.1)→hI g (gV i l) P=g P
  |[],g,P,_=>rfl
  |p::l,g,P,h=>by
    show hI (qP g (.p (5*i+1) p.1 p.2)) (gV i l) P=_
    rw [xH l _ P (fun q bP=>h q (.tail _ bP))]
    exact fs _ _ (by have:=h p (.head _);omega)
theorem xW{i:Nat}:∀(l:List (Nat×BitVec 32)) (g:Nat→BitVec 32),(l.map (·.1)).Nodup→∀p,p∈l→hI g (gV i l) (1500*i+300+p.1)=p.2
  |q::l,g,a7,p,aE=>by
    rw [List.map_cons,List.nodup_cons]at a7
    show hI (qP g (.p (5*i+1) q.1 q.2)) (gV i l) _=_
    rcases List.mem_cons.1 aE with rfl|aE
    · rw [xH l _ _ (fun r bk e=>a7.1 (List.mem_map.2 ⟨r,bk,by omega⟩))]
      show bF g _ p.2 _=_
      rw [show 1500*i+300+p.1=(5*i+1)*300+p.1 by omega];exact e8 _ _ _
    · exact xW l _ a7.2 p aE
theorem zK{i:Nat}(ak:i<2):∀(l:List (Nat×BitVec 32)) (g:Nat→BitVec 32),(l.map (·.1)).Nodup→(∀p,p∈l→p.1<300)→(∀p,p∈l→g (1500*i+300+p.1)=fq)→okF g (gV i l)
 |[],g,_,_,_=>trivial
 |q::l,g,a7,az,bb=>by
  rw [List.map_cons,List.nodup_cons]at a7
  refine⟨⟨by omega,az q (.head _),?_⟩,zK ak l _ a7.2 (fun p aE=>az p (.tail _ aE)) fun p aE=>?_⟩
  ·rw [show(5*i+1)*300+q.1=1500*i+300+q.1 by omega,bb q (.head _)];exact KX _
  show bF g _ q.2 _=_
  rw [fs _ _ (fun e=>a7.1 (List.mem_map.2 ⟨p,aE,by omega⟩))];exact bb p (.tail _ aE)
abbrev rs(l:List (BitVec 32))(seq:BitVec 32):List (Nat×BitVec 32):=k9 seq (BitVec.ofNat 32 l.length) (jP l)++iH
theorem LN(l:List (BitVec 32))(seq:BitVec 32):(rs l seq).map (·.1)=[0,1,2,3,4,5,6,7]:=rfl
theorem Gx(l:List (BitVec 32))(seq:BitVec 32):((rs l seq).map (·.1)).Nodup:=by rw [LN];decide
theorem ur{l:List (BitVec 32)}{seq:BitVec 32}:∀p,p∈rs l seq→p.1<8:=fun p aE=>by
  have:p.1∈(rs l seq).map (·.1):=List.mem_map.2 ⟨p,aE,rfl⟩
  rw [LN]at this
  simp only [List.mem_cons,List.not_mem_nil,or_false]at this
  omega
theorem CM(i:Nat)(l:List (BitVec 32))(seq:BitVec 32):n2 i l seq=mK i++(kw i 0 l++gV i (rs l seq)):=by
  unfold n2 rs;rw [show gV i (k9 seq (BitVec.ofNat 32 l.length) (jP l)++iH)=GY i l seq++gV i iH from List.map_append]
theorem KY(l m:List h6):n1 (l++m)=n1 l+n1 m:=by unfold n1;rw [List.filter_append,List.length_append]
theorem xA(i:Nat):∀(l:List (BitVec 32)) (n:Nat),n1 (kw i n l)=0
  |[],n=>rfl
  |w::l,n=>by rw [kw,Fc,xA i l];rfl
theorem sR(i:Nat):∀(l:List (Nat×BitVec 32)),n1 (gV i l)=0
  |[]=>rfl
  |p::l=>by rw [gV,List.map_cons,Fc,show l.map (fun p:Nat×BitVec 32=>h6.p (5*i+1) p.1 p.2)=gV i l from rfl,sR i l];rfl
theorem KZ(i:Nat)(l:List (BitVec 32))(seq:BitVec 32):n1 (n2 i l seq)=5:=by
  rw [CM,KY,KY,xA,sR];rfl
theorem afV(i:Nat):∀(l:List (BitVec 32)) (n:Nat),(kw i n l).length=l.length
  |[],n=>rfl
  |w::l,n=>by rw [kw,List.length_cons,afV i l,List.length_cons]
theorem agr(i:Nat)(l:List (BitVec 32))(seq:BitVec 32):(n2 i l seq).length=l.length+14:=by
  rw [CM,List.length_append,List.length_append,afV,show(mK i).length=6 from rfl,show(gV i (rs l seq)).length=8 from rfl];omega
theorem Ns{i:Nat}{l:List (BitVec 32)}{seq:BitVec 32}(a7:l.length≤900):∀o,o∈n2 i l seq→wW i o:=by
  intro o ap
  rw [CM]at ap
  rcases List.mem_append.1 ap with q|q
  · exact LL o q
  · rcases List.mem_append.1 q with q|q
    · exact GZ l 0 (by omega) o q
    · exact Ht (fun p aE=>by have:=ur p aE;omega) o q
theorem C6{i:Nat}{l:List (BitVec 32)}{seq:BitVec 32}(g:Nat→BitVec 32):hI g (n2 i l seq)=hI (hI (hI g (mK i)) (kw i 0 l)) (gV i (rs l seq)):=by
  rw [CM,LJ,LJ]
theorem Wr{i:Nat}(ak:i<2){l:List (BitVec 32)}{seq:BitVec 32}(a7:l.length≤900)(g:Nat→BitVec 32):okF g (n2 i l seq):=by
 rw [CM]
 refine F2 _ _ _ (Fy ak g) (F2 _ _ _ (CL ak l 0 _ al fun j aY=>?_) (zK ak _ _ (Gx l seq) (fun p aE=>by have:=ur p aE;omega) fun p aE=>?_))
 ·rw [vK,if_pos ⟨by omega,by omega⟩]
 have:=ur p aE
 rw [xz l 0 _ _ al,vK,if_pos ⟨by omega,by omega⟩]
theorem B8{i:Nat}{l:List (BitVec 32)}{seq:BitVec 32}(g:Nat→BitVec 32){P:Nat}(ab:sa i P)(af:¬(1500*i+300≤P∧P<1500*i+308))(az:¬(1500*i+600≤P∧P<1500*i+600+l.length)):hI g (n2 i l seq) P=fq:=by
  rw [C6,xH _ _ _ (fun p aE e=>by have:=ur p aE;omega),xz l 0 _ _ (by omega),vK,if_pos ab]
theorem J4{i:Nat}{l:List (BitVec 32)}{seq:BitVec 32}(a7:l.length≤900)(g:Nat→BitVec 32):jj (hI g (n2 i l seq)) i l seq false:=by
  have aD:∀p,p∈rs l seq→aJ (hI g (n2 i l seq)) i p.1=p.2:=fun p aE=>by
    show hI g (n2 i l seq) (1500*i+300+p.1)=_
    rw [C6];exact xW _ _ (Gx l seq) p aE
  exact⟨B8 g ⟨by omega,by omega⟩ (by omega) (by omega),aD (0,_) (.head _),aD (1,_) (.tail _ (.head _)),aD (2,_) (.tail _ (.tail _ (.head _))),aD (3,_) (.tail _ (.tail _ (.tail _ (.head _)))),
    aD (4,_) (.tail _ (.tail _ (.tail _ (.tail _ (.head _))))),aD (5,_) (.tail _ (.tail _ (.tail _ (.tail _ (.tail _ (.head _)))))),aD (6,_) (.tail _ (.tail _ (.tail _ (.tail _ (.tail _ (.tail _ (.head _))))))),aD (7,_) (.tail _ (.tail _ (.tail _ (.tail _ (.tail _ (.tail _ (.tail _ (.head _)))))))),
    B8 g ⟨by omega,by omega⟩ (by omega) (by omega),B8 g ⟨by omega,by omega⟩ (by omega) (by omega),fun j aY=>by
      rw [C6,xH _ _ _ (fun p aE e=>by have:=ur p aE;omega)]
      have:=LM (i:=i) l 0 (hI g (mK i)) j aY
      rwa [Nat.add_zero]at this⟩
theorem afT{g:Nat→BitVec 32}{i:Nat}(h:∀j,j<3→aJ g i (10+j)=fq):rE g i=0:=by
  unfold rE;rw [Ou]
  rw [mH (by decide),mH (by decide),mH (by decide),if_pos (h 0 (by decide)),if_pos (h 1 (by decide)),if_pos (h 2 (by decide))];rfl
theorem Ws{i:Nat}{l:List (BitVec 32)}{seq:BitVec 32}(g:Nat→BitVec 32):∀j,j<3→aJ (hI g (n2 i l seq)) i (10+j)=fq:=fun j aY=>B8 g ⟨by omega,by omega⟩ (by omega) (by omega)
def ZR(i:Nat)(l:List (BitVec 32))(seq:BitVec 32):List h6:=mK i++(kw i 0 l++gV i (k9 seq (BitVec.ofNat 32 l.length) (jP l)++[(6,Ap)]))
theorem afz(i:Nat)(l:List (BitVec 32))(seq:BitVec 32):n2 i l seq=ZR i l seq++[.p (5*i+1) 7 (~~~Ap)]:=by
  rw [CM,ZR,List.append_assoc,List.append_assoc];rfl
theorem ago(x:BitVec 32):fq|||x=fq:=by
  rw [show fq=BitVec.allOnes 32 from by decide];exact BitVec.allOnes_or
def afL(P:Nat):h6→Prop
  | .p s w _=>s*300+w≠P
  | .e _=>True
theorem agz{P:Nat}{o:h6}(h:afL P o){g:Nat→BitVec 32}(bh:g P=fq):qP g o P=fq:=by
  cases o with
  |p s w x=>exact(fs _ _ (Ne.symm h)).trans bh
  |e s=>simp only [qP,k8];split;rfl;exact bh
theorem agA{P:Nat}{o:h6}(h:afL P o){g:Nat→BitVec 32}(bh:g P=fq)(z:BitVec 32):PR z g o P=fq:=by
  cases o with
  |p s w x=>exact(fs _ _ (Ne.symm h)).trans bh
  |e s=>
    simp only [PR,k8];split
    · rw [bh];exact ago _
    · exact bh
theorem afW{i:Nat}{l:List (BitVec 32)}{seq:BitVec 32}(a7:l.length≤900):∀o,o∈ZR i l seq→afL (1500*i+307) o:=by
  have pl:∀(l:List (BitVec 32)) (n:Nat),n+l.length≤900→∀o,o∈kw i n l→afL (1500*i+307) o:=by
    intro l
    induction l with
    |nil=>intro n _ o ap;cases ap
    |cons w l ih=>
      intro n a7 o ap
      rw [List.length_cons]at a7
      rw [kw,List.mem_cons]at ap
      rcases ap with rfl|ap
      · show _≠_;omega
      · exact ih (n+1) (by omega) o ap
  intro o ap
  rcases List.mem_append.1 ap with q|q
  · simp only [mK,List.mem_cons,List.not_mem_nil,or_false]at q
    rcases q with rfl|rfl|rfl|rfl|rfl|rfl
    · show _≠_;omega
    all_goals trivial
  · rcases List.mem_append.1 q with q|q
    · exact pl l 0 (by omega) o q
    · obtain⟨p,aE,rfl⟩:=List.mem_map.1 q
      show(5*i+1)*300+p.1≠_
      rcases List.mem_append.1 aE with aE|aE
      · have:=agn p aE;omega
      · rw [List.mem_singleton]at aE;subst aE;show _+6≠_;omega
theorem ags{d r:a2}{i:Nat}{l:List (BitVec 32)}{seq:BitVec 32}(a7:l.length≤900)(h:Hs d (n2 i l seq) r)(bb:aJ d.g i 7=fq):
  (∀P,¬sa i P→r.g P=d.g P)∧(to r.g i∨jj r.g i l seq false∧∀j,j<3→aJ r.g i (10+j)=fq):=by
 obtain⟨k,o,ab,_,az⟩:=h.c
 have hm:o∈n2 i l seq:=List.mem_of_getElem? ab
 have aj:k<(n2 i l seq).length:=(List.getElem?_eq_some_iff.1 ab).1
 have tv:∀p,p∈(n2 i l seq).take k→p∈n2 i l seq:=fun p aE=>List.mem_of_mem_take aE
 refine⟨fun P oo=>?_,?_⟩
 ·rw [az,agq (Ns a7 o hm) oo,xG (fun p aE=>Ns a7 p (tv p aE)) oo]
 have hlen:(n2 i l seq).length=(ZR i l seq).length+1:=by rw [afz,List.length_append];rfl
 by_cases agB:k<(ZR i l seq).length
 ·refine .inl (to.Ot ?_)
  have dc:(n2 i l seq).take k=(ZR i l seq).take k:=by rw [afz,List.take_append_of_le_length al]
  have dd:o∈ZR i l seq:=by
   rw [afz,List.getElem?_append_left agB]at ab;exact List.mem_of_getElem? ab
  have fD:hI d.g ((n2 i l seq).take k) (1500*i+307)=fq:=by
   rw [dc]
   exact S2 (Q:=fun g=>g (1500*i+307)=fq) bb fun p aE g bh=>agz (afW a7 p (List.mem_of_mem_take aE)) bh
  have yT:aJ r.g i 7=fq:=by
   show r.g (1500*i+307)=_
   rw [az];exact agA (afW a7 o dd) fD _
  rw [yT];decide
 have jm:k=(ZR i l seq).length:=by omega
 have dc:(n2 i l seq).take k=ZR i l seq:=by rw [afz,jm,List.take_left]
 have dd:o= .p (5*i+1) 7 (~~~Ap):=by
  rw [afz,jm,List.getElem?_append_right (Nat.le_refl _),Nat.sub_self]at ab
  exact(Option.some.inj ab).symm
 subst dd
 rw [dc]at az
 by_cases ck:aJ r.g i 7= ~~~Ap
 ·right
  have fD:r.g=hI d.g (n2 i l seq):=by
   rw [afz,LJ]
   show r.g=bF (hI d.g (ZR i l seq)) _ _
   funext P
   by_cases oo:P=(5*i+1)*300+7
   ·subst oo;rw [e8, ←ck];show _=r.g _;congr 1;omega
   rw [fs _ _ oo,az];exact fs _ _ oo
  rw [fD]
  exact⟨J4 a7 d.g,Ws d.g⟩
 exact .inl (to.Ot ck)
theorem DE{P:Nat}(h:1500*0≤P)(af:P<1500*0+1500):¬sa 1 P:=fun q=>by have:=q.1;omega
theorem Fz{d:a2}{n:Int}(h:gS d n){k:bL}(aj:jI k 0)(g6:d.on=true){lq:List (BitVec 32)}(eJ:jj d.g 0 lq 1#32 true)(jV:lq.length≤900):kl d ((0:Nat):Int) k=0:=by
  unfold kl vV
  rw [if_pos g6,if_pos (show(0:Int)≤((0:Nat):Int)by decide),qX h aj (by decide),eJ.state jV];rfl
theorem Wt{d:a2}{n:Int}(h:gS d n){ad:Nat→bL}(qf:jI (ad 0) 0)(eR:jI (ad 1) 1){lq:List (BitVec 32)}(eJ:jj d.g 0 lq 1#32 true)(jV:lq.length≤900)(aD:to d.g 1):nc d ad=(2#32,0):=by
  have ht:uO d ad 0=1#32:=by show(fM d (ad 0)).seq=_;rw [qX h qf (by decide),eJ.state jV]
  have dc:uO d ad 1=0#32:=by show(fM d (ad 1)).seq=_;rw [qX h eR (by decide),aD.s]
  show Nb (Ag (Ag 0#32 (uO d ad 0)) (uO d ad 1))=_
  rw [ht,dc];decide
theorem K0{d:a2}{i:Nat}{k:bL}(hw:d.words=300)(aj:jI k i)(ap:k.lZ=true)(b0:k.put=0){l:List (BitVec 32)}(a7:l.length≤900):b2 d k l=ks d k l:=by
  have e:nT d k=900:=by rw [nT,hw,aj.m];rfl
  unfold b2
  rw [if_pos ap,e,b0,if_neg (by omega)]
theorem UD{d:a2}{n:Int}(h:gS d n)(a7:n+5<1000)(g6:d.on=true)(aO:d.ew=true→0≤d.a3){ad:Nat→bL}(qf:jI (ad 0) 0)(eR:jI (ad 1) 1){lq cL:List (BitVec 32)}(eJ:jj d.g 0 lq 1#32 true)(jV:lq.length≤900)(b0:0<cL.length)(od:cL.length≤900):
    (bO d ad 0 cL).1=(fK d (n2 1 cL 2#32)).1∧(bO d ad 0 cL).2.2=(fK d (n2 1 cL 2#32)).2:=by
  have adN:n2 1 cL 2#32=mK 1++(kw 1 0 cL++(GY 1 cL 2#32++gV 1 iH)):=rfl
  have sG:=JJ h (by omega) eR g6
  have dc:eC d ad 0 cL 1=a1 d (ad 1):=by
    show e3 d ((0:Nat):Int) (ad 0) (ad (1-0))=_
    unfold e3;rw [if_pos (Fz h qf g6 eJ jV)]
  rw [adN,Cj]
  rcases sH (mK 1) h (by show n+((5:Nat):Int)<1000;omega) g6 aO (Fy (by decide) d.g)with⟨q,b7,acK⟩|⟨q,om⟩
  · rw [if_pos q]
    generalize OV:(fK d (mK 1)).1=d1 at b7 acK sG
    rw [q,if_pos rfl]at sG
    have f1:gS d1 (n+5):=h.go b7.s (by show n+((5:Nat):Int)≤n+5;omega)
    have PT:jj d1.g 0 lq 1#32 true:=eJ.congr jV fun P kd gk _=>by rw [b7.g];exact xG (fun o ap=>LL o ap) (DE kd gk) d.g
    have pE:d1.ew=true→0≤d1.a3:=fun z=>by
      rw [b7.ew]at z
      have bY:=b7.a3 z
      have bK:=aO z
      omega
    have BE:jI (ad 1).fresh 1:=⟨eR.b,eR.m⟩
    have dd:eC d ad 0 cL 2=ks d1 (ad 1).fresh cL:=by
      show e4 (eC d ad 0 cL 1).1 ((0:Nat):Int) (ad 0) (eC d ad 0 cL 1).2.1 cL=_
      rw [dc,sG]
      unfold e4
      rw [if_pos (Fz f1 qf b7.on PT jV)]
      exact K0 f1.w BE rfl rfl od
    obtain⟨kd,gk,kN⟩:=Fx cL (d:=d1) (k:=(ad 1).fresh) f1.w BE
    rw [show(ad 1).fresh.put=0 from rfl]at kd gk kN
    have Ib:okF d1.g (kw 1 0 cL):=CL (by decide) cL 0 _ (by omega) fun j aY=>by rw [b7.g,vK,if_pos ⟨by omega,by omega⟩]
    have iA:¬(eC d ad 0 cL 1).2.2≠0:=by rw [dc,sG];simp
    rw [Cj]
    rcases sH (kw 1 0 cL) f1 (by rw [xA];show n+5+((0:Nat):Int)<1000;omega) b7.on pE Ib with⟨z,nE,_⟩|⟨z,om⟩
    · rw [if_pos z]
      rw [z]at gk
      have kN:=kN z
      generalize yo:(fK d1 (kw 1 0 cL)).1=d2 at nE kd
      have f2:gS d2 (n+5):=f1.go nE.s (by rw [xA];omega)
      have PU:jj d2.g 0 lq 1#32 true:=PT.congr jV fun P bY bK _=>by rw [nE.g];exact xG (fun o ap=>GZ cL 0 (by omega) o ap) (DE bY bK) d1.g
      have aaC:to d2.g 1:=to.Ot (by
        have:aJ d2.g 1 7=fq:=by
          show d2.g _=_
          rw [nE.g,xz cL 0 _ _ (by omega),b7.g,vK,if_pos ⟨by omega,by omega⟩]
        rw [this];decide)
      have nJ:¬(eC d ad 0 cL 2).2.2≠0:=by rw [dd,gk];simp
      have fD:eC d ad 0 cL 3=eM d2 ((0:Nat):Int) (bF ad 1 (ks d1 (ad 1).fresh cL).2.1) 0:=by
        show eM (eC d ad 0 cL 2).1 ((0:Nat):Int) (bF ad (1-0) (eC d ad 0 cL 2).2.1) 0=_
        rw [dd,kd]
      have hu:bO d ad 0 cL=eC d ad 0 cL 3:=by unfold bO;rw [if_neg iA,if_neg nJ]
      rw [hu,fD]
      generalize jm:(ks d1 (ad 1).fresh cL).2.1=cB at kN
      have DF:cB.lZ=true:=by rw [kN]
      have yk:cB.put=cL.length:=by rw [kN];show 0+cL.length=_;omega
      have Hu:cB.sum=jP cL:=by rw [kN];rfl
      have yl:jI cB 1:=⟨by rw [kN];exact eR.b,by rw [kN];exact eR.m⟩
      have jY:jI ((bF ad 1 cB) 0) 0:=by rw [fs _ _ (by decide)];exact qf
      have bY:jI ((bF ad 1 cB) 1) 1:=by rw [e8];exact yl
      have qI:eM d2 ((0:Nat):Int) (bF ad 1 cB) 0=dU d2 cB 2#32:=by
        unfold eM
        rw [if_pos (Fz f2 jY nE.on PU jV),show(bF ad 1 cB) (1-0)=cB from e8 _ _ _,if_pos ⟨DF,by rw [yk];omega⟩,Wt f2 jY bY PU jV aaC,if_pos rfl]
      rw [qI,Jr yl DF (by rw [yk];omega),show j3 cB 2#32=k9 2#32 (BitVec.ofNat 32 cL.length) (jP cL)from by rw [j3,yk,Hu]]
      exact⟨rfl,rfl⟩
    · rw [if_neg (by rw [z];decide)]
      have hu:bO d ad 0 cL=eC d ad 0 cL 2:=by unfold bO;rw [if_neg iA,if_pos (by rw [dd,gk,z];decide)]
      rw [hu,dd];exact⟨kd,gk⟩
  · rw [if_neg (by rw [q];decide)]
    have hu:bO d ad 0 cL=eC d ad 0 cL 1:=by unfold bO;rw [if_pos (by rw [dc,sG,q];decide)]
    rw [hu,dc,sG];exact⟨rfl,rfl⟩
theorem S4{d:a2}{n:Int}(h:gS d n)(a7:n+5<1000)(g6:d.on=true)(Ic:d.ew=false){k:bL}(aj:jI k 0){l:List (BitVec 32)}(b0:0<l.length)(jA:l.length≤900):
  (hf d k l).2.2=0∧gS (hf d k l).1 (n+5)∧(hf d k l).1.ew=false∧jj (hf d k l).1.g 0 l 1#32 true∧∀P,¬sa 0 P→(hf d k l).1.g P=d.g P:=by
 have vs:∀{d r:a2} {m:List h6},d.ew=false→Hs d m r→False:=fun a c=>by rw [c.ew.1]at a;cases a
 have adO:d.ew=true→0≤d.a3:=fun q=>by rw [Ic]at q;cases q
 have sG:=JJ h al aj g6
 rcases sH (mK 0) h (by show n+((5:Nat):Int)<1000;omega) g6 adO (Fy bu d.g)with⟨q,b7,_⟩|⟨q,om⟩
 ·generalize OV:(fK d (mK 0)).1=d1 at b7 sG
  rw [q,if_pos rfl]at sG
  have f1:gS d1 (n+5):=h.go b7.s (by show n+((5:Nat):Int)≤n+5;omega)
  have cE:d1.ew=false:=b7.ew.trans Ic
  have BE:jI k.fresh 0:=⟨aj.b,aj.m⟩
  obtain⟨kd,gk,kN⟩:=Fx l (d:=d1) (k:=k.fresh) f1.w BE
  rw [show k.fresh.put=0 from rfl]at kd gk kN
  have Ib:okF d1.g (kw 0 0 l):=CL bu l 0 _ al fun j aY=>by rw [b7.g,vK,if_pos ⟨by omega,by omega⟩]
  rcases sH (kw 0 0 l) f1 (by rw [xA];show n+5+((0:Nat):Int)<1000;omega) b7.on (fun q=>by rw [cE]at q;cases q) Ib with⟨z,nE,_⟩|⟨z,om⟩
  ·rw [z]at gk
   have kN:=kN z
   generalize yo:(fK d1 (kw 0 0 l)).1=d2 at nE kd
   have f2:gS d2 (n+5):=f1.go nE.s (by rw [xA];omega)
   have c2:d2.ew=false:=nE.ew.trans cE
   have IX:b2 d1 k.fresh l=ks d1 k.fresh l:=K0 f1.w BE rfl rfl jA
   generalize jm:(ks d1 k.fresh l).2.1=cB at kN
   have DF:cB.lZ=true:=by rw [kN]
   have yk:cB.put=l.length:=by rw [kN];show 0+l.length=_;omega
   have Hu:cB.sum=jP l:=by rw [kN];rfl
   have yl:jI cB 0:=⟨by rw [kN];exact aj.b,by rw [kN];exact aj.m⟩
   have EE:=Jr (d:=d2) yl DF (by rw [yk];omega) 1#32
   rw [show j3 cB 1#32=k9 1#32 (BitVec.ofNat 32 l.length) (jP l)from by rw [j3,yk,Hu], ←show gV 0 (rs l 1#32)=gV 0 (k9 1#32 (BitVec.ofNat 32 l.length) (jP l))++gV 0 iH from List.map_append]at EE
   have Wu:∀P,sa 0 P→¬(600≤P∧P<600+l.length)→d2.g P=fq:=fun P oo bP=>by rw [nE.g,xz l 0 _ _ al,b7.g,vK,if_pos oo]
   rcases sH (gV 0 (rs l 1#32)) f2 (by rw [sR];show n+5+((0:Nat):Int)<1000;omega) nE.on (fun q=>by rw [c2]at q;cases q) (zK bu _ _ (Gx l 1#32) (fun p aE=>by have:=ur p aE;omega) fun p aE=>Wu _ ⟨by omega,by have:=ur p aE;omega⟩ (by have:=ur p aE;omega))with⟨y,wX,_⟩|⟨y,om⟩
   ·generalize qK:(fK d2 (gV 0 (rs l 1#32))).1=d3 at wX EE
    rw [y]at EE
    have f3:gS d3 (n+5):=f2.go wX.s (by rw [sR];omega)
    have m2:d3.ew=false:=wX.ew.trans c2
    have Qq:d3.g=hI d.g (n2 0 l 1#32):=by rw [wX.g,nE.g,b7.g,C6]
    have qa:jj d3.g 0 l 1#32 false:=by rw [Qq];exact J4 jA d.g
    have PV:jI cB.shut 0:=⟨yl.b,yl.m⟩
    have Eo:okF d3.g (gV 0 fZ):=zK bu _ _ (by show [8,9].Nodup;decide) (fun p aE=>by simp only [fZ,jx,List.mem_cons,List.not_mem_nil,or_false]at aE;rcases aE with rfl|rfl<;>simp) fun p aE=>by
     simp only [fZ,jx,List.mem_cons,List.not_mem_nil,or_false]at aE
     rcases aE with rfl|rfl
     ·exact qa.gx
     exact qa.jf
    have IZ:hl d3 cB.shut=fK d3 (gV 0 fZ):=by
     unfold hl
     rw [if_pos wX.on,qX f3 PV bu,qa.state jA,if_pos ⟨rfl,rfl⟩,y6 PV]
     rcases sH (gV 0 fZ) f3 (by rw [sR];show n+5+((0:Nat):Int)<1000;omega) wX.on (fun q=>by rw [m2]at q;cases q) Eo with⟨x,_,_⟩|⟨x,om⟩
     ·rw [if_neg (by rw [x];decide)]
     exact(vs m2 om).elim
    rcases sH (gV 0 fZ) f3 (by rw [sR];show n+5+((0:Nat):Int)<1000;omega) wX.on (fun q=>by rw [m2]at q;cases q) Eo with⟨x,Ep,_⟩|⟨x,om⟩
    ·have adP:hf d k l=((fK d3 (gV 0 fZ)).1,cB.shut,(fK d3 (gV 0 fZ)).2):=by
      unfold hf
      rw [sG];dsimp only
      rw [if_pos rfl,IX]
      have ht:ks d1 k.fresh l=(d2,cB,0):=Prod.ext kd (Prod.ext jm gk)
      rw [ht];dsimp only
      rw [if_pos rfl,EE];dsimp only
      rw [if_pos rfl,IZ]
     rw [adP]
     refine⟨x,f3.go Ep.s (by rw [sR];omega),Ep.ew.trans m2,?_,fun P oo=>?_⟩
     ·show jj (fK d3 (gV 0 fZ)).1.g 0 l 1#32 true
      rw [Ep.g]
      have xg:∀P,(P<308∨310≤P)→hI d3.g (gV 0 fZ) P=d3.g P:=fun P oo=>xH _ _ _ fun p aE=>by
       simp only [fZ,jx,List.mem_cons,List.not_mem_nil,or_false]at aE
       rcases aE with rfl|rfl
       ·show P≠308;omega
       show P≠309;omega
      have ck:∀j,j<8→aJ (hI d3.g (gV 0 fZ)) 0 j=aJ d3.g 0 j:=fun j aY=>xg _ (.inl al)
      exact⟨by rw [xg _ (.inl al)];exact qa.m,by rw [ck 0 bu];exact qa.b0,by rw [ck 1 bu];exact qa.ab,by rw [ck 2 bu];exact qa.af,by rw [ck 3 bu];exact qa.az,by rw [ck 4 bu];exact qa.a5,by rw [ck 5 bu];exact qa.cd,by rw [ck 6 bu];exact qa.c5,by rw [ck 7 bu];exact qa.fo,
       xW fZ d3.g (by show [8,9].Nodup;decide) (8,r9) (.head _),xW fZ d3.g (by show [8,9].Nodup;decide) (9,~~~r9) (.tail _ (.head _)),fun j aY=>by rw [xg _ (.inr al)];exact qa.Em j aY⟩
     show(fK d3 (gV 0 fZ)).1.g P=_
     rw [Ep.g,xG (Ht fun p aE=>by simp only [fZ,jx,List.mem_cons,List.not_mem_nil,or_false]at aE;rcases aE with rfl|rfl<;>simp) oo,Qq,xG (Ns jA) oo]
    exact(vs m2 om).elim
   exact(vs c2 om).elim
  exact(vs cE om).elim
 exact(vs Ic om).elim
def Safe(d:a2)(m:Nat):Prop:=d.ew=true→(m:Int)≤d.a3
theorem FA{l:List h6}{d:a2}{n:Int}(h:gS d n)(a7:n+n1 l<1000)(g6:d.on=true)(aB:Safe d l.length)(aj:okF d.g l):(fK d l).2=0∧Full d l (fK d l).1:=by
  rcases sH l h a7 g6 (fun q=>by have:=aB q;omega) aj with⟨a,b,_⟩|⟨a,b⟩
  · exact⟨a,b⟩
  · obtain⟨i,o,ab,af,_⟩:=b.c
    have:=aB b.ew.1
    have:=(List.getElem?_eq_some_iff.1 ab).1
    omega
theorem Full.safe{d r:a2}{l:List h6}(h:Full d l r){m:Nat}(aB:Safe d (l.length+m)):Safe r m:=fun q=>by
  rw [h.ew]at q
  have:=(h.a3 q).2
  have:=aB q
  omega
theorem Safe.le{d:a2}{m k:Nat}(h:Safe d m)(q:k≤m):Safe d k:=fun a=>by have:=h a;omega
theorem CN{p:Nat×BitVec 32}(aE:p∈fZ):p=(8,r9)∨p=(9,~~~r9):=by
  simp only [fZ,jx,List.mem_cons,List.not_mem_nil,or_false]at aE;exact aE
theorem UE{d:a2}{n:Int}(h:gS d n)(a7:n<1000)(g6:d.on=true)(aB:Safe d 2){k:bL}{i:Nat}(ak:i<2)(aj:jI k i){l:List (BitVec 32)}{seq:BitVec 32}(eJ:jj d.g i l seq false)(jA:l.length≤900):
  (hl d k).2=0∧gS (hl d k).1 n∧(hl d k).1.ew=d.ew∧jj (hl d k).1.g i l seq true∧(∀P,¬sa i P→(hl d k).1.g P=d.g P):=by
 have Eo:okF d.g (gV i fZ):=zK ak _ _ (by show [8,9].Nodup;decide) (fun p aE=>by rcases CN aE with rfl|rfl<;>simp) fun p aE=>by
  rcases CN aE with rfl|rfl
  ·exact eJ.gx
  exact eJ.jf
 obtain⟨x,b7⟩:=FA h (by rw [sR];omega) g6 (l:=gV i fZ) aB Eo
 have IZ:hl d k=fK d (gV i fZ):=by
  unfold hl
  rw [if_pos g6,qX h aj ak,eJ.state jA,if_pos ⟨rfl,rfl⟩,y6 aj,if_neg (by rw [x];decide)]
 rw [IZ]
 refine⟨x,h.go b7.s (by rw [sR];omega),b7.ew,?_,fun P oo=>?_⟩
 ·rw [b7.g]
  have xg:∀P,(P<1500*i+308∨1500*i+310≤P)→hI d.g (gV i fZ) P=d.g P:=fun P oo=>xH _ _ _ fun p aE=>by
   rcases CN aE with rfl|rfl
   ·show P≠_+8;omega
   show P≠_+9;omega
  have ck:∀j,j<8→aJ (hI d.g (gV i fZ)) i j=aJ d.g i j:=fun j aY=>xg _ (.inl al)
  exact⟨by rw [xg _ (.inl al)];exact eJ.m,by rw [ck 0 bu];exact eJ.b0,by rw [ck 1 bu];exact eJ.ab,by rw [ck 2 bu];exact eJ.af,by rw [ck 3 bu];exact eJ.az,by rw [ck 4 bu];exact eJ.a5,by rw [ck 5 bu];exact eJ.cd,by rw [ck 6 bu];exact eJ.c5,by rw [ck 7 bu];exact eJ.fo,
   xW fZ d.g (by show [8,9].Nodup;decide) (8,r9) (.head _),xW fZ d.g (by show [8,9].Nodup;decide) (9,~~~r9) (.tail _ (.head _)),fun j aY=>by rw [xg _ (.inr al)];exact eJ.Em j aY⟩
 rw [b7.g,xG (Ht fun p aE=>by rcases CN aE with rfl|rfl<;>simp) oo]
theorem UF{d:a2}{ad:Nat→bL}{a:Nat}{l:List (BitVec 32)}(h:cZ d)(aj:∀i,i<2→dj d (ad i))(aO:a<2)(ap:d.ops≤700000000):fE 4169 d (bO d ad a l).1:=by
  have bM:=F1 (l:=l) h aj aO ap 1 (by decide)
  have bS:=F1 (l:=l) h aj aO ap 2 (by decide)
  have m1:=bS.1.ops
  have cD:fE 4169 d (eC d ad a l 3).1:=by
    show fE 4169 d (eM (eC d ad a l 2).1 (a:Int) (bF ad (1-a) (eC d ad a l 2).2.1) a).1
    have bb:dj (eC d ad a l 2).1 ((bF ad (1-a) (eC d ad a l 2).2.1) (1-a)):=by rw [e8];exact bS.2
    have k:fE 8 (eC d ad a l 2).1 (eM (eC d ad a l 2).1 (a:Int) (bF ad (1-a) (eC d ad a l 2).2.1) a).1:=by
      unfold eM;repeat' split
      all_goals first|exact fE.rfl' bS.1.ok|exact(B5 bS.1.ok bb (by omega) _).1
    exact bS.1.trans k
  unfold bO;split
  · exact bM.1.mono (by omega)
  · split
    · exact bS.1.mono (by omega)
    · exact cD
theorem UG{d:a2}(h:cZ d)(ap:d.ops≤900000000):fE 1 d (bm d):=by
  have b0:fE 1 d (db d):=⟨zJ h,by show d.ops≤d.ops+((1:Nat):Int);omega,rfl,rfl,rfl,rfl⟩
  have aR:∀k:bL,fE 1 d (jR (db d) k).1:=fun k=>by
    have t:=Gp (k:=k) (zJ (z:=true) h) (show(db d).ops≤900000000 from ap)
    exact⟨t.ok,t.ops,t.w,t.b,t.a,t.lj⟩
  unfold bm
  split
  · exact b0
  · unfold e9;repeat' split
    all_goals first|exact b0|exact aR _
theorem fE.dev{d r:a2}{n:Nat}(h:fE n d r)(g:ng d)(ap:d.ops+n≤700000000):ng r:=⟨h.ok,by have:=h.ops;omega,by rw [h.b];exact g.b,by rw [h.w];exact g.w⟩
theorem afN{d:a2}(h:cZ d){m:Int}(hm:m≤9223372036854775807)(x:BitVec 32):cZ (Vt d m x):=⟨h.s,h.w,h.n,h.lj,h.pb,h.gd,h.ops,⟨by show 0≤max m 0;omega,by show max m 0≤_;omega⟩,h.AK⟩
structure A7(d:a2)(gm:List (BitVec 32)):Prop where
  ok:ng d
  ops:d.ops≤4171
  qg:gS d 5
  yY:d.ew=false
  b0:jj d.g 0 gm 1#32 true
  adQ:∀P,¬sa 0 P→d.g P=fq
theorem MK{gm:List (BitVec 32)}(b0:0<gm.length)(jA:gm.length≤900){a:ai (BitVec 32)}{b:ai Int}(ak:uH a b):(hf (lR 300 1000 a b) (lc (b.l.length/2) 0) gm).2.2=0∧A7 (g8 300 1000 a b gm) gm:=by
  have br:gS (lR 300 1000 a b) 0:=⟨rfl,ak.b.1,rfl,fun k=>Int.le_refl _⟩
  have aj:jI (lc (b.l.length/2) 0) 0:=⟨by show 0*_=0;omega,by show b.l.length/2=5;rw [ak.b.1]⟩
  obtain⟨qe,jq,I0,I1,adR⟩:=S4 br (by decide) rfl rfl aj b0 jA
  have av:=Gw (l:=gm) (n:=10) (W:=300) (L:=1000) (by decide) (by decide) (by decide) ak.a.1 ak.a.2 ak.b.1 ak.b.2
  have ap:(g8 300 1000 a b gm).ops≤4171:=by have:=av.ops;have e:(lR 300 1000 a b).ops=0:=rfl;omega
  exact⟨qe,⟨av.ok,by omega,by rw [av.b];exact ak.b.1,by rw [av.w]⟩,ap,⟨jq.w,jq.b,jq.lj,jq.wr⟩,I0,I1,fun P oo=>(adR P oo).trans rfl⟩
theorem A7.dead{d:a2}{gm:List (BitVec 32)}(h:A7 d gm):to d.g 1:=to.Ot (by rw [show aJ d.g 1 7=fq from h.adQ _ (by omega)];decide)
theorem afC{d:a2}{j:Nat}(h:j4 d=some j):xP d=j:=by unfold xP;rw [h];rfl
theorem UH{d:a2}{n:Int}(h:gS d n)(aD:to d.g 1):fF (db d) (bi d 1)=false:=QT (h.o8 true) (oy h 1) (by decide) aD
theorem A7.Ov{d:a2}{gm:List (BitVec 32)}(h:A7 d gm)(jA:gm.length≤900)(aB:jM gm=true):j4 d=some 0∧kG d=0∧bm d=db d∧e5 d 0=⟨0,1#32,false,gm⟩:=
  MI h.qg h.b0 jA aB (UH h.qg h.dead)
theorem Wv{g:Nat→BitVec 32}{t:Nat}(aR:t<3):okF g [.p 6 (10+t) 0#32]:=⟨⟨by decide,by omega,by simp⟩,trivial⟩
theorem G0{g:Nat→BitVec 32}{t P:Nat}(oo:P≠1810+t):hI g [.p 6 (10+t) 0#32] P=g P:=fs _ _ (by omega)
theorem afX(d:a2)(e:Int):ga (eU d e) false=ga d false:=by unfold eU;split<;>rfl
theorem agC{g:Nat→BitVec 32}(ab:aJ g 1 11=fq):rE g 1<3:=by
  unfold rE;rw [Ou,mH (by decide),mH (by decide),mH (by decide),ab,if_pos rfl]
  split<;>split<;>decide
theorem afB{d:a2}{j:Nat}{v:Hd}(aY:j4 d=some j)(ck:e5 d j=v){l:List (BitVec 32)}{s:BitVec 32}(aB:¬s=0#32):Ty d l s=(decide (v.l=l)&&decide (v.seq=s)):=by
  unfold Ty;rw [afC aY,ck,decide_eq_false aB,Bool.false_or]
theorem agD{kC iA:Int}{Tz s1:BitVec 32}{gm hv:List (BitVec 32)}(Pu:kC≤9223372036854775807)(aeR:iA≤9223372036854775807)(aO:0<gm.length)(jV:gm.length≤900)(bb:0<hv.length)(od:hv.length≤900)(su:jM gm=true)(vc:jM hv=true):af3 kC Tz iA s1 gm hv:=by
 refine⟨su,fun a b ak=>?_,fun a b ak=>?_⟩
 ·obtain⟨qe,jq⟩:=MK aO jV ak
  obtain⟨ay,aM,_,_⟩:=jq.Ov jV su
  exact⟨qe,aM,ay⟩
 obtain⟨qe,jq⟩:=MK aO jV ak
 generalize g8 300 1000 a b gm=d0 at jq
 intro d1 d2 d3 d4 d5 dc dd fD yT EB
 obtain⟨ay,aM,bw,_⟩:=jq.Ov jV su
 have lh:ng d1:=by rw [dc,bw];exact⟨afN (zJ jq.ok.ok) Pu Tz,jq.ok.ops,jq.ok.b,jq.ok.w⟩
 have f1:gS d1 5:=by rw [dc,bw];exact⟨jq.qg.w,jq.qg.b,jq.qg.lj,jq.qg.wr⟩
 have PX:d1.on=true:=by rw [dc,bw]
 have bM:d1.g=d0.g:=by rw [dc,bw]
 have afw:d1.ops≤4171:=by rw [dc,bw];exact jq.ops
 have af4:0≤d1.a3:=by rw [dc];show 0≤max kC 0;omega
 have iw:jj d1.g 0 gm 1#32 true:=by rw [bM];exact jq.b0
 obtain⟨adX,Qs⟩:=UD (cL:=hv) f1 bu PX (fun _=>af4) (oy jq.qg 0) (oy jq.qg 1) iw jV bb od
 have Qt:=UF (ad:=bi d0) (a:=0) (l:=hv) lh.ok (lh.nK jq.ok) bu lh.ops
 have aht:=Qt.ops
 have agG:aJ d1.g 1 7=fq:=by rw [bM];exact jq.adQ _ al
 have key:((bO d1 (bi d0) 0 hv).2.2=0∨(bO d1 (bi d0) 0 hv).2.2=63)∧gS (bO d1 (bi d0) 0 hv).1 10∧jj (bO d1 (bi d0) 0 hv).1.g 0 gm 1#32 true∧
   (to (bO d1 (bi d0) 0 hv).1.g 1∨jj (bO d1 (bi d0) 0 hv).1.g 1 hv 2#32 false∧∀j,j<3→aJ (bO d1 (bi d0) 0 hv).1.g 1 (10+j)=fq)∧
   ((bO d1 (bi d0) 0 hv).2.2=0→jj (bO d1 (bi d0) 0 hv).1.g 1 hv 2#32 false∧∀j,j<3→aJ (bO d1 (bi d0) 0 hv).1.g 1 (10+j)=fq):=by
  rcases sH (n2 1 hv 2#32) f1 (by rw [KZ];decide) PX (fun _=>af4) (Wr bu od _)with⟨x,b7,_⟩|⟨x,om⟩
  ·rw [x]at Qs
   rw [←adX]at b7
   have eJ:jj (bO d1 (bi d0) 0 hv).1.g 1 hv 2#32 false∧∀j,j<3→aJ (bO d1 (bi d0) 0 hv).1.g 1 (10+j)=fq:=by rw [b7.g];exact⟨J4 od _,Ws _⟩
   exact⟨.inl Qs,f1.go b7.s (by rw [KZ];decide),iw.congr jV fun P bY bK _=>(by rw [b7.g,xG (Ns od) (DE bY bK)]),.inr eJ,fun _=>eJ⟩
  rw [x]at Qs
  rw [←adX]at om
  obtain⟨dg,bC⟩:=ags od om agG
  exact⟨.inr Qs,f1.go om.s (by rw [KZ];decide),iw.congr jV fun P bY bK _=>dg P (DE bY bK),bC,fun q=>by rw [Qs]at q;cases q⟩
 obtain⟨agf,BE,qf,eR,cz⟩:=key
 rw [afX]at dd
 generalize afS:bO d1 (bi d0) 0 hv=U at*
 have OS:ng d2:=by rw [dd];exact(Qt.dev lh al).o8 false
 have afy:ng d3:=by rw [fD];exact⟨afN OS.ok aeR s1,OS.ops,OS.b,OS.w⟩
 have f3:gS d3 10:=by rw [fD,dd];exact⟨BE.w,BE.b,BE.lj,BE.wr⟩
 have cD:d3.g=U.1.g:=by rw [fD,dd]
 have Qi:d3.ops≤9000:=by rw [fD,dd];show U.1.ops≤_;omega
 have agF:0≤d3.a3:=by rw [fD];show 0≤max iA 0;omega
 have af9:=UG afy.ok al
 have afK:ng (bm d3):=af9.dev afy al
 have agH:(bm d3).ops≤9001:=by have:=af9.ops;omega
 have Vu:ng d4:=by rw [yT];exact⟨afN (zJ afK.ok) bu 0#32,afK.ops,afK.b,afK.w⟩
 have cV:d4.g=(bm d3).g:=by rw [yT]
 have ahv:d4.ops≤9001:=by rw [yT];exact agH
 have af5:d4.a3=1099511627776:=by rw [yT];rfl
 have aga:=UG Vu.ok al
 have afF:ng (bm d4):=aga.dev Vu al
 have ahu:(bm d4).ops≤9002:=by have:=aga.ops;omega
 rw [afX]at EB
 have afG:kG d4=0→(bO (bm d4) (bi d4) (xP d4) hv).2.2=0→ng d5:=fun he _=>by
  have agL:=UF (ad:=bi d4) (a:=xP d4) (l:=hv) afF.ok (afF.nK Vu) (afD he).2 al
  rw [EB];exact(agL.dev afF al).o8 false
 rw [←cD]at qf eR cz
 rcases eR with aD|⟨eJ,aR⟩
 ·
  obtain⟨dg,bC,dP,EC⟩:=MI f3 qf jV su (UH f3 aD)
  have f4:gS d4 10:=by rw [yT,dP];exact⟨f3.w,f3.b,f3.lj,f3.wr⟩
  rw [dP]at cV
  have cV:d4.g=d3.g:=cV
  rw [←cV]at qf aD
  obtain⟨v1,v2,IN,v4⟩:=MI f4 qf jV su (UH f4 aD)
  have agI:Ty d3 gm 1#32=true:=by rw [afB dg EC bu];simp
  have afM:Ty d4 gm 1#32=true:=by rw [afB v1 v4 bu];simp
  have afH:=afC v1
  refine⟨jq.ok,lh,afy,Vu,afF,afG,by rw [afS];exact agf,.inl bC,fun _=>?_,fun _=> .inl agI,fun q _=>?_,v2,?_,.inl afM,fun _ q=>?_,fun _=>?_⟩
  ·rw [afC dg,EC];show gm.length≤_;omega
  ·exfalso
   rw [afS]at q
   have af:=(cz q).1
   rw [←cV]at af
   have az:=aD.v
   rw [af.state od]at az
   cases az
  ·rw [afH,v4];show gm.length≤_;omega
  ·rw [afM]at q;cases q
  --once more,wholly
  have afI:gS (bm d4) 10:=by rw [IN];exact f4.o8 true
  have agb:(bm d4).on=true:=by rw [IN]
  have Qp:(bm d4).g=d4.g:=by rw [IN]
  have agh:(bm d4).a3=1099511627776:=by rw [IN];exact af5
  have a6:Safe (bm d4) ((n2 1 hv 2#32).length+1):=fun _=>by rw [agh,agr];omega
  obtain⟨l2,hV⟩:=UD (cL:=hv) afI bu agb (fun _=>by rw [agh];decide) (oy f4 0) (oy f4 1) (by rw [Qp];exact qf) jV bb od
  obtain⟨x,b7⟩:=FA (l:=n2 1 hv 2#32) afI (by rw [KZ];decide) agb (a6.le al) (Wr bu od _)
  rw [x]at hV
  rw [←l2]at b7
  rw [afH]at EB
  rw [afH]
  generalize Qh:bO (bm d4) (bi d4) 0 hv=V at*
  have f5:gS d5 15:=by rw [EB];exact(afI.go b7.s (by rw [KZ];decide)).o8 false
  have ff:d5.g=V.1.g:=by rw [EB]
  have af7:jj d5.g 0 gm 1#32 true:=by
   rw [ff];exact qf.congr jV fun P bY bK _=>(by rw [b7.g,xG (Ns od) (DE bY bK),Qp])
  have af8:jj d5.g 1 hv 2#32 false:=by rw [ff,b7.g];exact J4 od _
  have t5:∀j,j<3→aJ d5.g 1 (10+j)=fq:=by rw [ff,b7.g];exact Ws _
  obtain⟨EF,EG,_,adV⟩:=MJ f5 af7 jV af8 od vc (.inr (by rw [afT t5];decide))
  obtain⟨t,t3,_,_,lL,_⟩:=adV rfl
  have agM:Safe (db d5) 1:=by
   have:=b7.safe a6
   intro q
   rw [EB]at q⊢
   exact this q
  obtain⟨BI,_⟩:=FA (l:=[.p 6 (10+t) 0#32]) (f5.o8 true) (by show(15:Int)+((0:Nat):Int)<1000;decide) rfl agM (Wv t3)
  refine⟨hV,lL.trans BI,?_,?_⟩
  ·rw [afC EF,EG];show hv.length≤_;omega
  rw [afB EF EG bu];simp
 --the new one
 obtain⟨dg,bC,_,EC⟩:=MJ f3 qf jV eJ od vc (.inr (by rw [afT aR];decide))
 obtain⟨t,t3,w7,adS,lL,Bx⟩:=EC rfl
 have fd:gS (db d3) 10:=f3.o8 true
 have agc:Ty d3 hv 2#32=true:=by rw [afB dg bC bu];simp
 have qN:t=0:=by
  rcases Nat.eq_zero_or_pos t with q|q
  ·exact q
  exact absurd (aR 0 bu) (adS 0 q)
 subst qN
 have bk:(kG d3=0∨kG d3=63)∧gS (bm d3) 10∧∀P,P≠1810→(bm d3).g P=d3.g P:=by
  rcases sH [.p 6 (10+0) 0#32] fd (by show(10:Int)+((0:Nat):Int)<1000;decide) rfl (fun _=>agF) (Wv bu)with⟨x,b7,_⟩|⟨x,om⟩
  ·rw [←Bx]at b7
   exact⟨.inl (lL.trans x),fd.go b7.s (by show(10:Int)+((0:Nat):Int)≤10;decide),fun P oo=>by rw [b7.g];exact G0 oo⟩
  rw [←Bx]at om
  refine⟨.inr (lL.trans x),fd.go om.s (by show(10:Int)+((0:Nat):Int)≤10;decide),fun P oo=>?_⟩
  obtain⟨i,o,bY,_,eu⟩:=om.c
  have o6:i=0:=by
   rcases i with _|i
   ·rfl
   simp at bY
  subst o6
  have ap:o= .p 6 (10+0) 0#32:=(Option.some.inj bY).symm
  subst ap
  rw [eu];exact fs _ _ al
 obtain⟨HT,AL,afR⟩:=bk
 have f4:gS d4 10:=by rw [yT];exact⟨AL.w,AL.b,AL.lj,AL.wr⟩
 have agJ:jj d4.g 0 gm 1#32 true:=qf.congr jV fun P bY bK _=>by rw [cV];exact afR P al
 have agd:jj d4.g 1 hv 2#32 false:=eJ.congr od fun P bY bK eu=>by rw [cV];exact afR P al
 have t4:rE d4.g 1<3:=agC (by show d4.g _=_;rw [cV,afR _ bu];exact aR 1 bu)
 obtain⟨v1,v2,_,v4⟩:=MJ f4 agJ jV agd od vc (.inr t4)
 obtain⟨u,agN,_,_,EF,EG⟩:=v4 rfl
 have agi:Safe (db d4) (1+2):=fun _=>by show _≤d4.a3;rw [af5];decide
 obtain⟨BH,Ep⟩:=FA (l:=[.p 6 (10+u) 0#32]) (f4.o8 true) (by show(10:Int)+((0:Nat):Int)<1000;decide) rfl (agi.le (show 1≤1+2 by decide)) (Wv agN)
 rw [←EG]at Ep
 have agK:kG d4=0:=EF.trans BH
 have age:Ty d4 hv 2#32=true:=by rw [afB v1 v2 bu];simp
 have afM:Ty d4 gm 1#32=false:=by rw [afB v1 v2 bu,Bool.and_eq_false_iff];exact .inr (by simp)
 have afH:=afC v1
 have PW:j5 d4=hl (bm d4) (bi d4 1):=by
  unfold j5;rw [v1];show eB _ ((1:Nat):Int) _=_;unfold eB;rw [if_neg bu]
 have tI:jj (bm d4).g 1 hv 2#32 false:=agd.congr od fun P bY bK eu=>by rw [Ep.g];exact G0 al
 have afI:gS (bm d4) 10:=(f4.o8 true).go Ep.s (by show(10:Int)+((0:Nat):Int)≤10;decide)
 obtain⟨l2,_,_,_,_⟩:=UE (k:=bi d4 1) afI bu Ep.on (Ep.safe agi) bu (oy f4 1) tI od
 refine⟨jq.ok,lh,afy,Vu,afF,afG,by rw [afS];exact agf,HT,fun _=>?_,fun _=> .inr agc,fun _ _=>agc,agK,?_,.inr age,fun _ _=>by rw [PW];exact l2,fun q=>absurd ⟨age,afM⟩ q⟩
 ·rw [afC dg,bC];show hv.length≤_;omega
 rw [afH,v2];show hv.length≤_;omega
theorem S5{c:dG}(h:GP c):0<(np c).length∧(np c).length≤900:=by
  have ab:=sP (l:=c.aG) (f:=pc) (k:=12) (fun e _=>C3 e)
  have af:=sP (l:=c.ba) (f:=qU) (k:=10) (fun p aE=>Gu (h.q p aE))
  have az:=sP (l:=c.a0) (f:=sF c) (k:=23) (fun e _=>Ms c e)
  have t:=h.t
  have m:=h.m
  have e:=h.e
  unfold np
  rw [List.length_append,List.length_append,List.length_append,show(xc c).length=5 from rfl]
  omega
theorem J5{x:bQ}(bg:Can x.c)(h:oT x=true):0<(np x.c).length∧(np x.c).length≤900∧jM (np x.c)=true:=by
  unfold oT at h
  simp only [Bool.and_eq_true,decide_eq_true_eq]at h
  have aj:=xx h.2
  obtain⟨a,b⟩:=S5 (xT aj).aW
  exact⟨a,b,Ci (LB aj bg) h.2⟩
abbrev YP(B:Nat)(aq:ao B):Prop:=aS B 9 [] [aq] (fun v S=>v= .bool true∧S=[aq])
theorem agm(x y:bQ){cs:ao B}(av:x.In K)(aZ:y.In cs)(I4:Can x.c)(I5:Can y.c)(kC:Int)(Tz:BitVec 32)(iA:Int)(s1:BitVec 32)(Pu:kC≤9223372036854775807)(aeR:iA≤9223372036854775807){aq:ao B}(bc:DD aq)(aD:dS aq)(l0:YP B aq):
    aS B 4 [x.v,y.v,.agg #[U kC,aI Tz.toNat,U iA,aI s1.toNat]] [K,cs,aq] (fun v S=>v= .bool true):=
  agw x y av aZ kC Tz iA s1 bc aD l0 fun ab af=>by
    obtain⟨cE,c2,m2⟩:=J5 I4 ab
    obtain⟨ay,aM,bw⟩:=J5 I5 af
    exact agD Pu aeR cE c2 ay aM m2 bw
abbrev mD:=Option (Nat×Int×Int)
def Ow:mD→Value
  |none=> .pointer none
  |some x=>ag x.1
def ix:mD→ao B
  |none=>all []
  |some x=>aa x.1 [U x.2.1,U x.2.2,.pointer none] 426
abbrev ln(e:iQ)(t:mD):iQ:={e with first:=Ow t,many:=if t.isSome then 1 else 0}
theorem aaE(q o:Nat):aS B 301 [.pointer (some ⟨q,o,none⟩)] [] (fun v S=>∃c,v= .func (.func 304) #[] #[ag c]∧S=[aa c [.pointer (some ⟨q,o,none⟩)] 424]):=by
 refine bD 4 Tryz.func301 fun a4 ax=>?_
 refine fe (au:=[.pointer (some ⟨q,o,none⟩)]) fun ay=>?_
 exact⟨[aa ay [.pointer (some ⟨q,o,none⟩)] 424],⟨ay,rfl,rfl⟩,_,bq⟩
theorem UI(c p:Nat)(e:iQ):mW Tryz.prog B 304 [ag c] [aa c [.pointer (some ⟨p,13,none⟩)] 424,aa p (b6 (ln e none)) 288] []:=by
 intro cu J gN cb gv aZ
 change dQ _ _ _ _ (aa c [.pointer (some ⟨p,13,none⟩)] 424::aa p (b6 (ln e none)) 288::cb) _
 refine bD 29 Tryz.func304 fun a4 ax=>?_
 refine dH (α:=Unit) (fun x=>True) (fun x=>[(3,U 0),(4,.pointer none),(0,.func (.yield cu) #[] #[]),(1,ag c)]) (fun x=>aa c [.pointer (some ⟨p,13,none⟩)] 424::aa p (b6 (ln e none)) 288::cb) (fun x=>0) () ?_ dD aC ?_
 ·trivial
 intro x _
 refine ah ?_
 exact⟨aa c [.pointer (some ⟨p,13,none⟩)] 424::aa p (b6 (ln e none)) 288::cb,⟨cb,rfl,.inl gv⟩,_,bq⟩
theorem YQ(p:Nat)(e:iQ)(id:Int):aS B 293 [.pointer (some ⟨p,13,none⟩),U id] [aa p (b6 (ln e none)) 288] (fun v S=>v= .tuple #[U 0,.bool false]∧S=[aa p (b6 (ln e none)) 288]):=by
 refine bD 16 Tryz.func293 fun a4 ax=>?_
 refine dt fun ay=>?_
 refine ds fun aM=>?_
 refine da fun bw=>?_
 refine cA (aaE p 13) ?_
 rintro _ _ ⟨c,rfl,rfl⟩
 refine cU ?_
 refine kh (own:=[aa c [.pointer (some ⟨p,13,none⟩)] 424,aa p (b6 (ln e none)) 288]) (aP:=[]) rfl e2 (UI c p e) (fun i S=>S=[]) (fun c i S=>False) (show Take ([aa c [.pointer (some ⟨p,13,none⟩)] 424,aa p (b6 (ln e none)) 288]) _ _ from aC) (rfl) rfl (fun x av=>by cases av) ?_ ?_ ?_
 ·intro cu rec jF i aQ ak bt
  exact absurd ak (by simp)
 ·intro c0 aQ bt
  subst bt
  refine cU ?_
  refine cc (show Take [du c0] _ _ from aC) (xN rfl rfl rfl ar ar ae ae) ?_
  exact bA
 intro c0 c i aQ ak h
 exact h.elim
theorem YR(p:Nat)(e:iQ)(id:Int):aS B 294 [.pointer (some ⟨p,13,none⟩),U id] [aa p (b6 (ln e none)) 288] (fun v S=>v= .bool false∧S=[aa p (b6 (ln e none)) 288]):=by
 refine bD 60 Tryz.func294 fun a4 ax=>?_
 refine dH (α:=Unit) (fun x=>True) (fun x=>[(5,.pointer (some ⟨p,13,none⟩)),(0,.pointer (some ⟨p,13,none⟩)),(1,U id)]) (fun x=>[aa p (b6 (ln e none)) 288]) (fun x=>0) () ?_ dD aC ?_
 ·trivial
 intro x _
 refine kZ ?_
 refine aT ?_ ?_<;>intro ab
 ·simp at ab
 exact bA
theorem YS(p:Nat)(e:iQ)(id n:Int)(a7:1≤n∧n≤65536):aS B 284 [.pointer (some ⟨p,13,none⟩),U id,U n] [aa p (b6 (ln e none)) 288] (fun v S=>∃b,v= .bool true∧S=[aa p (b6 (ln e (some (b,id,n)))) 288,ix (some (b,id,n))]):=by
 refine bD 98 Tryz.func284 fun a4 ax=>?_
 refine cC ?_ ?_<;>intro ab
 ·exact bW ab
 refine aT ?_ ?_<;>intro af
 ·exact bW af
 refine dA (YQ p e id) ?_
 refine ct ?_
 refine bH (U 0) ?_
 refine bH (.bool false) ?_
 refine mn ?_
 refine cv (U 0) ?_
 refine gD ?_
 refine aT ?_ ?_<;>intro az
 ·exact bW az
 refine e1 (YR p e id) ?_
 refine dH (α:=Unit) (fun x=>True) (fun x=>[(9,.pointer (some ⟨p,13,none⟩)),(0,.pointer (some ⟨p,13,none⟩)),(1,U id),(2,U n)]) (fun x=>[aa p (b6 (ln e none)) 288]) (fun x=>0) () ?_ dD aC ?_
 ·trivial
 intro x _
 refine kZ ?_
 refine cC ?_ ?_<;>intro a5
 ·simp at a5
 refine dt fun ay=>?_
 refine wc ?_
 refine bX ?_ ?_<;>intro cd
 ·simp at cd
 refine ra ?_
 refine cv (U 0) ?_
 refine ah ?_
 exact⟨[aa p (b6 (ln e (some (ay,id,n)))) 288,ix (some (ay,id,n))],⟨ay,rfl,rfl⟩,_,bq⟩
theorem Ww(p:Nat)(e:iQ):aS B 262 [.pointer (some ⟨p,13,none⟩)] [aa p (b6 (ln e none)) 288] (fun v S=>v= .slice none 0 0∧S=[aa p (b6 (ln e none)) 288]):=by
 refine bD 62 Tryz.func262 fun a4 ax=>?_
 exact bA
theorem Wx(p b:Nat)(e:iQ)(id k:Int)(aj:2≤k∧k≤65536):aS B 262 [.pointer (some ⟨p,13,none⟩)] [aa p (b6 (ln e (some (b,id,k)))) 288,aa b [U id,U k,.pointer none] 426] (fun v S=>v= .slice none 0 0∧S=[aa p (b6 (ln e (some (b,id,k)))) 288,aa b [U id,U (k-1),.pointer none] 426]):=by
 refine bD 62 Tryz.func262 fun a4 ax=>?_
 refine k4 0 ?_
 refine ah ?_
 refine aT ?_ ?_<;>intro ab
 ·exact bW ab
 refine k3 ?_
 exact mz
theorem Wy(p b:Nat)(e:iQ)(id:Int):aS B 262 [.pointer (some ⟨p,13,none⟩)] [aa p (b6 (ln e (some (b,id,1)))) 288,aa b [U id,U 1,.pointer none] 426] (fun v S=>∃a:ai Int,(a.l=[id]∧a.Own)∧v=aw a∧S=[aa p (b6 (ln e none)) 288,ti a]):=by
 refine dn 62 Tryz.func262 fun a4 ax=>?_
 refine hy ei 3 1 ?_
 refine ah ?_
 refine k4 1 ?_
 refine Dz ?_
 refine aT ?_ ?_<;>intro ab
 ·refine js (au:=[U id]) .no rfl ae bu bu (by rfl) (by rfl) rfl rfl (fun ay=>?_)
  refine vH (aW:=ei) (c:=(ai.bG:ai Int)) (y:=id) (K:=_) .no rfl rfl ae ar ar (hF) rfl rfl (by show 0+1≤_;decide) (by show(0+1)*_≤_;decide) rfl (fun a aO bT=>?_)
  refine ZO ?_
  refine cv (U 1) ?_
  refine ah ?_
  refine nN ?_
  refine ah ?_
  refine k3 ?_
  refine ah ?_
  exact⟨[aa p (b6 (ln e none)) 288,ti a],⟨a,⟨aO,bT⟩,rfl,rfl⟩,_,bq⟩
 simp at ab
abbrev cJ(y:bQ)(o:ea)(m bo bn aV no he:Int)(op:BitVec 32)(t:mD):iQ:=⟨y,o,m,bo,bn,aV,no,he,op,Ow t,if t.isSome then 1 else 0⟩
structure ez where
  b:Bool
  c:Bool
  o:Bool
  e:Int
  m:Int
  t:Int
abbrev lz(n:ez):List Value:=[.bool n.b,.bool n.c,.bool n.o,U n.e,U n.m,U n.t]
def mx(b:Nat)(n:ez):ai ez:=ai.lit b [n] (by show 1≤_;decide)
abbrev dO(a:ai ez):ao B:=cr a 375 6 lz
theorem vR(o:ea){fc:ao B}(hi:c1 fc o.a0.bl (o.a0.l.flatMap gr))(i:Nat)(sp:Int×Int)(aB:o.a0.l[i]?=some sp):aS B 267 [o.v,U (i:Int)] [fc] (fun v S=>v= .tuple #[.agg (gr sp).toArray,.bool true]∧S=[fc]):=by
 refine dn 21 Tryz.func267 fun a4 ax=>?_
 have o9:i<o.a0.l.length:=(List.getElem?_eq_some_iff.1 aB).1
 refine ah ?_
 refine dt (au:=[aw o.ba,aw o.a0]) fun ay=>?_
 refine ds fun aM=>?_
 refine kZ ?_
 refine li ?_ ?_<;>intro ab
 ·exact bW ab
 refine dW ?_
 refine cv (aw o.a0) ?_
 refine ah ?_
 refine bX ?_ ?_<;>intro af
 ·exact bW af
 refine cW ?_
 refine cv (aw o.a0) ?_
 refine ah ?_
 refine aA (hN (aW:=gr) (aH:=2) (i:=i) (fun _=>rfl) rfl ar hi ae aB) ?_
 refine ah ?_
 refine cc (.nil _) (hc rfl rfl ar ae (by rfl) rfl) ?_
 exact bA
theorem Nt(p:Nat)(y:bQ)(o:ea)(m bo bn aV no he:Int)(op:BitVec 32)(t:mD)(eJ:he<0)(dM:BitVec 32):aS B 264 [ag p,aI dM.toNat] [aa p (b6 (cJ y o (m) (bo) (bn) (aV) (no) (he) op t)) 288] (fun v S=>∃a:ai ez,(a.l=[⟨false,false,true,bo,m,0⟩]∧a.Own)∧v=aw a∧S=[aa p (b6 (cJ y o (m) (-1) (0) (aV) (no) (he) 0#32 t)) 288,dO a]):=by
 refine bD 61 Tryz.func264 fun a4 ax=>?_
 refine ki [aa p (b6 (cJ y o (m) (bo) (bn) (aV) (no) (he) op t)) 288] ae aC ?_
 refine aN [0,1,2,3,4,5,6,7,8,109] ?_
 refine lN (au:=[.bool false,.bool false,.bool true,U (bo),U (m),U (0)]) rfl .no rfl ae bu bu (by rfl) (by rfl) rfl rfl (fun Aq=>?_)
 refine E2 (b:=Aq) 1 6 (.here _ _) rfl rfl ?_
 rw [show(row (.slice (some ⟨Aq,0,none⟩) 1 1) 375 6 1 [.bool false,.bool false,.bool true,U (bo),U (m),U (0)]:ao B)=dO (mx Aq ⟨false,false,true,bo,m,0⟩)from rfl]
 refine c7 [10,99] ?_
 refine aT ?_ ?_<;>intro ab
 ·exact⟨[aa p (b6 (cJ y o (m) (-1) (0) (aV) (no) (he) 0#32 t)) 288,dO (mx Aq ⟨false,false,true,bo,m,0⟩)],⟨mx Aq ⟨false,false,true,bo,m,0⟩,⟨rfl,ai.ug⟩,rfl,rfl⟩,_,bq⟩
 exact bW ab
theorem Nu(p:Nat)(y:bQ)(o:ea)(m bo bn aV no he:Int)(op:BitVec 32)(id n:Int)(a7:1≤n∧n≤65536):aS B 284 [.pointer (some ⟨p,13,none⟩),U id,U n] [aa p (b6 (cJ y o (m) (bo) (bn) (aV) (no) (he) op none)) 288] (fun v S=>∃b,v= .bool true∧S=[aa p (b6 (cJ y o (m) (bo) (bn) (aV) (no) (he) op (some (b,id,n)))) 288,ix (some (b,id,n))]):=YS p (cJ y o m bo bn aV no he op none) id n a7
theorem LO(p:Nat)(y:bQ)(o:ea)(m bo bn aV no he:Int)(op:BitVec 32):aS B 262 [.pointer (some ⟨p,13,none⟩)] [aa p (b6 (cJ y o (m) (bo) (bn) (aV) (no) (he) op none)) 288] (fun v S=>v= .slice none 0 0∧S=[aa p (b6 (cJ y o (m) (bo) (bn) (aV) (no) (he) op none)) 288]):=Ww p (cJ y o m bo bn aV no he op none)
theorem UJ(p:Nat)(y:bQ)(o:ea)(m bo bn aV no he:Int)(op:BitVec 32)(b:Nat)(id k:Int)(aj:2≤k∧k≤65536):aS B 262 [.pointer (some ⟨p,13,none⟩)] [aa p (b6 (cJ y o (m) (bo) (bn) (aV) (no) (he) op (some (b,id,k)))) 288,ix (some (b,id,k))] (fun v S=>v= .slice none 0 0∧S=[aa p (b6 (cJ y o (m) (bo) (bn) (aV) (no) (he) op (some (b,id,k-1)))) 288,ix (some (b,id,k-1))]):=Wx p b (cJ y o m bo bn aV no he op none) id k aj
theorem F3(p:Nat)(y:bQ)(o:ea)(m bo bn aV no he:Int)(op:BitVec 32)(b:Nat)(id:Int):aS B 262 [.pointer (some ⟨p,13,none⟩)] [aa p (b6 (cJ y o (m) (bo) (bn) (aV) (no) (he) op (some (b,id,1)))) 288,ix (some (b,id,1))] (fun v S=>∃a:ai Int,(a.l=[id]∧a.Own)∧v=aw a∧S=[aa p (b6 (cJ y o (m) (bo) (bn) (aV) (no) (he) op none)) 288,ti a]):=Wy p b (cJ y o m bo bn aV no he op none) id
theorem Wz(p:Nat)(y:bQ)(o:ea){cs fc:ao B}(aZ:y.In cs)(hi:c1 fc o.a0.bl (o.a0.l.flatMap gr))(i:Nat)(d:Nat→Int)(aD:y.a0.l[i]?=some d)(sp:Int×Int)(aB:o.a0.l[i]?=some sp)(m bn aV no he:Int)(op:BitVec 32)(eJ:he<0)(cR: -1000000000≤no∧no≤1000000000)(my: -1000000000≤aV∧aV≤1000000000)(kW:0<sp.2∧sp.2≤65536)(dM:BitVec 32):aS B 263 [ag p,aI dM.toNat] [aa p (b6 (cJ y o (m) ((i:Int)) (bn) (aV) (no) (he) op none)) 288,cs,fc] (fun v S=>∃(a:ai ez) (b:Nat),(a.l=[⟨false,true,false,(i:Int),d 1,no-aV⟩]∧a.Own)∧v=aw a∧S=[aa p (b6 (cJ y o (d 1) ((i:Int)) (4) (aV) (no) (he) op (some (b,17,sp.2)))) 288,ix (some (b,17,sp.2)),dO a,cs,fc]):=by
 refine dn 72 Tryz.func263 fun a4 ax=>?_
 have o9:i<y.a0.l.length:=(List.getElem?_eq_some_iff.1 aD).1
 have sl:=y.a0.small
 refine ah ?_
 refine c8 [aa p (b6 (cJ y o (m) ((i:Int)) (bn) (aV) (no) (he) op none)) 288,cs] ae aC ?_
 refine aN [0,1,2,3,4,5,6,7,8,9] ?_
 refine cy 10 rfl (h7 rfl rfl ae (y.a0).en rfl al rfl) ?_
 refine aN [11] ?_
 refine bs 12 rfl (eO (aW:=cS) (aH:=23) (i:=i) (k:=1) (fun _=>rfl) rfl ar aZ.a0 ae aD rfl) ?_
 refine c7 [13,14,115,99] ?_
 refine ki [aa p (b6 (cJ y o (d 1) ((i:Int)) (bn) (aV) (no) (he) op none)) 288] ae aC ?_
 refine aN [0,1,2,3,4,5,6,7,8,9,10] ?_
 refine bs 11 rfl (ed (v:=U no) ae) ?_
 refine aN [12,13,14] ?_
 refine bs 15 rfl (ed (v:=U aV) ae) ?_
 refine aN [16,17,118] ?_
 refine lN (au:=[.bool false,.bool true,.bool false,U ((i:Int)),U (d 1),U (no-aV)]) rfl .no rfl ae bu bu (by rfl) (by rfl) rfl rfl (fun py=>?_)
 refine E2 (b:=py) 1 6 (.here _ _) rfl rfl ?_
 rw [show(row (.slice (some ⟨py,0,none⟩) 1 1) 375 6 1 [.bool false,.bool true,.bool false,U ((i:Int)),U (d 1),U (no-aV)]:ao B)=dO (mx py ⟨false,true,false,(i:Int),d 1,no-aV⟩)from rfl]
 refine aN [19,99] ?_
 refine ct ?_
 refine k5 (α:=Nat) (fun hE=>True) (fun hE=>[(6,ag hE),(0,ag p),(1,aI dM.toNat),(5,aw (mx py ⟨false,true,false,(i:Int),d 1,no-aV⟩))]) (fun hE=>[aa p (b6 (cJ y o (d 1) ((i:Int)) (bn) (aV) (no) (he) op none)) 288,aa hE (gr sp) 190,fc,dO (mx py ⟨false,true,false,(i:Int),d 1,no-aV⟩),cs]) ?_ ?_
 ·skip
  refine ki [aa p (b6 (cJ y o (d 1) ((i:Int)) (bn) (aV) (no) (he) op none)) 288] ae aC ?_
  refine aN [0,1,2] ?_
  refine bs 3 rfl (dw (bx:=[aw o.ba,aw o.a0]) rfl ar ae rfl (by rfl)) ?_
  refine aN [4,5,6,7] ?_
  refine ju 8 12 jZ ?_ ?_
  ·skip
   refine lK (vR o hi i sp aB) ?_
   rintro _ _ ⟨rfl,rfl⟩
   simp only [List.cons_append,List.nil_append]
   refine fV ?_
   refine aN [9] ?_
   refine cy 10 rfl (fx (v:= .agg (gr sp).toArray) rfl) ?_
   refine cy 11 rfl (fx (v:= .bool true) rfl) ?_
   refine aN [112] ?_
   refine jt rfl .no ae rfl (fun o4=>?_)
   refine aN [113] ?_
   refine mg rfl .no dr (hA rfl rfl rfl ar ae rfl rfl) aC ?_
   refine aN [14,99] ?_
   exact fj o4 trivial
  skip
  refine jt rfl .no ae rfl (fun o4=>?_)
  refine e6 8 (vR o hi i sp aB) ?_
  refine aN [9] ?_
  refine cy 10 rfl (fx (v:= .agg (gr sp).toArray) rfl) ?_
  refine cy 11 rfl (fx (v:= .bool true) rfl) ?_
  refine aN [113] ?_
  refine mg rfl .no dr (hA rfl rfl rfl ar ae rfl rfl) aC ?_
  refine aN [14,99] ?_
  exact fj o4 trivial
 intro hE _
 refine wc ?_
 refine cv (U sp.2) ?_
 refine ah ?_
 refine aT ?_ ?_<;>intro ab
 ·refine c8 [aa hE (gr sp) 190] ae aC ?_
  refine aN [0,1,2,3] ?_
  refine bs 4 rfl (ed (v:=U sp.2) ae) ?_
  refine jU 5 (Nu p y o (d 1) (i:Int) 4 aV no he op 17 sp.2 (by omega)) ?_
  rintro _ _ ⟨b,rfl,rfl⟩
  simp only [List.cons_append,List.nil_append]
  refine fV ?_
  refine c7 [99] ?_
  exact⟨[aa p (b6 (cJ y o (d 1) ((i:Int)) (4) (aV) (no) (he) op (some (b,17,sp.2)))) 288,ix (some (b,17,sp.2)),dO (mx py ⟨false,true,false,(i:Int),d 1,no-aV⟩),cs,fc],⟨(mx py ⟨false,true,false,(i:Int),d 1,no-aV⟩),b,⟨rfl,ai.ug⟩,rfl,rfl⟩,_,bq⟩
 exact bW ab
theorem ML(p:Nat)(y:bQ)(o:ea){cs fc:ao B}(aZ:y.In cs)(hi:c1 fc o.a0.bl (o.a0.l.flatMap gr))(i:Nat)(d:Nat→Int)(aD:y.a0.l[i]?=some d)(sp:Int×Int)(aB:o.a0.l[i]?=some sp)(m bn aV no he:Int)(op:BitVec 32)(eJ:he<0)(cR: -1000000000≤no∧no≤1000000000)(my: -1000000000≤aV∧aV≤1000000000)(kW:¬0<sp.2)(dM:BitVec 32):aS B 263 [ag p,aI dM.toNat] [aa p (b6 (cJ y o (m) ((i:Int)) (bn) (aV) (no) (he) op none)) 288,cs,fc] (fun v S=>∃(a:ai ez),(a.l=[⟨false,true,false,(i:Int),d 1,no-aV⟩,⟨false,false,true,(i:Int),d 1,0⟩]∧a.Own)∧v=aw a∧S=[aa p (b6 (cJ y o (d 1) (-1) (0) (aV) (no) (he) 0#32 none)) 288,dO a,cs,fc]):=by
 refine dn 72 Tryz.func263 fun a4 ax=>?_
 have o9:i<y.a0.l.length:=(List.getElem?_eq_some_iff.1 aD).1
 have sl:=y.a0.small
 refine ah ?_
 refine c8 [aa p (b6 (cJ y o (m) ((i:Int)) (bn) (aV) (no) (he) op none)) 288,cs] ae aC ?_
 refine aN [0,1,2,3,4,5,6,7,8,9] ?_
 refine cy 10 rfl (h7 rfl rfl ae (y.a0).en rfl al rfl) ?_
 refine aN [11] ?_
 refine bs 12 rfl (eO (aW:=cS) (aH:=23) (i:=i) (k:=1) (fun _=>rfl) rfl ar aZ.a0 ae aD rfl) ?_
 refine c7 [13,14,115,99] ?_
 refine ki [aa p (b6 (cJ y o (d 1) ((i:Int)) (bn) (aV) (no) (he) op none)) 288] ae aC ?_
 refine aN [0,1,2,3,4,5,6,7,8,9,10] ?_
 refine bs 11 rfl (ed (v:=U no) ae) ?_
 refine aN [12,13,14] ?_
 refine bs 15 rfl (ed (v:=U aV) ae) ?_
 refine aN [16,17,118] ?_
 refine lN (au:=[.bool false,.bool true,.bool false,U ((i:Int)),U (d 1),U (no-aV)]) rfl .no rfl ae bu bu (by rfl) (by rfl) rfl rfl (fun py=>?_)
 refine E2 (b:=py) 1 6 (.here _ _) rfl rfl ?_
 rw [show(row (.slice (some ⟨py,0,none⟩) 1 1) 375 6 1 [.bool false,.bool true,.bool false,U ((i:Int)),U (d 1),U (no-aV)]:ao B)=dO (mx py ⟨false,true,false,(i:Int),d 1,no-aV⟩)from rfl]
 refine aN [19,99] ?_
 refine ct ?_
 refine k5 (α:=Nat) (fun hE=>True) (fun hE=>[(6,ag hE),(0,ag p),(1,aI dM.toNat),(5,aw (mx py ⟨false,true,false,(i:Int),d 1,no-aV⟩))]) (fun hE=>[aa p (b6 (cJ y o (d 1) ((i:Int)) (bn) (aV) (no) (he) op none)) 288,aa hE (gr sp) 190,fc,dO (mx py ⟨false,true,false,(i:Int),d 1,no-aV⟩),cs]) ?_ ?_
 ·skip
  refine ki [aa p (b6 (cJ y o (d 1) ((i:Int)) (bn) (aV) (no) (he) op none)) 288] ae aC ?_
  refine aN [0,1,2] ?_
  refine bs 3 rfl (dw (bx:=[aw o.ba,aw o.a0]) rfl ar ae rfl (by rfl)) ?_
  refine aN [4,5,6,7] ?_
  refine ju 8 12 jZ ?_ ?_
  ·skip
   refine lK (vR o hi i sp aB) ?_
   rintro _ _ ⟨rfl,rfl⟩
   simp only [List.cons_append,List.nil_append]
   refine fV ?_
   refine aN [9] ?_
   refine cy 10 rfl (fx (v:= .agg (gr sp).toArray) rfl) ?_
   refine cy 11 rfl (fx (v:= .bool true) rfl) ?_
   refine aN [112] ?_
   refine jt rfl .no ae rfl (fun o4=>?_)
   refine aN [113] ?_
   refine mg rfl .no dr (hA rfl rfl rfl ar ae rfl rfl) aC ?_
   refine aN [14,99] ?_
   exact fj o4 trivial
  skip
  refine jt rfl .no ae rfl (fun o4=>?_)
  refine e6 8 (vR o hi i sp aB) ?_
  refine aN [9] ?_
  refine cy 10 rfl (fx (v:= .agg (gr sp).toArray) rfl) ?_
  refine cy 11 rfl (fx (v:= .bool true) rfl) ?_
  refine aN [113] ?_
  refine mg rfl .no dr (hA rfl rfl rfl ar ae rfl rfl) aC ?_
  refine aN [14,99] ?_
  exact fj o4 trivial
 intro hE _
 refine wc ?_
 refine cv (U sp.2) ?_
 refine ah ?_
 refine aT ?_ ?_<;>intro ab
 ·exact bW ab
 refine cA (Nt p y o (d 1) (i:Int) 4 aV no he op none eJ dM) ?_
 rintro _ _ ⟨c,⟨hh,ka⟩,rfl,rfl⟩
 simp only [List.cons_append,List.nil_append]
 refine ma (aW:=lz) (c:=(mx py ⟨false,true,false,(i:Int),d 1,no-aV⟩)) (b:=c) .no rfl rfl ae ar ar (eh ka rfl) (fun _=>rfl) (fun _=>rfl) (by rw [hh];show 1+1≤_;decide) (by rw [hh];show(1+1)*_≤_;decide) rfl (fun a aO bT=>?_)
 rw [hh]at aO
 refine ah ?_
 exact⟨[aa p (b6 (cJ y o (d 1) (-1) (0) (aV) (no) (he) 0#32 none)) 288,dO a,cs,fc],⟨a,⟨aO,bT⟩,rfl,rfl⟩,_,bq⟩
theorem WA{aq:ao B}(b:Nat){s:BitVec 32}(bc:dL aq)(h:s=0#32):mW Tryz.prog B 200 [ag b] [aa b [aI s.toNat] 158,aq] []:=by
  subst h
  have:=pg (K:=aq) b 0#32 bc
  rwa [show(bj 0#32).map (fun n=>[Value.int .i64 n])=[]from by decide]at this
theorem Nv(p:Nat)(y:bQ)(o:ea)(m bo bn aV no he:Int)(op:BitVec 32)(sp:Int×Int)(aJ:1≤sp.1∧sp.1≤65536)(dM:BitVec 32):aS B 269 [ag p,.agg (gr sp).toArray,aI dM.toNat] [aa p (b6 (cJ y o (m) (bo) (bn) (aV) (no) (he) op none)) 288] (fun v S=>∃b:Nat,v= .slice none 0 0∧S=[aa p (b6 (cJ y o (m) (bo) (bn) (aV) (no) (he) op (some (b,16,sp.1)))) 288,ix (some (b,16,sp.1))]):=by
 refine bD 19 Tryz.func269 fun a4 ax=>?_
 refine fe (au:=(gr sp)) fun ay=>?_
 refine aT ?_ ?_<;>intro ab
 ·exact bW ab
 refine c8 [aa ay (gr sp) 190] ae aC ?_
 refine aN [0,1,2,3,4] ?_
 refine jU 5 (Nu p y o m bo bn aV no he op 16 sp.1 aJ) ?_
 rintro _ _ ⟨b,rfl,rfl⟩
 simp only [List.cons_append,List.nil_append]
 refine fV ?_
 refine c7 [99] ?_
 exact⟨[aa p (b6 (cJ y o (m) (bo) (bn) (aV) (no) (he) op (some (b,16,sp.1)))) 288,ix (some (b,16,sp.1))],⟨b,rfl,rfl⟩,_,bq⟩
theorem WB(p:Nat)(y:bQ)(o:ea){cs:ao B}(aZ:y.In cs)(i:Nat)(d:Nat→Int)(gW:y.a0.l[i]?=some d)(m aV no he:Int)(op:BitVec 32)(t:mD)(jb:(cw y.c (d 1)&&&~~~(cw y.c (d 0)))=0#32){aq:ao B}(bc:dL aq)(aD:dS aq):aS B 268 [ag p] [aa p (b6 (cJ y o (m) ((i:Int)) (3) (aV) (no) (he) op t)) 288,cs,aq] (fun v S=>v= .tuple #[]∧S=[aa p (b6 (cJ y o (m) ((i:Int)) (3) (aV) (no) (he) op t)) 288,cs,aq]):=by
 refine dn 46 Tryz.func268 fun a4 ax=>?_
 have o9:i<y.a0.l.length:=(List.getElem?_eq_some_iff.1 gW).1
 have sl:=y.a0.small
 refine ah ?_
 refine fe (au:=[ag p]) fun ay=>?_
 refine ki [aa p (b6 (cJ y o (m) ((i:Int)) (3) (aV) (no) (he) op t)) 288,cs,aa ay [ag p] 167] ae aC ?_
 refine aN [0,1,2,3,4,5,6,7,8] ?_
 refine cy 9 rfl (h7 rfl rfl ae (y.a0).en rfl al rfl) ?_
 refine aN [10] ?_
 refine bs 11 rfl (XH (bx:=[U (d 3),U (d 4),U (d 5),U (d 6),U (d 7),U (d 8),U (d 9),U (d 10),U (d 11),U (d 12),U (d 13),U (d 14),U (d 15),U (d 16),U (d 17),U (d 18)]) (aW:=cS) (aH:=23) (i:=i) (k:=3) (fun _=>rfl) rfl ar aZ.a0 ae gW rfl rfl) ?_
 refine aN [112] ?_
 refine jt rfl .no ae rfl (fun afa=>?_)
 refine aN [113] ?_
 refine mg rfl .no dr (hA rfl rfl rfl ar ae rfl rfl) aC ?_
 refine c7 [99] ?_
 refine dA (KQ p (cJ y o m (i:Int) 3 aV no he op t) aZ ⟨i,d,rfl,gW⟩) ?_
 rw [show tn (cJ y o m (i:Int) 3 aV no he op t)=(cw y.c (d 0),cw y.c (d 1))from LF rfl gW]
 refine aA (ud rfl ae rfl) ?_
 refine cA (ps (cw y.c (d 1)&&&~~~(cw y.c (d 0)))) ?_
 rintro _ _ ⟨hk,rfl,rfl⟩
 refine cU ?_
 refine kh (own:=[aa hk [aI (cw y.c (d 1)&&&~~~(cw y.c (d 0))).toNat] 158,aq]) (aP:=[]) rfl e2 (WA hk bc jb) (fun i S=>S=[]) (fun c i S=>False) (show Take ([aa hk [aI (cw y.c (d 1)&&&~~~(cw y.c (d 0))).toNat] 158,aq]) _ _ from aC) (rfl) rfl (fun x av=>by cases av) ?_ ?_ ?_
 ·intro cu rec jF i aQ ak bt
  exact absurd ak (by simp)
 ·intro c0 aQ bt
  subst bt
  refine cU ?_
  refine Cm (show Take [du c0] _ _ from aC) (ua rfl) ?_
  exact bA
 intro c0 c i aQ ak h
 exact h.elim
theorem YT(p:Nat)(y:bQ)(o:ea){cs fc:ao B}(aZ:y.In cs)(hi:c1 fc o.a0.bl (o.a0.l.flatMap gr))(i:Nat)(d:Nat→Int)(gW:y.a0.l[i]?=some d)(sp:Int×Int)(aB:o.a0.l[i]?=some sp)(m bo aV no he:Int)(op:BitVec 32)(cR: -1000000000≤no∧no≤1000000000)(aE:d 2=1)(dM:BitVec 32)(aJ:dM≠0#32):aS B 219 [ag p,U (i:Int),aI dM.toNat] [aa p (b6 (cJ y o (m) (bo) (0) (aV) (no) (he) op none)) 288,cs,fc] (fun v S=>∃(a:ai ez),(a.l=[⟨true,false,false,(i:Int),d 1,0⟩]∧a.Own)∧v=aw a∧S=[aa p (b6 (cJ y o (m) ((i:Int)) (1) (no) (no) (he) 0#32 none)) 288,dO a,cs,fc]):=by
 refine dn 85 Tryz.func219 fun a4 ax=>?_
 have o9:i<y.a0.l.length:=(List.getElem?_eq_some_iff.1 gW).1
 have sl:=y.a0.small
 refine te ?_
 refine cv (U no) ?_
 refine ah ?_
 refine aA (eO (aW:=cS) (aH:=23) (i:=i) (k:=1) (fun _=>rfl) rfl ar aZ.a0 ae gW rfl) ?_
 refine ah ?_
 refine js (au:=[.bool true,.bool false,.bool false,U ((i:Int)),U (d 1),U (0)]) .no rfl ae bu bu (by rfl) (by rfl) rfl rfl (fun oV=>?_)
 refine xr (b:=oV) 1 6 (.here _ _) rfl rfl ?_
 rw [show(row (.slice (some ⟨oV,0,none⟩) 1 1) 375 6 1 [.bool true,.bool false,.bool false,U ((i:Int)),U (d 1),U (0)]:ao B)=dO (mx oV ⟨true,false,false,(i:Int),d 1,0⟩)from rfl]
 refine iW ?_
 refine cM [aw o.ba,aw o.a0] ?_
 refine ah ?_
 refine dA (vR o hi i sp aB) ?_
 refine ct ?_
 refine bH (.agg (gr sp).toArray) ?_
 refine bH (.bool true) ?_
 refine da fun ay=>?_
 refine aA (eO (aW:=cS) (aH:=23) (i:=i) (k:=2) (fun _=>rfl) rfl ar aZ.a0 ae gW rfl) ?_
 refine ah ?_
 refine aT ?_ ?_<;>intro ab
 ·refine aT ?_ ?_<;>intro af
  ·exact absurd (BitVec.eq_of_toNat_eq (show dM.toNat=(0#32:BitVec 32).toNat by show dM.toNat=0;omega)) aJ
  exact⟨[aa p (b6 (cJ y o (m) ((i:Int)) (1) (no) (no) (he) 0#32 none)) 288,dO (mx oV ⟨true,false,false,(i:Int),d 1,0⟩),cs,fc],⟨(mx oV ⟨true,false,false,(i:Int),d 1,0⟩),⟨rfl,ai.ug⟩,rfl,rfl⟩,_,bq⟩
 exact bW ab
theorem YU(p:Nat)(y:bQ)(o:ea){cs fc:ao B}(aZ:y.In cs)(hi:c1 fc o.a0.bl (o.a0.l.flatMap gr))(i:Nat)(d:Nat→Int)(gW:y.a0.l[i]?=some d)(sp:Int×Int)(aB:o.a0.l[i]?=some sp)(m bo aV no he:Int)(op:BitVec 32)(cR: -1000000000≤no∧no≤1000000000)(aE:d 2=2)(dM:BitVec 32)(aJ:1≤sp.1∧sp.1≤65536):aS B 219 [ag p,U (i:Int),aI dM.toNat] [aa p (b6 (cJ y o (m) (bo) (0) (aV) (no) (he) op none)) 288,cs,fc] (fun v S=>∃(a:ai ez) (b:Nat),(a.l=[⟨true,false,false,(i:Int),d 1,0⟩]∧a.Own)∧v=aw a∧S=[aa p (b6 (cJ y o (m) ((i:Int)) (2) (no) (no) (he) 0#32 (some (b,16,sp.1)))) 288,ix (some (b,16,sp.1)),dO a,cs,fc]):=by
 refine dn 85 Tryz.func219 fun a4 ax=>?_
 refine hy lz 375 6 ?_
 have o9:i<y.a0.l.length:=(List.getElem?_eq_some_iff.1 gW).1
 have sl:=y.a0.small
 refine te ?_
 refine cv (U no) ?_
 refine ah ?_
 refine aA (eO (aW:=cS) (aH:=23) (i:=i) (k:=1) (fun _=>rfl) rfl ar aZ.a0 ae gW rfl) ?_
 refine ah ?_
 refine js (au:=[.bool true,.bool false,.bool false,U ((i:Int)),U (d 1),U (0)]) .no rfl ae bu bu (by rfl) (by rfl) rfl rfl (fun oV=>?_)
 refine xr (b:=oV) 1 6 (.here _ _) rfl rfl ?_
 rw [show(row (.slice (some ⟨oV,0,none⟩) 1 1) 375 6 1 [.bool true,.bool false,.bool false,U ((i:Int)),U (d 1),U (0)]:ao B)=dO (mx oV ⟨true,false,false,(i:Int),d 1,0⟩)from rfl]
 refine iW ?_
 refine cM [aw o.ba,aw o.a0] ?_
 refine ah ?_
 refine dA (vR o hi i sp aB) ?_
 refine ct ?_
 refine bH (.agg (gr sp).toArray) ?_
 refine bH (.bool true) ?_
 refine da fun ay=>?_
 refine aA (eO (aW:=cS) (aH:=23) (i:=i) (k:=2) (fun _=>rfl) rfl ar aZ.a0 ae gW rfl) ?_
 refine ah ?_
 refine aT ?_ ?_<;>intro ab
 ·exact bW ab
 refine bX ?_ ?_<;>intro af
 ·refine mn ?_
  refine cM (gr sp) ?_
  refine ah ?_
  refine lP .no e2 rfl (Nv p y o m (i:Int) 2 no no he 0#32 sp aJ dM) bq rfl ?_
  rintro _ _ ⟨b,rfl,rfl⟩
  simp only [List.cons_append,List.nil_append]
  refine ma (aW:=lz) (c:=(mx oV ⟨true,false,false,(i:Int),d 1,0⟩)) (b:=(ai.bG:ai ez)) .no rfl rfl ae ar ar (eh ai.fY rfl) (fun _=>rfl) (fun _=>rfl) (by show 1+0≤_;decide) (by show(1+0)*_≤_;decide) rfl (fun a aO bT=>?_)
  refine ah ?_
  exact⟨[aa p (b6 (cJ y o (m) ((i:Int)) (2) (no) (no) (he) 0#32 (some (b,16,sp.1)))) 288,ix (some (b,16,sp.1)),dO a,cs,fc],⟨a,b,⟨aO,bT⟩,rfl,rfl⟩,_,bq⟩
 exact bW af
theorem YV(p:Nat)(y:bQ)(o:ea){cs fc:ao B}(aZ:y.In cs)(hi:c1 fc o.a0.bl (o.a0.l.flatMap gr))(i:Nat)(d:Nat→Int)(gW:y.a0.l[i]?=some d)(sp:Int×Int)(aB:o.a0.l[i]?=some sp)(m bo aV no he:Int)(op:BitVec 32)(cR: -1000000000≤no∧no≤1000000000)(aE:d 2=3)(dM:BitVec 32)(aJ:1≤sp.1∧sp.1≤65536)(jb:(cw y.c (d 1)&&&~~~(cw y.c (d 0)))=0#32){aq:ao B}(bc:dL aq)(aD:dS aq):aS B 219 [ag p,U (i:Int),aI dM.toNat] [aa p (b6 (cJ y o (m) (bo) (0) (aV) (no) (he) op none)) 288,cs,fc,aq] (fun v S=>∃(a:ai ez) (b:Nat),(a.l=[⟨true,false,false,(i:Int),d 1,0⟩]∧a.Own)∧v=aw a∧S=[aa p (b6 (cJ y o (m) ((i:Int)) (3) (no) (no) (he) 0#32 (some (b,16,sp.1)))) 288,ix (some (b,16,sp.1)),dO a,cs,fc,aq]):=by
 refine dn 85 Tryz.func219 fun a4 ax=>?_
 refine hy lz 375 6 ?_
 have o9:i<y.a0.l.length:=(List.getElem?_eq_some_iff.1 gW).1
 have sl:=y.a0.small
 refine te ?_
 refine cv (U no) ?_
 refine ah ?_
 refine aA (eO (aW:=cS) (aH:=23) (i:=i) (k:=1) (fun _=>rfl) rfl ar aZ.a0 ae gW rfl) ?_
 refine ah ?_
 refine js (au:=[.bool true,.bool false,.bool false,U ((i:Int)),U (d 1),U (0)]) .no rfl ae bu bu (by rfl) (by rfl) rfl rfl (fun oV=>?_)
 refine xr (b:=oV) 1 6 (.here _ _) rfl rfl ?_
 rw [show(row (.slice (some ⟨oV,0,none⟩) 1 1) 375 6 1 [.bool true,.bool false,.bool false,U ((i:Int)),U (d 1),U (0)]:ao B)=dO (mx oV ⟨true,false,false,(i:Int),d 1,0⟩)from rfl]
 refine iW ?_
 refine cM [aw o.ba,aw o.a0] ?_
 refine ah ?_
 refine dA (vR o hi i sp aB) ?_
 refine ct ?_
 refine bH (.agg (gr sp).toArray) ?_
 refine bH (.bool true) ?_
 refine da fun ay=>?_
 refine aA (eO (aW:=cS) (aH:=23) (i:=i) (k:=2) (fun _=>rfl) rfl ar aZ.a0 ae gW rfl) ?_
 refine ah ?_
 refine aT ?_ ?_<;>intro ab
 ·exact bW ab
 refine aT ?_ ?_<;>intro af
 ·exact bW af
 refine aT ?_ ?_<;>intro az
 ·refine lP .no e2 rfl (WB p y o aZ i d gW m no no he 0#32 none jb bc aD) bq rfl ?_
  rintro _ _ ⟨rfl,rfl⟩
  simp only [List.cons_append,List.nil_append]
  refine iW ?_
  refine cM (gr sp) ?_
  refine ah ?_
  refine lP .no e2 rfl (Nv p y o m (i:Int) 3 no no he 0#32 sp aJ dM) bq rfl ?_
  rintro _ _ ⟨b,rfl,rfl⟩
  simp only [List.cons_append,List.nil_append]
  refine ma (aW:=lz) (c:=(mx oV ⟨true,false,false,(i:Int),d 1,0⟩)) (b:=(ai.bG:ai ez)) .no rfl rfl ae ar ar (eh ai.fY rfl) (fun _=>rfl) (fun _=>rfl) (by show 1+0≤_;decide) (by show(1+0)*_≤_;decide) rfl (fun a aO bT=>?_)
  refine ah ?_
  exact⟨[aa p (b6 (cJ y o (m) ((i:Int)) (3) (no) (no) (he) 0#32 (some (b,16,sp.1)))) 288,ix (some (b,16,sp.1)),dO a,cs,fc,aq],⟨a,b,⟨aO,bT⟩,rfl,rfl⟩,_,bq⟩
 exact bW az
theorem F4(p:Nat)(y:bQ)(o:ea)(m bo bn aV no he:Int)(op:BitVec 32)(t:mD)(qQ:bo<0):aS B 218 [ag p] [aa p (b6 (cJ y o (m) (bo) (bn) (aV) (no) (he) op t)) 288] (fun v S=>v=U m∧S=[aa p (b6 (cJ y o (m) (bo) (bn) (aV) (no) (he) op t)) 288]):=by
 refine bD 24 Tryz.func218 fun a4 ax=>?_
 refine aT ?_ ?_<;>intro ab
 ·exact bA
 exact bW ab
theorem YW(p:Nat)(y:bQ)(o:ea)(m bo bn aV no he:Int)(op:BitVec 32)(t:mD):aS B 120 [ag p] [aa p (b6 (cJ y o (m) (bo) (bn) (aV) (no) (he) op t)) 288] (fun v S=>v=U m∧S=[aa p (b6 (cJ y o (m) (bo) (bn) (aV) (no) (he) op t)) 288]):=by
 refine bD 7 Tryz.func120 fun a4 ax=>?_
 exact bA
theorem YX(p:Nat)(y:bQ)(o:ea){cs:ao B}(aZ:y.In cs)(m bo bn aV no he:Int)(op:BitVec 32)(t:mD)(iO:bn≠2∧bn≠3):aS B 141 [ag p] [aa p (b6 (cJ y o (m) (bo) (bn) (aV) (no) (he) op t)) 288,cs] (fun v S=>v=aI (cw y.c m).toNat∧S=[aa p (b6 (cJ y o (m) (bo) (bn) (aV) (no) (he) op t)) 288,cs]):=by
 refine bD 28 Tryz.func141 fun a4 ax=>?_
 refine aT ?_ ?_<;>intro ab
 ·exact bW ab
 refine aT ?_ ?_<;>intro af
 ·exact bW af
 refine ki [aa p (b6 (cJ y o (m) (bo) (bn) (aV) (no) (he) op t)) 288] ae aC ?_
 refine aN [0,1,2] ?_
 refine bs 3 rfl (dw (bx:=(bJ y)) rfl ar ae rfl (by rfl)) ?_
 refine aN [4,5,6,7] ?_
 refine e6 8 (sW y aZ m) ?_
 refine c7 [9,99] ?_
 exact bA
theorem YY(p:Nat)(y:bQ)(o:ea){cs fc:ao B}(aZ:y.In cs)(hi:c1 fc o.a0.bl (o.a0.l.flatMap gr))(i:Nat)(d:Nat→Int)(gW:y.a0.l[i]?=some d)(sp:Int×Int)(aB:o.a0.l[i]?=some sp)(m gP bo aV no he:Int)(op:BitVec 32)(cR: -1000000000≤no∧no≤1000000000)(qQ:bo<0)(sw:he<0)(qO:0≤gP∧gP<(y.ba.l.length:Int))(ek:ji y.a0.l m gP=((i:Int),true))(aE:d 2=1)(dM:BitVec 32)(aJ:dM≠0#32):aS B 148 [ag p,U gP,aI dM.toNat] [aa p (b6 (cJ y o (m) (bo) (0) (aV) (no) (he) op none)) 288,cs,fc] (fun v S=>∃(a:ai ez),(a.l=[⟨true,false,false,(i:Int),d 1,0⟩]∧a.Own)∧v= .tuple #[aw a,U 0]∧S=[aa p (b6 (cJ y o (m) ((i:Int)) (1) (no) (no) (he) 0#32 none)) 288,dO a,cs,fc]):=by
 refine dn 53 Tryz.func148 fun a4 ax=>?_
 have j9:=y.ba.small
 refine ah ?_
 refine li ?_ ?_<;>intro ab
 ·exact bW ab
 refine cW ?_
 refine cv (aw y.ba) ?_
 refine ah ?_
 refine aT ?_ ?_<;>intro af
 ·exact bW af
 refine aT ?_ ?_<;>intro az
 ·exact bW az
 refine ki [aa p (b6 (cJ y o (m) (bo) (0) (aV) (no) (he) op none)) 288,cs] ae aC ?_
 refine aN [0,1,2] ?_
 refine bs 3 rfl (dw (bx:=(bJ y)) rfl ar ae rfl (by rfl)) ?_
 refine aN [4,6] ?_
 refine e6 5 (F4 p y o m bo 0 aV no he op none qQ) ?_
 refine e6 7 (C1 y aZ m gP) ?_
 rw [ek]
 refine aN [8] ?_
 refine cy 9 rfl (fx (v:=U (i:Int)) rfl) ?_
 refine cy 10 rfl (fx (v:= .bool true) rfl) ?_
 refine aN [11,12,99] ?_
 refine Dz ?_
 refine aT ?_ ?_<;>intro a5
 ·exact bW a5
 refine cA (YT p y o aZ hi i d gW sp aB m bo aV no he op cR aE dM aJ) ?_
 rintro _ _ ⟨a,⟨aO,bT⟩,rfl,rfl⟩
 refine cU ?_
 exact⟨[aa p (b6 (cJ y o (m) ((i:Int)) (1) (no) (no) (he) 0#32 none)) 288,dO a,cs,fc],⟨a,⟨aO,bT⟩,rfl,rfl⟩,_,bq⟩
theorem YZ(p:Nat)(y:bQ)(o:ea){cs fc:ao B}(aZ:y.In cs)(hi:c1 fc o.a0.bl (o.a0.l.flatMap gr))(i:Nat)(d:Nat→Int)(gW:y.a0.l[i]?=some d)(sp:Int×Int)(aB:o.a0.l[i]?=some sp)(m gP bo aV no he:Int)(op:BitVec 32)(cR: -1000000000≤no∧no≤1000000000)(qQ:bo<0)(sw:he<0)(qO:0≤gP∧gP<(y.ba.l.length:Int))(ek:ji y.a0.l m gP=((i:Int),true))(aE:d 2=2)(dM:BitVec 32)(aJ:1≤sp.1∧sp.1≤65536):aS B 148 [ag p,U gP,aI dM.toNat] [aa p (b6 (cJ y o (m) (bo) (0) (aV) (no) (he) op none)) 288,cs,fc] (fun v S=>∃(a:ai ez) (b:Nat),(a.l=[⟨true,false,false,(i:Int),d 1,0⟩]∧a.Own)∧v= .tuple #[aw a,U 0]∧S=[aa p (b6 (cJ y o (m) ((i:Int)) (2) (no) (no) (he) 0#32 (some (b,16,sp.1)))) 288,ix (some (b,16,sp.1)),dO a,cs,fc]):=by
 refine dn 53 Tryz.func148 fun a4 ax=>?_
 have j9:=y.ba.small
 refine ah ?_
 refine li ?_ ?_<;>intro ab
 ·exact bW ab
 refine cW ?_
 refine cv (aw y.ba) ?_
 refine ah ?_
 refine aT ?_ ?_<;>intro af
 ·exact bW af
 refine aT ?_ ?_<;>intro az
 ·exact bW az
 refine ki [aa p (b6 (cJ y o (m) (bo) (0) (aV) (no) (he) op none)) 288,cs] ae aC ?_
 refine aN [0,1,2] ?_
 refine bs 3 rfl (dw (bx:=(bJ y)) rfl ar ae rfl (by rfl)) ?_
 refine aN [4,6] ?_
 refine e6 5 (F4 p y o m bo 0 aV no he op none qQ) ?_
 refine e6 7 (C1 y aZ m gP) ?_
 rw [ek]
 refine aN [8] ?_
 refine cy 9 rfl (fx (v:=U (i:Int)) rfl) ?_
 refine cy 10 rfl (fx (v:= .bool true) rfl) ?_
 refine aN [11,12,99] ?_
 refine Dz ?_
 refine aT ?_ ?_<;>intro a5
 ·exact bW a5
 refine cA (YU p y o aZ hi i d gW sp aB m bo aV no he op cR aE dM aJ) ?_
 rintro _ _ ⟨a,b,⟨aO,bT⟩,rfl,rfl⟩
 refine cU ?_
 exact⟨[aa p (b6 (cJ y o (m) ((i:Int)) (2) (no) (no) (he) 0#32 (some (b,16,sp.1)))) 288,ix (some (b,16,sp.1)),dO a,cs,fc],⟨a,b,⟨aO,bT⟩,rfl,rfl⟩,_,bq⟩
theorem Y0(p:Nat)(y:bQ)(o:ea){cs fc:ao B}(aZ:y.In cs)(hi:c1 fc o.a0.bl (o.a0.l.flatMap gr))(i:Nat)(d:Nat→Int)(gW:y.a0.l[i]?=some d)(sp:Int×Int)(aB:o.a0.l[i]?=some sp)(m gP bo aV no he:Int)(op:BitVec 32)(cR: -1000000000≤no∧no≤1000000000)(qQ:bo<0)(sw:he<0)(qO:0≤gP∧gP<(y.ba.l.length:Int))(ek:ji y.a0.l m gP=((i:Int),true))(aE:d 2=3)(dM:BitVec 32)(aJ:1≤sp.1∧sp.1≤65536)(jb:(cw y.c (d 1)&&&~~~(cw y.c (d 0)))=0#32){aq:ao B}(bc:dL aq)(aD:dS aq):aS B 148 [ag p,U gP,aI dM.toNat] [aa p (b6 (cJ y o (m) (bo) (0) (aV) (no) (he) op none)) 288,cs,fc,aq] (fun v S=>∃(a:ai ez) (b:Nat),(a.l=[⟨true,false,false,(i:Int),d 1,0⟩]∧a.Own)∧v= .tuple #[aw a,U 0]∧S=[aa p (b6 (cJ y o (m) ((i:Int)) (3) (no) (no) (he) 0#32 (some (b,16,sp.1)))) 288,ix (some (b,16,sp.1)),dO a,cs,fc,aq]):=by
 refine dn 53 Tryz.func148 fun a4 ax=>?_
 have j9:=y.ba.small
 refine ah ?_
 refine li ?_ ?_<;>intro ab
 ·exact bW ab
 refine cW ?_
 refine cv (aw y.ba) ?_
 refine ah ?_
 refine aT ?_ ?_<;>intro af
 ·exact bW af
 refine aT ?_ ?_<;>intro az
 ·exact bW az
 refine ki [aa p (b6 (cJ y o (m) (bo) (0) (aV) (no) (he) op none)) 288,cs] ae aC ?_
 refine aN [0,1,2] ?_
 refine bs 3 rfl (dw (bx:=(bJ y)) rfl ar ae rfl (by rfl)) ?_
 refine aN [4,6] ?_
 refine e6 5 (F4 p y o m bo 0 aV no he op none qQ) ?_
 refine e6 7 (C1 y aZ m gP) ?_
 rw [ek]
 refine aN [8] ?_
 refine cy 9 rfl (fx (v:=U (i:Int)) rfl) ?_
 refine cy 10 rfl (fx (v:= .bool true) rfl) ?_
 refine aN [11,12,99] ?_
 refine Dz ?_
 refine aT ?_ ?_<;>intro a5
 ·exact bW a5
 refine cA (YV p y o aZ hi i d gW sp aB m bo aV no he op cR aE dM aJ jb bc aD) ?_
 rintro _ _ ⟨a,b,⟨aO,bT⟩,rfl,rfl⟩
 refine cU ?_
 exact⟨[aa p (b6 (cJ y o (m) ((i:Int)) (3) (no) (no) (he) 0#32 (some (b,16,sp.1)))) 288,ix (some (b,16,sp.1)),dO a,cs,fc,aq],⟨a,b,⟨aO,bT⟩,rfl,rfl⟩,_,bq⟩
theorem WC(p:Nat)(y:bQ)(o:ea)(m bo bn aV no he:Int)(op:BitVec 32)(cR: -1000000≤no∧no≤1000000)(dM:BitVec 32)(hw:¬(bn=1∧dM=0#32)):aS B 213 [ag p,aI dM.toNat] [aa p (b6 (cJ y o (m) (bo) (bn) (aV) (no) (he) op none)) 288] (fun v S=>v= .slice none 0 0∧S=[aa p (b6 (cJ y o (m) (bo) (bn) (aV) (no+1) (he) op none)) 288]):=by
 refine dn 64 Tryz.func213 fun a4 ax=>?_
 refine jT ?_
 refine cv (U no) ?_
 refine ah ?_
 refine lP .no e2 rfl (LO p y o m bo bn aV (no+1) he op) bq rfl ?_
 rintro _ _ ⟨rfl,rfl⟩
 refine cU ?_
 refine k4 0 ?_
 refine cW ?_
 refine aT ?_ ?_<;>intro ab
 ·simp at ab
 refine k3 ?_
 refine ah ?_
 refine cC ?_ ?_<;>intro af
 ·refine aT ?_ ?_<;>intro az
  ·exact absurd ⟨by omega,BitVec.eq_of_toNat_eq (show dM.toNat=(0#32:BitVec 32).toNat by show dM.toNat=0;omega)⟩ hw
  exact bA
 exact bA
theorem WD(p:Nat)(y:bQ)(o:ea)(b:Nat)(id k:Int)(aj:2≤k∧k≤65536)(m bo bn aV no he:Int)(op:BitVec 32)(cR: -1000000≤no∧no≤1000000)(dM:BitVec 32)(hw:¬(bn=1∧dM=0#32)):aS B 213 [ag p,aI dM.toNat] [aa p (b6 (cJ y o (m) (bo) (bn) (aV) (no) (he) op (some (b,id,k)))) 288,ix (some (b,id,k))] (fun v S=>v= .slice none 0 0∧S=[aa p (b6 (cJ y o (m) (bo) (bn) (aV) (no+1) (he) op (some (b,id,k-1)))) 288,ix (some (b,id,k-1))]):=by
 refine dn 64 Tryz.func213 fun a4 ax=>?_
 refine jT ?_
 refine cv (U no) ?_
 refine ah ?_
 refine lP .no e2 rfl (UJ p y o m bo bn aV (no+1) he op b id k aj) bq rfl ?_
 rintro _ _ ⟨rfl,rfl⟩
 refine cU ?_
 refine k4 0 ?_
 refine cW ?_
 refine aT ?_ ?_<;>intro ab
 ·simp at ab
 refine k3 ?_
 refine ah ?_
 refine cC ?_ ?_<;>intro af
 ·refine aT ?_ ?_<;>intro az
  ·exact absurd ⟨by omega,BitVec.eq_of_toNat_eq (show dM.toNat=(0#32:BitVec 32).toNat by show dM.toNat=0;omega)⟩ hw
  exact bA
 exact bA
theorem UK(p:Nat)(y:bQ)(o:ea){cs fc:ao B}(aZ:y.In cs)(hi:c1 fc o.a0.bl (o.a0.l.flatMap gr))(i:Nat)(d:Nat→Int)(aD:y.a0.l[i]?=some d)(sp:Int×Int)(aB:o.a0.l[i]?=some sp)(b:Nat)(m bn aV no he:Int)(op:BitVec 32)(cR: -1000000≤no∧no≤1000000)(my: -1000000000≤aV∧aV≤1000000000)(sw:he<0)(dM:BitVec 32)(iO:bn≠1)(kW:0<sp.2∧sp.2≤65536):aS B 213 [ag p,aI dM.toNat] [aa p (b6 (cJ y o (m) ((i:Int)) (bn) (aV) (no) (he) op (some (b,16,1)))) 288,ix (some (b,16,1)),cs,fc] (fun v S=>∃(a:ai ez) (c:Nat),(a.l=[⟨false,true,false,(i:Int),d 1,no+1-aV⟩]∧a.Own)∧v=aw a∧S=[aa p (b6 (cJ y o (d 1) ((i:Int)) (4) (aV) (no+1) (he) op (some (c,17,sp.2)))) 288,ix (some (c,17,sp.2)),dO a,cs,fc]):=by
 refine dn 64 Tryz.func213 fun a4 ax=>?_
 refine hy lz 375 6 ?_
 refine jT ?_
 refine cv (U no) ?_
 refine ah ?_
 refine lP .no e2 rfl (F3 p y o m (i:Int) bn aV (no+1) he op b 16) bq rfl ?_
 rintro _ _ ⟨rF,⟨uW,Ar⟩,rfl,rfl⟩
 simp only [List.cons_append,List.nil_append]
 have Ox:rF.l.length=1:=by rw [uW];rfl
 have As:rF.l[0]?=some 16:=by rw [uW];rfl
 refine ah ?_
 refine k4 1 ?_
 refine ah ?_
 refine aT ?_ ?_<;>intro ab
 ·refine aA (hx (j:=0) rfl rfl ae (rF).en rfl al rfl) ?_
  refine aA (eO (aW:=ei) (aH:=1) (i:=0) (k:=0) (fun _=>rfl) rfl ar (eh Ar rfl) ae As rfl) ?_
  refine mn ?_
  refine aT ?_ ?_<;>intro af
  ·refine lP .no e2 rfl (Wz p y o aZ hi i d aD sp aB m bn aV (no+1) he op sw al my kW dM) bq rfl ?_
   rintro _ _ ⟨cj,c,⟨hh,ka⟩,rfl,rfl⟩
   simp only [List.cons_append,List.nil_append]
   refine ma (aW:=lz) (c:=(ai.bG:ai ez)) (b:=cj) .no rfl rfl ae ar ar (eh ka rfl) (fun _=>rfl) (fun _=>rfl) (by rw [hh];show 0+1≤_;decide) (by rw [hh];show(0+1)*_≤_;decide) rfl (fun a aO bT=>?_)
   rw [hh]at aO
   refine ah ?_
   refine nN ?_
   refine ah ?_
   refine aT ?_ ?_<;>intro az
   ·exact bW az
   refine k3 ?_
   refine kZ ?_
   refine cv (U 4) ?_
   refine dW ?_
   refine cC ?_ ?_<;>intro a5
   ·exact bW a5
   exact⟨[aa p (b6 (cJ y o (d 1) ((i:Int)) (4) (aV) (no+1) (he) op (some (c,17,sp.2)))) 288,ix (some (c,17,sp.2)),dO a,cs,fc],⟨a,c,⟨aO,bT⟩,rfl,rfl⟩,_,bq⟩
  exact bW af
 exact bW ab
theorem UL(p:Nat)(y:bQ)(o:ea){cs fc:ao B}(aZ:y.In cs)(hi:c1 fc o.a0.bl (o.a0.l.flatMap gr))(i:Nat)(d:Nat→Int)(aD:y.a0.l[i]?=some d)(sp:Int×Int)(aB:o.a0.l[i]?=some sp)(b:Nat)(m bn aV no he:Int)(op:BitVec 32)(cR: -1000000≤no∧no≤1000000)(my: -1000000000≤aV∧aV≤1000000000)(sw:he<0)(dM:BitVec 32)(iO:bn≠1)(kW:¬0<sp.2):aS B 213 [ag p,aI dM.toNat] [aa p (b6 (cJ y o (m) ((i:Int)) (bn) (aV) (no) (he) op (some (b,16,1)))) 288,ix (some (b,16,1)),cs,fc] (fun v S=>∃(a:ai ez),(a.l=[⟨false,true,false,(i:Int),d 1,no+1-aV⟩,⟨false,false,true,(i:Int),d 1,0⟩]∧a.Own)∧v=aw a∧S=[aa p (b6 (cJ y o (d 1) (-1) (0) (aV) (no+1) (he) 0#32 none)) 288,dO a,cs,fc]):=by
 refine dn 64 Tryz.func213 fun a4 ax=>?_
 refine hy lz 375 6 ?_
 refine jT ?_
 refine cv (U no) ?_
 refine ah ?_
 refine lP .no e2 rfl (F3 p y o m (i:Int) bn aV (no+1) he op b 16) bq rfl ?_
 rintro _ _ ⟨rF,⟨uW,Ar⟩,rfl,rfl⟩
 simp only [List.cons_append,List.nil_append]
 have Ox:rF.l.length=1:=by rw [uW];rfl
 have As:rF.l[0]?=some 16:=by rw [uW];rfl
 refine ah ?_
 refine k4 1 ?_
 refine ah ?_
 refine aT ?_ ?_<;>intro ab
 ·refine aA (hx (j:=0) rfl rfl ae (rF).en rfl al rfl) ?_
  refine aA (eO (aW:=ei) (aH:=1) (i:=0) (k:=0) (fun _=>rfl) rfl ar (eh Ar rfl) ae As rfl) ?_
  refine mn ?_
  refine aT ?_ ?_<;>intro af
  ·refine lP .no e2 rfl (ML p y o aZ hi i d aD sp aB m bn aV (no+1) he op sw al my kW dM) bq rfl ?_
   rintro _ _ ⟨cj,⟨hh,ka⟩,rfl,rfl⟩
   simp only [List.cons_append,List.nil_append]
   refine ma (aW:=lz) (c:=(ai.bG:ai ez)) (b:=cj) .no rfl rfl ae ar ar (eh ka rfl) (fun _=>rfl) (fun _=>rfl) (by rw [hh];show 0+2≤_;decide) (by rw [hh];show(0+2)*_≤_;decide) rfl (fun a aO bT=>?_)
   rw [hh]at aO
   refine ah ?_
   refine nN ?_
   refine ah ?_
   refine aT ?_ ?_<;>intro az
   ·exact bW az
   refine k3 ?_
   refine kZ ?_
   refine cv (U 0) ?_
   refine dW ?_
   refine cC ?_ ?_<;>intro a5
   ·exact bW a5
   exact⟨[aa p (b6 (cJ y o (d 1) (-1) (0) (aV) (no+1) (he) 0#32 none)) 288,dO a,cs,fc],⟨a,⟨aO,bT⟩,rfl,rfl⟩,_,bq⟩
  exact bW af
 exact bW ab
theorem WE(p:Nat)(y:bQ)(o:ea)(b:Nat)(m bo bn aV no he:Int)(op:BitVec 32)(cR: -1000000≤no∧no≤1000000)(sw:he<0)(dM:BitVec 32)(iO:bn≠1):aS B 213 [ag p,aI dM.toNat] [aa p (b6 (cJ y o (m) (bo) (bn) (aV) (no) (he) op (some (b,17,1)))) 288,ix (some (b,17,1))] (fun v S=>∃(a:ai ez),(a.l=[⟨false,false,true,bo,m,0⟩]∧a.Own)∧v=aw a∧S=[aa p (b6 (cJ y o (m) (-1) (0) (aV) (no+1) (he) 0#32 none)) 288,dO a]):=by
 refine dn 64 Tryz.func213 fun a4 ax=>?_
 refine hy lz 375 6 ?_
 refine jT ?_
 refine cv (U no) ?_
 refine ah ?_
 refine lP .no e2 rfl (F3 p y o m bo bn aV (no+1) he op b 17) bq rfl ?_
 rintro _ _ ⟨rF,⟨uW,Ar⟩,rfl,rfl⟩
 simp only [List.cons_append,List.nil_append]
 have Ox:rF.l.length=1:=by rw [uW];rfl
 have As:rF.l[0]?=some 17:=by rw [uW];rfl
 refine ah ?_
 refine k4 1 ?_
 refine ah ?_
 refine aT ?_ ?_<;>intro ab
 ·refine aA (hx (j:=0) rfl rfl ae (rF).en rfl al rfl) ?_
  refine aA (eO (aW:=ei) (aH:=1) (i:=0) (k:=0) (fun _=>rfl) rfl ar (eh Ar rfl) ae As rfl) ?_
  refine mn ?_
  refine bX ?_ ?_<;>intro af
  ·exact bW af
  refine cW ?_
  refine aT ?_ ?_<;>intro az
  ·refine lP .no e2 rfl (Nt p y o m bo bn aV (no+1) he op none sw dM) bq rfl ?_
   rintro _ _ ⟨cj,⟨hh,ka⟩,rfl,rfl⟩
   simp only [List.cons_append,List.nil_append]
   refine ma (aW:=lz) (c:=(ai.bG:ai ez)) (b:=cj) .no rfl rfl ae ar ar (eh ka rfl) (fun _=>rfl) (fun _=>rfl) (by rw [hh];show 0+1≤_;decide) (by rw [hh];show(0+1)*_≤_;decide) rfl (fun a aO bT=>?_)
   rw [hh]at aO
   refine ah ?_
   refine nN ?_
   refine ah ?_
   refine aT ?_ ?_<;>intro a5
   ·exact bW a5
   refine k3 ?_
   refine kZ ?_
   refine cv (U 0) ?_
   refine dW ?_
   refine cC ?_ ?_<;>intro cd
   ·exact bW cd
   exact⟨[aa p (b6 (cJ y o (m) (-1) (0) (aV) (no+1) (he) 0#32 none)) 288,dO a],⟨a,⟨aO,bT⟩,rfl,rfl⟩,_,bq⟩
  exact bW az
 exact bW ab
theorem WG(p:Nat)(y:bQ)(o:ea){cs fc:ao B}(aZ:y.In cs)(hi:c1 fc o.a0.bl (o.a0.l.flatMap gr))(i:Nat)(d:Nat→Int)(aD:y.a0.l[i]?=some d)(sp:Int×Int)(aB:o.a0.l[i]?=some sp)(m aV no he:Int)(op:BitVec 32)(cR: -1000000≤no∧no≤1000000)(my: -1000000000≤aV∧aV≤1000000000)(sw:he<0)(dM:BitVec 32)(l0:dM=0#32)(kW:¬0<sp.2):aS B 213 [ag p,aI dM.toNat] [aa p (b6 (cJ y o (m) ((i:Int)) (1) (aV) (no) (he) op none)) 288,cs,fc] (fun v S=>∃(a:ai ez),(a.l=[⟨false,true,false,(i:Int),d 1,no+1-aV⟩,⟨false,false,true,(i:Int),d 1,0⟩]∧a.Own)∧v=aw a∧S=[aa p (b6 (cJ y o (d 1) (-1) (0) (aV) (no+1) (he) 0#32 none)) 288,dO a,cs,fc]):=by
 refine dn 64 Tryz.func213 fun a4 ax=>?_
 refine hy lz 375 6 ?_
 refine jT ?_
 refine cv (U no) ?_
 refine ah ?_
 refine lP .no e2 rfl (LO p y o m (i:Int) 1 aV (no+1) he op) bq rfl ?_
 rintro _ _ ⟨rfl,rfl⟩
 refine cU ?_
 refine k4 0 ?_
 refine cW ?_
 refine aT ?_ ?_<;>intro ab
 ·simp at ab
 refine k3 ?_
 refine kZ ?_
 refine cv (U 1) ?_
 refine dW ?_
 refine cC ?_ ?_<;>intro af
 ·refine aT ?_ ?_<;>intro az
  ·refine lP .no e2 rfl (ML p y o aZ hi i d aD sp aB m 1 aV (no+1) he op sw al my kW dM) bq rfl ?_
   rintro _ _ ⟨cj,⟨hh,ka⟩,rfl,rfl⟩
   simp only [List.cons_append,List.nil_append]
   refine ma (aW:=lz) (c:=(ai.bG:ai ez)) (b:=cj) .no rfl rfl ae ar ar (eh ka rfl) (fun _=>rfl) (fun _=>rfl) (by rw [hh];show 0+2≤_;decide) (by rw [hh];show(0+2)*_≤_;decide) rfl (fun a aO bT=>?_)
   rw [hh]at aO
   refine ah ?_
   exact⟨[aa p (b6 (cJ y o (d 1) (-1) (0) (aV) (no+1) (he) 0#32 none)) 288,dO a,cs,fc],⟨a,⟨aO,bT⟩,rfl,rfl⟩,_,bq⟩
  rw [l0]at az;exact absurd rfl az
 simp at af
def Ie(p q:Int×Int):Prop:=p.2<q.2∨(p.2=q.2∧p.1<q.1)
theorem Jj(r:Nat→Int)(l:Nat):∀n,(qu r l n).Pairwise Ie
 |0=>List.Pairwise.nil
 |n+1=>by
  rw [T2]
  refine List.pairwise_append.2 ⟨Jj r l n,by split<;>simp,fun a aO b bb=>?_⟩
  obtain⟨k,ab,_,rfl⟩:=B6.1 aO
  split at bb
  ·simp at bb;subst bb;exact .inr ⟨rfl,show(k:Int)<n by omega⟩
  cases bb
theorem Jk(r:Nat→Int):∀m,(uz r m).Pairwise Ie
 |0=>List.Pairwise.nil
 |m+1=>by
  rw [T3]
  refine List.pairwise_append.2 ⟨Jk r m,Jj r m 32,fun a aO b bb=> .inl ?_⟩
  obtain⟨k,_,_,rfl⟩:=B6.1 bb
  unfold uz at aO
  simp only [List.mem_flatMap,List.mem_range,B6]at aO
  obtain⟨l,ab,cB,_,_,rfl⟩:=aO
  show(l:Int)<m;omega
theorem JK{r:Nat→Int}{p:Int×Int}{l:List (Int×Int)}(h:goes r=p::l):iC r=(p.1,true):=by unfold iC;rw [h]
theorem F5{r:Nat→Int}{k:Nat}{v:Int}(aj:k<32)(h:0≤v∧v<32):kX r (k:Int) v=bF r k (v+1):=by
  unfold kX r3
  rw [if_pos (decide_eq_true ⟨by omega,by omega,h.1,h.2⟩),Int.toNat_natCast]
theorem S6{r:Nat→Int}{k:Nat}(aj:k<32):qt r (k:Int)=bF r k 0:=FQ aj
abbrev b4.L(s:b4)(k:Nat):Prop:=hasB s.live (k:Int)=true
abbrev b4.dM(s:b4)(k:Nat):Int:=(s.aF k).mu s.cY
theorem Y1{s:b4}(h:fP s){k:Nat}(aj:s.L k):0≤s.dM k∧s.dM k≤31:=by
  obtain⟨ab,af,_⟩:=h.live k aj
  have:=Cy (id:=(s.aF k).id) (d:=(s.aF k).done) (l:=(s.aF k).cT.l) h.cY (by omega)
  show 0≤nj _ _ _ _∧nj _ _ _ _≤31
  omega
theorem EX{s:b4}(h:fP s):((iC s.r).2=true∧∃k:Nat,k<16∧s.L k∧(iC s.r).1=k∧∀m,s.L m→s.dM k<s.dM m∨(s.dM k=s.dM m∧k≤m))∨(iC s.r=(0,false)∧∀m,¬s.L m):=by
 have mem:∀m,s.L m→((m:Int),s.dM m)∈goes s.r:=fun m hm=>by
  have ab:=(h.live m hm).1
  have af:=h.vp m al
  rw [if_pos hm]at af
  have az:0≤(s.aF m).mu s.cY∧_:=Y1 h hm
  exact(Fq h.r).2 ⟨m,by omega,by rw [af];omega,by rw [af];simp⟩
 cases bh:goes s.r with
 |nil=>
  right
  refine⟨by unfold iC;rw [bh],fun m hm=>?_⟩
  have:=mem m hm;rw [bh]at this;cases this
 |cons p l=>
  left
  have hm:p∈goes s.r:=by rw [bh];exact List.mem_cons_self ..
  obtain⟨k,ab,af,rfl⟩:=(Fq h.r).1 hm
  have az:=h.vp k ab
  have aJ:s.L k:=by
   cases bb:hasB s.live (k:Int)with
   |true=>exact bb
   |false=>rw [bb]at az;exact absurd az af
  rw [if_pos aJ]at az
  have aj:=(h.live k aJ).1
  refine⟨by rw [JK bh],k,aj,aJ,by rw [JK bh],fun m hm=>?_⟩
  have aB:(goes s.r).Pairwise Ie:=Jk s.r 32
  have pz:=mem m hm
  rw [bh]at aB pz
  rcases List.mem_cons.1 pz with he|he
  ·have:m=k:=by have:=congrArg Prod.fst he;simp at this;omega
   subst this;right;exact⟨rfl,Nat.le_refl _⟩
  have:=(List.pairwise_cons.1 aB).1 _ he
  rw [az]at this
  rcases this with eW|⟨eW,acN⟩
  ·left;simpa using eW
  right;simp at eW acN;exact⟨by simpa using eW,by omega⟩
theorem J6{v:BitVec 32}{k m:Nat}(aj:k<16)(hm:m<32):hasB (v|||ep (k:Int)) (m:Int)=(hasB v (m:Int)||decide (m=k)):=by
 rw [sN,qV];refine congrArg _ (decide_eq_decide.2 al)
theorem Jl{v:BitVec 32}{k m:Nat}(aj:k<16)(hm:m<32):hasB (v&&&~~~(ep (k:Int))) (m:Int)=(hasB v (m:Int)&&!decide (m=k)):=by
 rw [vx,qV];refine congrArg (fun b=>_&&!b) (decide_eq_decide.2 al)
theorem LP{v:BitVec 32}{m:Nat}(h:hasB v (m:Int)=true):m<32:=by
  have:=h;simp [hasB]at this;omega
def At(j:fy)(k:Nat):Prop:=k<16∧j.id=k∧0≤j.done∧j.done≤100000000∧0≤j.cost∧j.cost≤100000000∧-1000000000≤j.rel∧j.rel≤1000000000
theorem S7{j:fy}{k:Nat}(h:At j k):At (fT j) k:=by
 obtain⟨ab,af,az,a5,cd,c5,fo⟩:=h
 refine⟨ab,af,?_,?_,cd,c5,fo⟩
 ·show 0≤min (j.done+1) j.cost;omega
 show min (j.done+1) j.cost≤_;omega
theorem UM{s:b4}(h:fP s)(a7:s.now<1000000000):fP (dm s).1:=by
 have r4:=h.now
 rcases EX h with⟨ab,k,aj,aJ,br,_⟩|⟨ab,_⟩
 ·have Oy:∀i,i<16→((bF s.aF k (fT (s.aF k))) i).cT.Own:=fun i ak=>by
   by_cases e:i=k
   ·subst e;rw [e8];exact h.own i ak
   rw [fs _ _ e];exact h.own i ak
  have PY:∀i:Nat,s.L i→At (bF s.aF k (fT (s.aF k)) i) i:=fun i ak=>by
   by_cases e:i=k
   ·subst e;rw [e8];exact S7 (h.live i ak)
   rw [fs _ _ e];exact h.live i ak
  have p6:=(h.live k aJ).2.1
  by_cases ap:min ((s.aF k).done+1) (s.aF k).cost≥(s.aF k).cost
  ·rw [B7 ab br ap]
   refine⟨Sy h.r,Oy,h.cY,fun i ak=>?_,⟨by show 0≤s.now+1;omega,by show s.now+1≤_;omega⟩,fun n a7=>?_⟩
   ·have AO:=LP ak
    rw [Jl aj AO]at ak
    simp only [Bool.and_eq_true]at ak
    exact PY i ak.1
   show qt s.r (k:Int) n=if hasB (s.live&&&~~~(ep (k:Int))) (n:Int)=true then(bF s.aF k (fT (s.aF k)) n).mu s.cY+1 else 0
   rw [S6 al,Jl aj a7]
   by_cases e:n=k
   ·subst e;rw [e8];simp
   rw [fs _ _ e,h.vp n a7,fs _ _ e];simp [e]
  rw [Cz ab br ap]
  have l0:=Cy (id:=(s.aF k).id) (d:=(fT (s.aF k)).done) (l:=(s.aF k).cT.l) h.cY al
  refine⟨FP h.r,Oy,h.cY,fun i ak=>PY i ak,⟨by show 0≤s.now+1;omega,by show s.now+1≤_;omega⟩,fun n a7=>?_⟩
  show kX s.r (s.aF k).id (nj s.cY (s.aF k).id (fT (s.aF k)).done (s.aF k).cT.l) n=if hasB s.live (n:Int)=true then(bF s.aF k (fT (s.aF k)) n).mu s.cY+1 else 0
  rw [p6]at l0⊢
  rw [F5 al al]
  by_cases e:n=k
  ·subst e;rw [e8,e8,if_pos aJ]
   show _=nj s.cY (s.aF n).id _ _+1
   rw [p6]
  rw [fs _ _ e,fs _ _ e,h.vp n a7]
 rw [FT (by rw [ab])]
 exact⟨h.r,h.own,h.cY,h.live,⟨by show 0≤s.now+1;omega,by show s.now+1≤_;omega⟩,h.vp⟩
theorem WH{s:b4}{j:fy}{a:ai fv}(h:fP s)(aO:a.Own)(aJ:a.l=j.cT.l)(bb:∀k:Nat,j.id=k→k<16→At j k):fP (nl s j a):=by
 by_cases he:ow s j=0
 ·rw [zG he]
  have p6:¬(j.id<0∨j.id≥16∨j.done≥j.cost):=fun c=>by rw [CA c]at he;cases he
  obtain⟨k,aj⟩:=Int.eq_ofNat_of_zero_le (show 0≤j.id by omega)
  have j6:k<16:=by omega
  have acO:=bb k aj j6
  have cR:hasB s.live j.id=false:=by
   cases bg:hasB s.live j.id with
   |false=>rfl
   |true=>rw [Lw p6 bg]at he;cases he
  clear bb he p6
  obtain⟨id,rel,ij,cost,done,cT⟩:=j
  have mU:id=k:=aj
  clear aj
  subst mU
  have cR:hasB s.live (k:Int)=false:=cR
  show fP ⟨bF s.aF (k:Int).toNat ⟨k,rel,ij,cost,done,a⟩,s.live|||ep k,kX s.r k (nj s.cY k done a.l),s.cY,s.now⟩
  rw [Int.toNat_natCast]
  have l0:=Cy (id:=(k:Int)) (d:=done) (l:=a.l) h.cY al
  refine⟨FP h.r,fun i ak=>?_,h.cY,fun i ak=>?_,h.now,fun n a7=>?_⟩
  ·show(bF s.aF k ⟨k,rel,ij,cost,done,a⟩ i).cT.Own
   by_cases e:i=k
   ·subst e;rw [e8];exact aO
   rw [fs _ _ e];exact h.own i ak
  ·show At (bF s.aF k ⟨k,rel,ij,cost,done,a⟩ i) i
   by_cases e:i=k
   ·subst e;rw [e8];exact acO
   rw [fs _ _ e]
   have AO:=LP ak
   have ak:hasB (s.live|||ep (k:Int)) (i:Int)=true:=ak
   rw [J6 j6 AO]at ak
   simp only [Bool.or_eq_true,decide_eq_true_eq]at ak
   rcases ak with ak|ak
   ·exact h.live i ak
   exact absurd ak e
  show kX s.r (k:Int) (nj s.cY (k:Int) done a.l) n=if hasB (s.live|||ep (k:Int)) (n:Int)=true then(bF s.aF k ⟨k,rel,ij,cost,done,a⟩ n).mu s.cY+1 else 0
  rw [F5 al al,J6 j6 a7]
  by_cases e:n=k
  ·subst e;rw [e8,e8,if_pos (by simp)]
  rw [fs _ _ e,fs _ _ e,h.vp n a7];simp [e]
 rw [zF he];exact h
theorem J7{t:Nat→Int}{aF:Nat→fy}(aR:∀r:Nat,r<8→0≤t r∧t r≤16):∀(l:List Int) (r:Nat→Int),(∀i∈l,0≤i∧i<16∧(aF i.toNat).id=i)→∀n:Nat,lv t aF r l n=if(n:Int)∈l then(aF n).mu t+1 else r n
  |[],r,_,n=>by simp [lv]
  |a::l,r,h,n=>by
    obtain⟨b0,ab,af⟩:=h a (List.mem_cons_self ..)
    obtain⟨k,rfl⟩:=Int.eq_ofNat_of_zero_le b0
    rw [Int.toNat_natCast]at af
    have l0:=Cy (id:=(aF k).id) (d:=(aF k).done) (l:=(aF k).cT.l) aR (by omega)
    have e:lv t aF r ((k:Int)::l)=lv t aF (bF r k ((aF k).mu t+1)) l:=by
      show lv t aF (kX r (aF k).id (nj t (aF k).id (aF k).done (aF k).cT.l)) l=_
      rw [af]at l0
      show lv t aF (kX r (aF k).id (nj t (aF k).id (aF k).done (aF k).cT.l)) l=lv t aF (bF r k (nj t (aF k).id (aF k).done (aF k).cT.l+1)) l
      rw [af,F5 (by omega) (by omega)]
    rw [e,J7 aR l _ (fun i ak=>h i (List.mem_cons_of_mem _ ak)) n]
    by_cases hm:(n:Int)∈l
    · rw [if_pos hm,if_pos (List.mem_cons_of_mem _ hm)]
    · rw [if_neg hm]
      by_cases a9:n=k
      · subst a9;rw [e8,if_pos (List.mem_cons_self ..)]
      · rw [fs _ _ a9,if_neg (fun c=>by rcases List.mem_cons.1 c with eW|eW;omega;exact hm eW)]
theorem LQ{s:b4}{t:Nat→Int}(h:fP s)(aR:∀r:Nat,r<8→0≤t r∧t r≤16):fP (vW s t):=by
 refine⟨KI h.r,h.own,aR,h.live,h.now,fun n a7=>?_⟩
 show lv t s.aF s.r (bj s.live) n=if hasB s.live (n:Int)=true then(s.aF n).mu t+1 else 0
 rw [J7 aR _ _ (fun i ak=>by
  obtain⟨bM,bS,cD⟩:=lO.1 ak
  obtain⟨k,rfl⟩:=Int.eq_ofNat_of_zero_le bM
  have:=h.live k cD
  rw [Int.toNat_natCast];exact⟨bM,by omega,this.2.1⟩)]
 have hm:(n:Int)∈bj s.live↔hasB s.live (n:Int)=true:=⟨fun c=>(lO.1 c).2.2,fun c=>lO.2 ⟨by omega,by omega,c⟩⟩
 by_cases aJ:hasB s.live (n:Int)=true
 ·rw [if_pos aJ,if_pos (hm.2 aJ)]
 rw [if_neg aJ,if_neg (fun c=>aJ (hm.1 c)),h.vp n a7,if_neg aJ]
abbrev eP:=Int×Int×Int×Int
abbrev po(x:eP):List Value:=[U x.1,U x.2.1,U x.2.2.1,U x.2.2.2]
abbrev fa(a:ai eP):ao B:=cr a 155 4 po
abbrev dE(k:eV)(a:ai eP):eV:={k with aX:=aw a}
theorem uI(p:Nat)(k:eV)(s:b4)(a:ai eP)(dB:a.l.length≤100000)(bT:a.Own)(iP x y:Int):aS B 146 [ag p,U iP,U x,U y] [aa p (c9 (dE k a)) 170,aa k.dC (cp s) 260,fa a] (fun v S=>∃c:ai eP,(c.l.length=a.l.length+1∧c.Own)∧v= .tuple #[]∧S=[aa p (c9 (dE k c)) 170,aa k.dC (cp s) 260,fa c]):=by
 refine dn 26 Tryz.func146 fun a4 ax=>?_
 refine c8 [aa p (c9 (dE k a)) 170] ae aC ?_
 refine aN [0,1,2,3,4,5,6,7,8,10,11,12] ?_
 refine e6 9 (wi k.dC s) ?_
 refine aN [13,114] ?_
 refine lN (au:=(([(s.now,iP,x,y)]:List eP).flatMap po)) rfl .no rfl ae bu bu (by rfl) (by rfl) rfl rfl (fun PZ=>?_)
 refine aN [115] ?_
 refine mb (aW:=po) (c:=a) (b:=ai.lit PZ [(s.now,iP,x,y)] (by simp)) rfl .no rfl rfl ae ar dr (show Out (aa PZ (([(s.now,iP,x,y)]:List eP).flatMap po) 155) _ _ from ar) hF (fun _=>rfl) (fun _=>rfl) (by show a.l.length+1≤_;omega) (by show(a.l.length+1)*_≤_;omega) rfl (fun c bg ka=>?_)
 refine c7 [16,17,118,99] ?_
 exact⟨[aa p (c9 (dE k c)) 170,aa k.dC (cp s) 260,fa c],⟨c,⟨by rw [bg];exact List.length_append,ka⟩,rfl,rfl⟩,_,bq⟩
theorem UN(p:Nat)(k:eV)(a:ai eP):aS B 30 [ag p] [aa p (c9 (dE k a)) 170] (fun v S=>v=aw a∧S=[aa p (c9 (dE k ai.bG)) 170]):=by
 refine bD 12 Tryz.func30 fun a4 ax=>?_
 exact⟨[aa p (c9 (dE k ai.bG)) 170],⟨rfl,rfl⟩,_,bq⟩
theorem WI(p:Nat)(k:eV):aS B 67 [ag p] [aa p (c9 k) 170] (fun v S=>v=U k.late∧S=[aa p (c9 k) 170]):=by
 refine bD 7 Tryz.func67 fun a4 ax=>?_
 exact bA
theorem Y2(p:Nat)(k:eV)(y:bQ)(o:ea)(m bo bn aV no he:Int)(op:BitVec 32)(t:mD):aS B 66 [ag p] [aa p (c9 k) 170,aa k.a9 (b6 (cJ y o (m) (bo) (bn) (aV) (no) (he) op t)) 288] (fun v S=>v=U m∧S=[aa p (c9 k) 170,aa k.a9 (b6 (cJ y o (m) (bo) (bn) (aV) (no) (he) op t)) 288]):=by
 refine bD 8 Tryz.func66 fun a4 ax=>?_
 refine e1 (YW k.a9 y o m bo bn aV no he op t) ?_
 exact bA
theorem MM(q p:Nat)(bz co:Value)(w:ai (BitVec 32))(dx:BitVec 32)(n:Int):aS B 28 [ag q] [aa q (c6 p bz co w dx n) 116] (fun v S=>v=co∧S=[aa q (c6 p bz co w dx n) 116]):=by
 refine bD 7 Tryz.func28 fun a4 ax=>?_
 exact bA
abbrev n3(d:Nat→Int):List Value:=[U (d 19),U (d 20),U (d 21),U (d 22)]
theorem UO{d:Nat→Int}{i:Nat}(h:i<4):(n3 d)[i]?=some (U (d (19+i))):=by
  rcases(show i=0∨i=1∨i=2∨i=3 by omega)with rfl|rfl|rfl|rfl<;>rfl
theorem Y3(d:Nat→Int)(kC iA:Int):aS B 285 [.agg (n3 d).toArray,U kC,U iA] [] (fun v S=>∃bw b9 dK:Nat,v= .func (.func 295) #[] #[ag bw,ag b9,ag dK]∧S=[aa bw (n3 d) 33,aa b9 [U kC] 3,aa dK [U iA] 3]):=by
 refine bD 8 Tryz.func285 fun a4 ax=>?_
 refine dt (au:=(n3 d)) fun ay=>?_
 refine dt fun aM=>?_
 refine fe fun bw=>?_
 exact⟨[aa ay (n3 d) 33,aa aM [U kC] 3,aa bw [U iA] 3],⟨ay,aM,bw,rfl,rfl⟩,_,bq⟩
theorem S8(bw b9 dK:Nat)(d:Nat→Int)(kC iA:Int)(b0:kC≤0):mW Tryz.prog B 295 [ag bw,ag b9,ag dK] [aa bw (n3 d) 33,aa b9 [U kC] 3,aa dK [U iA] 3] []:=by
 intro cu J gN cb gv aZ
 change dQ _ _ _ _ (aa bw (n3 d) 33::aa b9 [U kC] 3::aa dK [U iA] 3::cb) _
 refine dn 33 Tryz.func295 fun a4 ax=>?_
 refine dW ?_
 refine cM (n3 d) ?_
 refine ah ?_
 refine dH (α:=Nat) (fun i=>i≤4) (fun i=>[(8,U (i:Int)),(7,.agg (n3 d).toArray),(0,.func (.yield cu) #[] #[]),(1,ag bw),(2,ag b9),(3,ag dK)]) (fun i=>aa bw (n3 d) 33::aa b9 [U kC] 3::aa dK [U iA] 3::cb) (fun i=>4-i) 0 ?_ dD aC ?_
 ·exact Nat.zero_le _
 intro i ak
 refine ah ?_
 refine aT ?_ ?_<;>intro ab
 ·refine aA (uc rfl rfl ae rfl al (UO (d:=d) al)) ?_
  refine ah ?_
  refine cC ?_ ?_<;>intro af
  ·exact bW af
  refine fX (i+1) ?_
  show i+1≤4;omega
 exact⟨aa bw (n3 d) 33::aa b9 [U kC] 3::aa dK [U iA] 3::cb,⟨cb,rfl,.inl gv⟩,_,bq⟩
theorem Y4(jY:ai Nat)(lk:jY.l=[])(q:ai (Nat→Int))(bP:c1 K q.bl (q.l.flatMap kt))(mv:q.l=[])(d:Nat→Int):aS B 270 [aw jY,aw q,.agg (n3 d).toArray] [K] (fun v S=>∃a:ai Nat,(a.l=[]∧a.Own)∧v= .tuple #[aw a,.slice none 0 0,U 0]∧S=[mO a,K]):=by
 refine bD 85 Tryz.func270 fun a4 ax=>?_
 refine dt (au:=(n3 d)) fun ay=>?_
 refine ds fun aM=>?_
 refine ds fun bw=>?_
 refine da fun b9=>?_
 refine cA (Nn q bP (by rw [mv];exact⟨by decide,fun y aZ=>by cases aZ⟩)) ?_
 rintro _ _ ⟨a,⟨dB,bT⟩,rfl,rfl⟩
 simp only [List.cons_append,List.nil_append]
 rw [mv]at dB
 have p7:a.l=[]:=List.eq_nil_of_length_eq_zero dB
 have aeq:jY.l.length=0:=by rw [lk];rfl
 have aer:a.l.length=0:=by rw [p7];rfl
 refine ct ?_
 refine bH (aw a) ?_
 refine bH (U 0) ?_
 refine jT ?_
 refine aT ?_ ?_<;>intro ab
 ·exact bW ab
 refine Q2 .no rfl (fun mp=>?_)
 refine ds fun dK=>?_
 refine cW ?_
 refine cM (n3 d) ?_
 refine ah ?_
 refine cA (Y3 d (jY.l.length:Int) (a.l.length:Int)) ?_
 rintro _ _ ⟨dP,EC,mB,rfl,rfl⟩
 refine cU ?_
 refine kh (own:=[aa dP (n3 d) 33,aa EC [U (jY.l.length:Int)] 3,aa mB [U (a.l.length:Int)] 3]) (aP:=[]) rfl e2 (S8 dP EC mB d (jY.l.length:Int) (a.l.length:Int) al) (fun i S=>S=[]) (fun c i S=>False) (show Take ([aa dP (n3 d) 33,aa EC [U (jY.l.length:Int)] 3,aa mB [U (a.l.length:Int)] 3]) _ _ from aC) (rfl) rfl (fun x av=>by cases av) ?_ ?_ ?_
 ·intro cu rec jF i aQ ak bt
  exact absurd ak (by simp)
 ·intro c0 aQ bt
  subst bt
  refine cU ?_
  refine k4 0 ?_
  refine ah ?_
  refine aT ?_ ?_<;>intro af
  ·exact bW af
  refine k3 ?_
  refine ah ?_
  refine cc (show Take [du c0] _ _ from aC) (Cs rfl rfl rfl rfl ar ar ar ae ae ae) ?_
  exact⟨[mO a,K],⟨a,⟨p7,bT⟩,rfl,rfl⟩,_,bq⟩
 intro c0 c i aQ ak h
 exact h.elim
theorem z5(p:Nat)(k:eV)(e:iQ)(s:b4){cs gl:ao B}(iY:k.y.In cs)(o5:e.y.In gl)(ek:e.phase=3→s6 e)(bg:fP s){aq:ao B}(bc:dL aq)(aD:dS aq):wb Tryz.prog B 89 [ag p] [aa p (c9 k) 170,aa k.dC (cp s) 260,many 16 (cX s.aF),aa k.a9 (b6 e) 288,cs,gl,aq] (fun v S=>v= .tuple #[]∧S=[aa p (c9 {k with act:=(gn e)}) 170,aa k.dC (cp (g3 k e s)) 260,many 16 (cX s.aF),aa k.a9 (b6 e) 288,cs,gl,aq]):=by
 refine Rs (N:=29) Tryz.func89 rfl (by simp) rfl ?_
 intro a4 ax
 refine ah ?_
 refine e1 (LG (K:=gl) k.a9 e o5 ek) ?_
 refine aT ?_ ?_<;>intro ab
 ·refine c8 [aa p (c9 {k with act:=(gn e)}) 170] ae aC ?_
  rw [show(aa p [ag k.dC,aI k.qg.toNat,U k.y.cG,aw k.y.aG,aw k.y.ba,aw k.y.a0,aw k.o.ba,aw k.o.a0,U (k.cf 0),U (k.cf 1),U (k.cf 2),U (k.cf 3),U (k.cf 4),U (k.cf 5),U (k.cf 6),U (k.cf 7),U (k.cf 8),U (k.cf 9),U (k.cf 10),U (k.cf 11),U (k.cf 12),U (k.cf 13),U (k.cf 14),U (k.cf 15),U (k.gg 0),U (k.gg 1),U (k.gg 2),U (k.gg 3),U (k.gg 4),U (k.gg 5),U (k.gg 6),U (k.gg 7),U (k.gg 8),U (k.gg 9),U (k.gg 10),U (k.gg 11),U (k.gg 12),U (k.gg 13),U (k.gg 14),U (k.gg 15),ag k.a9,aw k.q,aI (gn e).toNat,U k.late,k.aX] 170:ao B)=aa p (c9 {k with act:=(gn e)}) 170 from rfl]
  refine aN [0,1,2,3,4,5,6] ?_
  refine bs 7 rfl (dw (bx:=(bJ k.y)) rfl ar ae rfl (by rfl)) ?_
  refine aN [8] ?_
  refine e6 9 (D6 (kD:=cs) (K:=aq) k.y iY (gn e) bc) ?_
  refine e6 10 (Nh (K:=aq) k.dC s (fH k.y.aG.l (gn e)) bg (fun r _=>Ch _ _ _) bc aD) ?_
  refine aN [99] ?_
  refine Ko (.nil _) (ua rfl) ?_
  have kI:¬gn e=k.act:=fun q=>ab (by rw [q])
  rw [show g3 k e s=_ from if_neg kI]
  exact bA
 refine Ko (.nil _) (ua rfl) ?_
 have tt:gn e=k.act:=BitVec.eq_of_toNat_eq al
 rw [show g3 k e s=s from if_pos tt,show(aa p (c9 {k with act:=(gn e)}) 170:ao B)=aa p (c9 k) 170 from by rw [tt]]
 exact bA
theorem P0(p i:Nat)(k:eV)(vt:ai eP){cs:ao B}(aZ:k.y.In cs)(d:Nat→Int)(aD:k.y.a0.l[i]?=some d)(j:Nat)(aY:d 1=(j:Int))(m:Mode)(hm:k.y.ba.l[j]?=some m)(so:m.q.l=[])(iy:k.q.l=[]):aS B 220 [ag p,U (i:Int)] [aa p (c9 (dE k vt)) 170,cs] (fun v S=>∃a:ai Nat,(a.l=[]∧a.Own)∧v= .tuple #[]∧S=[aa p (c9 (dE {k with q:=a} vt)) 170,mO a,cs]):=by
 refine dn 58 Tryz.func220 fun a4 ax=>?_
 have o9:i<k.y.a0.l.length:=(List.getElem?_eq_some_iff.1 aD).1
 have Ig:j<k.y.ba.l.length:=(List.getElem?_eq_some_iff.1 hm).1
 have sl:=k.y.a0.small
 have j9:=k.y.ba.small
 refine ah ?_
 refine aA (hN (aW:=cS) (aH:=23) (i:=i) (fun _=>rfl) rfl ar aZ.a0 ae aD) ?_
 refine da fun ay=>?_
 refine ki [aa p (c9 (dE k vt)) 170,aa ay (cS d) 184,cs] ae aC ?_
 refine aN [0,1,2,3,4,5,6,7,8,9,10] ?_
 refine cy 11 rfl (h7 (j:=j) rfl rfl ae (k.y.ba).en aY al rfl) ?_
 refine aN [12] ?_
 refine bs 13 rfl (eO (aW:=eI) (aH:=2) (i:=j) (k:=1) (fun _=>rfl) rfl ar aZ.ba ae hm rfl) ?_
 refine cy 14 rfl (sB ae) ?_
 refine bs 15 rfl (dw rfl ar ae rfl (by rfl)) ?_
 refine rC 16 ?_
 refine lK (Y4 k.q iy m.q (aZ.sU m (List.mem_of_getElem? hm)) so d) ?_
 rintro _ _ ⟨a,⟨dB,bT⟩,rfl,rfl⟩
 simp only [List.cons_append,List.nil_append]
 refine fV ?_
 refine aN [17] ?_
 refine cy 18 rfl (fx (v:=aw a) rfl) ?_
 refine cy 19 rfl (fx (v:= .slice none 0 0) rfl) ?_
 refine cy 20 rfl (fx (v:=U 0) rfl) ?_
 refine aN [21,22,23,99] ?_
 refine iW ?_
 refine aT ?_ ?_<;>intro ab
 ·exact bW ab
 refine k4 0 ?_
 refine cW ?_
 refine bX ?_ ?_<;>intro af
 ·exact bW af
 refine dW ?_
 refine k3 ?_
 refine ah ?_
 exact⟨[aa p (c9 (dE {k with q:=a} vt)) 170,mO a,cs],⟨a,⟨dB,bT⟩,rfl,rfl⟩,_,bq⟩
theorem WJ(p:Nat)(k:eV)(e:iQ)(s:b4){cs gl:ao B}(iY:k.y.In cs)(o5:e.y.In gl)(ek:e.phase=3→s6 e)(bg:fP s){aq:ao B}(bc:dL aq)(aD:dS aq)(dY:ai eP)(qJ:dY.l.length≤99990)(n4:dY.Own)(a:ai ez)(dB:a.l=[])(bT:a.Own):aS B 149 [ag p,aw a] [aa p (c9 (dE k dY)) 170,aa k.dC (cp s) 260,many 16 (cX s.aF),aa k.a9 (b6 e) 288,fa dY,dO a,cs,gl,aq] (fun v S=>∃(ca:ai eP),(ca.l.length≤dY.l.length+0∧ca.Own)∧v= .tuple #[]∧S=[aa p (c9 (dE {k with act:=gn e} ca)) 170,aa k.dC (cp (g3 k e s)) 260,many 16 (cX s.aF),aa k.a9 (b6 e) 288,fa ca,cs,gl,aq]):=by
 refine y7 (N:=43) Tryz.func149 rfl (by simp) rfl rfl rfl rfl e2 ?_
 intro a4 ax w8 Er
 have DH:a.l.length=0:=by rw [dB];rfl
 refine ah ?_
 refine k4 0 ?_
 refine ah ?_
 refine aT ?_ ?_<;>intro ab
 ·exact bW ab
 refine k3 ?_
 refine ah ?_
 refine⟨rfl,[aa p (c9 (dE k dY)) 170,aa k.dC (cp s) 260,many 16 (cX s.aF),aa k.a9 (b6 e) 288,cs,gl,aq],_,bq,(z5 p (dE k dY) e s iY o5 ek bg bc aD).mono ?_⟩
 rintro _ _ ⟨rfl,rfl⟩
 simp only [List.cons_append,List.nil_append]
 exact⟨[aa p (c9 (dE {k with act:=gn e} dY)) 170,aa k.dC (cp (g3 k e s)) 260,many 16 (cX s.aF),aa k.a9 (b6 e) 288,fa dY,cs,gl,aq],_,bq,⟨dY,⟨by omega,n4⟩,trivial,rfl⟩⟩
theorem WK(p:Nat)(k:eV)(e:iQ)(s:b4){cs gl:ao B}(iY:k.y.In cs)(o5:e.y.In gl)(ek:e.phase=3→s6 e)(bg:fP s){aq:ao B}(bc:dL aq)(aD:dS aq)(dY:ai eP)(qJ:dY.l.length≤99990)(n4:dY.Own)(ht gG t0:Int)(a:ai ez)(dB:a.l=[(⟨true,false,false,ht,gG,t0⟩:ez)])(bT:a.Own):aS B 149 [ag p,aw a] [aa p (c9 (dE k dY)) 170,aa k.dC (cp s) 260,many 16 (cX s.aF),aa k.a9 (b6 e) 288,fa dY,dO a,cs,gl,aq] (fun v S=>∃(ca:ai eP),(ca.l.length≤dY.l.length+1∧ca.Own)∧v= .tuple #[]∧S=[aa p (c9 (dE {k with act:=gn e} ca)) 170,aa k.dC (cp (g3 k e s)) 260,many 16 (cX s.aF),aa k.a9 (b6 e) 288,fa ca,cs,gl,aq]):=by
 refine y7 (N:=43) Tryz.func149 rfl (by simp) rfl rfl rfl rfl e2 ?_
 intro a4 ax w8 Er
 have DH:a.l.length=1:=by rw [dB];rfl
 refine ah ?_
 refine k4 1 ?_
 refine ah ?_
 refine aT ?_ ?_<;>intro ab
 ·refine aA (hx (j:=0) rfl rfl ae (a).en rfl al rfl) ?_
  refine aA (hN (aW:=lz) (aH:=6) (i:=0) (fun _=>rfl) rfl ar (eh bT rfl) ae (show a.l[0]?=some (⟨true,false,false,ht,gG,t0⟩:ez)by rw [dB];rfl)) ?_
  refine ds fun ay=>?_
  refine ho ?_
  refine cv (.bool true) ?_
  refine dW ?_
  refine bX ?_ ?_<;>intro af
  ·refine gD ?_
   refine cv (U gG) ?_
   refine ct ?_
   refine cv (U ht) ?_
   refine cA (uI p k s dY (by omega) n4 7 gG ht) ?_
   rintro _ _ ⟨v1,⟨ib,gI⟩,rfl,rfl⟩
   refine cU ?_
   refine nN ?_
   refine ah ?_
   refine aT ?_ ?_<;>intro az
   ·exact bW az
   refine k3 ?_
   refine ah ?_
   refine⟨rfl,[aa p (c9 (dE k v1)) 170,aa k.dC (cp s) 260,many 16 (cX s.aF),aa k.a9 (b6 e) 288,cs,gl,aq],_,bq,(z5 p (dE k v1) e s iY o5 ek bg bc aD).mono ?_⟩
   rintro _ _ ⟨rfl,rfl⟩
   simp only [List.cons_append,List.nil_append]
   exact⟨[aa p (c9 (dE {k with act:=gn e} v1)) 170,aa k.dC (cp (g3 k e s)) 260,many 16 (cX s.aF),aa k.a9 (b6 e) 288,fa v1,cs,gl,aq],_,bq,⟨v1,⟨by omega,gI⟩,trivial,rfl⟩⟩
  exact bW af
 exact bW ab
theorem WL(p:Nat)(k:eV)(e:iQ)(s:b4){cs gl:ao B}(iY:k.y.In cs)(o5:e.y.In gl)(ek:e.phase=3→s6 e)(bg:fP s){aq:ao B}(bc:dL aq)(aD:dS aq)(dY:ai eP)(qJ:dY.l.length≤99990)(n4:dY.Own)(ht gG t0:Int)(a:ai ez)(dB:a.l=[(⟨false,false,true,ht,gG,t0⟩:ez)])(bT:a.Own):aS B 149 [ag p,aw a] [aa p (c9 (dE k dY)) 170,aa k.dC (cp s) 260,many 16 (cX s.aF),aa k.a9 (b6 e) 288,fa dY,dO a,cs,gl,aq] (fun v S=>∃(ca:ai eP),(ca.l.length≤dY.l.length+1∧ca.Own)∧v= .tuple #[]∧S=[aa p (c9 (dE {k with act:=gn e} ca)) 170,aa k.dC (cp (g3 k e s)) 260,many 16 (cX s.aF),aa k.a9 (b6 e) 288,fa ca,cs,gl,aq]):=by
 refine y7 (N:=43) Tryz.func149 rfl (by simp) rfl rfl rfl rfl e2 ?_
 intro a4 ax w8 Er
 have DH:a.l.length=1:=by rw [dB];rfl
 refine ah ?_
 refine k4 1 ?_
 refine ah ?_
 refine aT ?_ ?_<;>intro ab
 ·refine aA (hx (j:=0) rfl rfl ae (a).en rfl al rfl) ?_
  refine aA (hN (aW:=lz) (aH:=6) (i:=0) (fun _=>rfl) rfl ar (eh bT rfl) ae (show a.l[0]?=some (⟨false,false,true,ht,gG,t0⟩:ez)by rw [dB];rfl)) ?_
  refine ds fun ay=>?_
  refine ho ?_
  refine cv (.bool false) ?_
  refine dW ?_
  refine bX ?_ ?_<;>intro af
  ·exact bW af
  refine gD ?_
  refine cv (.bool false) ?_
  refine dW ?_
  refine bX ?_ ?_<;>intro az
  ·exact bW az
  refine gD ?_
  refine cv (.bool true) ?_
  refine dW ?_
  refine bX ?_ ?_<;>intro a5
  ·refine gD ?_
   refine cv (U gG) ?_
   refine cA (uI p k s dY (by omega) n4 9 gG 0) ?_
   rintro _ _ ⟨v1,⟨ib,gI⟩,rfl,rfl⟩
   refine cU ?_
   refine nN ?_
   refine ah ?_
   refine aT ?_ ?_<;>intro cd
   ·exact bW cd
   refine k3 ?_
   refine ah ?_
   refine⟨rfl,[aa p (c9 (dE k v1)) 170,aa k.dC (cp s) 260,many 16 (cX s.aF),aa k.a9 (b6 e) 288,cs,gl,aq],_,bq,(z5 p (dE k v1) e s iY o5 ek bg bc aD).mono ?_⟩
   rintro _ _ ⟨rfl,rfl⟩
   simp only [List.cons_append,List.nil_append]
   exact⟨[aa p (c9 (dE {k with act:=gn e} v1)) 170,aa k.dC (cp (g3 k e s)) 260,many 16 (cX s.aF),aa k.a9 (b6 e) 288,fa v1,cs,gl,aq],_,bq,⟨v1,⟨by omega,gI⟩,trivial,rfl⟩⟩
  exact bW a5
 exact bW ab
theorem WM(p:Nat)(k:eV)(e:iQ)(s:b4){cs gl:ao B}(iY:k.y.In cs)(o5:e.y.In gl)(ek:e.phase=3→s6 e)(bg:fP s){aq:ao B}(bc:dL aq)(aD:dS aq)(dY:ai eP)(qJ:dY.l.length≤99990)(n4:dY.Own)(ht gG t0:Int)(a:ai ez)(dB:a.l=[(⟨false,true,false,ht,gG,t0⟩:ez)])(bT:a.Own)(i:Nat)(wY:ht=(i:Int))(d:Nat→Int)(gW:k.y.a0.l[i]?=some d)(j:Nat)(aY:d 1=(j:Int))(m:Mode)(hm:k.y.ba.l[j]?=some m)(so:m.q.l=[])(iy:k.q.l=[]):aS B 149 [ag p,aw a] [aa p (c9 (dE k dY)) 170,aa k.dC (cp s) 260,many 16 (cX s.aF),aa k.a9 (b6 e) 288,fa dY,dO a,cs,gl,aq] (fun v S=>∃(ca:ai eP) (fk:ai Nat),(ca.l.length≤dY.l.length+1∧ca.Own)∧(fk.l=[]∧fk.Own)∧v= .tuple #[]∧S=[aa p (c9 (dE {k with q:=fk,act:=gn e} ca)) 170,aa k.dC (cp (g3 k e s)) 260,many 16 (cX s.aF),aa k.a9 (b6 e) 288,fa ca,mO fk,cs,gl,aq]):=by
 refine y7 (N:=43) Tryz.func149 rfl (by simp) rfl rfl rfl rfl e2 ?_
 intro a4 ax w8 Er
 have DH:a.l.length=1:=by rw [dB];rfl
 refine ah ?_
 refine k4 1 ?_
 refine ah ?_
 refine aT ?_ ?_<;>intro ab
 ·refine aA (hx (j:=0) rfl rfl ae (a).en rfl al rfl) ?_
  refine aA (hN (aW:=lz) (aH:=6) (i:=0) (fun _=>rfl) rfl ar (eh bT rfl) ae (show a.l[0]?=some (⟨false,true,false,ht,gG,t0⟩:ez)by rw [dB];rfl)) ?_
  refine ds fun ay=>?_
  refine ho ?_
  refine cv (.bool false) ?_
  refine dW ?_
  refine bX ?_ ?_<;>intro af
  ·exact bW af
  refine gD ?_
  refine cv (.bool true) ?_
  refine dW ?_
  refine bX ?_ ?_<;>intro az
  ·refine gK ?_
   refine cv (U gG) ?_
   refine ct ?_
   refine cv (U t0) ?_
   refine cA (uI p k s dY (by omega) n4 8 gG t0) ?_
   rintro _ _ ⟨v1,⟨ib,gI⟩,rfl,rfl⟩
   simp only [List.cons_append,List.nil_append]
   refine gK ?_
   refine cv (U ht) ?_
   subst wY
   refine cA (P0 p i k v1 iY d gW j aY m hm so iy) ?_
   rintro _ _ ⟨fk,⟨sn,wo⟩,rfl,rfl⟩
   refine cU ?_
   refine nN ?_
   refine ah ?_
   refine aT ?_ ?_<;>intro a5
   ·exact bW a5
   refine k3 ?_
   refine ah ?_
   refine⟨rfl,[aa p (c9 (dE {k with q:=fk} v1)) 170,aa k.dC (cp s) 260,many 16 (cX s.aF),aa k.a9 (b6 e) 288,cs,gl,aq],_,bq,(z5 p (dE {k with q:=fk} v1) e s iY o5 ek bg bc aD).mono ?_⟩
   rintro _ _ ⟨rfl,rfl⟩
   simp only [List.cons_append,List.nil_append]
   exact⟨[aa p (c9 (dE {k with q:=fk,act:=gn e} v1)) 170,aa k.dC (cp (g3 k e s)) 260,many 16 (cX s.aF),aa k.a9 (b6 e) 288,fa v1,mO fk,cs,gl,aq],_,bq,⟨v1,fk,⟨by omega,gI⟩,⟨sn,wo⟩,trivial,rfl⟩⟩
  exact bW az
 exact bW ab
theorem UP(p:Nat)(k:eV)(e:iQ)(s:b4){cs gl:ao B}(iY:k.y.In cs)(o5:e.y.In gl)(ek:e.phase=3→s6 e)(bg:fP s){aq:ao B}(bc:dL aq)(aD:dS aq)(dY:ai eP)(qJ:dY.l.length≤99990)(n4:dY.Own)(ht gG t0 dc m3 t1:Int)(a:ai ez)(dB:a.l=[(⟨false,true,false,ht,gG,t0⟩:ez),(⟨false,false,true,dc,m3,t1⟩:ez)])(bT:a.Own)(i:Nat)(wY:ht=(i:Int))(d:Nat→Int)(gW:k.y.a0.l[i]?=some d)(j:Nat)(aY:d 1=(j:Int))(m:Mode)(hm:k.y.ba.l[j]?=some m)(so:m.q.l=[])(iy:k.q.l=[]):aS B 149 [ag p,aw a] [aa p (c9 (dE k dY)) 170,aa k.dC (cp s) 260,many 16 (cX s.aF),aa k.a9 (b6 e) 288,fa dY,dO a,cs,gl,aq] (fun v S=>∃(ca:ai eP) (fk:ai Nat),(ca.l.length≤dY.l.length+2∧ca.Own)∧(fk.l=[]∧fk.Own)∧v= .tuple #[]∧S=[aa p (c9 (dE {k with q:=fk,act:=gn e} ca)) 170,aa k.dC (cp (g3 k e s)) 260,many 16 (cX s.aF),aa k.a9 (b6 e) 288,fa ca,mO fk,cs,gl,aq]):=by
 refine y7 (N:=43) Tryz.func149 rfl (by simp) rfl rfl rfl rfl e2 ?_
 intro a4 ax w8 Er
 have DH:a.l.length=2:=by rw [dB];rfl
 refine ah ?_
 refine k4 2 ?_
 refine ah ?_
 refine aT ?_ ?_<;>intro ab
 ·refine aA (hx (j:=0) rfl rfl ae (a).en rfl al rfl) ?_
  refine aA (hN (aW:=lz) (aH:=6) (i:=0) (fun _=>rfl) rfl ar (eh bT rfl) ae (show a.l[0]?=some (⟨false,true,false,ht,gG,t0⟩:ez)by rw [dB];rfl)) ?_
  refine ds fun ay=>?_
  refine ho ?_
  refine cv (.bool false) ?_
  refine dW ?_
  refine bX ?_ ?_<;>intro af
  ·exact bW af
  refine gD ?_
  refine cv (.bool true) ?_
  refine dW ?_
  refine bX ?_ ?_<;>intro az
  ·refine gK ?_
   refine cv (U gG) ?_
   refine ct ?_
   refine cv (U t0) ?_
   refine cA (uI p k s dY (by omega) n4 8 gG t0) ?_
   rintro _ _ ⟨v1,⟨ib,gI⟩,rfl,rfl⟩
   simp only [List.cons_append,List.nil_append]
   refine gK ?_
   refine cv (U ht) ?_
   subst wY
   refine cA (P0 p i k v1 iY d gW j aY m hm so iy) ?_
   rintro _ _ ⟨fk,⟨sn,wo⟩,rfl,rfl⟩
   refine cU ?_
   refine nN ?_
   refine ah ?_
   refine aT ?_ ?_<;>intro a5
   ·refine aA (hx (j:=1) rfl rfl ae (a).en rfl al rfl) ?_
    refine aA (hN (aW:=lz) (aH:=6) (i:=1) (fun _=>rfl) rfl ar (eh bT rfl) ae (show a.l[1]?=some (⟨false,false,true,dc,m3,t1⟩:ez)by rw [dB];rfl)) ?_
    refine ds fun aM=>?_
    refine ho ?_
    refine cv (.bool false) ?_
    refine dW ?_
    refine bX ?_ ?_<;>intro cd
    ·exact bW cd
    refine gD ?_
    refine cv (.bool false) ?_
    refine dW ?_
    refine bX ?_ ?_<;>intro c5
    ·exact bW c5
    refine gD ?_
    refine cv (.bool true) ?_
    refine dW ?_
    refine bX ?_ ?_<;>intro fo
    ·refine gD ?_
     refine cv (U m3) ?_
     refine cA (uI p ({k with q:=fk}) s v1 (by omega) gI 9 m3 0) ?_
     rintro _ _ ⟨v2,⟨AF,wu⟩,rfl,rfl⟩
     refine cU ?_
     refine nN ?_
     refine ah ?_
     refine aT ?_ ?_<;>intro gx
     ·exact bW gx
     refine k3 ?_
     refine ah ?_
     refine⟨rfl,[aa p (c9 (dE {k with q:=fk} v2)) 170,aa k.dC (cp s) 260,many 16 (cX s.aF),aa k.a9 (b6 e) 288,cs,gl,aq],_,bq,(z5 p (dE {k with q:=fk} v2) e s iY o5 ek bg bc aD).mono ?_⟩
     rintro _ _ ⟨rfl,rfl⟩
     simp only [List.cons_append,List.nil_append]
     exact⟨[aa p (c9 (dE {k with q:=fk,act:=gn e} v2)) 170,aa k.dC (cp (g3 k e s)) 260,many 16 (cX s.aF),aa k.a9 (b6 e) 288,fa v2,mO fk,cs,gl,aq],_,bq,⟨v2,fk,⟨by omega,wu⟩,⟨sn,wo⟩,trivial,rfl⟩⟩
    exact bW fo
   exact bW a5
  exact bW az
 exact bW ab
theorem Y5(p:Nat)(k:eV)(s:b4)(bg:fP s){aq:ao B}(bc:dL aq)(aD:dS aq)(dY:ai eP)(qJ:dY.l.length≤99000)(n4:dY.Own)(xh BF:ao B)(BG:ai ez→Prop)(vf:ai eP→ao B)(aj:(dm s).2.pu<0∧(dm s).2.pv<0∧(dm s).2.late=false)(gO:aS B 213 [ag k.a9,aI (dm s).1.live.toNat] [xh] (fun v S=>∃a:ai ez,BG a∧v=aw a∧S=[BF,dO a]))(xi:∀(a:ai ez) (v1:ai eP),BG a→v1.l.length≤dY.l.length+5→v1.Own→aS B 149 [ag p,aw a] [aa p (c9 (dE k v1)) 170,aa k.dC (cp (dm s).1) 260,many 16 (cX (dm s).1.aF),fa v1,BF,dO a,aq] (fun v S=>∃ca:ai eP,(ca.l.length≤v1.l.length+2∧ca.Own)∧v= .tuple #[]∧S=[vf ca])):aS B 140 [ag p] [aa p (c9 (dE k dY)) 170,aa k.dC (cp s) 260,many 16 (cX s.aF),fa dY,xh,aq] (fun v S=>∃ca:ai eP,(ca.l.length≤dY.l.length+7∧ca.Own)∧v= .agg (nk (dm s).2).toArray∧S=[vf ca]):=by
 refine bD 88 Tryz.func140 fun a4 ax=>?_
 refine da fun ay=>?_
 refine dA (X4 k.dC s bg bc) ?_
 refine ct ?_
 refine bH (U (iC s.r).1) ?_
 refine bH (.bool (iC s.r).2) ?_
 refine gD ?_
 refine k5 (α:=ai eP) (fun v1=>v1.l.length≤dY.l.length+1∧v1.Own) (fun v1=>[(0,ag p),(2,ag ay)]) (fun v1=>[aa p (c9 (dE k v1)) 170,aa k.dC (cp s) 260,many 16 (cX s.aF),fa v1,xh,aq,aa ay [U 0,U 0,U 0,.bool false,U 0,.bool false] 300]) ?_ ?_
 ·skip
  refine ah ?_
  refine aT ?_ ?_<;>intro ab
  ·refine cA (uI p k s dY (by omega) n4 1 (iC s.r).1 0) ?_
   rintro _ _ ⟨v1,⟨ib,gI⟩,rfl,rfl⟩
   refine cU ?_
   exact fj v1 ⟨by omega,gI⟩
  exact fj dY ⟨by omega,n4⟩
 rintro v1 ⟨ib,gI⟩
 refine ah ?_
 refine dA (X6 k.dC s bg bc) ?_
 refine ds fun aM=>?_
 refine ho ?_
 refine cv (U (dm s).2.pu) ?_
 refine ah ?_
 refine bX ?_ ?_<;>intro af
 ·exact bW af
 refine ho ?_
 refine cv (U (dm s).2.pv) ?_
 refine ah ?_
 refine bX ?_ ?_<;>intro az
 ·exact bW az
 refine dW ?_
 refine k5 (α:=ai eP) (fun v2=>v2.l.length≤dY.l.length+2∧v2.Own) (fun v2=>[(0,ag p),(2,ag ay),(5,ag aM)]) (fun v2=>[aa p (c9 (dE k v2)) 170,aa k.dC (cp (dm s).1) 260,many 16 (cX (dm s).1.aF),fa v2,xh,aq,aa aM (nk (dm s).2) 300,aa ay [U 0,U 0,U 0,.bool false,U 0,.bool false] 300]) ?_ ?_
 ·skip
  refine gD ?_
  refine cv (.bool (dm s).2.over) ?_
  refine ah ?_
  refine bX ?_ ?_<;>intro a5
  ·refine gD ?_
   refine cv (U (dm s).2.Hi) ?_
   refine ct ?_
   refine cv (U (dm s).2.within) ?_
   refine cA (uI p k (dm s).1 v1 (by omega) gI 3 (dm s).2.Hi (dm s).2.within) ?_
   rintro _ _ ⟨v2,⟨AF,wu⟩,rfl,rfl⟩
   refine cU ?_
   exact fj v2 ⟨by omega,wu⟩
  refine ah ?_
  exact fj v1 ⟨by omega,gI⟩
 rintro v2 ⟨AF,wu⟩
 refine gK ?_
 refine cv (.bool (dm s).2.late) ?_
 refine ah ?_
 refine bX ?_ ?_<;>intro cd
 ·exact absurd (aj.2.2.symm.trans cd) bu
 refine dW ?_
 refine k5 (α:=ai eP) (fun ca=>ca.l.length≤dY.l.length+7∧ca.Own) (fun ca=>[(0,ag p),(2,ag ay),(5,ag aM)]) (fun ca=>[vf ca,aa aM (nk (dm s).2) 300,aa ay [U 0,U 0,U 0,.bool false,U 0,.bool false] 300]) ?_ ?_
 ·skip
  refine c8 [] ae aC ?_
  refine aN [0,1,2,3,5,6,7] ?_
  refine ju 4 8 jZ ?_ ?_
  ·skip
   refine qm rfl .no dr (ed ae) rfl ?_
   refine aN [108] ?_
   refine e6 9 (z0 k.dC (dm s).1) ?_
   refine jU 10 (gO) ?_
   rintro _ _ ⟨a,aO,rfl,rfl⟩
   simp only [List.cons_append,List.nil_append]
   refine fV ?_
   refine jU 11 (xi a v2 aO (by omega) wu) ?_
   rintro _ _ ⟨ca,⟨qR,lA⟩,rfl,rfl⟩
   simp only [List.cons_append,List.nil_append]
   refine fV ?_
   refine aN [99] ?_
   exact fj ca ⟨by omega,lA⟩
  skip
  refine qm rfl .no dr (ed ae) rfl ?_
  refine ju 4 9 jZ ?_ ?_
  ·skip
   refine qm rfl .no dr (ed ae) rfl ?_
   refine e6 9 (z0 k.dC (dm s).1) ?_
   refine jU 10 (gO) ?_
   rintro _ _ ⟨a,aO,rfl,rfl⟩
   simp only [List.cons_append,List.nil_append]
   refine fV ?_
   refine jU 11 (xi a v2 aO (by omega) wu) ?_
   rintro _ _ ⟨ca,⟨qR,lA⟩,rfl,rfl⟩
   simp only [List.cons_append,List.nil_append]
   refine fV ?_
   refine aN [99] ?_
   exact fj ca ⟨by omega,lA⟩
  skip
  refine lK (z0 k.dC (dm s).1) ?_
  rintro _ _ ⟨rfl,rfl⟩
  simp only [List.cons_append,List.nil_append]
  refine fV ?_
  refine aN [104] ?_
  refine jU 10 (gO) ?_
  rintro _ _ ⟨a,aO,rfl,rfl⟩
  simp only [List.cons_append,List.nil_append]
  refine fV ?_
  refine jU 11 (xi a v2 aO (by omega) wu) ?_
  rintro _ _ ⟨ca,⟨qR,lA⟩,rfl,rfl⟩
  simp only [List.cons_append,List.nil_append]
  refine fV ?_
  refine aN [99] ?_
  exact fj ca ⟨by omega,lA⟩
 rintro ca ⟨qR,lA⟩
 refine dW ?_
 refine cM (nk (dm s).2) ?_
 refine ah ?_
 refine cc (.nil _) (gA rfl rfl ar ae (by rfl)) ?_
 exact⟨[vf ca],⟨ca,⟨qR,lA⟩,rfl,rfl⟩,_,bq⟩
def ru(x:Int)(g:Nat→Int):Nat→Int
  |0=>x
  |n+1=>g (n+1)
theorem zL{hX:ao B}{bl:Addr}:c1 hX bl []:=fun _ _ _ k h=>absurd h (Nat.not_lt_zero k)
theorem acP(n:Int):aS B 215 [U n] [] (fun v S=>v= .bool (decide (0≤n∧n<16))∧S=[]):=by
 refine bD 9 Tryz.func215 fun a4 ax=>?_
 refine cC ?_ ?_<;>intro ab
 ·exact bI ⟨by simp [*]<;>omega,rfl⟩
 exact bI ⟨by simp [*]<;>omega,rfl⟩
theorem Gy(p:Nat)(k:eV)(vt:ai eP)(now eF:Int)(r4:0≤now∧now≤100000000)(bh:k.cf 0≤now):aS B 144 [.pointer (some ⟨p,8,none⟩),U 0,U now,U eF] [aa p (c9 (dE k vt)) 170] (fun v S=>v= .bool true∧S=[aa p (c9 (dE {k with cf:=ru (now+min (max eF 1) 4096) k.cf} vt)) 170]):=by
 refine bD 43 Tryz.func144 fun a4 ax=>?_
 refine hD (acP 0) ?_
 refine dW ?_
 refine bX ?_ ?_<;>intro ab
 ·exact bW ab
 refine kk ?_
 refine ik ?_
 refine dZ ?_
 refine dZ ?_
 refine fl ?_
 refine aA (dh rfl) ?_
 refine aA (dh rfl) ?_
 refine aA (dh rfl) ?_
 refine aA (rO rfl) ?_
 refine aA (kf ae) ?_
 refine aA (m7 rfl rfl ae (rfl:(0:Int)=((0:Nat):Int)) bu rfl) ?_
 refine cv (U (k.cf 0)) ?_
 refine ah ?_
 refine bX ?_ ?_<;>intro af
 ·exact bW af
 refine te ?_
 refine aA (m7 rfl rfl ae (rfl:(0:Int)=((0:Nat):Int)) bu rfl) ?_
 refine ah ?_
 exact⟨[aa p (c9 (dE {k with cf:=ru (now+min (max eF 1) 4096) k.cf} vt)) 170],⟨rfl,rfl⟩,_,bq⟩
theorem WN(p:Nat)(k:eV)(s:b4)(bg:fP s){aq:ao B}(bc:dL aq)(aD:dS aq)(dY:ai eP)(qJ:dY.l.length≤99000)(n4:dY.Own)(aU:bQ)(o:ea)(m bo bn aV no he:Int)(op:BitVec 32)(t:mD)(iO:bn≠2∧bn≠3){cs gl:ao B}(iY:k.y.In cs)(o5:aU.In gl)(T:Nat→Int)(gO:k.y.aG.l[0]?=some T)(Ih:∀j,j<8→0≤T (3+j))(afb:0≤T 1∧T 1≤65536)(ve:0≤T 2∧T 2≤65536)(c:Int)(adY:hasB (cw aU.c m) 0=true)(eL:hasB s.live 0=false)(bh:k.cf 0≤s.now)(aB:s.now≤10000000):aS B 92 [ag p,U 0,U c,.slice none 0 0] [aa p (c9 (dE k dY)) 170,aa k.dC (cp s) 260,many 16 (cX s.aF),fa dY,aa k.a9 (b6 (cJ aU o m bo bn aV no he op t)) 288,cs,gl,aq] (fun v S=>∃(ca:ai eP) (x a:ai fv),(ca.l.length≤dY.l.length+1∧ca.Own)∧(x.l=cT T (min (max c 1) (T 2)) 0 0 []∧x.Own)∧(a.l=x.l∧a.Own)∧v=U (ow s (⟨0,s.now,s.now+T 1,min (max c 1) (T 2),0,x⟩:fy))∧S=[aa p (c9 (dE ({k with cf:=ru (s.now+min (max (T 0) 1) 4096) k.cf}) ca)) 170,aa k.dC (cp (nl s (⟨0,s.now,s.now+T 1,min (max c 1) (T 2),0,x⟩:fy) a)) 260,many 16 (cX (nl s (⟨0,s.now,s.now+T 1,min (max c 1) (T 2),0,x⟩:fy) a).aF),fa ca,aa k.a9 (b6 (cJ aU o m bo bn aV no he op t)) 288,cs,gl,aq]):=by
 refine dn 89 Tryz.func92 fun a4 ax=>?_
 have afc:=(List.getElem?_eq_some_iff.1 gO).1
 have pG:=k.y.aG.small
 have acQ:=bg.now
 refine wc ?_
 refine cC ?_ ?_<;>intro ab
 ·exact bW ab
 refine aT ?_ ?_<;>intro af
 ·exact bW af
 refine e1 (YX k.a9 aU o o5 m bo bn aV no he op t iO) ?_
 refine fL (re (cw aU.c m) 0) ?_
 refine aT ?_ ?_<;>intro az
 ·rw [adY]at az;exact absurd az bu
 refine e1 (z0 k.dC s) ?_
 refine fL (re s.live 0) ?_
 refine bX ?_ ?_<;>intro a5
 ·rw [eL]at a5;exact absurd a5 bu
 refine k5 (α:=Unit) (fun _=>True) (fun _=>[(40,.bool false),(0,ag p),(1,U 0),(2,U c),(3,.slice none 0 0)]) (fun _=>[aa p (c9 (dE ({k with cf:=ru (s.now+min (max (T 0) 1) 4096) k.cf}) dY)) 170,aa k.dC (cp s) 260,many 16 (cX s.aF),fa dY,aa k.a9 (b6 (cJ aU o m bo bn aV no he op t)) 288,cs,gl,aq]) ?_ ?_
 ·skip
  refine c8 [cs] ae aC ?_
  refine aN [0,1,2,3,4,5,6,9,10,11,12,14] ?_
  refine ju 7 13 jZ ?_ ?_
  ·skip
   refine qm rfl .no dr (ed ae) rfl ?_
   refine ju 8 13 jZ ?_ ?_
   ·skip
    refine lK (wi k.dC s) ?_
    rintro _ _ ⟨rfl,rfl⟩
    simp only [List.cons_append,List.nil_append]
    refine fV ?_
    refine aN [113] ?_
    refine cy 15 rfl (h7 (j:=0) rfl rfl ae (k.y.aG).en (rfl:(0:Int)=((0:Nat):Int)) al rfl) ?_
    refine aN [16] ?_
    refine bs 17 rfl (eO (aW:=cg) (aH:=11) (i:=0) (k:=0) (fun _=>rfl) rfl ar iY.aG ae gO rfl) ?_
    refine e6 18 (Gy p k dY s.now (T 0) ⟨bg.now.1,by omega⟩ bh) ?_
    refine aN [19,20,99] ?_
    exact fj () trivial
   skip
   refine qm rfl .no dr (ed ae) rfl ?_
   refine cy 15 rfl (h7 (j:=0) rfl rfl ae (k.y.aG).en (rfl:(0:Int)=((0:Nat):Int)) al rfl) ?_
   refine aN [16] ?_
   refine bs 17 rfl (eO (aW:=cg) (aH:=11) (i:=0) (k:=0) (fun _=>rfl) rfl ar iY.aG ae gO rfl) ?_
   refine e6 8 (wi k.dC s) ?_
   refine e6 18 (Gy p k dY s.now (T 0) ⟨bg.now.1,by omega⟩ bh) ?_
   refine aN [19,20,99] ?_
   exact fj () trivial
  skip
  refine qm rfl .no dr (ed ae) rfl ?_
  refine cy 15 rfl (h7 (j:=0) rfl rfl ae (k.y.aG).en (rfl:(0:Int)=((0:Nat):Int)) al rfl) ?_
  refine aN [16] ?_
  refine bs 17 rfl (eO (aW:=cg) (aH:=11) (i:=0) (k:=0) (fun _=>rfl) rfl ar iY.aG ae gO rfl) ?_
  refine aN [107] ?_
  refine e6 8 (wi k.dC s) ?_
  refine e6 18 (Gy p k dY s.now (T 0) ⟨bg.now.1,by omega⟩ bh) ?_
  refine aN [19,20,99] ?_
  exact fj () trivial
 rintro _ _
 refine bX ?_ ?_<;>intro cd
 ·exact bW cd
 refine gD ?_
 refine k5 (α:=Nat×ai fv) (fun⟨yZ,x⟩=>(x.l=cT T (min (max c 1) (T 2)) 0 0 []∧x.Own)) (fun⟨yZ,x⟩=>[(9,ag yZ),(0,ag p),(1,U 0),(2,U c),(3,.slice none 0 0)]) (fun⟨yZ,x⟩=>[aa p (c9 (dE ({k with cf:=ru (s.now+min (max (T 0) 1) 4096) k.cf}) dY)) 170,aa k.dC (cp s) 260,many 16 (cX s.aF),fa dY,aa k.a9 (b6 (cJ aU o m bo bn aV no he op t)) 288,cs,gl,aq,cr x 135 3 jk,aa yZ [U 0,U s.now,U (s.now+T 1),U (min (max c 1) (T 2)),U 0,aw x] 253]) ?_ ?_
 ·skip
  refine ki [aa p (c9 (dE ({k with cf:=ru (s.now+min (max (T 0) 1) 4096) k.cf}) dY)) 170,cs] ae aC ?_
  refine aN [0,1,2,3,4,5,6] ?_
  refine cy 7 rfl (h7 (j:=0) rfl rfl ae (k.y.aG).en (rfl:(0:Int)=((0:Nat):Int)) al rfl) ?_
  refine bs 8 rfl (hN (aW:=cg) (aH:=11) (i:=0) (fun _=>rfl) rfl ar iY.aG ae gO) ?_
  refine aN [9,10,11,12,14,15] ?_
  refine ju 13 17 jZ ?_ ?_
  ·skip
   refine lK (wi k.dC s) ?_
   rintro _ _ ⟨rfl,rfl⟩
   simp only [List.cons_append,List.nil_append]
   refine fV ?_
   refine ju 16 17 jZ ?_ ?_
   ·skip
    refine lK (Hf (K:=aq) 0 s.now T c ai.bG zL Ih (by omega) (by omega) (by omega)) ?_
    rintro _ _ ⟨x,⟨av,tC⟩,rfl,rfl⟩
    simp only [List.cons_append,List.nil_append]
    refine fV ?_
    refine aN [117] ?_
    refine jt rfl .no ae rfl (fun vb=>?_)
    refine aN [118] ?_
    refine mg rfl .no dr (hA rfl rfl rfl ar ae rfl rfl) aC ?_
    refine aN [99] ?_
    exact fj (vb,x) ⟨av,tC⟩
   skip
   refine jt rfl .no ae rfl (fun vb=>?_)
   refine jU 16 (Hf (K:=aq) 0 s.now T c ai.bG zL Ih (by omega) (by omega) (by omega)) ?_
   rintro _ _ ⟨x,⟨av,tC⟩,rfl,rfl⟩
   simp only [List.cons_append,List.nil_append]
   refine fV ?_
   refine aN [118] ?_
   refine mg rfl .no dr (hA rfl rfl rfl ar ae rfl rfl) aC ?_
   refine aN [99] ?_
   exact fj (vb,x) ⟨av,tC⟩
  skip
  refine jt rfl .no ae rfl (fun vb=>?_)
  refine e6 13 (wi k.dC s) ?_
  refine jU 16 (Hf (K:=aq) 0 s.now T c ai.bG zL Ih (by omega) (by omega) (by omega)) ?_
  rintro _ _ ⟨x,⟨av,tC⟩,rfl,rfl⟩
  simp only [List.cons_append,List.nil_append]
  refine fV ?_
  refine aN [118] ?_
  refine mg rfl .no dr (hA rfl rfl rfl ar ae rfl rfl) aC ?_
  refine aN [99] ?_
  exact fj (vb,x) ⟨av,tC⟩
 rintro⟨yZ,x⟩ ⟨av,tC⟩
 refine ah ?_
 refine cA (uI p ({k with cf:=ru (s.now+min (max (T 0) 1) 4096) k.cf}) s dY (by omega) n4 2 0 (min (max c 1) (T 2))) ?_
 rintro _ _ ⟨ca,⟨qR,lA⟩,rfl,rfl⟩
 refine cU ?_
 refine ki [aa p (c9 (dE ({k with cf:=ru (s.now+min (max (T 0) 1) 4096) k.cf}) ca)) 170,aa yZ [U 0,U s.now,U (s.now+T 1),U (min (max c 1) (T 2)),U 0,aw x] 253] ae aC ?_
 refine aN [0,1,2,3] ?_
 refine bs 4 rfl (dw (bx:=[U 0,U s.now,U (s.now+T 1),U (min (max c 1) (T 2)),U 0,aw x]) rfl ar ae rfl (by rfl)) ?_
 refine jU 5 (SB (je:=cr x 135 3 jk) k.dC s (⟨0,s.now,s.now+T 1,min (max c 1) (T 2),0,x⟩:fy) (eh tC rfl) tC (by show x.l.length≤1000;rw [av];exact Nat.zero_le _) bg bc) ?_
 rintro _ _ ⟨a,⟨dB,bT,rfl⟩,rfl⟩
 simp only [List.cons_append,List.nil_append]
 refine fV ?_
 refine c7 [6,99] ?_
 exact⟨[aa p (c9 (dE ({k with cf:=ru (s.now+min (max (T 0) 1) 4096) k.cf}) ca)) 170,aa k.dC (cp (nl s (⟨0,s.now,s.now+T 1,min (max c 1) (T 2),0,x⟩:fy) a)) 260,many 16 (cX (nl s (⟨0,s.now,s.now+T 1,min (max c 1) (T 2),0,x⟩:fy) a).aF),fa ca,aa k.a9 (b6 (cJ aU o m bo bn aV no he op t)) 288,cs,gl,aq],⟨ca,x,a,⟨by omega,lA⟩,⟨av,tC⟩,⟨dB,bT⟩,rfl,rfl⟩,_,bq⟩
theorem Hw(p:Nat)(k:eV)(s:b4){aq:ao B}(dY:ai eP)(qJ:dY.l.length≤99000)(n4:dY.Own)(gP:Int)(xh BF:ao B)(BG:ai ez→Prop)(l5:aS B 148 [ag k.a9,U gP,aI s.live.toNat] [xh,aq] (fun v S=>∃a:ai ez,BG a∧v= .tuple #[aw a,U 0]∧S=[BF,dO a,aq]))(vf:ai eP→ao B)(xi:∀(a:ai ez) (v1:ai eP),BG a→v1.l.length≤dY.l.length+5→v1.Own→aS B 149 [ag p,aw a] [aa p (c9 (dE k v1)) 170,aa k.dC (cp s) 260,many 16 (cX s.aF),fa v1,BF,dO a,aq] (fun v S=>∃ca:ai eP,(ca.l.length≤v1.l.length+2∧ca.Own)∧v= .tuple #[]∧S=[vf ca])):aS B 93 [ag p,U gP] [aa p (c9 (dE k dY)) 170,aa k.dC (cp s) 260,many 16 (cX s.aF),fa dY,xh,aq] (fun v S=>∃ca:ai eP,(ca.l.length≤dY.l.length+2∧ca.Own)∧v=U 0∧S=[vf ca]):=by
 refine bD 25 Tryz.func93 fun a4 ax=>?_
 refine ki [aa p (c9 (dE k dY)) 170] ae aC ?_
 refine aN [0,1,2,3,4,5,6,7,8] ?_
 refine e6 9 (z0 k.dC s) ?_
 refine jU 10 (l5) ?_
 rintro _ _ ⟨a,aO,rfl,rfl⟩
 simp only [List.cons_append,List.nil_append]
 refine fV ?_
 refine aN [11] ?_
 refine cy 12 rfl (fx (v:=aw a) rfl) ?_
 refine cy 13 rfl (fx (v:=U 0) rfl) ?_
 refine c7 [14,15,99] ?_
 refine cA (xi a dY aO (by omega) n4) ?_
 rintro _ _ ⟨ca,⟨qR,lA⟩,rfl,rfl⟩
 refine cU ?_
 exact⟨[vf ca],⟨ca,⟨qR,lA⟩,rfl,rfl⟩,_,bq⟩
theorem WO(q eF bN:Nat)(bz:Value)(w:ai (BitVec 32))(dx:BitVec 32)(gT:Int)(n:Nat)(a7:1≤n∧n≤4096)(I:Nat→List (ao B)→Prop)(cb:List (ao B))(b0:I 0 cb)(ak:∀i S,i<n→I i S→aS B 140 [ag bN] S (fun v aQ=>(∃r:qM,v= .agg (nk r).toArray)∧I (i+1) aQ)):aS B 91 [ag q,U (n:Int)] (aa q (c6 eF bz (ag bN) w dx gT) 116::cb) (fun v S=>v= .agg #[U 0,U (n:Int)]∧∃aQ,I n aQ∧S=aa q (c6 eF bz (ag bN) w dx gT) 116::aQ):=by
 refine bD 23 Tryz.func91 fun a4 ax=>?_
 refine da fun ay=>?_
 refine cC ?_ ?_<;>intro ab
 ·exact bW ab
 refine aT ?_ ?_<;>intro af
 ·exact bW af
 refine dH (α:=Nat×List (ao B)) (fun⟨i,aP⟩=>i≤n∧I i aP) (fun⟨i,aP⟩=>[(13,U (i:Int)),(12,U (n:Int)),(0,ag q),(1,U (n:Int)),(4,ag ay)]) (fun⟨i,aP⟩=>aa ay [U 0,U 0] 58::aa q (c6 eF bz (ag bN) w dx gT) 116::aP) (fun⟨i,aP⟩=>n-i) (0,cb) ?_ dD aC ?_
 ·exact⟨Nat.zero_le _,b0⟩
 rintro⟨i,aP⟩ ⟨wN,vm⟩
 dsimp only
 refine ah ?_
 refine aT ?_ ?_<;>intro az
 ·refine cA (ak i aP (by omega) vm) ?_
  rintro _ aQ ⟨⟨r,rfl⟩,acR⟩
  try simp only [List.cons_append,List.nil_append]
  refine ah ?_
  refine eg (i+1,aQ) ?_ ?_ ?_ ?_
  ·(try dsimp only);exact⟨by omega,acR⟩
  ·(try dsimp only);omega
  ·refine⟨?_,?_,?_,?_,?_,trivial⟩<;>rfl
  (try dsimp only);exact⟨_,aC⟩
 obtain rfl:i=n:=by omega
 refine ah ?_
 refine cc (.nil _) (gA rfl rfl ar ae (by rfl)) ?_
 exact⟨aa q (c6 eF bz (ag bN) w dx gT) 116::aP,⟨rfl,aP,vm,rfl⟩,_,bq⟩
theorem WQ(q eF bN:Nat)(bz:Value)(w:ai (BitVec 32))(dx:BitVec 32)(gT:Int)(A N:Int)(cb:List (ao B))(post:List (ao B)→Prop)(b7:aS B 91 [ag q,U N] (aa q (c6 eF bz (ag bN) w dx gT) 116::cb) (fun v S=>v= .agg #[U 0,U N]∧∃aQ,post aQ∧S=aa q (c6 eF bz (ag bN) w dx gT) 116::aQ)):aS B 50 [ag q,.agg #[U 1,U A,U N,.slice none 0 0,.slice none 0 0]] (aa q (c6 eF bz (ag bN) w dx gT) 116::cb) (fun v S=>v= .agg #[U 0,U N]∧∃aQ,post aQ∧S=aa q (c6 eF bz (ag bN) w dx gT) 116::aQ):=by
 refine bD 93 Tryz.func50 fun a4 ax=>?_
 refine dt (au:=[U 1,U A,U N,.slice none 0 0,.slice none 0 0]) fun ay=>?_
 refine ds fun aM=>?_
 refine uN ?_
 refine aT ?_ ?_<;>intro ab
 ·refine cA (b7) ?_
  rintro _ _ ⟨rfl,aQ,aE,rfl⟩
  try simp only [List.cons_append,List.nil_append]
  refine ah ?_
  refine cc (.nil _) (gA rfl rfl ar ae (by rfl)) ?_
  exact⟨aa q (c6 eF bz (ag bN) w dx gT) 116::aQ,⟨rfl,aQ,aE,rfl⟩,_,bq⟩
 exact bW ab
theorem UQ(q eF bN:Nat)(bz:Value)(w:ai (BitVec 32))(dx:BitVec 32)(gT:Int)(A N:Int)(cb:List (ao B))(z:Int)(post:List (ao B)→Prop)(b7:aS B 92 [ag bN,U A,U N,.slice none 0 0] cb (fun v S=>v=U z∧post S)):aS B 50 [ag q,.agg #[U 2,U A,U N,.slice none 0 0,.slice none 0 0]] (aa q (c6 eF bz (ag bN) w dx gT) 116::cb) (fun v S=>v= .agg #[U z,U 0]∧∃aQ,post aQ∧S=aa q (c6 eF bz (ag bN) w dx gT) 116::aQ):=by
 refine bD 93 Tryz.func50 fun a4 ax=>?_
 refine dt (au:=[U 2,U A,U N,.slice none 0 0,.slice none 0 0]) fun ay=>?_
 refine ds fun aM=>?_
 refine uN ?_
 refine bX ?_ ?_<;>intro ab
 ·exact bW ab
 refine cW ?_
 refine aT ?_ ?_<;>intro af
 ·refine cA (b7) ?_
  rintro _ aQ ⟨rfl,aE⟩
  try simp only [List.cons_append,List.nil_append]
  refine ah ?_
  refine cc (.nil _) (gA rfl rfl ar ae (by rfl)) ?_
  exact⟨aa q (c6 eF bz (ag bN) w dx gT) 116::aQ,⟨rfl,aQ,aE,rfl⟩,_,bq⟩
 exact bW af
theorem Y6(q eF bN:Nat)(bz:Value)(w:ai (BitVec 32))(dx:BitVec 32)(gT:Int)(A N:Int)(cb:List (ao B))(z:Int)(post:List (ao B)→Prop)(b7:aS B 93 [ag bN,U A] cb (fun v S=>v=U z∧post S)):aS B 50 [ag q,.agg #[U 3,U A,U N,.slice none 0 0,.slice none 0 0]] (aa q (c6 eF bz (ag bN) w dx gT) 116::cb) (fun v S=>v= .agg #[U z,U 0]∧∃aQ,post aQ∧S=aa q (c6 eF bz (ag bN) w dx gT) 116::aQ):=by
 refine bD 93 Tryz.func50 fun a4 ax=>?_
 refine dt (au:=[U 3,U A,U N,.slice none 0 0,.slice none 0 0]) fun ay=>?_
 refine ds fun aM=>?_
 refine uN ?_
 refine bX ?_ ?_<;>intro ab
 ·exact bW ab
 refine cW ?_
 refine bX ?_ ?_<;>intro af
 ·exact bW af
 refine cW ?_
 refine aT ?_ ?_<;>intro az
 ·refine cA (b7) ?_
  rintro _ aQ ⟨rfl,aE⟩
  try simp only [List.cons_append,List.nil_append]
  refine ah ?_
  refine cc (.nil _) (gA rfl rfl ar ae (by rfl)) ?_
  exact⟨aa q (c6 eF bz (ag bN) w dx gT) 116::aQ,⟨rfl,aQ,aE,rfl⟩,_,bq⟩
 exact bW az
theorem Ii(q eF bN:Nat)(bz:Value)(w:ai (BitVec 32))(dx:BitVec 32)(gT:Int)(A N:Int)(cb:List (ao B))(iP:Int)(afd:1≤iP∧iP≤12)(qe jq:Int)(post:List (ao B)→Prop)(b7:aS B 50 [ag q,.agg #[U iP,U A,U N,.slice none 0 0,.slice none 0 0]] (aa q (c6 eF bz (ag bN) w dx gT) 116::cb) (fun v S=>v= .agg #[U qe,U jq]∧∃aQ,post aQ∧S=aa q (c6 eF bz (ag bN) w dx gT) 116::aQ)):aS B 20 [ag q,.agg #[U iP,U A,U N,.slice none 0 0,.slice none 0 0]] (aa q (c6 eF bz (ag bN) w dx gT) 116::cb) (fun v S=>v= .agg #[U qe,U jq]∧∃aQ,post aQ∧S=aa q (c6 eF bz (ag bN) w dx gT) 116::aQ):=by
 refine bD 46 Tryz.func20 fun a4 ax=>?_
 refine dt (au:=[U iP,U A,U N,.slice none 0 0,.slice none 0 0]) fun ay=>?_
 refine da fun aM=>?_
 refine cC ?_ ?_<;>intro ab
 ·exact bW ab
 refine aT ?_ ?_<;>intro af
 ·exact bW af
 refine aT ?_ ?_<;>intro az
 ·exact bW az
 refine aT ?_ ?_<;>intro a5
 ·exact bW a5
 refine bX ?_ ?_<;>intro cd
 ·exact bW cd
 refine tf ?_
 refine cM [U iP,U A,U N,.slice none 0 0,.slice none 0 0] ?_
 refine cA (b7) ?_
 rintro _ _ ⟨rfl,aQ,aE,rfl⟩
 try simp only [List.cons_append,List.nil_append]
 refine ah ?_
 refine cc (.nil _) (gA rfl rfl ar ae (by rfl)) ?_
 exact⟨aa q (c6 eF bz (ag bN) w dx gT) 116::aQ,⟨rfl,aQ,aE,rfl⟩,_,bq⟩
theorem WR(q:Nat)(A N:Int)(cb:List (ao B))(z:Int)(post:List (ao B)→Prop)(b7:aS B 18 [ag q] cb (fun v S=>v=U z∧post S)):aS B 20 [ag q,.agg #[U 15,U A,U N,.slice none 0 0,.slice none 0 0]] cb (fun v S=>v= .agg #[U z,U 0]∧post S):=by
 refine bD 46 Tryz.func20 fun a4 ax=>?_
 refine dt (au:=[U 15,U A,U N,.slice none 0 0,.slice none 0 0]) fun ay=>?_
 refine ds fun aM=>?_
 refine kZ ?_
 refine kg (t:=8) rfl (fun ab=>?_) (fun ab=>?_)
 ·replace ab:=fb ab
  exact bW ab
 replace ab:=fb ab
 refine cW ?_
 refine bX ?_ ?_<;>intro af
 ·exact bW af
 refine ra ?_
 refine aT ?_ ?_<;>intro az
 ·refine cA (b7) ?_
  rintro _ aQ ⟨rfl,aE⟩
  try simp only [List.cons_append,List.nil_append]
  refine ah ?_
  refine cc (.nil _) (gA rfl rfl ar ae (by rfl)) ?_
  exact⟨aQ,⟨rfl,aE⟩,_,bq⟩
 exact bW az
def pI(m:Nat):UInt8:=UInt8.ofNat (48+m%10)
theorem WS(m:Nat):(pI m).toNat=48+m%10:=by
  unfold pI;rw [UInt8.toNat_ofNat'];omega
theorem LR(m:Nat):IntKind.u8.wrap (48+((m%10:Nat):Int))=((pI m).toNat:Int):=by
  rw [WS]
  show(48+((m%10:Nat):Int))%256=_
  omega
theorem MN(m:Nat):Int.tmod (m:Int) 10=((m%10:Nat):Int):=by rw [Int.tmod_eq_emod_of_nonneg (by omega)];omega
theorem MO(m:Nat):Int.tdiv (m:Int) 10=((m/10:Nat):Int):=by rw [Int.tdiv_eq_ediv_of_nonneg (by omega)];omega
def tD:Nat→Nat→List UInt8
  |0,_=>[]
  |f+1,n=>if n=0 then []else pI n::tD f (n/10)
def rd(m:Nat):List UInt8:=pI m::tD 10 (m/10)
theorem Y7:∀f,tD f 0=[]
  |0=>rfl
  |f+1=>rfl
theorem Y8{f m:Nat}(b0:0<m)(h:m<10^f):∃f2,f=f2+1∧tD f m=pI m::tD f2 (m/10)∧m/10<10^f2:=by
  cases f with
  |zero=>simp at h;omega
  |succ f=>exact⟨f,rfl,by rw [tD,if_neg (by omega)],by rw [Nat.pow_succ]at h;omega⟩
def lV(n:Int):Nat:=(min (max n 0) 2147483647).toNat
theorem K1(n:Int):lV n≤2147483647:=by unfold lV;omega
theorem S9(n:Int):min (max n 0) 2147483647=(lV n:Int):=by unfold lV;omega
def jW(n:Int):List UInt8:=(rd (lV n)).reverse
def zM(o xs:List UInt8)(i:Nat):Prop:=xs.length=o.length∧∀j,j<o.length→xs[j]?=if j<i∨o.length-1-i<j then o[o.length-1-j]? else o[j]?
theorem Ta(o:List UInt8)(h:0<o.length):zM o o 0:=⟨rfl,fun j aY=>by rw [if_neg (by omega)]⟩
theorem Re{o xs:List UInt8}{i:Nat}(h:zM o xs i)(ak:o.length≤2*i+1):xs=o.reverse:=by
  apply List.ext_getElem?
  intro j
  by_cases aY:j<o.length
  · rw [h.2 j aY,List.getElem?_reverse aY]
    split
    · rfl
    · rw [show o.length-1-j=j by omega]
  · rw [List.getElem?_eq_none (by rw [h.1];omega),List.getElem?_eq_none (by simp;omega)]
theorem Tb{o xs:List UInt8}{i k:Nat}{a b:UInt8}(h:zM o xs i)(aj:k=o.length-1-i)(wE:i<k)(aO:xs[i]?=some a)(bb:xs[k]?=some b):zM o ((xs.set i b).set k a) (i+1):=by
 have aJ:=h.1
 refine⟨by simp [aJ],fun j aY=>?_⟩
 have ab:=h.2 i al;rw [if_neg al,aO]at ab
 have af:=h.2 k al;rw [if_neg al,bb]at af
 by_cases dc:j=k
 ·subst dc
  rw [List.getElem?_set_self (by simp;omega),if_pos al,show o.length-1-j=i by omega];exact ab
 rw [List.getElem?_set_ne al]
 by_cases dd:j=i
 ·subst dd
  rw [List.getElem?_set_self al,if_pos al,show o.length-1-j=k by omega];exact af
 rw [List.getElem?_set_ne al,h.2 j aY]
 by_cases fD:j<i∨o.length-1-i<j
 ·rw [if_pos fD,if_pos al]
 rw [if_neg fD,if_neg al]
theorem mP(n:Int):aS B 63 [U n] [] (fun v S=>v=str (jW n)∧S=[]):=by
 refine bD 53 Tryz.func63 fun a4 ax=>?_
 rw [S9 n]
 refine ah ?_
 refine aA (rK (z:=(((lV n)%10:Nat):Int)) rfl rfl bu (MN (lV n))) ?_
 refine aA (pO (m:=48) (n:=(((lV n)%10:Nat):Int)) rfl rfl al al) ?_
 refine aA (kn (z:=((pI (lV n)).toNat:Int)) rfl ae (LR (lV n))) ?_
 refine js (au:=pp (pI (lV n))) .no rfl ae bu bu (by rfl) (by rfl) rfl rfl (fun ay=>?_)
 refine ah ?_
 refine aA (rK (z:=(((lV n)/10:Nat):Int)) rfl rfl bu (by show IntKind.i64.wrap _=_;rw [MO];exact nQ al (by have:=K1 n;omega))) ?_
 refine ah ?_
 refine Sf (b:=ay) (au:=pp (pI (lV n))) pp [pI (lV n)] (by simp) (fun _=>rfl) (by simp [maxLen]) rfl ar ?_
 refine dH (α:=Nat×Nat×ai UInt8) (fun⟨m,f,c⟩=>m≤2147483647∧m<10^f∧c.l++tD f m=rd (lV n)∧c.l.length+f≤11∧0<c.l.length∧c.Own) (fun⟨m,f,c⟩=>[(0,U (m:Int)),(3,aw c)]) (fun⟨m,f,c⟩=>[cr c 5 1 pp]) (fun⟨m,f,c⟩=>m) ((lV n)/10,10,ai.lit ay [pI (lV n)] (by simp)) ?_ dD aC ?_
 ·have acQ:=K1 n;exact⟨by show lV n/10≤_;omega,by show lV n/10<10^10;omega,rfl,by show 1+10≤11;decide,by show 0<1;decide,ai.ug⟩
 rintro⟨m,f,c⟩ ⟨pz,hm,bg,hh,mY,iT⟩
 dsimp only
 refine ah ?_
 refine aT ?_ ?_<;>intro ab
 ·obtain⟨f2,rfl,yK,El⟩:=Y8 al hm
  refine ah ?_
  refine aA (rK (z:=((m%10:Nat):Int)) rfl rfl bu (MN m)) ?_
  refine aA (pO (m:=48) (n:=((m%10:Nat):Int)) rfl rfl al al) ?_
  refine aA (kn (z:=((pI m).toNat:Int)) rfl ae (LR m)) ?_
  refine js (au:=pp (pI m)) .no rfl ae bu bu (by rfl) (by rfl) rfl rfl (fun aM=>?_)
  refine vH (aW:=pp) (c:=c) (y:=(pI m)) (K:=_) .no rfl rfl ae ar ar (hF) rfl rfl al al rfl (fun c2 gL jQ=>?_)
  refine ah ?_
  refine aA (rK (z:=((m/10:Nat):Int)) rfl rfl bu (by show IntKind.i64.wrap _=_;rw [MO];exact nQ al al)) ?_
  refine ah ?_
  refine eg (m/10,f2,c2) ?_ ?_ ?_ ?_
  ·(try dsimp only);exact⟨by omega,El,by rw [gL, ←bg,yK];simp,by rw [gL];simp;omega,by rw [gL];simp,jQ⟩
  ·(try dsimp only);omega
  ·refine⟨?_,?_,trivial⟩<;>rfl
  (try dsimp only);exact⟨_,aC⟩
 obtain rfl:m=0:=by omega
 rw [Y7,List.append_nil]at bg
 refine ah ?_
 refine dH (α:=Nat×Int×List UInt8) (fun⟨i,hb,xs⟩=>zM c.l xs i∧i≤c.l.length∧hb=(c.l.length:Int)-1-(i:Int)) (fun⟨i,hb,xs⟩=>[(4,U (i:Int)),(5,U hb),(3,aw c)]) (fun⟨i,hb,xs⟩=>[row (aw c) 5 1 c.l.length (xs.flatMap pp)]) (fun⟨i,hb,xs⟩=>c.l.length-i) (0,(c.l.length:Int)-1,c.l) ?_ dD aC ?_
 ·exact⟨Ta _ mY,Nat.zero_le _,by show _=_-((0:Nat):Int);omega⟩
 rintro⟨i,hb,xs⟩ ⟨av,ak,iZ⟩
 dsimp only
 have wP:=av.1
 refine ah ?_
 refine aT ?_ ?_<;>intro af
 ·obtain⟨k,aj⟩:∃k:Nat,hb=(k:Int):=⟨c.l.length-1-i,by omega⟩
  obtain⟨EF,P1⟩:∃y,xs[i]?=some y:=⟨_,List.getElem?_eq_getElem al⟩
  obtain⟨EG,rq⟩:∃y,xs[k]?=some y:=⟨_,List.getElem?_eq_getElem al⟩
  refine ah ?_
  refine c8 _ ae (Take.self _) ?_
  refine aN [0,1,2,3,4,5] ?_
  refine cy 6 rfl (h7 (j:=k) rfl rfl ae (c).en aj al rfl) ?_
  refine bs 7 rfl (eO (aW:=pp) (aH:=1) (i:=k) (k:=0) (fun _=>rfl) rfl ar (qk iT rfl av.1) ae rq rfl) ?_
  refine aN [8,9] ?_
  refine cy 10 rfl (h7 rfl rfl ae (c).en rfl al rfl) ?_
  refine bs 11 rfl (eO (aW:=pp) (aH:=1) (i:=i) (k:=0) (fun _=>rfl) rfl ar (qk iT rfl av.1) ae P1 rfl) ?_
  refine cy 12 rfl (h7 rfl rfl ae (c).en rfl al rfl) ?_
  refine aN [113] ?_
  refine lC rfl dr (uv (aW:=pp) (i:=i) (y:=EG) iT rfl rfl (fun _=>rfl) rfl rfl ar ae (by first|omega|(simp;omega)) rfl) ?_
  refine cy 14 rfl (h7 (j:=k) rfl rfl ae (c).en aj al rfl) ?_
  refine aN [115] ?_
  refine lC rfl dr (uv (aW:=pp) (i:=k) (y:=EF) iT rfl rfl (fun _=>rfl) rfl rfl ar ae (by first|omega|(simp;omega)) rfl) ?_
  refine c7 [99] ?_
  refine eg (i+1,hb-1,(xs.set i EG).set k EF) ?_ ?_ ?_ ?_
  ·(try dsimp only);exact⟨Tb av al al P1 rq,by omega,by show hb-1=_-((i+1:Nat):Int);omega⟩
  ·(try dsimp only);omega
  ·refine⟨?_,?_,?_,trivial⟩<;>rfl
  (try dsimp only);exact⟨_,aC⟩
 have aaF:xs=c.l.reverse:=Re av al
 refine ah ?_
 refine aA (Vq (a:=c) (l:=xs) rfl ar (qk iT rfl av.1) av.1 ae) ?_
 refine ah ?_
 exact bI ⟨by rw [aaF,bg];rfl,rfl⟩
theorem jL(n:Int):(jW n).length≤11:=by
  unfold jW rd;rw [List.length_reverse,List.length_cons]
  have:∀f m,(tD f m).length≤f:=by
    intro f;induction f with
    |zero=>intro m;exact Nat.le_refl _
    |succ f ih=>intro m;rw [tD];split;exact Nat.zero_le _;rw [List.length_cons];have:=ih (m/10);omega
  have:=this 10 (lV n/10);omega
def Ij(n:Int):Bool:=decide (0≤n∧n≤2147483647)
theorem Nw(k:Int):aS B 119 [U k] [] (fun v S=>∃b:List UInt8,b.length≤10∧v=str b∧S=[]):=by
 refine bD 24 Tryz.func119 fun a4 ax=>?_
 refine aT ?_ ?_<;>intro ab
 ·exact bI ⟨[114,117,110,115],by decide,rfl,rfl⟩
 refine aT ?_ ?_<;>intro af
 ·exact bI ⟨[99,97,109,101],by decide,rfl,rfl⟩
 refine aT ?_ ?_<;>intro az
 ·exact bI ⟨[111,118,101,114],by decide,rfl,rfl⟩
 refine aT ?_ ?_<;>intro a5
 ·exact bI ⟨[108,97,116,101],by decide,rfl,rfl⟩
 refine aT ?_ ?_<;>intro cd
 ·exact bI ⟨[116,111,111,107],by decide,rfl,rfl⟩
 refine aT ?_ ?_<;>intro c5
 ·exact bI ⟨[103,97,118,101],by decide,rfl,rfl⟩
 refine aT ?_ ?_<;>intro fo
 ·exact bI ⟨[97,115,107,101,100],by decide,rfl,rfl⟩
 refine aT ?_ ?_<;>intro gx
 ·exact bI ⟨[109,111,100,101],by decide,rfl,rfl⟩
 refine aT ?_ ?_<;>intro jf
 ·exact bI ⟨[115,101,116,116,108,101,100],by decide,rfl,rfl⟩
 refine aT ?_ ?_<;>intro iw
 ·exact bI ⟨[100,114,111,112,112,101,100],by decide,rfl,rfl⟩
 exact bI ⟨[],by decide,rfl,rfl⟩
theorem Gz(n:Int):aS B 186 [U n] [] (fun v S=>v= .bool (Ij n)∧S=[]):=by
 refine bD 9 Tryz.func186 fun a4 ax=>?_
 refine cC ?_ ?_<;>intro ab
 ·exact bI ⟨by unfold Ij;simp [*]<;>omega,rfl⟩
 exact bI ⟨by unfold Ij;simp [*]<;>omega,rfl⟩
theorem WT(e:eP):aS B 118 [.agg (po e).toArray] [] (fun v S=>∃z:Bool,v= .bool z∧S=[]):=by
 refine bD 22 Tryz.func118 fun a4 ax=>?_
 refine fe (au:=po e) fun ay=>?_
 refine cA (Nw e.2.1) ?_
 rintro _ _ ⟨b,bb,rfl,rfl⟩
 simp only [List.cons_append,List.nil_append]
 refine aA (k6 (q:=!(b==[])) rfl rfl rfl) ?_
 refine ah ?_
 refine cC ?_ ?_<;>intro ab
 ·refine fL (Gz e.1) ?_
  refine cC ?_ ?_<;>intro af
  ·refine fL (Gz e.2.2.1) ?_
   refine cC ?_ ?_<;>intro az
   ·refine fL (Gz e.2.2.2) ?_
    exact bI ⟨_,rfl,rfl⟩
   exact bI ⟨_,rfl,rfl⟩
  exact bI ⟨_,rfl,rfl⟩
 exact bI ⟨_,rfl,rfl⟩
theorem Y9(e:eP):aS B 64 [.agg (po e).toArray] [] (fun v S=>∃b:List UInt8,b.length≤50∧v=str b∧S=[]):=by
 refine bD 24 Tryz.func64 fun a4 ax=>?_
 refine dt (au:=po e) fun ay=>?_
 refine cW ?_
 refine cM (po e) ?_
 refine cA (WT e) ?_
 rintro _ _ ⟨z,rfl,rfl⟩
 refine cU ?_
 refine aT ?_ ?_<;>intro ab
 ·exact bI ⟨[],by decide,rfl,rfl⟩
 have bM:=jL e.1
 have bS:=jL e.2.2.1
 have cD:=jL e.2.2.2
 refine ah ?_
 refine ki [aa ay (po e) 155] ae aC ?_
 refine aN [0,1,4,5,9,10,14,15,102] ?_
 refine gu (mP e.1) ?_
 refine bs 3 rfl (fS rfl rfl fW) ?_
 refine jU 6 (Nw e.2.1) ?_
 rintro _ _ ⟨b,bb,rfl,rfl⟩
 simp only [List.cons_append,List.nil_append]
 refine fV ?_
 refine bs 7 rfl (fS rfl rfl fW) ?_
 refine bs 8 rfl (fS rfl rfl fW) ?_
 refine aN [111] ?_
 refine gu (mP e.2.2.1) ?_
 refine bs 12 rfl (fS rfl rfl fW) ?_
 refine bs 13 rfl (fS rfl rfl fW) ?_
 refine aN [116] ?_
 refine gu (mP e.2.2.2) ?_
 refine bs 17 rfl (fS rfl rfl fW) ?_
 refine c7 [18,99] ?_
 exact bI ⟨_,by simp only [List.length_append,List.length_cons,List.length_nil];omega,rfl,rfl⟩
def Nx(now m late seq:Int):List UInt8:=[111,110,32]++jW now++[32,109,111,100,101,32]++jW m++[32,108,97,116,101,32]++jW late++[32,105,109,97,103,101,32]++jW seq
theorem Za(a:ai eP)(bT:a.Own)(dB:a.l.length≤100000):aS B 29 [aw a] [fa a] (fun v S=>∃b:List UInt8,b.length≤51*a.l.length∧v=str b∧S=[fa a]):=by
 refine bD 23 Tryz.func29 fun a4 ax=>?_
 refine dH (α:=Nat×List UInt8) (fun⟨i,b⟩=>i≤a.l.length∧b.length≤51*i) (fun⟨i,b⟩=>[(3,str b),(9,U (i:Int)),(8,U (a.l.length:Int)),(0,aw a),(7,aw a)]) (fun⟨i,b⟩=>[fa a]) (fun⟨i,b⟩=>a.l.length-i) (0,[]) ?_ dD aC ?_
 ·exact⟨Nat.zero_le _,Nat.zero_le _⟩
 rintro⟨i,b⟩ ⟨ak,bb⟩
 dsimp only
 refine ah ?_
 refine aT ?_ ?_<;>intro ab
 ·obtain⟨x,bh⟩:∃x,a.l[i]?=some x:=⟨_,List.getElem?_eq_getElem al⟩
  refine ah ?_
  refine aA (hN (aW:=po) (aH:=4) (i:=i) (fun _=>rfl) rfl ar (eh bT rfl) ae bh) ?_
  refine ds fun ay=>?_
  refine gK ?_
  refine cM (po x) ?_
  refine cA (Y9 x) ?_
  rintro _ _ ⟨aM,acS,rfl,rfl⟩
  refine cU ?_
  refine aA (k6 (q:=!(aM==[])) rfl rfl rfl) ?_
  refine ah ?_
  refine aT ?_ ?_<;>intro af
  ·refine aA (fS rfl rfl fW) ?_
   refine aA (fS rfl rfl fW) ?_
   refine ah ?_
   refine eg (i+1,b++(aM++[10])) ?_ ?_ ?_ ?_
   ·(try dsimp only);exact⟨by omega,by simp only [List.length_append,List.length_cons,List.length_nil];omega⟩
   ·(try dsimp only);omega
   ·refine⟨?_,?_,?_,?_,?_,trivial⟩<;>rfl
   (try dsimp only);exact⟨_,aC⟩
  refine eg (i+1,b) ?_ ?_ ?_ ?_
  ·(try dsimp only);exact⟨by omega,by omega⟩
  ·(try dsimp only);omega
  ·refine⟨?_,?_,?_,?_,?_,trivial⟩<;>rfl
  (try dsimp only);exact⟨_,aC⟩
 exact⟨[fa a],⟨b,by omega,rfl,rfl⟩,_,bq⟩
theorem UR(e n:Int):aS B 27 [.agg #[U e,U n]] [] (fun v S=>∃b:List UInt8,b.length≤30∧v=str b∧S=[]):=by
 refine dn 17 Tryz.func27 fun a4 ax=>?_
 have bM:=jL e
 have bS:=jL n
 refine ah ?_
 refine fe (au:=[U e,U n]) fun ay=>?_
 refine fL (mP e) ?_
 refine aT ?_ ?_<;>intro ab
 ·refine hD (mP n) ?_
  refine aA (fS rfl rfl fW) ?_
  refine aA (fS rfl rfl fW) ?_
  refine ah ?_
  exact bI ⟨_,by first|omega|(simp only [List.length_append,List.length_cons,List.length_nil];omega),rfl,rfl⟩
 exact bI ⟨_,by first|omega|(simp only [List.length_append,List.length_cons,List.length_nil];omega),rfl,rfl⟩
theorem Zb:aS B 26 [] [] (fun v S=>v= .agg #[U 16,U 256,U 1000]∧S=[]):=by
 refine bD 2 Tryz.func26 fun a4 ax=>?_
 refine da fun ay=>?_
 refine cc (.nil _) (gA rfl rfl ar ae (by rfl)) ?_
 exact bA
theorem Zc(q eF bN:Nat)(bz:Value)(w:ai (BitVec 32))(sv:w.Own)(Ej:w.l.length≤100000)(dx:BitVec 32)(gT:Int)(k:eV)(s:b4)(aU:bQ)(o:ea)(m bo bn aV no he:Int)(op:BitVec 32)(t:mD):aS B 31 [ag q] [aa q (c6 eF bz (ag bN) w dx gT) 116,cK w,aa bN (c9 k) 170,aa k.dC (cp s) 260,aa k.a9 (b6 (cJ aU o m bo bn aV no he op t)) 288] (fun v S=>v=str (Nx s.now m k.late (dx.toNat:Int))∧S=[aa q (c6 eF bz (ag bN) w dx gT) 116,cK w,aa bN (c9 k) 170,aa k.dC (cp s) 260,aa k.a9 (b6 (cJ aU o m bo bn aV no he op t)) 288]):=by
 refine dn 39 Tryz.func31 fun a4 ax=>?_
 have bM:=jL s.now
 have bS:=jL m
 have cD:=jL k.late
 have cV:=jL (dx.toNat:Int)
 have AQ:=dx.isLt
 refine ah ?_
 refine e1 (MM q eF bz (ag bN) w dx gT) ?_
 refine cA (MD (K:=cK w) q eF w dx gT bz bN (eh sv rfl) Ej) ?_
 rintro _ _ ⟨a,⟨dB,bT⟩,rfl,rfl⟩
 simp only [List.cons_append,List.nil_append]
 refine ct ?_
 refine bH (aw a) ?_
 refine bH (aI dx.toNat) ?_
 refine bH (.bool true) ?_
 refine ah ?_
 refine dA (wi k.dC s) ?_
 refine hD (mP s.now) ?_
 refine aA (fS rfl rfl fW) ?_
 refine aA (fS rfl rfl fW) ?_
 refine ah ?_
 refine dA (Y2 bN k aU o m bo bn aV no he op t) ?_
 refine hD (mP m) ?_
 refine aA (fS rfl rfl fW) ?_
 refine aA (fS rfl rfl fW) ?_
 refine ah ?_
 refine dA (WI bN k) ?_
 refine hD (mP k.late) ?_
 refine aA (fS rfl rfl fW) ?_
 refine aA (fS rfl rfl fW) ?_
 refine ah ?_
 refine aA (kn rfl ae (nQ al al)) ?_
 refine hD (mP (dx.toNat:Int)) ?_
 refine aA (fS rfl rfl fW) ?_
 exact mz
theorem C7{P:Program}{A:eD}{N:Nat}{an:List Nat}{E:Env}{S:List (ao B)}{t n aH:Nat}{bl:Addr}{x:Operand}(av:aX E x=some (.pointer (some bl)))(aR:nS P t=some (n,aH)):dp P B A N an E S (.slice t x none none none) (.slice (some bl) n n):=
  ⟨by simp,by simp,fun a w bd pos a3 g d ap aB=>by
    obtain⟨e,i,hu,kV,e0,a7⟩:=BW aR
    have b0:¬n=0:=by omega
    simp [execOp,ap.aX av,Instr.sliceAt,Instr.sureAddr,asAddr,Instr.sliceBounds,run_underlying hu,sizeOf,typeInfo,kV,b0,Addr.add]⟩
theorem F6{b o:Nat}{au xs:List Value}{t:TypeId}(h:(au.drop o).take xs.length=xs):c1 (aa (B:=B) b au t) ⟨b,o,none⟩ xs:=by
  intro D w hw k aj
  have ab:xs[k]?=au[o+k]?:=by rw [←h,List.getElem?_take_of_lt aj,List.getElem?_drop]
  have af:o+k<au.length:=by
    have:=List.getElem?_eq_getElem aj
    rw [ab]at this
    exact(List.getElem?_eq_some_iff.1 this).1
  rw [ab]
  have:=me D w hw (o+k) af
  rw [←this,mG,mG,Nat.zero_add]
def aaG(bl:Addr)(l:List Int)(h:l.length≤100):ai Int:=⟨some bl,l.length,l,fun e=>(by cases e),by omega,by omega⟩
def ou(eA:List UInt8)(l:List Int):Nat→List UInt8
  |0=>[]
  |i+1=>ou eA l i++(match l[i]? with|some x=>if x=0 then []else [32]++jW (i:Int)++eA++jW x|none=>[])
theorem RY{eA:List UInt8}{l:List Int}{i:Nat}{x:Int}(h:l[i]?=some x)(av:¬x=0):ou eA l (i+1)=ou eA l i++([32]++jW (i:Int)++eA++jW x):=by rw [ou,h];show _++(if x=0 then _ else _)=_;rw [if_neg av]
theorem RZ{eA:List UInt8}{l:List Int}{i:Nat}{x:Int}(h:l[i]?=some x)(av:x=0):ou eA l (i+1)=ou eA l i:=by rw [ou,h];show _++(if x=0 then _ else _)=_;rw [if_pos av,List.append_nil]
theorem tR(eA:List UInt8)(l:List Int)(h:eA.length≤1):∀i,(ou eA l i).length≤24*i
  |0=>Nat.le_refl _
  |i+1=>by
    have ih:=tR eA l h i
    rw [ou,List.length_append]
    have:(match l[i]? with|some x=>if x=0 then []else [32]++jW (i:Int)++eA++jW x|none=>([]:List UInt8)).length≤24:=by
      cases l[i]? with
      |none=>simp
      |some x=>
        show(if x=0 then _ else _:List UInt8).length≤_
        split
        · simp
        · have ab:=jL (i:Int);have af:=jL x
          simp only [List.length_append,List.length_cons,List.length_nil];omega
    omega
def pi(p:Int):List UInt8:=if p=1 then [105,100,108,101]else if p=2 then [108,111,110,103,101,115,116]else if p=3 then [97,112,97,114,116]else []
theorem JL(p:Int):(pi p).length≤7:=by
  unfold pi
  repeat' split
  all_goals simp
theorem WU(a:ai Int)(aO:c1 K a.bl (a.l.flatMap ei))(dB:a.l.length≤100)(eA:List UInt8)(Ik:eA.length≤1):aS B 68 [aw a,str eA] [K] (fun v S=>v=str (ou eA a.l a.l.length)∧S=[K]):=by
 refine bD 29 Tryz.func68 fun a4 ax=>?_
 refine dH (α:=Nat) (fun i=>i≤a.l.length) (fun i=>[(5,str (ou eA a.l i)),(10,U (i:Int)),(9,U (a.l.length:Int)),(0,aw a),(1,str eA),(8,aw a)]) (fun i=>[K]) (fun i=>a.l.length-i) 0 ?_ dD aC ?_
 ·exact Nat.zero_le _
 intro i ak
 have bM:=jL (i:Int)
 have bS:=tR eA a.l Ik i
 refine ah ?_
 refine aT ?_ ?_<;>intro ab
 ·obtain⟨x,bh⟩:∃x,a.l[i]?=some x:=⟨_,List.getElem?_eq_getElem al⟩
  have cD:=jL x
  refine ah ?_
  refine aA (eO (aW:=ei) (aH:=1) (i:=i) (k:=0) (fun _=>rfl) rfl ar aO ae bh rfl) ?_
  refine ah ?_
  refine aT ?_ ?_<;>intro af
  ·refine hD (mP (i:Int)) ?_
   refine aA (fS rfl rfl fW) ?_
   refine ah ?_
   refine aA (fS rfl rfl fW) ?_
   refine ah ?_
   refine hD (mP x) ?_
   refine aA (fS rfl rfl fW) ?_
   refine aA (fS rfl rfl fW) ?_
   refine ah ?_
   refine eg (i+1) ?_ ?_ ?_ ?_
   ·show i+1≤_;omega
   ·omega
   ·refine⟨by rw [RY bh af];rfl,?_,?_,?_,?_,?_,trivial⟩<;>rfl
   exact⟨_,aC⟩
  refine eg (i+1) ?_ ?_ ?_ ?_
  ·show i+1≤_;omega
  ·omega
  ·refine⟨by rw [RZ bh al];rfl,?_,?_,?_,?_,?_,trivial⟩<;>rfl
  exact⟨_,aC⟩
 obtain rfl:i=a.l.length:=by omega
 exact mz
theorem MP(p:Int):aS B 70 [U p] [] (fun v S=>v=str (pi p)∧S=[]):=by
 refine bD 10 Tryz.func70 fun a4 ax=>?_
 refine aT ?_ ?_<;>intro ab
 ·exact bI ⟨by unfold pi;rw [if_pos cl],rfl⟩
 refine aT ?_ ?_<;>intro af
 ·exact bI ⟨by unfold pi;rw [if_neg cl,if_pos cl],rfl⟩
 refine aT ?_ ?_<;>intro az
 ·exact bI ⟨by unfold pi;rw [if_neg cl,if_neg cl,if_pos cl],rfl⟩
 exact bI ⟨by unfold pi;rw [if_neg cl,if_neg cl,if_neg cl],rfl⟩
end Go.Proofs.YtkpibibplbjciaaGreatDoor
