/- Of the proof of WholeSafe. -/
import Derived.Test.YtkpibibplbjciaaGreatDoorSQ6
set_option linter.unusedVariables false
set_option linter.unusedSectionVars false
set_option linter.unusedSimpArgs false
namespace Go.Proofs.YtkpibibplbjciaaGreatDoor
open Go Go.Sl
set_option maxRecDepth 4000
variable {B : Nat} {K : ar B}
section
variable{B:Nat}
theorem aaW{b8:Value}(h:uJ b8)(aR:qf b8=false):b8= .nilIface:=by
  cases h with
  |nil=>rfl
  |some=>cases aR
theorem agZ(a b c:Nat):∀m∈(si a b c).a9.l,m.q.l=[]:=fun m hm=>by
  have h:m∈Cd:=hm
  simp only [Cd,List.mem_cons,List.not_mem_nil,or_false]at h
  rcases h with rfl|rfl|rfl<;>rfl
theorem ade:a6 B 33 [.bool false] [] (fun v S=>∃a b c:Nat,v=(si a b c).v∧S=[all (A1 (si a b c))]):=by
 refine j9 three ?_
 rintro v S ⟨a,b,c,rfl,rfl⟩
 exact⟨_,[all (A1 (si a b c))],[],sL (l:=A1 (si a b c)) (show Take (A1 (B:=B) (si a b c)) (A1 (si a b c)) []from Take.self _),Take.self _,a,b,c,rfl,rfl⟩
theorem Y0(a b c:Nat):KQ (si a b c)=zb:=rfl
section
variable{aB:ar B}(bO:dI aB ⟨0,0,none⟩ (rZ.map fun m=> .int .u8 m))(aJ:hK aB)
 include bO aJ
theorem aaX:a6 B 8 [str zb,str DI] [aB] (fun v S=>∃out:List UInt8,out.length≤400000000000∧v= .tuple #[str (out++(qb 169 0 0 1++[10])),.nilIface]∧S=[aB]):=by
 have h:=RS (B:=B) bO aJ zb DI True (fun l=>l=uw) (fun cH=>cH.map dQ.C=HC) (fun jv=>jv=qb 169 0 0 1)
  ((R0 zb (by have:=KR;omega) bO aJ).mono fun v S ⟨a,b8,⟨ab,ae,av,aV,bN⟩,c0,fO⟩=>⟨a,b8,⟨ab,ae,av,fun _=>aV ⟨eG,PN,KR,ac7⟩,fun q=>by rw [bN q eG PN KR,YX]⟩,c0,fO⟩)
  ((RX DI b2).mono fun v S ⟨a,z,b8,fV,hq,⟨ab,ae⟩,av,aV⟩=>⟨a,z,b8,fV,hq,⟨ab,fun _=>(ae _ OB b2).1,fun _=>(ae _ OB b2).2⟩,av,aV⟩)
  (fun a ab ae av=>T2 a (dT ab rfl) bO aJ True fun _=>⟨by rw [av];exact YY,fun cI b aR=>by rw [av];exact afo cI aR⟩)
  (fun l cH ab ae=>⟨Iw,by rw [ab];rfl,fun i x al=>adb i x.C (by rw [←ae,List.getElem?_map,al];rfl),fun jv aE=>aaU (by rw [show cH.length=8 by have:=congrArg List.length ae;rw [List.length_map]at this;exact this]at aE;exact aE)⟩)
 refine j9 ((di.frame h [aB]).dup (.here _ _) aJ) ?_
 rintro v S ⟨aU,rfl,b8,out,ab,ae,av,aV,rfl,rfl⟩
 obtain⟨b,jv,rfl,_,_,aR,rfl⟩:=aV (ae trivial)
 obtain rfl:=aaW ab (ae trivial)
 exact⟨_,[aB],_,fun _ _ h=>h,.cons (Out.gi (.here _ _)) (.nil _),b,aR,rfl,rfl⟩
theorem adf(text ur:List UInt8)(ab:text.length≤4000)(ae:ur.length≤4000):a6 B 8 [str text,str ur] [aB] (fun v S=>∃(b8:Value) (out:List UInt8),(uJ b8∧(qf b8=true→out=[])∧(qf b8=false→∃b jv,out=b++(jv++[10])∧m5 b∧yZ jv∧b.length≤400000000000))∧v= .tuple #[str out,b8]∧S=[aB]):=by
 have h:=RS (B:=B) bO aJ text ur False (fun _=>True) (fun _=>True) (fun _=>True)
  ((R0 text ah bO aJ).mono fun v S ⟨a,b8,⟨ab,ae,av,aV,bN⟩,c0,fO⟩=>⟨a,b8,⟨ab,ae,av,fun q=>q.elim,fun _=>trivial⟩,c0,fO⟩)
  ((RX ur ah).mono fun v S ⟨a,z,b8,fV,hq,⟨ab,ae⟩,av,aV⟩=>⟨a,z,b8,fV,hq,⟨ab,fun q=>q.elim,fun _=>trivial⟩,av,aV⟩)
  (fun a ab ae av=>T2 a (dT ab rfl) bO aJ False fun q=>q.elim)
  (fun l cH ab ae=>⟨fun i=>match i with|0=> .off l|_+1=> .any,rfl,fun i x al=> .any,fun jv aE=>trivial⟩)
 refine j9 ((di.frame h [aB]).dup (.here _ _) aJ) ?_
 rintro v S ⟨aU,rfl,b8,out,ab,ae,av,aV,rfl,rfl⟩
 exact⟨_,[aB],_,fun _ _ h=>h,.cons (Out.gi (.here _ _)) (.nil _),b8,out,⟨ab,av,fun q=>by obtain⟨b,jv,a1,a3,bI,cv,_⟩:=aV q;exact⟨b,jv,a1,a3,bI,cv⟩⟩,rfl,rfl⟩
end
theorem adg:DI=[98,111,111,116,10,111,102,102,101,114,32,48,32,50,10,114,101,113,117,101,115,116,32,49,10,116,105,99,107,32,50,48,10,114].append [101,113,117,101,115,116,32,50,10,116,105,99,107,32,53,48,10,114,101,113,117,101,115,116,32,48,10,116,105,99,107,32,57,57,10]:=rfl
theorem adh{aB:ar B}(bO:hd aB)(aJ:hK aB):a6 B 8 [str zb,str ([98,111,111,116,10,111,102,102,101,114,32,48,32,50,10,114,101,113,117,101,115,116,32,49,10,116,105,99,107,32,50,48,10,114].append [101,113,117,101,115,116,32,50,10,116,105,99,107,32,53,48,10,114,101,113,117,101,115,116,32,48,10,116,105,99,107,32,57,57,10])] [aB] (fun v S=>∃out:List UInt8,out.length≤400000000000∧v= .tuple #[str (out++[111,110,32,49,54,57,32,109,111,100,101,32,48,32,108,97,116,101,32,48,32,105,109,97,103,101,32,49,10]),.nilIface]∧S=[aB]):=by
  have h:=aaX (B:=B) bO aJ
  rw [adg,aaV]at h
  exact h
end
theorem KS{aB:ar B}(bO:hd aB)(aJ:hK aB):a6 B 9 [] [aB] (fun v S=>v= .bool true∧S=[aB]):=by
 refine bM 17 Tryz.func9 fun ba bf=>?_
 refine cm (ade) ?_
 rintro _ _ ⟨a,b,c,rfl,rfl⟩
 refine bP ?_
 refine eR (sprint (si a b c) (aaQ a b c) (agZ a b c) (by show 3≤60;decide) (by show 3≤60;decide) (by show 4≤60;decide)) ?_
 rw [Y0]
 refine aj ?_
 refine cm (adh bO aJ) ?_
 rintro _ _ ⟨out,aq,rfl,rfl⟩
 refine bP ?_
 refine cp ?_
 refine bp (str (out++[111,110,32,49,54,57,32,109,111,100,101,32,48,32,108,97,116,101,32,48,32,105,109,97,103,101,32,49,10])) ?_
 refine bp .nilIface ?_
 refine aj ?_
 refine ap (aba rfl .nil ad) ?_
 refine aj ?_
 refine gH (afn out [111,110,32,49,54,57,32,109,111,100,101,32,48,32,108,97,116,101,32,48,32,105,109,97,103,101,32,49,10] (by simp only [List.length_append,List.length_cons,List.length_nil];omega)) ?_
 exact bJ
theorem aft(text ur:List UInt8){aB:ar B}(bO:hd aB)(aJ:hK aB):a6 B 3 [str text,str ur] [aB] (fun v S=>v= .bool true∧S=[aB]):=by
 refine bM 105 Tryz.func3 fun ba bf=>?_
 refine cc ?_ ?_<;>intro ab
 ·exact bJ
 refine bD ?_ ?_<;>intro ae
 ·exact bJ
 refine cm (ac4 ur (by omega)) ?_
 rintro _ _ ⟨a,z,b8,⟨cO,vm⟩,rfl,rfl⟩
 refine bP ?_
 refine cp ?_
 refine bp (az a) ?_
 refine bp (aa z) ?_
 refine bp (aa b8) ?_
 refine aj ?_
 refine cm (ac5 a cO vm) ?_
 rintro _ _ ⟨l9,rfl,rfl⟩
 refine cx ?_
 refine bD ?_ ?_<;>intro av
 ·exact bJ
 refine cm (adf bO aJ text ur (by omega) (by omega)) ?_
 rintro _ _ ⟨Ae,out,⟨sr,HS,It⟩,rfl,rfl⟩
 refine bP ?_
 refine cp ?_
 refine bp (str out) ?_
 refine bp Ae ?_
 refine aj ?_
 refine ap (Q6 rfl sr ad) ?_
 refine bT ?_ ?_<;>intro aV
 ·refine ap (k6 (a:=out) (b:=[]) rfl rfl rfl) ?_
  refine aj ?_
  refine cc ?_ ?_<;>intro bN
  ·refine gH (KS bO aJ) ?_
   exact bJ
  exfalso;exact bN (HS aV)
 obtain⟨b,jv,uZ,c9,El,hj⟩:=It aV
 have afS:=Ga El
 obtain⟨jy,EX,afu⟩:=Xz c9 El
 rw [←uZ]at EX
 have vr:out.length≤1000000000000:=by rw [uZ];simp only [List.length_append,List.length_cons,List.length_nil];omega
 refine aj ?_
 refine cm (R1 out (by omega)) ?_
 rintro _ _ ⟨x,⟨al,lH⟩,rfl,rfl⟩
 refine bP ?_
 have jI:=x.small
 refine aj ?_
 refine ds (α:=Nat) (fun i=>i≤x.l.length) (fun i=>[(11,aa (i:Int)),(10,az x)]) (fun i=>[aB,hs x]) (fun i=>x.l.length-i) 0 ?_ dq cd ?_
 ·exact Nat.zero_le _
 intro i af
 refine bT ?_ ?_<;>intro c0
 ·obtain⟨q,bF⟩:=fp x.l i
  have yx:=afu q (by rw [←EX, ←al];exact List.mem_of_getElem? bF)
  have nb:q.length≤5000000:=by have:=yx.1;omega
  refine aj ?_
  refine ap (eQ (a2:=fR) (aN:=1) (i:=i) (k:=0) (fun _=>rfl) rfl au (dT lH rfl) ad bF rfl) ?_
  refine cm (aeY q nb) ?_
  rintro _ _ ⟨e,b,rfl,rfl,U3⟩
  refine bP ?_
  refine cp ?_
  refine bp (.agg (la e).toArray) ?_
  refine bp (.bool b) ?_
  refine de fun ax=>?_
  refine pJ ?_ ?_<;>intro fO
  ·refine ap (p3 rfl rfl ad rfl b2 rfl) ?_
   refine dn (aa e.2.1) ?_
   refine bT ?_ ?_<;>intro gk
   ·exfalso;exact yx.2 e (U3.1 (by simpa using fO)) gk
   refine cE (i+1) ?_
   show i+1≤_;omega
  refine aj ?_
  refine cE (i+1) ?_
  show i+1≤_;omega
 refine bD ?_ ?_<;>intro hW
 ·exfalso;rw [al,EX]at hW;simp at hW;omega
 have By:x.l.length=jy.length+1:=by rw [al,EX];simp
 have Hx:x.l[jy.length]?=some jv:=by rw [al,EX];simp
 refine aj ?_
 refine ap (jS (j:=jy.length) rfl rfl ad (x).fl ah ah rfl) ?_
 refine ap (eQ (a2:=fR) (aN:=1) (i:=jy.length) (k:=0) (fun _=>rfl) rfl au (dT lH rfl) ad Hx rfl) ?_
 refine cm (GA jv (by have:=Ga El;omega)) ?_
 rintro _ _ ⟨y,⟨aZ,rv⟩,rfl,rfl⟩
 refine bP ?_
 have cn:SP y.l:=by rw [aZ];exact(PG El).1
 obtain⟨ba,pK⟩:∃ba,y.l[0]?=some ba:=cn.elim (fun g=>⟨_,g.2⟩) (fun g=>⟨_,g.2.1⟩)
 obtain⟨Nh,Vz⟩:∃Nh,y.l.length=8→y.l[5]?=some Nh:=cn.elim (fun g=>⟨[],fun q=>by omega⟩) (fun g=>⟨_,fun _=>g.2.2⟩)
 refine aj ?_
 refine cc ?_ ?_<;>intro na
 ·refine ap (jS (j:=0) rfl rfl ad (y).fl (rfl:(0:Int)=((0:Nat):Int)) ah rfl) ?_
  refine ap (eQ (a2:=fR) (aN:=1) (i:=0) (k:=0) (fun _=>rfl) rfl au (dT rv rfl) ad pK rfl) ?_
  refine ap (k6 (a:=ba) (b:=[111,102,102]) rfl rfl rfl) ?_
  refine aj ?_
  refine cc ?_ ?_<;>intro zM
  ·refine gH (KS bO aJ) ?_
   exact bJ
  exfalso;exact cn.elim (fun g=>zM (Option.some.inj (pK.symm.trans g.2))) (fun g=>by omega)
 refine cc ?_ ?_<;>intro H2
 ·refine ap (jS (j:=0) rfl rfl ad (y).fl (rfl:(0:Int)=((0:Nat):Int)) ah rfl) ?_
  refine ap (eQ (a2:=fR) (aN:=1) (i:=0) (k:=0) (fun _=>rfl) rfl au (dT rv rfl) ad pK rfl) ?_
  refine ap (k6 (a:=ba) (b:=[111,110]) rfl rfl rfl) ?_
  refine aj ?_
  refine cc ?_ ?_<;>intro Er
  ·refine ap (jS (j:=5) rfl rfl ad (y).fl (rfl:(5:Int)=((5:Nat):Int)) ah rfl) ?_
   refine ap (eQ (a2:=fR) (aN:=1) (i:=5) (k:=0) (fun _=>rfl) rfl au (dT rv rfl) ad (Vz ah) rfl) ?_
   refine ap (k6 (a:=Nh) (b:=[48]) rfl rfl rfl) ?_
   refine aj ?_
   refine cc ?_ ?_<;>intro Bx
   ·refine gH (KS bO aJ) ?_
    exact bJ
   exfalso;exact cn.elim (fun g=>by omega) (fun g=>Bx (Option.some.inj ((Vz g.1).symm.trans g.2.2)))
  exfalso;exact cn.elim (fun g=>by omega) (fun g=>Er (Option.some.inj (pK.symm.trans g.2.1)))
 exfalso;exact cn.elim (fun g=>by omega) (fun g=>by omega)
end Go.Proofs.YtkpibibplbjciaaGreatDoor
