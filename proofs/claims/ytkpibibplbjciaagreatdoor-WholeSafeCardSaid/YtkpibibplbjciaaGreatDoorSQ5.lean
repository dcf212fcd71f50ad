/- Of the proof of WholeSafe. -/
import Derived.Test.YtkpibibplbjciaaGreatDoorSQ4
set_option linter.unusedVariables false
set_option linter.unusedSectionVars false
set_option linter.unusedSimpArgs false
namespace Go.Proofs.YtkpibibplbjciaaGreatDoor
open Go Go.Sl
set_option maxRecDepth 4000
variable {B : Nat} {K : ar B}
section
section
variable{aG:List (Nat→Int)}
theorem RE{own dS:Int}{l:List (Nat→Int)}{R:Int}:∀(f:Nat) (w:Int),1≤w→yf own dS l f w=(R,true)→1≤R∧R≤dS∧∃d,nD R l=(d,true)∧own+d≤R
 |0,w,_,h=>by cases h
 |f+1,w,hw,h=>by
  rw [yf]at h
  split at h
  ·split at h
   ·rename_i ab ae
    split at h
    ·cases h
     rename_i av
     refine⟨hw,ab,?_⟩
     unfold sR at ae av
     split at ae
     ·rename_i aV
      rw [if_pos aV]at av
      refine⟨(nD R l).1,Prod.ext rfl aV,?_⟩
      unfold jd at ae av
      split at ae
      ·rename_i bN;rw [if_pos bN]at av;exact av
      ·cases ae
     ·cases ae
    ·exact RE f _ ah h
   ·cases h
  ·cases h
theorem Jb{own dS:Int}{l:List (Nat→Int)}{R:Int}(h:nu own dS l=(R,true)):1≤R∧R≤dS∧∃d,nD R l=(d,true)∧own+d≤R:=by
  unfold nu at h
  split at h
  · cases h
  · exact RE _ _ (by omega) h
theorem Qv{d:Int}:∀(l:List Int) (a:Int),l.foldl u4 (a,true)=(d,true)→(∀x∈l,0≤x)∧d=a+l.sum
 |[],a,h=>by cases h;exact⟨fun x al=>absurd al List.not_mem_nil,by simp⟩
 |x::l,a,h=>by
  rw [List.foldl_cons]at h
  have e:u4 (a,true) x=jd a x:=by unfold u4;rw [if_pos rfl]
  rw [e]at h
  by_cases q:hv a∧hv x∧x≤1099511627776-a
  ·rw [show jd a x=(a+x,true)by unfold jd;rw [if_pos q]]at h
   obtain⟨ab,ae⟩:=Qv l _ h
   refine⟨fun y aZ=>?_,by rw [ae,List.sum_cons];omega⟩
   rcases List.mem_cons.1 aZ with rfl|aZ
   ·exact q.2.1.1
   ·exact ab y aZ
  ·rw [show jd a x=(0,false)by unfold jd;rw [if_neg q],Sv]at h
   cases h
theorem aes{e:Nat→Int}{n o:Int}(c9:1≤e 0)(h:0≤ms n (ls e o)):ms n (ls e o)=e 2*ol (n-o) (e 0):=by
  unfold ms at h⊢
  split at h
  · rename_i ab
    rw [if_pos ab]
    unfold r1 at ab⊢
    split at ab
    · rename_i ae
      rw [if_pos ae]
      split at ab
      · rename_i av
        rw [if_pos av]
        have cb:(l1 (me (ls e o) n).1 (ls e o 1)).1=(me (ls e o) n).1*e 2:=by
          unfold l1 at av⊢
          split at av
          · rename_i aV;rw [if_pos aV];rfl
          · cases av
        have cq:(jd (l1 (me (ls e o) n).1 (ls e o 1)).1 (ls e o 3)).1=(l1 (me (ls e o) n).1 (ls e o 1)).1:=by
          unfold jd at ab⊢
          split at ab
          · rename_i aV;rw [if_pos aV];show _+(0:Int)=_;omega
          · cases ab
        rw [cq,cb,Int.mul_comm]
        congr 1
        unfold me at ae⊢
        split at ae
        · rename_i aV
          rw [if_pos aV]
          have fP:(oB n (ls e o 2)).1=max (n-o) 0:=by
            unfold oB at aV⊢
            split at aV
            · rename_i bN;rw [if_pos bN];rfl
            · cases aV
          rw [fP]at ae⊢
          show(ju _ (e 0)).1=_
          have ae:(ju (max (n-o) 0) (e 0)).2=true:=ae
          unfold ju at ae⊢
          split at ae
          · rename_i bN
            rw [if_pos bN]
            unfold ol
            by_cases q:n-o≤0
            · rw [if_pos (by omega),if_pos q]
            · rw [if_neg (by omega),if_neg q,Int.tdiv_eq_ediv_of_nonneg (by omega),show max (n-o) 0=n-o by omega]
          · cases ae
        · cases ae
      · cases ab
    · cases ab
  · omega
theorem Jx(m:BitVec 32)(g:Int→Int):∀n,((lV m n).map g).sum=hS (fun j=>if hasB m (j:Int)=true then g (j:Int)else 0) n
  |0=>by simp [lV,hS]
  |n+1=>by
    have ih:=Jx m g n
    rw [Qi,List.map_append,List.sum_append,ih]
    show _+_=hS _ n+_
    congr 1
    by_cases q:hasB m (n:Int)=true
    · rw [if_pos q];show _=(if hasB m (n:Int)=true then _ else _);rw [if_pos q];simp
    · rw [if_neg q];show _=(if hasB m (n:Int)=true then _ else _);rw [if_neg q];rfl
theorem RF{j:Nat}:nL aG (j:Int)=dg aG j:=by
  unfold nL;rw [Int.toNat_natCast];simp [dg,List.getD]
theorem Yw{m:BitVec 32}{o:Int→Int}{R d:Int}(hm:∀j:Nat,hasB m (j:Int)=true→1≤dg aG j 0)(h:nD R ((bb m).map fun k=>ls (nL aG k) (o k))=(d,true)):d=hS (fun j=>if hasB m (j:Int)=true then dg aG j 2*ol (R-o (j:Int)) (dg aG j 0)else 0) 32:=by
  unfold nD zm at h
  obtain⟨ab,ae⟩:=Qv _ _ h
  rw [Int.zero_add,List.map_map]at ae
  rw [List.map_map]at ab
  rw [ae]
  have e:(bb m).map (ms R∘fun k=>ls (nL aG k) (o k))=(bb m).map fun k=>nL aG k 2*ol (R-o k) (nL aG k 0):=List.map_congr_left fun k ai=>by
    have av:=ab _ (List.mem_map.2 ⟨k,ai,rfl⟩)
    obtain⟨a1,a3,bI⟩:=iV.1 ai
    obtain⟨j,rfl⟩:=Int.eq_ofNat_of_zero_le a1
    exact aes (by rw [RF];exact hm j bI) av
  rw [e]
  show((lV m 32).map _).sum=_
  rw [Jx]
  have:∀n,hS (fun j=>if hasB m (j:Int)=true then nL aG (j:Int) 2*ol (R-o (j:Int)) (nL aG (j:Int) 0)else 0) n=hS (fun j=>if hasB m (j:Int)=true then dg aG j 2*ol (R-o (j:Int)) (dg aG j 0)else 0) n:=by
    intro n;congr 1
  exact this 32
theorem Jc{f:Nat→Int}{n:Nat}:∀d,(∀j,0≤f j)→hS f n≤hS f (n+d)
  |0,_=>Int.le_refl _
  |d+1,h=>by have:=Jc (n:=n) d h;have:=h (n+d);show _≤hS f (n+d)+f (n+d);omega
theorem Pm{t:Nat→Int}{z:Int}{r:Nat}(a4:r<32):∀n,n≤32→hasB (iu t z n) (r:Int)=decide (r<n∧t r≤z∧t r<16)
  |0,_=>by simp [iu,hasB]
  |n+1,aP=>by
    have ih:=Pm (t:=t) (z:=z) a4 n (by omega)
    rw [iu]
    split
    · rename_i h
      rw [ow,ih,pW]
      by_cases q:r=n
      · subst q;simp [h];omega
      · have e:decide ((n:Int)=(r:Int)∧0≤(r:Int)∧(r:Int)<32)=false:=decide_eq_false (by omega)
        rw [e,Bool.or_false];exact decide_eq_decide.2 (by omega)
    · rename_i h
      rw [ih]
      by_cases q:r=n
      · subst q;rw [decide_eq_false (by omega),decide_eq_false (by omega)]
      · exact decide_eq_decide.2 (by omega)
theorem Of(f:Int→Int):∀(l:List Int) (a:Int),l.foldl (fun m r=>m+f r) a=a+(l.map f).sum
  |[],a=>by simp
  |x::l,a=>by rw [List.foldl_cons,Of f l,List.map_cons,List.sum_cons];omega
theorem Yx{F:lj}{i:Nat}(af:i<16)(dj:hasB F.S (i:Int)=true):F.U aG i≤lT aG F.H F.t (i:Int):=by
 have e:lT aG F.H F.t (i:Int)=hS (fun r=>if hasB (iu F.t (i:Int) 8) (r:Int)=true then sz aG F.H i r else 0) 32:=by
  unfold lT nE
  rw [Of (fun r=>mM r.toNat (ht aG (bb (kb F.H (i:Int)))))]
  show 0+((lV _ 32).map _).sum=_
  rw [Jx,Int.zero_add]
  congr 1
 rw [e]
 have ab:=Jc (f:=fun r=>if hasB (iu F.t (i:Int) 8) (r:Int)=true then sz aG F.H i r else 0) (n:=8) 24 (fun r=>by split;exact AZ;exact Int.le_refl _)
 refine Int.le_trans (xw 8 fun r a4=>?_) ab
 show(if _ then _ else _)≤(if _ then _ else _)
 by_cases c:F.cond i r
 ·obtain⟨j,a1,a3,bI⟩:=yH.1 c
  rw [if_pos c,if_pos (by rw [Pm ah 8 b2];exact decide_eq_true ⟨a4,by omega,by omega⟩)]
  exact Int.le_refl _
 ·rw [if_neg c];split
  ·exact AZ
  ·exact Int.le_refl _
theorem ab9{x T:Int}(c9:1≤T)(h:x≤T):ol x T≤1:=by
  unfold ol;split
  · omega
  · have:(x-1)/T=0:=Int.ediv_eq_zero_of_lt (by omega) (by omega)
    omega
theorem kz.of(c9:pD aG){F:lj}{i:Nat}(af:i<aG.length)(dj:hasB F.S (i:Int)=true)(bY:∀j:Nat,hasB F.S (j:Int)=true→j<aG.length){o:Int→Int}(aq:∀j:Nat,F.o j=o (j:Int)){R dS:Int}(h:nu (dg aG i 2+lT aG F.H F.t (i:Int)) dS ((bb (lS F.S (i:Int))).map fun k=>ls (nL aG k) (o k))=(R,true))(hm:dS≤dg aG i 0+F.o i):kz aG F i R:=by
 obtain⟨ab,ae,d,av,aV⟩:=Jb h
 have aP:=c9.n
 have aR:∀j:Nat,hasB (lS F.S (i:Int)) (j:Int)=true→hasB F.S (j:Int)=true∧j<i:=fun j aI=>by
  rw [Cf _ _ _ (rO aI)]at aI
  simp only [Bool.and_eq_true,decide_eq_true_eq]at aI
  exact⟨aI.1,by omega⟩
 have bN:=Yw (fun j aI=>(c9.dg (bY j (aR j aI).1)).1.1) av
 have c0:hS (fun j=>if hasB F.S (j:Int)=true then dg aG j 2*ol (R-F.o j) (dg aG j 0)else 0) i≤d:=by
  rw [bN]
  have fO:=Jc (f:=fun j=>if hasB (lS F.S (i:Int)) (j:Int)=true then dg aG j 2*ol (R-o (j:Int)) (dg aG j 0)else 0) (n:=i) (32-i) (fun j=>by
   split
   ·rename_i q
    exact Int.mul_nonneg (c9.c6 j) (K6 (by have:=(c9.dg (bY j (aR j q).1)).1.1;omega))
   ·exact Int.le_refl _)
  rw [show i+(32-i)=32 by omega]at fO
  refine Int.le_trans (xw i fun j aI=>?_) fO
  rw [show hasB (lS F.S (i:Int)) (j:Int)=hasB F.S (j:Int)by rw [Cf _ _ _ ah,decide_eq_true ah,Bool.and_true],aq]
  exact Int.le_refl _
 refine⟨ab,?_⟩
 have gk:=Yx (aG:=aG) (F:=F) (i:=i) ah dj
 have hW:dg aG i 2*ol (R-F.o i) (dg aG i 0)≤dg aG i 2*1:=Int.mul_le_mul_of_nonneg_left (ab9 (c9.dg af).1.1 ah) (c9.c6 i)
 unfold lj.ym
 show hS _ i+(if hasB F.S (i:Int)=true then _ else _)+_≤_
 rw [if_pos dj]
 omega
theorem kz.skip{F:lj}{i:Nat}{R:Int}(h:kz aG F i R)(dj:hasB F.S ((i+1:Nat):Int)≠true):kz aG F (i+1) R:=by
 refine⟨h.one,Int.le_trans ?_ h.fix⟩
 have ab:F.ym aG R (i+1)=F.ym aG R i:=by
  unfold lj.ym
  show hS _ (i+1)+(if hasB F.S ((i+1:Nat):Int)=true then _ else _)=_
  rw [if_neg dj,Int.add_zero]
 have ae:F.U aG (i+1)≤F.U aG i:=xw 8 fun r a4=>by
  by_cases c:F.cond (i+1) r
  ·obtain⟨j,a1,a3,bI⟩:=yH.1 c
   have aI:j≠i+1:=fun z=>by subst z;exact dj a3
   rw [if_pos c,if_pos (yH.2 ⟨j,by omega,a3,bI⟩)]
   exact Gu ah fun _ _ q=>q
  ·rw [if_neg c];split
   ·exact AZ
   ·exact Int.le_refl _
 omega
theorem kz.all{F:lj}{L:Int}(ab:1≤L)(h:∀i:Nat,hasB F.S (i:Int)=true→∃R,R≤L∧kz aG F i R):∀i,∃R,R≤L∧kz aG F i R
 |0=>by
  by_cases q:hasB F.S ((0:Nat):Int)=true
  ·exact h 0 q
  ·refine⟨1,ab,Int.le_refl _,?_⟩
   have cb:F.ym aG 1 0=0:=by
    unfold lj.ym
    show(0:Int)+(if hasB F.S ((0:Nat):Int)=true then _ else _)=_
    rw [if_neg q];rfl
   have cq:F.U aG 0=0:=Co 8 fun r _=>if_neg fun c=>by
    obtain⟨j,a1,a3,bI⟩:=yH.1 c
    rw [show j=0 by omega]at a3
    exact q a3
   omega
 |i+1=>by
  by_cases q:hasB F.S ((i+1:Nat):Int)=true
  ·exact h _ q
  ·obtain⟨R,a1,a3⟩:=kz.all ab h i
   exact⟨R,a1,a3.skip q⟩
def yn(aG:List (Nat→Int))(a:BitVec 32):lj:=⟨a,a,fun _=>0,fb aG a⟩
def yo(aG:List (Nat→Int))(a b:BitVec 32)(f:Nat→Int):lj:=⟨bQ a b,bQ a b,fun j=>fA a b f (j:Int),fb aG (bQ a b)⟩
def EB(aG:List (Nat→Int))(a b:BitVec 32):lj:=⟨iM a b,bQ a b,fun _=>0,fb aG (bQ a b)⟩
theorem has_both{a b:BitVec 32}{k:Int}:hasB (bQ a b) k=(hasB a k||hasB b k):=by
  unfold bQ;rw [ow,ow,qU,qU,uB];cases hasB a k<;>cases hasB b k<;>rfl
theorem AH{a b:BitVec 32}{k:Int}:hasB (iM a b) k=hasB b k:=by
  unfold iM;rw [ow,qU,uB];cases hasB a k<;>cases hasB b k<;>rfl
theorem KG{a b:BitVec 32}{f:Nat→Int}{k:Int}(h:hasB a k=true):fA a b f k=0:=by
  unfold fA;rw [qU,h];simp
theorem NP{a b:BitVec 32}(h:∀k:Int,hasB a k=true→hasB b k=true)(r:Nat):fb aG b r≤fb aG a r:=by
 have ab:=Ag aG b r
 show xD aG b r≤xD aG a r
 rcases(Ag aG a r).at_ with q|⟨i,cy,bR,gD⟩
 ·have:=ab.range;omega
 ·rw [gD]
  refine ab.le i cy ?_
  unfold wo at bR⊢
  cases he:aG[i]? with
  |none=>rw [he]at bR;cases bR
  |some e=>
   rw [he]at bR
   simp only [Bool.and_eq_true]at bR
   simp only [Bool.and_eq_true]
   exact⟨h _ bR.1,bR.2⟩
theorem Og{a b:BitVec 32}{f:Nat→Int}{i r:Nat}(h:(yn aG a).cond i r):(yo aG a b f).cond i r:=by
 obtain⟨j,ab,ae,av⟩:=yH.1 h
 refine yH.2 ⟨j,ab,?_,?_⟩
 ·show hasB (bQ a b) _=true
  rw [has_both,show hasB a (j:Int)=true from ae];rfl
 ·exact Int.le_trans (NP (fun k ai=>by rw [has_both,ai];rfl) r) av
theorem kz.narrow(c9:pD aG){a b:BitVec 32}{f:Nat→Int}{i:Nat}{R:Int}(bY:∀j:Nat,hasB (bQ a b) (j:Int)=true→j<aG.length)(h:kz aG (yo aG a b f) i R):kz aG (yn aG a) i R:=by
 refine⟨h.one,Int.le_trans (Int.add_le_add (xw _ fun j aI=>?_) (xw 8 fun r a4=>?_)) h.fix⟩
 ·show(if hasB a (j:Int)=true then dg aG j 2*ol (R-0) (dg aG j 0)else 0)≤(if hasB (bQ a b) (j:Int)=true then dg aG j 2*ol (R-fA a b f (j:Int)) (dg aG j 0)else 0)
  by_cases q:hasB a (j:Int)=true
  ·rw [if_pos q,if_pos (by rw [has_both,q];rfl),KG q];exact Int.le_refl _
  ·rw [if_neg q];split
   ·rename_i bR
    exact Int.mul_nonneg (c9.c6 j) (K6 (by have:=(c9.dg (bY j bR)).1.1;omega))
   ·exact Int.le_refl _
 ·by_cases c:(yn aG a).cond i r
  ·rw [if_pos c,if_pos (Og c)]
   exact Gu (Nat.le_refl _) fun k _ ai=>by show hasB (bQ a b) _=true;rw [has_both,show hasB a (k:Int)=true from ai];rfl
  ·rw [if_neg c];split
   ·exact AZ
   ·exact Int.le_refl _
theorem kj.begin(c9:pD aG){a b:BitVec 32}{f:Nat→Int}(bY:∀j:Nat,hasB (bQ a b) (j:Int)=true→j<aG.length){i:Nat}{s:cf}{bm:Nat→Int}{t:Int}{N e3:Nat→Int}(p:kj aG (yn aG a) i s bm t N e3):kj aG (yo aG a b f) i s bm t N e3:=
  p.wide (fun R h=>h.narrow c9 bY) (fun j _ h=>⟨by show hasB (bQ a b) _=true;rw [has_both,show hasB a (j:Int)=true from h];rfl,KG h⟩) (fun k h=>by show hasB (bQ a b) _=true;rw [has_both,show hasB a (k:Int)=true from h];rfl) fun r h=>Og h
theorem Z5{m:BitVec 32}(h:∀j:Nat,hasB m (j:Int)=true→j<aG.length):ht aG (bb m)=(bb m).map (nL aG):=by
 unfold ht
 have:∀l:List Int,(∀k∈l,∃e,aG[k.toNat]?=some e)→l.filterMap (fun k=>aG[k.toNat]?)=l.map (nL aG):=by
  intro l
  induction l with
  |nil=>intro _;rfl
  |cons k l ih=>
   intro aE
   obtain⟨e,he⟩:=aE k (List.mem_cons_self ..)
   rw [List.filterMap_cons,he,List.map_cons,KD he,ih fun k ai=>aE k (List.mem_cons_of_mem _ ai)]
 refine this _ fun k ai=>?_
 obtain⟨a1,a3,bI⟩:=iV.1 ai
 obtain⟨j,rfl⟩:=Int.eq_ofNat_of_zero_le a1
 rw [Int.toNat_natCast]
 exact⟨_,List.getElem?_eq_getElem (h j bI)⟩
theorem WA{S:BitVec 32}{z:Int}{j:Nat}(h:hasB (lS S z) (j:Int)=true):hasB S (j:Int)=true:=by
  rw [Cf _ _ _ (rO h)]at h
  simp only [Bool.and_eq_true]at h
  exact h.1
theorem Oh(c9:pD aG){F:lj}{i:Nat}(aq:F.o=fun _=>0)(af:i<aG.length)(dj:hasB F.S (i:Int)=true)(bY:∀j:Nat,hasB F.S (j:Int)=true→j<aG.length)(h:(k9 aG F.S F.H F.t (i:Int)).2=true):kz aG F i ((k9 aG F.S F.H F.t (i:Int)).1 2)∧(k9 aG F.S F.H F.t (i:Int)).1 2≤dg aG i 1:=by
  have e:Dz aG (i:Int)=some (dg aG i):=by unfold Dz;rw [if_neg (by omega),Int.toNat_natCast];exact DC af
  unfold k9 at h⊢
  rw [e]at h⊢
  dsimp only at h⊢
  have h:(sX aG F.S F.H F.t (i:Int) (dg aG i)).2=true:=h
  show kz aG F i (sX aG F.S F.H F.t (i:Int) (dg aG i)).1∧(sX aG F.S F.H F.t (i:Int) (dg aG i)).1≤_
  unfold sX Dh at*
  rw [Z5 fun j aI=>bY j (WA aI),List.map_map]at h⊢
  have aE:=Prod.ext (x:=nu _ _ _) (y:=(_,true)) rfl h
  obtain⟨_,ae,_⟩:=Jb aE
  exact⟨kz.of (o:=fun _=>0) c9 af dj bY (fun j=>by rw [aq]) aE (by rw [aq];have:=(c9.dg af).2.1.2;show _≤_+(0:Int);omega),ae⟩
theorem Pn(c9:pD aG){a:BitVec 32}(bY:∀j:Nat,hasB a (j:Int)=true→j<aG.length)(h:p7 aG a=true){i:Nat}(af:hasB a (i:Int)=true):∃R,R≤dg aG i 1∧kz aG (yn aG a) i R:=by
  unfold p7 at h
  rw [List.all_eq_true]at h
  obtain⟨a1,a3⟩:=Oh (F:=yn aG a) c9 rfl (bY i af) af bY (h _ (iV.2 ⟨by omega,by have:=rO af;omega,af⟩))
  exact⟨_,a3,a1⟩
theorem KH(g:Int→Int):∀(l:List Int) (m:Int),m≤l.foldl (fun m k=>max m (g k)) m∧(∀k∈l,g k≤l.foldl (fun m k=>max m (g k)) m)∧∀M,m≤M→(∀k∈l,g k≤M)→l.foldl (fun m k=>max m (g k)) m≤M
 |[],m=>⟨Int.le_refl _,fun e he=>absurd he List.not_mem_nil,fun M h _=>h⟩
 |a::l,m=>by
  obtain⟨ab,ae,av⟩:=KH g l (max m (g a))
  rw [List.foldl_cons]
  refine⟨by omega,fun e he=>?_,fun M hm aE=>av M (by have:=aE a (List.mem_cons_self ..);omega) fun e he=>aE e (List.mem_cons_of_mem _ he)⟩
  rcases List.mem_cons.1 he with rfl|he
  ·omega
  ·exact ae e he
structure Dj(aG:List (Nat→Int))(a b:BitVec 32)(f:Nat→Int)(vl set:Int):Prop where
  zS:∀i:Nat,hasB (bQ a b) (i:Int)=true→∃R,R≤dg aG i 1+fA a b f (i:Int)∧R≤set∧kz aG (yo aG a b f) i R
  zT:∀i:Nat,hasB (iM a b) (i:Int)=true→∃R,R≤dg aG i 1∧R≤set∧kz aG (EB aG a b) i R
  off:∀i:Nat,hasB (bQ a b) (i:Int)=true→fA a b f (i:Int)≤vl
  le:set≤vl
  nS:0≤set
  bA:vl≤65536
  nil:(∀j:Nat,hasB (bQ a b) (j:Int)≠true)→vl=0
theorem Z6(c9:pD aG){cA:Int}{a b:BitVec 32}{f:Nat→Int}(dj:tQ aG cA a b f)(h:(r2 aG a b f).2=true):Dj aG a b f (r2 aG a b f).1.1 (r2 aG a b f).1.2:=by
 have bY:∀j:Nat,hasB (bQ a b) (j:Int)=true→j<aG.length:=fun j aI=>by have:=dj.k _ aI;omega
 unfold r2 at h⊢
 split at h
 ·rename_i lu
  rw [if_pos lu]
  rw [List.all_eq_true]at lu
  have mem:∀i:Nat,hasB (bQ a b) (i:Int)=true→(i:Int)∈bb (bQ a b):=fun i af=>iV.2 ⟨by omega,by have:=rO af;omega,af⟩
  obtain⟨w2,vy,aiV⟩:=KH (fun k=>(gy aG a b f k).1) (bb (bQ a b)) 0
  obtain⟨kF,iQ,E5⟩:=KH (fA a b f) (bb (bQ a b)) 0
  have Fe:∀i:Nat,hasB (bQ a b) (i:Int)=true→(oI aG a b f (i:Int)).2=true∧(oI aG a b f (i:Int)).1≤(gy aG a b f (i:Int)).1∧(hasB (iM a b) (i:Int)=true→(qo aG a b (i:Int)).2=true∧(qo aG a b (i:Int)).1≤(gy aG a b f (i:Int)).1∧(gy aG a b f (i:Int)).1=max (oI aG a b f (i:Int)).1 (qo aG a b (i:Int)).1)∧(¬hasB (iM a b) (i:Int)=true→(gy aG a b f (i:Int)).1=(oI aG a b f (i:Int)).1):=fun i af=>by
   have ab:=lu _ (mem i af)
   unfold gy at ab⊢
   split at ab
   ·rename_i ae
    rw [if_pos ae]
    split at ab
    ·rename_i av
     rw [if_pos av]
     refine⟨ae,by show _≤max _ _;omega,fun _=>⟨by simpa using ab,by show _≤max _ _;omega,rfl⟩,fun q=>absurd av q⟩
    ·rename_i av
     rw [if_neg av]
     exact⟨ae,Int.le_refl _,fun q=>absurd q av,fun _=>rfl⟩
   ·simp at ab
  have zS:∀i:Nat,hasB (bQ a b) (i:Int)=true→kz aG (yo aG a b f) i (oI aG a b f (i:Int)).1∧(oI aG a b f (i:Int)).1≤dg aG i 1+fA a b f (i:Int):=fun i af=>by
   have ab:=(Fe i af).1
   unfold oI at ab⊢
   rw [if_pos af]at ab⊢
   have aE:=Prod.ext (x:=nu _ _ _) (y:=(_,true)) rfl ab
   rw [RF]at aE⊢
   obtain⟨_,ae,_⟩:=Jb aE
   exact⟨kz.of (F:=yo aG a b f) (o:=fA a b f) c9 (bY i af) af bY (fun j=>rfl) aE (by have:=(c9.dg (bY i af)).2.1.2;show _≤_+fA a b f (i:Int);omega),ae⟩
  have zT:∀i:Nat,hasB (iM a b) (i:Int)=true→kz aG (EB aG a b) i (qo aG a b (i:Int)).1∧(qo aG a b (i:Int)).1≤dg aG i 1:=fun i af=>by
   have aR:hasB (bQ a b) (i:Int)=true:=by rw [has_both, ←AH (a:=a) (b:=b),af];simp
   have ab:=((Fe i aR).2.2.1 af).1
   unfold qo at ab⊢
   rw [if_pos af]at ab⊢
   exact Oh (F:=EB aG a b) c9 rfl (bY i aR) af (fun j aI=>bY j (by rw [has_both, ←AH (a:=a) (b:=b),show hasB (iM a b) (j:Int)=true from aI];simp)) ab
  refine⟨fun i af=>⟨_,(zS i af).2,Int.le_trans (Fe i af).2.1 (vy _ (mem i af)),(zS i af).1⟩,fun i af=>?_,fun i af=>?_,?_,w2,?_,fun cN=>?_⟩
  ·have aR:hasB (bQ a b) (i:Int)=true:=by rw [has_both, ←AH (a:=a) (b:=b),af];simp
   exact⟨_,(zT i af).2,Int.le_trans ((Fe i aR).2.2.1 af).2.1 (vy _ (mem i aR)),(zT i af).1⟩
  ·have:=iQ _ (mem i af)
   show _≤max _ (gn _ _)
   unfold gn;omega
  ·show gn _ _≤max _ _;omega
  ·have cy:gn (fun k=>(gy aG a b f k).1) (bb (bQ a b))≤65536:=aiV _ ah fun k ai=>by
    obtain⟨a1,a3,bI⟩:=iV.1 ai
    obtain⟨j,rfl⟩:=Int.eq_ofNat_of_zero_le a1
    have ab:=(zS j bI).2
    have ae:=J1 dj (j:Int)
    have av:=(c9.dg (bY j bI))
    have aV:=Fe j bI
    show(gy aG a b f (j:Int)).1≤_
    by_cases q:hasB (iM a b) (j:Int)=true
    ·rw [(aV.2.2.1 q).2.2];have:=(zT j q).2;omega
    ·rw [aV.2.2.2 q];omega
   have bR:gn (fA a b f) (bb (bQ a b))≤65536:=E5 _ ah fun k _=>by have:=J1 dj k;omega
   show max _ _≤_;omega
  ·have aS:bb (bQ a b)=[]:=List.eq_nil_iff_forall_not_mem.2 fun x al=>by
    obtain⟨a1,a3,bI⟩:=iV.1 al
    obtain⟨k,rfl⟩:=Int.eq_ofNat_of_zero_le a1
    exact cN k bI
   show max (gn _ (bb (bQ a b))) (gn _ (bb (bQ a b)))=0
   rw [aS];rfl
 ·cases h
end
end
abbrev ef:=List (Int×Int)
def tS(id:Int):ef→ef
  |[]=>[]
  | x :: l => if x.1 = id then (match l with
    |[]=>[]
    |y::l=>(y.1,y.2+x.2)::l)else x::tS id l
def hT(id t:Int):ef→ef
  |[]=>[(id,t)]
  |x::l=>if x.2≤t then x::hT id (t-x.2) l else(id,t)::(x.1,x.2-t)::l
def zp(id:Int)(l:ef):Bool:=l.any fun x=>decide (x.1=id)
def K7(id t:Int)(l:ef):Bool:=decide (1≤t∧t≤65536)&&(zp id l||decide (l.length<64))
def sf(id t:Int)(l:ef):ef:=if K7 id t l=true then hT id t (tS id l)else l
def nF:ef→List Int×ef
  |[]=>([],[])
  |x::l=>if x.2=0 then(x.1::(nF l).1,(nF l).2)else([],x::l)
def eh:ef→List Int×ef
  |[]=>([],[])
  |x::l=>nF ((x.1,x.2-1)::l)
structure cw where
  mode:Int
  aT:Int
  phase:Int
  since:Int
  now:Int
  held:Int
  op:BitVec 32
  a0:ef
abbrev bk(c:ck)(i:Int):Nat→Int:=(c.bd[i.toNat]?).getD fun _=>0
abbrev eN(c:ck)(i:Int):Int×Int:=(iI c (bk c i)).1
def l2(e:cw):cw:={e with phase:=0,aT:= -1,op:=0#32}
def ji(c:ck)(mv:cw→cw)(e:cw):cw:=
  if 0<(eN c e.aT).2 then {e with mode:=bk c e.aT 1,phase:=4,a0:=sf 17 (eN c e.aT).2 e.a0}else mv {e with mode:=bk c e.aT 1,phase:=4}
def pQ(c:ck)(e:cw)(vl:Int):cw:=if vl<1 then ji c l2 e else {e with a0:=sf 16 vl e.a0}
def mN(d:Nat→Int)(e:cw)(i:Int):cw:=if i≥16∨d (3+i.toNat)<1 then {e with op:=e.op|||dL i}else {e with a0:=sf i (d (3+i.toNat)) e.a0}
abbrev kf(c:ck)(d:Nat→Int):BitVec 32:=b6 c (d 1)&&&~~~(b6 c (d 0))
def wT(c:ck)(e:cw):cw:=(bb (kf c (bk c e.aT))).foldl (mN (bk c e.aT)) e
def lG(c:ck)(bB:BitVec 32)(e:cw)(i:Int):cw:=
  if bk c i 2=1 then(if bB=0#32 then ji c l2 {e with aT:=i,since:=e.now,op:=0#32,phase:=1}else {e with aT:=i,since:=e.now,op:=0#32,phase:=1})
  else pQ c (if bk c i 2=3 then wT c {e with aT:=i,since:=e.now,op:=0#32,phase:=3}else if bk c i 2=2 then {e with aT:=i,since:=e.now,op:=0#32,phase:=2}else {e with aT:=i,since:=e.now,op:=0#32}) (eN c i).1
def jM(c:ck)(bB:BitVec 32)(e:cw):cw:=
  if e.held<0 then l2 e
  else if(jc c.bd e.mode e.held).2=true then lG c bB {l2 e with held:= -1} (jc c.bd e.mode e.held).1 else {l2 e with held:= -1}
def iN(c:ck)(bB:BitVec 32)(e:cw)(id:Int):cw:=if id=16 then ji c (jM c bB) e else if id=17 then jM c bB e else {e with op:=e.op|||dL id}
def iJ(c:ck)(bB:BitVec 32)(e:cw):cw:=(eh e.a0).1.foldl (iN c bB) {e with now:=e.now+1,a0:=(eh e.a0).2}
def gz(c:ck)(bB:BitVec 32)(e:cw):cw:=if(iJ c bB e).phase=1∧bB=0#32 then ji c (jM c bB) (iJ c bB e)else iJ c bB e
def s6(c:ck)(e:cw):Int:=if e.aT<0 then e.mode else bk c e.aT 1
def oK(c:ck)(e:cw)(m:Int):Int:=if m<0∨(c.a9.length:Int)≤m then 101 else if 0≤e.held then 300 else if(jc c.bd (s6 c e) m).2=true then 0 else 301
def hH(c:ck)(bB:BitVec 32)(e:cw)(m:Int):cw:=if oK c e m=0 then(if e.phase=0 then lG c bB e (jc c.bd (s6 c e) m).1 else {e with held:=m})else e
def je(c:ck)(e:cw):BitVec 32:=if e.phase=3 then bQ (b6 c (bk c e.aT 0)) (b6 c (bk c e.aT 1))else b6 c e.mode
def sg(c:ck)(e:cw):BitVec 32:=if e.phase=2 then 0#32 else if e.phase=3 then((b6 c (bk c e.aT 0)&&&b6 c (bk c e.aT 1))|||e.op)else b6 c e.mode
def eu(a:Int):ef→ef
  |[]=>[]
  |x::l=>(x.1,a+x.2)::eu (a+x.2) l
theorem GW:∀(l:ef) (a:Int),(eu a l).map Prod.fst=l.map Prod.fst
  |[],_=>rfl
  |x::l,a=>by rw [eu,List.map_cons,List.map_cons,GW l]
theorem Gv{id:Int}:∀(l:ef) (a t:Int) (p:Int×Int),p∈eu a (hT id t l)↔p=(id,a+t)∨p∈eu a l
  |[],a,t,p=>by simp [hT,eu]
  |x::l,a,t,p=>by
    rw [hT]
    split
    · rw [eu,eu,List.mem_cons,List.mem_cons,Gv l,show a+x.2+(t-x.2)=a+t by omega]
      constructor
      · rintro(h|h|h)
        · exact .inr (.inl h)
        · exact .inl h
        · exact .inr (.inr h)
      · rintro(h|h|h)
        · exact .inr (.inl h)
        · exact .inl h
        · exact .inr (.inr h)
    · rw [eu,eu,eu,List.mem_cons,List.mem_cons,List.mem_cons,show a+t+(x.2-t)=a+x.2 by omega]
theorem CF{id:Int}:∀(l:ef) (t x:Int),x∈(hT id t l).map Prod.fst↔x=id∨x∈l.map Prod.fst
  |[],t,x=>by simp [hT]
  |y::l,t,x=>by
    rw [hT]
    split
    · rw [List.map_cons,List.mem_cons,CF l,List.map_cons,List.mem_cons]
      constructor
      · rintro(h|h|h)
        · exact .inr (.inl h)
        · exact .inl h
        · exact .inr (.inr h)
      · rintro(h|h|h)
        · exact .inr (.inl h)
        · exact .inl h
        · exact .inr (.inr h)
    · simp
theorem IV{id:Int}:∀(l:ef) (t:Int),id∉l.map Prod.fst→(l.map Prod.fst).Nodup→((hT id t l).map Prod.fst).Nodup
  |[],t,_,_=>by simp [hT]
  |y::l,t,h,aP=>by
    rw [List.map_cons,List.mem_cons]at h
    rw [List.map_cons,List.nodup_cons]at aP
    rw [hT]
    split
    · rw [List.map_cons,List.nodup_cons,CF]
      exact⟨fun c=>c.elim (fun c=>h (.inl c.symm)) aP.1,IV l _ (fun c=>h (.inr c)) aP.2⟩
    · rw [List.map_cons,List.nodup_cons,List.map_cons,List.nodup_cons,List.mem_cons]
      exact⟨h,aP⟩
theorem J5{id:Int}:∀(l:ef),id∉l.map Prod.fst→tS id l=l
  |[],_=>rfl
  |y::l,h=>by
    rw [List.map_cons,List.mem_cons]at h
    have e:tS id (y::l)=if y.1=id then _ else y::tS id l:=tS.eq_def id (y::l)
    rw [e,if_neg (fun c=>h (.inl c.symm)),J5 l (fun c=>h (.inr c))]
theorem Jy{id:Int}:∀(l:ef) (t:Int),(hT id t l).length=l.length+1
  |[],t=>rfl
  |y::l,t=>by
    rw [hT];split
    · rw [List.length_cons,Jy l,List.length_cons]
    · rfl
theorem yI{id t:Int}{l:ef}(h:id∉l.map Prod.fst)(aL:1≤t∧t≤65536)(aE:l.length<64):sf id t l=hT id t l:=by
  unfold sf K7
  rw [if_pos (by rw [decide_eq_true aL,decide_eq_true aE];simp),J5 l h]
def nc(l:ef):Prop:=∀x∈l,0≤x.2
theorem Jz{id:Int}:∀(l:ef) (t:Int),0≤t→nc l→nc (hT id t l)
  |[],t,aL,_=>fun x al=>by rw [hT,List.mem_singleton]at al;subst al;exact aL
  |y::l,t,aL,h=>by
    have aZ:=h y (List.mem_cons_self ..)
    have aE:nc l:=fun x al=>h x (List.mem_cons_of_mem _ al)
    rw [hT]
    split
    · intro x al
      rcases List.mem_cons.1 al with rfl|al
      · exact aZ
      · exact Jz l _ (by omega) aE x al
    · intro x al
      rcases List.mem_cons.1 al with rfl|al
      · exact aL
      · rcases List.mem_cons.1 al with rfl|al
        · show 0≤y.2-t;omega
        · exact aE x al
theorem Ha:∀(l:ef) (a:Int),nc l→∀p∈eu a l,a≤p.2
  |[],a,_,p,aC=>absurd aC List.not_mem_nil
  |x::l,a,h,p,aC=>by
    have al:=h x (List.mem_cons_self ..)
    rw [eu,List.mem_cons]at aC
    rcases aC with rfl|aC
    · show a≤a+x.2;omega
    · have:=Ha l (a+x.2) (fun y aZ=>h y (List.mem_cons_of_mem _ aZ)) p aC;omega
theorem Oi:∀(l:ef),nc l→nc (nF l).2∧l.map Prod.fst=(nF l).1++(nF l).2.map Prod.fst∧∀p,p∈eu 0 l↔(p.1∈(nF l).1∧p.2=0)∨(p∈eu 0 (nF l).2∧1≤p.2)
 |[],_=>⟨fun x al=>absurd al List.not_mem_nil,rfl,fun p=>by simp [nF,eu]⟩
 |x::l,h=>by
  have al:=h x (List.mem_cons_self ..)
  have aE:nc l:=fun y aZ=>h y (List.mem_cons_of_mem _ aZ)
  rw [nF]
  split
  ·rename_i b5
   obtain⟨ab,ae,av⟩:=Oi l aE
   refine⟨ab,by rw [List.map_cons,ae];rfl,fun p=>?_⟩
   rw [eu,List.mem_cons,show(0:Int)+x.2=0 by omega,av,List.mem_cons]
   constructor
   ·rintro(rfl|⟨cy,bR⟩|q)
    ·exact .inl ⟨.inl rfl,rfl⟩
    ·exact .inl ⟨.inr cy,bR⟩
    ·exact .inr q
   ·rintro(⟨cy|cy,bR⟩|q)
    ·exact .inl (Prod.ext cy bR)
    ·exact .inr (.inl ⟨cy,bR⟩)
    ·exact .inr (.inr q)
  ·rename_i b5
   refine⟨h,rfl,fun p=>?_⟩
   constructor
   ·intro aC
    refine .inr ⟨aC,?_⟩
    rw [eu,List.mem_cons]at aC
    rcases aC with rfl|aC
    ·show 1≤(0:Int)+x.2;omega
    ·have:=Ha l _ aE p aC;omega
   ·rintro(⟨q,_⟩|⟨q,_⟩)
    ·exact absurd q List.not_mem_nil
    ·exact q
theorem Po:∀(l:ef) (a:Int) (p:Int×Int),p∈eu (a-1) l↔(p.1,p.2+1)∈eu a l
  |[],a,p=>by simp [eu]
  |x::l,a,p=>by
    rw [eu,eu,List.mem_cons,List.mem_cons,show a-1+x.2=a+x.2-1 by omega,Po l]
    constructor
    · rintro(rfl|h)
      · exact .inl (by simp)
      · exact .inr h
    · rintro(h|h)
      · obtain⟨mX,fE⟩:=p
        simp only [Prod.mk.injEq]at h
        exact .inl (Prod.ext h.1 (by show fE=_;omega))
      · exact .inr h
theorem FT{l:ef}(h:nc l)(ab:∀p∈eu 0 l,1≤p.2):nc (eh l).2∧l.map Prod.fst=(eh l).1++(eh l).2.map Prod.fst∧(∀p∈eu 0 (eh l).2,1≤p.2)∧∀p:Int×Int,(p.1,p.2+1)∈eu 0 l↔(p.1∈(eh l).1∧p.2=0)∨(p∈eu 0 (eh l).2∧1≤p.2):=by
 cases l with
 |nil=>exact⟨fun x al=>absurd al List.not_mem_nil,rfl,fun p aC=>absurd aC List.not_mem_nil,fun p=>by simp [eh,eu]⟩
 |cons x l=>
  have al:=ab (x.1,0+x.2) (List.mem_cons_self ..)
  have al:1≤0+x.2:=al
  have aE:nc ((x.1,x.2-1)::l):=fun y aZ=>by
   rcases List.mem_cons.1 aZ with rfl|aZ
   ·show 0≤x.2-1;omega
   ·exact h y (List.mem_cons_of_mem _ aZ)
  obtain⟨a1,a3,bI⟩:=Oi _ aE
  have e:∀p:Int×Int,p∈eu 0 ((x.1,x.2-1)::l)↔(p.1,p.2+1)∈eu 0 (x::l):=fun p=>by
   rw [eu,eu,List.mem_cons,List.mem_cons,show(0:Int)+(x.2-1)=0+x.2-1 by omega,Po l]
   refine or_congr ?_ Iff.rfl
   obtain⟨mX,fE⟩:=p
   simp only [Prod.mk.injEq]
   constructor
   ·rintro⟨a,b⟩;exact⟨a,by omega⟩
   ·rintro⟨a,b⟩;exact⟨a,by omega⟩
  refine⟨a1,a3,fun p aC=>?_,fun p=>(e p).symm.trans (bI p)⟩
  show 1≤p.2
  rcases(show 1≤p.2∨p.2≤0 by omega)with q|q
  ·exact q
  ·have ae:=Ha _ 0 a1 p aC
   have:∀(l:ef),nc l→∀p∈eu 0 (nF l).2,1≤p.2:=by
    intro l
    induction l with
    |nil=>intro _ p aC;exact absurd aC List.not_mem_nil
    |cons y l ih=>
     intro a5 p aC
     rw [nF]at aC
     split at aC
     ·exact ih (fun z aS=>a5 z (List.mem_cons_of_mem _ aS)) p aC
     ·rename_i b5
      have aZ:=a5 y (List.mem_cons_self ..)
      rw [eu,List.mem_cons]at aC
      rcases aC with rfl|aC
      ·show 1≤(0:Int)+y.2;omega
      ·have:=Ha l _ (fun z aS=>a5 z (List.mem_cons_of_mem _ aS)) p aC;omega
   exact this _ aE p aC
section
structure hU(c:ck):Prop where
  T:pD c.aw
  m:∀(i:Int) (j:Nat),hasB (b6 c i) (j:Int)=true→j<c.aw.length
  kE:∀i:Int,p7 c.aw (b6 c i)=true
  e:∀(i:Nat) (d:Nat→Int),c.bd[i]?=some d→(0≤d 0∧d 0<c.a9.length∧0≤d 1∧d 1<c.a9.length)∧(1≤d 2∧d 2≤3)∧(iI c d).2=true∧tQ c.aw c.cA (b6 c (d 0)) (b6 c (d 1)) (fun r=>d (3+r))
theorem vF(k:Int):hasB 0#32 k=false:=by unfold hasB;split<;>simp
theorem aet{c:ck}(h:kx c=0):hU c:=by
 have ai:=yW (CB h)
 unfold kx at h
 rw [if_pos (CB h)]at h
 split at h
 ·rename_i ab
  split at h
  ·rename_i ae
   rw [List.all_eq_true]at ab ae
   refine⟨⟨ai.t.2,fun e he=>?_⟩,fun i j aI=>?_,fun i=>?_,fun i d aJ=>?_⟩
   ·obtain⟨⟨a1,a3,bI,cv,eX,fJ⟩,mY⟩:=ai.aG e he
    exact⟨⟨a1,a3⟩,⟨bI,cv⟩,⟨eX,fJ⟩,fun r a4=>⟨(mY r a4).1,(mY r a4).2.1⟩⟩
   ·unfold b6 at aI
    split at aI
    ·rw [vF]at aI;cases aI
    ·split at aI
     ·rename_i p aC
      have av:=(ai.dX p (List.mem_of_getElem? aC)).1
      have aV:=qU p.1 (allM c.aw.length) (j:Int)
      rw [av,vF,aI,Bool.true_and]at aV
      have:=Jt (k:=(j:Int)) c.aw.length (by simpa using aV.symm)
      omega
     ·rw [vF]at aI;cases aI
   ·have b5:p7 c.aw 0#32=true:=by unfold p7;rw [I5];rfl
    unfold b6
    split
    ·exact b5
    ·split
     ·rename_i p aC;exact ab p (List.mem_of_getElem? aC)
     ·exact b5
   ·have av:=ai.es i d aJ
    unfold mI at av
    simp only [Bool.and_eq_true,decide_eq_true_eq]at av
    obtain⟨⟨⟨aV,_⟩,_⟩,_⟩:=av
    exact⟨⟨aV.1,aV.2.1,aV.2.2.1,aV.2.2.2.1⟩,aV.2.2.2.2.2,ae d (List.mem_of_getElem? aJ),ai.VH (List.mem_of_getElem? aJ)⟩
  ·cases h
 ·cases h
section
variable{c:ck}{e:cw}{s:cf}{bm:Nat→Int}{A:Nat→Prop}
structure hb(c:ck)(i:Int):Prop where
  ec:0≤i
  at_:c.bd[i.toNat]?=some (bk c i)
theorem hb.of{i:Nat}{d:Nat→Int}(h:c.bd[i]?=some d):hb c (i:Int)∧bk c (i:Int)=d:=by
  have e:bk c (i:Int)=d:=by show(c.bd[(i:Int).toNat]?).getD _=_;rw [Int.toNat_natCast,h];rfl
  exact⟨⟨by omega,by rw [e,Int.toNat_natCast];exact h⟩,e⟩
theorem F7{l:List (Nat→Int)}{a b:Int}(h:(jc l a b).2=true):∃(i:Nat) (d:Nat→Int),(jc l a b).1=(i:Int)∧l[i]?=some d∧d 0=a∧d 1=b:=by
  unfold jc at h⊢
  cases bs:l.findIdx? (fun e=>decide (e 0=a)&&decide (e 1=b))with
  |none=>rw [bs]at h;cases h
  |some i=>
    obtain⟨ab,ae,_⟩:=List.findIdx?_eq_some_iff_getElem.1 bs
    simp only [Bool.and_eq_true,decide_eq_true_eq]at ae
    exact⟨i,l[i],rfl,List.getElem?_eq_getElem ab,ae.1,ae.2⟩
abbrev kZ(c:ck)(i:Int):Nat→Int:=fun r=>bk c i (3+r)
abbrev iS(c:ck)(i:Int):BitVec 32:=b6 c (bk c i 0)
abbrev iT(c:ck)(i:Int):BitVec 32:=b6 c (bk c i 1)
theorem hU.e1(h:hU c){a b:Int}:∀j:Nat,hasB (bQ (b6 c a) (b6 c b)) (j:Int)=true→j<c.aw.length:=fun j aI=>by
  rw [has_both,Bool.or_eq_true]at aI
  exact aI.elim (h.m _ j) (h.m _ j)
theorem hU.EC(h:hU c){i:Int}(aC:bk c i 2=1∨bk c i 2=2):(eN c i).2=0:=by
  unfold eN iI
  rcases aC with q|q
  · rw [if_pos q]
  · rw [if_neg (by omega),if_pos q]
theorem hU.wU(h:hU c){i:Int}(af:hb c i)(aC:bk c i 2=3):Dj c.aw (iS c i) (iT c i) (kZ c i) (eN c i).1 (eN c i).2:=by
  obtain⟨_,_,av,aV⟩:=h.e _ _ af.at_
  have e:iI c (bk c i)=r2 c.aw (iS c i) (iT c i) (kZ c i):=by unfold iI;rw [if_neg (by omega),if_neg (by omega),if_pos aC]
  show Dj _ _ _ _ (iI c (bk c i)).1.1 (iI c (bk c i)).1.2
  rw [e]at av⊢
  exact Z6 h.T aV av
theorem RG:∀(l:List (Nat→Int)) (m:Int),m≤l.foldl (fun m e=>max m (e 0)) m∧∀e∈l,e 0≤l.foldl (fun m e=>max m (e 0)) m
 |[],m=>⟨Int.le_refl _,fun e he=>absurd he List.not_mem_nil⟩
 |a::l,m=>by
  obtain⟨ab,ae⟩:=RG l (max m (a 0))
  rw [List.foldl_cons]
  refine⟨by omega,fun e he=>?_⟩
  rcases List.mem_cons.1 he with rfl|he
  ·omega
  ·exact ae e he
theorem hU.U2(h:hU c){i:Int}(aC:bk c i 2=2){j:Nat}(aI:hasB (iS c i) (j:Int)=true):dg c.aw j 0≤(eN c i).1:=by
  have aR:hasB (bQ (iS c i) (iT c i)) (j:Int)=true:=by rw [has_both,aI];rfl
  have e:(eN c i).1=AY c.aw (bQ (iS c i) (iT c i)):=by
    show(iI c (bk c i)).1.1=_
    unfold iI;rw [if_neg (by omega),if_pos aC]
  rw [e]
  exact(RG _ 0).2 _ (CW.2 ⟨j,rO aR,aR,DC (h.e1 j aR)⟩)
def s7(c:ck)(M:BitVec 32)(i:Nat)(s:cf)(bm:Nat→Int):Prop:=∃b N e3,kj c.aw (yn c.aw M) i s bm b N e3
def u5(c:ck)(k:Int)(i:Nat)(s:cf)(bm:Nat→Int)(m:Int):Prop:=∃b N e3,b≤m∧kj c.aw (yo c.aw (iS c k) (iT c k) (kZ c k)) i s bm b N e3
def pE(c:ck)(k:Int)(i:Nat)(s:cf)(bm:Nat→Int)(m:Int):Prop:=∃b N e3,b≤m∧kj c.aw (EB c.aw (iS c k) (iT c k)) i s bm b N e3
structure mV(c:ck)(M:BitVec 32)(s:cf)(bm:Nat→Int):Prop where
  bB:∀k:Nat,s.L k→hasB M (k:Int)=true
  p:∀i,i<16→s7 c M i s bm
inductive nM(c:ck)(e:cw)(s:cf)(bm:Nat→Int):Prop
  |steady (eU:e.phase=0) (eI:e.aT<0) (a0:e.a0=[]) (he:e.held<0) (p:mV c (b6 c e.mode) s bm)
  |waiting (eU:e.phase=1) (eI:hb c e.aT) (hN:bk c e.aT 0=e.mode) (ib:bk c e.aT 2=1) (a0:e.a0=[]) (p:mV c (b6 c e.mode) s bm)
  |po (eU:e.phase=2) (eI:hb c e.aT) (hN:bk c e.aT 0=e.mode) (ib:bk c e.aT 2=2) (k:Int) (a0:e.a0=[(16,k)]) (ai:1≤k) (aj7:s.now+k=e.since+(eN c e.aT).1) (rel:∀j,s.L j→(s.aD j).rel≤e.since) (p:mV c (b6 c e.mode) s bm)
  |oq (eU:e.phase=3) (eI:hb c e.aT) (hN:bk c e.aT 0=e.mode) (ib:bk c e.aT 2=3) (cs:e.since≤s.now) (o4:nc e.a0) (oh:(e.a0.map Prod.fst).Nodup)
      (due:∀p∈eu 0 e.a0,1≤p.2∧((p.1=16∧s.now+p.2=e.since+(eN c e.aT).1)∨(0≤p.1∧p.1<16∧hasB (kf c (bk c e.aT)) p.1=true∧s.now+p.2=e.since+kZ c e.aT p.1.toNat)))
      (has:(16:Int)∈e.a0.map Prod.fst) (op:∀j:Nat,hasB e.op (j:Int)=true→hasB (kf c (bk c e.aT)) (j:Int)=true∧e.since+kZ c e.aT j≤s.now)
      (bB:∀k:Nat,s.L k→hasB (bQ (iS c e.aT) (iT c e.aT)) (k:Int)=true) (p:∀i,i<16→u5 c e.aT i s bm e.since∨pE c e.aT i s bm s.now)
  |ot (eU:e.phase=4) (eI:hb c e.aT) (sA:bk c e.aT 1=e.mode) (ib:bk c e.aT 2=3) (k:Int) (a0:e.a0=[(17,k)]) (ai:1≤k) (cH:1≤(eN c e.aT).2) (bB:∀j:Nat,s.L j→hasB (b6 c e.mode) (j:Int)=true)
      (p:∀i,i<16→pE c e.aT i s bm (s.now+k-(eN c e.aT).2)∨s7 c (b6 c e.mode) i s bm)
theorem mV.none(bY:hU c)(h:Sys c.aw A s)(aE:∀k,¬s.L k)(M:BitVec 32):mV c M s bm:=
  ⟨fun k q=>absurd q (aE k),fun i _=>⟨_,_,_,kj.fresh bY.T h (fun k q=>absurd q (aE k)) fun j _=>aE j⟩⟩
theorem Oj:s.live=0#32↔∀k,¬s.L k:=by
  constructor
  · intro h k q
    have q:hasB s.live (k:Int)=true:=q
    rw [h,vF]at q;cases q
  · intro h
    apply Classical.byContradiction
    intro q
    obtain⟨l,aE⟩:=W4 q
    have:((hR s.live:Nat):Int)∈bb s.live:=by rw [aE];exact List.mem_cons_self ..
    exact h _ (iV.1 this).2.2
theorem Qw{bB:BitVec 32}{i:Int}(ud:True:=trivial):(lG c bB e i).now=e.now∧(lG c bB e i).held=e.held:=by
  have agm:∀(l:List Int) (d:Nat→Int) (e:cw),(l.foldl (mN d) e).now=e.now∧(l.foldl (mN d) e).held=e.held:=by
    intro l d
    induction l with
    |nil=>intro e;exact⟨rfl,rfl⟩
    |cons a l ih=>intro e;rw [List.foldl_cons,(ih _).1,(ih _).2];unfold mN;split<;>exact⟨rfl,rfl⟩
  have Ht:∀e:cw,(ji c l2 e).now=e.now∧(ji c l2 e).held=e.held:=by intro e;unfold ji l2;split<;>exact⟨rfl,rfl⟩
  have TM:∀(e:cw) (l:Int),(pQ c e l).now=e.now∧(pQ c e l).held=e.held:=by
    intro e l;unfold pQ;split
    · exact Ht e
    · exact⟨rfl,rfl⟩
  unfold lG
  split
  · split
    · exact Ht _
    · exact⟨rfl,rfl⟩
  · rw [(TM _ _).1,(TM _ _).2]
    split
    · unfold wT;exact agm _ _ _
    · split<;>exact⟨rfl,rfl⟩
theorem GX{d:Nat→Int}{m:BitVec 32}(bs:∀i,i<16→0≤d (3+i)∧d (3+i)≤16384):∀(l:List Int) (e:cw),(∀i∈l,0≤i∧i<16∧hasB m i=true)→l.Nodup→(∀i∈l,i∉e.a0.map Prod.fst)→nc e.a0→(e.a0.map Prod.fst).Nodup→
  (∀p∈eu 0 e.a0,1≤p.2∧0≤p.1∧p.1<16∧hasB m p.1=true∧p.2=d (3+p.1.toNat))→(∀j:Nat,hasB e.op (j:Int)=true→hasB m (j:Int)=true∧d (3+j)≤0)→e.a0.length+l.length≤60→
  ∃op a0,l.foldl (mN d) e={e with op:=op,a0:=a0}∧nc a0∧(a0.map Prod.fst).Nodup∧(∀p∈eu 0 a0,1≤p.2∧0≤p.1∧p.1<16∧hasB m p.1=true∧p.2=d (3+p.1.toNat))∧(∀j:Nat,hasB op (j:Int)=true→hasB m (j:Int)=true∧d (3+j)≤0)∧a0.length≤60∧∀z∈a0.map Prod.fst,z∈e.a0.map Prod.fst∨z∈l
 |[],e,_,_,_,ab,ae,av,aV,bN=>⟨e.op,e.a0,rfl,ab,ae,av,aV,by simpa using bN,fun z aS=> .inl aS⟩
 |i::l,e,aE,aP,al,ab,ae,av,aV,bN=>by
  obtain⟨a1,a3,bI⟩:=aE i (List.mem_cons_self ..)
  obtain⟨k,rfl⟩:=Int.eq_ofNat_of_zero_le a1
  have ai:=bs k ah
  rw [List.nodup_cons]at aP
  rw [List.length_cons]at bN
  rw [List.foldl_cons]
  have a5:∀j∈l,0≤j∧j<16∧hasB m j=true:=fun j aI=>aE j (List.mem_cons_of_mem _ aI)
  by_cases q:d (3+k)<1
  ·rw [show mN d e (k:Int)={e with op:=e.op|||dL (k:Int)}by unfold mN;rw [if_pos (.inr (by rw [Int.toNat_natCast];exact q))]]
   obtain⟨op,a0,uo,tg,Ac,w7,B6,B7,Ff⟩:=GX bs l {e with op:=e.op|||dL (k:Int)} a5 aP.2 (fun j aI=>al j (List.mem_cons_of_mem _ aI)) ab ae av (fun j aI=>by
    have aI:hasB (e.op|||dL (k:Int)) (j:Int)=true:=aI
    rw [ow,pW,Bool.or_eq_true,decide_eq_true_eq]at aI
    rcases aI with aI|aI
    ·exact aV j aI
    ·have:j=k:=by omega
     subst this;exact⟨bI,by omega⟩) (by show e.a0.length+l.length≤60;omega)
   exact⟨op,a0,uo,tg,Ac,w7,B6,B7,fun z aS=>(Ff z aS).imp_right (List.mem_cons_of_mem _)⟩
  ·have gA:(k:Int)∉e.a0.map Prod.fst:=al _ (List.mem_cons_self ..)
   have aJ:sf (k:Int) (d (3+k)) e.a0=hT (k:Int) (d (3+k)) e.a0:=yI gA ⟨by omega,by omega⟩ ah
   rw [show mN d e (k:Int)={e with a0:=hT (k:Int) (d (3+k)) e.a0}by
    unfold mN;rw [if_neg (by rw [Int.toNat_natCast];omega),Int.toNat_natCast,aJ]]
   obtain⟨op,a0,uo,tg,Ac,w7,B6,B7,Ff⟩:=GX bs l {e with a0:=hT (k:Int) (d (3+k)) e.a0} a5 aP.2 (fun j aI=>by
    show j∉(hT _ _ _).map Prod.fst
    rw [CF]
    rintro(c|c)
    ·subst c;exact aP.1 aI
    ·exact al j (List.mem_cons_of_mem _ aI) c) (Jz _ _ ah ab) (IV _ _ gA ae) (fun p aC=>by
    rcases(Gv _ _ _ _).1 aC with rfl|aC
    ·exact⟨by show 1≤0+d (3+k);omega,a1,a3,bI,by show 0+d (3+k)=d (3+(k:Int).toNat);rw [Int.toNat_natCast];omega⟩
    ·exact av p aC) aV (by show(hT _ _ _).length+l.length≤60;rw [Jy];omega)
   refine⟨op,a0,uo,tg,Ac,w7,B6,B7,fun z aS=>?_⟩
   rcases Ff z aS with q|q
   ·rcases(CF _ _ _).1 q with q|q
    ·subst q;exact .inr (List.mem_cons_self ..)
    ·exact .inl q
   ·exact .inr (List.mem_cons_of_mem _ q)
theorem IM(m:BitVec 32)(n:Nat):(lV m n).Nodup:=by
  unfold lV
  exact List.Pairwise.map _ (fun a b (h:a≠b) (q:(a:Int)=(b:Int))=>h (by omega)) (List.nodup_range.filter _)
theorem Dj.none{aG:List (Nat→Int)}{a b:BitVec 32}{f:Nat→Int}{l t:Int}(h:Dj aG a b f l t)(aL:t<1):∀j:Nat,hasB (bQ a b) (j:Int)≠true:=fun j aI=>by
  obtain⟨R,_,ae,av⟩:=h.zS j aI
  have:=av.one;omega
theorem Qx(bY:hU c)(h:Sys c.aw A s)(aP:e.now=s.now)(a0:e.a0=[])(he:e.held<0){i:Int}(af:hb c i)(bs:bk c i 0=e.mode)(p:mV c (b6 c e.mode) s bm):nM c (lG c s.live e i) s bm:=by
 obtain⟨⟨cb,cq,fP,sx⟩,⟨yz,B1⟩,IC,BV⟩:=bY.e _ _ af.at_
 have sy:iS c i=b6 c e.mode:=by show b6 c (bk c i 0)=_;rw [bs]
 have now:∀og:cw,og.aT=i→og.a0=[]→og.held<0→(eN c i).2<1→(∀k,¬s.L k)→nM c (ji c l2 og) s bm:=fun og cy bR gD nl VJ=>by
  unfold ji
  rw [cy,if_neg ah]
  exact .steady rfl (by show(-1:Int)<0;omega) bR gD (mV.none bY h VJ _)
 unfold lG
 by_cases ab:bk c i 2=1
 ·rw [if_pos ab]
  have aH:=bY.EC (i:=i) (.inl ab)
  split
  ·rename_i b5
   exact now _ rfl a0 he ah (Oj.1 b5)
  ·exact .waiting rfl af bs ab a0 p
 ·rw [if_neg ab]
  by_cases av:bk c i 2=3
  ·rw [if_pos av]
   have sp:=bY.wU af av
   have U3:=sp.le
   have xP:∀j:Int,hasB (kf c (bk c i)) j=true→hasB (bQ (iS c i) (iT c i)) j=true:=fun j aI=>vM aI
   unfold pQ
   split
   ·rename_i aE
    have cN:=sp.none ah
    have aS:bb (kf c (bk c i))=[]:=by
     refine List.eq_nil_iff_forall_not_mem.2 fun x al=>?_
     obtain⟨a1,a3,bI⟩:=iV.1 al
     obtain⟨k,rfl⟩:=Int.eq_ofNat_of_zero_le a1
     exact cN k (xP _ bI)
    have H9:∀og:cw,og.aT=i→wT c og=og:=fun og q=>by unfold wT;rw [q,aS];rfl
    rw [H9 _ rfl]
    refine now _ rfl a0 he ah fun k q=>cN k ?_
    rw [has_both,sy,p.bB k q];rfl
   ·rename_i aE
    obtain⟨op,BJ,uo,tg,Ac,w7,B6,B7,_⟩:=GX (m:=kf c (bk c i)) (d:=bk c i) (fun j aI=>BV.f j aI) (bb (kf c (bk c i))) {e with aT:=i,since:=e.now,op:=0#32,phase:=3}
     (fun x al=>by
      obtain⟨a1,a3,bI⟩:=iV.1 al
      obtain⟨k,rfl⟩:=Int.eq_ofNat_of_zero_le a1
      have:=bY.e1 k (xP _ bI)
      have:=bY.T.n
      exact⟨a1,by omega,bI⟩) (IM _ _) (fun x _ q=>by
      have q:x∈e.a0.map Prod.fst:=q
      rw [a0]at q;exact absurd q List.not_mem_nil) (fun x al=>by
      have al:x∈e.a0:=al
      rw [a0]at al;exact absurd al List.not_mem_nil) (by show(e.a0.map Prod.fst).Nodup;rw [a0];exact List.nodup_nil) (fun x al=>by
      have al:x∈eu 0 e.a0:=al
      rw [a0]at al;exact absurd al List.not_mem_nil) (fun j aI=>by
      have aI:hasB 0#32 (j:Int)=true:=aI
      rw [vF]at aI;cases aI) (by show e.a0.length+_≤60;rw [a0];have:=xo (kf c (bk c i));show 0+_≤60;omega)
    have eH:wT c {e with aT:=i,since:=e.now,op:=0#32,phase:=3}={e with aT:=i,since:=e.now,op:=op,phase:=3,a0:=BJ}:=uo
    rw [eH]
    have mT:(16:Int)∉BJ.map Prod.fst:=fun q=>by
     rw [←GW BJ 0,List.mem_map]at q
     obtain⟨x,al,Bn⟩:=q
     have:=w7 x al;omega
    have aJ:sf 16 (eN c i).1 BJ=hT 16 (eN c i).1 BJ:=yI mT ⟨by omega,sp.bA⟩ ah
    show nM c {mode:=e.mode,aT:=i,phase:=3,since:=e.now,now:=e.now,held:=e.held,op:=op,a0:=sf 16 (eN c i).1 BJ} s bm
    rw [aJ]
    refine .oq rfl af bs av (by show e.now≤s.now;omega) (Jz _ _ ah tg) (IV _ _ mT Ac) (fun x al=>?_) ((CF _ _ _).2 (.inl rfl)) (fun j aI=>?_) (fun k q=>?_) (fun j aI=>?_)
    ·rcases(Gv _ _ _ _).1 al with rfl|al
     ·exact⟨by show 1≤0+(eN c i).1;omega,.inl ⟨rfl,by show s.now+(0+(eN c i).1)=e.now+(eN c i).1;omega⟩⟩
     ·obtain⟨a1,a3,bI,cv,eX⟩:=w7 x al
      exact⟨a1,.inr ⟨a3,bI,cv,by show s.now+x.2=e.now+bk c i (3+x.1.toNat);omega⟩⟩
    ·obtain⟨a1,a3⟩:=B6 j aI
     exact⟨a1,by show e.now+bk c i (3+j)≤s.now;omega⟩
    ·show hasB (bQ (iS c i) (iT c i)) _=true
     rw [has_both,sy,p.bB k q];rfl
    ·obtain⟨b,N,e3,aC⟩:=p.p j aI
     have hle:=aC.le
     refine .inl ⟨b,N,e3,by show b≤e.now;omega,?_⟩
     rw [←sy]at aC
     exact aC.begin bY.T bY.e1
  ·rw [if_neg av]
   have ae:bk c i 2=2:=by omega
   rw [if_pos ae]
   have aH:=bY.EC (i:=i) (.inr ae)
   unfold pQ
   split
   ·rename_i aE
    refine now _ rfl a0 he ah fun k q=>?_
    have a1:=p.bB k q
    have a3:=bY.U2 ae (j:=k) (by rw [sy];exact a1)
    have bI:=(bY.T.dg (bY.m _ k a1)).1.1
    omega
   ·rename_i aE
    have agn:(eN c i).1≤65536:=by
     have e:(eN c i).1=AY c.aw (bQ (iS c i) (iT c i)):=by
      show(iI c (bk c i)).1.1=_
      unfold iI;rw [if_neg ah,if_pos ae]
     rw [e]
     have:∀(l:List (Nat→Int)) (m:Int),m≤4096→(∀e∈l,e 0≤4096)→l.foldl (fun m e=>max m (e 0)) m≤4096:=by
      intro l
      induction l with
      |nil=>intro m hm _;exact hm
      |cons a l ih=>intro m hm aE;rw [List.foldl_cons];exact ih _ (by have:=aE a (List.mem_cons_self ..);omega) fun e he=>aE e (List.mem_cons_of_mem _ he)
     have:=this (ht c.aw (bb (bQ (iS c i) (iT c i)))) 0 ah fun e he=>by
      obtain⟨k,_,_,ai⟩:=CW.1 he
      exact(bY.T.ok e (List.mem_of_getElem? ai)).1.2
     show List.foldl _ _ _≤_;omega
    show nM c {mode:=e.mode,aT:=i,phase:=2,since:=e.now,now:=e.now,held:=e.held,op:=0#32,a0:=sf 16 (eN c i).1 e.a0} s bm
    rw [a0,show sf 16 (eN c i).1 []=[(16,(eN c i).1)]from yI List.not_mem_nil ⟨by omega,agn⟩ b2]
    exact .po rfl af bs ae (eN c i).1 rfl ah (by show s.now+(eN c i).1=e.now+(eN c i).1;omega) (fun j q=>by obtain⟨_,_,_,_,_,_,g⟩:=h.mL q;show _≤e.now;omega) p
theorem Qy(bY:hU c)(h:Sys c.aw A s)(aP:e.now=s.now)(a0:e.a0=[])(p:mV c (b6 c e.mode) s bm):nM c (jM c s.live e) s bm:=by
  unfold jM
  split
  · rename_i he
    exact .steady rfl (by show(-1:Int)<0;omega) a0 he p
  · split
    · rename_i ab
      obtain⟨i,d,a1,a3,bI,cv⟩:=F7 ab
      obtain⟨eX,fJ⟩:=hb.of a3
      rw [a1]
      exact Qx (e:={l2 e with held:= -1}) bY h aP a0 (by show(-1:Int)<0;omega) eX (by rw [fJ];exact bI) p
    · exact .steady rfl (by show(-1:Int)<0;omega) a0 (by show(-1:Int)<0;omega) p
theorem Qz(bY:hU c)(h:Sys c.aw A s)(aP:e.now=s.now)(a0:e.a0=[])(aH:(eN c e.aT).2<1)(aE:∀k,¬s.L k):nM c (ji c (jM c s.live) e) s bm:=by
  unfold ji
  rw [if_neg (by omega)]
  exact Qy (e:={e with mode:=bk c e.aT 1,phase:=4}) bY h aP a0 (mV.none bY h aE _)
theorem QA{bB:BitVec 32}:(jM c bB e).now=e.now:=by
  unfold jM;split
  · rfl
  · split
    · exact Qw.1
    · rfl
theorem QB{bB:BitVec 32}:(ji c (jM c bB) e).now=e.now:=by
  unfold ji;split
  · rfl
  · exact QA
theorem Ay{bB:BitVec 32}:∀(l:List Int) (e:cw),(l.foldl (iN c bB) e).now=e.now
  |[],_=>rfl
  |i::l,e=>by
    rw [List.foldl_cons,Ay l]
    unfold iN;split
    · exact QB
    · split
      · exact QA
      · rfl
theorem Z7{bB:BitVec 32}:(gz c bB e).now=e.now+1:=by
  have:(iJ c bB e).now=e.now+1:=Ay _ _
  unfold gz;split
  · rw [QB];exact this
  · exact this
end
end
section
section
variable{c:ck}{e:cw}{s:cf}{bm:Nat→Int}{A:Nat→Prop}
structure Inv(c:ck)(e:cw)(s:cf)(bm:Nat→Int):Prop where
  now:e.now=s.now
  l9:∀j,bm j≤s.now+dg c.aw j 0
  sys:Sys c.aw (fun k=>hasB (je c e) (k:Int)=true) s
  cl:∀r,r<8→s.cl r=fb c.aw (je c e) r
  sq:nM c e s bm
theorem hU.U4(bY:hU c)(m:Int):∀j:Nat,hasB (yn c.aw (b6 c m)).S (j:Int)=true→j<c.aw.length:=bY.m m
theorem hU.sn(bY:hU c)(k:Int):∀j:Nat,hasB (EB c.aw (iS c k) (iT c k)).S (j:Int)=true→j<c.aw.length:=fun j aI=>by
  have aI:hasB (iM (iS c k) (iT c k)) (j:Int)=true:=aI
  rw [AH]at aI;exact bY.m _ j aI
theorem hU.ah4(bY:hU c)(k:Int):∀j:Nat,hasB (yo c.aw (iS c k) (iT c k) (kZ c k)).S (j:Int)=true→j<c.aw.length:=bY.e1
theorem kj.sJ{F:lj}{i:Nat}{b:Int}{N e3:Nat→Int}(p:kj c.aw F i s bm b N e3)(h:Sys c.aw A s)(aE:s.L i){R:Int}(rE:kz c.aw F i R)(aJ:R≤dg c.aw i 1+F.o i):s.now<(s.aD i).hO:=by
  obtain⟨e,a1,_,_,_,a3,_⟩:=h.mL aE
  have ab:=p.B3 R rE
  have ae:=p.rel i (Nat.le_refl _) aE
  rw [Sz a1]at aJ
  omega
theorem mV.sJ(bY:hU c)(h:Sys c.aw A s){m:Int}(p:mV c (b6 c m) s bm){i:Nat}(aE:s.L i):s.now<(s.aD i).hO:=by
  have af:=(h.ok.live i aE).1
  obtain⟨b,N,e3,aC⟩:=p.p i af
  obtain⟨R,ab,ae⟩:=Pn bY.T (bY.m m) (bY.kE m) (p.bB i aE)
  exact aC.sJ h aE ae (by show _≤_+(0:Int);omega)
theorem nM.sJ(bY:hU c)(h:Sys c.aw A s)(p:nM c e s bm){i:Nat}(aE:s.L i):s.now<(s.aD i).hO:=by
  have af:=(h.ok.live i aE).1
  cases p with
  |steady _ _ _ _ p=>exact p.sJ bY h aE
  |waiting _ _ _ _ _ p=>exact p.sJ bY h aE
  |po _ _ _ _ _ _ _ _ _ p=>exact p.sJ bY h aE
  |oq eU eI hN ib cs o4 oh due has op bB p=>
    have sp:=bY.wU eI ib
    rcases p i af with⟨b,N,e3,_,aC⟩|⟨b,N,e3,_,aC⟩
    · obtain⟨R,ab,_,av⟩:=sp.zS i (bB i aE)
      exact aC.sJ h aE av ab
    · obtain⟨R,ab,_,av⟩:=sp.zT i (aC.bB i (Nat.le_refl _) aE)
      exact aC.sJ h aE av (by show _≤_+(0:Int);omega)
  |ot eU eI sA ib k a0 ai cH bB p=>
    have sp:=bY.wU eI ib
    rcases p i af with⟨b,N,e3,_,aC⟩|⟨b,N,e3,aC⟩
    · obtain⟨R,ab,_,av⟩:=sp.zT i (aC.bB i (Nat.le_refl _) aE)
      exact aC.sJ h aE av (by show _≤_+(0:Int);omega)
    · obtain⟨R,ab,ae⟩:=Pn bY.T (bY.m e.mode) (bY.kE e.mode) (bB i aE)
      exact aC.sJ h aE ae (by show _≤_+(0:Int);omega)
theorem Inv.aca(bY:hU c)(h:Inv c e s bm)(aP:s.now<1000000000):(b4 s).2.late=false:=by
  obtain⟨_,⟨k,t,o⟩|⟨q,w5⟩⟩:=h.sys.rP aP
  · have:=h.sq.sJ bY h.sys t.g.l
    rw [o.late,decide_eq_false (by omega),Bool.and_false]
  · rw [w5]
theorem FU(h:Sys c.aw A s)(aP:s.now<1000000000):∀m,(b4 s).1.L m→s.L m∧((b4 s).1.aD m).rel=(s.aD m).rel:=fun m hm=>by
 obtain⟨_,⟨k,t,o⟩|⟨q,w5⟩⟩:=h.rP aP
 ·refine⟨((t.live m).1 hm).1,?_⟩
  by_cases q:m=k
  ·subst q;rw [t.B2]
  ·rw [t.so q]
 ·rw [w5]at hm⊢
  exact⟨hm,rfl⟩
theorem FV(h:Sys c.aw A s)(aP:s.now<1000000000):(b4 s).1.now=s.now+1:=by
  obtain⟨_,⟨k,t,o⟩|⟨q,w5⟩⟩:=h.rP aP
  · exact t.now
  · rw [w5]
theorem Yy(h:Sys c.aw A s)(aP:s.now<1000000000):(b4 s).1.cl=s.cl:=by
  obtain⟨_,⟨k,t,o⟩|⟨q,w5⟩⟩:=h.rP aP
  · exact t.cl
  · rw [w5]
section
variable(bY:hU c)(h:Sys c.aw A s)(aP:s.now<1000000000)(l9:∀j,bm j≤s.now+dg c.aw j 0)
 include bY h aP l9
theorem mV.tick{m:Int}(aL:∀r,r<8→s.cl r=fb c.aw (b6 c m) r)(p:mV c (b6 c m) s bm):mV c (b6 c m) (b4 s).1 bm:=by
 have aE:=FU h aP
 refine⟨fun k ai=>p.bB k (aE k ai).1,fun i af=>?_⟩
 obtain⟨b,N,e3,aC⟩:=p.p i af
 rcases aC.tick bY.T h aP (fun r a4=>by rw [aL r a4];exact Int.le_refl _) l9 af (bY.U4 m)with⟨mU,q⟩|q
 ·exact⟨b,N,mU,q⟩
 ·exact⟨_,_,_,kj.fresh bY.T (h.rP aP).1 (fun k ai=>p.bB k (aE k ai).1) q⟩
theorem WB{k m:Int}(aL:∀r,r<8→s.cl r=fb c.aw (bQ (iS c k) (iT c k)) r)(bB:∀j:Nat,s.L j→hasB (bQ (iS c k) (iT c k)) (j:Int)=true)(p:∀i,i<16→u5 c k i s bm m∨pE c k i s bm s.now):∀i,i<16→u5 c k i (b4 s).1 bm m∨pE c k i (b4 s).1 bm (s.now+1):=by
  have aE:=FU h aP
  intro i af
  have fresh:(∀j,j≤i→¬(b4 s).1.L j)→pE c k i (b4 s).1 bm (s.now+1):=fun q=>⟨_,_,_,by rw [FV h aP];exact Int.le_refl _,kj.fresh bY.T (h.rP aP).1 (fun j aI=>bB j (aE j aI).1) q⟩
  rcases p i af with⟨b,N,e3,aR,aC⟩|⟨b,N,e3,aR,aC⟩
  · rcases aC.tick bY.T h aP (fun r a4=>by rw [aL r a4];exact Int.le_refl _) l9 af (bY.ah4 k)with⟨mU,q⟩|q
    · exact .inl ⟨b,N,mU,aR,q⟩
    · exact .inr (fresh q)
  · rcases aC.tick bY.T h aP (fun r a4=>by rw [aL r a4];exact Int.le_refl _) l9 af (bY.sn k)with⟨mU,q⟩|q
    · exact .inr ⟨b,N,mU,by omega,q⟩
    · exact .inr (fresh q)
theorem Wh{k m t:Int}(sA:bk c k 1=m)(aL:∀r,r<8→s.cl r=fb c.aw (b6 c m) r)(bB:∀j:Nat,s.L j→hasB (b6 c m) (j:Int)=true)(p:∀i,i<16→pE c k i s bm t∨s7 c (b6 c m) i s bm):∀i,i<16→pE c k i (b4 s).1 bm t∨s7 c (b6 c m) i (b4 s).1 bm:=by
  have aE:=FU h aP
  intro i af
  have fresh:(∀j,j≤i→¬(b4 s).1.L j)→s7 c (b6 c m) i (b4 s).1 bm:=fun q=>⟨_,_,_,kj.fresh bY.T (h.rP aP).1 (fun j aI=>bB j (aE j aI).1) q⟩
  rcases p i af with⟨b,N,e3,aR,aC⟩|⟨b,N,e3,aC⟩
  · rcases aC.tick bY.T h aP (fun r a4 => by
      rw [aL r a4, ←sA]
      exact NP (fun k ai=>by rw [has_both,ai];simp) r) l9 af (bY.sn k)with⟨mU,q⟩|q
    · exact .inl ⟨b,N,mU,aR,q⟩
    · exact .inr (fresh q)
  · rcases aC.tick bY.T h aP (fun r a4=>by rw [aL r a4];exact Int.le_refl _) l9 af (bY.U4 m)with⟨mU,q⟩|q
    · exact .inr ⟨b,N,mU,q⟩
    · exact .inr (fresh q)
end
theorem Dk{bB:BitVec 32}:∀(l:List Int) (e:cw),(∀i∈l,0≤i∧i<16)→∃op,l.foldl (iN c bB) e={e with op:=op}∧∀j:Nat,hasB op (j:Int)=true→hasB e.op (j:Int)=true∨(j:Int)∈l
 |[],e,_=>⟨e.op,rfl,fun j aI=> .inl aI⟩
 |i::l,e,h=>by
  have af:=h i (List.mem_cons_self ..)
  rw [List.foldl_cons,show iN c bB e i={e with op:=e.op|||dL i}by unfold iN;rw [if_neg ah,if_neg ah]]
  obtain⟨op,ab,ae⟩:=Dk l {e with op:=e.op|||dL i} fun j aI=>h j (List.mem_cons_of_mem _ aI)
  refine⟨op,ab,fun j aI=>?_⟩
  rcases ae j aI with q|q
  ·have q:hasB (e.op|||dL i) (j:Int)=true:=q
   rw [ow,Bool.or_eq_true]at q
   rcases q with q|q
   ·exact .inl q
   ·obtain⟨k,rfl⟩:=Int.eq_ofNat_of_zero_le af.1
    rw [pW,decide_eq_true_eq]at q
    exact .inr (by rw [show(j:Int)=(k:Int)by omega];exact List.mem_cons_self ..)
  ·exact .inr (List.mem_cons_of_mem _ q)
theorem CG{i k:Int}:eh [(i,k)]=if k-1=0 then([i],[])else([],[(i,k-1)]):=rfl
theorem QC{F:lj}{i:Nat}{b L t:Int}{N e3:Nat→Int}(p:kj c.aw F i s bm b N e3)(ab:1≤L)(bs:∀i:Nat,hasB F.S (i:Int)=true→∃R,R≤L∧kz c.aw F i R)(aR:b+L≤t):s.now<t:=by
  obtain⟨R,a1,a3⟩:=kz.all ab bs i
  have:=p.B3 R a3
  omega
theorem QD(bY:hU c)(af:Inv c e s bm)(aP:s.now<1000000000):nM c (iJ c (b4 s).1.live e) (b4 s).1 bm:=by
 have ae:=(af.sys.rP aP).1
 have kJ:=FV af.sys aP
 have pN:=FU af.sys aP
 have U5:=af.now
 have w0:=af.cl
 cases af.sq with
 |steady eU eI a0 he p=>
  have eH:iJ c (b4 s).1.live e={e with now:=e.now+1,a0:=[]}:=by unfold iJ;rw [a0];rfl
  rw [eH]
  exact .steady eU eI rfl he (p.tick bY af.sys aP af.l9 (fun r a4=>by rw [w0 r a4];unfold je;rw [if_neg ah]))
 |waiting eU eI hN ib a0 p=>
  have eH:iJ c (b4 s).1.live e={e with now:=e.now+1,a0:=[]}:=by unfold iJ;rw [a0];rfl
  rw [eH]
  exact .waiting eU eI hN ib rfl (p.tick bY af.sys aP af.l9 (fun r a4=>by rw [w0 r a4];unfold je;rw [if_neg ah]))
 |po eU eI hN ib k a0 ai due rel p=>
  have fE:=p.tick bY af.sys aP af.l9 (fun r a4=>by rw [w0 r a4];unfold je;rw [if_neg ah])
  by_cases q:k-1=0
  ·have eH:iJ c (b4 s).1.live e=ji c (jM c (b4 s).1.live) {e with now:=e.now+1,a0:=[]}:=by
    unfold iJ;rw [a0,CG,if_pos q];rfl
   rw [eH]
   refine Qz bY ae (by show e.now+1=_;omega) rfl (by show(eN c e.aT).2<1;have:=bY.EC (i:=e.aT) (.inr ib);omega) fun j aI=>?_
   have a1:=fE.sJ bY ae aI
   obtain⟨a3,bI⟩:=pN j aI
   obtain⟨cb,cv,_,_,_,eX,_⟩:=ae.mL aI
   have fJ:=rel j a3
   have mY:=p.bB j a3
   have E6:=bY.U2 ib (j:=j) (by show hasB (b6 c (bk c e.aT 0)) _=true;rw [hN];exact mY)
   have Ad:=(bY.T.dg (bY.m _ j mY)).2.1
   rw [Sz cv]at E6 Ad
   omega
  ·have eH:iJ c (b4 s).1.live e={e with now:=e.now+1,a0:=[(16,k-1)]}:=by
    unfold iJ;rw [a0,CG,if_neg q];rfl
   rw [eH]
   exact .po eU eI hN ib (k-1) rfl ah (by show _=e.since+(eN c e.aT).1;omega) (fun j aI=>by obtain⟨a3,bI⟩:=pN j aI;rw [bI];exact rel j a3) fE
 |oq eU eI hN ib cs o4 oh due has op bB p=>
  have sp:=bY.wU eI ib
  have fE:=WB bY af.sys aP af.l9 (k:=e.aT) (m:=e.since) (fun r a4=>by rw [w0 r a4];unfold je;rw [if_pos eU]) bB p
  have Ia:∀k:Nat,(b4 s).1.L k→hasB (bQ (iS c e.aT) (iT c e.aT)) (k:Int)=true:=fun k ai=>bB k (pN k ai).1
  obtain⟨d1,d2,d3,d4⟩:=FT o4 (fun q bF=>(due q bF).1)
  have wz:∀i∈(eh e.a0).1,(i=16∧s.now+1=e.since+(eN c e.aT).1)∨(0≤i∧i<16∧hasB (kf c (bk c e.aT)) i=true∧s.now+1=e.since+kZ c e.aT i.toNat):=fun i af=>by
   have:=due (i,0+1) ((d4 (i,0)).2 (.inl ⟨af,rfl⟩))
   rcases this.2 with⟨a1,a3⟩|⟨a1,a3,bI,cv⟩
   ·exact .inl ⟨a1,by have a3:s.now+(0+1)=_:=a3;omega⟩
   ·exact .inr ⟨a1,a3,bI,by have cv:s.now+(0+1)=e.since+kZ c e.aT i.toNat:=cv;omega⟩
  have Hb:∀q∈eu 0 (eh e.a0).2,1≤q.2∧((q.1=16∧s.now+1+q.2=e.since+(eN c e.aT).1)∨(0≤q.1∧q.1<16∧hasB (kf c (bk c e.aT)) q.1=true∧s.now+1+q.2=e.since+kZ c e.aT q.1.toNat)):=fun q bF=>by
   have l7:=d3 q bF
   have:=due (q.1,q.2+1) ((d4 q).2 (.inr ⟨bF,l7⟩))
   rcases this.2 with⟨a1,a3⟩|⟨a1,a3,bI,cv⟩
   ·exact⟨l7,.inl ⟨a1,by have a3:s.now+(q.2+1)=_:=a3;omega⟩⟩
   ·exact⟨l7,.inr ⟨a1,a3,bI,by have cv:s.now+(q.2+1)=e.since+kZ c e.aT q.1.toNat:=cv;omega⟩⟩
  rw [d2]at oh has
  rw [List.nodup_append]at oh
  obtain⟨Ib,U6,Mt⟩:=oh
  by_cases mT:(16:Int)∈(eh e.a0).1
  ·
   obtain⟨bA,cQ,aE⟩:=List.append_of_mem mT
   rw [aE,List.nodup_append]at Ib
   obtain⟨et,hV,z9⟩:=Ib
   rw [List.nodup_cons]at hV
   have t1:∀i∈bA,0≤i∧i<16:=fun i af=>by
    rcases wz i (by rw [aE];exact List.mem_append_left _ af)with⟨a1,_⟩|⟨a1,a3,_⟩
    ·exact absurd a1 (z9 i af 16 (List.mem_cons_self ..))
    ·exact⟨a1,a3⟩
   have t2:∀i∈cQ,0≤i∧i<16:=fun i af=>by
    rcases wz i (by rw [aE];exact List.mem_append_right _ (List.mem_cons_of_mem _ af))with⟨a1,_⟩|⟨a1,a3,_⟩
    ·subst a1;exact absurd af hV.1
    ·exact⟨a1,a3⟩
   have aeu:s.now+1=e.since+(eN c e.aT).1:=by
    rcases wz 16 mT with⟨_,g⟩|⟨_,g,_⟩
    ·exact g
    ·omega
   have a4:(eh e.a0).2=[]:=by
    cases aL:(eh e.a0).2 with
    |nil=>rfl
    |cons x l=>
     exfalso
     have al:(x.1,0+x.2)∈eu 0 (eh e.a0).2:=by rw [aL];exact List.mem_cons_self ..
     obtain⟨l7,⟨a1,a3⟩|⟨a1,a3,bI,cv⟩⟩:=Hb _ al
     ·have:(16:Int)∈(eh e.a0).2.map Prod.fst:=by
       rw [aL,List.map_cons];exact List.mem_cons.2 (.inl (show(16:Int)=x.1 from a1.symm))
      exact absurd rfl (Mt 16 mT 16 this)
     ·have eX:=vM (a:=iS c e.aT) (b:=iT c e.aT) bI
      obtain⟨k,ai⟩:=Int.eq_ofNat_of_zero_le a1
      have ai:x.1=(k:Int):=ai
      have fJ:=sp.off k (by rw [←ai];exact eX)
      have mY:fA (iS c e.aT) (iT c e.aT) (kZ c e.aT) (k:Int)=kZ c e.aT (k:Int).toNat:=by
       unfold fA;rw [if_pos (by rw [←ai];exact bI)]
      rw [mY, ←ai]at fJ
      have cv:s.now+1+(0+x.2)=e.since+kZ c e.aT x.1.toNat:=cv
      have l7:1≤0+x.2:=l7
      omega
   have xR:1≤(eN c e.aT).2:=by
    rcases(show 1≤(eN c e.aT).2∨(eN c e.aT).2<1 by omega)with q|q
    ·exact q
    ·exfalso
     have:=sp.nil (sp.none q)
     omega
   have h1:∀i,i<16→pE c e.aT i (b4 s).1 bm (s.now+1):=fun i af=>by
    rcases fE i af with⟨b,N,e3,aR,aC⟩|q
    ·exfalso
     have:=QC aC xR (fun j aI=>by obtain⟨R,_,a3,bI⟩:=sp.zS j aI;exact⟨R,a3,bI⟩) (t:=(b4 s).1.now) (by rw [kJ];have:=sp.le;omega)
     omega
    ·exact q
   have eH:∃U7,iJ c (b4 s).1.live e={e with now:=e.now+1,mode:=bk c e.aT 1,phase:=4,op:=U7,a0:=[(17,(eN c e.aT).2)]}:=by
    unfold iJ
    rw [aE,a4,List.foldl_append]
    obtain⟨kF,cy,_⟩:=Dk (c:=c) (bB:=(b4 s).1.live) bA {e with now:=e.now+1,a0:=[]} t1
    rw [cy,List.foldl_cons]
    have bR:iN c (b4 s).1.live {e with now:=e.now+1,op:=kF,a0:=[]} 16={e with now:=e.now+1,mode:=bk c e.aT 1,phase:=4,op:=kF,a0:=[(17,(eN c e.aT).2)]}:=by
     unfold iN
     rw [if_pos rfl]
     unfold ji
     rw [if_pos (show 0<(eN c e.aT).2 by omega)]
     show cw.mk _ _ _ _ _ _ _ (sf 17 (eN c e.aT).2 [])=_
     rw [yI List.not_mem_nil ⟨xR,by have:=sp.le;have:=sp.bA;omega⟩ b2];rfl
    rw [bR]
    obtain⟨iQ,gD,_⟩:=Dk (c:=c) (bB:=(b4 s).1.live) cQ {e with now:=e.now+1,mode:=bk c e.aT 1,phase:=4,op:=kF,a0:=[(17,(eN c e.aT).2)]} t2
    exact⟨iQ,gD⟩
   obtain⟨U7,eH⟩:=eH
   rw [eH]
   refine .ot rfl eI rfl ib (eN c e.aT).2 rfl xR xR (fun j aI=>?_) (fun i af=> .inl ?_)
   ·obtain⟨b,N,e3,_,aC⟩:=h1 j (ae.ok.live j aI).1
    have:=aC.bB j (Nat.le_refl _) aI
    have this:hasB (iM (iS c e.aT) (iT c e.aT)) (j:Int)=true:=this
    rw [AH]at this
    exact this
   ·obtain⟨b,N,e3,aR,aC⟩:=h1 i af
    exact⟨b,N,e3,by show b≤_+(eN c e.aT).2-(eN c e.aT).2;omega,aC⟩
  ·
   have t1:∀i∈(eh e.a0).1,0≤i∧i<16:=fun i af=>by
    rcases wz i af with⟨a1,_⟩|⟨a1,a3,_⟩
    ·subst a1;exact absurd af mT
    ·exact⟨a1,a3⟩
   obtain⟨kF,cy,bR⟩:=Dk (c:=c) (bB:=(b4 s).1.live) (eh e.a0).1 {e with now:=e.now+1,a0:=(eh e.a0).2} t1
   have eH:iJ c (b4 s).1.live e={e with now:=e.now+1,a0:=(eh e.a0).2,op:=kF}:=cy
   rw [eH]
   refine .oq eU eI hN ib (by show e.since≤_;omega) d1 U6 (fun q bF=>?_) ?_ (fun j aI=>?_) Ia (fun i af=>?_)
   ·rw [kJ];exact Hb q bF
   ·rcases List.mem_append.1 has with g|g
    ·exact absurd g mT
    ·exact g
   ·rw [kJ]
    rcases bR j aI with g|g
    ·obtain⟨a1,a3⟩:=op j g
     exact⟨a1,by show e.since+kZ c e.aT j≤s.now+1;omega⟩
    ·rcases wz _ g with⟨a1,_⟩|⟨_,_,bI,cv⟩
     ·rw [a1]at g;exact absurd g mT
     ·rw [Int.toNat_natCast]at cv
      exact⟨bI,by show e.since+kZ c e.aT j≤s.now+1;omega⟩
   ·rw [kJ];exact fE i af
 |ot eU eI sA ib k a0 ai cH bB p=>
  have sp:=bY.wU eI ib
  have fE:=Wh bY af.sys aP af.l9 sA (fun r a4=>by rw [w0 r a4];unfold je;rw [if_neg ah]) bB p
  have Ia:∀k:Nat,(b4 s).1.L k→hasB (b6 c e.mode) (k:Int)=true:=fun k ai=>bB k (pN k ai).1
  by_cases q:k-1=0
  ·have eH:iJ c (b4 s).1.live e=jM c (b4 s).1.live {e with now:=e.now+1,a0:=[]}:=by
    unfold iJ;rw [a0,CG,if_pos q];rfl
   rw [eH]
   refine Qy bY ae (by show e.now+1=_;omega) rfl ⟨Ia,fun i af=>?_⟩
   rcases fE i af with⟨b,N,e3,aR,aC⟩|g
   ·exfalso
    have:=QC aC cH (fun j aI=>by obtain⟨R,_,a3,bI⟩:=sp.zT j aI;exact⟨R,a3,bI⟩) (t:=(b4 s).1.now) (by rw [kJ];omega)
    omega
   ·exact g
  ·have eH:iJ c (b4 s).1.live e={e with now:=e.now+1,a0:=[(17,k-1)]}:=by
    unfold iJ;rw [a0,CG,if_neg q];rfl
   rw [eH]
   refine .ot eU eI sA ib (k-1) rfl ah cH Ia (fun i af=>?_)
   rw [kJ,show s.now+1+(k-1)=s.now+k by omega]
   exact fE i af
end
end
section
section
variable{c:ck}{e:cw}{s:cf}{bm:Nat→Int}{A:Nat→Prop}
def kc(c:ck)(e:cw)(a:BitVec 32)(s:cf):cf:=if je c e=a then s else sQ s (fb c.aw (je c e))
theorem mV.ceil{M:BitVec 32}{t:Nat→Int}(p:mV c M s bm):mV c M (sQ s t) bm:=⟨p.bB,fun i af=>by obtain⟨b,N,e3,h⟩:=p.p i af;exact⟨b,N,e3,h.ceil⟩⟩
theorem pE.ceil{k m:Int}{i:Nat}{t:Nat→Int}(p:pE c k i s bm m):pE c k i (sQ s t) bm m:=by obtain⟨b,N,e3,aR,h⟩:=p;exact⟨b,N,e3,aR,h.ceil⟩
theorem u5.ceil{k m:Int}{i:Nat}{t:Nat→Int}(p:u5 c k i s bm m):u5 c k i (sQ s t) bm m:=by obtain⟨b,N,e3,aR,h⟩:=p;exact⟨b,N,e3,aR,h.ceil⟩
theorem s7.ceil{M:BitVec 32}{i:Nat}{t:Nat→Int}(p:s7 c M i s bm):s7 c M i (sQ s t) bm:=by obtain⟨b,N,e3,h⟩:=p;exact⟨b,N,e3,h.ceil⟩
theorem nM.ceil{t:Nat→Int}(p:nM c e s bm):nM c e (sQ s t) bm:=by
  cases p with
  |steady a b d f p=>exact .steady a b d f p.ceil
  |waiting a b d f g p=>exact .waiting a b d f g p.ceil
  |po a b d f k g h i j p=>exact .po a b d f k g h i j p.ceil
  |oq eU eI hN ib cs o4 oh due has op bB p=>exact .oq eU eI hN ib cs o4 oh due has op bB fun i af=>(p i af).imp u5.ceil pE.ceil
  |ot eU eI sA ib k a0 ai cH bB p=>exact .ot eU eI sA ib k a0 ai cH bB fun i af=>(p i af).imp pE.ceil s7.ceil
theorem nM.act(p:nM c e s bm):∀k:Nat,s.L k→hasB (je c e) (k:Int)=true:=by
  unfold je
  cases p with
  |steady eU _ _ _ p=>rw [if_neg (by omega)];exact p.bB
  |waiting eU _ _ _ _ p=>rw [if_neg (by omega)];exact p.bB
  |po eU _ _ _ _ _ _ _ _ p=>rw [if_neg (by omega)];exact p.bB
  |oq eU _ _ _ _ _ _ _ _ _ bB _=>rw [if_pos eU];exact bB
  |ot eU _ _ _ _ _ _ _ bB _=>rw [if_neg (by omega)];exact bB
theorem NQ(c9:pD c.aw){a:BitVec 32}:∀(k:Nat) (e:Nat→Int),hasB a (k:Int)=true→c.aw[k]?=some e→∀r:Nat,r<8→0<e (3+r)→fb c.aw a r≤k:=fun k e a5 he r a4 hu=>by
  have ai:=(List.getElem?_eq_some_iff.1 he).1
  have:=c9.n
  exact(Ag c.aw a r).le k (by omega) (by unfold wo;rw [he];simp only [a5,Bool.true_and];unfold mF;simpa using hu)
theorem Yz{a:BitVec 32}:∀r:Nat,r<8→0≤fb c.aw a r∧fb c.aw a r≤16:=fun r _=>(Ag c.aw a r).range
theorem Inv.kc(bY:hU c)(h:Sys c.aw A s)(aP:e.now=s.now)(l9:∀j,bm j≤s.now+dg c.aw j 0)(p:nM c e s bm){a:BitVec 32}(a5:∀r,r<8→s.cl r=fb c.aw a r):Inv c e (kc c e a s) bm:=by
 have aE:=p.act
 unfold Go.Proofs.YtkpibibplbjciaaGreatDoor.kc
 split
 ·rename_i q
  refine⟨aP,l9,⟨h.ok,fun k ai=>⟨aE k ai,(h.ho k ai).2⟩,h.EA,fun k og ai he r a4 hu=>?_,h.Bc⟩,fun r a4=>by rw [a5 r a4,q],p⟩
  rw [a5 r a4, ←q]
  exact NQ bY.T k og ai he r a4 hu
 ·exact⟨aP,l9,⟨ZZ h.ok Yz,fun k ai=>⟨aE k ai,(h.ho k ai).2⟩,h.EA,NQ bY.T,h.Bc⟩,fun r _=>rfl,p.ceil⟩
theorem Inv.tick(bY:hU c)(af:Inv c e s bm)(aP:s.now<1000000000):Inv c (gz c (b4 s).1.live e) (Go.Proofs.YtkpibibplbjciaaGreatDoor.kc c (gz c (b4 s).1.live e) (je c e) (b4 s).1) bm:=by
 have ae:=(af.sys.rP aP).1
 have kJ:=FV af.sys aP
 have he:=af.now
 refine Inv.kc bY ae (by rw [Z7,kJ,he]) (fun j=>by have:=af.l9 j;rw [kJ];omega) ?_ (fun r a4=>by rw [Yy af.sys aP];exact af.cl r a4)
 have p:=QD bY af aP
 have BK:(iJ c (b4 s).1.live e).now=(b4 s).1.now:=by
  have:(iJ c (b4 s).1.live e).now=e.now+1:=Ay _ _
  omega
 unfold gz
 split
 ·rename_i q
  cases p with
  |steady eU=>omega
  |waiting eU eI hN ib a0 p=>exact Qz bY ae BK a0 (by have:=bY.EC (i:=(iJ c (b4 s).1.live e).aT) (.inl ib);omega) (Oj.1 q.2)
  |po eU=>omega
  |oq eU=>omega
  |ot eU=>omega
 ·exact p
theorem Z8{bB:BitVec 32}{m:Int}:(hH c bB e m).now=e.now:=by
  unfold hH;split
  · split
    · exact Qw.1
    · rfl
  · rfl
theorem Inv.ask(bY:hU c)(af:Inv c e s bm)(m:Int):Inv c (hH c s.live e m) (Go.Proofs.YtkpibibplbjciaaGreatDoor.kc c (hH c s.live e m) (je c e) s) bm:=by
 refine Inv.kc bY af.sys (by rw [Z8];exact af.now) af.l9 ?_ af.cl
 unfold hH
 split
 ·rename_i b5
  unfold oK at b5
  split at b5
  ·cases b5
  split at b5
  ·cases b5
  rename_i ab ae
  split at b5
  ·rename_i av
   split
   ·rename_i U8
    obtain⟨i,d,a1,a3,bI,cv⟩:=F7 av
    obtain⟨eX,fJ⟩:=hb.of a3
    rw [a1]
    cases af.sq with
    |steady eU eI a0 he p=>
     refine Qx bY af.sys af.now a0 he eX ?_ p
     rw [fJ,bI];unfold s6;rw [if_pos eI]
    |waiting eU=>omega
    |po eU=>omega
    |oq eU=>omega
    |ot eU=>omega
   ·rename_i U8
    cases af.sq with
    |steady eU=>exact absurd eU U8
    |waiting a b d f g p=>exact .waiting a b d f g p
    |po a b d f k g h i j p=>exact .po a b d f k g h i j p
    |oq eU eI hN ib cs o4 oh due has op bB p=>exact .oq eU eI hN ib cs o4 oh due has op bB p
    |ot eU eI sA ib k a0 ai cH bB p=>exact .ot eU eI sA ib k a0 ai cH bB p
  ·cases b5
 ·exact af.sq
section
variable{eZ:cf}{k:Nat}{j:fN}(bY:hU c)(t:tR s eZ k j)(aJ:j.done=0)(a7:j.cost≤dg c.aw k 2)(a4:j.rel=s.now)(fv:hold j.cz.l 0= -1)(bl:bm k≤s.now)
 include bY t aJ a7 a4 fv bl
theorem mV.n5{M:BitVec 32}(p:mV c M s bm)(ai:hasB M (k:Int)=true):mV c M eZ (bz bm k (s.now+dg c.aw k 0)):=by
 refine⟨fun m hm=>?_,fun i af=>?_⟩
 ·rcases(t.live m).1 hm with q|rfl
  ·exact p.bB m q
  ·exact ai
 ·obtain⟨b,N,e3,h⟩:=p.p i af
  obtain⟨w6,eE⟩:=h.n5 bY.T t aJ a7 a4 fv bl fun _=>⟨ai,by have:=h.le;show b+0≤_;omega⟩
  exact⟨b,w6,e3,eE⟩
theorem s7.n5{M:BitVec 32}{i:Nat}(p:s7 c M i s bm)(ai:hasB M (k:Int)=true):s7 c M i eZ (bz bm k (s.now+dg c.aw k 0)):=by
  obtain⟨b,N,e3,h⟩:=p
  obtain⟨w6,eE⟩:=h.n5 bY.T t aJ a7 a4 fv bl fun _=>⟨ai,by have:=h.le;show b+0≤_;omega⟩
  exact⟨b,w6,e3,eE⟩
theorem pE.n5{z m:Int}{i:Nat}(p:pE c z i s bm m)(ai:hasB (iT c z) (k:Int)=true):pE c z i eZ (bz bm k (s.now+dg c.aw k 0)) m:=by
  obtain⟨b,N,e3,aR,h⟩:=p
  obtain⟨w6,eE⟩:=h.n5 bY.T t aJ a7 a4 fv bl fun _=>⟨by show hasB (iM _ _) _=true;rw [AH];exact ai,by have:=h.le;show b+0≤_;omega⟩
  exact⟨b,w6,e3,aR,eE⟩
theorem u5.n5{z m:Int}{i:Nat}(p:u5 c z i s bm m)(ai:hasB (bQ (iS c z) (iT c z)) (k:Int)=true)(aq:m+fA (iS c z) (iT c z) (kZ c z) (k:Int)≤s.now):u5 c z i eZ (bz bm k (s.now+dg c.aw k 0)) m:=by
  obtain⟨b,N,e3,aR,h⟩:=p
  obtain⟨w6,eE⟩:=h.n5 bY.T t aJ a7 a4 fv bl fun _=>⟨ai,by show b+fA _ _ _ _≤_;omega⟩
  exact⟨b,w6,e3,aR,eE⟩
theorem Inv.n5(af:Inv c e s bm)(aq:jt eZ)(ai:hasB (sg c e) (k:Int)=true)(Bo:k<c.aw.length)(ah5:0<j.cost)(aE:pL (dg c.aw k) j.cost 0 j.cz.l)(H8:j.hO=j.rel+dg c.aw k 1):Inv c e eZ (bz bm k (s.now+dg c.aw k 0)):=by
 have kJ:=t.now
 have key:hasB (je c e) (k:Int)=true∧nM c e eZ (bz bm k (s.now+dg c.aw k 0)):=by
  unfold sg at ai
  unfold je
  cases af.sq with
  |steady eU eI a0 he p=>
   rw [if_neg ah,if_neg ah]at ai
   rw [if_neg ah]
   exact⟨ai,.steady eU eI a0 he (p.n5 bY t aJ a7 a4 fv bl ai)⟩
  |waiting eU eI hN ib a0 p=>
   rw [if_neg ah,if_neg ah]at ai
   rw [if_neg ah]
   exact⟨ai,.waiting eU eI hN ib a0 (p.n5 bY t aJ a7 a4 fv bl ai)⟩
  |po eU=>
   rw [if_pos eU,vF]at ai;cases ai
  |oq eU eI hN ib cs o4 oh due has op bB p=>
   rw [if_neg ah,if_pos eU,ow,uB,Bool.or_eq_true,Bool.and_eq_true]at ai
   rw [if_pos eU]
   have aR:hasB (bQ (iS c e.aT) (iT c e.aT)) (k:Int)=true∧hasB (iT c e.aT) (k:Int)=true∧e.since+fA (iS c e.aT) (iT c e.aT) (kZ c e.aT) (k:Int)≤s.now:=by
    rcases ai with⟨cy,bR⟩|q
    ·exact⟨by rw [has_both,cy];rfl,bR,by rw [KG cy];omega⟩
    ·obtain⟨a1,a3⟩:=op k q
     refine⟨vM a1,?_,?_⟩
     ·have a1:hasB (iT c e.aT&&&~~~(iS c e.aT)) (k:Int)=true:=a1
      rw [qU,Bool.and_eq_true]at a1;exact a1.1
     ·have:fA (iS c e.aT) (iT c e.aT) (kZ c e.aT) (k:Int)=kZ c e.aT k:=by unfold fA;rw [if_pos a1,Int.toNat_natCast]
      rw [this];exact a3
   refine⟨aR.1,.oq eU eI hN ib (by rw [kJ];exact cs) o4 oh (by rw [kJ];exact due) has (by rw [kJ];exact op) (fun m hm=>?_) fun i af=>?_⟩
   ·rcases(t.live m).1 hm with q|rfl
    ·exact bB m q
    ·exact aR.1
   ·rw [kJ]
    exact(p i af).imp (fun q=>q.n5 bY t aJ a7 a4 fv bl aR.1 aR.2.2) (fun q=>q.n5 bY t aJ a7 a4 fv bl aR.2.1)
  |ot eU eI sA ib z a0 aS cH bB p=>
   rw [if_neg ah,if_neg ah]at ai
   rw [if_neg ah]
   refine⟨ai,.ot eU eI sA ib z a0 aS cH (fun m hm=>?_) fun i af=>?_⟩
   ·rcases(t.live m).1 hm with q|rfl
    ·exact bB m q
    ·exact ai
   ·rw [kJ]
    exact(p i af).imp (fun q=>q.n5 bY t aJ a7 a4 fv bl (by show hasB (b6 c (bk c e.aT 1)) _=true;rw [sA];exact ai)) (fun q=>q.n5 bY t aJ a7 a4 fv bl ai)
 refine⟨by rw [kJ];exact af.now,fun m=>?_,af.sys.n5 aq t key.1 (DC Bo) aJ ah5 aE a7 H8 ah,by rw [t.cl];exact af.cl,key.2⟩
 rw [kJ]
 by_cases q:m=k
 ·subst q;rw [e4];exact Int.le_refl _
 ·rw [fG _ _ q];exact af.l9 m
end
def rB:cw:=⟨0,-1,0,0,0,-1,0#32,[]⟩
theorem Inv.zero(bY:hU c)(hm:0<c.a9.length):Inv c rB (Go.Proofs.YtkpibibplbjciaaGreatDoor.kc c rB 0#32 iL) (fun _=>0):=by
 have aP:∀m,¬iL.L m:=fun m hm=>by
  have hm:hasB 0#32 (m:Int)=true:=hm
  rw [vF]at hm;cases hm
 have h:Sys c.aw (fun _=>False) iL:=⟨RB,fun m hm=>absurd hm (aP m),fun m _ hm=>absurd hm (aP m),fun _ _ q=>q.elim,fun p _ aC=>absurd aC (aP p)⟩
 have aS:∀r,fb c.aw 0#32 r=16:=fun r=>by
  rcases(Ag c.aw 0#32 r).at_ with q|⟨i,cy,bR,gD⟩
  ·exact q
  ·unfold wo at bR
   cases he:c.aw[i]? with
   |none=>rw [he]at bR;cases bR
   |some e=>rw [he]at bR;simp only [vF,Bool.false_and]at bR;cases bR
 refine Inv.kc bY h rfl (fun j=>?_) (.steady rfl b2 rfl b2 (mV.none bY h aP _)) fun r _=>(aS r).symm
 show(0:Int)≤0+dg c.aw j 0
 by_cases q:j<c.aw.length
 ·have:=(bY.T.dg q).1;omega
 ·rw [SA q];show(0:Int)≤0+0;omega
end
end
abbrev qI(x:Int×Int)(Fg:Value):List Value:=[aa x.1,aa x.2,Fg]
def lk(t:Value):List Nat→ef→List (ar B)
  |b::aW,x::l=>U b (qI x (ha t aW)) 426::lk t aW l
  |_,_=>[]
abbrev wV(e:iR)(aW:List Nat)(n:Nat):iR:={e with first:=ha (.pointer none) aW,many:=(n:Int)}
abbrev ig(p:Nat)(e:iR)(aW:List Nat)(l:ef):List (ar B):=U p (hE (wV e aW l.length)) 288::lk (.pointer none) aW l
theorem Gw{t:Value}{aW aF:List Nat}:ha t (aW++aF)=ha (ha t aF) aW:=by cases aW<;>rfl
theorem Gx{t:Value}:∀{aW aF:List Nat} {l m:ef},aW.length=l.length→(lk t (aW++aF) (l++m):List (ar B))=lk (ha t aF) aW l++lk t aF m
  |[],aF,[],m,_=>rfl
  |b::aW,aF,x::l,m,h=>by
    rw [List.length_cons,List.length_cons]at h
    show U b (qI x (ha t (aW++aF))) 426::lk t (aW++aF) (l++m)=_
    rw [Gx (by omega),Gw];rfl
  |[],_,_::_,_,h=>by simp at h
  |_::_,_,[],_,h=>by simp at h
theorem Dl:∀(l m:ef) (a:Int),∃z,eu a (l++m)=eu a l++eu z m
  |[],m,a=>⟨a,rfl⟩
  |x::l,m,a=>by obtain⟨z,aS⟩:=Dl l m (a+x.2);exact⟨z,by rw [List.cons_append,eu,aS,eu];rfl⟩
theorem AI:∀(l:ef) (a:Int),(eu a l).length=l.length
  |[],_=>rfl
  |x::l,a=>by rw [eu,List.length_cons,AI l,List.length_cons]
def mo(fI:List Nat)(cJ:ef)(aW:List Nat)(l:ef)(a:Int)(i:Nat):Prop:=∃fD bA,fI=fD++aW∧cJ=bA++l∧fD.length=bA.length∧aW.length=l.length∧eu 0 cJ=eu 0 bA++eu a l∧i=bA.length
theorem mo.zero{aW:List Nat}{l:ef}(h:aW.length=l.length):mo aW l aW l 0 0:=⟨[],[],rfl,rfl,rfl,h,rfl,rfl⟩
theorem mo.step{fI:List Nat}{cJ:ef}{b:Nat}{aW:List Nat}{x:Int×Int}{l:ef}{a:Int}{i:Nat}(h:mo fI cJ (b::aW) (x::l) a i):mo fI cJ aW l (a+x.2) (i+1):=by
 obtain⟨fD,bA,ab,ae,av,aV,bN,c0⟩:=h
 rw [List.length_cons,List.length_cons]at aV
 refine⟨fD++[b],bA++[x],by rw [ab];simp,by rw [ae];simp,by simp;exact av,by omega,?_,by simp;exact c0⟩
 obtain⟨z,aS⟩:=Dl bA [x] 0
 have e:z=a:=by
  rw [ae]at bN
  obtain⟨vu,va⟩:=Dl bA (x::l) 0
  obtain⟨c3,ll⟩:=Dl [x] l vu
  have fO:=bN.symm.trans va
  have gk:=List.append_cancel_left fO
  rw [eu,eu,List.cons.injEq,Prod.mk.injEq]at gk
  have:eu 0 (bA++[x]++l)=eu 0 (bA++x::l):=by simp
  obtain⟨l8,zU⟩:=Dl (bA++[x]) l 0
  rw [this,va,aS,List.append_assoc]at zU
  have hW:=List.append_cancel_left zU
  rw [eu,eu,eu,List.cons_append,List.cons.injEq,Prod.mk.injEq]at hW
  omega
 rw [bN,aS,e,eu,eu,eu,List.append_assoc];rfl
theorem mo.get{fI:List Nat}{cJ:ef}{b:Nat}{aW:List Nat}{x:Int×Int}{l:ef}{a:Int}{i:Nat}(h:mo fI cJ (b::aW) (x::l) a i):(eu 0 cJ)[i]?=some (x.1,a+x.2)∧x∈cJ∧i<cJ.length:=by
 obtain⟨fD,bA,ab,ae,av,aV,bN,c0⟩:=h
 refine⟨by rw [bN,c0,List.getElem?_append_right (by rw [AI];omega),AI];simp [eu],by rw [ae];simp,by rw [ae,c0];simp⟩
theorem mo.end_{fI:List Nat}{cJ:ef}{aW:List Nat}{l:ef}{a:Int}{i:Nat}(h:mo fI cJ aW l a i)(aR:aW=[]):i=cJ.length:=by
  obtain⟨fD,bA,ab,ae,av,aV,bN,c0⟩:=h
  subst aR
  rw [ae,c0,List.eq_nil_of_length_eq_zero (show l.length=0 from aV.symm)];simp
theorem mo.cons{fI:List Nat}{cJ:ef}{aW:List Nat}{l:ef}{a:Int}{i:Nat}(h:mo fI cJ aW l a i)(aR:aW.isEmpty=false):∃b iA x gf,aW=b::iA∧l=x::gf:=by
  obtain⟨fD,bA,ab,ae,av,aV,bN,c0⟩:=h
  cases aW with
  |nil=>cases aR
  |cons b aW=>
    cases l with
    |nil=>cases aV
    |cons x l=>exact⟨b,aW,x,l,rfl,rfl⟩
theorem mo.at_{fI:List Nat}{cJ:ef}{b:Nat}{aW:List Nat}{x:Int×Int}{l:ef}{a:Int}{i:Nat}(h:mo fI cJ (b::aW) (x::l) a i){k:Nat}{v:Value}(cL:(qI x (ha (.pointer none) aW))[k]?=some v)(p:Nat)(e:iR):x4 (ig (B:=B) p e fI cJ) b k v:=by
  obtain⟨fD,bA,ab,ae,av,aV,bN,c0⟩:=h
  have hm:(U b (qI x (ha (.pointer none) aW)) 426:ar B)∈lk (.pointer none) fI cJ:=by
    rw [ab,ae,Gx av]
    exact List.mem_append_right _ (List.mem_cons_self ..)
  exact⟨_,426,List.mem_cons_of_mem _ hm,cL⟩
theorem u6{p k:Nat}{e:iR}{aW:List Nat}{l:ef}{v:Value}(h:(hE (wV e aW l.length))[k]?=some v):x4 (ig (B:=B) p e aW l) p k v:=⟨_,_,List.mem_cons_self ..,h⟩
structure o5(l:ef):Prop where
  o4:nc l
  due:∀p∈eu 0 l,1≤p.2∧p.2≤65536
  len:l.length≤64
theorem o5.at_{cJ:ef}(h:o5 cJ){fI:List Nat}{b:Nat}{aW:List Nat}{x:Int×Int}{l:ef}{a:Int}{i:Nat}(aH:mo fI cJ (b::aW) (x::l) a i):0≤x.2∧1≤a+x.2∧a+x.2≤65536:=by
  obtain⟨a1,a3,bI⟩:=aH.get
  exact⟨h.o4 x a3,h.due _ (List.mem_of_getElem? a1)⟩
theorem ago(q o:Nat):a6 B 301 [.pointer (some ⟨q,o,none⟩)] [] (fun v S=>∃c,v= .func (.func 304) #[] #[ag c]∧S=[U c [.pointer (some ⟨q,o,none⟩)] 424]):=by
 refine bM 4 Tryz.func301 fun ba bf=>?_
 refine fX (aF:=[.pointer (some ⟨q,o,none⟩)]) fun ax=>?_
 exact aO ⟨ax,rfl,rfl⟩
theorem Z9(c p:Nat)(e:iR)(fI:List Nat)(cJ:ef)(hj:fI.length=cJ.length)(c9:o5 cJ):n9 Tryz.prog B 304 [ag c] [U c [.pointer (some ⟨p,13,none⟩)] 424,all (ig p e fI cJ)] ((eu 0 cJ).map fun x=>[.int .i64 x.1,aa x.2]):=by
 intro cr J hc cV g7 aZ
 change di _ _ _ _ (U c [.pointer (some ⟨p,13,none⟩)] 424::all (ig p e fI cJ)::cV) _
 refine bM 29 Tryz.func304 fun ba bf=>?_
 refine ap (jF (v:=ha (.pointer none) fI) (u6 rfl) rfl au ad) ?_
 refine aj ?_
 refine ds (α:=List Nat×ef×Int×Nat×List (ar B)) (fun⟨aW,l,a,i,aU⟩=>mo fI cJ aW l a i∧(0≤a∧a≤65536)∧J i aU) (fun⟨aW,l,a,i,aU⟩=>[(3,aa a),(4,ha (.pointer none) aW),(0,.func (.yield cr) #[] #[]),(1,ag c)]) (fun⟨aW,l,a,i,aU⟩=>U c [.pointer (some ⟨p,13,none⟩)] 424::all (ig p e fI cJ)::aU) (fun⟨aW,l,a,i,aU⟩=>l.length) (fI,cJ,0,0,cV) ?_ dq aA ?_
 ·exact⟨mo.zero hj,⟨by omega,by omega⟩,g7⟩
 rintro⟨aW,l,a,i,aU⟩ ⟨aH,a5,bo⟩
 dsimp only
 refine aj ?_
 refine ap (Du rfl rfl ad) ?_
 refine bT ?_ ?_<;>intro ab
 ·obtain⟨b,iA,x,gf,rfl,rfl⟩:=aH.cons ab
  have aR:=c9.at_ aH
  obtain⟨bl,_,kM⟩:=aH.get
  have fa:=aZ i aU (by rw [List.length_map,AI];exact kM) bo
  rw [lp bl]at fa
  refine aj ?_
  refine ap (jF (v:=aa x.2) (aH.at_ rfl p e) rfl au ad) ?_
  refine aj ?_
  refine ap (jF (v:=aa x.1) (aH.at_ rfl p e) rfl au ad) ?_
  refine aj ?_
  refine iq (own:=[U c [.pointer (some ⟨p,13,none⟩)] 424,all (ig p e fI cJ)]) (hM:=aU) .no rfl rfl fa rfl ?_
  rintro jP bh aC
  refine cx ?_
  refine bD ?_ ?_<;>intro ae
  ·obtain⟨h,_⟩|⟨_,aC⟩:=aC
   ·rw [h]at ae;cases ae
   exact⟨U c [.pointer (some ⟨p,13,none⟩)] 424::all (ig p e fI cJ)::bh,⟨bh,rfl,.inr ⟨i,by rw [List.length_map,AI];exact kM,aC⟩⟩,_,aA⟩
  obtain⟨_,aC⟩|⟨h,_⟩:=aC
  rotate_left
  ·rw [h]at ae;cases ae
  refine aj ?_
  refine ap (jF (v:=ha (.pointer none) iA) (aH.at_ rfl p e) rfl au ad) ?_
  refine aj ?_
  refine k2 (iA,gf,a+x.2,i+1,bh) ?_ ?_ ?_ ?_
  ·(try dsimp only);exact⟨aH.step,⟨by omega,by omega⟩,aC⟩
  ·(try dsimp only);show gf.length<(x::gf).length;rw [List.length_cons];omega
  ·refine⟨?_,?_,?_,?_,trivial⟩<;>rfl
  (try dsimp only);exact⟨_,aA⟩
 have zV:aW=[]:=by cases aW with|nil=>rfl|cons b aW=>cases ab
 exact⟨U c [.pointer (some ⟨p,13,none⟩)] 424::all (ig p e fI cJ)::aU,⟨aU,rfl,.inl (by rw [List.length_map,AI, ←aH.end_ zV];exact bo)⟩,_,aA⟩
theorem mo.id{fI:List Nat}{cJ:ef}{b:Nat}{aW:List Nat}{x:Int×Int}{l:ef}{a id:Int}{i:Nat}(h:mo fI cJ (b::aW) (x::l) a i)(gA:id∉cJ.map Prod.fst):x.1≠id:=fun q=>gA (by rw [←q];exact List.mem_map.2 ⟨x,h.get.2.1,rfl⟩)
theorem aev{cJ:ef}{id:Int}{x:Int×Int}(h:x∈eu 0 cJ)(gA:id∉cJ.map Prod.fst):x.1≠id:=fun q=>gA (by rw [←q, ←GW cJ 0];exact List.mem_map.2 ⟨x,h,rfl⟩)
theorem agp(p:Nat)(e:iR)(fI:List Nat)(cJ:ef)(hj:fI.length=cJ.length)(c9:o5 cJ)(id:Int)(gA:id∉cJ.map Prod.fst):a6 B 293 [.pointer (some ⟨p,13,none⟩),aa id] [all (ig p e fI cJ)] (fun v S=>v= .tuple #[ak,.bool false]∧S=[all (ig p e fI cJ)]):=by
 refine bM 16 Tryz.func293 fun ba bf=>?_
 refine eD fun ax=>?_
 refine fe fun aK=>?_
 refine de fun bq=>?_
 refine cm (ago p 13) ?_
 rintro _ _ ⟨c,rfl,rfl⟩
 refine cx ?_
 refine kS (own:=[U c [.pointer (some ⟨p,13,none⟩)] 424,all (ig p e fI cJ)]) (aU:=[U ax [aa id] 3,U aK [ak] 3,U bq [.bool false] 4]) rfl fF (Z9 c p e fI cJ hj c9) (fun i S=>S=[U ax [aa id] 3,U aK [ak] 3,U bq [.bool false] 4]) (fun c i S=>False) (show Take ([U c [.pointer (some ⟨p,13,none⟩)] 424,all (ig p e fI cJ),U ax [aa id] 3,U aK [ak] 3,U bq [.bool false] 4]) _ _ from aA) (rfl) rfl (fun x al=>by obtain⟨y,_,rfl⟩:=List.mem_map.1 al;rfl) ?_ ?_ ?_
 ·intro cr rec j3 i bh af bo
  subst bo
  rw [List.length_map]at af
  obtain⟨x,b0⟩:∃x,(eu 0 cJ)[i]?=some x:=⟨_,List.getElem?_eq_getElem af⟩
  rw [lp (f:=fun x=>[Value.int .i64 x.1,Value.int .i64 x.2]) b0]
  have gr:=aev (List.mem_of_getElem? b0) gA
  refine aj ?_
  refine⟨rfl,_,_,.cons au (Take.self _),fun hz=>?_⟩
  refine bT ?_ ?_<;>intro ab
  ·exact absurd ab gr
  exact⟨[U ax [aa id] 3,U aK [ak] 3,U bq [.bool false] 4],_,aA,rfl⟩
 ·intro cG bh bo
  subst bo
  refine cx ?_
  refine dA (show Take [dl cG] _ _ from aA) (AB rfl rfl rfl au au ad ad) ?_
  exact bJ
 intro cG c i bh af h
 exact h.elim
theorem agq(p:Nat)(e:iR)(fI:List Nat)(cJ:ef)(hj:fI.length=cJ.length)(c9:o5 cJ)(id:Int)(gA:id∉cJ.map Prod.fst):a6 B 294 [.pointer (some ⟨p,13,none⟩),aa id] [all (ig p e fI cJ)] (fun v S=>v= .bool false∧S=[all (ig p e fI cJ)]):=by
 refine bM 60 Tryz.func294 fun ba bf=>?_
 refine ds (α:=List Nat×ef×Int×Nat×Nat×Nat) (fun⟨aW,l,a,i,j4,ma⟩=>mo fI cJ aW l a i∧x4 (ig (B:=B) p e fI cJ) j4 ma (ha (.pointer none) aW)) (fun⟨aW,l,a,i,j4,ma⟩=>[(5,.pointer (some ⟨j4,ma,none⟩)),(0,.pointer (some ⟨p,13,none⟩)),(1,aa id)]) (fun⟨aW,l,a,i,j4,ma⟩=>[all (ig p e fI cJ)]) (fun⟨aW,l,a,i,j4,ma⟩=>l.length) (fI,cJ,0,0,p,13) ?_ dq aA ?_
 ·exact⟨mo.zero hj,u6 rfl⟩
 rintro⟨aW,l,a,i,j4,ma⟩ ⟨aH,mR⟩
 dsimp only
 refine aj ?_
 refine ap (jF (v:=ha (.pointer none) aW) (mR) rfl au ad) ?_
 refine ap (Du rfl rfl ad) ?_
 refine bT ?_ ?_<;>intro ab
 ·obtain⟨b,iA,x,gf,rfl,rfl⟩:=aH.cons ab
  have gr:=aH.id gA
  refine aj ?_
  refine ap (jF (v:=ag b) (mR) rfl au ad) ?_
  refine aj ?_
  refine ap (jF (v:=aa x.1) (aH.at_ rfl p e) rfl au ad) ?_
  refine bT ?_ ?_<;>intro ae
  ·refine ap (jF (v:=ag b) (mR) rfl au ad) ?_
   refine aj ?_
   refine k2 (iA,gf,a+x.2,i+1,b,2) ?_ ?_ ?_ ?_
   ·(try dsimp only);exact⟨aH.step,aH.at_ rfl p e⟩
   ·(try dsimp only);show gf.length<(x::gf).length;rw [List.length_cons];omega
   ·refine⟨?_,?_,?_,trivial⟩<;>rfl
   (try dsimp only);exact⟨_,aA⟩
  exact absurd ae gr
 exact bJ
def xZ(L:List (ar B))(b k:Nat)(v:Value)(g8:List (ar B)):Prop:=∃aF qJ dv hC,L.Perm (U b aF dv::hC)∧nA aF k v qJ∧(U b qJ dv::hC).Perm g8
theorem CX{fY g8:List (ar B)}{b k dv:Nat}{aF qJ:List Value}{v:Value}(h:nA aF k v qJ):xZ (fY++U b aF dv::g8) b k v (fY++U b qJ dv::g8):=
  ⟨aF,qJ,dv,fY++g8,List.perm_middle,h,List.perm_middle.symm⟩
abbrev zW(p:Nat)(e:iR)(fi:Nat)(n:Int)(fD:List Nat)(bA:ef)(aW:List Nat)(l:ef):List (ar B):=U p (hE {e with first:=ha (ag fi) fD,many:=n}) 288::(lk (ag fi) fD bA++lk (.pointer none) aW l)
def U9(p:Nat)(fD:List Nat)(j4 ma:Nat):Prop:=(fD=[]∧j4=p∧ma=13)∨(∃c,fD=c++[j4]∧ma=2)
theorem GY{p:Nat}{e:iR}{fD aW:List Nat}{bA l:ef}(h:fD.length=bA.length):(ig p e (fD++aW) (bA++l):List (ar B))=U p (hE (wV e (fD++aW) (bA++l).length)) 288::(lk (ha (.pointer none) aW) fD bA++lk (.pointer none) aW l):=by rw [ig,Gx h]
theorem QE{p b:Nat}{e:iR}{fD aW:List Nat}{bA l:ef}{x:Int×Int}{y:Int}(h:fD.length=bA.length):xZ (ig (B:=B) p e (fD++b::aW) (bA++x::l)) b 1 (aa y) (ig p e (fD++b::aW) (bA++(x.1,y)::l)):=by
  have cb:(ig p e (fD++b::aW) (bA++x::l):List (ar B))=(U p (hE (wV e (fD++b::aW) (bA++x::l).length)) 288::lk (ag b) fD bA)++U b (qI x (ha (.pointer none) aW)) 426::lk (.pointer none) aW l:=GY h
  have cq:(ig p e (fD++b::aW) (bA++(x.1,y)::l):List (ar B))=(U p (hE (wV e (fD++b::aW) (bA++x::l).length)) 288::lk (ag b) fD bA)++U b (qI (x.1,y) (ha (.pointer none) aW)) 426::lk (.pointer none) aW l:=by rw [GY h];simp;rfl
  rw [cb,cq]
  exact CX (nA.succ (nA.zero _ _ _))
theorem Pp{p fi j4 ma:Nat}{e:iR}{fD aW:List Nat}{bA l:ef}(h:fD.length=bA.length)(a5:U9 p fD j4 ma):xZ (ig (B:=B) p e (fD++aW) (bA++l)) j4 ma (ag fi) (zW p e fi (bA++l).length fD bA aW l):=by
  rw [GY h]
  rcases a5 with⟨rfl,rfl,rfl⟩|⟨c,rfl,rfl⟩
  · rw [List.eq_nil_of_length_eq_zero (show bA.length=0 from h.symm)]
    exact CX (fY:=[]) kC
  · obtain⟨cQ,y,rfl⟩:∃cQ y,bA=cQ++[y]:=by
      cases aE:bA.reverse with
      |nil=>rw [List.reverse_eq_nil_iff.1 aE]at h;simp at h
      |cons y r=>exact⟨r.reverse,y,by have:=congrArg List.reverse aE;simpa using this⟩
    have a7:c.length=cQ.length:=by simpa using h
    have cb:∀t:Value,(lk t (c++[j4]) (cQ++[y]):List (ar B))=lk (ag j4) c cQ++[U j4 (qI y t) 426]:=fun t=>by rw [Gx a7];rfl
    have cq:∀t:Value,ha t (c++[j4])=ha (ag j4) c:=fun t=>Gw
    unfold zW
    rw [cb,cb,cq,List.append_assoc,List.append_assoc,List.append_assoc]
    have fP:ha (.pointer none) (c++([j4]++aW))=ha (ag j4) c:=Gw
    unfold wV
    rw [fP]
    have:=CX (B:=B) (fY:=U p (hE {e with first:=ha (ag j4) c,many:=((cQ++([y]++l)).length:Int)}) 288::lk (ag j4) c cQ) (g8:=lk (.pointer none) aW l) (b:=j4) (dv:=426) (aF:=qI y (ha (.pointer none) aW)) (qJ:=qI y (ag fi)) (nA.succ (nA.succ (nA.zero _ _ _)))
    simpa only [List.append_assoc,List.cons_append,List.nil_append]using this
theorem TN{p fi k:Nat}{e:iR}{fD aW:List Nat}{bA l:ef}{n:Int}{v:Value}(h:(hE {e with first:=ha (ag fi) fD,many:=n})[k]?=some v):x4 (zW (B:=B) p e fi n fD bA aW l) p k v:=⟨_,_,List.mem_cons_self ..,h⟩
theorem Pq{p fi:Nat}{e:iR}{fD aW:List Nat}{bA l:ef}{n m:Int}:xZ (zW (B:=B) p e fi n fD bA aW l) p 14 (aa m) (zW p e fi m fD bA aW l):=
  CX (fY:=[]) kC
theorem Pr{p fi:Nat}{e:iR}{fD aW:List Nat}{bA l:ef}{x:Int×Int}{n:Int}(h:fD.length=bA.length)(aP:n=((bA++x::l).length:Int)):(U fi (qI x (ha (.pointer none) aW)) 426::zW (B:=B) p e fi n fD bA aW l).Perm (ig p e (fD++fi::aW) (bA++x::l)):=by
 rw [GY h]
 subst aP
 unfold zW wV
 rw [Gw]
 refine(List.Perm.swap _ _ _).trans (List.Perm.cons _ ?_)
 exact List.perm_middle.symm
theorem agr(p:Nat)(e:iR)(fI:List Nat)(cJ:ef)(hj:fI.length=cJ.length)(c9:o5 cJ)(id:Int)(gA:id∉cJ.map Prod.fst)(n:Int)(aP:1≤n∧n≤65536)(ags:cJ.length<64):a6 B 284 [.pointer (some ⟨p,13,none⟩),aa id,aa n] [all (ig p e fI cJ)] (fun v S=>∃ep:List Nat,ep.length=(hT id n cJ).length∧v= .bool true∧S=[all (ig p e ep (hT id n cJ))]):=by
 refine bM 98 Tryz.func284 fun ba bf=>?_
 refine cc ?_ ?_<;>intro ab
 ·omega
 refine bD ?_ ?_<;>intro ae
 ·omega
 refine eR (agp p e fI cJ hj c9 id gA) ?_
 refine cp ?_
 refine bp (ak) ?_
 refine bp (.bool false) ?_
 refine aj ?_
 refine ap (jF (v:=aa (cJ.length:Int)) (u6 rfl) rfl au ad) ?_
 refine bT ?_ ?_<;>intro av
 ·omega
 refine gH (agq p e fI cJ hj c9 id gA) ?_
 refine ds (α:=List Nat×ef×List Nat×ef×Int×Nat×Nat×Nat×Int) (fun⟨fD,bA,aW,l,a,i,j4,ma,t⟩=>mo fI cJ aW l a i∧x4 (ig (B:=B) p e fI cJ) j4 ma (ha (.pointer none) aW)∧(fI=fD++aW∧cJ=bA++l∧fD.length=bA.length)∧hT id n cJ=bA++hT id t l∧(0≤t∧t≤65536∧0≤a)∧U9 p fD j4 ma) (fun⟨fD,bA,aW,l,a,i,j4,ma,t⟩=>[(9,.pointer (some ⟨j4,ma,none⟩)),(2,aa t),(0,.pointer (some ⟨p,13,none⟩)),(1,aa id)]) (fun⟨fD,bA,aW,l,a,i,j4,ma,t⟩=>[all (ig p e fI cJ)]) (fun⟨fD,bA,aW,l,a,i,j4,ma,t⟩=>l.length) ([],[],fI,cJ,0,0,p,13,n) ?_ dq aA ?_
 ·exact⟨mo.zero hj,u6 rfl,⟨rfl,rfl,rfl⟩,rfl,⟨by omega,by omega,by omega⟩,.inl ⟨rfl,rfl,rfl⟩⟩
 rintro⟨fD,bA,aW,l,a,i,j4,ma,t⟩ ⟨aH,mR,zA,wI,aL,Va⟩
 dsimp only
 refine aj ?_
 refine ap (jF (v:=ha (.pointer none) aW) (mR) rfl au ad) ?_
 refine ap (Du rfl rfl ad) ?_
 refine aj ?_
 refine cc ?_ ?_<;>intro aV
 ·obtain⟨b,iA,x,gf,rfl,rfl⟩:=aH.cons aV
  have aR:=c9.at_ aH
  refine aj ?_
  refine ap (jF (v:=ag b) (mR) rfl au ad) ?_
  refine aj ?_
  refine ap (jF (v:=aa x.2) (aH.at_ rfl p e) rfl au ad) ?_
  refine bT ?_ ?_<;>intro bN
  ·refine ap (jF (v:=ag b) (mR) rfl au ad) ?_
   refine aj ?_
   refine ap (jF (v:=aa x.2) (aH.at_ rfl p e) rfl au ad) ?_
   refine aj ?_
   refine ap (jF (v:=ag b) (mR) rfl au ad) ?_
   refine aj ?_
   refine k2 (fD++[b],bA++[x],iA,gf,a+x.2,i+1,b,2,t-x.2) ?_ ?_ ?_ ?_
   ·(try dsimp only);exact⟨aH.step,aH.at_ rfl p e,⟨by rw [zA.1];simp,by rw [zA.2.1];simp,by simp;exact zA.2.2⟩,by rw [wI,hT,if_pos bN];simp,⟨by omega,by omega,by omega⟩,.inr ⟨fD,rfl,rfl⟩⟩
   ·(try dsimp only);show gf.length<(x::gf).length;rw [List.length_cons];omega
   ·refine⟨?_,?_,?_,?_,trivial⟩<;>rfl
   (try dsimp only);exact⟨_,aA⟩
  obtain⟨rfl,rfl,oa⟩:=zA
  have aj8:(bA++(x.1,x.2-t)::gf).length=(bA++x::gf).length:=by simp
  refine aj ?_
  refine ap (jF (v:=ag b) (mR) rfl au ad) ?_
  refine aj ?_
  refine eD fun ax=>?_
  refine rm ?_
  refine dn (ag b) ?_
  refine l5 ?_
  refine dn (ag b) ?_
  refine aj ?_
  refine ap (jF (v:=aa x.2) (aH.at_ rfl p e) rfl au ad) ?_
  refine aj ?_
  obtain⟨aF,qJ,dv,fY,qK,jK,iy⟩:=QE (B:=B) (p:=p) (b:=b) (e:=e) (aW:=iA) (l:=gf) (x:=x) (y:=x.2-t) oa
  refine hr (tv qK au) ?_
  refine fq (jr rfl rfl rfl au ad jK) ?_
  refine hr (tz iy aA) ?_
  refine aj ?_
  obtain⟨aF,qJ,dv,fY,qK,jK,iy⟩:=Pp (B:=B) (p:=p) (fi:=ax) (e:=e) (aW:=b::iA) (l:=(x.1,x.2-t)::gf) oa Va
  refine hr (tv qK au) ?_
  refine fq (jr rfl rfl rfl au ad jK) ?_
  refine hr (tz iy aA) ?_
  refine aj ?_
  refine ap (jF (v:=aa ((bA++(x.1,x.2-t)::gf).length:Int)) (TN rfl) rfl au ad) ?_
  refine aj ?_
  obtain⟨aF,qJ,dv,fY,qK,jK,iy⟩:=Pq (B:=B) (p:=p) (fi:=ax) (e:=e) (fD:=fD) (bA:=bA) (aW:=b::iA) (l:=(x.1,x.2-t)::gf) (n:=((bA++(x.1,x.2-t)::gf).length:Int)) (m:=((bA++(x.1,x.2-t)::gf).length:Int)+1)
  refine hr (tv qK au) ?_
  refine fq (jr rfl rfl rfl au ad jK) ?_
  refine hr (tz iy aA) ?_
  refine hr (tz (Pr (fi:=ax) (x:=(id,t)) (aW:=b::iA) (l:=(x.1,x.2-t)::gf) (n:=((bA++(x.1,x.2-t)::gf).length:Int)+1) oa (by simp only [List.length_append,List.length_cons];omega)) cd) ?_
  refine aj ?_
  rw [wI,hT,if_neg ah]
  exact aO ⟨fD++ax::b::iA,by simp only [List.length_append,List.length_cons]at*;omega,rfl,rfl⟩
 have zV:aW=[]:=by cases aW with|nil=>rfl|cons b aW=>cases aV
 subst zV
 have hle:l=[]:=by obtain⟨_,_,_,_,_,aV,_⟩:=aH;exact List.eq_nil_of_length_eq_zero aV.symm
 subst hle
 obtain⟨rfl,rfl,oa⟩:=zA
 refine aj ?_
 refine ap (jF (v:= .pointer none) (mR) rfl au ad) ?_
 refine aj ?_
 refine eD fun aK=>?_
 refine rm ?_
 refine dn (.pointer none) ?_
 refine aj ?_
 obtain⟨aF,qJ,dv,fY,qK,jK,iy⟩:=Pp (B:=B) (p:=p) (fi:=aK) (e:=e) (aW:=[]) (l:=[]) oa Va
 refine hr (tv qK au) ?_
 refine fq (jr rfl rfl rfl au ad jK) ?_
 refine hr (tz iy aA) ?_
 refine aj ?_
 refine ap (jF (v:=aa ((bA++[]).length:Int)) (TN rfl) rfl au ad) ?_
 refine aj ?_
 obtain⟨aF,qJ,dv,fY,qK,jK,iy⟩:=Pq (B:=B) (p:=p) (fi:=aK) (e:=e) (fD:=fD) (bA:=bA) (aW:=[]) (l:=[]) (n:=((bA++[]).length:Int)) (m:=((bA++[]).length:Int)+1)
 refine hr (tv qK au) ?_
 refine fq (jr rfl rfl rfl au ad jK) ?_
 refine hr (tz iy aA) ?_
 refine hr (tz (Pr (fi:=aK) (x:=(id,t)) (aW:=[]) (l:=[]) (n:=((bA++[]).length:Int)+1) oa gO) cd) ?_
 refine aj ?_
 rw [wI,hT]
 exact aO ⟨fD++[aK],by simp only [List.length_append,List.length_cons,List.length_nil]at*;omega,rfl,rfl⟩
theorem Hu{p b k:Nat}{e:iR}{aW:List Nat}{x:Int×Int}{l:ef}{v:Value}(h:(qI x (ha (.pointer none) aW))[k]?=some v):x4 (ig (B:=B) p e (b::aW) (x::l)) b k v:=⟨_,426,List.mem_cons_of_mem _ (List.mem_cons_self ..),h⟩
theorem aaa{aW:List Nat}:(ha (.pointer none) aW).oneCell'=true:=by cases aW<;>rfl
theorem agt{p k:Nat}{e:iR}{L:List (ar B)}{v:Value}(h:(hE e)[k]?=some v):x4 (U p (hE e) 288::L) p k v:=⟨_,_,List.mem_cons_self ..,h⟩
theorem SD{p k:Nat}{cb cq:iR}{L:List (ar B)}{v:Value}(h:nA (hE cb) k v (hE cq)):xZ (U p (hE cb) 288::L) p k v (U p (hE cq) 288::L):=CX (fY:=[]) h
abbrev hF(a:an Int):ar B:=eO a 3 1 ea
theorem SE{aW:List Nat}{l:ef}(h:aW.length=l.length)(aR:aW.isEmpty=false):∃b iA x gf,aW=b::iA∧l=x::gf:=by
  cases aW with
  |nil=>cases aR
  |cons b aW=>
    cases l with
    |nil=>cases h
    |cons x l=>exact⟨b,aW,x,l,rfl,rfl⟩
theorem agu(p:Nat)(e:iR)(fI:List Nat)(cJ:ef)(hj:fI.length=cJ.length)(c9:o5 cJ):a6 B 262 [.pointer (some ⟨p,13,none⟩)] [all (ig p e fI cJ)] (fun v S=>∃(a:an Int) (ep:List Nat),(a.l=(eh cJ).1∧a.Own∧ep.length=(eh cJ).2.length)∧v=az a∧S=[all (ig p e ep (eh cJ).2),hF a]):=by
 refine dN 62 Tryz.func262 fun ba bf=>?_
 refine gE ea 3 1 ?_
 refine aj ?_
 refine ap (jF (v:=ha (.pointer none) fI) (u6 rfl) rfl au ad) ?_
 refine ap (ady rfl rfl ad) ?_
 refine bT ?_ ?_<;>intro ab
 ·have zV:fI=[]:=by cases fI with|nil=>rfl|cons b aW=>cases ab
  subst zV
  have hle:cJ=[]:=List.eq_nil_of_length_eq_zero hj.symm
  subst hle
  refine aj ?_
  exact aO ⟨an.bt,[],⟨rfl,an.fk,rfl⟩,rfl,rfl⟩
 obtain⟨b,iA,x,gf,ED,rfl⟩:=SE hj ab
 have aj9:0≤x.2∧x.2≤65536:=⟨c9.o4 x (List.mem_cons_self ..),by have:=(c9.due (x.1,0+x.2) (List.mem_cons_self ..)).2;have this:0+x.2≤65536:=this;omega⟩
 subst ED
 refine aj ?_
 refine ap (jF (v:=ag b) (u6 rfl) rfl au ad) ?_
 refine aj ?_
 refine ap (jF (v:=aa x.2) (Hu rfl) rfl au ad) ?_
 refine aj ?_
 obtain⟨aF,qJ,dv,fY,qK,jK,iy⟩:=(show xZ (B:=B) (ig p e (b::iA) (x::gf)) b 1 (aa (x.2-1)) (ig p e (b::iA) ((x.1,x.2-1)::gf))from QE (fD:=[]) (bA:=[]) rfl)
 refine hr (tv qK au) ?_
 refine fq (jr rfl rfl rfl au ad jK) ?_
 refine hr (tz iy aA) ?_
 refine aj ?_
 refine ds (α:=List Nat×ef×an Int) (fun⟨aW,l,a⟩=>(aW.length=l.length∧a.Own∧a.l.length+l.length≤64)∧a.l++(nF l).1=(eh (x::gf)).1∧(nF l).2=(eh (x::gf)).2) (fun⟨aW,l,a⟩=>[(3,az a),(0,.pointer (some ⟨p,13,none⟩))]) (fun⟨aW,l,a⟩=>[all (ig p e aW l),hF a]) (fun⟨aW,l,a⟩=>l.length) (b::iA,(x.1,x.2-1)::gf,(an.bt:an Int)) ?_ dq aA ?_
 ·exact⟨⟨by rw [hj];rfl,an.fk,by show 0+(_+1)≤64;have:=c9.len;rw [List.length_cons]at this;omega⟩,rfl,rfl⟩
 rintro⟨aW,l,a⟩ ⟨⟨aE,cO,hle⟩,yp,o6⟩
 dsimp only
 refine aj ?_
 refine ap (jF (v:=ha (.pointer none) aW) (u6 rfl) rfl au ad) ?_
 refine ap (Du rfl rfl ad) ?_
 refine aj ?_
 refine cc ?_ ?_<;>intro ae
 ·obtain⟨b,iA,y,bA,rfl,rfl⟩:=SE aE ae
  refine aj ?_
  refine ap (jF (v:=ag b) (u6 rfl) rfl au ad) ?_
  refine aj ?_
  refine ap (jF (v:=aa y.2) (Hu rfl) rfl au ad) ?_
  refine bT ?_ ?_<;>intro av
  ·refine ap (jF (v:=ag b) (u6 rfl) rfl au ad) ?_
   refine aj ?_
   refine ap (jF (v:=aa y.1) (Hu rfl) rfl au ad) ?_
   refine im (aF:=[aa y.1]) .no rfl ad b2 b2 (by rfl) (by rfl) rfl rfl (fun ax=>?_)
   refine xr (a2:=ea) (c:=a) (y:=y.1) (K:=_) .no rfl rfl ad au au (ir) rfl rfl (by have:=hle;omega) (by have:=hle;omega) rfl (fun cI fH iH=>?_)
   refine aj ?_
   refine ap (jF (v:=ag b) (u6 rfl) rfl au ad) ?_
   refine aj ?_
   refine ap (jF (v:=ha (.pointer none) iA) (Hu rfl) rfl au ad) ?_
   refine aj ?_
   obtain⟨aF,qJ,dv,fY,qK,jK,iy⟩:=(show xZ (B:=B) (ig p e (b::iA) (y::bA)) p 13 (ha (.pointer none) iA) (U p (hE {e with first:=ha (.pointer none) iA,many:=((y::bA).length:Int)}) 288::U b (qI y (ha (.pointer none) iA)) 426::lk (.pointer none) iA bA)from SD kC)
   refine hr (tv qK au) ?_
   refine fq (jr rfl rfl aaa au ad jK) ?_
   refine hr (tz iy aA) ?_
   refine aj ?_
   refine ap (jF (v:=aa ((y::bA).length:Int)) (agt rfl) rfl au ad) ?_
   refine aj ?_
   obtain⟨aF,qJ,dv,fY,qK,jK,iy⟩:=(show xZ (B:=B) (U p (hE {e with first:=ha (.pointer none) iA,many:=((y::bA).length:Int)}) 288::U b (qI y (ha (.pointer none) iA)) 426::lk (.pointer none) iA bA) p 14 (aa (((y::bA).length:Int)-1)) (U p (hE {e with first:=ha (.pointer none) iA,many:=((y::bA).length:Int)-1}) 288::U b (qI y (ha (.pointer none) iA)) 426::lk (.pointer none) iA bA)from SD kC)
   refine hr (tv qK au) ?_
   refine fq (jr rfl rfl rfl au ad jK) ?_
   refine hr (tz iy aA) ?_
   rw [show(((y::bA).length:Int)-1)=(bA.length:Int)from by rw [List.length_cons];omega]
   refine hr (tv (a:=U b (qI y (ha (.pointer none) iA)) 426) (gf:=ig p e iA bA) (List.Perm.swap _ _ _) au) ?_
   refine aj ?_
   refine k2 (iA,bA,cI) ?_ ?_ ?_ ?_
   ·(try dsimp only);exact⟨⟨by simpa using aE,iH,by rw [fH,List.length_append];rw [List.length_cons]at hle;show a.l.length+1+bA.length≤64;omega⟩,by rw [fH, ←yp,nF,if_pos av,List.append_assoc];rfl,by rw [←o6,nF,if_pos av]⟩
   ·(try dsimp only);show bA.length<(y::bA).length;rw [List.length_cons];omega
   ·refine⟨?_,?_,trivial⟩<;>rfl
   (try dsimp only);exact⟨_,aA⟩
  have cb:nF (y::bA)=([],y::bA):=by rw [nF,if_neg av]
  rw [cb]at yp o6
  exact aO ⟨a,b::iA,⟨by rw [←yp];simp,cO,by rw [←o6];exact aE⟩,rfl,by rw [←o6]⟩
 have zV:aW=[]:=by cases aW with|nil=>rfl|cons b aW=>cases ae
 subst zV
 have pA:l=[]:=List.eq_nil_of_length_eq_zero aE.symm
 subst pA
 refine aj ?_
 exact⟨[all (ig p e [] []),hF a],⟨a,[],⟨by rw [←yp];simp [nF],cO,by rw [←o6];rfl⟩,rfl,by rw [←o6];rfl⟩,_,cd⟩
abbrev nd(y:bZ)(o:fW)(e:cw)(aW:List Nat):iR:=⟨y,o,e.mode,e.aT,e.phase,e.since,e.now,e.held,e.op,ha (.pointer none) aW,(e.a0.length:Int)⟩
abbrev eg(p:Nat)(y:bZ)(o:fW)(e:cw)(aW:List Nat):ar B:=U p (hE (nd y o e aW)) 288
abbrev hB(aW:List Nat)(e:cw):ar B:=all (lk (.pointer none) aW e.a0)
theorem K8(p:Nat)(y:bZ)(o:fW)(e:cw)(aW:List Nat)(hj:aW.length=e.a0.length)(c9:o5 e.a0)(id:Int)(gA:id∉e.a0.map Prod.fst)(n:Int)(aP:1≤n∧n≤65536)(aE:e.a0.length<64):a6 B 284 [.pointer (some ⟨p,13,none⟩),aa id,aa n] [eg p y o e aW,hB aW e] (fun v S=>∃ep:List Nat,ep.length=(hT id n e.a0).length∧v= .bool true∧S=[eg p y o {e with a0:=hT id n e.a0} ep,hB ep {e with a0:=hT id n e.a0}]):=by
 refine j9 (p6 (agr p (nd y o e aW) aW e.a0 hj c9 id gA n aP aE) (yM _ (.cons (.here _ _) (.cons (.here _ _) (.nil _))))) ?_
 rintro v S ⟨ep,h,rfl,rfl⟩
 exact⟨_,_,[],Cv (l:=[U p (hE (wV (nd y o e aW) ep (hT id n e.a0).length)) 288]) (m:=lk (.pointer none) ep (hT id n e.a0)) (.cons (.here _ _) (.nil _)),Take.self _,ep,h,rfl,rfl⟩
theorem aew(p:Nat)(y:bZ)(o:fW)(e:cw)(aW:List Nat)(hj:aW.length=e.a0.length)(c9:o5 e.a0):a6 B 262 [.pointer (some ⟨p,13,none⟩)] [eg p y o e aW,hB aW e] (fun v S=>∃(a:an Int) (ep:List Nat),(a.l=(eh e.a0).1∧a.Own∧ep.length=(eh e.a0).2.length)∧v=az a∧S=[eg p y o {e with a0:=(eh e.a0).2} ep,hB ep {e with a0:=(eh e.a0).2},hF a]):=by
 refine j9 (p6 (agu p (nd y o e aW) aW e.a0 hj c9) (yM _ (.cons (.here _ _) (.cons (.here _ _) (.nil _))))) ?_
 rintro v S ⟨a,ep,h,rfl,rfl⟩
 exact⟨_,_,[],Cv (l:=[U p (hE (wV (nd y o e aW) ep (eh e.a0).2.length)) 288]) (m:=lk (.pointer none) ep (eh e.a0).2) (.cons (.here _ _) (.nil _)),Take.self _,a,ep,h,rfl,rfl⟩
structure oL(y:bZ)(o:fW)(b3 cF aB:ar B):Prop where
  aZ:y.In b3
  pO:dI cF o.bd.bu (o.bd.l.flatMap ku)
  ce:o.bd.l=y.c.bd.map fun e=>(iI y.c e).1
  bO:hd aB
  aJ:hK aB
  qL:hU y.c
theorem oL.sp{y:bZ}{o:fW}{b3 cF aB:ar B}(h:oL y o b3 cF aB){i:Int}(af:hb y.c i):o.bd.l[i.toNat]?=some (eN y.c i):=by rw [h.ce,List.getElem?_map,af.at_];rfl
theorem hU.set{c:ck}(h:hU c){i:Int}(af:hb c i):0≤(eN c i).2∧(eN c i).2≤65536:=by
  obtain⟨_,ae,_⟩:=h.e _ _ af.at_
  rcases(show(bk c i 2=1∨bk c i 2=2)∨bk c i 2=3 by omega)with q|q
  · rw [h.EC q];omega
  · have sp:=h.wU af q;have av:=sp.nS;have aV:=sp.le;have bN:=sp.bA;omega
abbrev uq(p:Nat)(y:bZ)(o:fW)(b3 cF aB:ar B)(k:Nat)(e:cw):Value→List (ar B)→Prop:=fun v S=>∃(a:an pb) (aW:List Nat),((a.l.length≤k∧∀n∈a.l,n.c=true→hb y.c n.e)∧a.Own∧aW.length=e.a0.length)∧v=az a∧S=[eg p y o e aW,hB aW e,uX a,b3,cF,aB]
theorem nil_le{e:cw}(h:e.a0=[]):([]:List Nat).length=e.a0.length:=by rw [h];rfl
theorem QF:o5 []:=⟨fun x al=>absurd al List.not_mem_nil,fun x al=>absurd al List.not_mem_nil,by decide⟩
theorem vN{c:ck}{l m k:List pb}{a b:Nat}(h:k=l++m)(ab:l.length≤a∧∀n∈l,n.c=true→hb c n.e)(ae:m.length≤b∧∀n∈m,n.c=true→hb c n.e):k.length≤a+b∧∀n∈k,n.c=true→hb c n.e:=by
  subst h
  exact⟨by rw [List.length_append];omega,fun n aP=>(List.mem_append.1 aP).elim (ab.2 n) (ae.2 n)⟩
theorem TO(p:Nat)(y:bZ)(o:fW)(e:cw)(bB:BitVec 32){b3 cF aB:ar B}(cn:oL y o b3 cF aB)(gp:e.a0=[])(Ub:0≤e.held→∀(i:Nat) (d:Nat→Int),y.c.bd[i]?=some d→d 0=e.mode→a6 B 219 [ag p,aa (i:Int),aQ bB.toNat] [eg p y o {e with phase:=0,aT:= -1,op:=0#32,held:= -1} [],b3,cF,aB] (uq p y o b3 cF aB 3 (lG y.c bB {e with phase:=0,aT:= -1,op:=0#32,held:= -1} (i:Int)))):a6 B 264 [ag p,aQ bB.toNat] [eg p y o e [],b3,cF,aB] (fun v S=>uq p y o b3 cF aB (if e.held<0 then 1 else 4) (jM y.c bB e) v S):=by
 refine dN 61 Tryz.func264 fun ba bf=>?_
 refine tr ?_
 refine aj ?_
 refine k3 [eg p y o e []] ad aA ?_
 refine aY [0,1,2] ?_
 refine bj 3 rfl (da (v:=aa e.aT) ad) ?_
 refine aY [4,5,6] ?_
 refine bj 7 rfl (da (v:=aa e.mode) ad) ?_
 refine aY [8,109] ?_
 refine qV (aF:=[.bool false,.bool false,.bool true,aa (e.aT),aa (e.mode),aa (0)]) rfl .no rfl ad b2 b2 (by rfl) (by rfl) rfl rfl (fun Bd=>?_)
 refine NY (b:=Bd) 1 6 (.here _ _) rfl rfl ?_
 rw [show(row (.slice (some ⟨Bd,0,none⟩) 1 1) 375 6 1 [.bool false,.bool false,.bool true,aa (e.aT),aa (e.mode),aa (0)]:ar B)=uX (rA Bd ⟨false,false,true,e.aT,e.mode,0⟩)from rfl]
 refine aY [10,99] ?_
 refine afH ?_
 refine dn (aa e.held) ?_
 refine bT ?_ ?_<;>intro ab
 ·have cb:jM y.c bB e=l2 e:=by unfold jM;rw [if_pos ab]
  rw [cb,if_pos ab]
  exact aO ⟨(rA Bd ⟨false,false,true,e.aT,e.mode,0⟩),[],⟨⟨by show 1≤1;decide,fun n aP q=>by rw [List.mem_singleton.1 aP]at q;cases q⟩,an.vK,nil_le gp⟩,rfl,rfl⟩
 refine k3 [eg p y o ({e with phase:=0,aT:= -1,op:=0#32}:cw) [],b3] ad cd ?_
 refine aY [0,1,2] ?_
 refine bj 3 rfl (ed (bK:=(b9 y)) rfl au ad rfl (by rfl)) ?_
 refine aY [4,5,6] ?_
 refine bj 7 rfl (da (v:=aa e.mode) ad) ?_
 refine aY [8,9,10] ?_
 refine bj 11 rfl (da (v:=aa e.held) ad) ?_
 refine gb 12 (KA y cn.aZ e.mode e.held) ?_
 refine aY [13] ?_
 refine bG 14 rfl (dD (v:=aa (jc y.c.bd e.mode e.held).1) rfl) ?_
 refine bG 15 rfl (dD (v:= .bool (jc y.c.bd e.mode e.held).2) rfl) ?_
 refine df [16,17,99] ?_
 refine bD ?_ ?_<;>intro ae
 ·have cb:jM y.c bB e={e with phase:=0,aT:= -1,op:=0#32,held:= -1}:=by unfold jM;rw [if_neg ah,if_neg (by rw [ae];decide)];rfl
  rw [cb,if_neg ah]
  exact aO ⟨(rA Bd ⟨false,false,true,e.aT,e.mode,0⟩),[],⟨⟨by show 1≤4;decide,fun n aP q=>by rw [List.mem_singleton.1 aP]at q;cases q⟩,an.vK,nil_le gp⟩,rfl,rfl⟩
 obtain⟨i,d,a1,a3,bI,_⟩:=F7 (l:=y.c.bd) (a:=e.mode) (b:=e.held) (by simpa using ae)
 rw [a1]
 refine nT .no fF rfl (Ub ah i d a3 bI) cd rfl ?_
 rintro _ _ ⟨a,aW,⟨⟨jL,fH⟩,cO,kk⟩,rfl,rfl⟩
 refine bP ?_
 refine j7 (a2:=r3) (c:=(rA Bd ⟨false,false,true,e.aT,e.mode,0⟩)) (b:=a) .no rfl rfl ad au au (dT cO rfl) (fun _=>rfl) (fun _=>rfl) (by show 1+a.l.length≤_;omega) (by show(1+a.l.length)*_≤_;omega) rfl (fun c a7 jg=>?_)
 refine aj ?_
 have cb:jM y.c bB e=lG y.c bB {e with phase:=0,aT:= -1,op:=0#32,held:= -1} (i:Int):=by unfold jM;rw [if_neg ah,if_pos (by rw [ae]),a1];rfl
 rw [cb,if_neg ah]
 exact aO ⟨c,aW,⟨vN (a:=1) (b:=3) a7 ⟨by show 1≤1;decide,fun n aP q=>by rw [List.mem_singleton.1 aP]at q;cases q⟩ ⟨jL,fH⟩,jg,kk⟩,rfl,rfl⟩
theorem J6{y:bZ}{o:fW}{b3 cF aB:ar B}(cn:oL y o b3 cF aB){z:Int}(aS:hb y.c z):a6 B 267 [o.v,aa z] [cF] (fun v S=>v= .tuple #[.agg (ku (eN y.c z)).toArray,.bool true]∧S=[cF]):=by
  obtain⟨i,rfl⟩:=Int.eq_ofNat_of_zero_le aS.ec
  have:=cn.sp aS
  rw [Int.toNat_natCast]at this
  exact ab1 o cn.pO i _ this
theorem J7{y:bZ}{z:Int}(aS:hb y.c z):∃i:Nat,z=(i:Int)∧y.bd.l[i]?=some (bk y.c z):=by
  obtain⟨i,af⟩:=Int.eq_ofNat_of_zero_le aS.ec
  have:=aS.at_
  rw [af,Int.toNat_natCast]at this
  exact⟨i,af,by rw [af];exact this⟩
theorem TP(p:Nat)(y:bZ)(o:fW)(e:cw)(bB:BitVec 32){b3 cF aB:ar B}(cn:oL y o b3 cF aB)(hL:hb y.c e.aT)(gp:e.a0=[])(cN: -1000000000≤e.now∧e.now≤1000000000)(zX: -1000000000≤e.since∧e.since≤1000000000)(mv:cw→cw)(k:Nat)(ai:k≤5)(ud:(eN y.c e.aT).2≤0→a6 B 264 [ag p,aQ bB.toNat] [eg p y o ({e with mode:=bk y.c e.aT 1,phase:=4}:cw) [],b3,cF,aB] (uq p y o b3 cF aB k (mv {e with mode:=bk y.c e.aT 1,phase:=4}))):a6 B 263 [ag p,aQ bB.toNat] [eg p y o e [],b3,cF,aB] (fun v S=>uq p y o b3 cF aB (k+1) (ji y.c mv e) v S):=by
 refine dN 72 Tryz.func263 fun ba bf=>?_
 refine tr ?_
 obtain⟨i,af⟩:=Int.eq_ofNat_of_zero_le hL.ec
 have kN:y.bd.l[i]?=some (bk y.c e.aT):=by have:=hL.at_;rw [af,Int.toNat_natCast]at this;rw [af];exact this
 have kM:i<y.bd.l.length:=(List.getElem?_eq_some_iff.1 kN).1
 have jK:=y.bd.small
 have fo:=cn.qL.set hL
 refine aj ?_
 refine cZ [eg p y o e [],b3] ad aA ?_
 refine aY [0,1,2,3,4,5,6,7,8] ?_
 refine bj 9 rfl (da (v:=aa e.aT) ad) ?_
 refine bG 10 rfl (iW (j:=i) rfl rfl ad (y.bd).fl af ah rfl) ?_
 refine aY [11] ?_
 refine bj 12 rfl (eQ (a2:=dP) (aN:=23) (i:=i) (k:=1) (fun _=>rfl) rfl au cn.aZ.bd ad kN rfl) ?_
 refine df [13,14,115,99] ?_
 refine k3 [eg p y o ({e with mode:=bk y.c e.aT 1}:cw) []] ad aA ?_
 refine aY [0,1,2] ?_
 refine bj 3 rfl (da (v:=aa e.aT) ad) ?_
 refine aY [4,5,6] ?_
 refine bj 7 rfl (da (v:=aa (bk y.c e.aT 1)) ad) ?_
 refine aY [8,9,10] ?_
 refine bj 11 rfl (da (v:=aa e.now) ad) ?_
 refine aY [12,13,14] ?_
 refine bj 15 rfl (da (v:=aa e.since) ad) ?_
 refine aY [16,17,118] ?_
 refine qV (aF:=[.bool false,.bool true,.bool false,aa (e.aT),aa ((bk y.c e.aT 1)),aa (e.now-e.since)]) rfl .no rfl ad b2 b2 (by rfl) (by rfl) rfl rfl (fun zq=>?_)
 refine NY (b:=zq) 1 6 (.here _ _) rfl rfl ?_
 rw [show(row (.slice (some ⟨zq,0,none⟩) 1 1) 375 6 1 [.bool false,.bool true,.bool false,aa (e.aT),aa ((bk y.c e.aT 1)),aa (e.now-e.since)]:ar B)=uX (rA zq ⟨false,true,false,e.aT,(bk y.c e.aT 1),e.now-e.since⟩)from rfl]
 refine aY [19,99] ?_
 refine cp ?_
 refine jT (α:=Nat) (fun bi=>True) (fun bi=>[(6,ag bi),(0,ag p),(1,aQ bB.toNat),(5,az (rA zq ⟨false,true,false,e.aT,(bk y.c e.aT 1),e.now-e.since⟩))]) (fun bi=>[eg p y o ({e with mode:=bk y.c e.aT 1}:cw) [],U bi (ku (eN y.c e.aT)) 190,cF,uX (rA zq ⟨false,true,false,e.aT,(bk y.c e.aT 1),e.now-e.since⟩),b3,aB,all []]) ?_ ?_
 ·skip
  refine k3 [eg p y o ({e with mode:=bk y.c e.aT 1}:cw) []] ad aA ?_
  refine aY [0,1,2] ?_
  refine bj 3 rfl (ed (bK:=[az o.a9,az o.bd]) rfl au ad rfl (by rfl)) ?_
  refine aY [4,5,6] ?_
  refine bj 7 rfl (da (v:=aa e.aT) ad) ?_
  refine lq 8 12 en ?_ ?_
  ·skip
   refine nk (J6 cn hL) ?_
   rintro _ _ ⟨rfl,rfl⟩
   refine bP ?_
   refine gv ?_
   refine aY [9] ?_
   refine bG 10 rfl (dD (v:= .agg (ku (eN y.c e.aT)).toArray) rfl) ?_
   refine bG 11 rfl (dD (v:= .bool true) rfl) ?_
   refine aY [112] ?_
   refine lO rfl .no ad rfl (fun ue=>?_)
   refine aY [113] ?_
   refine mC rfl .no dy (kG rfl rfl rfl au ad rfl rfl) aA ?_
   refine aY [14,99] ?_
   exact ez ue trivial
  skip
  refine lO rfl .no ad rfl (fun ue=>?_)
  refine gb 8 (J6 cn hL) ?_
  refine aY [9] ?_
  refine bG 10 rfl (dD (v:= .agg (ku (eN y.c e.aT)).toArray) rfl) ?_
  refine bG 11 rfl (dD (v:= .bool true) rfl) ?_
  refine aY [113] ?_
  refine mC rfl .no dy (kG rfl rfl rfl au ad rfl rfl) aA ?_
  refine aY [14,99] ?_
  exact ez ue trivial
 intro bi _
 refine DP ?_
 refine dn (aa (eN y.c e.aT).2) ?_
 refine bT ?_ ?_<;>intro ab
 ·refine cZ [U bi (ku (eN y.c e.aT)) 190] ad aA ?_
  refine aY [0,1,2,3] ?_
  refine bj 4 rfl (da (v:=aa (eN y.c e.aT).2) ad) ?_
  refine aY [105] ?_
  refine Cs rfl .no fF rfl dy (K8 p y o ({e with mode:=bk y.c e.aT 1,phase:=4}:cw) [] (nil_le gp) (by show o5 e.a0;rw [gp];exact QF) 17 (by show _∉List.map _ e.a0;rw [gp];exact List.not_mem_nil) (eN y.c e.aT).2 ah (by show e.a0.length<64;rw [gp];decide)) cd rfl ?_
  rintro _ _ ⟨ep,jj,rfl,rfl⟩
  refine bP ?_
  refine gv ?_
  refine df [99] ?_
  have cb:ji y.c mv e={e with mode:=bk y.c e.aT 1,phase:=4,a0:=hT 17 (eN y.c e.aT).2 e.a0}:=by unfold ji;rw [if_pos ab,yI (by rw [gp];exact List.not_mem_nil) ⟨by omega,fo.2⟩ (by rw [gp];decide)]
  rw [cb]
  exact aO ⟨(rA zq ⟨false,true,false,e.aT,(bk y.c e.aT 1),e.now-e.since⟩),ep,⟨⟨by show 1≤k+1;omega,fun n aP _=>by rw [List.mem_singleton.1 aP];exact hL⟩,an.vK,jj⟩,rfl,rfl⟩
 refine nT .no fF rfl (ud ah) cd rfl ?_
 rintro _ _ ⟨a,o7,⟨jL,cO,kk⟩,rfl,rfl⟩
 refine bP ?_
 refine j7 (a2:=r3) (c:=(rA zq ⟨false,true,false,e.aT,(bk y.c e.aT 1),e.now-e.since⟩)) (b:=a) .no rfl rfl ad au au (dT cO rfl) (fun _=>rfl) (fun _=>rfl) (by show 1+a.l.length≤_;have:=jL.1;omega) (by show(1+a.l.length)*_≤_;have:=jL.1;omega) rfl (fun c a7 jg=>?_)
 refine aj ?_
 have cb:ji y.c mv e=mv {e with mode:=bk y.c e.aT 1,phase:=4}:=by unfold ji;rw [if_neg ah]
 rw [cb]
 exact aO ⟨c,o7,⟨by rw [Nat.add_comm];exact vN (a:=1) (b:=k) a7 ⟨by show 1≤1;decide,fun n aP _=>by rw [List.mem_singleton.1 aP];exact hL⟩ jL,jg,kk⟩,rfl,rfl⟩
theorem QG{d:Nat→Int}{k:Nat}(h:k<16):([aa (d 3),aa (d 4),aa (d 5),aa (d 6),aa (d 7),aa (d 8),aa (d 9),aa (d 10),aa (d 11),aa (d 12),aa (d 13),aa (d 14),aa (d 15),aa (d 16),aa (d 17),aa (d 18)]:List Value)[k]?=some (aa (d (3+k))):=by
  rcases(by omega:k=0∨k=1∨k=2∨k=3∨k=4∨k=5∨k=6∨k=7∨k=8∨k=9∨k=10∨k=11∨k=12∨k=13∨k=14∨k=15)with rfl|rfl|rfl|rfl|rfl|rfl|rfl|rfl|rfl|rfl|rfl|rfl|rfl|rfl|rfl|rfl<;>rfl
theorem Ok{α:Type}{l:List α}(h:l.Nodup){i:Nat}{x:α}(al:l[i]?=some x):x∉l.take i:=fun q=>by
  obtain⟨j,aI,he⟩:=List.mem_take_iff_getElem.1 q
  obtain⟨af,al⟩:=List.getElem?_eq_some_iff.1 al
  exact List.pairwise_iff_getElem.1 h j i (by omega) af (by omega) (he.trans al.symm)
theorem CY{α β:Type}{f:α→β→α}{l:List β}{i:Nat}{x:β}{a:α}(h:l[i]?=some x):(l.take (i+1)).foldl f a=f ((l.take i).foldl f a) x:=by rw [List.take_add_one,h];simp [List.foldl_append]
theorem RH{y:bZ}{e:cw}(bY:hU y.c)(hL:hb y.c e.aT)(gp:e.a0=[])(yq:e.op=0#32)(i:Nat):∃op a0,((bb (kf y.c (bk y.c e.aT))).take i).foldl (mN (bk y.c e.aT)) e={e with op:=op,a0:=a0}∧o5 a0∧a0.length≤60∧(a0.map Prod.fst).Nodup∧∀z∈a0.map Prod.fst,z<16∧z∈(bb (kf y.c (bk y.c e.aT))).take i:=by
 have BV:=(bY.e _ _ hL.at_).2.2.2
 obtain⟨op,a0,uo,tg,Ac,w7,B6,B7,Ff⟩:=GX (m:=kf y.c (bk y.c e.aT)) (d:=bk y.c e.aT) (fun j aI=>BV.f j aI) ((bb (kf y.c (bk y.c e.aT))).take i) e
  (fun x al=>by
   obtain⟨a1,a3,bI⟩:=iV.1 (List.mem_of_mem_take al)
   obtain⟨k,rfl⟩:=Int.eq_ofNat_of_zero_le a1
   have:=bY.e1 k (vM (a:=iS y.c e.aT) (b:=iT y.c e.aT) bI)
   have:=bY.T.n
   exact⟨a1,by omega,bI⟩) ((IM _ _).sublist (List.take_sublist _ _)) (fun x _ q=>by rw [gp]at q;exact absurd q List.not_mem_nil) (by rw [gp];exact fun x al=>absurd al List.not_mem_nil) (by rw [gp];exact List.nodup_nil) (by rw [gp];exact fun x al=>absurd al List.not_mem_nil) (fun j aI=>by rw [yq,vF]at aI;cases aI) (by rw [gp,List.length_take];have:=xo (kf y.c (bk y.c e.aT));show 0+_≤60;omega)
 refine⟨op,a0,uo,⟨tg,fun x al=>?_,by omega⟩,B7,Ac,fun z aS=>?_⟩
 ·obtain⟨a1,a3,bI,_,eX⟩:=w7 x al
  have:=BV.f x.1.toNat ah
  exact⟨a1,by omega⟩
 refine⟨?_,(Ff z aS).resolve_left (by rw [gp];exact List.not_mem_nil)⟩
 rw [←GW a0 0]at aS
 obtain⟨x,al,rfl⟩:=List.mem_map.1 aS
 exact(w7 x al).2.2.1
theorem agv(p:Nat)(y:bZ)(o:fW)(e:cw){b3 cF aB:ar B}(cn:oL y o b3 cF aB)(hL:hb y.c e.aT)(gp:e.a0=[])(yq:e.op=0#32):a6 B 268 [ag p] [eg p y o e [],b3,cF,aB] (fun v S=>∃ep:List Nat,ep.length=(wT y.c e).a0.length∧v= .tuple #[]∧S=[eg p y o (wT y.c e) ep,hB ep (wT y.c e),b3,cF,aB]):=by
 refine dN 46 Tryz.func268 fun ba bf=>?_
 refine tr ?_
 obtain⟨i,af⟩:=Int.eq_ofNat_of_zero_le hL.ec
 have kN:y.bd.l[i]?=some (bk y.c e.aT):=by have:=hL.at_;rw [af,Int.toNat_natCast]at this;rw [af];exact this
 have kM:i<y.bd.l.length:=(List.getElem?_eq_some_iff.1 kN).1
 have jK:=y.bd.small
 refine aj ?_
 refine fX (aF:=[ag p]) fun ax=>?_
 refine k3 [eg p y o e [],b3,U ax [ag p] 167] ad aA ?_
 refine aY [0,1,2,3,4,5,6,7] ?_
 refine bj 8 rfl (da (v:=aa e.aT) ad) ?_
 refine bG 9 rfl (iW (j:=i) rfl rfl ad (y.bd).fl af ah rfl) ?_
 refine aY [10] ?_
 refine bj 11 rfl (adt (bK:=[aa (bk y.c e.aT 3),aa (bk y.c e.aT 4),aa (bk y.c e.aT 5),aa (bk y.c e.aT 6),aa (bk y.c e.aT 7),aa (bk y.c e.aT 8),aa (bk y.c e.aT 9),aa (bk y.c e.aT 10),aa (bk y.c e.aT 11),aa (bk y.c e.aT 12),aa (bk y.c e.aT 13),aa (bk y.c e.aT 14),aa (bk y.c e.aT 15),aa (bk y.c e.aT 16),aa (bk y.c e.aT 17),aa (bk y.c e.aT 18)]) (a2:=dP) (aN:=23) (i:=i) (k:=3) (fun _=>rfl) rfl au cn.aZ.bd ad kN rfl rfl) ?_
 refine aY [112] ?_
 refine lO rfl .no ad rfl (fun BL=>?_)
 refine aY [113] ?_
 refine mC rfl .no dy (kG rfl rfl rfl au ad rfl rfl) aA ?_
 refine df [99] ?_
 refine nT .no fF rfl (F5 p (nd y o e []) cn.aZ ⟨i,(bk y.c e.aT),af,kN⟩) cd rfl ?_
 rintro _ _ ⟨rfl,rfl⟩
 refine bP ?_
 rw [show s0 (nd y o e [])=((b6 y.c (bk y.c e.aT 0)),(b6 y.c (bk y.c e.aT 1)))from CU af kN]
 refine ap (Cu rfl ad rfl) ?_
 refine cm (re (kf y.c (bk y.c e.aT))) ?_
 rintro _ _ ⟨hY,rfl,rfl⟩
 refine bP ?_
 refine gI ?_
 refine AO cn.aJ au ?_
 refine kS (own:=[U hY [aQ (kf y.c (bk y.c e.aT)).toNat] 158,aB]) (aU:=[eg p y o e [],all [],U BL [aa (bk y.c e.aT 3),aa (bk y.c e.aT 4),aa (bk y.c e.aT 5),aa (bk y.c e.aT 6),aa (bk y.c e.aT 7),aa (bk y.c e.aT 8),aa (bk y.c e.aT 9),aa (bk y.c e.aT 10),aa (bk y.c e.aT 11),aa (bk y.c e.aT 12),aa (bk y.c e.aT 13),aa (bk y.c e.aT 14),aa (bk y.c e.aT 15),aa (bk y.c e.aT 16),aa (bk y.c e.aT 17),aa (bk y.c e.aT 18)] 105,U ax [ag p] 167,b3,cF]) rfl fF (q1 (K:=aB) hY (kf y.c (bk y.c e.aT)) cn.bO) (fun i S=>∃aW:List Nat,aW.length=(((bb (kf y.c (bk y.c e.aT))).take i).foldl (mN (bk y.c e.aT)) e).a0.length∧S=[eg p y o (((bb (kf y.c (bk y.c e.aT))).take i).foldl (mN (bk y.c e.aT)) e) aW,hB aW (((bb (kf y.c (bk y.c e.aT))).take i).foldl (mN (bk y.c e.aT)) e),U BL [aa (bk y.c e.aT 3),aa (bk y.c e.aT 4),aa (bk y.c e.aT 5),aa (bk y.c e.aT 6),aa (bk y.c e.aT 7),aa (bk y.c e.aT 8),aa (bk y.c e.aT 9),aa (bk y.c e.aT 10),aa (bk y.c e.aT 11),aa (bk y.c e.aT 12),aa (bk y.c e.aT 13),aa (bk y.c e.aT 14),aa (bk y.c e.aT 15),aa (bk y.c e.aT 16),aa (bk y.c e.aT 17),aa (bk y.c e.aT 18)] 105,U ax [ag p] 167,b3,cF]) (fun c i S=>False) (show Take ([U hY [aQ (kf y.c (bk y.c e.aT)).toNat] 158,aB,eg p y o e [],all [],U BL [aa (bk y.c e.aT 3),aa (bk y.c e.aT 4),aa (bk y.c e.aT 5),aa (bk y.c e.aT 6),aa (bk y.c e.aT 7),aa (bk y.c e.aT 8),aa (bk y.c e.aT 9),aa (bk y.c e.aT 10),aa (bk y.c e.aT 11),aa (bk y.c e.aT 12),aa (bk y.c e.aT 13),aa (bk y.c e.aT 14),aa (bk y.c e.aT 15),aa (bk y.c e.aT 16),aa (bk y.c e.aT 17),aa (bk y.c e.aT 18)] 105,U ax [ag p] 167,b3,cF]) _ _ from aA) (⟨[],nil_le gp,rfl⟩) rfl (fun x al=>by obtain⟨y,_,rfl⟩:=List.mem_map.1 al;rfl) ?_ ?_ ?_
 ·intro cr rec j3 i bh af bo
  obtain⟨aW,kk,rfl⟩:=bo
  rw [List.length_map]at af
  obtain⟨k,b0⟩:∃k,(bb (kf y.c (bk y.c e.aT)))[i]?=some k:=⟨_,List.getElem?_eq_getElem af⟩
  rw [lp b0]
  obtain⟨BZ,Ew,B0⟩:=iV.1 (List.mem_of_getElem? b0)
  obtain⟨op,a0,sr,c9,rs,qq,gA⟩:=RH cn.qL hL gp yq i
  rw [sr]at kk
  rw [sr]
  obtain⟨j,zY⟩:=Int.eq_ofNat_of_zero_le BZ
  have LK:j<16:=by have:=cn.qL.e1 j (vM (a:=iS y.c e.aT) (b:=iT y.c e.aT) (by rw [←zY];exact B0));have:=cn.qL.T.n;omega
  have Ev:=(cn.qL.e _ _ hL.at_).2.2.2.f j LK
  have yg:k∉a0.map Prod.fst:=fun q=>by obtain⟨_,q⟩:=gA k q;have qq:=IM (kf y.c (bk y.c e.aT)) 32;exact Ok qq b0 q
  refine aj ?_
  refine⟨rfl,_,_,.cons au (Take.self _),fun hz=>?_⟩
  refine aj ?_
  refine pJ ?_ ?_<;>intro ab
  ·omega
  refine cp ?_
  refine ap (p3 rfl rfl ad zY ah rfl) ?_
  refine ap (ft (v:=aa (bk y.c e.aT (3+j))) rfl au ad (by rw [Nat.zero_add,Nat.mul_one];exact QG (d:=bk y.c e.aT) LK)) ?_
  refine bT ?_ ?_<;>intro ae
  ·refine cZ [eg p y o ({e with op:=op,a0:=a0}:cw) aW,U ax [ag p] 167] ad aA ?_
   refine aY [0,1,2,3] ?_
   refine bj 4 rfl (da (v:=aQ op.toNat) ad) ?_
   refine aY [5,106] ?_
   refine gU (tE op k) ?_
   refine df [7,8,109,99] ?_
   have cq:(((bb (kf y.c (bk y.c e.aT))).take (i+1)).foldl (mN (bk y.c e.aT)) e)={e with op:=op|||dL k,a0:=a0}:=by rw [CY b0,sr];unfold mN;rw [if_pos (.inr (by rw [zY,Int.toNat_natCast];exact ae))]
   exact⟨[eg p y o ({e with op:=op|||dL k,a0:=a0}:cw) aW,hB aW ({e with op:=op|||dL k,a0:=a0}:cw),U BL [aa (bk y.c e.aT 3),aa (bk y.c e.aT 4),aa (bk y.c e.aT 5),aa (bk y.c e.aT 6),aa (bk y.c e.aT 7),aa (bk y.c e.aT 8),aa (bk y.c e.aT 9),aa (bk y.c e.aT 10),aa (bk y.c e.aT 11),aa (bk y.c e.aT 12),aa (bk y.c e.aT 13),aa (bk y.c e.aT 14),aa (bk y.c e.aT 15),aa (bk y.c e.aT 16),aa (bk y.c e.aT 17),aa (bk y.c e.aT 18)] 105,U ax [ag p] 167,b3,cF],_,aA,⟨aW,by rw [cq];exact kk,by rw [cq]⟩⟩
  refine cZ [U BL [aa (bk y.c e.aT 3),aa (bk y.c e.aT 4),aa (bk y.c e.aT 5),aa (bk y.c e.aT 6),aa (bk y.c e.aT 7),aa (bk y.c e.aT 8),aa (bk y.c e.aT 9),aa (bk y.c e.aT 10),aa (bk y.c e.aT 11),aa (bk y.c e.aT 12),aa (bk y.c e.aT 13),aa (bk y.c e.aT 14),aa (bk y.c e.aT 15),aa (bk y.c e.aT 16),aa (bk y.c e.aT 17),aa (bk y.c e.aT 18)] 105,U ax [ag p] 167] ad aA ?_
  refine aY [0,1,2,3,4] ?_
  refine bG 5 rfl (ns rfl rfl ad zY ah rfl) ?_
  refine bj 6 rfl (ft (v:=aa (bk y.c e.aT (3+j))) rfl au ad (by rw [Nat.zero_add,Nat.mul_one];exact QG (d:=bk y.c e.aT) LK)) ?_
  refine aY [107] ?_
  refine Cs rfl .no fF rfl dy (K8 p y o ({e with op:=op,a0:=a0}:cw) aW kk c9 k yg (bk y.c e.aT (3+j)) ah (by show a0.length<64;omega)) cd rfl ?_
  rintro _ _ ⟨ep,jj,rfl,rfl⟩
  refine bP ?_
  refine gv ?_
  refine df [99] ?_
  have cq:(((bb (kf y.c (bk y.c e.aT))).take (i+1)).foldl (mN (bk y.c e.aT)) e)={e with op:=op,a0:=hT k (bk y.c e.aT (3+j)) a0}:=by rw [CY b0,sr];unfold mN;rw [if_neg (by rw [zY,Int.toNat_natCast];omega),zY,Int.toNat_natCast,yI (by rw [←zY];exact yg) ⟨by omega,by omega⟩ (by show a0.length<64;omega)]
  exact⟨[eg p y o ({e with op:=op,a0:=hT k (bk y.c e.aT (3+j)) a0}:cw) ep,hB ep ({e with op:=op,a0:=hT k (bk y.c e.aT (3+j)) a0}:cw),U BL [aa (bk y.c e.aT 3),aa (bk y.c e.aT 4),aa (bk y.c e.aT 5),aa (bk y.c e.aT 6),aa (bk y.c e.aT 7),aa (bk y.c e.aT 8),aa (bk y.c e.aT 9),aa (bk y.c e.aT 10),aa (bk y.c e.aT 11),aa (bk y.c e.aT 12),aa (bk y.c e.aT 13),aa (bk y.c e.aT 14),aa (bk y.c e.aT 15),aa (bk y.c e.aT 16),aa (bk y.c e.aT 17),aa (bk y.c e.aT 18)] 105,U ax [ag p] 167,b3,cF],_,aA,⟨ep,by rw [cq];exact jj,by rw [cq]⟩⟩
 ·intro cG bh bo
  obtain⟨aW,kk,rfl⟩:=bo
  rw [List.length_map,List.take_length]at kk⊢
  refine cx ?_
  refine CI (show Take [dl cG] _ _ from aA) (uA rfl) ?_
  exact aO ⟨aW,kk,rfl,rfl⟩
 intro cG c i bh af h
 exact h.elim
theorem hU.vl{c:ck}(h:hU c){i:Int}(af:hb c i)(aC:bk c i 2≠1):(eN c i).1≤65536:=by
  obtain⟨_,ae,_⟩:=h.e _ _ af.at_
  by_cases q:bk c i 2=2
  · have e:(eN c i).1=AY c.aw (bQ (iS c i) (iT c i)):=by
      show(iI c (bk c i)).1.1=_
      unfold iI;rw [if_neg (by omega),if_pos q]
    rw [e]
    have:∀(l:List (Nat→Int)) (m:Int),m≤4096→(∀e∈l,e 0≤4096)→l.foldl (fun m e=>max m (e 0)) m≤4096:=by
      intro l
      induction l with
      |nil=>intro m hm _;exact hm
      |cons a l ih=>intro m hm aE;rw [List.foldl_cons];exact ih _ (by have:=aE a (List.mem_cons_self ..);omega) fun e he=>aE e (List.mem_cons_of_mem _ he)
    have:=this (ht c.aw (bb (bQ (iS c i) (iT c i)))) 0 (by omega) fun e he=>by
      obtain⟨k,_,_,ai⟩:=CW.1 he
      exact(h.T.ok e (List.mem_of_getElem? ai)).1.2
    show List.foldl _ _ _≤_;omega
  · exact(h.wU af (by omega)).bA
theorem aab{y:bZ}{e:cw}(bY:hU y.c)(hL:hb y.c e.aT)(aC:bk y.c e.aT 2=3)(gp:e.a0=[])(yq:e.op=0#32):∃op a0,wT y.c e={e with op:=op,a0:=a0}∧o5 a0∧a0.length≤60∧(16:Int)∉a0.map Prod.fst∧((eN y.c e.aT).1<1→a0=[]):=by
 obtain⟨op,a0,ab,ae,av,aV,bN⟩:=RH bY hL gp yq (bb (kf y.c (bk y.c e.aT))).length
 rw [List.take_length]at ab bN
 refine⟨op,a0,ab,ae,av,fun q=>by have:=(bN 16 q).1;omega,fun q=>?_⟩
 cases a0 with
 |nil=>rfl
 |cons x l=>
  exfalso
  have sp:=bY.wU hL aC
  obtain⟨a1,a3,bI⟩:=iV.1 (bN x.1 (List.mem_cons_self ..)).2
  obtain⟨k,ai⟩:=Int.eq_ofNat_of_zero_le a1
  exact sp.none (by have:=sp.le;omega) k (by rw [←ai];exact vM (a:=iS y.c e.aT) (b:=iT y.c e.aT) bI)
theorem agw(p:Nat)(y:bZ)(o:fW)(e:cw)(bB:BitVec 32){b3 cF aB:ar B}(cn:oL y o b3 cF aB)(gp:e.a0=[])(he:e.held<0):a6 B 264 [ag p,aQ bB.toNat] [eg p y o e [],b3,cF,aB] (uq p y o b3 cF aB 1 (l2 e)):=by
  have:=TO (B:=B) p y o e bB cn gp (fun q=>by omega)
  rw [if_pos he,show jM y.c bB e=l2 e from if_pos he]at this
  exact this
theorem K9(p:Nat)(y:bZ)(o:fW)(e:cw)(bB:BitVec 32){b3 cF aB:ar B}(cn:oL y o b3 cF aB)(hL:hb y.c e.aT)(gp:e.a0=[])(he:e.held<0)(cN: -1000000000≤e.now∧e.now≤1000000000)(zX: -1000000000≤e.since∧e.since≤1000000000):a6 B 263 [ag p,aQ bB.toNat] [eg p y o e [],b3,cF,aB] (uq p y o b3 cF aB 2 (ji y.c l2 e)):=
  TP p y o e bB cn hL gp cN zX l2 1 (by decide) fun _=>agw p y o {e with mode:=bk y.c e.aT 1,phase:=4} bB cn gp he
theorem TQ(p:Nat)(y:bZ)(o:fW)(e:cw)(bB:BitVec 32){b3 cF aB:ar B}(cn:oL y o b3 cF aB)(aW:List Nat)(kk:aW.length=e.a0.length)(sp:Int×Int)(aE:sp.1≤65536)(c9:o5 e.a0)(gA:(16:Int)∉e.a0.map Prod.fst)(rs:e.a0.length≤60)(aS:sp.1<1→e.a0=[])(Ht:sp.1<1→a6 B 263 [ag p,aQ bB.toNat] [eg p y o e [],b3,cF,aB] (uq p y o b3 cF aB 2 (ji y.c l2 e))):a6 B 269 [ag p,.agg (ku sp).toArray,aQ bB.toNat] [eg p y o e aW,hB aW e,b3,cF,aB] (fun v S=>uq p y o b3 cF aB 2 (pQ y.c e sp.1) v S):=by
 refine dN 19 Tryz.func269 fun ba bf=>?_
 refine gE r3 375 6 ?_
 refine aj ?_
 refine fX (aF:=(ku sp)) fun ax=>?_
 refine bD ?_ ?_<;>intro ab
 ·obtain rfl:aW=[]:=List.eq_nil_of_length_eq_zero (by rw [kk,aS ab];rfl)
  refine nT .no fF rfl (Ht ab) cd rfl ?_
  rintro _ _ ⟨a,o7,⟨jL,cO,qM⟩,rfl,rfl⟩
  refine cx ?_
  rw [show pQ y.c e sp.1=ji y.c l2 e from if_pos ab]
  exact aO ⟨a,o7,⟨jL,cO,qM⟩,rfl,rfl⟩
 refine cZ [U ax (ku sp) 190] ad aA ?_
 refine aY [0,1,2,3] ?_
 refine bj 4 rfl (da (v:=aa sp.1) ad) ?_
 refine j0 5 (K8 p y o e aW kk c9 16 gA sp.1 ⟨by omega,aE⟩ (by omega)) ?_
 rintro _ _ ⟨ep,jj,rfl,rfl⟩
 refine bP ?_
 refine gv ?_
 refine df [99] ?_
 rw [show pQ y.c e sp.1={e with a0:=hT 16 sp.1 e.a0}from by unfold pQ;rw [if_neg ah,yI gA ⟨by omega,aE⟩ ah]]
 exact aO ⟨an.bt,ep,⟨⟨by show 0≤2;decide,fun n aP=>absurd aP List.not_mem_nil⟩,an.fk,jj⟩,rfl,rfl⟩
theorem TR(p:Nat)(y:bZ)(o:fW)(e:cw)(bB:BitVec 32)(i:Int){b3 cF aB:ar B}(cn:oL y o b3 cF aB)(af:hb y.c i)(gp:e.a0=[])(he:e.held<0)(cN: -1000000000≤e.now∧e.now≤1000000000):a6 B 219 [ag p,aa i,aQ bB.toNat] [eg p y o e [],b3,cF,aB] (fun v S=>uq p y o b3 cF aB 3 (lG y.c bB e i) v S):=by
 refine dN 85 Tryz.func219 fun ba bf=>?_
 refine tr ?_
 obtain⟨n,rr,kN⟩:=J7 af
 have kM:n<y.bd.l.length:=(List.getElem?_eq_some_iff.1 kN).1
 have jK:=y.bd.small
 have aka:=(cn.qL.e _ _ af.at_).2.1
 refine zi ?_
 refine dn (aa e.now) ?_
 refine aj ?_
 refine ap (jS (j:=n) rfl rfl ad (y.bd).fl rr ah rfl) ?_
 refine aj ?_
 refine ap (eQ (a2:=dP) (aN:=23) (i:=n) (k:=1) (fun _=>rfl) rfl au cn.aZ.bd ad kN rfl) ?_
 refine aj ?_
 refine im (aF:=[.bool true,.bool false,.bool false,aa (i),aa ((bk y.c i 1)),aa (0)]) .no rfl ad b2 b2 (by rfl) (by rfl) rfl rfl (fun zr=>?_)
 refine FM (b:=zr) 1 6 (.here _ _) rfl rfl ?_
 rw [show(row (.slice (some ⟨zr,0,none⟩) 1 1) 375 6 1 [.bool true,.bool false,.bool false,aa (i),aa ((bk y.c i 1)),aa (0)]:ar B)=uX (rA zr ⟨true,false,false,i,(bk y.c i 1),0⟩)from rfl]
 refine l5 ?_
 refine du [az o.a9,az o.bd] ?_
 refine aj ?_
 refine eR (J6 cn af) ?_
 refine cp ?_
 refine bp (.agg (ku (eN y.c i)).toArray) ?_
 refine bp (.bool true) ?_
 refine de fun ax=>?_
 refine ap (jS (j:=n) rfl rfl ad (y.bd).fl rr ah rfl) ?_
 refine aj ?_
 refine ap (eQ (a2:=dP) (aN:=23) (i:=n) (k:=2) (fun _=>rfl) rfl au cn.aZ.bd ad kN rfl) ?_
 refine bT ?_ ?_<;>intro ab
 ·refine bD ?_ ?_<;>intro ae
  ·have Ic:bB=0#32:=BitVec.eq_of_toNat_eq (show bB.toNat=(0#32:BitVec 32).toNat by show bB.toNat=0;omega)
   refine aj ?_
   refine nT .no fF rfl (K9 p y o ({e with aT:=i,since:=e.now,op:=0#32,phase:=1}:cw) bB cn af gp he cN cN) cd rfl ?_
   rintro _ _ ⟨a,o7,⟨jL,cO,qM⟩,rfl,rfl⟩
   refine bP ?_
   refine j7 (a2:=r3) (c:=(rA zr ⟨true,false,false,i,(bk y.c i 1),0⟩)) (b:=a) .no rfl rfl ad au au (dT cO rfl) (fun _=>rfl) (fun _=>rfl) (by show 1+_≤_;have:=jL.1;omega) (by show(1+_)*_≤_;have:=jL.1;omega) rfl (fun c a7 jg=>?_)
   refine aj ?_
   have cb:lG y.c bB e i=ji y.c l2 {e with aT:=i,since:=e.now,op:=0#32,phase:=1}:=by unfold lG;rw [if_pos ab,if_pos Ic]
   rw [cb]
   exact aO ⟨c,o7,⟨vN (a:=1) (b:=2) a7 ⟨by show 1≤1;decide,fun n aP q=>by rw [List.mem_singleton.1 aP]at q;cases q⟩ jL,jg,qM⟩,rfl,rfl⟩
  have rs:¬bB=0#32:=fun q=>by subst q;exact absurd rfl ae
  have cb:lG y.c bB e i={e with aT:=i,since:=e.now,op:=0#32,phase:=1}:=by unfold lG;rw [if_pos ab,if_neg rs]
  rw [cb]
  exact aO ⟨(rA zr ⟨true,false,false,i,(bk y.c i 1),0⟩),[],⟨⟨by show 1≤3;decide,fun n aP q=>by rw [List.mem_singleton.1 aP]at q;cases q⟩,an.vK,nil_le gp⟩,rfl,rfl⟩
 refine c2 ?_ ?_<;>intro av
 ·refine xS ?_
  refine du (ku (eN y.c i)) ?_
  refine aj ?_
  refine nT .no fF rfl (TQ p y o ({e with aT:=i,since:=e.now,op:=0#32,phase:=2}:cw) bB cn [] (nil_le gp) (eN y.c i) (cn.qL.vl af ah) (by show o5 e.a0;rw [gp];exact QF) (by show _∉List.map _ e.a0;rw [gp];exact List.not_mem_nil) (by show e.a0.length≤60;rw [gp];decide) (fun _=>gp) (fun q=>K9 p y o ({e with aT:=i,since:=e.now,op:=0#32,phase:=2}:cw) bB cn af (gp) he cN cN)) cd rfl ?_
  rintro _ _ ⟨a,o7,⟨jL,cO,qM⟩,rfl,rfl⟩
  refine bP ?_
  refine j7 (a2:=r3) (c:=(rA zr ⟨true,false,false,i,(bk y.c i 1),0⟩)) (b:=a) .no rfl rfl ad au au (dT cO rfl) (fun _=>rfl) (fun _=>rfl) (by show 1+_≤_;have:=jL.1;omega) (by show(1+_)*_≤_;have:=jL.1;omega) rfl (fun c a7 jg=>?_)
  refine aj ?_
  have cb:lG y.c bB e i=pQ y.c ({e with aT:=i,since:=e.now,op:=0#32,phase:=2}:cw) (eN y.c i).1:=by unfold lG;rw [if_neg ab,if_neg ah,if_pos av]
  rw [cb]
  exact aO ⟨c,o7,⟨vN (a:=1) (b:=2) a7 ⟨by show 1≤1;decide,fun n aP q=>by rw [List.mem_singleton.1 aP]at q;cases q⟩ jL,jg,qM⟩,rfl,rfl⟩
 refine bT ?_ ?_<;>intro aV
 ·refine nT .no fF rfl (agv p y o ({e with aT:=i,since:=e.now,op:=0#32,phase:=3}:cw) cn af gp rfl) cd rfl ?_
  rintro _ _ ⟨ep,jj,rfl,rfl⟩
  refine bP ?_
  obtain⟨op,a0,H9,c9,rs,gA,aS⟩:=aab (e:=({e with aT:=i,since:=e.now,op:=0#32,phase:=3}:cw)) cn.qL af aV gp rfl
  rw [H9]at jj⊢
  refine l5 ?_
  refine du (ku (eN y.c i)) ?_
  refine aj ?_
  refine nT .no fF rfl (TQ p y o ({e with aT:=i,since:=e.now,op:=op,phase:=3,a0:=a0}:cw) bB cn ep jj (eN y.c i) (cn.qL.vl af ah) c9 gA rs aS (fun q=>K9 p y o ({e with aT:=i,since:=e.now,op:=op,phase:=3,a0:=a0}:cw) bB cn af (aS q) he cN cN)) cd rfl ?_
  rintro _ _ ⟨a,o7,⟨jL,cO,qM⟩,rfl,rfl⟩
  refine bP ?_
  refine j7 (a2:=r3) (c:=(rA zr ⟨true,false,false,i,(bk y.c i 1),0⟩)) (b:=a) .no rfl rfl ad au au (dT cO rfl) (fun _=>rfl) (fun _=>rfl) (by show 1+_≤_;have:=jL.1;omega) (by show(1+_)*_≤_;have:=jL.1;omega) rfl (fun c a7 jg=>?_)
  refine aj ?_
  have cb:lG y.c bB e i=pQ y.c ({e with aT:=i,since:=e.now,op:=op,phase:=3,a0:=a0}:cw) (eN y.c i).1:=by unfold lG;rw [if_neg ab,if_pos aV,H9]
  rw [cb]
  exact aO ⟨c,o7,⟨vN (a:=1) (b:=2) a7 ⟨by show 1≤1;decide,fun n aP q=>by rw [List.mem_singleton.1 aP]at q;cases q⟩ jL,jg,qM⟩,rfl,rfl⟩
 omega
theorem TS(p:Nat)(y:bZ)(o:fW)(e:cw)(bB:BitVec 32){b3 cF aB:ar B}(cn:oL y o b3 cF aB)(gp:e.a0=[])(cN: -1000000000≤e.now∧e.now≤1000000000):a6 B 264 [ag p,aQ bB.toNat] [eg p y o e [],b3,cF,aB] (uq p y o b3 cF aB 4 (jM y.c bB e)):=by
 refine(TO (B:=B) p y o e bB cn gp fun q i d ab ae=>TR p y o _ bB i cn (hb.of ab).1 gp (by show(-1:Int)<0;omega) cN).mono ?_
 rintro v S ⟨a,aW,⟨⟨ab,ae⟩,av⟩,aV⟩
 exact⟨a,aW,⟨⟨by split at ab<;>omega,ae⟩,av⟩,aV⟩
theorem TT(p:Nat)(y:bZ)(o:fW)(e:cw)(bB:BitVec 32){b3 cF aB:ar B}(cn:oL y o b3 cF aB)(hL:hb y.c e.aT)(gp:e.a0=[])(cN: -1000000000≤e.now∧e.now≤1000000000)(zX: -1000000000≤e.since∧e.since≤1000000000):a6 B 263 [ag p,aQ bB.toNat] [eg p y o e [],b3,cF,aB] (uq p y o b3 cF aB 5 (ji y.c (jM y.c bB) e)):=
  TP p y o e bB cn hL gp cN zX (jM y.c bB) 4 (by decide) fun _=>TS p y o {e with mode:=bk y.c e.aT 1,phase:=4} bB cn gp cN
theorem agx(p:Nat)(y:bZ)(o:fW)(e:cw){b3 cF aB:ar B}(cn:oL y o b3 cF aB)(aW:List Nat)(hL:0≤e.aT→hb y.c e.aT):a6 B 218 [ag p] [eg p y o e aW,b3] (fun v S=>v=aa (s6 y.c e)∧S=[eg p y o e aW,b3]):=by
 refine bM 24 Tryz.func218 fun ba bf=>?_
 refine bD ?_ ?_<;>intro ab
 ·rw [show s6 y.c e=e.mode from if_pos ab]
  exact bJ
 have hL:=hL ah
 obtain⟨i,af⟩:=Int.eq_ofNat_of_zero_le hL.ec
 have kN:y.bd.l[i]?=some (bk y.c e.aT):=by have:=hL.at_;rw [af,Int.toNat_natCast]at this;rw [af];exact this
 have kM:i<y.bd.l.length:=(List.getElem?_eq_some_iff.1 kN).1
 have jK:=y.bd.small
 refine aj ?_
 refine k3 [eg p y o e aW,b3] ad aA ?_
 refine aY [0,1,2,3,4,5,6,7,8] ?_
 refine bG 9 rfl (iW (j:=i) rfl rfl ad (y.bd).fl af ah rfl) ?_
 refine aY [10] ?_
 refine bj 11 rfl (eQ (a2:=dP) (aN:=23) (i:=i) (k:=1) (fun _=>rfl) rfl au cn.aZ.bd ad kN rfl) ?_
 refine df [12,99] ?_
 rw [show s6 y.c e=bk y.c e.aT 1 from if_neg ah]
 exact bJ
theorem agy(p:Nat)(y:bZ)(o:fW)(e:cw){b3 cF aB:ar B}(cn:oL y o b3 cF aB)(aW:List Nat)(hL:e.phase=3→hb y.c e.aT):a6 B 141 [ag p] [eg p y o e aW,b3] (fun v S=>v=aQ (sg y.c e).toNat∧S=[eg p y o e aW,b3]):=by
 refine bM 28 Tryz.func141 fun ba bf=>?_
 refine bD ?_ ?_<;>intro ab
 ·rw [show sg y.c e=0#32 from if_pos ab]
  exact bJ
 refine bD ?_ ?_<;>intro ae
 ·have hL:=hL ae
  obtain⟨i,af⟩:=Int.eq_ofNat_of_zero_le hL.ec
  have kN:y.bd.l[i]?=some (bk y.c e.aT):=by have:=hL.at_;rw [af,Int.toNat_natCast]at this;rw [af];exact this
  have kM:i<y.bd.l.length:=(List.getElem?_eq_some_iff.1 kN).1
  have jK:=y.bd.small
  refine aj ?_
  refine cZ [] ad aA ?_
  refine aY [0,3,4,5] ?_
  refine lq 1 6 en ?_ ?_
  ·skip
   refine nk (F5 p (nd y o e aW) cn.aZ ⟨i,(bk y.c e.aT),af,kN⟩) ?_
   rintro _ _ ⟨rfl,rfl⟩
   refine bP ?_
   refine gv ?_
   rw [show s0 (nd y o e aW)=((b6 y.c (bk y.c e.aT 0)),(b6 y.c (bk y.c e.aT 1)))from CU af kN]
   refine bj 2 rfl (Cu rfl ad rfl) ?_
   refine jx 6 ?_
   refine p5 rfl .no dy (da (v:=aQ e.op.toNat) ad) rfl ?_
   refine bj 7 rfl (g6 rfl rfl (dM _) (dM _) rfl) ?_
   refine df [8,99] ?_
   rw [show sg y.c e=((b6 y.c (bk y.c e.aT 0))&&&(b6 y.c (bk y.c e.aT 1)))|||e.op from by unfold sg;rw [if_neg ab,if_pos ae]]
   exact bJ
  skip
  refine p5 rfl .no dy (da (v:=aQ e.op.toNat) ad) rfl ?_
  refine gb 1 (F5 p (nd y o e aW) cn.aZ ⟨i,(bk y.c e.aT),af,kN⟩) ?_
  rw [show s0 (nd y o e aW)=((b6 y.c (bk y.c e.aT 0)),(b6 y.c (bk y.c e.aT 1)))from CU af kN]
  refine bj 2 rfl (Cu rfl ad rfl) ?_
  refine bj 7 rfl (g6 rfl rfl (dM _) (dM _) rfl) ?_
  refine df [8,99] ?_
  rw [show sg y.c e=((b6 y.c (bk y.c e.aT 0))&&&(b6 y.c (bk y.c e.aT 1)))|||e.op from by unfold sg;rw [if_neg ab,if_pos ae]]
  exact bJ
 refine k3 [eg p y o e aW] ad aA ?_
 refine aY [0,1,2] ?_
 refine bj 3 rfl (ed (bK:=(b9 y)) rfl au ad rfl (by rfl)) ?_
 refine aY [4,5,6,7] ?_
 refine gb 8 (vS y cn.aZ e.mode) ?_
 refine df [9,99] ?_
 rw [show sg y.c e=b6 y.c e.mode from by unfold sg;rw [if_neg ab,if_neg ae]]
 exact bJ
theorem aac{y:bZ}{o:fW}{e:cw}{aW:List Nat}(hL:e.phase=3→hb y.c e.aT):jo (nd y o e aW)=je y.c e:=by
  unfold jo je
  show(if e.phase=3 then _ else _)=_
  split
  · rename_i h
    obtain⟨i,af,kN⟩:=J7 (hL h)
    rw [show s0 (nd y o e aW)=_ from CU (e:=nd y o e aW) af kN]
  · rfl
theorem agz(p:Nat)(y:bZ)(o:fW)(e:cw)(bB:BitVec 32)(kE:Int){b3 cF aB:ar B}(cn:oL y o b3 cF aB)(aW:List Nat)(kk:aW.length=e.a0.length)(hL:0≤e.aT→hb y.c e.aT)(fo:e.phase=0→e.a0=[])(cN: -1000000000≤e.now∧e.now≤1000000000):a6 B 148 [ag p,aa kE,aQ bB.toNat] [eg p y o e aW,hB aW e,b3,cF,aB] (fun v S=>∃(a:an pb) (ep:List Nat),((a.l.length≤3∧∀n∈a.l,n.c=true→hb y.c n.e)∧a.Own∧ep.length=(hH y.c bB e kE).a0.length)∧v= .tuple #[az a,aa (oK y.c e kE)]∧S=[eg p y o (hH y.c bB e kE) ep,hB ep (hH y.c bB e kE),uX a,b3,cF,aB]):=by
 refine dN 53 Tryz.func148 fun ba bf=>?_
 refine gE r3 375 6 ?_
 have l3:=y.a9.small
 have mh:(y.c.a9.length:Int)=y.a9.l.length:=by show((y.a9.l.map _).length:Int)=_;rw [List.length_map]
 refine aj ?_
 refine pJ ?_ ?_<;>intro ab
 ·refine aj ?_
  have eH:oK y.c e kE=101:=by unfold oK;rw [if_pos ah]
  have cb:hH y.c bB e kE=e:=by unfold hH;rw [eH];rfl
  rw [eH,cb]
  exact aO ⟨an.bt,aW,⟨⟨by show 0≤_;omega,fun n aP=>absurd aP List.not_mem_nil⟩,an.fk,kk⟩,rfl,rfl⟩
 refine gN ?_
 refine dn (az y.a9) ?_
 refine bT ?_ ?_<;>intro ae
 ·have eH:oK y.c e kE=101:=by unfold oK;rw [if_pos ah]
  have cb:hH y.c bB e kE=e:=by unfold hH;rw [eH];rfl
  rw [eH,cb]
  exact aO ⟨an.bt,aW,⟨⟨by show 0≤_;omega,fun n aP=>absurd aP List.not_mem_nil⟩,an.fk,kk⟩,rfl,rfl⟩
 refine bD ?_ ?_<;>intro av
 ·have eH:oK y.c e kE=300:=by unfold oK;rw [if_neg ah,if_pos ah]
  have cb:hH y.c bB e kE=e:=by unfold hH;rw [eH];rfl
  rw [eH,cb]
  exact aO ⟨an.bt,aW,⟨⟨by show 0≤_;omega,fun n aP=>absurd aP List.not_mem_nil⟩,an.fk,kk⟩,rfl,rfl⟩
 refine k3 [eg p y o e aW,b3] ad aA ?_
 refine aY [0,1,2] ?_
 refine bj 3 rfl (ed (bK:=(b9 y)) rfl au ad rfl (by rfl)) ?_
 refine aY [4,6] ?_
 refine gb 5 (agx p y o e cn aW hL) ?_
 refine gb 7 (KA y cn.aZ (s6 y.c e) kE) ?_
 refine aY [8] ?_
 refine bG 9 rfl (dD (v:=aa (jc y.c.bd (s6 y.c e) kE).1) rfl) ?_
 refine bG 10 rfl (dD (v:= .bool (jc y.c.bd (s6 y.c e) kE).2) rfl) ?_
 refine df [11,12,99] ?_
 refine bD ?_ ?_<;>intro aV
 ·have eH:oK y.c e kE=301:=by unfold oK;rw [if_neg ah,if_neg ah,if_neg (by rw [aV];decide)]
  have cb:hH y.c bB e kE=e:=by unfold hH;rw [eH];rfl
  rw [eH,cb]
  exact aO ⟨an.bt,aW,⟨⟨by show 0≤_;omega,fun n aP=>absurd aP List.not_mem_nil⟩,an.fk,kk⟩,rfl,rfl⟩
 refine bD ?_ ?_<;>intro bN
 ·have eH:oK y.c e kE=0:=by unfold oK;rw [if_neg ah,if_neg ah,if_pos (by simpa using aV)]
  have cb:hH y.c bB e kE={e with held:=kE}:=by unfold hH;rw [if_pos eH,if_neg bN]
  rw [eH,cb]
  exact aO ⟨an.bt,aW,⟨⟨by show 0≤_;omega,fun n aP=>absurd aP List.not_mem_nil⟩,an.fk,kk⟩,rfl,rfl⟩
 have gr:(jc y.c.bd (s6 y.c e) kE).2=true:=by simpa using aV
 obtain⟨n,d,a1,a3,_,_⟩:=F7 gr
 have Vb:=(hb.of a3).1
 rw [←a1]at Vb
 have gp:=fo bN
 obtain rfl:aW=[]:=List.eq_nil_of_length_eq_zero (by rw [kk,gp];rfl)
 refine nT .no fF rfl (TR p y o e bB (jc y.c.bd (s6 y.c e) kE).1 cn Vb gp ah cN) cd rfl ?_
 rintro _ _ ⟨a,o7,⟨jL,cO,qM⟩,rfl,rfl⟩
 refine cx ?_
 have eH:oK y.c e kE=0:=by unfold oK;rw [if_neg ah,if_neg ah,if_pos gr]
 have cb:hH y.c bB e kE=lG y.c bB e (jc y.c.bd (s6 y.c e) kE).1:=by unfold hH;rw [if_pos eH,if_pos bN]
 rw [eH,cb]
 exact aO ⟨a,o7,⟨jL,cO,qM⟩,rfl,rfl⟩
structure SF(c:ck)(bB:BitVec 32)(e:cw):Prop where
  aX:∀(i:Nat) (id:Int),(eh e.a0).1[i]?=some id→id=16∨id=17→(((eh e.a0).1.take i).foldl (iN c bB) {e with now:=e.now+1,a0:=(eh e.a0).2}).a0=[]∧(id=16→hb c (((eh e.a0).1.take i).foldl (iN c bB) {e with now:=e.now+1,a0:=(eh e.a0).2}).aT)∧-1000000000≤(((eh e.a0).1.take i).foldl (iN c bB) {e with now:=e.now+1,a0:=(eh e.a0).2}).since∧(((eh e.a0).1.take i).foldl (iN c bB) {e with now:=e.now+1,a0:=(eh e.a0).2}).since≤1000000000
  fin:(iJ c bB e).phase=1→bB=0#32→(iJ c bB e).a0=[]∧hb c (iJ c bB e).aT∧-1000000000≤(iJ c bB e).since∧(iJ c bB e).since≤1000000000
theorem LL(p:Nat)(y:bZ)(o:fW)(e:cw)(bB:BitVec 32){b3 cF aB:ar B}(cn:oL y o b3 cF aB)(aW:List Nat)(kk:aW.length=e.a0.length)(c9:o5 e.a0)(cN: -100000000≤e.now∧e.now≤100000000)(ai:SF y.c bB e):a6 B 213 [ag p,aQ bB.toNat] [eg p y o e aW,hB aW e,b3,cF,aB] (fun v S=>∃(a:an pb) (ep:List Nat),((a.l.length≤400∧∀n∈a.l,n.c=true→hb y.c n.e)∧a.Own∧ep.length=(gz y.c bB e).a0.length)∧v=az a∧S=[eg p y o (gz y.c bB e) ep,hB ep (gz y.c bB e),uX a,b3,cF,aB]):=by
 refine dN 64 Tryz.func213 fun ba bf=>?_
 refine gE r3 375 6 ?_
 refine nH ?_
 refine dn (aa e.now) ?_
 refine aj ?_
 refine nT .no fF rfl (aew p y o ({e with now:=e.now+1}:cw) aW kk c9) cd rfl ?_
 rintro _ _ ⟨vA,ep,⟨D2,agA,jj⟩,rfl,rfl⟩
 refine bP ?_
 have D2:vA.l=(eh e.a0).1:=D2
 have ags:vA.l.length≤64:=by rw [D2];have ab:=(FT c9.o4 (fun q bF=>(c9.due q bF).1)).2.1;have ae:=congrArg List.length ab;rw [List.length_append,List.length_map]at ae;have:=c9.len;omega
 refine aj ?_
 refine ds (α:=Nat×List Nat×an pb) (fun⟨i,aW,a⟩=>i≤vA.l.length∧aW.length=(((eh e.a0).1.take i).foldl (iN y.c bB) ({e with now:=e.now+1,a0:=(eh e.a0).2}:cw)).a0.length∧(a.l.length≤5*i∧∀n∈a.l,n.c=true→hb y.c n.e)∧a.Own) (fun⟨i,aW,a⟩=>[(5,az a),(20,aa (i:Int)),(0,ag p),(1,aQ bB.toNat),(18,az vA),(19,aa (vA.l.length:Int))]) (fun⟨i,aW,a⟩=>[eg p y o (((eh e.a0).1.take i).foldl (iN y.c bB) ({e with now:=e.now+1,a0:=(eh e.a0).2}:cw)) aW,hB aW (((eh e.a0).1.take i).foldl (iN y.c bB) ({e with now:=e.now+1,a0:=(eh e.a0).2}:cw)),hF vA,uX a,b3,cF,aB]) (fun⟨i,aW,a⟩=>vA.l.length-i) (0,ep,(an.bt:an pb)) ?_ dq cd ?_
 ·exact⟨Nat.zero_le _,jj,⟨Nat.zero_le _,fun n aP=>absurd aP List.not_mem_nil⟩,an.fk⟩
 rintro⟨i,aW,a⟩ ⟨af,hj,a5,cO⟩
 dsimp only
 refine aj ?_
 refine c2 ?_ ?_<;>intro ab
 ·obtain⟨id,b0⟩:=fp vA.l i
  have nf:=b0
  rw [D2]at nf
  have Eu:(((eh e.a0).1.take i).foldl (iN y.c bB) ({e with now:=e.now+1,a0:=(eh e.a0).2}:cw)).now=e.now+1:=Ay _ _
  obtain⟨q,bF⟩:∃q,q=(((eh e.a0).1.take i).foldl (iN y.c bB) ({e with now:=e.now+1,a0:=(eh e.a0).2}:cw)):=⟨_,rfl⟩
  rw [←bF]at hj Eu⊢
  refine aj ?_
  refine ap (eQ (a2:=ea) (aN:=1) (i:=i) (k:=0) (fun _=>rfl) rfl au (dT agA rfl) ad b0 rfl) ?_
  refine bT ?_ ?_<;>intro ae
  ·obtain⟨a1,a3,bI⟩:=ai.aX i id nf (.inl ae)
   rw [←bF]at a1 a3 bI
   obtain rfl:aW=[]:=List.eq_nil_of_length_eq_zero (by rw [hj,a1];rfl)
   refine nT .no fF rfl (TT p y o q bB cn (a3 ae) a1 ah bI) cd rfl ?_
   rintro _ _ ⟨rG,o7,⟨td,D3,qM⟩,rfl,rfl⟩
   refine bP ?_
   refine j7 (a2:=r3) (c:=a) (b:=rG) .no rfl rfl ad au au (dT D3 rfl) (fun _=>rfl) (fun _=>rfl) (by show a.l.length+_≤_;have:=td.1;omega) (by show(a.l.length+_)*_≤_;have:=td.1;omega) rfl (fun c a7 jg=>?_)
   refine aj ?_
   have cq:(((eh e.a0).1.take (i+1)).foldl (iN y.c bB) ({e with now:=e.now+1,a0:=(eh e.a0).2}:cw))=ji y.c (jM y.c bB) q:=by rw [CY nf, ←bF];unfold iN;rw [if_pos ae]
   refine k2 (i+1,o7,c) ?_ ?_ ?_ ?_
   ·(try dsimp only);exact⟨by omega,by rw [cq];exact qM,by rw [Nat.mul_add];exact vN a7 a5 td,jg⟩
   ·(try dsimp only);omega
   ·refine⟨?_,?_,?_,?_,?_,?_,trivial⟩<;>rfl
   (try dsimp only);rw [cq];exact⟨_,cd⟩
  refine c2 ?_ ?_<;>intro av
  ·refine aj ?_
   obtain⟨a1,a3,bI⟩:=ai.aX i id nf (.inr av)
   rw [←bF]at a1 a3 bI
   obtain rfl:aW=[]:=List.eq_nil_of_length_eq_zero (by rw [hj,a1];rfl)
   refine nT .no fF rfl (TS p y o q bB cn a1 ah) cd rfl ?_
   rintro _ _ ⟨rG,o7,⟨td,D3,qM⟩,rfl,rfl⟩
   refine bP ?_
   refine j7 (a2:=r3) (c:=a) (b:=rG) .no rfl rfl ad au au (dT D3 rfl) (fun _=>rfl) (fun _=>rfl) (by show a.l.length+_≤_;have:=td.1;omega) (by show(a.l.length+_)*_≤_;have:=td.1;omega) rfl (fun c a7 jg=>?_)
   refine aj ?_
   have cq:(((eh e.a0).1.take (i+1)).foldl (iN y.c bB) ({e with now:=e.now+1,a0:=(eh e.a0).2}:cw))=jM y.c bB q:=by rw [CY nf, ←bF];unfold iN;rw [if_neg ae,if_pos av]
   refine k2 (i+1,o7,c) ?_ ?_ ?_ ?_
   ·(try dsimp only);exact⟨by omega,by rw [cq];exact qM,by rw [Nat.mul_add];exact(vN a7 a5 td).imp (fun h=>by omega) (fun z=>z),jg⟩
   ·(try dsimp only);omega
   ·refine⟨?_,?_,?_,?_,?_,?_,trivial⟩<;>rfl
   (try dsimp only);rw [cq];exact⟨_,cd⟩
  refine gN ?_
  refine dn (aQ q.op.toNat) ?_
  refine aj ?_
  refine gl (tE q.op id) ?_
  have cq:(((eh e.a0).1.take (i+1)).foldl (iN y.c bB) ({e with now:=e.now+1,a0:=(eh e.a0).2}:cw))={q with op:=q.op|||dL id}:=by rw [CY nf, ←bF];unfold iN;rw [if_neg ae,if_neg av]
  refine k2 (i+1,aW,a) ?_ ?_ ?_ ?_
  ·(try dsimp only);exact⟨by omega,by rw [cq];exact hj,⟨by omega,a5.2⟩,cO⟩
  ·(try dsimp only);omega
  ·refine⟨?_,?_,?_,?_,?_,?_,trivial⟩<;>rfl
  (try dsimp only);rw [cq];exact⟨_,cd⟩
 obtain rfl:i=vA.l.length:=by omega
 have EE:(((eh e.a0).1.take vA.l.length).foldl (iN y.c bB) ({e with now:=e.now+1,a0:=(eh e.a0).2}:cw))=iJ y.c bB e:=by rw [D2,List.take_length];rfl
 have Eu:(iJ y.c bB e).now=e.now+1:=Ay _ _
 obtain⟨q,bF⟩:∃q,q=iJ y.c bB e:=⟨_,rfl⟩
 rw [EE, ←bF]at hj
 rw [EE, ←bF]
 rw [←bF]at Eu
 refine tx ?_
 refine tn ?_
 refine tp ?_
 refine to ?_
 refine fj ?_
 refine cC ?_
 refine cC ?_
 refine dz ?_
 refine ap (cj rfl) ?_
 refine ap (ou rfl) ?_
 refine ap (ia ad) ?_
 refine ap (da (v:=aa q.phase) ad) ?_
 refine aj ?_
 refine cc ?_ ?_<;>intro aV
 ·refine bD ?_ ?_<;>intro bN
  ·have Ic:bB=0#32:=BitVec.eq_of_toNat_eq (show bB.toNat=(0#32:BitVec 32).toNat by show bB.toNat=0;omega)
   obtain⟨a1,a3,bI⟩:=ai.fin (by rw [←bF];exact aV) Ic
   rw [←bF]at a1 a3 bI
   obtain rfl:aW=[]:=List.eq_nil_of_length_eq_zero (by rw [hj,a1];rfl)
   refine nT .no fF rfl (TT p y o q bB cn a3 a1 ah bI) cd rfl ?_
   rintro _ _ ⟨rG,o7,⟨td,D3,qM⟩,rfl,rfl⟩
   refine bP ?_
   refine j7 (a2:=r3) (c:=a) (b:=rG) .no rfl rfl ad au au (dT D3 rfl) (fun _=>rfl) (fun _=>rfl) (by show a.l.length+_≤_;have:=td.1;omega) (by show(a.l.length+_)*_≤_;have:=td.1;omega) rfl (fun c a7 jg=>?_)
   refine aj ?_
   have cb:gz y.c bB e=ji y.c (jM y.c bB) q:=by unfold gz;rw [←bF,if_pos ⟨aV,Ic⟩]
   rw [cb]
   exact aO ⟨c,o7,⟨⟨Nat.le_trans (vN a7 a5 td).1 ah,(vN a7 a5 td).2⟩,jg,qM⟩,rfl,rfl⟩
  have cb:gz y.c bB e=q:=by unfold gz;rw [←bF,if_neg (fun z=>bN (by rw [z.2];rfl))]
  rw [cb]
  exact aO ⟨a,aW,⟨⟨by have:=a5.1;omega,a5.2⟩,cO,hj⟩,rfl,rfl⟩
 have cb:gz y.c bB e=q:=by unfold gz;rw [←bF,if_neg (fun z=>aV z.1)]
 rw [cb]
 exact aO ⟨a,aW,⟨⟨by have:=a5.1;omega,a5.2⟩,cO,hj⟩,rfl,rfl⟩
structure nn where
  y:Nat→Int
  l:an Int
  d:Int
structure oM(z:nn):Prop where
  y:DX z.y
  o:z.l.Own
  n:(z.l.l.length:Int)≤z.y 0
  d:0≤z.d∧z.d≤4096
abbrev hk(b:Nat)(z:nn):ar B:=U b (Mo z.y z.l z.d) 356
def cU(b:Nat):ar B:=ex (fun z:{z:nn//oM z}=>[hk b z.1,hF z.1.l])
theorem Be{S R:List (ar B)}{b:Nat}(z:nn)(h:oM z)(t:Take [hk b z,hF z.l] S R):gK S (cU b::R):=pq (F:=fun z:{z:nn//oM z}=>[hk b z.1,hF z.1.l]) ⟨z,h⟩ t
theorem La(b:Nat)(z:nn)(aS:oM z)(n:Int)(aP:0≤n∧n≤1000000):a6 B 221 [ag b,aa n] [hk b z] (fun v S=>v= .tuple #[]∧S=[hk b ({z with d:=min (z.d+n) 4096}:nn)]):=by
 refine dN 14 Tryz.func221 fun ba bf=>?_
 have aJ:=aS.d
 refine gN ?_
 refine dn (aa z.d) ?_
 exact oi
theorem agB(b:Nat)(z:nn)(aS:oM z):a6 B 286 [ag b] [hk b z] (fun v S=>v=aa (z.l.l.length:Int)∧S=[hk b z]):=by
 refine dN 8 Tryz.func286 fun ba bf=>?_
 refine nH ?_
 refine dn (az z.l) ?_
 exact oi
theorem aex(b:Nat):a6 B 288 [ag b] [] (fun v S=>∃c,v= .func (.func 296) #[] #[ag c]∧S=[U c [ag b] 289]):=by
 refine bM 4 Tryz.func288 fun ba bf=>?_
 refine fX (aF:=[ag b]) fun ax=>?_
 exact aO ⟨ax,rfl,rfl⟩
theorem YA(c b:Nat)(z:nn)(aS:oM z):n9 Tryz.prog B 296 [ag c] [U c [ag b] 289,hk b z,hF z.l] (z.l.l.map fun x=>[.int .i64 x]):=by
 intro cr J hc cV g7 aZ
 change di _ _ _ _ (U c [ag b] 289::hk b z::hF z.l::cV) _
 refine dN 19 Tryz.func296 fun ba bf=>?_
 have jK:=z.l.small
 refine gN ?_
 refine dn (az z.l) ?_
 refine aj ?_
 refine ds (α:=Nat×List (ar B)) (fun⟨i,aU⟩=>i≤z.l.l.length∧J i aU) (fun⟨i,aU⟩=>[(10,aa (i:Int)),(0,.func (.yield cr) #[] #[]),(1,ag c),(8,az z.l),(9,aa (z.l.l.length:Int))]) (fun⟨i,aU⟩=>U c [ag b] 289::hk b z::hF z.l::aU) (fun⟨i,aU⟩=>z.l.l.length-i) (0,cV) ?_ dq aA ?_
 ·exact⟨Nat.zero_le _,g7⟩
 rintro⟨i,aU⟩ ⟨af,bo⟩
 dsimp only
 refine bT ?_ ?_<;>intro ab
 ·have kM:i<z.l.l.length:=by omega
  obtain⟨x,b0⟩:∃x,z.l.l[i]?=some x:=⟨_,List.getElem?_eq_getElem kM⟩
  have fa:=aZ i aU (by rw [List.length_map];exact kM) bo
  rw [lp b0]at fa
  refine aj ?_
  refine ap (eQ (a2:=ea) (aN:=1) (i:=i) (k:=0) (fun _=>rfl) rfl au (dT aS.o rfl) ad b0 rfl) ?_
  refine aj ?_
  refine iq (own:=[U c [ag b] 289,hk b z,hF z.l]) (hM:=aU) .no rfl rfl fa rfl ?_
  rintro jP bh aC
  refine cx ?_
  refine bD ?_ ?_<;>intro ae
  ·obtain⟨h,_⟩|⟨_,aC⟩:=aC
   ·rw [h]at ae;cases ae
   exact⟨U c [ag b] 289::hk b z::hF z.l::bh,⟨bh,rfl,.inr ⟨i,by rw [List.length_map];exact kM,aC⟩⟩,_,aA⟩
  obtain⟨_,aC⟩|⟨h,_⟩:=aC
  rotate_left
  ·rw [h]at ae;cases ae
  refine aj ?_
  refine cE (i+1,bh) ?_
  (try dsimp only);exact⟨by omega,aC⟩
 obtain rfl:i=z.l.l.length:=by omega
 exact⟨U c [ag b] 289::hk b z::hF z.l::aU,⟨aU,rfl,.inl (by rw [List.length_map];exact bo)⟩,_,aA⟩
theorem aey(b:Nat)(z:nn)(aS:oM z):a6 B 151 [ag b] [hk b z,hF z.l] (fun v S=>∃(n e:Int) (c3:nn),oM c3∧v= .tuple #[aa n,aa e]∧S=[hk b c3,hF c3.l]):=by
 refine dN 27 Tryz.func151 fun ba bf=>?_
 have jK:=z.l.small
 have EF:=aS.n
 have Vc:=aS.y
 refine gE ea 3 1 ?_
 refine DP ?_
 refine dn (az z.l) ?_
 refine aj ?_
 refine c2 ?_ ?_<;>intro ab
 ·refine aj ?_
  exact aO ⟨0,270,z,aS,rfl,rfl⟩
 have ob:1≤z.l.l.length:=by omega
 obtain⟨x,b0⟩:=fp z.l.l 0
 have jZ:(z.l.cut 1 1 z.l.l.length z.l.c ob (Nat.le_refl _) z.l.cap).l.length=z.l.l.length-1:=by show((z.l.l.drop 1).take (z.l.l.length-1)).length=_;simp
 refine ic ?_
 refine fj ?_
 refine cC ?_
 refine dz ?_
 refine ap (cj rfl) ?_
 refine ap (ou rfl) ?_
 refine ap (ia ad) ?_
 refine ap (da (v:=az z.l) ad) ?_
 refine ap (jS (j:=0) rfl rfl ad (z.l).fl (rfl:(0:Int)=((0:Nat):Int)) ah rfl) ?_
 refine ap (eQ (a2:=ea) (aN:=1) (i:=0) (k:=0) (fun _=>rfl) rfl au (dT aS.o rfl) ad b0 rfl) ?_
 refine rm ?_
 refine dn (az z.l) ?_
 refine ap (xm (a:=z.l) (aN:=1) (l:=1) (h:=z.l.l.length) (m:=z.l.c) rfl ad (by exact⟨_,rfl⟩) (by exact rfl) (by exact rfl) (by intro h;exact rfl) ob (Nat.le_refl _) z.l.cap (Nat.le_refl _)) ?_
 refine j7 (a2:=ea) (c:=(an.bt:an Int)) (b:=(z.l.cut 1 1 z.l.l.length z.l.c ob (Nat.le_refl _) z.l.cap)) .no rfl rfl ad au au (C7 (fun _=>rfl) (dT aS.o rfl)) (fun _=>rfl) (fun _=>rfl) (by rw [jZ];show 0+(z.l.l.length-1)≤_;omega) (by rw [jZ];show(0+(z.l.l.length-1))*_≤_;omega) rfl (fun a a5 cO=>?_)
 have fT:a.l.length=z.l.l.length-1:=by rw [a5,List.length_append,jZ];exact Nat.zero_add _
 refine aj ?_
 exact aO ⟨x,0,{z with l:=a},⟨aS.y,cO,by show(a.l.length:Int)≤z.y 0;omega,aS.d⟩,rfl,rfl⟩
theorem aez(b h4 c:Nat)(z w:nn)(aS:oM z)(hw:oM w):a6 B 287 [ag b,.func (.func 296) #[] #[ag c]] [hk b z,hF z.l,U c [ag h4] 289,hk h4 w,hF w.l] (fun v S=>∃(n:Int) (c3:nn),(oM c3∧0≤n∧n≤16)∧v=aa n∧S=[hk b c3,hF c3.l,hk h4 w,hF w.l]):=by
 refine bM 45 Tryz.func287 fun ba bf=>?_
 refine fX (aF:=[ag b]) fun ax=>?_
 refine de fun aK=>?_
 refine kS (own:=[U c [ag h4] 289,hk h4 w,hF w.l]) (aU:=[hk b z,hF z.l,U ax [ag b] 289,U aK [ak] 3]) rfl fF (YA c h4 w hw) (fun i S=>∃(c3:nn) (k:Int),(oM c3∧0≤k∧k≤i)∧S=[hk b c3,hF c3.l,U ax [ag b] 289,U aK [aa k] 3]) (fun c i S=>False) (show Take ([U c [ag h4] 289,hk h4 w,hF w.l,hk b z,hF z.l,U ax [ag b] 289,U aK [ak] 3]) _ _ from aA) (⟨z,0,⟨aS,by omega,by omega⟩,rfl⟩) rfl (fun x al=>by obtain⟨y,_,rfl⟩:=List.mem_map.1 al;rfl) ?_ ?_ ?_
 ·intro cr rec j3 i bh af bo
  obtain⟨c3,k,⟨ll,Eo,Bp⟩,rfl⟩:=bo
  have EF:=ll.n
  have Vc:=ll.y
  rw [List.length_map]at af
  have BH:w.l.l.length≤16:=by have ab:=hw.n;have ae:=hw.y;omega
  obtain⟨x,b0⟩:∃x,w.l.l[i]?=some x:=⟨_,List.getElem?_eq_getElem af⟩
  rw [lp (f:=fun x=>[Value.int .i64 x]) b0]
  refine aj ?_
  refine⟨rfl,_,_,.cons au (Take.self _),fun hz=>?_⟩
  refine cp ?_
  refine jT (α:=nn×Int) (fun⟨l8,m⟩=>oM l8∧(l8.l.l.length:Int)+1≤l8.y 0∧0≤m∧m≤(i:Int)+1) (fun⟨l8,m⟩=>[(2,ag ax),(5,ag aK),(6,aa x)]) (fun⟨l8,m⟩=>[hk b l8,hF l8.l,U ax [ag b] 289,U aK [aa m] 3,obj cr (.loop hz)]) ?_ ?_
  ·skip
   refine aj ?_
   refine k3 [U ax [ag b] 289,hk b c3] ad aA ?_
   refine aY [0,1,2] ?_
   refine bj 3 rfl (da (v:=az c3.l) ad) ?_
   refine aY [4,5,6,7,8] ?_
   refine bj 9 rfl (da (v:=aa (c3.y 0)) ad) ?_
   refine df [10,99] ?_
   refine c2 ?_ ?_<;>intro ab
   ·refine gE ea 3 1 ?_
    have ob:1≤c3.l.l.length:=by omega
    have jZ:(c3.l.cut 1 1 c3.l.l.length c3.l.c ob (Nat.le_refl _) c3.l.cap).l.length=c3.l.l.length-1:=by show((c3.l.l.drop 1).take (c3.l.l.length-1)).length=_;simp
    refine aj ?_
    refine cZ [U ax [ag b] 289,hk b c3] ad aA ?_
    refine aY [0,1,2,3] ?_
    refine bj 4 rfl (da (v:=az c3.l) ad) ?_
    refine bj 5 rfl (xm (a:=c3.l) (aN:=1) (l:=1) (h:=c3.l.l.length) (m:=c3.l.c) rfl ad (by exact⟨_,rfl⟩) (by exact rfl) (by exact rfl) (by intro h;exact rfl) ob (Nat.le_refl _) c3.l.cap (Nat.le_refl _)) ?_
    refine aY [106] ?_
    refine p1 (a2:=ea) (c:=(an.bt:an Int)) (b:=(c3.l.cut 1 1 c3.l.l.length c3.l.c ob (Nat.le_refl _) c3.l.cap)) rfl .no rfl rfl ad au dy (show Out (hF c3.l) _ _ from au) (C7 (fun _=>rfl) (dT ll.o rfl)) (fun _=>rfl) (fun _=>rfl) (by rw [jZ];show 0+(c3.l.l.length-1)≤_;omega) (by rw [jZ];show(0+(c3.l.l.length-1))*_≤_;omega) rfl (fun a a5 cO=>?_)
    have fT:a.l.length=c3.l.l.length-1:=by rw [a5,List.length_append,jZ];exact Nat.zero_add _
    refine aY [7,8,109,99] ?_
    refine gI ?_
    refine dn (aa k) ?_
    refine aj ?_
    exact ez ({c3 with l:=a},k+1) ⟨⟨ll.y,cO,by show(a.l.length:Int)≤c3.y 0;omega,ll.d⟩,by show(a.l.length:Int)+1≤c3.y 0;omega,by omega,by omega⟩
   refine aj ?_
   exact ez (c3,k) ⟨ll,by show(c3.l.l.length:Int)+1≤c3.y 0;omega,by show 0≤k;omega,by show k≤_;omega⟩
  rintro⟨l8,m⟩ ⟨zU,Mh,yi,ahH⟩
  refine cZ [U ax [ag b] 289,hk b l8] ad aA ?_
  refine aY [0,1,2,3] ?_
  refine bj 4 rfl (da (v:=az l8.l) ad) ?_
  refine aY [5,106] ?_
  refine qV (aF:=(([x]:List Int).flatMap ea)) rfl .no rfl ad b2 b2 (by rfl) (by rfl) rfl rfl (fun Vd=>?_)
  refine aY [107] ?_
  refine p1 (a2:=ea) (c:=l8.l) (b:=an.lit Vd [x] (by simp)) rfl .no rfl rfl ad au dy (show Out (U Vd (([x]:List Int).flatMap ea) 3) _ _ from au) ir (fun _=>rfl) (fun _=>rfl) (by show l8.l.l.length+1≤_;have:=zU.y;omega) (by show(l8.l.l.length+1)*_≤_;have:=zU.y;omega) rfl (fun a a5 cO=>?_)
  have fT:a.l.length=l8.l.l.length+1:=by rw [a5];exact List.length_append
  refine df [8,9,110,99] ?_
  exact⟨[hk b ({l8 with l:=a}:nn),hF a,U ax [ag b] 289,U aK [aa m] 3],_,aA,⟨{l8 with l:=a},m,⟨⟨zU.y,cO,by show(a.l.length:Int)≤l8.y 0;omega,zU.d⟩,yi,by omega⟩,rfl⟩⟩
 ·intro cG bh bo
  obtain⟨c3,k,⟨ll,Eo,Bp⟩,rfl⟩:=bo
  rw [List.length_map]at Bp
  have BH:w.l.l.length≤16:=by have ab:=hw.n;have ae:=hw.y;omega
  refine cx ?_
  refine gH (La b c3 ll k (by omega)) ?_
  refine dA (show Take [dl cG] _ _ from aA) (sB rfl rfl) ?_
  exact aO ⟨k,{c3 with d:=min (c3.d+k) 4096},⟨⟨ll.y,ll.o,ll.n,by have:=ll.d;show 0≤min (c3.d+k) 4096∧min (c3.d+k) 4096≤4096;omega⟩,Eo,by omega⟩,rfl,rfl⟩
 intro cG c i bh af h
 exact h.elim
abbrev kU(d:Nat→Int):List Value:=[aa (d 19),aa (d 20),aa (d 21),aa (d 22)]
theorem aad{d:Nat→Int}{i:Nat}(h:i<4):(kU d)[i]?=some (aa (d (19+i))):=by
  rcases(show i=0∨i=1∨i=2∨i=3 by omega)with rfl|rfl|rfl|rfl<;>rfl
def jY(d:Nat→Int)(fx et:Int):Nat→List (Int×Int)
  |0=>[]
  |k+1=>jY d fx et k++(if(k:Int)<fx∧1≤d (19+k)∧d (19+k)≤et then [((k:Int),d (19+k)-1)]else [])
theorem RI{d:Nat→Int}{fx et:Int}{k:Nat}(h:(k:Int)<fx∧1≤d (19+k)∧d (19+k)≤et):jY d fx et (k+1)=jY d fx et k++[((k:Int),d (19+k)-1)]:=by rw [jY,if_pos h]
theorem KI{d:Nat→Int}{fx et:Int}{k:Nat}(h:¬((k:Int)<fx∧1≤d (19+k)∧d (19+k)≤et)):jY d fx et (k+1)=jY d fx et k:=by rw [jY,if_neg h,List.append_nil]
theorem Ps{d:Nat→Int}{fx et:Int}{k:Nat}:∀m,∃r,jY d fx et (k+m)=jY d fx et k++r
  |0=>⟨[],by simp⟩
  |m+1=>by
    obtain⟨r,a4⟩:=Ps (d:=d) (fx:=fx) (et:=et) (k:=k) m
    show∃r,jY d fx et (k+m+1)=_
    rw [jY,a4,List.append_assoc]
    exact⟨_,rfl⟩
theorem YB{d:Nat→Int}{fx et:Int}{k:Nat}(ai:k<4)(h:(k:Int)<fx∧1≤d (19+k)∧d (19+k)≤et):(jY d fx et 4)[(jY d fx et k).length]?=some ((k:Int),d (19+k)-1)∧(jY d fx et k).length<(jY d fx et 4).length:=by
  obtain⟨r,a4⟩:=Ps (d:=d) (fx:=fx) (et:=et) (k:=k+1) (3-k)
  rw [show k+1+(3-k)=4 by omega,RI h]at a4
  rw [a4]
  exact⟨by simp,by simp⟩
theorem J8{d:Nat→Int}{fx et:Int}:∀k,∀p∈jY d fx et k,0≤p.1∧p.1<k∧0≤p.2∧p.2<et
  |0,p,aC=>absurd aC List.not_mem_nil
  |k+1,p,aC=>by
    rw [jY,List.mem_append]at aC
    rcases aC with aC|aC
    · have:=J8 k p aC;omega
    · split at aC
      · rw [List.mem_singleton]at aC;subst aC
        show 0≤(k:Int)∧(k:Int)<((k+1:Nat):Int)∧0≤d (19+k)-1∧d (19+k)-1<et
        omega
      · cases aC
theorem Pt{d:Nat→Int}{fx et:Int}:∀k,(jY d fx et k).Pairwise fun p q=>p.1<q.1
 |0=>List.Pairwise.nil
 |k+1=>by
  rw [jY]
  refine List.pairwise_append.2 ⟨Pt k,by split<;>simp,fun p aC q bF=>?_⟩
  have:=J8 k p aC
  split at bF
  ·rw [List.mem_singleton]at bF;subst bF;exact this.2.1
  cases bF
theorem acb{l:List (Int×Int)}{k:Int}(h:∀p∈l,p.1≠k):qx l k=none:=by
  induction l with
  |nil=>rfl
  |cons p l ih=>
    obtain⟨a,c⟩:=p
    rw [qx,if_neg (fun e=>h (a,c) (List.mem_cons_self ..) e.symm)]
    exact ih fun q bF=>h q (List.mem_cons_of_mem _ bF)
theorem acd{l:List (Int×Int)}{k v:Int}(h:qx l k=some v):(k,v)∈l:=by
  induction l with
  |nil=>cases h
  |cons p l ih=>
    obtain⟨a,c⟩:=p
    rw [qx]at h
    split at h
    · rename_i e;subst e;cases h;exact List.mem_cons_self ..
    · exact List.mem_cons_of_mem _ (ih h)
theorem YC{d:Nat→Int}{fx et:Int}{i:Nat}{p:Int×Int}(h:(jY d fx et 4)[i]?=some p):qx ((jY d fx et 4).take i) p.1=none:=acb fun q bF e=>by
  obtain⟨j,aI,he⟩:=List.mem_take_iff_getElem.1 bF
  obtain⟨af,al⟩:=List.getElem?_eq_some_iff.1 h
  have:=List.pairwise_iff_getElem.1 (Pt (d:=d) (fx:=fx) (et:=et) 4) j i (by omega) af (by omega)
  rw [he,al]at this;omega
theorem aeA(d:Nat→Int)(fx et:Int):a6 B 285 [.agg (kU d).toArray,aa fx,aa et] [] (fun v S=>∃bq bV dp:Nat,v= .func (.func 295) #[] #[ag bq,ag bV,ag dp]∧S=[U bq (kU d) 33,U bV [aa fx] 3,U dp [aa et] 3]):=by
 refine bM 8 Tryz.func285 fun ba bf=>?_
 refine eD (aF:=(kU d)) fun ax=>?_
 refine eD fun aK=>?_
 refine fX fun bq=>?_
 exact aO ⟨ax,aK,bq,rfl,rfl⟩
theorem YD(bq bV dp:Nat)(d:Nat→Int)(fx et:Int)(ab:et≤64):n9 Tryz.prog B 295 [ag bq,ag bV,ag dp] [U bq (kU d) 33,U bV [aa fx] 3,U dp [aa et] 3] ((jY d fx et 4).map fun p=>[.int .i64 p.1,aa p.2]):=by
 intro cr J hc cV g7 aZ
 change di _ _ _ _ (U bq (kU d) 33::U bV [aa fx] 3::U dp [aa et] 3::cV) _
 refine dN 33 Tryz.func295 fun ba bf=>?_
 refine gI ?_
 refine du (kU d) ?_
 refine aj ?_
 refine ds (α:=Nat×List (ar B)) (fun⟨i,aU⟩=>i≤4∧J (jY d fx et i).length aU) (fun⟨i,aU⟩=>[(8,aa (i:Int)),(7,.agg (kU d).toArray),(0,.func (.yield cr) #[] #[]),(1,ag bq),(2,ag bV),(3,ag dp)]) (fun⟨i,aU⟩=>U bq (kU d) 33::U bV [aa fx] 3::U dp [aa et] 3::aU) (fun⟨i,aU⟩=>4-i) (0,cV) ?_ dq aA ?_
 ·exact⟨Nat.zero_le _,g7⟩
 rintro⟨i,aU⟩ ⟨af,bo⟩
 dsimp only
 refine bT ?_ ?_<;>intro ab
 ·refine ap (xl rfl rfl ad rfl ah (aad (d:=d) ah)) ?_
  refine aj ?_
  refine cc ?_ ?_<;>intro ae
  ·refine cc ?_ ?_<;>intro av
   ·refine cc ?_ ?_<;>intro aV
    ·have a7:(i:Int)<fx∧1≤d (19+i)∧d (19+i)≤et:=by omega
     obtain⟨Bw,ey⟩:=YB ah a7
     have fa:=aZ _ aU (by rw [List.length_map];exact ey) bo
     rw [lp Bw]at fa
     refine iq (own:=[U bq (kU d) 33,U bV [aa fx] 3,U dp [aa et] 3]) (hM:=aU) (.yes 24 rfl rfl rfl) rfl rfl fa rfl ?_
     rintro jP bh aC
     refine cx ?_
     refine bD ?_ ?_<;>intro bN
     ·obtain⟨h,_⟩|⟨_,aC⟩:=aC
      ·rw [h]at bN;cases bN
      exact⟨U bq (kU d) 33::U bV [aa fx] 3::U dp [aa et] 3::bh,⟨bh,rfl,.inr ⟨_,by rw [List.length_map];exact ey,aC⟩⟩,_,aA⟩
     obtain⟨_,aC⟩|⟨h,_⟩:=aC
     rotate_left
     ·rw [h]at bN;cases bN
     refine aj ?_
     refine cE (i+1,bh) ?_
     (try dsimp only);exact⟨by omega,by rw [RI a7,List.length_append];exact aC⟩
    refine cE (i+1,aU) ?_
    (try dsimp only);exact⟨by omega,by rw [KI ah];exact bo⟩
   refine cE (i+1,aU) ?_
   (try dsimp only);exact⟨by omega,by rw [KI ah];exact bo⟩
  refine cE (i+1,aU) ?_
  (try dsimp only);exact⟨by omega,by rw [KI ah];exact bo⟩
 obtain rfl:i=4:=by omega
 refine aj ?_
 exact⟨U bq (kU d) 33::U bV [aa fx] 3::U dp [aa et] 3::aU,⟨aU,rfl,.inl (by rw [List.length_map];exact bo)⟩,_,cd⟩
theorem QH{α β:Type}{l:List α}{i:Nat}{b:α}(f:α→β)(h:l[i]?=some b):(l.map f).Perm (f b::(l.eraseIdx i).map f):=by
  have:∀(l:List α) (i:Nat),l[i]?=some b→l.Perm (b::l.eraseIdx i):=by
    intro l
    induction l with
    |nil=>intro i h;cases h
    |cons a l ih=>
      intro i h
      cases i with
      |zero=>cases h;exact List.Perm.refl _
      |succ i=>exact((ih i h).cons a).trans (List.Perm.swap _ _ _)
  exact(this l i h).map f
theorem CH{P:Program}{f:FuncId}{args:List Value}{l:List Nat}{i b:Nat}{pre:List (ar B)}{post:Value→List (ar B)→Prop}(aR:l[i]?=some b)(h:di P B f args (cU b::pre) (fun v S=>∃aU,S=cU b::aU∧post v aU)):di P B f args (all (l.map cU)::pre) (fun v S=>∃aU,S=all (l.map cU)::aU∧post v aU):=by
 refine j9 (p6 (di.frame h [all ((l.eraseIdx i).map cU)]) ((tv (QH cU aR) (.here _ _)).trans ?_)) ?_
 ·intro D w q
  have:=(Take.cons (.here (cU b) _) (Take.skip (Take.self pre)):Take (cU b::pre) (cU b::all ((l.eraseIdx i).map cU)::pre) _).mP q
  simpa using this
 rintro v S ⟨aU,rfl,bh,rfl,aC⟩
 have aq:Out (all ((l.eraseIdx i).map cU)) (bh++[all ((l.eraseIdx i).map cU)]) (bh++[]):=Out.gi (L:=bh) (Out.here _ [])
 rw [List.append_nil]at aq
 exact⟨_,all (l.map cU)::bh,[],tz (QH cU aR).symm (.cons (.here _ _) (.cons aq (.nil _))),Take.self _,bh,rfl,aC⟩
theorem aeB(b:Nat):a6 B 286 [ag b] [cU b] (fun v S=>∃aU,S=cU b::aU∧∃n:Nat,n≤16∧v=aa (n:Int)∧aU=[]):=by
 refine ox (pre:=[]) fun⟨z,aS⟩=>?_
 refine j9 (show di _ _ _ _ ([hk b z]++[hF z.l]) _ from di.frame (agB b z aS) [hF z.l]) ?_
 rintro v S ⟨aU,rfl,rfl,rfl⟩
 have ab:=aS.n;have ae:=aS.y
 exact⟨_,[cU b],[],Be z aS (.cons (.here _ _) (.cons (.here _ _) (.nil _))),Take.self _,[],rfl,z.l.l.length,by omega,rfl,rfl⟩
theorem ace(b:Nat):a6 B 151 [ag b] [cU b] (fun v S=>∃aU,S=cU b::aU∧∃n e:Int,v= .tuple #[aa n,aa e]∧aU=[]):=by
 refine ox (pre:=[]) fun⟨z,aS⟩=>?_
 refine j9 (show di _ _ _ _ [hk b z,hF z.l] _ from aey b z aS) ?_
 rintro v S ⟨n,e,c3,ll,rfl,rfl⟩
 exact⟨_,[cU b],[],Be c3 ll (.cons (.here _ _) (.cons (.here _ _) (.nil _))),Take.self _,[],rfl,n,e,rfl,rfl⟩
theorem acf(b h4 c:Nat):a6 B 287 [ag b,.func (.func 296) #[] #[ag c]] [cU b,cU h4,U c [ag h4] 289] (fun v S=>∃aU,S=cU b::aU∧∃n:Int,(0≤n∧n≤16)∧v=aa n∧aU=[cU h4]):=by
 refine ox (pre:=[_,_]) fun⟨z,aS⟩=>?_
 refine p6 (pre:=cU h4::[hk b z,hF z.l,U c [ag h4] 289]) ?_ (ov (L:=cU h4::[hk b z,hF z.l,U c [ag h4] 289]) (R:=[]) (.cons (.there _ (.there _ (.here _ _))) (Take.self _)))
 refine ox fun⟨w,hw⟩=>?_
 refine p6 (pre:=[hk b z,hF z.l,U c [ag h4] 289,hk h4 w,hF w.l]) ?_ (ov (R:=[]) (.cons (.there _ (.there _ (.here _ _))) (.cons (.there _ (.there _ (.here _ _))) (.cons (.there _ (.there _ (.here _ _))) (Take.self _)))))
 refine j9 (aez b h4 c z w aS hw) ?_
 rintro v S ⟨n,c3,⟨ll,aP⟩,rfl,rfl⟩
 exact⟨_,[cU b,cU h4],[],(Be c3 ll (R:=[hk h4 w,hF w.l]) (.cons (.here _ _) (.cons (.here _ _) (.nil _)))).trans ((Be w hw (R:=[cU b]) (.cons (.there _ (.here _ _)) (.cons (.there _ (.here _ _)) (.nil _)))).trans (ov (R:=[]) (.cons (.there _ (.here _ _)) (Take.self _)))),Take.self _,[cU h4],rfl,n,aP,rfl,rfl⟩
abbrev BM(bX:List Nat)(cP:List (Nat→Int)):List (ar B):=(bX.zip cP).map fun p=>yh p.1 p.2
theorem QI:∀(bX:List Nat) (cP:List (Nat→Int)) {S:List (ar B)},bX.length=cP.length→(∀y∈cP,DX y)→gK (all (BM bX cP)::S) (all (bX.map cU)::S)
 |[],cP,S,_,_=>by intro D w h;exact h
 |b::bX,[],S,h,_=>by cases h
 |b::bX,y::cP,S,h,bF=>by
  have ih:=QI bX cP (S:=cU b::S) (by simpa using h) fun y aZ=>bF y (List.mem_cons_of_mem _ aZ)
  refine(Cv (l:=[yh b y]) (m:=BM bX cP) (.cons (.here _ _) (.nil _))).trans ?_
  refine gK.trans (bc:=hF an.bt::yh b y::all (BM bX cP)::S) (fun D w q=>⟨fun _=>False,D,fun k=>by simp,fun _ h _=>h,Fy,q⟩) ?_
  refine(Be (b:=b) (R:=all (BM bX cP)::S) ⟨y,an.bt,0⟩ ⟨bF y (List.mem_cons_self ..),an.fk,by have:=bF y (List.mem_cons_self ..);show(0:Int)≤y 0;omega,by show(0:Int)≤0;omega,by show(0:Int)≤4096;omega⟩ (.cons (.there _ (.here _ _)) (.cons (.here _ _) (.nil _)))).trans ?_
  refine(ov (L:=[all (BM bX cP)]) (R:=cU b::S) (.cons (.there _ (.here _ _)) (.nil _))).trans (ih.trans ?_)
  exact yM (cU b) (.cons (.there _ (.here _ _)) (.cons (.here _ _) (.nil _)))
theorem Pu{bX:List Nat}{cP:List (Nat→Int)}{S R:List (ar B)}(h:bX.length=cP.length)(bF:∀y∈cP,DX y)(t:Out (all (q8 bX cP)) S R):gK S (all (bX.map cU)::R):=
  (JJ (gf:=BM bX cP) (by unfold q8;exact(List.reverse_perm _).map _) t).trans (QI bX cP h bF)
theorem acg{l m:List Nat}{i j b h4:Nat}(aR:l[i]?=some b)(b5:m[j]?=some h4)(c:Nat):a6 B 287 [ag b,.func (.func 296) #[] #[ag c]] [all (l.map cU),all (m.map cU),U c [ag h4] 289] (fun v S=>∃n:Int,(0≤n∧n≤16)∧v=aa n∧S=[all (l.map cU),all (m.map cU)]):=by
 have ab:=CH aR (acf (B:=B) b h4 c)
 have ae:a6 B 287 [ag b,.func (.func 296) #[] #[ag c]] (cU h4::[all (l.map cU),U c [ag h4] 289]) (fun v S=>∃aU,S=cU h4::aU∧∃n:Int,(0≤n∧n≤16)∧v=aa n∧aU=[all (l.map cU)]):=by
  refine j9 (p6 ab (ov (R:=[]) (.cons (.there _ (.here _ _)) (Take.self _)))) ?_
  rintro v S ⟨aU,rfl,n,aP,rfl,rfl⟩
  exact⟨_,_,[],ov (L:=[cU h4,all (l.map cU)]) (R:=[]) (.cons (.there _ (.here _ _)) (Take.self _)),Take.self _,[all (l.map cU)],rfl,n,aP,rfl,rfl⟩
 refine j9 (p6 (CH b5 ae) (ov (R:=[]) (.cons (.there _ (.here _ _)) (Take.self _)))) ?_
 rintro v S ⟨aU,rfl,n,aP,rfl,rfl⟩
 exact⟨_,_,[],ov (L:=[all (l.map cU),all (m.map cU)]) (R:=[]) (.cons (.there _ (.here _ _)) (Take.self _)),Take.self _,n,aP,rfl,rfl⟩
theorem aeC{l:List Nat}{i b:Nat}(aR:l[i]?=some b):a6 B 286 [ag b] [all (l.map cU)] (fun v S=>∃n:Nat,n≤16∧v=aa (n:Int)∧S=[all (l.map cU)]):=
  (CH aR (aeB b)).mono fun v S ⟨aU,ab,n,aP,ae,av⟩=>⟨n,aP,ae,by rw [ab,av]⟩
theorem ach{l:List Nat}{i b:Nat}(aR:l[i]?=some b):a6 B 151 [ag b] [all (l.map cU)] (fun v S=>∃n e:Int,v= .tuple #[aa n,aa e]∧S=[all (l.map cU)]):=
  (CH aR (ace b)).mono fun v S ⟨aU,ab,n,e,ae,av⟩=>⟨n,e,ae,by rw [ab,av]⟩
abbrev y7(p:Int×Int):List Value:=[aa p.1,aa p.2]
abbrev DD(a:an (Int×Int)):ar B:=eO a 419 2 y7
theorem aeD(fL:an Nat)(ml:fL.Own)(nI:fL.l.length≤4)(q:an (Nat→Int))(bF:dI K q.bu (q.l.flatMap jX))(BN:se q.l)(d:Nat→Int):a6 B 270 [az fL,az q,.agg (kU d).toArray] [eJ fL,all (fL.l.map cU),K] (fun v S=>∃(a:an Nat) (jQ:an (Int×Int)) (e:Int),(a.Own∧a.l.length≤4∧jQ.Own∧jQ.l.length≤4)∧v= .tuple #[az a,az jQ,aa e]∧S=[eJ a,all (a.l.map cU),DD jQ,eJ fL,all (fL.l.map cU),K]):=by
 refine dN 85 Tryz.func270 fun ba bf=>?_
 have EG:=fL.small
 refine gE y7 419 2 ?_
 refine aj ?_
 refine eD (aF:=(kU d)) fun ax=>?_
 refine fe fun aK=>?_
 refine fe fun bq=>?_
 refine de fun bV=>?_
 refine cm (Sx q bF BN) ?_
 rintro _ _ ⟨a,⟨fT,cO⟩,rfl,rfl⟩
 refine bP ?_
 refine hr (Pu fT (fun y aZ=>by have:=BN.2 y aZ;exact⟨this.1,this.2.1,this.2.2.1,this.2.2.2⟩) au) ?_
 have Mu:a.l.length≤4:=by rw [fT];exact BN.1
 refine cp ?_
 refine bp (az a) ?_
 refine bp (ak) ?_
 refine nH ?_
 refine c2 ?_ ?_<;>intro ab
 ·simp at ab
 refine aj ?_
 refine Zd .no rfl (fun mp=>?_)
 refine fe fun dp=>?_
 refine gN ?_
 refine du (kU d) ?_
 refine aj ?_
 refine cm (aeA d (fL.l.length:Int) (a.l.length:Int)) ?_
 rintro _ _ ⟨eF,IB,nR,rfl,rfl⟩
 refine cx ?_
 refine kS (own:=[U eF (kU d) 33,U IB [aa (fL.l.length:Int)] 3,U nR [aa (a.l.length:Int)] 3]) (aU:=[eJ fL,all (fL.l.map cU),eJ a,all (a.l.map cU),K,U ax (kU d) 33,U aK [bw] 168,U bq [bw] 415,U bV [ak] 53,U dp [.map (some mp)] 427,rb mp []]) rfl fF (YD eF IB nR d (fL.l.length:Int) (a.l.length:Int) ah) (fun i S=>S=[eJ fL,all (fL.l.map cU),eJ a,all (a.l.map cU),K,U ax (kU d) 33,U aK [bw] 168,U bq [bw] 415,U bV [ak] 53,U dp [.map (some mp)] 427,rb mp ((jY d (fL.l.length:Int) (a.l.length:Int) 4).take i)]) (fun c i S=>c= .ret∧S=[eJ fL,all (fL.l.map cU),eJ a,all (a.l.map cU),K,U ax (kU d) 33,U aK [bw] 168,U bq [bw] 415,U bV [aa 104] 53,U dp [.map (some mp)] 427]) (show Take ([U eF (kU d) 33,U IB [aa (fL.l.length:Int)] 3,U nR [aa (a.l.length:Int)] 3,eJ fL,all (fL.l.map cU),eJ a,all (a.l.map cU),K,U ax (kU d) 33,U aK [bw] 168,U bq [bw] 415,U bV [ak] 53,U dp [.map (some mp)] 427,rb mp []]) _ _ from aA) (rfl) rfl (fun x al=>by obtain⟨y,_,rfl⟩:=List.mem_map.1 al;rfl) ?_ ?_ ?_
 ·intro cr rec j3 i bh af bo
  subst bo
  rw [List.length_map]at af
  obtain⟨p,b0⟩:∃p,(jY d (fL.l.length:Int) (a.l.length:Int) 4)[i]?=some p:=⟨_,List.getElem?_eq_getElem af⟩
  rw [lp (f:=fun p=>[Value.int .i64 p.1,Value.int .i64 p.2]) b0]
  have sk:=YC b0
  refine aj ?_
  refine⟨rfl,_,_,.cons au (Take.self _),fun hz=>?_⟩
  refine hi ?_
  refine dn (.map (some mp)) ?_
  refine WU rfl au ad .no rfl (fun it lC=>?_)
  refine aj ?_
  refine ds (α:=Nat) (fun lC=>True) (fun lC=>[(12,aa p.1),(13,aa p.2),(11,ag dp),(40,ag it),(6,ag aK),(7,ag bq),(8,ag bV)]) (fun lC=>obj cr (.loop hz)::eJ fL::all (fL.l.map cU)::eJ a::all (a.l.map cU)::K::U ax (kU d) 33::U aK [bw] 168::U bq [bw] 415::U bV [ak] 53::U dp [.map (some mp)] 427::[Bs mp it ((jY d (fL.l.length:Int) (a.l.length:Int) 4).take i) lC]) (fun lC=>lC) lC ?_ dq aA ?_
  ·trivial
  intro lC _
  refine aj ?_
  refine XX rfl au .no rfl ?_ (fun e m he hm=>?_)
  ·skip
   refine bp (.bool false) ?_
   refine nH ?_
   refine dn (.map (some mp)) ?_
   refine aj ?_
   refine fq (aa7 rfl rfl rfl au ad sk) ?_
   refine aj ?_
   exact⟨[eJ fL,all (fL.l.map cU),eJ a,all (a.l.map cU),K,U ax (kU d) 33,U aK [bw] 168,U bq [bw] 415,U bV [ak] 53,U dp [.map (some mp)] 427,rb mp ((jY d (fL.l.length:Int) (a.l.length:Int) 4).take i++[(p.1,p.2)])],_,aA,by dsimp only;rw [List.take_add_one,b0];rfl⟩
  skip
  refine bp (.bool true) ?_
  refine aj ?_
  refine WW rfl au .no rfl ?_
  refine bp (aa e.2) ?_
  refine bT ?_ ?_<;>intro ae
  ·exact⟨[eJ fL,all (fL.l.map cU),eJ a,all (a.l.map cU),K,U ax (kU d) 33,U aK [bw] 168,U bq [bw] 415,U bV [aa 104] 53,U dp [.map (some mp)] 427],_,aA,⟨rfl,rfl⟩⟩
  refine k2 m ?_ ?_ ?_ ?_
  ·trivial
  ·exact hm
  ·refine⟨?_,?_,?_,?_,?_,?_,?_,trivial⟩<;>rfl
  exact⟨_,aA⟩
 ·intro cG bh bo
  subst bo
  rw [List.length_map,List.take_length]
  refine cx ?_
  refine ds (α:=Nat×an (Int×Int)) (fun⟨i,jQ⟩=>i≤fL.l.length∧jQ.Own∧jQ.l.length≤i) (fun⟨i,jQ⟩=>[(53,aa (i:Int)),(16,az jQ),(0,az fL),(9,az a),(11,ag dp),(51,az fL),(52,aa (fL.l.length:Int)),(6,ag aK),(7,ag bq),(8,ag bV)]) (fun⟨i,jQ⟩=>[dl cG,eJ fL,all (fL.l.map cU),eJ a,all (a.l.map cU),K,U ax (kU d) 33,U aK [bw] 168,U bq [bw] 415,U bV [ak] 53,U dp [.map (some mp)] 427,rb mp (jY d (fL.l.length:Int) (a.l.length:Int) 4),DD jQ]) (fun⟨i,jQ⟩=>fL.l.length-i) (0,(an.bt:an (Int×Int))) ?_ dq aA ?_
  ·exact⟨Nat.zero_le _,an.fk,Nat.zero_le _⟩
  rintro⟨i,jQ⟩ ⟨af,wW,H8⟩
  dsimp only
  refine bT ?_ ?_<;>intro av
  ·obtain⟨b,b0⟩:=fp fL.l i
   refine aj ?_
   refine ap (eQ (a2:=uV) (aN:=1) (i:=i) (k:=0) (fun _=>rfl) rfl au (dT ml rfl) ad b0 rfl) ?_
   refine gN ?_
   refine dn (.map (some mp)) ?_
   refine aj ?_
   refine ap (Ze rfl rfl au ad) ?_
   refine aj ?_
   refine cm (aeC b0) ?_
   rintro _ _ ⟨om,rs,rfl,rfl⟩
   refine bP ?_
   refine gI ?_
   refine jT (α:=Int) (fun mv=>0≤mv∧mv≤16) (fun mv=>[(21,aa mv),(0,az fL),(9,az a),(11,ag dp),(16,az jQ),(17,aa (i:Int)),(18,ag b),(51,az fL),(52,aa (fL.l.length:Int)),(53,aa (i:Int)),(6,ag aK),(7,ag bq),(8,ag bV)]) (fun mv=>[dl cG,eJ fL,all (fL.l.map cU),eJ a,all (a.l.map cU),K,U ax (kU d) 33,U aK [bw] 168,U bq [bw] 415,U bV [ak] 53,U dp [.map (some mp)] 427,rb mp (jY d (fL.l.length:Int) (a.l.length:Int) 4),DD jQ]) ?_ ?_
   ·skip
    refine bT ?_ ?_<;>intro aV
    ·obtain⟨VL,Ve⟩:=Option.isSome_iff_exists.1 aV
     obtain⟨_,_,yb,mn⟩:=J8 4 _ (acd Ve)
     obtain⟨j,aI⟩:=Int.eq_ofNat_of_zero_le yb
     have ah6:(qx (jY d (fL.l.length:Int) (a.l.length:Int) 4) (i:Int)).getD 0=(j:Int):=by rw [Ve];exact aI
     obtain⟨VM,BO⟩:∃VM,a.l[j]?=some VM:=⟨_,List.getElem?_eq_getElem (by have mn:VL<(a.l.length:Int):=mn;have aI:VL=(j:Int):=aI;omega)⟩
     refine cZ [eJ a] ad aA ?_
     refine aY [0,1] ?_
     refine bG 2 rfl (iW (j:=j) rfl rfl ad (a).fl ah6 ah rfl) ?_
     refine bj 3 rfl (eQ (a2:=uV) (aN:=1) (i:=j) (k:=0) (fun _=>rfl) rfl au (dT cO rfl) ad BO rfl) ?_
     refine aY [4] ?_
     refine j0 5 (aex b) ?_
     rintro _ _ ⟨M0,rfl,rfl⟩
     refine bP ?_
     refine gv ?_
     refine j0 6 (acg BO b0 M0) ?_
     rintro _ _ ⟨mv,ud,rfl,rfl⟩
     refine bP ?_
     refine gv ?_
     refine aY [7,99] ?_
     refine V8 mv ?_ ?_ ?_
     ·exact ud
     ·refine⟨?_,?_,?_,?_,?_,?_,?_,?_,?_,?_,?_,?_,?_,trivial⟩<;>rfl
     exact⟨_,aA⟩
    refine V8 (om:Int) ?_ ?_ ?_
    ·exact⟨by omega,by omega⟩
    ·refine⟨?_,?_,?_,?_,?_,?_,?_,?_,?_,?_,?_,?_,?_,trivial⟩<;>rfl
    exact⟨_,aA⟩
   rintro mv ⟨ajo,ajp⟩
   refine bT ?_ ?_<;>intro bN
   ·refine im (aF:=(([((i:Int),mv)]:List (Int×Int)).flatMap y7)) .no rfl ad b2 b2 (by rfl) (by rfl) rfl rfl (fun Vf=>?_)
    refine j7 (a2:=y7) (c:=jQ) (b:=an.lit Vf [((i:Int),mv)] (by simp)) .no rfl rfl ad au (show Out (U Vf (([((i:Int),mv)]:List (Int×Int)).flatMap y7) 419) _ _ from au) ir (fun _=>rfl) (fun _=>rfl) (by show jQ.l.length+1≤_;omega) (by show(jQ.l.length+1)*_≤_;omega) rfl (fun Vg Lx aeE=>?_)
    have ai7:Vg.l.length=jQ.l.length+1:=by rw [Lx];exact List.length_append
    refine aj ?_
    refine cE (i+1,Vg) ?_
    (try dsimp only);exact⟨by omega,aeE,by omega⟩
   refine cE (i+1,jQ) ?_
   (try dsimp only);exact⟨by omega,wW,by omega⟩
  refine dA (show Take [dl cG] _ _ from aA) (yO rfl rfl rfl rfl au au au ad ad ad) ?_
  exact aO ⟨a,jQ,0,⟨cO,Mu,wW,by omega⟩,rfl,rfl⟩
 intro cG c i bh af h
 obtain⟨rfl,rfl⟩:=h
 refine bP ?_
 refine gE uV 289 1 ?_
 refine gE y7 419 2 ?_
 refine tr ?_
 refine aj ?_
 refine dA (show Take [dl cG] _ _ from aA) (yO rfl rfl rfl rfl au au au ad ad ad) ?_
 exact aO ⟨an.bt,an.bt,104,⟨an.fk,Nat.zero_le _,an.fk,Nat.zero_le _⟩,rfl,rfl⟩
theorem Xs{z:nn}(b:Nat)(aS:oM z)(xs:List Int)(aE:xs.length=z.l.l.length):∃c3:nn,oM c3∧([hk b z,row (az z.l) 3 1 z.l.l.length (xs.flatMap ea)]:List (ar B))=[hk b c3,hF c3.l]:=by
 refine⟨{z with l:={z.l with l:=xs,nil:=(fun h=>List.length_eq_zero_iff.1 (by rw [aE,z.l.nil h];rfl)),small:=(by rw [aE];exact z.l.small),cap:=(by rw [aE];exact z.l.cap)}},⟨aS.y,aS.o,(by have:=aS.n;show(xs.length:Int)≤z.y 0;omega),aS.d⟩,?_⟩
 show _=[U b (Mo z.y _ z.d) 356,row (.slice z.l.bn xs.length z.l.c) 3 1 xs.length (xs.flatMap ea)]
 unfold Mo
 show _=[U b [_,_,.slice z.l.bn xs.length z.l.c,_] 356,_]
 rw [aE]
theorem aeF(b:Nat)(z:nn)(aS:oM z)(n:Int):a6 B 150 [ag b,aa n] [hk b z,hF z.l] (fun v S=>∃(e:Int) (c3:nn),oM c3∧v=aa e∧S=[hk b c3,hF c3.l]):=by
 refine dN 59 Tryz.func150 fun ba bf=>?_
 have jK:=z.l.small
 have EF:=aS.n
 have Vc:=aS.y
 refine aj ?_
 refine cZ _ ad (Take.self _) ?_
 refine aY [0,1,2] ?_
 refine bj 3 rfl (da (v:=az z.l) ad) ?_
 refine aY [4,5,6,7,8] ?_
 refine bj 9 rfl (da (v:=aa (z.y 0)) ad) ?_
 refine df [10,99] ?_
 refine c2 ?_ ?_<;>intro ab
 ·refine ky ?_
  refine dn (az z.l) ?_
  refine aj ?_
  refine im (aF:=(([n]:List Int).flatMap ea)) .no rfl ad b2 b2 (by rfl) (by rfl) rfl rfl (fun yr=>?_)
  refine j7 (a2:=ea) (c:=z.l) (b:=an.lit yr [n] (by simp)) .no rfl rfl ad au (show Out (U yr (([n]:List Int).flatMap ea) 3) _ _ from au) ir (fun _=>rfl) (fun _=>rfl) (by show z.l.l.length+1≤_;omega) (by show(z.l.l.length+1)*_≤_;omega) rfl (fun a a5 cO=>?_)
  have fT:a.l.length=z.l.l.length+1:=by rw [a5];exact List.length_append
  refine aj ?_
  exact aO ⟨0,{z with l:=a},⟨aS.y,cO,by show(a.l.length:Int)≤z.y 0;omega,aS.d⟩,rfl,rfl⟩
 have ob:1≤z.l.l.length:=by omega
 have TU:=P4 ob
 refine nH ?_
 refine dn (aa (z.y 1)) ?_
 refine bT ?_ ?_<;>intro ae
 ·refine cZ [hk b z] ad aA ?_
  refine aY [0,1,2] ?_
  refine bj 3 rfl (da (v:=az z.l) ad) ?_
  refine aY [4,5,6] ?_
  refine bj 7 rfl (da (v:=az z.l) ad) ?_
  refine bj 8 rfl (xm (a:=z.l) (aN:=1) (l:=1) (h:=z.l.l.length) (m:=z.l.c) rfl ad (by exact⟨_,rfl⟩) (by exact rfl) (by exact rfl) (by intro h;exact rfl) ob (Nat.le_refl _) z.l.cap (Nat.le_refl _)) ?_
  refine aY [109] ?_
  refine XY (z:=z.l) rfl .no rfl rfl ad aS.o ob rfl au rfl ?_
  refine df [99] ?_
  refine cZ [hk b z] ad aA ?_
  refine aY [0,1,2] ?_
  refine bj 3 rfl (da (v:=az z.l) ad) ?_
  refine aY [4,5,6] ?_
  refine bj 7 rfl (da (v:=az z.l) ad) ?_
  refine aY [8,9,10] ?_
  refine bG 11 rfl (iW (j:=z.l.l.length-1) rfl rfl ad (z.l).fl ah ah rfl) ?_
  refine aY [112] ?_
  refine l4 rfl dy (vZ (a2:=ea) (i:=z.l.l.length-1) (y:=n) (qw:=((shl z.l.l).set (z.l.l.length-1) n)) aS.o rfl rfl (fun _=>rfl) rfl rfl au ad (by rw [TU];omega) rfl) ?_
  refine df [99] ?_
  obtain⟨c3,ll,ah7⟩:=Xs (B:=B) b aS ((shl z.l.l).set (z.l.l.length-1) n) (by rw [List.length_set];exact TU)
  refine hr (ov (L:=[hk b z,row (az z.l) 3 1 z.l.l.length (((shl z.l.l).set (z.l.l.length-1) n).flatMap ea)]) (R:=[]) aA) ?_
  rw [List.append_nil,ah7]
  refine gH (La b c3 ll 1 (by omega)) ?_
  exact aO ⟨0,{c3 with d:=min (c3.d+1) 4096},⟨ll.y,ll.o,ll.n,by have:=ll.d;show 0≤min (c3.d+1) 4096∧min (c3.d+1) 4096≤4096;omega⟩,rfl,rfl⟩
 refine bD ?_ ?_<;>intro av
 ·refine gH (La b z aS 1 (by omega)) ?_
  exact aO ⟨0,{z with d:=min (z.d+1) 4096},⟨aS.y,aS.o,aS.n,by have:=aS.d;show 0≤min (z.d+1) 4096∧min (z.d+1) 4096≤4096;omega⟩,rfl,rfl⟩
 exact aO ⟨271,z,aS,rfl,rfl⟩
theorem aci(b:Nat)(n:Int):a6 B 150 [ag b,aa n] [cU b] (fun v S=>∃aU,S=cU b::aU∧∃e:Int,v=aa e∧aU=[]):=by
 refine ox (pre:=[]) fun⟨z,aS⟩=>?_
 refine j9 (show di _ _ _ _ [hk b z,hF z.l] _ from aeF b z aS n) ?_
 rintro v S ⟨e,c3,ll,rfl,rfl⟩
 exact⟨_,[cU b],[],Be c3 ll (.cons (.here _ _) (.cons (.here _ _) (.nil _))),Take.self _,[],rfl,e,rfl,rfl⟩
theorem acj{l:List Nat}{i b:Nat}(aR:l[i]?=some b)(n:Int):a6 B 150 [ag b,aa n] [all (l.map cU)] (fun v S=>∃e:Int,v=aa e∧S=[all (l.map cU)]):=
  (CH aR (aci b n)).mono fun v S ⟨aU,ab,e,ae,av⟩=>⟨e,ae,by rw [ab,av]⟩
theorem agC(p:Nat)(k:fy)(l:BitVec 32):a6 B 96 [.pointer (some ⟨p,1,none⟩),aQ l.toNat] [U p (c7 k) 170] (fun v S=>∃(e:Int) (f:BitVec 32),v=aa e∧S=[U p (c7 ({k with pd:=f}:fy)) 170]):=by
 refine bM 15 Tryz.func96 fun ba bf=>?_
 refine c2 ?_ ?_<;>intro ab
 ·refine aj ?_
  exact aO ⟨280,_,rfl,rfl⟩
 refine l5 ?_
 refine dn (aQ k.pd.toNat) ?_
 refine aj ?_
 refine ap (g6 rfl rfl (dM _) (dM _) rfl) ?_
 refine aj ?_
 exact⟨[U p (c7 ({k with pd:=(k.pd|||l)}:fy)) 170],⟨0,_,rfl,rfl⟩,_,cd⟩
theorem ack(p:Nat)(k:fy)(l:BitVec 32):a6 B 97 [.pointer (some ⟨p,1,none⟩),aQ l.toNat] [U p (c7 k) 170] (fun v S=>∃(e:Int) (f:BitVec 32),v=aa e∧S=[U p (c7 ({k with pd:=f}:fy)) 170]):=by
 refine BU 15 Tryz.func97 fun ba bf=>?_
 refine cC ?_
 refine dz ?_
 refine ap (cj rfl) ?_
 refine e8 ?_
 refine cC ?_
 refine cC ?_
 refine dz ?_
 refine ap (cj rfl) ?_
 refine ap (cj rfl) ?_
 refine e8 ?_
 refine c2 (fun ab=>?_) fun ab=>?_
 ·refine cC ?_
  refine dz ?_
  refine ap (cj rfl) ?_
  refine e8 ?_
  refine nv ?_
  refine pf ?_
  refine dA (.nil _) (sB rfl rfl) ?_
  exact⟨[U p (c7 ({k with pd:=k.pd}:fy)) 170],⟨280,_,rfl,rfl⟩,_,cd⟩
 ·refine ic ?_
  refine fj ?_
  refine cC ?_
  refine dz ?_
  refine ap (cj rfl) ?_
  refine ap (ou rfl) ?_
  refine ap (ia ad) ?_
  refine ap (da (v:=aQ k.pd.toNat) ad) ?_
  refine ap (cj rfl) ?_
  refine ap (g6 rfl rfl (dM _) (dM _) rfl) ?_
  refine ap (ou rfl) ?_
  refine ap (ia ad) ?_
  refine fq (jr rfl rfl rfl au ad kC) ?_
  refine e8 ?_
  refine cC ?_
  refine dz ?_
  refine ap (cj rfl) ?_
  refine e8 ?_
  refine nv ?_
  refine dA (.nil _) (sB rfl rfl) ?_
  exact⟨[U p (c7 ({k with pd:=(k.pd&&&~~~l)}:fy)) 170],⟨0,_,rfl,rfl⟩,_,cd⟩
theorem agD(p:Nat)(k:fy)(l:BitVec 32):a6 B 152 [.pointer (some ⟨p,1,none⟩),aQ l.toNat] [U p (c7 k) 170] (fun v S=>∃e:Int,∃f:BitVec 32,v= .tuple #[aQ f.toNat,aa e]∧S=[U p (c7 k) 170]):=by
 refine dN 20 Tryz.func152 fun ba bf=>?_
 refine wi ?_
 refine dn (aQ k.pd.toNat) ?_
 refine aj ?_
 refine ap (g6 rfl rfl (dM _) (dM _) rfl) ?_
 refine bT ?_ ?_<;>intro ab
 ·exact aO ⟨280,0#32,rfl,rfl⟩
 refine bD ?_ ?_<;>intro ae
 ·exact aO ⟨270,0#32,rfl,rfl⟩
 exact aO ⟨0,_,rfl,rfl⟩
theorem acm(p:Nat)(k:fy)(l:BitVec 32):a6 B 153 [.pointer (some ⟨p,1,none⟩),aQ l.toNat] [U p (c7 k) 170] (fun v S=>∃e:Int,∃f:BitVec 32,v= .tuple #[aQ f.toNat,aa e]∧S=[U p (c7 k) 170]):=by
 refine bM 19 Tryz.func153 fun ba bf=>?_
 refine c2 ?_ ?_<;>intro ab
 ·refine aj ?_
  exact aO ⟨280,0#32,rfl,rfl⟩
 refine gN ?_
 refine dn (aQ k.pd.toNat) ?_
 refine aj ?_
 refine ap (g6 rfl rfl (dM _) (dM _) rfl) ?_
 refine bT ?_ ?_<;>intro ae
 ·exact aO ⟨270,0#32,rfl,rfl⟩
 exact aO ⟨0,_,rfl,rfl⟩
theorem aeG(q iU:Nat)(cH:Value)(w:an (BitVec 32))(dW:BitVec 32)(rH:Int)(p:Nat)(k:fy)(ho:Bool)(l:BitVec 32):a6 B 98 [ag q,.bool ho,aQ l.toNat] [U q (eo iU cH (ag p) w dW rH) 116,U p (c7 k) 170] (fun v S=>∃e n:Int,v= .agg #[aa e,aa n]∧S=[U q (eo iU cH (ag p) w dW rH) 116,U p (c7 k) 170]):=by
 refine dN 36 Tryz.func98 fun ba bf=>?_
 have UU:∀f:BitVec 32,f.toNat<4294967296:=fun f=>f.isLt
 refine aj ?_
 refine fe fun ax=>?_
 refine ky ?_
 refine dn (ag p) ?_
 refine aj ?_
 refine cm (agD p k l) ?_
 rintro _ _ ⟨eH,f0,rfl,rfl⟩
 refine bP ?_
 refine cp ?_
 refine bp (aQ f0.toNat) ?_
 refine bp (aa eH) ?_
 refine aj ?_
 refine c2 ?_ ?_<;>intro ab
 ·refine hi ?_
  refine dn (ag p) ?_
  refine aj ?_
  refine cm (acm p k l) ?_
  rintro _ _ ⟨cb,f1,rfl,rfl⟩
  refine bP ?_
  refine cp ?_
  refine bp (aQ f1.toNat) ?_
  refine bp (aa cb) ?_
  refine aj ?_
  refine ap (ja rfl ad (lP ah ah)) ?_
  refine aj ?_
  refine g2 ?_
  exact aO ⟨_,_,rfl,rfl⟩
 refine aj ?_
 refine ap (ja rfl ad (lP ah ah)) ?_
 refine aj ?_
 refine g2 ?_
 exact aO ⟨_,_,rfl,rfl⟩
theorem aeH{k:fy}{t:Nat}(h:t<16):(c7 k)[8+t*1]?=some (aa (k.bm t)):=by
  rcases(show t=0∨t=1∨t=2∨t=3∨t=4∨t=5∨t=6∨t=7∨t=8∨t=9∨t=10∨t=11∨t=12∨t=13∨t=14∨t=15 by omega)with rfl|rfl|rfl|rfl|rfl|rfl|rfl|rfl|rfl|rfl|rfl|rfl|rfl|rfl|rfl|rfl<;>rfl
theorem aeI{k:fy}{t:Nat}(h:t<16):(c7 k)[24+t*1]?=some (aa (k.dG t)):=by
  rcases(show t=0∨t=1∨t=2∨t=3∨t=4∨t=5∨t=6∨t=7∨t=8∨t=9∨t=10∨t=11∨t=12∨t=13∨t=14∨t=15 by omega)with rfl|rfl|rfl|rfl|rfl|rfl|rfl|rfl|rfl|rfl|rfl|rfl|rfl|rfl|rfl|rfl<;>rfl
theorem acn{k:fy}{t:Nat}{z:Int}(h:t<16):(c7 k).set (8+t*1) (aa z)=c7 {k with bm:=bz k.bm t z}:=by
  rcases(show t=0∨t=1∨t=2∨t=3∨t=4∨t=5∨t=6∨t=7∨t=8∨t=9∨t=10∨t=11∨t=12∨t=13∨t=14∨t=15 by omega)with rfl|rfl|rfl|rfl|rfl|rfl|rfl|rfl|rfl|rfl|rfl|rfl|rfl|rfl|rfl|rfl<;>rfl
theorem aco{k:fy}{t:Nat}{z:Int}(h:t<16):(c7 k).set (24+t*1) (aa z)=c7 {k with dG:=bz k.dG t z}:=by
  rcases(show t=0∨t=1∨t=2∨t=3∨t=4∨t=5∨t=6∨t=7∨t=8∨t=9∨t=10∨t=11∨t=12∨t=13∨t=14∨t=15 by omega)with rfl|rfl|rfl|rfl|rfl|rfl|rfl|rfl|rfl|rfl|rfl|rfl|rfl|rfl|rfl|rfl<;>rfl
theorem RJ{k:fy}:(c7 k).length=45:=rfl
structure kg(n:Nat)(a:an fC):Prop where
  o:a.Own
  n:a.l.length≤n
  k:∀x∈a.l,x.2.1≠4
theorem kg.le{n m:Nat}{a:an fC}(h:kg n a)(hm:n≤m):kg m a:=⟨h.o,Nat.le_trans h.n hm,h.k⟩
theorem kg.bt(n:Nat):kg n an.bt:=⟨an.fk,Nat.zero_le _,fun x al=>by cases al⟩
theorem aeJ(p:Nat)(k:fy)(t:Nat)(aL:t<16)(now iU:Int)(kJ:0≤now∧now≤100000000)(nf:0≤k.dG t∧k.dG t≤4096):a6 B 144 [.pointer (some ⟨p,8,none⟩),aa (t:Int),aa now,aa iU] [U p (c7 k) 170] (fun v S=>(k.bm t≤now∧v= .bool true∧S=[U p (c7 ({k with bm:=bz k.bm t (now+min (max iU 1) 4096)}:fy)) 170])∨(now<k.bm t∧v= .bool false∧S=[U p (c7 ({k with dG:=bz k.dG t (min (k.dG t+1) 4096)}:fy)) 170])):=by
 refine bM 43 Tryz.func144 fun ba bf=>?_
 refine gl (ah0 (t:Int)) ?_
 refine c2 ?_ ?_<;>intro ab
 ·simp at ab;omega
 refine wi ?_
 refine ap (p3 rfl rfl ad rfl aL rfl) ?_
 refine ap (ft (v:=aa (k.bm t)) rfl au ad (aeH aL)) ?_
 refine aj ?_
 refine c2 ?_ ?_<;>intro ae
 ·refine aj ?_
  refine cZ [] ad aA ?_
  refine aY [0,1,2,3,4,5] ?_
  refine bG 6 rfl (ns rfl rfl ad rfl aL rfl) ?_
  refine aY [10,11,107] ?_
  refine p5 rfl .no dy (ft (v:=aa (k.dG t)) rfl au ad (aeI aL)) rfl ?_
  refine aY [8,9] ?_
  refine bG 12 rfl (ns rfl rfl ad rfl aL rfl) ?_
  refine aY [113] ?_
  refine l4 rfl dy (js (k:=24+t*1) (aF:=c7 k) (ga:=c7 ({k with dG:=bz k.dG t (min (k.dG t+1) 4096)}:fy)) (v:=aa (min (k.dG t+1) 4096)) rfl rfl rfl au ad (by rw [RJ,Nat.blt_eq];omega) (aco aL)) ?_
  refine df [99] ?_
  exact⟨[U p (c7 ({k with dG:=bz k.dG t (min (k.dG t+1) 4096)}:fy)) 170],.inr ⟨ae,rfl,rfl⟩,_,cd⟩
 refine zi ?_
 refine ap (p3 rfl rfl ad rfl aL rfl) ?_
 refine fq (js (k:=8+t*1) (aF:=c7 k) (ga:=c7 ({k with bm:=bz k.bm t (now+min (max iU 1) 4096)}:fy)) (v:=aa (now+min (max iU 1) 4096)) rfl rfl rfl au ad (by rw [RJ,Nat.blt_eq];omega) (acn aL)) ?_
 refine aj ?_
 exact⟨[U p (c7 ({k with bm:=bz k.bm t (now+min (max iU 1) 4096)}:fy)) 170],.inl ⟨ae,rfl,rfl⟩,_,cd⟩
theorem vU(p:Nat)(k:fy)(s:cf)(a:an fC)(n:Nat)(a5:kg n a)(aP:n≤1000000000)(cT x y:Int)(EH:cT≠4):a6 B 146 [ag p,aa cT,aa x,aa y] [U p (c7 (eT k a)) 170,U k.eB (c5 s) 260,gR a] (fun v S=>∃c:an fC,kg (n+1) c∧v= .tuple #[]∧S=[U p (c7 (eT k c)) 170,U k.eB (c5 s) 260,gR c]):=by
 refine dN 26 Tryz.func146 fun ba bf=>?_
 have fT:=a5.n
 have cO:=a5.o
 refine cZ [U p (c7 (eT k a)) 170] ad aA ?_
 refine aY [0,1,2,3,4,5,6,7,8,10,11,12] ?_
 refine gb 9 (zj k.eB s) ?_
 refine aY [13,114] ?_
 refine qV (aF:=(([(s.now,cT,x,y)]:List fC).flatMap la)) rfl .no rfl ad b2 b2 (by rfl) (by rfl) rfl rfl (fun yr=>?_)
 refine aY [115] ?_
 refine p1 (a2:=la) (c:=a) (b:=an.lit yr [(s.now,cT,x,y)] (by simp)) rfl .no rfl rfl ad au dy (show Out (U yr (([(s.now,cT,x,y)]:List fC).flatMap la) 155) _ _ from au) ir (fun _=>rfl) (fun _=>rfl) (by show a.l.length+1≤_;omega) (by show(a.l.length+1)*_≤_;omega) rfl (fun c a7 jg=>?_)
 refine df [16,17,118,99] ?_
 have qz:c.l.length=a.l.length+1:=by rw [a7];exact List.length_append
 exact aO ⟨c,⟨jg,by omega,fun z aS=>by rw [a7]at aS;rcases List.mem_append.1 aS with q|q;exact a5.k z q;rw [List.mem_singleton.1 q];exact EH⟩,rfl,rfl⟩
theorem agE(p i:Nat)(k:fy)(s:cf)(w8:an fC)(n:Nat)(hu:kg n w8)(aP:n≤900000000){b3:ar B}(aZ:k.y.In b3)(d:Nat→Int)(aJ:k.y.bd.l[i]?=some d)(j:Nat)(aI:d 1=(j:Int))(m:Mode)(hm:k.y.a9.l[j]?=some m)(BB:se m.q.l)(oT:k.q.Own)(nN:k.q.l.length≤4):a6 B 220 [ag p,aa (i:Int)] [U p (c7 (eT k w8)) 170,U k.eB (c5 s) 260,gR w8,eJ k.q,all (k.q.l.map cU),b3] (fun v S=>∃(a:an Nat) (cM:an fC),(a.Own∧a.l.length≤4∧kg (n+4) cM)∧v= .tuple #[]∧S=[U p (c7 (eT {k with q:=a} cM)) 170,U k.eB (c5 s) 260,gR cM,eJ a,all (a.l.map cU),b3]):=by
 refine BU 58 Tryz.func220 fun ba bf=>?_
 have kM:i<k.y.bd.l.length:=(List.getElem?_eq_some_iff.1 aJ).1
 have wM:j<k.y.a9.l.length:=(List.getElem?_eq_some_iff.1 hm).1
 have jK:=k.y.bd.small
 have l3:=k.y.a9.small
 refine cC ?_
 refine dz ?_
 refine ap (cj rfl) ?_
 refine ap (ou rfl) ?_
 refine ap (ia ad) ?_
 refine ap (ia ad) ?_
 refine ap (da ad) ?_
 refine ap (cj rfl) ?_
 refine ap (jS rfl rfl ad (k.y.bd).fl rfl ah rfl) ?_
 refine ap (jV (a2:=dP) (aN:=23) (i:=i) (fun _=>rfl) rfl au aZ.bd ad aJ) ?_
 refine ve ad fun ax=>?_
 refine fq (kG rfl rfl rfl au ad rfl rfl) ?_
 refine e8 ?_
 refine cC ?_
 refine k3 [U p (c7 (eT k w8)) 170,U ax (dP d) 184,b3] ad aA ?_
 refine bG 0 rfl (dD rfl) ?_
 refine bG 1 rfl (mz rfl) ?_
 refine bG 2 rfl (hn ad) ?_
 refine bj 3 rfl (da ad) ?_
 refine bG 4 rfl (dD rfl) ?_
 refine bG 5 rfl (mz rfl) ?_
 refine bG 6 rfl (hn ad) ?_
 refine bG 7 rfl (hn ad) ?_
 refine bj 8 rfl (da ad) ?_
 refine bG 9 rfl (hn ad) ?_
 refine bj 10 rfl (da ad) ?_
 refine bG 11 rfl (iW (j:=j) rfl rfl ad (k.y.a9).fl aI ah rfl) ?_
 refine bG 12 rfl (PZ rfl ad rfl) ?_
 refine bj 13 rfl (eQ (a2:=gg) (aN:=2) (i:=j) (k:=1) (fun _=>rfl) rfl au aZ.a9 ad hm rfl) ?_
 refine bG 14 rfl (hn ad) ?_
 refine bj 15 rfl (ed rfl au ad rfl (by rfl)) ?_
 refine jx 16 ?_
 refine nk (aeD (K:=b3) k.q oT nN m.q (aZ.rR m (List.mem_of_getElem? hm)) BB d) ?_
 rintro _ _ ⟨a,jQ,b8,⟨cO,Mu,wW,akb⟩,rfl,rfl⟩
 simp only [List.cons_append,List.nil_append]
 refine⟨[eJ a,all (a.l.map cU),DD jQ,eJ k.q,all (k.q.l.map cU),U k.eB (c5 s) 260,gR w8],_,_,dy,aA,?_⟩
 refine bG 17 rfl (dD rfl) ?_
 refine bG 18 rfl (dD (v:=az a) rfl) ?_
 refine bG 19 rfl (dD (v:=az jQ) rfl) ?_
 refine bG 20 rfl (dD (v:=aa b8) rfl) ?_
 refine bG 21 rfl (dD rfl) ?_
 refine bG 22 rfl (dD rfl) ?_
 refine bG 23 rfl (dD rfl) ?_
 refine pc ?_
 try simp only [List.cons_append,List.nil_append,List.append_nil]
 refine fj ?_
 refine cC ?_
 refine cC ?_
 refine dz ?_
 refine ap (cj rfl) ?_
 refine ap (cj rfl) ?_
 refine e8 ?_
 refine c2 (fun ab=>?_) fun ab=>?_
 ·refine nv ?_
  refine pf ?_
  refine dA (.nil _) (uA rfl) ?_
  exact⟨[U p (c7 (eT {k with q:=k.q} w8)) 170,U k.eB (c5 s) 260,gR w8,eJ k.q,all (k.q.l.map cU),b3],⟨k.q,w8,⟨oT,nN,hu.le ah⟩,rfl,rfl⟩,_,cd⟩
 ·refine ic ?_
  refine fj ?_
  refine cC ?_
  refine dz ?_
  refine ap (cj rfl) ?_
  refine ap (cj rfl) ?_
  refine ap (ou rfl) ?_
  refine ap (ia ad) ?_
  refine fq (jr rfl rfl rfl au ad kC) ?_
  refine e8 ?_
  refine cC ?_
  refine dz ?_
  refine ap (cj rfl) ?_
  refine ap (Bt rfl ad) ?_
  refine ap (cj rfl) ?_
  refine e8 ?_
  refine mA ?_
  refine ds (α:=Nat×an fC) (fun⟨i2,cM⟩=>i2≤jQ.l.length∧kg (n+i2) cM) (fun⟨i2,cM⟩=>[(47,aa (i2:Int)),(0,ag p),(45,az jQ),(46,aa (jQ.l.length:Int))]) (fun⟨i2,cM⟩=>[U p (c7 (eT {k with q:=a} cM)) 170,U k.eB (c5 s) 260,gR cM,eJ a,all (a.l.map cU),b3,DD jQ]) (fun⟨i2,cM⟩=>jQ.l.length-i2) (0,w8) ?_ dq cd ?_
  ·exact⟨Nat.zero_le _,hu⟩
  ·rintro⟨i2,cM⟩ ⟨ug,cL⟩
   dsimp only
   refine cC ?_
   refine dz ?_
   refine ap (cj rfl) ?_
   refine e8 ?_
   refine cC ?_
   refine c2 (fun ae=>?_) fun ae=>?_
   ·obtain⟨x,b0⟩:∃x,jQ.l[i2]?=some x:=⟨_,List.getElem?_eq_getElem ah⟩
    refine ic ?_
    refine fj ?_
    refine cC ?_
    refine mA ?_
    refine cC ?_
    refine dz ?_
    refine ap (jS rfl rfl ad (jQ).fl rfl ah rfl) ?_
    refine ap (jV (a2:=y7) (aN:=2) (i:=i2) (fun _=>rfl) rfl au (dT wW rfl) ad b0) ?_
    refine ve ad fun aK=>?_
    refine fq (kG rfl rfl rfl au ad rfl rfl) ?_
    refine e8 ?_
    refine dz ?_
    refine ap (cj rfl) ?_
    refine ap (ia ad) ?_
    refine ap (da ad) ?_
    refine ap (ia ad) ?_
    refine ap (da ad) ?_
    refine E7 (vU p {k with q:=a} s cM (n+i2) cL (by omega) 10 x.1 x.2 (by decide)) ?_
    rintro _ _ ⟨v2,pH,rfl,rfl⟩
    simp only [List.cons_append,List.nil_append]
    refine uF ?_
    refine tm ?_
    refine fj ?_
    refine dz ?_
    refine ap (mE rfl rfl ah ah) ?_
    refine ap (cj rfl) ?_
    refine uF ?_
    refine k2 (i2+1,v2) ?_ ?_ ?_ ?_
    ·(try dsimp only);exact⟨by omega,pH⟩
    ·(try dsimp only);omega
    ·refine⟨?_,?_,?_,?_,trivial⟩<;>rfl
    ·(try dsimp only);exact⟨_,cd⟩
   ·refine tx ?_
    refine tn ?_
    refine tp ?_
    refine to ?_
    refine CI (.nil _) (uA rfl) ?_
    exact⟨[U p (c7 (eT {k with q:=a} cM)) 170,U k.eB (c5 s) 260,gR cM,eJ a,all (a.l.map cU),b3],⟨a,cM,⟨cO,Mu,cL.le ah⟩,rfl,rfl⟩,_,cd⟩
structure qN(c:ck)(y bL:bZ)(o:fW)(b3 eS cF aB:ar B):Prop where
  aZ:y.In b3
  nm:y.c=c
  cn:oL bL o eS cF aB
  yB:bL.c=c
  q:∀m∈y.a9.l,se m.q.l
theorem qN.Iy{c:ck}{y bL:bZ}{o:fW}{b3 eS cF aB:ar B}(h:qN c y bL o b3 eS cF aB){x:Int}(al:hb c x):∃(i:Nat) (d:Nat→Int) (j:Nat) (m:Mode),x=(i:Int)∧y.bd.l[i]?=some d∧d 1=(j:Int)∧y.a9.l[j]?=some m∧se m.q.l:=by
  obtain⟨i,af⟩:=Int.eq_ofNat_of_zero_le al.ec
  have ab:y.bd.l=c.bd:=by rw [←h.nm]
  have ae:c.a9.length=y.a9.l.length:=by rw [←h.nm];exact List.length_map _
  have aJ:=al.at_
  rw [af,Int.toNat_natCast, ←af]at aJ
  have bY:=h.cn.qL
  rw [h.yB]at bY
  obtain⟨⟨_,_,bI,cv⟩,_⟩:=bY.e _ _ aJ
  obtain⟨j,aI⟩:=Int.eq_ofNat_of_zero_le bI
  have wM:j<y.a9.l.length:=by omega
  exact⟨i,_,j,_,af,by rw [ab];exact aJ,aI,List.getElem?_eq_getElem wM,h.q _ (List.getElem_mem wM)⟩
theorem RK{c:ck}{y:bZ}{o:fW}{e:cw}{aW:List Nat}(a7:y.c=c)(hL:e.phase=3→hb c e.aT):((nd y o e aW).phase=3→DB (nd y o e aW))∧jo (nd y o e aW)=je c e:=by
 subst a7
 refine⟨fun h=>?_,aac hL⟩
 obtain⟨i,af,aJ⟩:=J7 (hL h)
 exact⟨i,_,af,aJ⟩
theorem GZ(p:Nat)(k:fy)(s:cf)(e:cw)(aW:List Nat){b3 eS cF aB:ar B}{c:ck}{bL:bZ}{o:fW}(fz:qN c k.y bL o b3 eS cF aB)(hL:e.phase=3→hb c e.aT)(a7:jt s)(gW:an fC)(n:Nat)(qv:kg n gW)(aP:n≤500000000)(oT:k.q.Own)(nN:k.q.l.length≤4)(a:an pb)(fT:a.l.length≤400)(cO:a.Own)(sk:∀x∈a.l,x.c=true→hb c x.e):a6 B 149 [ag p,az a] [U p (c7 (eT k gW)) 170,U k.eB (c5 s) 260,many 16 (eK s.aD),eg k.fh bL o e aW,gR gW,eJ k.q,all (k.q.l.map cU),uX a,b3,eS,aB] (fun v S=>∃(cM:an fC) (dH:an Nat),(kg (n+2000) cM∧dH.Own∧dH.l.length≤4)∧v= .tuple #[]∧S=[U p (c7 (eT ({k with q:=dH,act:=je c e}:fy) cM)) 170,U k.eB (c5 (kc c e k.act s)) 260,many 16 (eK s.aD),eg k.fh bL o e aW,gR cM,eJ dH,all (dH.l.map cU),b3,eS,aB]):=by
 refine WT (N:=43) Tryz.func149 rfl (by simp) rfl rfl rfl rfl fF ?_
 intro ba bf MZ akc
 have ajq:=a.small
 refine aj ?_
 refine ds (α:=Nat×an fC×an Nat) (fun⟨i,cM,dH⟩=>i≤a.l.length∧kg (n+5*i) cM∧dH.Own∧dH.l.length≤4) (fun⟨i,cM,dH⟩=>[(9,aa (i:Int)),(0,ag p),(7,az a),(8,aa (a.l.length:Int))]) (fun⟨i,cM,dH⟩=>[U p (c7 (eT ({k with q:=dH}:fy) cM)) 170,U k.eB (c5 s) 260,many 16 (eK s.aD),eg k.fh bL o e aW,gR cM,eJ dH,all (dH.l.map cU),uX a,b3,eS,aB]) (fun⟨i,cM,dH⟩=>a.l.length-i) (0,gW,k.q) ?_ dq cd ?_
 ·exact⟨Nat.zero_le _,qv,oT,nN⟩
 rintro⟨i,cM,dH⟩ ⟨af,cL,lD,nI⟩
 dsimp only
 refine bT ?_ ?_<;>intro ab
 ·obtain⟨⟨aiW,aiX,aiY,ID,B8,VN⟩,b0⟩:∃x,a.l[i]?=some x:=⟨_,List.getElem?_eq_getElem ah⟩
  refine aj ?_
  refine ap (jV (a2:=r3) (aN:=6) (i:=i) (fun _=>rfl) rfl au (dT cO rfl) ad b0) ?_
  refine fe fun ax=>?_
  refine ky ?_
  refine dn (.bool aiW) ?_
  refine aj ?_
  refine c2 ?_ ?_<;>intro ae
  ·refine iK ?_
   refine dn (aa B8) ?_
   refine cp ?_
   refine dn (aa ID) ?_
   refine cm (vU p {k with q:=dH} s cM (n+5*i) cL (by omega) 7 B8 ID (by decide)) ?_
   rintro _ _ ⟨v2,pH,rfl,rfl⟩
   refine cx ?_
   refine cE (i+1,v2,dH) ?_
   (try dsimp only);exact⟨by omega,pH.le ah,lD,nI⟩
  refine iK ?_
  refine dn (.bool aiX) ?_
  refine aj ?_
  refine c2 ?_ ?_<;>intro av
  ·refine hi ?_
   refine dn (aa B8) ?_
   refine cp ?_
   refine dn (aa VN) ?_
   refine cm (vU p {k with q:=dH} s cM (n+5*i) cL (by omega) 8 B8 VN (by decide)) ?_
   rintro _ _ ⟨v2,pH,rfl,rfl⟩
   refine bP ?_
   refine hi ?_
   refine dn (aa ID) ?_
   obtain⟨Ae,d,j,m,sr,kN,aI,hm,BB⟩:=fz.Iy (sk _ (List.mem_of_getElem? b0) av)
   have sr:ID=(Ae:Int):=sr
   subst sr
   refine cm (agE p Ae {k with q:=dH} s v2 (n+5*i+1) pH (by omega) fz.aZ d kN j aI m hm BB lD nI) ?_
   rintro _ _ ⟨aiZ,rF,⟨o3,ah8,Ie⟩,rfl,rfl⟩
   refine cx ?_
   refine cE (i+1,rF,aiZ) ?_
   (try dsimp only);exact⟨by omega,Ie.le ah,o3,ah8⟩
  refine iK ?_
  refine dn (.bool aiY) ?_
  refine aj ?_
  refine c2 ?_ ?_<;>intro aV
  ·refine iK ?_
   refine dn (aa B8) ?_
   refine cm (vU p {k with q:=dH} s cM (n+5*i) cL (by omega) 9 B8 0 (by decide)) ?_
   rintro _ _ ⟨v2,pH,rfl,rfl⟩
   refine cx ?_
   refine cE (i+1,v2,dH) ?_
   (try dsimp only);exact⟨by omega,pH.le ah,lD,nI⟩
  refine aj ?_
  refine cE (i+1,cM,dH) ?_
  (try dsimp only);exact⟨by omega,cL.le ah,lD,nI⟩
 have zn:=(RK (o:=o) (aW:=aW) fz.yB hL).2
 have Hq:oJ (eT ({k with q:=dH}:fy) cM) (nd bL o e aW) s=kc c e k.act s:=by unfold oJ kc;rw [zn,Gt fz.nm]
 refine⟨rfl,[U p (c7 (eT ({k with q:=dH}:fy) cM)) 170,U k.eB (c5 s) 260,many 16 (eK s.aD),eg k.fh bL o e aW,b3,eS,aB],_,cd,(aeo p (eT ({k with q:=dH}:fy) cM) (nd bL o e aW) s fz.aZ fz.cn.aZ (RK fz.yB hL).1 a7 fz.cn.bO fz.cn.aJ).mono ?_⟩
 rintro _ _ ⟨rfl,rfl⟩
 rw [zn,Hq]
 refine bP ?_
 exact⟨[U p (c7 (eT ({k with q:=dH,act:=je c e}:fy) cM)) 170,U k.eB (c5 (kc c e k.act s)) 260,many 16 (eK s.aD),eg k.fh bL o e aW,gR cM,eJ dH,all (dH.l.map cU),b3,eS,aB],_,cd,⟨cM,dH,⟨cL.le ah,lD,nI⟩,trivial,rfl⟩⟩
section
section
variable{c:ck}{e:cw}{s:cf}{bm:Nat→Int}
theorem QJ{id:Int}:∀(l:ef) (a:Int) (p:Int×Int),p∈eu a (tS id l)→p∈eu a l
  |[],a,p,h=>h
  |x::l,a,p,h=>by
    unfold tS at h
    split at h
    · cases l with
      |nil=>cases h
      |cons y l=>
        have cb:a+(y.2+x.2)=a+x.2+y.2:=by omega
        simp only [eu]at h⊢
        rw [cb]at h
        exact List.mem_cons_of_mem _ h
    · simp only [eu]at h⊢
      rcases List.mem_cons.1 h with q|q
      · rw [q];exact List.mem_cons_self ..
      · exact List.mem_cons_of_mem _ (QJ l _ p q)
theorem JA{id:Int}:∀(l:ef),zp id l=true→(tS id l).length+1=l.length
  |[],h=>by cases h
  |x::l,h=>by
    unfold tS
    split
    · cases l with
      |nil=>rfl
      |cons y l=>rfl
    · rename_i q
      have ae:zp id l=true:=by unfold zp at h⊢;rw [List.any_cons,decide_eq_false q,Bool.false_or]at h;exact h
      rw [List.length_cons,List.length_cons,JA l ae]
theorem YE{id:Int}{l:ef}(h:zp id l=false):tS id l=l:=J5 l fun q=>by
  obtain⟨x,al,af⟩:=List.mem_map.1 q
  have:zp id l=true:=List.any_eq_true.2 ⟨x,al,decide_eq_true af⟩
  rw [h]at this;cases this
structure Ig(l:ef):Prop where
  ko:∀p∈eu 0 l,p.2≤65536
  len:l.length≤64
theorem Ig.add{id t:Int}{l:ef}(h:Ig l):Ig (sf id t l):=by
 unfold sf
 split
 ·rename_i q
  unfold K7 at q
  rw [Bool.and_eq_true,decide_eq_true_eq,Bool.or_eq_true,decide_eq_true_eq]at q
  refine⟨fun p aC=>?_,?_⟩
  ·rcases(Gv _ _ _ _).1 aC with rfl|aC
   ·show 0+t≤_;omega
   exact h.ko p (QJ _ _ _ aC)
  rw [Jy]
  have:=h.len
  rcases q.2 with q|q
  ·rw [JA l q];exact this
  cases fv:zp id l with
  |true=>rw [JA l fv];exact this
  |false=>rw [YE fv];omega
 exact h
structure fu(e:cw):Prop where
  t:Ig e.a0
  nS:0≤e.since
  cs:e.since≤e.now
theorem fu.l2(h:fu e):fu (l2 e):=⟨h.t,h.nS,h.cs⟩
theorem fu.ji{mv:cw→cw}(ud:∀e,fu e→fu (mv e))(h:fu e):fu (ji c mv e):=by
  unfold Go.Proofs.YtkpibibplbjciaaGreatDoor.ji
  split
  · exact⟨h.t.add,h.nS,h.cs⟩
  · exact ud _ ⟨h.t,h.nS,h.cs⟩
theorem fu.pQ{l:Int}(h:fu e):fu (pQ c e l):=by
  unfold Go.Proofs.YtkpibibplbjciaaGreatDoor.pQ
  split
  · exact h.ji fun _=>fu.l2
  · exact⟨h.t.add,h.nS,h.cs⟩
theorem fu.mN{d:Nat→Int}{i:Int}(h:fu e):fu (mN d e i):=by
  unfold Go.Proofs.YtkpibibplbjciaaGreatDoor.mN
  split
  · exact⟨h.t,h.nS,h.cs⟩
  · exact⟨h.t.add,h.nS,h.cs⟩
theorem fu.fold{α:Type}{f:cw→α→cw}(bs:∀e a,fu e→fu (f e a)):∀(l:List α) (e:cw),fu e→fu (l.foldl f e)
  |[],_,h=>h
  |a::l,e,h=>fu.fold bs l _ (bs e a h)
theorem fu.lG{bB:BitVec 32}{i:Int}(h:fu e):fu (lG c bB e i):=by
 have aP:=Int.le_trans h.nS h.cs
 unfold Go.Proofs.YtkpibibplbjciaaGreatDoor.lG
 split
 ·split
  ·exact fu.ji (fun _=>fu.l2) ⟨h.t,aP,Int.le_refl _⟩
  exact⟨h.t,aP,Int.le_refl _⟩
 refine fu.pQ ?_
 split
 ·exact fu.fold (fun _ _=>fu.mN) _ _ ⟨h.t,aP,Int.le_refl _⟩
 split
 ·exact⟨h.t,aP,Int.le_refl _⟩
 exact⟨h.t,aP,Int.le_refl _⟩
theorem fu.jM{bB:BitVec 32}(h:fu e):fu (jM c bB e):=by
  unfold Go.Proofs.YtkpibibplbjciaaGreatDoor.jM
  split
  · exact h.l2
  · split
    · exact fu.lG ⟨h.t,h.nS,h.cs⟩
    · exact⟨h.t,h.nS,h.cs⟩
theorem fu.iN{bB:BitVec 32}{i:Int}(h:fu e):fu (iN c bB e i):=by
  unfold Go.Proofs.YtkpibibplbjciaaGreatDoor.iN
  split
  · exact h.ji fun _=>fu.jM
  · split
    · exact h.jM
    · exact⟨h.t,h.nS,h.cs⟩
theorem fu.base(h:fu e)(ab:nc e.a0)(ae:∀p∈eu 0 e.a0,1≤p.2):fu {e with now:=e.now+1,a0:=(eh e.a0).2}:=by
 obtain⟨d1,d2,d3,d4⟩:=FT ab ae
 have aH:=h.cs
 refine⟨⟨fun p aC=>?_,?_⟩,h.nS,by show e.since≤e.now+1;omega⟩
 ·have:=h.t.ko _ ((d4 p).2 (.inr ⟨aC,d3 p aC⟩))
  have:p.2+1≤65536:=this
  omega
 have:=congrArg List.length d2
 rw [List.length_append,List.length_map,List.length_map]at this
 have:=h.t.len
 show(eh e.a0).2.length≤64
 omega
theorem fu.ah9{bB:BitVec 32}(h:fu e)(ab:nc e.a0)(ae:∀p∈eu 0 e.a0,1≤p.2):fu (iJ c bB e)∧fu (gz c bB e):=by
 have av:fu (iJ c bB e):=fu.fold (fun _ _=>fu.iN) _ _ (h.base ab ae)
 refine⟨av,?_⟩
 unfold gz
 split
 ·exact av.ji fun _=>fu.jM
 exact av
theorem fu.ask{bB:BitVec 32}{m:Int}(h:fu e):fu (hH c bB e m):=by
  unfold hH
  split
  · split
    · exact h.lG
    · exact⟨h.t,h.nS,h.cs⟩
  · exact h
theorem fu.zero:fu rB:=⟨⟨fun p aC=>(by cases aC),(by decide)⟩,(by decide),(by decide)⟩
theorem nM.EI(p:nM c e s bm):nc e.a0∧∀p∈eu 0 e.a0,1≤p.2:=by
 have aP:∀{l:ef},l=[]→nc l∧∀p∈eu 0 l,1≤p.2:=by
  rintro _ rfl;exact⟨fun x al=>(by cases al),fun x al=>(by cases al)⟩
 have ab:∀{l:ef} {i k:Int},l=[(i,k)]→1≤k→nc l∧∀p∈eu 0 l,1≤p.2:=by
  rintro _ i k rfl ai
  refine⟨fun x al=>?_,fun x al=>?_⟩
  ·rw [List.mem_singleton.1 al];show 0≤k;omega
  rw [List.mem_singleton.1 (show x∈[(i,0+k)]from al)];show 1≤0+k;omega
 cases p with
 |steady _ _ a0=>exact aP a0
 |waiting _ _ _ _ a0=>exact aP a0
 |po _ _ _ _ k a0 ai=>exact ab a0 ai
 |oq _ _ _ _ _ o4 _ due=>exact⟨o4,fun q bF=>(due q bF).1⟩
 |ot _ _ _ _ k a0 ai=>exact ab a0 ai
theorem Inv.Mv(af:Inv c e s bm)(hu:fu e):o5 e.a0:=⟨af.sq.EI.1,fun p aC=>⟨af.sq.EI.2 p aC,hu.t.ko p aC⟩,hu.t.len⟩
theorem Inv.eI(af:Inv c e s bm):(0≤e.aT→hb c e.aT)∧(e.phase=3→hb c e.aT)∧(e.phase=0→e.a0=[]):=by
  cases af.sq with
  |steady eU eI a0=>exact⟨fun h=>absurd eI (by omega),fun h=>by omega,fun _=>a0⟩
  |waiting eU eI _ _ a0=>exact⟨fun _=>eI,fun _=>eI,fun _=>a0⟩
  |po eU eI=>exact⟨fun _=>eI,fun _=>eI,fun h=>by omega⟩
  |oq eU eI=>exact⟨fun _=>eI,fun _=>eI,fun h=>by omega⟩
  |ot eU eI=>exact⟨fun _=>eI,fun _=>eI,fun h=>by omega⟩
theorem Inv.Lb(bY:hU c)(af:Inv c e s bm)(aP:s.now<100000000)(hu:fu e):SF c (b4 s).1.live e:=by
 have kJ:=af.now
 obtain⟨t1,t2⟩:=af.sq.EI
 have aR:=hu.base t1 t2
 have EJ:=hu.nS
 have akd:=hu.cs
 have SG:∀l:List Int,fu (l.foldl (iN c (b4 s).1.live) {e with now:=e.now+1,a0:=(eh e.a0).2}):=fun l=>fu.fold (fun _ _=>fu.iN) l _ aR
 have zX:∀l:List Int,-1000000000≤(l.foldl (iN c (b4 s).1.live) {e with now:=e.now+1,a0:=(eh e.a0).2}).since∧(l.foldl (iN c (b4 s).1.live) {e with now:=e.now+1,a0:=(eh e.a0).2}).since≤1000000000:=fun l=>by
  have ab:=(SG l).nS
  have ae:=(SG l).cs
  rw [Ay]at ae
  have ae:_≤e.now+1:=ae
  omega
 refine⟨fun i id gA aia=>?_,fun aC aE=>?_⟩
 ·have TV:∀{j k:Int},e.a0=[(j,k)]→(((eh e.a0).1.take i).foldl (iN c (b4 s).1.live) {e with now:=e.now+1,a0:=(eh e.a0).2})={e with now:=e.now+1,a0:=[]}∧id=j:=by
   intro j k a0
   rw [a0,CG]at gA⊢
   by_cases q:k-1=0
   ·rw [if_pos q]at gA⊢
    cases i with
    |zero=>exact⟨rfl,by simpa using gA.symm⟩
    |succ i=>cases gA
   rw [if_neg q]at gA;cases gA
  suffices h:(((eh e.a0).1.take i).foldl (iN c (b4 s).1.live) {e with now:=e.now+1,a0:=(eh e.a0).2}).a0=[]∧(id=16→hb c (((eh e.a0).1.take i).foldl (iN c (b4 s).1.live) {e with now:=e.now+1,a0:=(eh e.a0).2}).aT)from⟨h.1,h.2,zX _⟩
  cases af.sq with
  |steady eU eI a0=>rw [a0]at gA;cases gA
  |waiting eU eI _ _ a0=>rw [a0]at gA;cases gA
  |po eU eI _ _ k a0 ai=>rw [(TV a0).1];exact⟨rfl,fun _=>eI⟩
  |ot eU eI _ _ k a0 ai=>rw [(TV a0).1];exact⟨rfl,fun _=>eI⟩
  |oq eU eI hN ib cs o4 oh due has op bB p=>
   have sp:=bY.wU eI ib
   obtain⟨d1,d2,d3,d4⟩:=FT o4 (fun q bF=>(due q bF).1)
   have wz:∀i∈(eh e.a0).1,(i=16∧s.now+1=e.since+(eN c e.aT).1)∨(0≤i∧i<16∧hasB (kf c (bk c e.aT)) i=true∧s.now+1=e.since+kZ c e.aT i.toNat):=fun i af=>by
    have:=due (i,0+1) ((d4 (i,0)).2 (.inl ⟨af,rfl⟩))
    rcases this.2 with⟨a1,a3⟩|⟨a1,a3,bI,cv⟩
    ·exact .inl ⟨a1,by have a3:s.now+(0+1)=_:=a3;omega⟩
    exact .inr ⟨a1,a3,bI,by have cv:s.now+(0+1)=e.since+kZ c e.aT i.toNat:=cv;omega⟩
   have Hb:∀q∈eu 0 (eh e.a0).2,1≤q.2∧((q.1=16∧s.now+1+q.2=e.since+(eN c e.aT).1)∨(0≤q.1∧q.1<16∧hasB (kf c (bk c e.aT)) q.1=true∧s.now+1+q.2=e.since+kZ c e.aT q.1.toNat)):=fun q bF=>by
    have l7:=d3 q bF
    have:=due (q.1,q.2+1) ((d4 q).2 (.inr ⟨bF,l7⟩))
    rcases this.2 with⟨a1,a3⟩|⟨a1,a3,bI,cv⟩
    ·exact⟨l7,.inl ⟨a1,by have a3:s.now+(q.2+1)=_:=a3;omega⟩⟩
    exact⟨l7,.inr ⟨a1,a3,bI,by have cv:s.now+(q.2+1)=e.since+kZ c e.aT q.1.toNat:=cv;omega⟩⟩
   rw [d2]at oh
   rw [List.nodup_append]at oh
   obtain⟨Ib,U6,Mt⟩:=oh
   have LM:=List.mem_of_getElem? gA
   have mT:id=16:=by
    rcases aia with q|q
    ·exact q
    subst q
    rcases wz 17 LM with⟨g,_⟩|⟨_,g,_⟩<;>omega
   subst mT
   have aeu:s.now+1=e.since+(eN c e.aT).1:=by
    rcases wz 16 LM with⟨_,g⟩|⟨_,g,_⟩
    ·exact g
    omega
   have a4:(eh e.a0).2=[]:=by
    cases aL:(eh e.a0).2 with
    |nil=>rfl
    |cons x l=>
     exfalso
     have al:(x.1,0+x.2)∈eu 0 (eh e.a0).2:=by rw [aL];exact List.mem_cons_self ..
     obtain⟨l7,⟨a1,a3⟩|⟨a1,a3,bI,cv⟩⟩:=Hb _ al
     ·have:(16:Int)∈(eh e.a0).2.map Prod.fst:=by
       rw [aL,List.map_cons];exact List.mem_cons.2 (.inl (show(16:Int)=x.1 from a1.symm))
      exact absurd rfl (Mt 16 LM 16 this)
     have eX:=vM (a:=iS c e.aT) (b:=iT c e.aT) bI
     obtain⟨k,ai⟩:=Int.eq_ofNat_of_zero_le a1
     have ai:x.1=(k:Int):=ai
     have fJ:=sp.off k (by rw [←ai];exact eX)
     have mY:fA (iS c e.aT) (iT c e.aT) (kZ c e.aT) (k:Int)=kZ c e.aT (k:Int).toNat:=by
      unfold fA;rw [if_pos (by rw [←ai];exact bI)]
     rw [mY, ←ai]at fJ
     have cv:s.now+1+(0+x.2)=e.since+kZ c e.aT x.1.toNat:=cv
     have l7:1≤0+x.2:=l7
     omega
   have x2:∀j∈(eh e.a0).1.take i,0≤j∧j<16:=fun j aI=>by
    rcases wz j (List.mem_of_mem_take aI)with⟨a1,_⟩|⟨a1,a3,_⟩
    ·subst a1;exact absurd aI (Ok Ib gA)
    exact⟨a1,a3⟩
   obtain⟨kF,cy,_⟩:=Dk (c:=c) (bB:=(b4 s).1.live) ((eh e.a0).1.take i) {e with now:=e.now+1,a0:=(eh e.a0).2} x2
   rw [cy]
   exact⟨a4,fun _=>eI⟩
 have p:=QD bY af ah
 suffices h:(iJ c (b4 s).1.live e).a0=[]∧hb c (iJ c (b4 s).1.live e).aT from⟨h.1,h.2,zX _⟩
 cases p with
 |waiting eU eI _ _ a0=>exact⟨a0,eI⟩
 |steady eU=>omega
 |po eU=>omega
 |oq eU=>omega
 |ot eU=>omega
end
end
theorem vJ{c:ck}{e:cw}{a:BitVec 32}{s:cf}:(kc c e a s).aD=s.aD∧(kc c e a s).now=s.now∧(kc c e a s).live=s.live:=by unfold kc;split<;>exact⟨rfl,rfl,rfl⟩
theorem acp(p:Nat)(k:fy)(s:cf)(e:cw)(aW:List Nat){b3 eS cF aB:ar B}{c:ck}{bL:bZ}{o:fW}(fz:qN c k.y bL o b3 eS cF aB)(af:Inv c e s k.bm)(hu:fu e)(kk:aW.length=e.a0.length)(sk:s.now<100000000)(gW:an fC)(n:Nat)(qv:kg n gW)(aP:n≤400000000)(oT:k.q.Own)(nN:k.q.l.length≤4):a6 B 140 [ag p] [U p (c7 (eT k gW)) 170,U k.eB (c5 s) 260,many 16 (eK s.aD),eg k.fh bL o e aW,hB aW e,gR gW,eJ k.q,all (k.q.l.map cU),b3,eS,cF,aB] (fun v S=>∃(cM:an fC) (dH:an Nat) (ep:List Nat),(kg (n+2010) cM∧dH.Own∧dH.l.length≤4∧ep.length=(gz c (b4 s).1.live e).a0.length)∧v= .agg (u2 (b4 s).2).toArray∧S=[U p (c7 (eT ({k with q:=dH,act:=je c (gz c (b4 s).1.live e)}:fy) cM)) 170,U k.eB (c5 (kc c (gz c (b4 s).1.live e) k.act (b4 s).1)) 260,many 16 (eK (b4 s).1.aD),eg k.fh bL o (gz c (b4 s).1.live e) ep,hB ep (gz c (b4 s).1.live e),gR cM,eJ dH,all (dH.l.map cU),b3,eS,cF,aB]):=by
 refine dN 88 Tryz.func140 fun ba bf=>?_
 have bY:=fz.cn.qL
 have zQ:=fz.yB
 subst zQ
 have kJ:=af.now
 have yb:=hu.nS
 have mn:=hu.cs
 have ey:=af.aca bY ah
 refine aj ?_
 refine de fun ax=>?_
 refine eR (adS (K:=aB) k.eB s af.sys.ok fz.cn.bO) ?_
 refine cp ?_
 refine bp (aa (iX s.r).1) ?_
 refine bp (.bool (iX s.r).2) ?_
 refine iK ?_
 refine jT (α:=an fC) (fun v1=>kg (n+1) v1) (fun v1=>[(0,ag p),(2,ag ax)]) (fun v1=>[U p (c7 (eT k v1)) 170,U k.eB (c5 s) 260,many 16 (eK s.aD),eg k.fh bL o e aW,hB aW e,gR v1,eJ k.q,all (k.q.l.map cU),b3,eS,cF,aB,U ax [ak,ak,ak,.bool false,ak,.bool false] 300]) ?_ ?_
 ·skip
  refine bT ?_ ?_<;>intro ab
  ·refine cm (vU p k s gW (n+0) qv (by omega) 1 (iX s.r).1 0 (by decide)) ?_
   rintro _ _ ⟨v1,Ih,rfl,rfl⟩
   refine cx ?_
   exact ez v1 Ih
  exact ez gW (qv.le ah)
 intro v1 Ih
 refine aj ?_
 refine eR (adU (K:=aB) k.eB s af.sys.ok fz.cn.bO) ?_
 refine fe fun aK=>?_
 refine gI ?_
 refine jT (α:=an fC) (fun rF=>kg (n+2) rF) (fun rF=>[(0,ag p),(2,ag ax),(5,ag aK)]) (fun rF=>[U p (c7 (eT k rF)) 170,U k.eB (c5 ((b4 s).1)) 260,many 16 (eK ((b4 s).1).aD),eg k.fh bL o e aW,hB aW e,gR rF,eJ k.q,all (k.q.l.map cU),b3,eS,cF,aB,U aK (u2 (b4 s).2) 300,U ax [ak,ak,ak,.bool false,ak,.bool false] 300]) ?_ ?_
 ·skip
  refine iK ?_
  refine dn (aa (b4 s).2.Ba) ?_
  refine aj ?_
  refine c2 ?_ ?_<;>intro ae
  ·refine iK ?_
   refine dn (aa (b4 s).2.mL) ?_
   refine cp ?_
   refine dn (aa (b4 s).2.Ba) ?_
   refine cm (vU p k (b4 s).1 v1 (n+1) Ih (by omega) 5 (b4 s).2.mL (b4 s).2.Ba (by decide)) ?_
   rintro _ _ ⟨v2,pH,rfl,rfl⟩
   refine cx ?_
   exact ez v2 pH
  refine aj ?_
  exact ez v1 (Ih.le ah)
 intro rF Ie
 refine jT (α:=an fC) (fun v4=>kg (n+3) v4) (fun v4=>[(0,ag p),(2,ag ax),(5,ag aK)]) (fun v4=>[U p (c7 (eT k v4)) 170,U k.eB (c5 ((b4 s).1)) 260,many 16 (eK ((b4 s).1).aD),eg k.fh bL o e aW,hB aW e,gR v4,eJ k.q,all (k.q.l.map cU),b3,eS,cF,aB,U aK (u2 (b4 s).2) 300,U ax [ak,ak,ak,.bool false,ak,.bool false] 300]) ?_ ?_
 ·skip
  refine iK ?_
  refine dn (aa (b4 s).2.Hr) ?_
  refine aj ?_
  refine c2 ?_ ?_<;>intro av
  ·refine iK ?_
   refine dn (aa (b4 s).2.mL) ?_
   refine cp ?_
   refine dn (aa (b4 s).2.Hr) ?_
   refine cm (vU p k (b4 s).1 rF (n+2) Ie (by omega) 6 (b4 s).2.mL (b4 s).2.Hr (by decide)) ?_
   rintro _ _ ⟨v2,pH,rfl,rfl⟩
   refine cx ?_
   exact ez v2 pH
  refine aj ?_
  exact ez rF (Ie.le ah)
 intro v4 Vh
 refine jT (α:=an fC) (fun w9=>kg (n+4) w9) (fun w9=>[(0,ag p),(2,ag ax),(5,ag aK)]) (fun w9=>[U p (c7 (eT k w9)) 170,U k.eB (c5 ((b4 s).1)) 260,many 16 (eK ((b4 s).1).aD),eg k.fh bL o e aW,hB aW e,gR w9,eJ k.q,all (k.q.l.map cU),b3,eS,cF,aB,U aK (u2 (b4 s).2) 300,U ax [ak,ak,ak,.bool false,ak,.bool false] 300]) ?_ ?_
 ·skip
  refine iK ?_
  refine dn (.bool (b4 s).2.over) ?_
  refine aj ?_
  refine c2 ?_ ?_<;>intro aV
  ·refine iK ?_
   refine dn (aa (b4 s).2.mL) ?_
   refine cp ?_
   refine dn (aa (b4 s).2.within) ?_
   refine cm (vU p k (b4 s).1 v4 (n+3) Vh (by omega) 3 (b4 s).2.mL (b4 s).2.within (by decide)) ?_
   rintro _ _ ⟨v2,pH,rfl,rfl⟩
   refine cx ?_
   exact ez v2 pH
  refine aj ?_
  exact ez v4 (Vh.le ah)
 intro w9 Mw
 refine hi ?_
 refine dn (.bool (b4 s).2.late) ?_
 refine aj ?_
 refine c2 ?_ ?_<;>intro bN
 ·exact absurd (ey.symm.trans bN) b2
 refine gI ?_
 refine jT (α:=an fC×an Nat×List Nat) (fun⟨cM,dH,ep⟩=>kg (n+2010) cM∧dH.Own∧dH.l.length≤4∧ep.length=(gz bL.c (b4 s).1.live e).a0.length) (fun⟨cM,dH,ep⟩=>[(0,ag p),(2,ag ax),(5,ag aK)]) (fun⟨cM,dH,ep⟩=>[U p (c7 (eT ({k with q:=dH,act:=je bL.c (gz bL.c (b4 s).1.live e)}:fy) cM)) 170,U k.eB (c5 (kc bL.c (gz bL.c (b4 s).1.live e) k.act (b4 s).1)) 260,many 16 (eK (b4 s).1.aD),eg k.fh bL o (gz bL.c (b4 s).1.live e) ep,hB ep (gz bL.c (b4 s).1.live e),gR cM,eJ dH,all (dH.l.map cU),b3,eS,cF,aB,U aK (u2 (b4 s).2) 300,U ax [ak,ak,ak,.bool false,ak,.bool false] 300]) ?_ ?_
 ·skip
  refine cZ [] ad aA ?_
  refine aY [0,1,2,3,5,6,7] ?_
  refine lq 4 8 en ?_ ?_
  ·skip
   refine p5 rfl .no dy (da ad) rfl ?_
   refine aY [108] ?_
   refine gb 9 (Dy k.eB (b4 s).1) ?_
   refine j0 10 (LL k.fh bL o e (b4 s).1.live fz.cn aW kk (af.Mv hu) (by omega) (af.Lb bY sk hu)) ?_
   rintro _ _ ⟨a,ep,⟨⟨fT,vm⟩,cO,jj⟩,rfl,rfl⟩
   refine bP ?_
   refine gv ?_
   refine j0 11 (GZ p k (b4 s).1 (gz bL.c (b4 s).1.live e) ep fz (Inv.tick bY af (by omega)).eI.2.1 (af.sys.rP (by omega)).1.ok w9 (n+4) Mw (by omega) oT nN a fT cO vm) ?_
   rintro _ _ ⟨cM,dH,⟨uh,lD,nI⟩,rfl,rfl⟩
   refine bP ?_
   refine gv ?_
   refine aY [99] ?_
   exact ez (cM,dH,ep) ⟨uh.le ah,lD,nI,jj⟩
  skip
  refine p5 rfl .no dy (da ad) rfl ?_
  refine lq 4 9 en ?_ ?_
  ·skip
   refine p5 rfl .no dy (da ad) rfl ?_
   refine gb 9 (Dy k.eB (b4 s).1) ?_
   refine j0 10 (LL k.fh bL o e (b4 s).1.live fz.cn aW kk (af.Mv hu) (by omega) (af.Lb bY sk hu)) ?_
   rintro _ _ ⟨a,ep,⟨⟨fT,vm⟩,cO,jj⟩,rfl,rfl⟩
   refine bP ?_
   refine gv ?_
   refine j0 11 (GZ p k (b4 s).1 (gz bL.c (b4 s).1.live e) ep fz (Inv.tick bY af (by omega)).eI.2.1 (af.sys.rP (by omega)).1.ok w9 (n+4) Mw (by omega) oT nN a fT cO vm) ?_
   rintro _ _ ⟨cM,dH,⟨uh,lD,nI⟩,rfl,rfl⟩
   refine bP ?_
   refine gv ?_
   refine aY [99] ?_
   exact ez (cM,dH,ep) ⟨uh.le ah,lD,nI,jj⟩
  skip
  refine nk (Dy k.eB (b4 s).1) ?_
  rintro _ _ ⟨rfl,rfl⟩
  refine bP ?_
  refine gv ?_
  refine aY [104] ?_
  refine j0 10 (LL k.fh bL o e (b4 s).1.live fz.cn aW kk (af.Mv hu) (by omega) (af.Lb bY sk hu)) ?_
  rintro _ _ ⟨a,ep,⟨⟨fT,vm⟩,cO,jj⟩,rfl,rfl⟩
  refine bP ?_
  refine gv ?_
  refine j0 11 (GZ p k (b4 s).1 (gz bL.c (b4 s).1.live e) ep fz (Inv.tick bY af (by omega)).eI.2.1 (af.sys.rP (by omega)).1.ok w9 (n+4) Mw (by omega) oT nN a fT cO vm) ?_
  rintro _ _ ⟨cM,dH,⟨uh,lD,nI⟩,rfl,rfl⟩
  refine bP ?_
  refine gv ?_
  refine aY [99] ?_
  exact ez (cM,dH,ep) ⟨uh.le ah,lD,nI,jj⟩
 rintro⟨cM,dH,ep⟩ ⟨uh,lD,nI,jj⟩
 refine gI ?_
 refine du (u2 (b4 s).2) ?_
 refine aj ?_
 refine g2 ?_
 exact aO ⟨cM,dH,ep,⟨uh,lD,nI,jj⟩,rfl,rfl⟩
theorem aeK(p:Nat)(k:fy)(s:cf)(e:cw)(aW:List Nat){b3 eS cF aB:ar B}{c:ck}{bL:bZ}{o:fW}(fz:qN c k.y bL o b3 eS cF aB)(af:Inv c e s k.bm)(hu:fu e)(kk:aW.length=e.a0.length)(sk:s.now<100000000)(gW:an fC)(n:Nat)(qv:kg n gW)(aP:n≤400000000)(oT:k.q.Own)(nN:k.q.l.length≤4)(m:Int):a6 B 93 [ag p,aa m] [U p (c7 (eT k gW)) 170,U k.eB (c5 s) 260,many 16 (eK s.aD),eg k.fh bL o e aW,hB aW e,gR gW,eJ k.q,all (k.q.l.map cU),b3,eS,cF,aB] (fun v S=>∃(cM:an fC) (dH:an Nat) (ep:List Nat),(kg (n+2010) cM∧dH.Own∧dH.l.length≤4∧ep.length=(hH c s.live e m).a0.length)∧v=aa (oK c e m)∧S=[U p (c7 (eT ({k with q:=dH,act:=je c (hH c s.live e m)}:fy) cM)) 170,U k.eB (c5 (kc c (hH c s.live e m) k.act s)) 260,many 16 (eK s.aD),eg k.fh bL o (hH c s.live e m) ep,hB ep (hH c s.live e m),gR cM,eJ dH,all (dH.l.map cU),b3,eS,cF,aB]):=by
 refine dN 25 Tryz.func93 fun ba bf=>?_
 have bY:=fz.cn.qL
 have zQ:=fz.yB
 subst zQ
 have kJ:=af.now
 have yb:=hu.nS
 have mn:=hu.cs
 refine aj ?_
 refine cZ [U p (c7 (eT k gW)) 170] ad aA ?_
 refine aY [0,1,2,3,4,5,6,7,8] ?_
 refine gb 9 (Dy k.eB s) ?_
 refine j0 10 (agz k.fh bL o e s.live m fz.cn aW kk af.eI.1 af.eI.2.2 (by omega)) ?_
 rintro _ _ ⟨a,ep,⟨⟨fT,vm⟩,cO,jj⟩,rfl,rfl⟩
 refine bP ?_
 refine gv ?_
 refine aY [11] ?_
 refine bG 12 rfl (dD (v:=az a) rfl) ?_
 refine bG 13 rfl (dD (v:=aa (oK bL.c e m)) rfl) ?_
 refine df [14,15,99] ?_
 refine cm (GZ p k s (hH bL.c s.live e m) ep fz (Inv.ask bY af m).eI.2.1 af.sys.ok gW n qv (by omega) oT nN a (by omega) cO vm) ?_
 rintro _ _ ⟨cM,dH,⟨uh,lD,nI⟩,rfl,rfl⟩
 refine cx ?_
 exact aO ⟨cM,dH,ep,⟨uh.le ah,lD,nI,jj⟩,rfl,rfl⟩
theorem aeL(p:Nat)(k:fy)(gW:an fC)(oT:k.q.Own)(z x:Int):a6 B 94 [ag p,aa z,aa x] [U p (c7 (eT k gW)) 170,eJ k.q,all (k.q.l.map cU)] (fun v S=>∃b8:Int,v=aa b8∧S=[U p (c7 (eT k gW)) 170,eJ k.q,all (k.q.l.map cU)]):=by
 refine dN 27 Tryz.func94 fun ba bf=>?_
 have EG:=k.q.small
 refine aj ?_
 refine cc ?_ ?_<;>intro ab
 ·exact aO ⟨_,rfl,rfl⟩
 refine bD ?_ ?_<;>intro ae
 ·exact aO ⟨_,rfl,rfl⟩
 have EE:(eT k gW).q.l.length=k.q.l.length:=rfl
 obtain⟨i,rfl⟩:=Int.eq_ofNat_of_zero_le (a:=z) ah
 obtain⟨b,b0⟩:=fp k.q.l i
 refine aj ?_
 refine ap (eQ (a2:=uV) (aN:=1) (i:=i) (k:=0) (fun _=>rfl) rfl au (dT oT rfl) ad b0 rfl) ?_
 refine aj ?_
 refine cm (acj b0 x) ?_
 rintro _ _ ⟨b8,rfl,rfl⟩
 refine cx ?_
 exact aO ⟨_,rfl,rfl⟩
theorem aeM(p:Nat)(k:fy)(gW:an fC)(oT:k.q.Own)(z:Int):a6 B 95 [ag p,aa z] [U p (c7 (eT k gW)) 170,eJ k.q,all (k.q.l.map cU)] (fun v S=>∃Na b8:Int,v= .tuple #[aa Na,aa b8]∧S=[U p (c7 (eT k gW)) 170,eJ k.q,all (k.q.l.map cU)]):=by
 refine dN 27 Tryz.func95 fun ba bf=>?_
 have EG:=k.q.small
 refine aj ?_
 refine cc ?_ ?_<;>intro ab
 ·exact aO ⟨_,_,rfl,rfl⟩
 refine bD ?_ ?_<;>intro ae
 ·exact aO ⟨_,_,rfl,rfl⟩
 have EE:(eT k gW).q.l.length=k.q.l.length:=rfl
 obtain⟨i,rfl⟩:=Int.eq_ofNat_of_zero_le (a:=z) ah
 obtain⟨b,b0⟩:=fp k.q.l i
 refine aj ?_
 refine ap (eQ (a2:=uV) (aN:=1) (i:=i) (k:=0) (fun _=>rfl) rfl au (dT oT rfl) ad b0 rfl) ?_
 refine cm (ach b0) ?_
 rintro _ _ ⟨Na,b8,rfl,rfl⟩
 refine bP ?_
 refine bp (aa Na) ?_
 refine bp (aa b8) ?_
 refine aj ?_
 exact aO ⟨_,_,rfl,rfl⟩
def VO(k:fy)(t:Nat)(now iU:Int)(b:Bool)(f g:Nat→Int):Prop:=(b=true→k.bm t≤now∧f=bz k.bm t (now+min (max iU 1) 4096))∧(b=false→f=k.bm∧now<k.bm t)∧∀i,i<16→0≤g i∧g i≤4096
theorem KJ(p:Nat)(k:fy)(t:Nat)(aL:t<16)(now iU:Int)(kJ:0≤now∧now≤100000000)(nf:∀i,i<16→0≤k.dG i∧k.dG i≤4096):a6 B 144 [.pointer (some ⟨p,8,none⟩),aa (t:Int),aa now,aa iU] [U p (c7 k) 170] (fun v S=>∃(b:Bool) (f g:Nat→Int),VO k t now iU b f g∧v= .bool b∧S=[U p (c7 {k with bm:=f,dG:=g}) 170]):=by
 refine(aeJ p k t aL now iU kJ (nf t aL)).mono ?_
 rintro v S (⟨ab,rfl,rfl⟩|⟨ab,rfl,rfl⟩)
 ·exact⟨true,_,k.dG,⟨fun _=>⟨ab,rfl⟩,fun h=>(by cases h),nf⟩,rfl,rfl⟩
 refine⟨false,k.bm,_,⟨fun h=>(by cases h),fun _=>⟨rfl,ab⟩,fun i af=>?_⟩,rfl,rfl⟩
 have ae:=nf t aL
 by_cases q:i=t
 ·rw [q,e4];omega
 have bR:bz k.dG t (min (k.dG t+1) 4096) i=k.dG i:=by unfold bz;rw [if_neg q]
 rw [bR];exact nf i af
theorem YF{c:ck}{e:cw}{s:cf}{bm:Nat→Int}(bY:hU c)(af:Inv c e s bm){i:Nat}(kM:i<c.aw.length){T:Nat→Int}(vn:T=dg c.aw i)(c1:Int)(l:List dt)(x a:an dt)(al:x.l=cz T (min (max c1 1) (T 2)) 0 0 l)(fT:a.l=x.l)(cO:a.Own)(aq:hasB (sg c e) (i:Int)=true)(aE:hasB s.live (i:Int)=false)(BO:bm i≤s.now)(f:Nat→Int)(bs:f=bz bm i (s.now+min (max (T 0) 1) 4096))(b5:0≤s.now)(aP:s.now<100000000):
    Inv c e (sd s ⟨(i:Int),s.now,s.now+T 1,min (max c1 1) (T 2),0,x⟩ a) f∧(sd s ⟨(i:Int),s.now,s.now+T 1,min (max c1 1) (T 2),0,x⟩ a).now=s.now:=by
  obtain⟨Mx,My,Mz,zZ⟩:=bY.T.dg kM
  rw [←vn]at Mx My Mz zZ
  have mT:i<16:=by have:=bY.T.n;omega
  obtain⟨j,aI⟩:∃j:fN,j=⟨(i:Int),s.now,s.now+T 1,min (max c1 1) (T 2),0,x⟩:=⟨_,rfl⟩
  have Nb:j.id=(i:Int):=by rw [aI]
  have B9:j.done=0:=by rw [aI]
  have VP:j.cost=min (max c1 1) (T 2):=by rw [aI]
  have ai0:j.rel=s.now:=by rw [aI]
  have ai1:j.hO=j.rel+T 1:=by rw [aI]
  have ai2:j.cz=x:=by rw [aI]
  rw [←aI]
  have aS:pn s j=0:=by
    unfold pn
    rw [if_neg (by rw [Nb,B9,VP];omega),Nb,aE];rfl
  have ei:pL (dg c.aw i) j.cost 0 a.l:=by rw [fT,al, ←vn,VP];exact JN (fun j aI=>(zZ j aI).1) _ _ _
  have rr:=Inv.n5 (j:={j with cz:=a}) bY (Yv Nb aS).1 B9 (by rw [←vn];show j.cost≤_;omega) ai0 (RD ei) BO af (ab3 af.sys.ok cO (by rw [ai2];exact fT) (fun cD h7 _=>⟨by omega,h7,by omega,by omega,by omega,by omega,by omega,by omega⟩)) aq kM (by show 0<j.cost;omega) ei (by rw [←vn];exact ai1)
  have EK:bz bm i (s.now+dg c.aw i 0)=f:=by rw [bs, ←vn];congr 1;omega
  rw [EK]at rr
  exact⟨rr,by rw [AF aS]⟩
def MA(c:ck)(e:cw)(s:cf)(bm:Nat→Int)(z c1:Int)(l:List dt)(s2:cf):Prop:=∀i:Nat,z=(i:Int)→i<c.aw.length→hasB (sg c e) (i:Int)=true→hasB s.live (i:Int)=false→bm i≤s.now→∃x a:an dt,x.l=cz (dg c.aw i) (min (max c1 1) (dg c.aw i 2)) 0 0 l∧a.l=x.l∧a.Own∧s2=sd s ⟨(i:Int),s.now,s.now+dg c.aw i 1,min (max c1 1) (dg c.aw i 2),0,x⟩ a
theorem aae(p:Nat)(k:fy)(s:cf)(e:cw)(aW:List Nat){b3 eS cF aB:ar B}{c:ck}{bL:bZ}{o:fW}(fz:qN c k.y bL o b3 eS cF aB)(af:Inv c e s k.bm)(hu:fu e)(kk:aW.length=e.a0.length)(sk:s.now<100000000)(gW:an fC)(n:Nat)(qv:kg n gW)(aP:n≤400000000)(oT:k.q.Own)(nN:k.q.l.length≤4)(nf:∀i,i<16→0≤k.dG i∧k.dG i≤4096)(z c1:Int)(l:an dt){fV:ar B}(aE:dI fV l.bu (l.l.flatMap gq)):a6 B 92 [ag p,aa z,aa c1,az l] [U p (c7 (eT k gW)) 170,U k.eB (c5 s) 260,many 16 (eK s.aD),eg k.fh bL o e aW,hB aW e,gR gW,eJ k.q,all (k.q.l.map cU),b3,eS,cF,aB,fV] (fun v S=>∃(cM:an fC) (s2:cf) (f g:Nat→Int) (b8:Int),(kg (n+1) cM∧Inv c e s2 f∧(∀i,i<16→0≤g i∧g i≤4096)∧s2.now=s.now∧MA c e s k.bm z c1 l.l s2)∧v=aa b8∧S=[U p (c7 (eT ({k with bm:=f,dG:=g}:fy) cM)) 170,U k.eB (c5 s2) 260,many 16 (eK s2.aD),eg k.fh bL o e aW,hB aW e,gR cM,eJ k.q,all (k.q.l.map cU),b3,eS,cF,aB,fV]):=by
 refine dN 89 Tryz.func92 fun ba bf=>?_
 have bY:=fz.cn.qL
 have zQ:=fz.yB
 subst zQ
 have kJ:=af.now
 have yb:=hu.nS
 have mn:=hu.cs
 have ake:=k.y.aw.small
 refine aj ?_
 refine cc ?_ ?_<;>intro ab
 ·exact aO ⟨gW,s,k.bm,k.dG,100,⟨qv.le ah,af,nf,rfl,fun i aS Hv Ii Ij Ik=>by exfalso;first|omega|simp_all⟩,rfl,rfl⟩
 refine bD ?_ ?_<;>intro ae
 ·exact aO ⟨gW,s,k.bm,k.dG,100,⟨qv.le ah,af,nf,rfl,fun i9 aS Hv Ii Ij Ik=>by exfalso;have akf:k.y.aw.l.length=bL.c.aw.length:=(by rw [Gt fz.nm]);have akg:(eT k gW).y.aw.l.length=k.y.aw.l.length:=rfl;omega⟩,rfl,rfl⟩
 obtain⟨i,rfl⟩:=Int.eq_ofNat_of_zero_le (a:=z) ah
 have gp:k.y.aw.l=bL.c.aw:=Gt fz.nm
 have kM:i<bL.c.aw.length:=by rw [←gp];have EE:(eT k gW).y.aw.l.length=k.y.aw.l.length:=rfl;omega
 have ajr:i<k.y.aw.l.length:=by rw [gp];exact kM
 have mT:i<16:=by have:=bY.T.n;omega
 obtain⟨T,vn⟩:∃T,T=dg bL.c.aw i:=⟨_,rfl⟩
 have c9:k.y.aw.l[i]?=some T:=by rw [gp,vn];exact DC kM
 obtain⟨Mx,My,Mz,zZ⟩:=bY.T.dg kM
 rw [←vn]at Mx My Mz zZ
 refine aj ?_
 refine gH (agy k.fh bL o e fz.cn aW af.eI.2.1) ?_
 refine gl (tO (sg bL.c e) (i:Int)) ?_
 refine bD ?_ ?_<;>intro av
 ·exact aO ⟨gW,s,k.bm,k.dG,241,⟨qv.le ah,af,nf,rfl,fun i aS Hv Ii Ij Ik=>by exfalso;first|omega|simp_all⟩,rfl,rfl⟩
 refine gH (Dy k.eB s) ?_
 refine gl (tO s.live (i:Int)) ?_
 refine c2 ?_ ?_<;>intro aV
 ·refine aj ?_
  exact aO ⟨gW,s,k.bm,k.dG,242,⟨qv.le ah,af,nf,rfl,fun i aS Hv Ii Ij Ik=>by exfalso;first|omega|simp_all⟩,rfl,rfl⟩
 refine jT (α:=Bool×(Nat→Int)×(Nat→Int)) (fun⟨jP,f,g⟩=>VO k i s.now (T 0) jP f g) (fun⟨jP,f,g⟩=>[(40,.bool (!jP)),(0,ag p),(1,aa (i:Int)),(2,aa c1),(3,az l)]) (fun⟨jP,f,g⟩=>[U p (c7 (eT ({k with bm:=f,dG:=g}:fy) gW)) 170,U k.eB (c5 s) 260,many 16 (eK s.aD),eg k.fh bL o e aW,hB aW e,gR gW,eJ k.q,all (k.q.l.map cU),b3,eS,cF,aB,fV]) ?_ ?_
 ·skip
  refine cZ [b3] ad aA ?_
  refine aY [0,1,2,3,4,5,6,9,10,11,12,14] ?_
  refine lq 7 13 en ?_ ?_
  ·skip
   refine p5 rfl .no dy (da ad) rfl ?_
   refine lq 8 13 en ?_ ?_
   ·skip
    refine nk (zj k.eB s) ?_
    rintro _ _ ⟨rfl,rfl⟩
    refine bP ?_
    refine gv ?_
    refine aY [113] ?_
    refine bG 15 rfl (iW rfl rfl ad (k.y.aw).fl rfl ah rfl) ?_
    refine aY [16] ?_
    refine bj 17 rfl (eQ (a2:=dd) (aN:=11) (i:=i) (k:=0) (fun _=>rfl) rfl au fz.aZ.aw ad c9 rfl) ?_
    refine j0 18 (KJ p (eT k gW) i mT s.now (T 0) ⟨by omega,by omega⟩ nf) ?_
    rintro _ _ ⟨jP,f,g,ui,rfl,rfl⟩
    refine bP ?_
    refine gv ?_
    refine aY [19,20,99] ?_
    exact ez (jP,f,g) ui
   skip
   refine p5 rfl .no dy (da ad) rfl ?_
   refine bG 15 rfl (iW rfl rfl ad (k.y.aw).fl rfl ah rfl) ?_
   refine aY [16] ?_
   refine bj 17 rfl (eQ (a2:=dd) (aN:=11) (i:=i) (k:=0) (fun _=>rfl) rfl au fz.aZ.aw ad c9 rfl) ?_
   refine gb 8 (zj k.eB s) ?_
   refine j0 18 (KJ p (eT k gW) i mT s.now (T 0) ⟨by omega,by omega⟩ nf) ?_
   rintro _ _ ⟨jP,f,g,ui,rfl,rfl⟩
   refine bP ?_
   refine gv ?_
   refine aY [19,20,99] ?_
   exact ez (jP,f,g) ui
  skip
  refine p5 rfl .no dy (da ad) rfl ?_
  refine bG 15 rfl (iW rfl rfl ad (k.y.aw).fl rfl ah rfl) ?_
  refine aY [16] ?_
  refine bj 17 rfl (eQ (a2:=dd) (aN:=11) (i:=i) (k:=0) (fun _=>rfl) rfl au fz.aZ.aw ad c9 rfl) ?_
  refine aY [107] ?_
  refine gb 8 (zj k.eB s) ?_
  refine j0 18 (KJ p (eT k gW) i mT s.now (T 0) ⟨by omega,by omega⟩ nf) ?_
  rintro _ _ ⟨jP,f,g,ui,rfl,rfl⟩
  refine bP ?_
  refine gv ?_
  refine aY [19,20,99] ?_
  exact ez (jP,f,g) ui
 rintro⟨jP,f,g⟩ ui
 refine c2 ?_ ?_<;>intro bN
 ·refine aj ?_
  exact aO ⟨gW,s,f,g,240,⟨qv.le ah,(by rw [(ui.2.1 bN).1];exact af),ui.2.2,rfl,fun i9 aS Hv Ii Ij Ik=>by exfalso;have hW:=(ui.2.1 bN).2;obtain rfl:i=i9:=ah;omega⟩,rfl,rfl⟩
 refine iK ?_
 refine jT (α:=Nat×an dt) (fun⟨Ca,x⟩=>(x.l=cz T (min (max c1 1) (T 2)) 0 0 l.l∧x.Own)) (fun⟨Ca,x⟩=>[(9,ag Ca),(0,ag p),(1,aa (i:Int)),(2,aa c1),(3,az l)]) (fun⟨Ca,x⟩=>[U p (c7 (eT ({k with bm:=f,dG:=g}:fy) gW)) 170,U k.eB (c5 s) 260,many 16 (eK s.aD),eg k.fh bL o e aW,hB aW e,gR gW,eJ k.q,all (k.q.l.map cU),b3,eS,cF,aB,fV,eO x 135 3 gq,U Ca [aa (i:Int),aa s.now,aa (s.now+T 1),aa (min (max c1 1) (T 2)),ak,az x] 253]) ?_ ?_
 ·skip
  refine k3 [U p (c7 (eT ({k with bm:=f,dG:=g}:fy) gW)) 170,b3] ad aA ?_
  refine aY [0,1,2,3,4,5,6] ?_
  refine bG 7 rfl (iW rfl rfl ad (k.y.aw).fl rfl ah rfl) ?_
  refine bj 8 rfl (jV (a2:=dd) (aN:=11) (i:=i) (fun _=>rfl) rfl au fz.aZ.aw ad c9) ?_
  refine aY [9,10,11,12,14,15] ?_
  refine lq 13 17 en ?_ ?_
  ·skip
   refine nk (zj k.eB s) ?_
   rintro _ _ ⟨rfl,rfl⟩
   refine bP ?_
   refine gv ?_
   refine lq 16 17 en ?_ ?_
   ·skip
    refine nk (Ly (K:=fV) (i:Int) s.now T c1 l aE (fun j aI=>(zZ j aI).1) (by omega) (by omega) (by omega)) ?_
    rintro _ _ ⟨x,⟨al,lH⟩,rfl,rfl⟩
    refine bP ?_
    refine gv ?_
    refine aY [117] ?_
    refine lO rfl .no ad rfl (fun zR=>?_)
    refine aY [118] ?_
    refine mC rfl .no dy (kG rfl rfl rfl au ad rfl rfl) aA ?_
    refine aY [99] ?_
    exact ez (zR,x) ⟨al,lH⟩
   skip
   refine lO rfl .no ad rfl (fun zR=>?_)
   refine j0 16 (Ly (K:=fV) (i:Int) s.now T c1 l aE (fun j aI=>(zZ j aI).1) (by omega) (by omega) (by omega)) ?_
   rintro _ _ ⟨x,⟨al,lH⟩,rfl,rfl⟩
   refine bP ?_
   refine gv ?_
   refine aY [118] ?_
   refine mC rfl .no dy (kG rfl rfl rfl au ad rfl rfl) aA ?_
   refine aY [99] ?_
   exact ez (zR,x) ⟨al,lH⟩
  skip
  refine lO rfl .no ad rfl (fun zR=>?_)
  refine gb 13 (zj k.eB s) ?_
  refine j0 16 (Ly (K:=fV) (i:Int) s.now T c1 l aE (fun j aI=>(zZ j aI).1) (by omega) (by omega) (by omega)) ?_
  rintro _ _ ⟨x,⟨al,lH⟩,rfl,rfl⟩
  refine bP ?_
  refine gv ?_
  refine aY [118] ?_
  refine mC rfl .no dy (kG rfl rfl rfl au ad rfl rfl) aA ?_
  refine aY [99] ?_
  exact ez (zR,x) ⟨al,lH⟩
 rintro⟨Ca,x⟩ ⟨al,lH⟩
 refine aj ?_
 refine cm (vU p ({k with bm:=f,dG:=g}:fy) s gW n qv (by omega) 2 (i:Int) (min (max c1 1) (T 2)) (by decide)) ?_
 rintro _ _ ⟨cM,uh,rfl,rfl⟩
 refine cx ?_
 refine k3 [U p (c7 (eT ({k with bm:=f,dG:=g}:fy) cM)) 170,U Ca [aa (i:Int),aa s.now,aa (s.now+T 1),aa (min (max c1 1) (T 2)),ak,az x] 253] ad aA ?_
 refine aY [0,1,2,3] ?_
 refine bj 4 rfl (ed (bK:=[aa (i:Int),aa s.now,aa (s.now+T 1),aa (min (max c1 1) (T 2)),ak,az x]) rfl au ad rfl (by rfl)) ?_
 refine j0 5 (Ya (kY:=eO x 135 3 gq) k.eB s (⟨(i:Int),s.now,s.now+T 1,min (max c1 1) (T 2),0,x⟩:fN) (dT lH rfl) lH (by show x.l.length≤1000;rw [al];have:=F1 (T:=T) (cost:=min (max c1 1) (T 2)) l.l 0 0 (by omega);omega) af.sys.ok fz.cn.bO) ?_
 rintro _ _ ⟨a,⟨fT,cO,rfl⟩,rfl⟩
 refine bP ?_
 refine gv ?_
 refine df [6,99] ?_
 obtain⟨BO,aib⟩:=ui.1 bN
 obtain⟨rr,agF⟩:=YF bY af kM vn c1 l.l x a al fT cO av aV BO f aib ah sk
 have agG:MA bL.c e s k.bm (i:Int) c1 l.l (sd s (⟨(i:Int),s.now,s.now+T 1,min (max c1 1) (T 2),0,x⟩:fN) a):=fun i9 akh _ _ _ _=>by obtain rfl:i=i9:=ah;subst vn;exact⟨x,a,al,fT,cO,rfl⟩
 exact aO ⟨cM,(sd s (⟨(i:Int),s.now,s.now+T 1,min (max c1 1) (T 2),0,x⟩:fN) a),f,g,_,⟨uh,rr,ui.2.2,agF,agG⟩,rfl,rfl⟩
section
variable{B:Nat}
structure wX where
  k:fy
  s:cf
  e:cw
  aW:List Nat
  cM:an fC
abbrev jR:=cw→cf→(Nat→Int)→Prop
abbrev IE:jR:=fun _ _ _=>True
def nO(G hp:jR):Prop:=∀e s f,G e s f→hp e s f
theorem nO.top{G:jR}:nO G IE:=fun _ _ _ _=>trivial
theorem nO.rfl'{G:jR}:nO G G:=fun _ _ _ h=>h
def wA(c:ck)(G hp:jR):Prop:=∀e s f,Inv c e s f→G e s f→hp (gz c (b4 s).1.live e) (kc c (gz c (b4 s).1.live e) (je c e) (b4 s).1) f
def D4(c:ck)(m:Int)(G hp:jR):Prop:=∀e s f,Inv c e s f→G e s f→hp (hH c s.live e m) (kc c (hH c s.live e m) (je c e) s) f
def LN(c:ck)(z c1:Int)(l:List dt)(G hp:jR):Prop:=∀e s f s2 f2,Inv c e s f→G e s f→MA c e s f z c1 l s2→s2.now=s.now→hp e s2 f2
structure Bf(c:ck)(y:bZ)(t:Int)(n:Nat)(G:jR)(z:wX):Prop where
  y:z.k.y=y
  inv:Inv c z.e z.s z.k.bm
  u:fu z.e
  act:z.k.act=je c z.e
  late:z.k.late=0
  dG:∀i,i<16→0≤z.k.dG i∧z.k.dG i≤4096
  aW:z.aW.length=z.e.a0.length
  xa:z.k.q.Own
  nl:z.k.q.l.length≤4
  aX:kg n z.cM
  now:z.s.now≤t
  g:G z.e z.s z.k.bm
abbrev Il(bL:bZ)(o:fW)(p:Nat)(z:wX):List (ar B):=[U p (c7 (eT z.k z.cM)) 170,U z.k.eB (c5 z.s) 260,many 16 (eK z.s.aD),eg z.k.fh bL o z.e z.aW,hB z.aW z.e,gR z.cM,eJ z.k.q,all (z.k.q.l.map cU)]
def gB(c:ck)(y bL:bZ)(o:fW)(p:Nat)(t:Int)(n:Nat)(G:jR):ar B:=ex (fun z:{z:wX//Bf c y t n G z}=>Il bL o p z.1)
theorem xM{c:ck}{y bL:bZ}{o:fW}{p:Nat}{t:Int}{n:Nat}{G:jR}{S R:List (ar B)}(z:wX)(h:Bf c y t n G z)(q:Take (Il bL o p z) S R):gK S (gB c y bL o p t n G::R):=pq (F:=fun z:{z:wX//Bf c y t n G z}=>Il bL o p z.1) ⟨z,h⟩ q
section
variable{b3 eS cF aB:ar B}{c:ck}{y bL:bZ}{o:fW}(fz:qN c y bL o b3 eS cF aB)(p:Nat){t:Int}{n:Nat}{G hp:jR}
 include fz
theorem aeN(aL:t<100000000)(aP:n≤400000000)(vB:wA c G hp):a6 B 140 [ag p] [gB c y bL o p t n G,b3,eS,cF,aB] (fun v S=>∃r:HY,v= .agg (u2 r).toArray∧S=[gB c y bL o p (t+1) (n+2010) hp,b3,eS,cF,aB]):=by
 refine ox (pre:=[b3,eS,cF,aB]) fun⟨z,aS⟩=>?_
 have EL:qN c z.k.y bL o b3 eS cF aB:=by rw [aS.y];exact fz
 have bY:hU c:=by rw [←fz.yB];exact fz.cn.qL
 have EF:=aS.now
 refine j9 (show di _ _ _ _ _ _ from acp (B:=B) p z.k z.s z.e z.aW EL aS.inv aS.u aS.aW ah z.cM n aS.aX aP aS.xa aS.nl) ?_
 rintro v S ⟨cM,dH,ep,⟨ab,ae,av,aV⟩,rfl,rfl⟩
 have aI:=(vJ (c:=c) (e:=gz c (b4 z.s).1.live z.e) (a:=z.k.act) (s:=(b4 z.s).1))
 rw [←aI.1]
 refine⟨_,[gB c y bL o p (t+1) (n+2010) hp,b3,eS,cF,aB],[],xM ⟨{z.k with q:=dH,act:=je c (gz c (b4 z.s).1.live z.e)},kc c (gz c (b4 z.s).1.live z.e) z.k.act (b4 z.s).1,gz c (b4 z.s).1.live z.e,ep,cM⟩ ⟨aS.y,?_,(aS.u.ah9 aS.inv.sq.EI.1 aS.inv.sq.EI.2).2,rfl,aS.late,aS.dG,aV,ae,av,ab,?_,by have:=vB _ _ _ aS.inv aS.g;rw [←aS.act]at this;exact this⟩ cd,Take.self _,_,rfl,rfl⟩
 ·have:=Inv.tick bY aS.inv ah
  rw [←aS.act]at this
  exact this
 show(kc _ _ _ _).now≤_
 rw [aI.2.1,FV aS.inv.sys ah];omega
theorem agH(aL:t<100000000)(aP:n≤400000000)(m:Int)(vB:D4 c m G hp):a6 B 93 [ag p,aa m] [gB c y bL o p t n G,b3,eS,cF,aB] (fun v S=>∃r:Int,v=aa r∧S=[gB c y bL o p t (n+2010) hp,b3,eS,cF,aB]):=by
 refine ox (pre:=[b3,eS,cF,aB]) fun⟨z,aS⟩=>?_
 have EL:qN c z.k.y bL o b3 eS cF aB:=by rw [aS.y];exact fz
 have bY:hU c:=by rw [←fz.yB];exact fz.cn.qL
 have EF:=aS.now
 refine j9 (show di _ _ _ _ _ _ from aeK (B:=B) p z.k z.s z.e z.aW EL aS.inv aS.u aS.aW ah z.cM n aS.aX aP aS.xa aS.nl m) ?_
 rintro v S ⟨cM,dH,ep,⟨ab,ae,av,aV⟩,rfl,rfl⟩
 have aI:=(vJ (c:=c) (e:=hH c z.s.live z.e m) (a:=z.k.act) (s:=z.s))
 rw [←aI.1]
 refine⟨_,[gB c y bL o p t (n+2010) hp,b3,eS,cF,aB],[],xM ⟨{z.k with q:=dH,act:=je c (hH c z.s.live z.e m)},kc c (hH c z.s.live z.e m) z.k.act z.s,hH c z.s.live z.e m,ep,cM⟩ ⟨aS.y,?_,aS.u.ask,rfl,aS.late,aS.dG,aV,ae,av,ab,?_,by have:=vB _ _ _ aS.inv aS.g;rw [←aS.act]at this;exact this⟩ cd,Take.self _,_,rfl,rfl⟩
 ·have:=Inv.ask bY aS.inv m
  rw [←aS.act]at this
  exact this
 show(kc _ _ _ _).now≤_
 rw [aI.2.1];omega
theorem acq(aL:t<100000000)(aP:n≤400000000)(x c1:Int)(l:an dt){fV:ar B}(aE:dI fV l.bu (l.l.flatMap gq))(vB:LN c x c1 l.l G hp):a6 B 92 [ag p,aa x,aa c1,az l] [gB c y bL o p t n G,b3,eS,cF,aB,fV] (fun v S=>∃r:Int,v=aa r∧S=[gB c y bL o p t (n+2010) hp,b3,eS,cF,aB,fV]):=by
 refine ox (pre:=[b3,eS,cF,aB,fV]) fun⟨z,aS⟩=>?_
 have EL:qN c z.k.y bL o b3 eS cF aB:=by rw [aS.y];exact fz
 have EF:=aS.now
 refine j9 (show di _ _ _ _ _ _ from aae (B:=B) p z.k z.s z.e z.aW EL aS.inv aS.u aS.aW ah z.cM n aS.aX aP aS.xa aS.nl aS.dG x c1 l aE) ?_
 rintro v S ⟨cM,s2,f,g,b8,⟨ab,ae,av,aV,bN⟩,rfl,rfl⟩
 exact⟨_,[gB c y bL o p t (n+2010) hp,b3,eS,cF,aB,fV],[],xM ⟨{z.k with bm:=f,dG:=g},s2,z.e,z.aW,cM⟩ ⟨aS.y,ae,aS.u,aS.act,aS.late,av,aS.aW,aS.xa,aS.nl,ab.le ah,by show s2.now≤_;omega,vB _ _ _ _ _ aS.inv aS.g bN aV⟩ cd,Take.self _,_,rfl,rfl⟩
 omit fz
theorem aeO(aP:n≤400000000)(x m:Int):a6 B 94 [ag p,aa x,aa m] [gB c y bL o p t n G] (fun v S=>∃r:Int,v=aa r∧S=[gB c y bL o p t n G]):=by
 refine ox (pre:=[]) fun⟨z,aS⟩=>?_
 show di _ _ _ _ [U p (c7 (eT z.k z.cM)) 170,U z.k.eB (c5 z.s) 260,many 16 (eK z.s.aD),eg z.k.fh bL o z.e z.aW,hB z.aW z.e,gR z.cM,eJ z.k.q,all (z.k.q.l.map cU)] _
 refine p6 (pre:=[U p (c7 (eT z.k z.cM)) 170,eJ z.k.q,all (z.k.q.l.map cU)]++[U z.k.eB (c5 z.s) 260,many 16 (eK z.s.aD),eg z.k.fh bL o z.e z.aW,hB z.aW z.e,gR z.cM]) ?_ (ov (L:=[U p (c7 (eT z.k z.cM)) 170,eJ z.k.q,all (z.k.q.l.map cU),U z.k.eB (c5 z.s) 260,many 16 (eK z.s.aD),eg z.k.fh bL o z.e z.aW,hB z.aW z.e,gR z.cM]) (R:=[]) cd)
 refine j9 (di.frame (aeL p z.k z.cM aS.xa x m) _) ?_
 rintro v S ⟨aU,rfl,r,rfl,rfl⟩
 refine bP ?_
 exact⟨_,[gB c y bL o p t n G],[],xM z aS cd,Take.self _,_,rfl,rfl⟩
theorem aeP(aP:n≤400000000)(x:Int):a6 B 95 [ag p,aa x] [gB c y bL o p t n G] (fun v S=>∃r q:Int,v= .tuple #[aa r,aa q]∧S=[gB c y bL o p t n G]):=by
 refine ox (pre:=[]) fun⟨z,aS⟩=>?_
 show di _ _ _ _ [U p (c7 (eT z.k z.cM)) 170,U z.k.eB (c5 z.s) 260,many 16 (eK z.s.aD),eg z.k.fh bL o z.e z.aW,hB z.aW z.e,gR z.cM,eJ z.k.q,all (z.k.q.l.map cU)] _
 refine p6 (pre:=[U p (c7 (eT z.k z.cM)) 170,eJ z.k.q,all (z.k.q.l.map cU)]++[U z.k.eB (c5 z.s) 260,many 16 (eK z.s.aD),eg z.k.fh bL o z.e z.aW,hB z.aW z.e,gR z.cM]) ?_ (ov (L:=[U p (c7 (eT z.k z.cM)) 170,eJ z.k.q,all (z.k.q.l.map cU),U z.k.eB (c5 z.s) 260,many 16 (eK z.s.aD),eg z.k.fh bL o z.e z.aW,hB z.aW z.e,gR z.cM]) (R:=[]) cd)
 refine j9 (di.frame (aeM p z.k z.cM aS.xa x) _) ?_
 rintro v S ⟨aU,rfl,r,q,rfl,rfl⟩
 refine bP ?_
 exact⟨_,[gB c y bL o p t n G],[],xM z aS cd,Take.self _,_,_,rfl,rfl⟩
theorem LO{f:FuncId}{args:List Value}{F:List (ar B)}{post:wX→Value→List (ar B)→Prop}{Q:Value→List (ar B)→Prop}(h:∀z:wX,Bf c y t n G z→a6 B f args ([U p (c7 (eT z.k z.cM)) 170]++F) (post z))
  (aC:∀z:wX,Bf c y t n G z→∀v S,post z v S→∃(c3:wX) (Cb:List (ar B)),(Bf c y t n G c3∧c3.k.eB=z.k.eB∧c3.s=z.s∧c3.k.fh=z.k.fh∧c3.e=z.e∧c3.aW=z.aW∧c3.cM=z.cM∧c3.k.q=z.k.q)∧S=U p (c7 (eT c3.k c3.cM)) 170::Cb∧Q v (gB c y bL o p t n G::Cb)):a6 B f args (gB c y bL o p t n G::F) Q:=by
 refine ox fun⟨z,aS⟩=>?_
 refine p6 (pre:=([U p (c7 (eT z.k z.cM)) 170]++F)++[U z.k.eB (c5 z.s) 260,many 16 (eK z.s.aD),eg z.k.fh bL o z.e z.aW,hB z.aW z.e,gR z.cM,eJ z.k.q,all (z.k.q.l.map cU)]) ?_ (fun D w q=>?_)
 ·refine j9 (di.frame (h z aS) _) ?_
  rintro v S ⟨aU,rfl,dj⟩
  obtain⟨c3,Cb,⟨l7,a1,a3,bI,cv,eX,fJ,mY⟩,rfl,kq⟩:=aC z aS v aU dj
  refine⟨_,gB c y bL o p t n G::Cb,[],?_,Take.self _,kq⟩
  rw [←a1, ←a3, ←bI, ←cv, ←eX, ←fJ, ←mY]
  refine gK.trans (bc:=Il bL o p c3++Cb) (fun D w q=>?_) (xM c3 l7 (Take.pre _ _))
  have q:ee (U p (c7 (eT c3.k c3.cM)) 170::(Cb++[U c3.k.eB (c5 c3.s) 260,many 16 (eK c3.s.aD),eg c3.k.fh bL o c3.e c3.aW,hB c3.aW c3.e,gR c3.cM,eJ c3.k.q,all (c3.k.q.l.map cU)])) D w:=q
  obtain⟨dm,dY,cb,yp,e2,cD⟩:=q
  obtain⟨jk,jB,cq,o6,kp,od⟩:=cD.append
  have z7:=ee.join (D:=fun k=>jB k∨jk k) (fun k=>Iff.rfl) (fun k cy bR=>o6 k bR cy) od kp
  exact⟨dm,_,fun k=>by rw [cb k,cq k];exact⟨fun q=>q.imp id Or.symm,fun q=>q.imp id Or.symm⟩,fun k cy bR=>yp k cy ((cq k).2 bR.symm),e2,z7⟩
 obtain⟨dm,dY,cb,yp,e2,cD⟩:=(show ee (U p (c7 (eT z.k z.cM)) 170::([U z.k.eB (c5 z.s) 260,many 16 (eK z.s.aD),eg z.k.fh bL o z.e z.aW,hB z.aW z.e,gR z.cM,eJ z.k.q,all (z.k.q.l.map cU)]++F)) D w from q)
 obtain⟨jk,jB,cq,o6,kp,od⟩:=cD.append
 have z7:=ee.join (D:=fun k=>jB k∨jk k) (fun k=>Iff.rfl) (fun k cy bR=>o6 k bR cy) od kp
 exact⟨dm,_,fun k=>by rw [cb k,cq k];exact⟨fun q=>q.imp id Or.symm,fun q=>q.imp id Or.symm⟩,fun k cy bR=>yp k cy ((cq k).2 bR.symm),e2,z7⟩
theorem agI(l:BitVec 32):a6 B 96 [.pointer (some ⟨p,1,none⟩),aQ l.toNat] [gB c y bL o p t n G] (fun v S=>∃r:Int,v=aa r∧S=[gB c y bL o p t n G]):=
  LO p (F:=[]) (fun z aS=>agC p (eT z.k z.cM) l) fun z aS v S ⟨r,f,ab,ae⟩=>⟨{z with k:={z.k with pd:=f}},[],⟨⟨aS.y,aS.inv,aS.u,aS.act,aS.late,aS.dG,aS.aW,aS.xa,aS.nl,aS.aX,aS.now,aS.g⟩,rfl,rfl,rfl,rfl,rfl,rfl,rfl⟩,ae,r,ab,rfl⟩
theorem acr(l:BitVec 32):a6 B 97 [.pointer (some ⟨p,1,none⟩),aQ l.toNat] [gB c y bL o p t n G] (fun v S=>∃r:Int,v=aa r∧S=[gB c y bL o p t n G]):=
  LO p (F:=[]) (fun z aS=>ack p (eT z.k z.cM) l) fun z aS v S ⟨r,f,ab,ae⟩=>⟨{z with k:={z.k with pd:=f}},[],⟨⟨aS.y,aS.inv,aS.u,aS.act,aS.late,aS.dG,aS.aW,aS.xa,aS.nl,aS.aX,aS.now,aS.g⟩,rfl,rfl,rfl,rfl,rfl,rfl,rfl⟩,ae,r,ab,rfl⟩
end
end
theorem Lc{c:ck}{y bL:bZ}{o:fW}{p:Nat}{t:Int}{n:Nat}{G:jR}:gB (B:=B) c y bL o p t n G=gB c y bL o p (t+(0:Nat)) (n+2010*0) G:=by rw [show t+((0:Nat):Int)=t by omega,Nat.mul_zero,Nat.add_zero]
theorem aeQ{c:ck}{y bL:bZ}{o:fW}{p i:Nat}{t:Int}{n:Nat}{G:jR}:gB (B:=B) c y bL o p (t+i+1) (n+2010*i+2010) G=gB c y bL o p (t+(i+1:Nat)) (n+2010*(i+1)) G:=by rw [show t+(i:Int)+1=t+(i+1:Nat)by omega,show n+2010*i+2010=n+2010*(i+1)by omega]
theorem acs(q iU:Nat)(cH:Value)(w:an (BitVec 32))(dW:BitVec 32)(rH:Int)(p:Nat){b3 eS cF aB:ar B}{c:ck}{y bL:bZ}{o:fW}(fz:qN c y bL o b3 eS cF aB)(t:Int)(n:Nat)(aL:t<90000000)(aP:n≤300000000)(m:Int)(qR:Nat→jR)(MB:∀i:Nat,(i:Int)<m→wA c (qR i) (qR (i+1))):a6 B 91 [ag q,aa m] [U q (eo iU cH (ag p) w dW rH) 116,gB c y bL o p t n (qR 0),b3,eS,cF,aB] (fun v S=>∃(e r:Int) (i:Nat),(i≤4096∧(1≤m→m≤4096→(i:Int)=m))∧v= .agg #[aa e,aa r]∧S=[U q (eo iU cH (ag p) w dW rH) 116,gB c y bL o p (t+i) (n+2010*i) (qR i),b3,eS,cF,aB]):=by
 refine bM 23 Tryz.func91 fun ba bf=>?_
 refine de fun ax=>?_
 refine cc ?_ ?_<;>intro ab
 ·refine g2 ?_
  rw [Lc]
  exact aO ⟨_,_,0,⟨Nat.zero_le _,by omega⟩,rfl,rfl⟩
 refine bD ?_ ?_<;>intro ae
 ·refine g2 ?_
  rw [Lc]
  exact aO ⟨_,_,0,⟨Nat.zero_le _,by omega⟩,rfl,rfl⟩
 rw [Lc]
 refine ds (α:=Nat) (fun i=>(i:Int)≤m) (fun i=>[(13,aa (i:Int)),(0,ag q),(1,aa m),(4,ag ax),(12,aa m)]) (fun i=>[U q (eo iU cH (ag p) w dW rH) 116,gB c y bL o p (t+i) (n+2010*i) (qR i),b3,eS,cF,aB,U ax [ak,ak] 58]) (fun i=>m.toNat-i) 0 ?_ dq cd ?_
 ·show((0:Nat):Int)≤m;omega
 intro i af
 refine bT ?_ ?_<;>intro av
 ·refine cm (aeN fz p (t:=t+i) (n:=n+2010*i) (by omega) (by omega) (MB i (by omega))) ?_
  rintro _ _ ⟨r,rfl,rfl⟩
  refine cx ?_
  rw [aeQ]
  refine cE (i+1) ?_
  show((i+1:Nat):Int)≤m;omega
 refine g2 ?_
 exact aO ⟨_,_,i,⟨by omega,by omega⟩,rfl,rfl⟩
theorem WC{d:br}{z:Int}{ay:Nat→b7}{a:Nat}(h:dB d)(ai:dK d (ay (1-a)))(aq:d.ops≤800000000):eA 8 d (k4 d z ay a).1∧dK (k4 d z ay a).1 (k4 d z ay a).2.1:=by
  unfold k4;repeat' split
  all_goals first|exact⟨eA.rfl' h,ai⟩|exact FQ h ai (by omega) _
theorem Wi{d:br}{z:Int}{k:b7}(h:dB d)(aq:d.ops≤800000000):eA 2 d (rN d z k).1:=by
  unfold rN;split
  · exact eA.rfl' h
  · exact FI (k:=k) h (by omega)
theorem aaf(q p bi dc:Nat)(Q:Nat→Nat)(w:an (BitVec 32))(seq:BitVec 32)(c8:Int)(d:br)(h:dB d)(ay:Nat→b7)(ai:∀i,i<2→dK d (ay i))(a:Nat)(a5:a<2)(kv:d.ops≤800000000)(cT c4 cs:Int)(bA:an dt)(l:an (BitVec 32))(aE:dI K l.bu (l.l.flatMap dh)):a6 B 99 [ag q,.agg #[aa cT,aa c4,aa cs,az bA,az l]] [U q (eo p (ag bi) (ag dc) w seq c8) 116,U bi [ag p,ag (Q 0),ag (Q 1),aa (a:Int)] 200,U (Q a) (bE p (ay a)) 273,U (Q (1-a)) (bE p (ay (1-a))) 273,U p (bH d) 196,row (az (d).a) 42 1 (d).a.l.length ((cW (d).a.l.length (d).g).flatMap dh),row (az (d).b) 3 1 (d).b.l.length ((cW (d).b.l.length (d).wr).flatMap ea),K] (fun v S=>∃(b8:Int) (d2:br) (kr:b7),(eA 5000 d d2∧dK d2 kr∧dK d2 (ay a))∧v=aa b8∧S=[U q (eo p (wy b8 bi) (wy b8 dc) w seq c8) 116,U bi [ag p,ag (Q 0),ag (Q 1),aa (a:Int)] 200,U (Q a) (bE p (ay a)) 273,U (Q (1-a)) (bE p kr) 273,U p (bH (n4 d2 b8)) 196,row (az (n4 d2 b8).a) 42 1 (n4 d2 b8).a.l.length ((cW (n4 d2 b8).a.l.length (n4 d2 b8).g).flatMap dh),row (az (n4 d2 b8).b) 3 1 (n4 d2 b8).b.l.length ((cW (n4 d2 b8).b.l.length (n4 d2 b8).wr).flatMap ea),K]):=by
 refine dN 43 Tryz.func99 fun ba bf=>?_
 have jL:1-a<2:=by omega
 refine aj ?_
 refine eD (aF:=[aa cT,aa c4,aa cs,az bA,az l]) fun ax=>?_
 refine ky ?_
 refine jT (α:=Int×br×b7) (fun⟨b8,d2,kr⟩=>eA 5000 d d2∧dK d2 kr∧dK d2 (ay a)) (fun⟨b8,d2,kr⟩=>[(5,aa b8),(0,ag q)]) (fun⟨b8,d2,kr⟩=>[U q (eo p (ag bi) (ag dc) w seq c8) 116,U bi [ag p,ag (Q 0),ag (Q 1),aa (a:Int)] 200,U (Q a) (bE p (ay a)) 273,U (Q (1-a)) (bE p kr) 273,U p (bH d2) 196,row (az (d2).a) 42 1 (d2).a.l.length ((cW (d2).a.l.length (d2).g).flatMap dh),row (az (d2).b) 3 1 (d2).b.l.length ((cW (d2).b.l.length (d2).wr).flatMap ea),K]) ?_ ?_
 ·skip
  refine bT ?_ ?_<;>intro ab
  ·refine gH (Zp bi p Q d h ay a a5 (a:Int) (.inr rfl) (ai a a5) (ai (1-a) (by omega)) (by omega)) ?_
   have gJ:=Xo (z:=(a:Int)) (k:=ay a) h (ai (1-a) ah) ah
   exact ez ((pj d (a:Int) (ay a) (ay (1-a))).2.2,(pj d (a:Int) (ay a) (ay (1-a))).1,(pj d (a:Int) (ay a) (ay (1-a))).2.1) ⟨gJ.1.mono ah,gJ.2,gJ.1.lK (ai a a5)⟩
  refine bD ?_ ?_<;>intro ae
  ·refine cZ [U q (eo p (ag bi) (ag dc) w seq c8) 116,U ax [aa cT,aa c4,aa cs,az bA,az l] 63] ad aA ?_
   refine aY [0,1,2,3,4,5] ?_
   refine gb 6 (adK bi p Q d h ay a a5 (a:Int) (.inr rfl) (ai a a5) (ai (1-a) (by omega)) (by omega) l aE) ?_
   refine df [7,99] ?_
   have gJ:=ZW (z:=(a:Int)) (k:=ay a) h (ai (1-a) ah) ah l.l
   have rz:=ab0 (z:=(a:Int)) (k:=ay a) (l:=l.l) h (ai (1-a) ah) ah
   rw [show(row (az d.b) 3 1 d.b.l.length ((cW d.b.l.length d.wr).flatMap ea):ar B)=row (az ((nC d (a:Int) (ay a) (ay (1-a)) l.l).1).b) 3 1 ((nC d (a:Int) (ay a) (ay (1-a)) l.l).1).b.l.length ((cW ((nC d (a:Int) (ay a) (ay (1-a)) l.l).1).b.l.length ((nC d (a:Int) (ay a) (ay (1-a)) l.l).1).wr).flatMap ea)from by rw [rz.1,rz.2]]
   exact ez ((nC d (a:Int) (ay a) (ay (1-a)) l.l).2.2,(nC d (a:Int) (ay a) (ay (1-a)) l.l).1,(nC d (a:Int) (ay a) (ay (1-a)) l.l).2.1) ⟨gJ.1.mono ah,gJ.2,gJ.1.lK (ai a a5)⟩
  refine bD ?_ ?_<;>intro av
  ·refine gH (X3 bi p Q d h ay a a5 (a:Int) (.inr rfl) ai kv) ?_
   have gJ:=WC (z:=(a:Int)) (ay:=ay) (a:=a) h (ai (1-a) ah) ah
   have rz:=Xn (z:=(a:Int)) (ay:=ay) (a:=a) h (ai (1-a) ah) kv
   rw [show(row (az d.b) 3 1 d.b.l.length ((cW d.b.l.length d.wr).flatMap ea):ar B)=row (az ((k4 d (a:Int) ay a).1).b) 3 1 ((k4 d (a:Int) ay a).1).b.l.length ((cW ((k4 d (a:Int) ay a).1).b.l.length ((k4 d (a:Int) ay a).1).wr).flatMap ea)from by rw [rz.1,rz.2]]
   exact ez ((k4 d (a:Int) ay a).2.2,(k4 d (a:Int) ay a).1,(k4 d (a:Int) ay a).2.1) ⟨gJ.1.mono ah,gJ.2,gJ.1.lK (ai a a5)⟩
  refine bD ?_ ?_<;>intro aV
  ·refine gH (W1 bi p Q d h ay a a5 (a:Int) (.inr rfl) (ai a a5) (by omega)) ?_
   have gJ:=Wi (z:=(a:Int)) (k:=ay a) h ah
   have rz:=Wz (z:=(a:Int)) (k:=ay a) h ah
   rw [show(row (az d.b) 3 1 d.b.l.length ((cW d.b.l.length d.wr).flatMap ea):ar B)=row (az ((rN d (a:Int) (ay a)).1).b) 3 1 ((rN d (a:Int) (ay a)).1).b.l.length ((cW ((rN d (a:Int) (ay a)).1).b.l.length ((rN d (a:Int) (ay a)).1).wr).flatMap ea)from by rw [rz.1,rz.2]]
   exact ez ((rN d (a:Int) (ay a)).2,(rN d (a:Int) (ay a)).1,(ay (1-a))) ⟨gJ.mono ah,gJ.lK (ai (1-a) ah),gJ.lK (ai a a5)⟩
  exact ez (350,d,ay (1-a)) ⟨eA.rfl' h,ai _ ah,ai a a5⟩
 rintro⟨b8,d2,kr⟩ ⟨gJ,h7,yk⟩
 refine bT ?_ ?_<;>intro bN
 ·refine gH (LI q p w seq c8 (ag bi) (ag dc) d2) ?_
  have cb:n4 d2 b8=(xY d2 false):=if_pos ch
  have cq:∀b,wy b8 b= .pointer none:=fun b=>if_pos ch
  exact aO ⟨b8,d2,kr,⟨gJ,h7,yk⟩,rfl,by rw [cb,cq,cq]⟩
 have cb:n4 d2 b8=d2:=if_neg ch
 have cq:∀b,wy b8 b=ag b:=fun b=>if_neg ch
 exact aO ⟨b8,d2,kr,⟨gJ,h7,yk⟩,rfl,by rw [cb,cq,cq]⟩
theorem acu(q p:Nat)(w:an (BitVec 32))(seq:BitVec 32)(c8:Int)(d:br)(h:dB d)(vi:d.on=true)(kv:d.ops≤800000000)(c0:6≤d.b.l.length)(hw:13≤d.words)(aR:0≤c8∧c8≤100000){aB:ar B}(bO:hd aB)(aJ:hK aB):a6 B 18 [ag q] [U q (eo p (.pointer none) (.pointer none) w seq (c8)) 116,U p (bH d) 196,row (az d.a) 42 1 d.a.l.length ((cW d.a.l.length d.g).flatMap dh),row (az d.b) 3 1 d.b.l.length ((cW d.b.l.length d.wr).flatMap ea),aB] (fun v S=>∃(cH co:Value) (j2:an (BitVec 32)) (dW:BitVec 32) (mu hP:ar B),(Di p d cH co j2 dW mu∧KF d co hP)∧v=aa (nZ d)∧S=[U q (eo p cH co j2 dW (c8+1)) 116,U p (bH (fc d)) 196,row (az (fc d).a) 42 1 (fc d).a.l.length ((cW (fc d).a.l.length (fc d).g).flatMap dh),row (az (fc d).b) 3 1 (fc d).b.l.length ((cW (fc d).b.l.length (fc d).wr).flatMap ea),mu,hP,aB]):=by
 refine dN 89 Tryz.func18 fun ba bf=>?_
 have L5:bx d=d:=by show br.mk _ _ _ _ _ _ true _ _ _ _=d;rw [←vi]
 refine sa yR ?_
 have b5:dB (bx d):=GS h
 have x5:∀i,i<2→dK (bx d) (dE d i):=fun i af=>CV (by show 3≤d.b.l.length/2;omega) af (by show d.b.l.length/2*2≤d.b.l.length;omega) hw
 refine aj ?_
 refine eD (aF:=[ag q]) fun ax=>?_
 refine de fun aK=>?_
 refine Aq ?_
 refine aj ?_
 refine eR (x7 p d) ?_
 rw [vi]
 refine aj ?_
 rw [show(U p (bH d) 196:ar B)=U p (bH (bx d)) 196 from by rw [L5]]
 refine cm (KY p (bx d) b5 c0 hw) ?_
 rintro _ _ ⟨bi,Q,rfl,rfl⟩
 refine bP ?_
 refine cp ?_
 refine bp (ag bi) ?_
 refine bp (ak) ?_
 refine fe fun bq=>?_
 refine nH ?_
 refine bD ?_ ?_<;>intro ab
 ·first|omega|simp at ab
 refine CK ?_
 refine aj ?_
 refine cm (Qs bi) ?_
 rintro _ _ ⟨c,rfl,rfl⟩
 refine cx ?_
 refine ON (own:=[U c [ag bi] 114]) (V:=[U bi [ag p,ag (Q 0),ag (Q 1),aa (-1)] 200,gG Q p d 0,gG Q p d 1,U p (bH (bx d)) 196,row (az (bx d).a) 42 1 (bx d).a.l.length ((cW (bx d).a.l.length (bx d).g).flatMap dh)]) (cV:=[U ax [ag q] 49,U aK [ak] 53,U q (eo p (.pointer none) (.pointer none) w seq (c8+1)) 116,U bq [ag bi] 114,row (az (bx d).b) 3 1 (bx d).b.l.length ((cW (bx d).b.l.length (bx d).wr).flatMap ea),aB]) rfl fF (Qr c bi p Q (bx d) b5 (dE d) x5 (-1)) (fun x i S=>(∀k,k∈(py (bx d) (dE d)).take i→mD (ix d k).l=false)∧∃m,m<2∧S=[U ax [ag q] 49,U aK [ak] 53,U q (eo p (.pointer none) (.pointer none) w seq (c8+1)) 116,U bq [ag bi] 114,row (az (bx d).b) 3 1 (bx d).b.l.length ((cW (bx d).b.l.length (bx d).wr).flatMap ea),aB,cR (fZ x m),cR (fZ x (1-m)),U bi [ag p,ag (Q 0),ag (Q 1),aa (-1)] 200,gG Q p d m,gG Q p d (1-m),U p (bH (bx d)) 196,row (az (bx d).a) 42 1 (bx d).a.l.length ((cW (bx d).a.l.length (bx d).g).flatMap dh)]) (fun x c i S=>c= .ret∧∃(j:Nat) (cH co:Value) (j2:an (BitVec 32)) (dW:BitVec 32) (hP:ar B),oC d=some j∧((dJ (bx d) (dE d j)).2.1=0→cH=ag bi∧(∃dc:Nat,co=ag dc)∧j2=fZ x j∧dW=(ix d j).seq)∧((dJ (bx d) (dE d j)).2.1≠0→cH= .pointer none∧co= .pointer none)∧((dJ (bx d) (dE d j)).2.1=0→∃nm,lg (ix d j).l=some nm∧Aw nm co hP)∧S=[U ax [ag q] 49,U aK [aa (dJ (bx d) (dE d j)).2.1] 53,U q (eo p (cH) (co) j2 dW (c8+1)) 116,row (az (bx d).b) 3 1 (bx d).b.l.length ((cW (bx d).b.l.length (bx d).wr).flatMap ea),aB,cR (fZ x j),U bi [ag p,ag (Q 0),ag (Q 1),aa (if(dJ (bx d) (dE d j)).2.2=true then(j:Int)else(-1))] 200,gG Q p d j,gG Q p d (1-j),U p (bH ((dJ (bx d) (dE d j)).1)) 196,row (az (dJ (bx d) (dE d j)).1.a) 42 1 (dJ (bx d) (dE d j)).1.a.l.length ((cW (dJ (bx d) (dE d j)).1.a.l.length (dJ (bx d) (dE d j)).1.g).flatMap dh),hP]) (show Take [U c [ag bi] 114,U ax [ag q] 49,U aK [ak] 53,U q (eo p (.pointer none) (.pointer none) w seq (c8+1)) 116,U bq [ag bi] 114,row (az (bx d).b) 3 1 (bx d).b.l.length ((cW (bx d).b.l.length (bx d).wr).flatMap ea),aB,U bi [ag p,ag (Q 0),ag (Q 1),aa (-1)] 200,gG Q p d 0,gG Q p d 1,U p (bH (bx d)) 196,row (az (bx d).a) 42 1 (bx d).a.l.length ((cW (bx d).a.l.length (bx d).g).flatMap dh)] _ _ from aA) (fun x al=>⟨fun k ai=>(by cases ai),0,by decide,rfl⟩) rfl (fun x al y aZ=>by obtain⟨j,_,rfl⟩:=List.mem_map.1 aZ;rfl) ?_ ?_ ?_
 ·intro x cr rec j3 i bh al af bo
  obtain⟨cN,m,qA,rfl⟩:=bo
  unfold lU at af
  rw [List.length_map]at af
  obtain⟨j,b0⟩:∃j,(py (bx d) (dE d))[i]?=some j:=⟨_,List.getElem?_eq_getElem af⟩
  obtain⟨lz,vj⟩:=Jv (List.mem_of_getElem? b0)
  rw [show(lU (bx d) (dE d) x).getD i []=v8 (bx d) (dE d) x j from by unfold lU;simp [List.getD,b0]]
  obtain⟨fT,cO⟩:(fZ x j).l=(ix d j).l∧(fZ x j).Own:=by rcases(show j=0∨j=1 by omega)with rfl|rfl;exact al.1;exact al.2
  refine AP (fun j=>cR (fZ x j)) lz qA aA ?_
  refine AP (fun j=>gG Q p d j) lz qA aA ?_
  refine aj ?_
  refine de fun bV=>?_
  refine⟨rfl,_,_,.cons au (Take.self _),fun hz=>?_⟩
  refine hi ?_
  refine dn (az (fZ x j)) ?_
  refine cm (JW (K:=cR (fZ x j)) (fZ x j) (dT cO rfl) bO) ?_
  rintro _ _ ⟨y,⟨aZ,rv⟩,rfl,rfl⟩
  refine bP ?_
  rw [fT]
  refine cp ?_
  refine bp (.agg #[aa y.cA,az y.aw,az y.a9,az y.bd]) ?_
  refine bp (aa (pC (ix d j).l)) ?_
  refine de fun dp=>?_
  refine c2 ?_ ?_<;>intro ae
  ·refine aj ?_
   exact⟨[U ax [ag q] 49,U aK [ak] 53,U q (eo p (.pointer none) (.pointer none) w seq (c8+1)) 116,U bq [ag bi] 114,row (az (bx d).b) 3 1 (bx d).b.l.length ((cW (bx d).b.l.length (bx d).wr).flatMap ea),aB,cR (fZ x j),cR (fZ x (1-j)),U bi [ag p,ag (Q 0),ag (Q 1),aa (-1)] 200,gG Q p d j,gG Q p d (1-j),U p (bH (bx d)) 196,row (az (bx d).a) 42 1 (bx d).a.l.length ((cW (bx d).a.l.length (bx d).g).flatMap dh)],_,aA,⟨fun k ai=>(by rw [List.take_add_one,b0]at ai;rcases List.mem_append.1 ai with q|q;exact cN k q;simp at q;subst q;exact Ju ch),j,lz,rfl⟩⟩
  obtain⟨nm,nK⟩:=KE ae
  have fa:y.c=nm:=aZ _ (by rw [fT];exact nK)
  refine ic ?_
  refine fj ?_
  refine cC ?_
  refine dz ?_
  refine ap (ed (bK:=(b9 y)) rfl au ad rfl (by rfl)) ?_
  refine cm (Qq (K:=all (fr y)) y (tF rv) bO aJ) ?_
  rintro _ _ ⟨pe,c3,hP,⟨fz,oe⟩,rfl,rfl⟩
  refine bP ?_
  refine cp ?_
  refine bp pe ?_
  refine bp (aa c3) ?_
  refine bp (aa (kx y.c)) ?_
  refine aj ?_
  refine c2 ?_ ?_<;>intro av
  ·refine aj ?_
   exact⟨[U ax [ag q] 49,U aK [ak] 53,U q (eo p (.pointer none) (.pointer none) w seq (c8+1)) 116,U bq [ag bi] 114,row (az (bx d).b) 3 1 (bx d).b.l.length ((cW (bx d).b.l.length (bx d).wr).flatMap ea),aB,cR (fZ x j),cR (fZ x (1-j)),U bi [ag p,ag (Q 0),ag (Q 1),aa (-1)] 200,gG Q p d j,gG Q p d (1-j),U p (bH (bx d)) 196,row (az (bx d).a) 42 1 (bx d).a.l.length ((cW (bx d).a.l.length (bx d).g).flatMap dh)],_,aA,⟨fun k ai=>(by rw [List.take_add_one,b0]at ai;rcases List.mem_append.1 ai with q|q;exact cN k q;simp at q;subst q;exact Pl nK (by rw [←fa];assumption)),j,lz,rfl⟩⟩
  obtain⟨Ab,_,_,_,_,_,Mr,_⟩:=fz av
  subst Mr
  refine ic ?_
  refine fj ?_
  refine cC ?_
  refine cC ?_
  refine dz ?_
  refine ap (da ad) ?_
  refine ap (ia ad) ?_
  refine ap (ft (v:=aa ((ix d j).i:Int)) rfl au ad (by rfl)) ?_
  rw [show(ix d j).i=j from Qt vj]
  refine gH (Qf bi p Q (bx d) b5 (dE d) j lz (x5 j lz) (-1)) ?_
  refine bD ?_ ?_<;>intro aV
  ·exact⟨[U ax [ag q] 49,U aK [aa (dJ (bx d) (dE d j)).2.1] 53,U q (eo p (.pointer none) (.pointer none) w seq (c8+1)) 116,row (az (bx d).b) 3 1 (bx d).b.l.length ((cW (bx d).b.l.length (bx d).wr).flatMap ea),aB,cR (fZ x j),U bi [ag p,ag (Q 0),ag (Q 1),aa (if(dJ (bx d) (dE d j)).2.2=true then(j:Int)else(-1))] 200,gG Q p d j,gG Q p d (1-j),U p (bH ((dJ (bx d) (dE d j)).1)) 196,row (az (dJ (bx d) (dE d j)).1.a) 42 1 (dJ (bx d) (dE d j)).1.a.l.length ((cW (dJ (bx d) (dE d j)).1.a.l.length (dJ (bx d) (dE d j)).1.g).flatMap dh),hP],_,aA,⟨rfl,j,.pointer none,.pointer none,w,seq,hP,GU b0 (CD nK (by rw [←fa];assumption)) cN,fun q=>absurd q ch,fun _=>⟨rfl,rfl⟩,fun q=>absurd q ch,rfl⟩⟩
  refine k3 [U ax [ag q] 49,U bq [ag bi] 114,U bV (g0 (ix d j) (fZ x j)) 124] ad aA ?_
  refine aY [0,1,2,3,4,5,6] ?_
  refine bj 7 rfl (da (v:=az (fZ x j)) ad) ?_
  refine aY [8] ?_
  refine bj 9 rfl (da (v:=aQ (ix d j).seq.toNat) ad) ?_
  refine aY [10,11,112] ?_
  refine mC rfl .no dy (jr rfl rfl rfl au ad kC) aA ?_
  refine aY [13,14,115] ?_
  refine mC rfl .no dy (jr rfl rfl rfl au ad kC) aA ?_
  refine aY [16,17,118] ?_
  refine mC rfl .no dy (jr rfl rfl rfl au ad kC) aA ?_
  refine aY [19,20,121] ?_
  refine mC rfl .no dy (jr rfl rfl rfl au ad kC) aA ?_
  refine df [99] ?_
  have Ez:(dJ (bx d) (dE d j)).2.1=0:=by assumption
  rw [show(U aK [ak] 53:ar B)=U aK [aa (dJ (bx d) (dE d j)).2.1] 53 from by rw [Ez]]
  exact⟨[U ax [ag q] 49,U aK [aa (dJ (bx d) (dE d j)).2.1] 53,U q (eo p (ag bi) (ag Ab) (fZ x j) (ix d j).seq (c8+1)) 116,row (az (bx d).b) 3 1 (bx d).b.l.length ((cW (bx d).b.l.length (bx d).wr).flatMap ea),aB,cR (fZ x j),U bi [ag p,ag (Q 0),ag (Q 1),aa (if(dJ (bx d) (dE d j)).2.2=true then(j:Int)else(-1))] 200,gG Q p d j,gG Q p d (1-j),U p (bH ((dJ (bx d) (dE d j)).1)) 196,row (az (dJ (bx d) (dE d j)).1.a) 42 1 (dJ (bx d) (dE d j)).1.a.l.length ((cW (dJ (bx d) (dE d j)).1.a.l.length (dJ (bx d) (dE d j)).1.g).flatMap dh),hP],_,aA,⟨rfl,j,ag bi,ag Ab,fZ x j,(ix d j).seq,hP,GU b0 (CD nK (by rw [←fa];assumption)) cN,fun _=>⟨rfl,⟨Ab,rfl⟩,rfl,rfl⟩,fun q=>absurd Ez q,fun _=>⟨nm,nK,by rw [←fa];exact fz ch⟩,rfl⟩⟩
 ·intro x cG bh al bo
  obtain⟨cN,m,qA,rfl⟩:=bo
  refine cx ?_
  refine mb ?_
  refine dA (show Take [dl cG] _ _ from aA) (my rfl rfl au ad) ?_
  have sm:oC d=none:=RC (fun k ai=>cN k (by unfold lU;rw [List.length_map,List.take_length];exact ai))
  have cn:nZ d=90:=by unfold nZ;rw [sm]
  have bU:fc d=bx d:=by unfold fc;rw [sm]
  rw [show(U p (bH (bx d)) 196:ar B)=U p (bH (fc d)) 196 from by rw [bU]]
  rw [show(row (az (bx d).a) 42 1 (bx d).a.l.length ((cW (bx d).a.l.length (bx d).g).flatMap dh):ar B)=row (az (fc d).a) 42 1 (fc d).a.l.length ((cW (fc d).a.l.length (fc d).g).flatMap dh)from by rw [bU]]
  rw [show(row (az (bx d).b) 3 1 (bx d).b.l.length ((cW (bx d).b.l.length (bx d).wr).flatMap ea):ar B)=row (az (fc d).b) 3 1 (fc d).b.l.length ((cW (fc d).b.l.length (fc d).wr).flatMap ea)from by rw [bU]]
  exact aO ⟨.pointer none,.pointer none,w,seq,gG Q p d m,all [],⟨⟨fun q=>absurd (cn.symm.trans q) b2,fun _=>⟨rfl,rfl⟩⟩,fun q=>absurd (cn.symm.trans q) b2⟩,by rw [cn],rfl⟩
 intro x cG c i bh al af h
 obtain⟨rfl,j,cH,co,j2,dW,hP,uf,LJ,A3,yk,rfl⟩:=h
 refine bP ?_
 refine sa (sL (l:=[U bi [ag p,ag (Q 0),ag (Q 1),aa (if(dJ (bx d) (dE d j)).2.2=true then(j:Int)else(-1))] 200,gG Q p d j,gG Q p d (1-j),cR (fZ x j)]) aA) ?_
 refine aj ?_
 refine mb ?_
 refine dA (show Take [dl cG] _ _ from aA) (my rfl rfl au ad) ?_
 obtain⟨lz,vj⟩:=Jw uf
 have cn:nZ d=(dJ (bx d) (dE d j)).2.1:=by unfold nZ;rw [uf]
 have bU:fc d=(dJ (bx d) (dE d j)).1:=by unfold fc;rw [uf]
 have rz:=Pk (k:=dE d j) b5 (show(bx d).ops≤900000000 by show d.ops≤_;omega)
 rw [show(U p (bH ((dJ (bx d) (dE d j)).1)) 196:ar B)=U p (bH (fc d)) 196 from by rw [bU]]
 rw [show(row (az (dJ (bx d) (dE d j)).1.a) 42 1 (dJ (bx d) (dE d j)).1.a.l.length ((cW (dJ (bx d) (dE d j)).1.a.l.length (dJ (bx d) (dE d j)).1.g).flatMap dh):ar B)=row (az (fc d).a) 42 1 (fc d).a.l.length ((cW (fc d).a.l.length (fc d).g).flatMap dh)from by rw [bU]]
 rw [show(row (az (bx d).b) 3 1 (bx d).b.l.length ((cW (bx d).b.l.length (bx d).wr).flatMap ea):ar B)=row (az (fc d).b) 3 1 (fc d).b.l.length ((cW (fc d).b.l.length (fc d).wr).flatMap ea)from by rw [bU,rz.1,rz.2]]
 obtain⟨fT,cO⟩:(fZ x j).l=(ix d j).l∧(fZ x j).Own:=by rcases(show j=0∨j=1 by omega)with rfl|rfl;exact al.1;exact al.2
 have h1:Di p d cH co j2 dW (all [U bi [ag p,ag (Q 0),ag (Q 1),aa (if(dJ (bx d) (dE d j)).2.2=true then(j:Int)else(-1))] 200,gG Q p d j,gG Q p d (1-j),cR (fZ x j)]:ar B):=⟨fun q=>by obtain⟨ab,⟨dc,ae⟩,av,aV⟩:=LJ (cn.symm.trans q);subst av;exact⟨bi,Q,dc,j,uf,ab,ae,fT,cO,aV,by rw [Pj (cn.symm.trans q)];rfl⟩,fun q=>A3 (fun z=>q (cn.trans z))⟩
 exact aO ⟨cH,co,j2,dW,all [U bi [ag p,ag (Q 0),ag (Q 1),aa (if(dJ (bx d) (dE d j)).2.2=true then(j:Int)else(-1))] 200,gG Q p d j,gG Q p d (1-j),cR (fZ x j)],hP,⟨h1,fun q=>let⟨c,ab,ae⟩:=yk (cn.symm.trans q);⟨j,c,uf,ab,ae⟩⟩,by rw [cn],rfl⟩
section
variable{B:Nat}
def xb(c:ck):jR:=fun e s f=>e=rB∧s=kc c rB 0#32 iL∧f=fun _=>0
theorem acv{c:ck}{co:Value}{hP aB:ar B}(bO:hd aB)(aJ:hK aB)(h:Aw c co hP)(a5:kx c=0):∃(p:Nat) (y bL:bZ) (o:fW),co=ag p∧qN c y bL o (all (fr (B:=B) y)) (all (fr (B:=B) bL)) (all (kR (B:=B) o)) aB∧∀S R:List (ar B),Out hP S R→gK S (gB c y bL o p 0 0 (xb c)::all (fr y)::all (fr bL)::all (kR o)::R):=by
 obtain⟨p,k,e,s,cP,aP,aC,Ey⟩:=h
 have bY:=aet a5
 have ai:=yW (CB a5)
 obtain⟨t0,HJ⟩:=aP.cP
 have Vi:=(ai.dX _ (List.mem_of_getElem? HJ)).2
 obtain⟨dH,gu,lD,nb⟩:=aP.er
 have oc:k.q=dH:=by rw [gu]
 have Ef:∀m∈k.y.a9.l,se m.q.l:=fun m hm=>by
  have:(m.aw,m.q.l)∈c.a9:=by rw [←aP.y];exact List.mem_map.2 ⟨m,hm,rfl⟩
  exact(ai.dX _ this).2
 have yi:0<c.a9.length:=(List.getElem?_eq_some_iff.1 HJ).1
 refine⟨p,k.y,e.y,k.o,aC,⟨tF aP.aiR,aP.y,⟨tF aP.ahV,nU (a:=xK k.o.bd) (by unfold kR;simp) (dT aP.o.aiO rfl),by rw [aP.M9];exact aP.o.e,bO,aJ,by rw [aP.M9];exact bY⟩,aP.M9,Ef⟩,fun S R aq=>?_⟩
 subst Ey
 have c1:gK S (CC p k e s cP++R):=Ge (.cons aq (.nil _))
 unfold CC at c1
 simp only [List.cons_append,List.nil_append]at c1
 refine c1.trans ?_
 refine(Pu (bX:=k.q.l) (cP:=cP) (by rw [oc];exact nb) (fun y aZ=>by have:=Vi.2 y aZ;exact⟨this.1,this.2.1,this.2.2.1,this.2.2.2⟩) (by repeat first|with_reducible exact .here _ _|with_reducible apply Out.there)).trans ?_
 refine gK.trans (bc:=gR an.bt::all (k.q.l.map cU)::U p (c7 k) 170::U k.eB (c5 s) 260::many 16 (eK s.aD)::U k.fh (hE e) 288::all (fr k.y)::all (fr e.y)::all (kR k.o)::eJ k.q::R) (fun D w q=>⟨fun _=>False,D,fun k=>by simp,fun _ h _=>h,Fy,q⟩) ?_
 refine yR.trans ?_
 have he:hE e=hE (nd e.y k.o rB []):=(congrArg hE aP.aiS).trans rfl
 have zn:je c rB=b6 c 0:=rfl
 have aH:s=kc c rB 0#32 iL:=by
  rw [aP.th];unfold kc;rw [zn]
 have aic:c7 k=c7 (eT k an.bt):=by rw [gu];rfl
 rw [he,aic]
 refine xM (z:=⟨k,s,rB,[],an.bt⟩) ⟨rfl,?_,fu.zero,?_,by rw [gu],fun i af=>by rw [gu];show(0:Int)≤0∧(0:Int)≤4096;omega,rfl,by rw [oc];exact lD,by rw [oc,nb];exact Vi.1,kg.bt 0,?_,⟨rfl,aH,by rw [gu]⟩⟩ cd
 ·have:=Inv.zero bY yi
  show Inv c rB s k.bm
  rw [aH,gu]
  exact this
 ·rw [gu];rfl
 show s.now≤0
 rw [aH,vJ.2.1];exact Int.le_refl _
end
structure sh(c:ck)(cT c4 cs:Int)(l:List dt)(G hp:jR):Prop where
  dg:cT=1→∃qR:Nat→jR,qR 0=G∧(∀i:Nat,(i:Int)<cs→wA c (qR i) (qR (i+1)))∧∀i:Nat,(1≤cs→cs≤4096→(i:Int)=cs)→nO (qR i) hp
  tk:cT≠1→cT≠2→cT≠3→nO G hp
  of:cT=2→LN c c4 cs l G hp
  ma:cT=3→D4 c c4 G hp
theorem sh.top{c:ck}{cT c4 cs:Int}{l:List dt}{G:jR}:sh c cT c4 cs l G IE:=
  ⟨fun _=>⟨fun i=>match i with|0=>G|_+1=>IE,rfl,fun i _ e s f _ _=>trivial,fun i _=>nO.top⟩,fun _ _ _=>nO.top,fun _ _ _ _ _ _ _ _ _ _=>trivial,fun _ _ _ _ _ _=>trivial⟩
theorem xx(n:Int):IntKind.u32.wrap n=((BitVec.ofInt 32 n).toNat:Int):=by
  rw [BitVec.toNat_ofInt]
  simp [IntKind.wrap,IntKind.bits,IntKind.signed]
  omega
theorem aeR{q iU:Nat}{cH:Value}{w:an (BitVec 32)}{dW:BitVec 32}{rH:Int}{c:ck}{y bL:bZ}{o:fW}(p:Nat){t:Int}{n:Nat}{G:jR}(ho:Bool)(l:BitVec 32):a6 B 98 [ag q,.bool ho,aQ l.toNat] [gB c y bL o p t n G,U q (eo iU cH (ag p) w dW rH) 116] (fun v S=>∃e r:Int,v= .agg #[aa e,aa r]∧S=[gB c y bL o p t n G,U q (eo iU cH (ag p) w dW rH) 116]):=by
 refine LO p (F:=[U q (eo iU cH (ag p) w dW rH) 116]) (post:=fun z v S=>∃e r:Int,v= .agg #[aa e,aa r]∧S=[U p (c7 (eT z.k z.cM)) 170,U q (eo iU cH (ag p) w dW rH) 116]) (fun z aS=>?_) fun z aS v S ⟨e,r,ab,ae⟩=>⟨z,_,⟨aS,rfl,rfl,rfl,rfl,rfl,rfl,rfl⟩,ae,e,r,ab,rfl⟩
 refine j9 (p6 (aeG q iU cH w dW rH p (eT z.k z.cM) ho l) (ov (R:=[]) (.cons (.there _ (.here _ _)) (.cons (.here _ _) (.nil _))))) ?_
 rintro v S ⟨e,r,rfl,rfl⟩
 exact⟨_,[U p (c7 (eT z.k z.cM)) 170,U q (eo iU cH (ag p) w dW rH) 116],[],ov (L:=[U p (c7 (eT z.k z.cM)) 170,U q (eo iU cH (ag p) w dW rH) 116]) (R:=[]) (.cons (.there _ (.here _ _)) (.cons (.here _ _) (.nil _))),Take.self _,e,r,rfl,rfl⟩
theorem acw(q p bi dc:Nat)(Q:Nat→Nat)(w:an (BitVec 32))(seq:BitVec 32)(c8:Int)(d:br)(h:dB d)(ay:Nat→b7)(ai:∀i,i<2→dK d (ay i))(a:Nat)(a5:a<2)(kv:d.ops≤800000000){b3 eS cF aB fV hq:ar B}{c:ck}{y bL:bZ}{o:fW}(fz:qN c y bL o b3 eS cF aB)(t:Int)(aL:t<90000000)(cT c4 cs:Int)(bA:an dt)(oa:dI fV bA.bu (bA.l.flatMap gq))(cQ:an (BitVec 32))(qy:dI hq cQ.bu (cQ.l.flatMap dh)){G hp:jR}(dj:sh c cT c4 cs bA.l G hp):a6 B 50 [ag q,.agg #[aa cT,aa c4,aa cs,az bA,az cQ]] [U q (eo p (ag bi) (ag dc) w seq c8) 116,U bi [ag p,ag (Q 0),ag (Q 1),aa (a:Int)] 200,U (Q a) (bE p (ay a)) 273,U (Q (1-a)) (bE p (ay (1-a))) 273,U p (bH d) 196,cu (d),fM (d),gB c y bL o dc t 0 G,b3,eS,cF,aB,fV,hq] (fun v S=>∃(b8 r:Int) (t2:Int) (hV:Nat) (d2:br) (kr:b7) (cq:Int) (vC:jR),(t2≤t+4096∧hV≤10000000∧eA 5000 d d2∧dK d2 kr∧dK d2 (ay a)∧nO vC hp∧(1≤cT→cT≤3→cq=0))∧v= .agg #[aa b8,aa r]∧S=[U q (eo p (wy cq bi) (wy cq dc) w seq c8) 116,U bi [ag p,ag (Q 0),ag (Q 1),aa (a:Int)] 200,U (Q a) (bE p (ay a)) 273,U (Q (1-a)) (bE p kr) 273,U p (bH (n4 d2 cq)) 196,cu (n4 d2 cq),fM (n4 d2 cq),gB c y bL o dc t2 hV vC,b3,eS,cF,aB,fV,hq]):=by
 refine bM 93 Tryz.func50 fun ba bf=>?_
 refine eD (aF:=[aa cT,aa c4,aa cs,az bA,az cQ]) fun ax=>?_
 refine de fun aK=>?_
 refine bD ?_ ?_<;>intro ab
 ·obtain⟨qR,rfl,MB,aid⟩:=dj.dg ah
  refine cm (acs q p (ag bi) w seq c8 dc fz t 0 aL (by omega) cs qR MB) ?_
  rintro _ _ ⟨b8,r,i,⟨af,rr⟩,rfl,rfl⟩
  refine cx ?_
  refine g2 ?_
  exact aO ⟨b8,r,(t+i),(0+2010*i),d,ay (1-a),0,(qR i),⟨by omega,by omega,eA.rfl' h,ai _ ah,ai a a5,aid i rr,fun _ _=>rfl⟩,rfl,rfl⟩
 refine bD ?_ ?_<;>intro ae
 ·refine cm (acq fz dc (t:=t) (n:=0) (by omega) (by omega) c4 cs bA oa (hp:=hp) (dj.of (by omega))) ?_
  rintro _ _ ⟨b8,rfl,rfl⟩
  refine cx ?_
  refine g2 ?_
  exact aO ⟨b8,0,t,(0+2010),d,ay (1-a),0,hp,⟨by omega,by omega,eA.rfl' h,ai _ ah,ai a a5,nO.rfl',fun _ _=>rfl⟩,rfl,rfl⟩
 refine bD ?_ ?_<;>intro av
 ·refine cm (agH fz dc (t:=t) (n:=0) (by omega) (by omega) c4 (hp:=hp) (dj.ma (by omega))) ?_
  rintro _ _ ⟨b8,rfl,rfl⟩
  refine cx ?_
  refine g2 ?_
  exact aO ⟨b8,0,t,(0+2010),d,ay (1-a),0,hp,⟨by omega,by omega,eA.rfl' h,ai _ ah,ai a a5,nO.rfl',fun _ _=>rfl⟩,rfl,rfl⟩
 refine bD ?_ ?_<;>intro aV
 ·refine cm (aeO dc (t:=t) (n:=0) (by omega) c4 cs) ?_
  rintro _ _ ⟨b8,rfl,rfl⟩
  refine cx ?_
  refine g2 ?_
  exact aO ⟨b8,0,t,0,d,ay (1-a),0,G,⟨by omega,by omega,eA.rfl' h,ai _ ah,ai a a5,dj.tk ah ah ah,fun _ _=>rfl⟩,rfl,rfl⟩
 refine bD ?_ ?_<;>intro bN
 ·refine cm (aeP dc (t:=t) (n:=0) (by omega) c4) ?_
  rintro _ _ ⟨VQ,b8,rfl,rfl⟩
  refine bP ?_
  refine cp ?_
  refine bp (aa VQ) ?_
  refine bp (aa b8) ?_
  refine aj ?_
  refine g2 ?_
  exact aO ⟨b8,VQ,t,0,d,ay (1-a),0,G,⟨by omega,by omega,eA.rfl' h,ai _ ah,ai a a5,dj.tk ah ah ah,fun _ _=>rfl⟩,rfl,rfl⟩
 refine bD ?_ ?_<;>intro c0
 ·refine cZ [U ax [aa cT,aa c4,aa cs,az bA,az cQ] 63] ad aA ?_
  refine aY [0,1,2,3,4] ?_
  refine bj 5 rfl (ja rfl ad (xx _)) ?_
  refine j0 6 (agI dc (BitVec.ofInt 32 cs)) ?_
  rintro _ _ ⟨b8,rfl,rfl⟩
  refine bP ?_
  refine gv ?_
  refine df [7,108,99] ?_
  refine g2 ?_
  exact aO ⟨b8,0,t,0,d,ay (1-a),0,G,⟨by omega,by omega,eA.rfl' h,ai _ ah,ai a a5,dj.tk ah ah ah,fun _ _=>rfl⟩,rfl,rfl⟩
 refine bD ?_ ?_<;>intro fO
 ·refine cZ [U ax [aa cT,aa c4,aa cs,az bA,az cQ] 63] ad aA ?_
  refine aY [0,1,2,3,4] ?_
  refine bj 5 rfl (ja rfl ad (xx _)) ?_
  refine j0 6 (acr dc (BitVec.ofInt 32 cs)) ?_
  rintro _ _ ⟨b8,rfl,rfl⟩
  refine bP ?_
  refine gv ?_
  refine df [7,108,99] ?_
  refine g2 ?_
  exact aO ⟨b8,0,t,0,d,ay (1-a),0,G,⟨by omega,by omega,eA.rfl' h,ai _ ah,ai a a5,dj.tk ah ah ah,fun _ _=>rfl⟩,rfl,rfl⟩
 refine c2 ?_ ?_<;>intro gk
 ·refine aj ?_
  refine ap (ja rfl ad (xx _)) ?_
  refine cm (aeR dc (t:=t) (n:=0) _ (BitVec.ofInt 32 cs)) ?_
  rintro _ _ ⟨b8,r,rfl,rfl⟩
  refine cx ?_
  refine g2 ?_
  exact aO ⟨b8,r,t,0,d,ay (1-a),0,G,⟨by omega,by omega,eA.rfl' h,ai _ ah,ai a a5,dj.tk ah ah ah,fun _ _=>rfl⟩,rfl,rfl⟩
 refine ky ?_
 refine du [aa cT,aa c4,aa cs,az bA,az cQ] ?_
 refine cm (aaf (K:=hq) q p bi dc Q w seq c8 d h ay ai a a5 kv cT c4 cs bA cQ qy) ?_
 rintro _ _ ⟨b8,d2,kr,⟨gJ,h7,yk⟩,rfl,rfl⟩
 refine cx ?_
 refine g2 ?_
 exact aO ⟨b8,0,t,0,d2,kr,b8,G,⟨by omega,by omega,gJ,h7,yk,dj.tk ah ah ah,fun _ _=>by omega⟩,rfl,rfl⟩
theorem RL{d:br}(h:dB d)(n:Int)(x:BitVec 32)(aP:n≤9223372036854775807):eA 5000 d (D0 d n x):=⟨⟨h.s,h.w,h.n,h.rn,h.oj,h.e1,h.ops,by show 0≤max n 0∧max n 0≤_;omega,h.x6⟩,by show d.ops≤d.ops+_;omega,rfl,rfl,rfl,rfl⟩
theorem RM{d:br}(h:dB d)(z:Bool):eA 5000 d (xY d z):=⟨⟨h.s,h.w,h.n,h.rn,h.oj,h.e1,h.ops,h.a8,h.x6⟩,by show d.ops≤d.ops+_;omega,rfl,rfl,rfl,rfl⟩
theorem agJ(q p dc:Nat)(cH:Value)(w:an (BitVec 32))(seq:BitVec 32)(c8:Int):a6 B 18 [ag q] [U q (eo p (cH) (ag dc) w seq c8) 116] (fun v S=>∃b8:Int,v=aa b8∧S=[U q (eo p (cH) (ag dc) w seq c8) 116]):=by
 refine bM 89 Tryz.func18 fun ba bf=>?_
 refine eD (aF:=[ag q]) fun ax=>?_
 refine de fun aK=>?_
 refine Aq ?_
 refine aj ?_
 refine mb ?_
 refine dA (.nil _) (my rfl rfl au ad) ?_
 exact aO ⟨_,rfl,rfl⟩
theorem aeS(q p bi dc:Nat)(Q:Nat→Nat)(w:an (BitVec 32))(seq:BitVec 32)(c8:Int)(d:br)(h:dB d)(ay:Nat→b7)(ai:∀i,i<2→dK d (ay i))(a:Nat)(a5:a<2)(kv:d.ops≤800000000){b3 eS cF aB fV hq:ar B}{c:ck}{y bL:bZ}{o:fW}(fz:qN c y bL o b3 eS cF aB)(t:Int)(aL:t<90000000)(cT c4 cs:Int)(bA:an dt)(oa:dI fV bA.bu (bA.l.flatMap gq))(cQ:an (BitVec 32))(qy:dI hq cQ.bu (cQ.l.flatMap dh)){G hp:jR}(dj:sh c cT c4 cs bA.l G hp)(ys:c4≤9223372036854775807):a6 B 20 [ag q,.agg #[aa cT,aa c4,aa cs,az bA,az cQ]] [U q (eo p (ag bi) (ag dc) w seq c8) 116,U bi [ag p,ag (Q 0),ag (Q 1),aa (a:Int)] 200,U (Q a) (bE p (ay a)) 273,U (Q (1-a)) (bE p (ay (1-a))) 273,U p (bH d) 196,cu (d),fM (d),gB c y bL o dc t 0 G,b3,eS,cF,aB,fV,hq] (fun v S=>∃(b8 r:Int) (t2:Int) (hV:Nat) (d2:br) (kr:b7) (cq:Int) (vC:jR),(t2≤t+4096∧hV≤10000000∧eA 5000 d d2∧dK d2 kr∧dK d2 (ay a)∧nO vC hp∧(1≤cT→cT≤3→cq=0))∧v= .agg #[aa b8,aa r]∧S=[U q (eo p (wy cq bi) (wy cq dc) w seq c8) 116,U bi [ag p,ag (Q 0),ag (Q 1),aa (a:Int)] 200,U (Q a) (bE p (ay a)) 273,U (Q (1-a)) (bE p kr) 273,U p (bH (n4 d2 cq)) 196,cu (n4 d2 cq),fM (n4 d2 cq),gB c y bL o dc t2 hV vC,b3,eS,cF,aB,fV,hq]):=by
 refine bM 46 Tryz.func20 fun ba bf=>?_
 refine eD (aF:=[aa cT,aa c4,aa cs,az bA,az cQ]) fun ax=>?_
 refine de fun aK=>?_
 refine cc ?_ ?_<;>intro ab
 ·refine g2 ?_
  have gJ:eA 5000 d (d):=eA.rfl' h
  exact aO ⟨350,0,t,0,d,ay (1-a),0,G,⟨by omega,by omega,gJ,gJ.lK (ai _ ah),gJ.lK (ai a a5),dj.tk ah ah ah,fun _ _=>by omega⟩,rfl,rfl⟩
 refine bD ?_ ?_<;>intro ae
 ·refine g2 ?_
  have gJ:eA 5000 d (d):=eA.rfl' h
  exact aO ⟨350,0,t,0,d,ay (1-a),0,G,⟨by omega,by omega,gJ,gJ.lK (ai _ ah),gJ.lK (ai a a5),dj.tk ah ah ah,fun _ _=>by omega⟩,rfl,rfl⟩
 refine bD ?_ ?_<;>intro av
 ·refine cm (agJ q p dc (ag bi) w seq c8) ?_
  rintro _ _ ⟨b8,rfl,rfl⟩
  refine cx ?_
  refine g2 ?_
  have gJ:eA 5000 d (d):=eA.rfl' h
  exact aO ⟨b8,0,t,0,d,ay (1-a),0,G,⟨by omega,by omega,gJ,gJ.lK (ai _ ah),gJ.lK (ai a a5),dj.tk ah ah ah,fun _ _=>by omega⟩,rfl,rfl⟩
 refine bD ?_ ?_<;>intro aV
 ·refine gH (LI q p w seq c8 (ag bi) (ag dc) d) ?_
  refine g2 ?_
  have gJ:eA 5000 d (d):=eA.rfl' h
  exact aO ⟨0,0,t,0,d,ay (1-a),63,G,⟨by omega,by omega,gJ,gJ.lK (ai _ ah),gJ.lK (ai a a5),dj.tk ah ah ah,fun _ _=>by omega⟩,rfl,rfl⟩
 refine c2 ?_ ?_<;>intro bN
 ·refine aj ?_
  refine ap (ja rfl ad (xx _)) ?_
  refine aj ?_
  refine gH (TJ q p w seq c8 (ag bi) (ag dc) d c4 (BitVec.ofInt 32 cs)) ?_
  refine g2 ?_
  have gJ:eA 5000 d (D0 d c4 (BitVec.ofInt 32 cs)):=RL h _ _ ys
  exact aO ⟨0,0,t,0,D0 d c4 (BitVec.ofInt 32 cs),ay (1-a),0,G,⟨by omega,by omega,gJ,gJ.lK (ai _ ah),gJ.lK (ai a a5),dj.tk ah ah ah,fun _ _=>by omega⟩,rfl,rfl⟩
 refine Tr ?_
 refine du [aa cT,aa c4,aa cs,az bA,az cQ] ?_
 refine cm (acw q p bi dc Q w seq c8 d h ay ai a a5 kv fz t aL cT c4 cs bA oa cQ qy dj) ?_
 rintro _ _ ⟨b8,r,t2,hV,d2,kr,cq,vC,aS,rfl,rfl⟩
 refine cx ?_
 refine g2 ?_
 exact aO ⟨b8,r,t2,hV,d2,kr,cq,vC,aS,rfl,rfl⟩
theorem acx(q p:Nat)(w:an (BitVec 32))(seq:BitVec 32)(c8:Int)(d:br)(h:dB d){aB fV hq X:ar B}(h1:a6 B 18 [ag q] [U q (eo p (.pointer none) (.pointer none) w seq c8) 116,U p (bH d) 196,cu d,fM d,aB] (fun v S=>∃b8:Int,v=aa b8∧S=[X,aB]))(cT c4 cs:Int)(bA:an dt)(cQ:an (BitVec 32))(ys:c4≤9223372036854775807):a6 B 20 [ag q,.agg #[aa cT,aa c4,aa cs,az bA,az cQ]] [U q (eo p (.pointer none) (.pointer none) w seq c8) 116,U p (bH d) 196,cu d,fM d,aB,fV,hq] (fun v S=>∃b8 r:Int,v= .agg #[aa b8,aa r]∧(S=[X,aB,fV,hq]∨∃d2:br,(eA 5000 d d2∧cT≠15)∧S=[U q (eo p (.pointer none) (.pointer none) w seq c8) 116,U p (bH d2) 196,cu d2,fM d2,aB,fV,hq])):=by
 refine bM 46 Tryz.func20 fun ba bf=>?_
 refine eD (aF:=[aa cT,aa c4,aa cs,az bA,az cQ]) fun ax=>?_
 refine de fun aK=>?_
 refine cc ?_ ?_<;>intro ab
 ·refine g2 ?_
  exact aO ⟨350,0,rfl,.inr ⟨d,⟨eA.rfl' h,by omega⟩,rfl⟩⟩
 refine bD ?_ ?_<;>intro ae
 ·refine g2 ?_
  exact aO ⟨350,0,rfl,.inr ⟨d,⟨eA.rfl' h,by omega⟩,rfl⟩⟩
 refine bD ?_ ?_<;>intro av
 ·refine cm (h1) ?_
  rintro _ _ ⟨b8,rfl,rfl⟩
  refine cx ?_
  refine g2 ?_
  exact aO ⟨b8,0,rfl,.inl rfl⟩
 refine bD ?_ ?_<;>intro aV
 ·refine gH (LI q p w seq c8 (.pointer none) (.pointer none) d) ?_
  refine g2 ?_
  exact aO ⟨0,0,rfl,.inr ⟨xY d false,⟨RM h _,by omega⟩,rfl⟩⟩
 refine bD ?_ ?_<;>intro bN
 ·refine ap (ja rfl ad (xx _)) ?_
  refine aj ?_
  refine gH (TJ q p w seq c8 (.pointer none) (.pointer none) d c4 (BitVec.ofInt 32 cs)) ?_
  refine g2 ?_
  exact aO ⟨0,0,rfl,.inr ⟨D0 d c4 (BitVec.ofInt 32 cs),⟨RL h _ _ ys,by omega⟩,rfl⟩⟩
 refine g2 ?_
 exact aO ⟨330,0,rfl,.inr ⟨d,⟨eA.rfl' h,by omega⟩,rfl⟩⟩
section
variable{B:Nat}
structure z0(N:Int)(d:br):Prop where
  ok:dB d
  ops:d.ops≤N
  c0:6≤d.b.l.length
  hw:13≤d.words
theorem z0.Fg{N:Int}{n:Nat}{d d2:br}(h:z0 N d)(q:eA n d d2):z0 (N+n) d2:=⟨q.ok,by have:=q.ops;have:=h.ops;omega,by rw [q.b];exact h.c0,by rw [q.w];exact h.hw⟩
theorem acy{n:Nat}{d d2:br}(q:eA n d d2)(e:Int):eA n d (n4 d2 e):=by
  unfold n4;split
  · have h:=q.ok
    exact⟨⟨h.s,h.w,h.n,h.rn,h.oj,h.e1,h.ops,h.a8,h.x6⟩,q.ops,q.w,q.b,q.a,q.rn⟩
  · exact q
theorem YG(d:br)(k:b7)(i:Nat):(ev d k i).l.length≤100000:=by
  unfold ev
  split
  · show(oy d k).1.length≤_
    unfold oy
    split
    · rw [m1]
      show(gP d k).n2.toNat≤_
      unfold gP
      split
      · show 0≤_;omega
      · rename_i h
        have:¬(qh d k).n2.toNat>q5 d k:=fun q=>h (.inr q)
        have ae:q5 d k≤4096:=Nat.min_le_right _ _
        omega
    · exact Nat.zero_le _
  · exact Nat.zero_le _
inductive rI
  |any
  |off (l:List (BitVec 32))
  |on (c:ck) (dW:BitVec 32) (G:jR)
structure TW(a:an (BitVec 32))(b:an Int):Prop where
  a:a.l.length=16*256∧a.Own
  b:b.l.length=16∧b.Own
structure Im(l:List (BitVec 32))(c:ck):Prop where
  b:∀a b,TW a b→oC (ry 256 1000 a b l)=some 0∧nZ (ry 256 1000 a b l)=0∧ix (ry 256 1000 a b l) 0=⟨0,1#32,false,l⟩
  d:lg l=some c
inductive u7:rI→Int→Int→Int→List dt→rI→Prop
  |any {eP cT c4 cs l}:u7 eP cT c4 cs l .any
  |on {c dW G hp cT c4 cs l}:sh c cT c4 cs l G hp→1≤cT∧cT≤3→u7 (.on c dW G) cT c4 cs l (.on c dW hp)
  |LP {l c c4 cs jy}:Im l c→u7 (.off l) 15 c4 cs jy (.on c 1#32 (xb c))
structure vo where
  bi:Nat
  dc:Nat
  Q:Nat→Nat
  w:an (BitVec 32)
  seq:BitVec 32
  c8:Int
  d:br
  ay:Nat→b7
  a:Nat
  c:ck
  y:bZ
  bL:bZ
  o:fW
  t:Int
  n:Nat
  G:jR
structure wB where
  w:an (BitVec 32)
  seq:BitVec 32
  c8:Int
  d:br
structure tT(aB:ar B)(N b t:Int)(n:Nat)(eP:rI)(z:vo):Prop where
  k0:z0 N z.d
  er:∀i,i<2→dK z.d (z.ay i)
  a:z.a<2
  co:qN z.c z.y z.bL z.o (all (fr (B:=B) z.y)) (all (fr (B:=B) z.bL)) (all (kR (B:=B) z.o)) aB
  IF:z.w.Own
  wl:z.w.l.length≤100000
  e1:0≤z.c8∧z.c8≤b
  t:z.t≤t
  n:z.n≤n
  g:eP= .any∨∃G,eP= .on z.c z.seq G∧nO z.G G
structure uY(N b:Int)(eP:rI)(z:wB):Prop where
  k0:z0 N z.d
  e1:0≤z.c8∧z.c8≤b
  g:eP= .any∨∃l a b,eP= .off l∧TW a b∧z.d=ry 256 1000 a b l
abbrev vp(q p:Nat)(z:vo):List (ar B):=[U q (eo p (ag z.bi) (ag z.dc) z.w z.seq z.c8) 116,U z.bi [ag p,ag (z.Q 0),ag (z.Q 1),aa (z.a:Int)] 200,U (z.Q z.a) (bE p (z.ay z.a)) 273,U (z.Q (1-z.a)) (bE p (z.ay (1-z.a))) 273,U p (bH z.d) 196,cu z.d,fM z.d,gB z.c z.y z.bL z.o z.dc z.t z.n z.G,all (fr z.y),all (fr z.bL),all (kR z.o),cR z.w]
abbrev s8(q p:Nat)(z:wB):List (ar B):=[U q (eo p (.pointer none) (.pointer none) z.w z.seq z.c8) 116,U p (bH z.d) 196,cu z.d,fM z.d]
def MC(aB:ar B)(q p:Nat)(N b t:Int)(n:Nat)(eP:rI):ar B:=ex fun z:{z:vo//tT aB N b t n eP z}=>vp q p z.1
def Hw(q p:Nat)(N b:Int)(eP:rI):ar B:=ex fun z:{z:wB//uY N b eP z}=>s8 q p z.1
def ks(aB:ar B)(q p:Nat)(N b t:Int)(n:Nat)(eP:rI):ar B:=ex fun x:Bool=>if x=true then [MC aB q p N b t n eP]else [Hw q p N b eP]
section
variable{aB:ar B}{q p:Nat}{N b t:Int}{n:Nat}{eP l6:rI}{S R:List (ar B)}
theorem KK(z:vo)(h:tT aB N b t n eP z)(k:Take (vp q p z) S R):gK S (ks aB q p N b t n eP::R):=
  gK.trans (pq (F:=fun z:{z:vo//tT aB N b t n eP z}=>vp q p z.1) ⟨z,h⟩ k) (pq (F:=fun x:Bool=>if x=true then [MC aB q p N b t n eP]else [Hw q p N b eP]) true (.cons (.here _ _) (.nil _)))
theorem CZ(z:wB)(h:uY N b eP z)(k:Take (s8 q p z) S R):gK S (ks aB q p N b t n eP::R):=
  gK.trans (pq (F:=fun z:{z:wB//uY N b eP z}=>s8 q p z.1) ⟨z,h⟩ k) (pq (F:=fun x:Bool=>if x=true then [MC aB q p N b t n eP]else [Hw q p N b eP]) false (.cons (.here _ _) (.nil _)))
theorem KL{f:FuncId}{args:List Value}{pre:List (ar B)}{post:Value→List (ar B)→Prop}(ab:∀z,tT aB N b t n eP z→a6 B f args (vp q p z++pre) post)(ae:∀z,uY N b eP z→a6 B f args (s8 q p z++pre) post):a6 B f args (ks aB q p N b t n eP::pre) post:=by
 refine ox fun x=>?_
 cases x with
 |true=>exact ox (F:=fun z:{z:vo//tT aB N b t n eP z}=>vp q p z.1) fun z=>ab z.1 z.2
 |false=>exact ox (F:=fun z:{z:wB//uY N b eP z}=>s8 q p z.1) fun z=>ae z.1 z.2
theorem aeT(h1:l6= .any∨∃l c,eP= .off l∧Im l c∧l6= .on c 1#32 (xb c))(z:wB)(aS:uY N b eP z)(oe:N≤700000000)(aR:b≤90000)(bO:hd aB)(aJ:hK aB):a6 B 18 [ag q] (s8 q p z++[aB]) (fun v S=>∃b8:Int,v=aa b8∧S=[ks aB q p (N+1) (b+1) 0 0 l6,aB]):=by
 have kv:=aS.k0.ops
 have o3:=aS.e1
 have key:a6 B 18 [ag q] (s8 q p z++[aB]) (fun v S=>∃(cH co:Value) (j2:an (BitVec 32)) (dW:BitVec 32) (mu hP:ar B),(Di p z.d cH co j2 dW mu∧KF z.d co hP)∧v=aa (nZ z.d)∧S=[U q (eo p cH co j2 dW (z.c8+1)) 116,U p (bH (fc z.d)) 196,cu (fc z.d),fM (fc z.d),mu,hP,aB]):=by
  cases vi:z.d.on with
  |false=>exact abZ q p z.w z.seq z.c8 z.d aS.k0.ok vi ah aS.k0.c0 aS.k0.hw ⟨o3.1,by omega⟩ bO aJ
  |true=>exact acu q p z.w z.seq z.c8 z.d aS.k0.ok vi ah aS.k0.c0 aS.k0.hw ⟨o3.1,by omega⟩ bO aJ
 have gJ:=ZX aS.k0.ok ah
 have EM:z0 (N+1) (fc z.d):=aS.k0.Fg gJ
 have vB:l6= .any∨∃l c,oC z.d=some 0∧nZ z.d=0∧ix z.d 0=⟨0,1#32,false,l⟩∧lg l=some c∧l6= .on c 1#32 (xb c):=by
  rcases h1 with h|⟨l,c,ab,ae,av⟩
  ·exact .inl h
  rcases aS.g with h|⟨cQ,a,aK,a1,a3,bI⟩
  ·rw [ab]at h;cases h
  rw [ab]at a1;cases a1
  have:=ae.b a aK a3
  exact .inr ⟨l,c,by rw [bI];exact this.1,by rw [bI];exact this.2.1,by rw [bI];exact this.2.2,ae.d,av⟩
 clear h1
 refine j9 key ?_
 rintro v S ⟨cH,co,j2,dW,mu,hP,⟨h1,Ey⟩,rfl,rfl⟩
 by_cases he:nZ z.d=0
 ·obtain⟨bi,Q,dc,j,aI,rfl,jg,BH,MD,H0,rfl⟩:=h1.on he
  obtain⟨B9,c,lz,ME,qz⟩:=Ey he
  have a5:kx c=0:=by
   have ab:mD (ix z.d B9).l=true:=List.find?_some (p:=fun j=>mD (ix z.d j).l) lz
   unfold mD at ab
   rw [ME]at ab
   exact of_decide_eq_true ab
  obtain⟨Vj,y,bL,o,aC,fz,qC⟩:=acv bO aJ qz a5
  obtain rfl:Vj=dc:=by rw [jg]at aC;cases aC;rfl
  subst jg
  have agK:=(Jw aI).1
  have aie:l6= .any∨∃G,l6= .on c dW G∧nO (xb c) G:=by
   rcases vB with h|⟨l,eF,ab,ae,av,aV,bN⟩
   ·exact .inl h
   obtain rfl:j=0:=by rw [ab]at aI;cases aI;rfl
   obtain rfl:B9=0:=by have:oC z.d=some B9:=lz;rw [ab]at this;cases this;rfl
   rw [av]at ME H0
   obtain rfl:eF=c:=by have:lg l=some c:=ME;rw [aV]at this;cases this;rfl
   exact .inr ⟨_,by rw [bN,show dW=1#32 from H0],nO.rfl'⟩
  have gu:∀i,i<2→dK (fc z.d) (dE z.d i):=fun i af=>gJ.lK (CV (by have:=aS.k0.c0;show 3≤z.d.b.l.length/2;omega) af (by show z.d.b.l.length/2*2≤z.d.b.l.length;omega) aS.k0.hw)
  refine⟨_,[ks aB q p (N+1) (b+1) 0 0 l6,aB],[],?_,Take.self _,_,rfl,rfl⟩
  refine gK.trans (qC _ _ (by repeat first|with_reducible exact .here _ _|with_reducible apply Out.there)) ?_
  refine gK.trans (Ge (l:=TK bi p Q z.d j (j:Int) j2) (.cons (by repeat first|with_reducible exact .here _ _|with_reducible apply Out.there) (.nil _))) ?_
  refine bP ?_
  exact KK ⟨bi,Vj,Q,j2,dW,z.c8+1,fc z.d,dE z.d,j,c,y,bL,o,0,0,xb c⟩ ⟨EM,gu,agK,fz,MD,by show j2.l.length≤_;rw [BH];exact YG _ _ _,⟨by show 0≤z.c8+1;omega,by show z.c8+1≤_;omega⟩,Int.le_refl _,Nat.le_refl _,aie⟩ cd
 obtain⟨rfl,rfl⟩:=h1.off he
 exact⟨[ks aB q p (N+1) (b+1) 0 0 l6,mu,hP,aB],[ks aB q p (N+1) (b+1) 0 0 l6,aB],[mu,hP],CZ (N:=N+1) (b:=b+1) ⟨j2,dW,z.c8+1,fc z.d⟩ ⟨EM,⟨by show 0≤z.c8+1;omega,by show z.c8+1≤b+1;omega⟩,.inl (vB.resolve_right fun⟨_,_,_,q,_⟩=>he q)⟩ cd,.cons (.here _ _) (.cons (.there _ (.there _ (.here _ _))) (.nil _)),_,rfl,rfl⟩
theorem uY.up{z:wB}(h:uY N b eP z){yC aK:Int}(ab:N≤yC)(ae:b≤aK):uY yC aK eP z:=⟨⟨h.k0.ok,Int.le_trans h.k0.ops ab,h.k0.c0,h.k0.hw⟩,⟨h.e1.1,Int.le_trans h.e1.2 ae⟩,h.g⟩
theorem tT.up{z:vo}(h:tT aB N b t n eP z){yC aK t2:Int}{hV:Nat}(ab:N≤yC)(ae:b≤aK)(av:t≤t2)(aV:n≤hV):tT aB yC aK t2 hV eP z:=⟨⟨h.k0.ok,Int.le_trans h.k0.ops ab,h.k0.c0,h.k0.hw⟩,h.er,h.a,h.co,h.IF,h.wl,⟨h.e1.1,Int.le_trans h.e1.2 ae⟩,Int.le_trans h.t av,Nat.le_trans h.n aV,h.g⟩
theorem acz{yC aK t2:Int}{hV:Nat}(ab:N≤yC)(ae:b≤aK)(av:t≤t2)(aV:n≤hV)(o:Out (ks aB q p N b t n eP) S R):gK S (ks aB q p yC aK t2 hV eP::R):=fun D w k=>by
  obtain⟨dm,dY,e,aJ,⟨x,e2⟩,cD⟩:=(Take.cons o (.nil _)).mP k
  cases x with
  |true=>
    obtain⟨jk,jB,cq,o6,⟨z,kp⟩,od⟩:=e2
    exact⟨dm,dY,e,aJ,⟨true,⟨jk,jB,cq,o6,⟨⟨z.1,z.2.up ab ae av aV⟩,kp⟩,od⟩⟩,cD⟩
  |false=>
    obtain⟨jk,jB,cq,o6,⟨z,kp⟩,od⟩:=e2
    exact⟨dm,dY,e,aJ,⟨false,⟨jk,jB,cq,o6,⟨⟨z.1,z.2.up ab ae⟩,kp⟩,od⟩⟩,cD⟩
theorem sh.le{c:ck}{cT c4 cs:Int}{l:List dt}{G VR hp:jR}(h:nO G VR)(k:sh c cT c4 cs l VR hp):sh c cT c4 cs l G hp:=
  ⟨fun q=>by
    obtain⟨qR,rfl,ab,ae⟩:=k.dg q
    refine⟨fun i=>match i with|0=>G|i+1=>qR (i+1),rfl,fun i af=>?_,fun i af=>?_⟩
    · cases i with
      |zero=>exact fun e s f cy bR=>ab 0 af e s f cy (h _ _ _ bR)
      |succ i=>exact ab (i+1) af
    cases i with
    |zero=>exact fun e s f q=>ae 0 af e s f (h _ _ _ q)
    |succ i=>exact ae (i+1) af,
   fun cy bR gD e s f q=>k.tk cy bR gD e s f (h _ _ _ q),fun q e s f s2 f2 cy bR=>k.of q e s f s2 f2 cy (h _ _ _ bR),fun q e s f cy bR=>k.ma q e s f cy (h _ _ _ bR)⟩
theorem u7.aif{cT c4 cs:Int}{l:List dt}{c:ck}{dW:BitVec 32}{Cc:jR}(h:u7 eP cT c4 cs l l6)(bl:eP= .any∨∃G,eP= .on c dW G∧nO Cc G):∃il,sh c cT c4 cs l Cc il∧(l6= .any∨(l6= .on c dW il∧1≤cT∧cT≤3)):=by
  cases h with
  |any=>exact⟨IE,sh.top,.inl rfl⟩
  |on ab ae=>
    obtain⟨G,av,aV⟩:=bl.resolve_left (by intro q;cases q)
    cases av
    exact⟨_,ab.le aV,.inr ⟨rfl,ae⟩⟩
  |LP ab=>
    obtain⟨G,av,aV⟩:=bl.resolve_left (by intro q;cases q)
    cases av
theorem u7.agL{cT c4 cs:Int}{l:List dt}{P:Prop}(h:u7 eP cT c4 cs l l6)(bl:eP= .any∨∃l,eP= .off l):(l6= .any∨∃l c,eP= .off l∧Im l c∧l6= .on c 1#32 (xb c))∧(cT≠15→l6= .any):=by
  cases h with
  |any=>exact⟨.inl rfl,fun _=>rfl⟩
  |on ab ae=>rcases bl with q|⟨_,q⟩<;>cases q
  |LP ab=>exact⟨.inr ⟨_,_,rfl,ab,rfl⟩,fun q=>absurd rfl q⟩
theorem aih{fV hq:ar B}(oe:N≤690000000)(aR:b≤90000)(aL:t<89000000)(aP:n=0)(b5:0≤t)(bO:hd aB)(aJ:hK aB)(cT c4 cs:Int)(bA:an dt)(oa:dI fV bA.bu (bA.l.flatMap gq))(cQ:an (BitVec 32))(qy:dI hq cQ.bu (cQ.l.flatMap dh))(ys:c4≤9223372036854775807)(yy:u7 eP cT c4 cs bA.l l6):a6 B 20 [ag q,.agg #[aa cT,aa c4,aa cs,az bA,az cQ]] [ks aB q p N b t n eP,aB,fV,hq] (fun v S=>∃b8 r:Int,v= .agg #[aa b8,aa r]∧S=[ks aB q p (N+5000) (b+1) (t+4096) 10000000 l6,aB,fV,hq]):=by
 subst aP
 refine KL (fun z aS=>?_) (fun z aS=>?_)
 ·have kv:=aS.k0.ops
  have MF:=aS.t
  obtain⟨bi,dc,Q,w,seq,c8,d,ay,a,c,y,bL,o,t1,et,Cc⟩:=z
  have mn:et=0:=Nat.le_zero.1 aS.n
  subst mn
  obtain⟨il,dj,ya⟩:=yy.aif aS.g
  show di _ _ _ _ [U q (eo p (ag bi) (ag dc) w seq c8) 116,U bi [ag p,ag (Q 0),ag (Q 1),aa (a:Int)] 200,U (Q a) (bE p (ay a)) 273,U (Q (1-a)) (bE p (ay (1-a))) 273,U p (bH d) 196,cu d,fM d,gB c y bL o dc t1 0 Cc,all (fr y),all (fr bL),all (kR o),cR w,aB,fV,hq] _
  refine p6 (pre:=[U q (eo p (ag bi) (ag dc) w seq c8) 116,U bi [ag p,ag (Q 0),ag (Q 1),aa (a:Int)] 200,U (Q a) (bE p (ay a)) 273,U (Q (1-a)) (bE p (ay (1-a))) 273,U p (bH d) 196,cu d,fM d,gB c y bL o dc t1 0 Cc,all (fr y),all (fr bL),all (kR o),aB,fV,hq]++[cR w]) ?_ (ov (L:=[U q (eo p (ag bi) (ag dc) w seq c8) 116,U bi [ag p,ag (Q 0),ag (Q 1),aa (a:Int)] 200,U (Q a) (bE p (ay a)) 273,U (Q (1-a)) (bE p (ay (1-a))) 273,U p (bH d) 196,cu d,fM d,gB c y bL o dc t1 0 Cc,all (fr y),all (fr bL),all (kR o),aB,fV,hq,cR w]) (R:=[]) cd)
  refine j9 (di.frame (aeS q p bi dc Q w seq c8 d aS.k0.ok ay aS.er a aS.a (by have:d.ops≤N:=kv;omega) aS.co t1 (by have:t1≤t:=MF;omega) cT c4 cs bA oa cQ qy dj ys) _) ?_
  rintro v S ⟨aU,rfl,b8,r,t2,hV,d2,kr,cq,vC,⟨a1,a3,bI,cv,eX,mY,E6⟩,rfl,rfl⟩
  refine bP ?_
  have fJ:=acy bI cq
  have MF:t1≤t:=MF
  have o3:0≤c8∧c8≤b:=aS.e1
  have EM:z0 (N+5000) (n4 d2 cq):=aS.k0.Fg fJ
  have l3:∀k:b7,dK d2 k→dK (n4 d2 cq) k:=fun k ai=>ai.same (by rw [fJ.w,bI.w]) (by rw [fJ.b,bI.b])
  by_cases he:cq=63
  ·subst he
   refine⟨_,[ks aB q p (N+5000) (b+1) (t+4096) 10000000 l6,aB,fV,hq],_,CZ (N:=N+5000) (b:=b+1) (t:=t+4096) (n:=10000000) (aB:=aB) (R:=[U bi [ag p,ag (Q 0),ag (Q 1),aa (a:Int)] 200,U (Q a) (bE p (ay a)) 273,U (Q (1-a)) (bE p kr) 273,gB c y bL o dc t2 hV vC,all (fr y),all (fr bL),all (kR o),aB,fV,hq,cR w]) ⟨w,seq,c8,n4 d2 63⟩ ⟨EM,⟨o3.1,by show c8≤b+1;omega⟩,.inl (ya.resolve_right fun q=>absurd (E6 q.2.1 q.2.2) b2)⟩ cd,cd,b8,r,rfl,rfl⟩
  have cb:∀x,wy cq x=ag x:=fun x=>if_neg he
  rw [cb,cb]
  have a5:=aS.a
  have gu:∀i,i<2→dK (n4 d2 cq) (bz ay (1-a) kr i):=fun i af=>by
   by_cases q:i=1-a
   ·rw [q,e4];exact l3 _ cv
   rw [fG _ _ q];have:i=a:=by have:a<2:=a5;omega
   rw [this];exact l3 _ eX
  have ai3:bz ay (1-a) kr a=ay a:=fG _ _ (by have:a<2:=a5;omega)
  have ai4:bz ay (1-a) kr (1-a)=kr:=e4 _ _ _
  rw [←ai3]
  conv=>arg 1;intro aU;arg 1;intro bc;arg 1;intro R;arg 1;rw [show U (Q (1-a)) (bE p kr) 273=(U (Q (1-a)) (bE p (bz ay (1-a) kr (1-a))) 273:ar B)by rw [ai4]]
  refine⟨_,[ks aB q p (N+5000) (b+1) (t+4096) 10000000 l6,aB,fV,hq],_,KK (N:=N+5000) (b:=b+1) (t:=t+4096) (n:=10000000) (R:=[aB,fV,hq]) ⟨bi,dc,Q,w,seq,c8,n4 d2 cq,bz ay (1-a) kr,a,c,y,bL,o,t2,hV,vC⟩ ⟨EM,gu,a5,aS.co,aS.IF,aS.wl,⟨o3.1,by show c8≤b+1;omega⟩,by show t2≤t+4096;omega,a3,ya.imp id fun q=>⟨_,q.1,mY⟩⟩ cd,Take.self _,b8,r,rfl,rfl⟩
 have Vk:=yy.agL (P:=True) (aS.g.imp id fun⟨l,_,_,q,_⟩=>⟨l,q⟩)
 have tU:=aeT (q:=q) (p:=p) Vk.1 z aS ah aR bO aJ
 refine j9 (acx (fV:=fV) (hq:=hq) q p z.w z.seq z.c8 z.d aS.k0.ok tU cT c4 cs bA cQ ys) ?_
 have o3:=aS.e1
 rintro v S ⟨b8,r,rfl,rfl|⟨d2,⟨gJ,Io⟩,rfl⟩⟩
 ·exact⟨_,[ks aB q p (N+5000) (b+1) (t+4096) 10000000 l6,aB,fV,hq],[],acz ah (Int.le_refl _) ah ah (.here _ _),Take.self _,b8,r,rfl,rfl⟩
 exact⟨_,[ks aB q p (N+5000) (b+1) (t+4096) 10000000 l6,aB,fV,hq],[],CZ (N:=N+5000) (b:=b+1) (t:=t+4096) (n:=10000000) (R:=[aB,fV,hq]) ⟨z.w,z.seq,z.c8,d2⟩ ⟨aS.k0.Fg gJ,⟨o3.1,by show z.c8≤b+1;omega⟩,.inl (Vk.2 Io)⟩ cd,Take.self _,b8,r,rfl,rfl⟩
end
end
end Go.Proofs.YtkpibibplbjciaaGreatDoor
