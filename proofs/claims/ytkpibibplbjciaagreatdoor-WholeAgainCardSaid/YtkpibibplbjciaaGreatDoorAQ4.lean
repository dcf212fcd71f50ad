/- A part of the proof of WholeAgain: it hangs on nothing beside the given files. -/
import Derived.Test.YtkpibibplbjciaaGreatDoorAQ3
set_option linter.unusedVariables false
set_option linter.unusedSectionVars false
set_option linter.unusedSimpArgs false
namespace Go.Proofs.YtkpibibplbjciaaGreatDoor
open Go Go.Sl
set_option maxRecDepth 4000
variable {B : Nat} {K : ao B}
theorem CA{s:b4}{j:fy}(h:j.id<0∨j.id≥16∨j.done≥j.cost):ow s j=100:=by unfold ow;rw [if_pos h]
theorem Lw{s:b4}{j:fy}(h:¬(j.id<0∨j.id≥16∨j.done≥j.cost))(aJ:hasB s.live j.id=true):ow s j=242:=by unfold ow;rw [if_neg h,if_pos aJ]
theorem Ni{s:b4}{j:fy}(h:¬(j.id<0∨j.id≥16∨j.done≥j.cost))(aJ:hasB s.live j.id=false):ow s j=0:=by unfold ow;rw [if_neg h,if_neg (by rw [aJ];decide)]
theorem zF{s:b4}{j:fy}{a:ai fv}(h:ow s j≠0):nl s j a=s:=by unfold nl;rw [if_neg h]
theorem zG{s:b4}{j:fy}{a:ai fv}(h:ow s j=0):nl s j a=⟨bF s.aF j.id.toNat {j with cT:=a},s.live|||ep j.id,kX s.r j.id (nj s.cY j.id j.done a.l),s.cY,s.now⟩:=by unfold nl;rw [if_pos h]
theorem VX{j:fy}(ab:0≤oC j.cT.l j.done)(af:hold j.cT.l j.done<0):oC j.cT.l j.done=jw j:=by unfold jw;rw [if_pos ⟨ab,af⟩]
theorem Mo{j:fy}(h:¬(0≤oC j.cT.l j.done∧hold j.cT.l j.done<0)): -1=jw j:=by unfold jw;rw [if_neg h]
theorem VY{j:fy}(ab:0≤oC j.cT.l j.done)(af:hold j.cT.l (min (j.done+1) j.cost)<0):oC j.cT.l j.done=lu j:=by unfold lu;rw [if_pos ⟨ab,af⟩]
theorem Mp{j:fy}(h:¬(0≤oC j.cT.l j.done∧hold j.cT.l (min (j.done+1) j.cost)<0)): -1=lu j:=by unfold lu;rw [if_neg h]
theorem SB(c:Nat)(s:b4){je:ao B}(j:fy)(aY:c1 je j.cT.bl (j.cT.l.flatMap jk))(wO:j.cT.Own)(sl:j.cT.l.length≤1000)(bg:fP s)(bc:dL K):aS B 147 [ag c,j.v] [aa c (cp s) 260,many 16 (cX s.aF),je,K] (fun v S=>∃a:ai fv,(a.l=j.cT.l∧a.Own∧v=U (ow s j))∧S=[aa c (cp (nl s j a)) 260,many 16 (cX (nl s j a).aF),je,K]):=by
 refine dn 50 Tryz.func147 fun a4 ax=>?_
 refine hy jk 135 3 ?_
 refine ah ?_
 refine fe (au:=jy j) fun ay=>?_
 refine cC ?_ ?_<;>intro ab
 ·have he:=CA (s:=s) (j:=j) al
  exact⟨[aa c (cp s) 260,many 16 (cX s.aF),je,K],⟨j.cT,⟨rfl,wO,by rw [he]⟩,by rw [zF al]⟩,_,bq⟩
 refine li ?_ ?_<;>intro af
 ·refine ah ?_
  have he:=CA (s:=s) (j:=j) al
  exact⟨[aa c (cp s) 260,many 16 (cX s.aF),je,K],⟨j.cT,⟨rfl,wO,by rw [he]⟩,by rw [zF al]⟩,_,bq⟩
 refine cM (jy j) ?_
 refine fL (Nd j.id j.rel j.ij j.cost j.done j.cT) ?_
 refine aT ?_ ?_<;>intro az
 ·have he:=CA (s:=s) (j:=j) al
  exact⟨[aa c (cp s) 260,many 16 (cX s.aF),je,K],⟨j.cT,⟨rfl,wO,by rw [he]⟩,by rw [zF al]⟩,_,bq⟩
 refine c8 _ ae (Take.self _) ?_
 refine aN [0,1,2] ?_
 refine bs 3 rfl (fm rfl ar ae (zq _)) ?_
 refine aN [4,5,106] ?_
 refine gu (re s.live j.id) ?_
 refine c7 [7,99] ?_
 refine aT ?_ ?_<;>intro a5
 ·have he:=Lw (s:=s) (j:=j) al a5
  exact⟨[aa c (cp s) 260,many 16 (cX s.aF),je,K],⟨j.cT,⟨rfl,wO,by rw [he]⟩,by rw [zF al]⟩,_,bq⟩
 obtain⟨k,aj⟩:=Int.eq_ofNat_of_zero_le (a:=j.id) al
 have j6:k<16:=by omega
 have he:ow s j=0:=Ni al a5
 refine ah ?_
 refine ma (aW:=jk) (c:=(ai.bG:ai fv)) (b:=j.cT) .no rfl rfl ae ar ar (aY) (fun _=>rfl) (fun _=>rfl) (by show 0+j.cT.l.length≤_;omega) (by show(0+j.cT.l.length)*_≤_;omega) rfl (fun a aO bT=>?_)
 replace aO:a.l=j.cT.l:=aO
 refine ah ?_
 refine c8 _ ae (Take.self _) ?_
 refine aN [0,1,2] ?_
 refine bs 3 rfl (dw (bx:=jy {j with cT:=a}) rfl ar ae rfl (by rfl)) ?_
 refine aN [4,5] ?_
 refine cy 6 rfl (m5 rfl rfl ae aj al rfl) ?_
 refine aN [107] ?_
 refine lC rfl dr (zR (k:=0+k*6) (n:=6) (fN:=cp ⟨bF s.aF k {j with cT:=a},s.live,s.r,s.cY,s.now⟩) rfl rfl (by intro u hu;simp at hu;rcases hu with rfl|rfl|rfl|rfl|rfl|rfl<;>rfl) (by with_reducible repeat first|exact .here _ _|apply Out.there|apply Out.fu) ae rfl (by rw [q0];exact Nat.ble_eq_true_of_le (by omega)) (RN s j6 {j with cT:=a})) ?_
 refine c7 [99] ?_
 refine c8 _ ae (Take.self _) ?_
 refine aN [0,1,2,3] ?_
 refine bs 4 rfl (fm rfl ar ae (zq _)) ?_
 refine aN [5,6,107] ?_
 refine gu (s0 s.live j.id) ?_
 refine cy 8 rfl (qh rfl) ?_
 refine cy 9 rfl (sB ae) ?_
 refine rC 10 ?_
 refine lC rfl dr (iG (k:=96) (fN:=cp ⟨bF s.aF k {j with cT:=a},s.live|||ep j.id,s.r,s.cY,s.now⟩) rfl rfl rfl ar ae (Dk _ (by omega)) (JD ⟨bF s.aF k {j with cT:=a},s.live,s.r,s.cY,s.now⟩ _)) ?_
 refine aN [99] ?_
 refine gK ?_
 refine cM (jy {j with cT:=a}) ?_
 refine dA (Hh c ⟨bF s.aF k {j with cT:=a},s.live|||ep j.id,s.r,s.cY,s.now⟩ (je:=cr a 135 3 jk) {j with cT:=a} (eh bT rfl) bg.cY bg.r (by show 0≤j.id∧j.id<16;omega) bc) ?_
 refine QN (d:=k) j6 aC ?_
 refine QZ (G:=GM {j with cT:=a}) j6 aC ?_
 rw [SA]
 refine ah ?_
 exact bI ⟨a,⟨aO,bT,by rw [he]⟩,by rw [zG he,show j.id.toNat=k by omega]⟩
theorem X6(c:Nat)(s:b4)(bg:fP s)(bc:dL K):aS B 212 [ag c] [aa c (cp s) 260,many 16 (cX s.aF),K] (fun v S=>v= .agg (nk (dm s).2).toArray∧S=[aa c (cp ((dm s).1)) 260,many 16 (cX (dm s).1.aF),K]):=by
 refine dn 106 Tryz.func212 fun a4 ax=>?_
 have r4:=bg.now
 refine ah ?_
 refine da fun ay=>?_
 refine sj (Mm c 260 (pY s) (qv s) (ql s) s.r bg.r bc) ?_
 refine ct ?_
 refine bH (U (iC s.r).1) ?_
 refine bH (.bool (iC s.r).2) ?_
 refine kZ ?_
 refine aA (fm rfl ar ae (CZ _)) ?_
 refine gD ?_
 refine fw (iG (k:=139) (fN:=cp ⟨s.aF,s.live,s.r,s.cY,s.now+1⟩) rfl rfl rfl ar ae (Dk s al) (RL s _)) ?_
 refine ah ?_
 refine aT ?_ ?_<;>intro ab
 ·have tv:=FT ab
  refine ah ?_
  refine cc (.nil _) (gA rfl rfl ar ae (by rfl)) ?_
  exact bI ⟨by rw [tv],by rw [tv]⟩
 obtain⟨k,j6,DT,aj⟩:=Ra bg ab
 obtain⟨aec,p6,acb,HV,aed,aee,aef,aeg⟩:=bg.live k DT
 rw [aj]
 refine ah ?_
 refine da fun aM=>?_
 refine c8 [aa c (cp (⟨s.aF,s.live,s.r,s.cY,s.now+1⟩:b4)) 260,many 16 (cX s.aF)] ae aC ?_
 refine aN [0,1] ?_
 refine bs 2 rfl (dw (bx:=jy (s.aF k)) rfl (by with_reducible repeat first|exact .here _ _|apply Out.there|apply Out.fu) ae (by rw [q0];exact Nat.ble_eq_true_of_le al) (vP ⟨s.aF,s.live,s.r,s.cY,s.now+1⟩ j6)) ?_
 refine aN [4,5] ?_
 refine bs 6 rfl (dw (bx:=jy (s.aF k)) rfl (by with_reducible repeat first|exact .here _ _|apply Out.there|apply Out.fu) ae (by rw [q0];exact Nat.ble_eq_true_of_le al) (vP ⟨s.aF,s.live,s.r,s.cY,s.now+1⟩ j6)) ?_
 refine ky 3 (GN (je:=many 16 (cX s.aF)) (s.aF k) (zn j6 (eh (bg.own k j6) rfl))) ?_
 refine ky 7 (X3 (je:=many 16 (cX s.aF)) (s.aF k) (zn j6 (eh (bg.own k j6) rfl))) ?_
 refine aN [8,9,99] ?_
 refine ct ?_
 refine k5 (α:=Unit) (fun _=>True) (fun _=>[(0,ag c),(2,ag ay),(3,U (k:Int)),(5,.pointer (some ⟨c,0+k*6,none⟩)),(6,ag aM),(7,U (hold (s.aF k).cT.l (s.aF k).done)),(8,U (oC (s.aF k).cT.l (s.aF k).done))]) (fun _=>[aa ay [U 0,U 0,U 0,.bool false,U 0,.bool false] 300,aa aM [U (k:Int),U (jw (s.aF k)),U (-1),.bool false,U 0,.bool false] 300,aa c (cp (⟨s.aF,s.live,s.r,s.cY,s.now+1⟩:b4)) 260,many 16 (cX s.aF),K]) ?_ ?_
 ·skip
  refine ah ?_
  refine cC ?_ ?_<;>intro af
  ·refine aT ?_ ?_<;>intro az
   ·rw [show(aa aM [U (k:Int),U (oC (s.aF k).cT.l (s.aF k).done),U (-1),.bool false,U 0,.bool false] 300:ao B)=aa aM [U (k:Int),U (jw (s.aF k)),U (-1),.bool false,U 0,.bool false] 300 from by rw [VX al al]]
    exact fj () trivial
   rw [show(aa aM [U (k:Int),U (-1),U (-1),.bool false,U 0,.bool false] 300:ao B)=aa aM [U (k:Int),U (jw (s.aF k)),U (-1),.bool false,U 0,.bool false] 300 from by rw [show jw (s.aF k)= -1 from(Mo al).symm]]
   exact fj () trivial
  rw [show(aa aM [U (k:Int),U (-1),U (-1),.bool false,U 0,.bool false] 300:ao B)=aa aM [U (k:Int),U (jw (s.aF k)),U (-1),.bool false,U 0,.bool false] 300 from by rw [show jw (s.aF k)= -1 from(Mo al).symm]]
  exact fj () trivial
 rintro _ _
 refine ah ?_
 refine dA (X5 c ⟨s.aF,s.live,s.r,s.cY,s.now+1⟩ k j6 acb HV) ?_
 refine gD ?_
 refine k5 (α:=Unit) (fun _=>True) (fun _=>[(0,ag c),(2,ag ay),(3,U (k:Int)),(5,.pointer (some ⟨c,0+k*6,none⟩)),(6,ag aM)]) (fun _=>[aa ay [U 0,U 0,U 0,.bool false,U 0,.bool false] 300,aa aM [U (k:Int),U (jw (s.aF k)),U (lu (s.aF k)),.bool (decide (min ((s.aF k).done+1) (s.aF k).cost≥(s.aF k).cost)),U 0,.bool false] 300,aa c (cp (⟨bF s.aF k (fT (s.aF k)),s.live,s.r,s.cY,s.now+1⟩:b4)) 260,many 16 (cX s.aF),K]) ?_ ?_
 ·skip
  refine ah ?_
  refine li ?_ ?_<;>intro a5
  ·refine dW ?_
   refine aA (dw (bx:=jy (fT (s.aF k))) rfl (by with_reducible repeat first|exact .here _ _|apply Out.there|apply Out.fu) ae (by rw [q0];exact Nat.ble_eq_true_of_le al) ((vP ⟨bF s.aF k (fT (s.aF k)),s.live,s.r,s.cY,s.now+1⟩ j6).trans (by show jy (bF s.aF k (fT (s.aF k)) k)=_;rw [e8]))) (hw:=(.yes 54 rfl rfl rfl)) ?_
   refine nB (GN (je:=many 16 (cX s.aF)) (fT (s.aF k)) (zn j6 (eh (bg.own k j6) rfl))) ?_
   refine aT ?_ ?_<;>intro cd
   ·rw [show(aa aM [U (k:Int),U (jw (s.aF k)),U (oC (s.aF k).cT.l (s.aF k).done),.bool (decide (min ((s.aF k).done+1) (s.aF k).cost≥(s.aF k).cost)),U 0,.bool false] 300:ao B)=aa aM [U (k:Int),U (jw (s.aF k)),U (lu (s.aF k)),.bool (decide (min ((s.aF k).done+1) (s.aF k).cost≥(s.aF k).cost)),U 0,.bool false] 300 from by rw [VY al cd]]
    exact fj () trivial
   rw [show(aa aM [U (k:Int),U (jw (s.aF k)),U (-1),.bool (decide (min ((s.aF k).done+1) (s.aF k).cost≥(s.aF k).cost)),U 0,.bool false] 300:ao B)=aa aM [U (k:Int),U (jw (s.aF k)),U (lu (s.aF k)),.bool (decide (min ((s.aF k).done+1) (s.aF k).cost≥(s.aF k).cost)),U 0,.bool false] 300 from by rw [show lu (s.aF k)= -1 from(Mp (fun g=>absurd g.2 (Int.not_lt.2 cd))).symm]]
   exact fj () trivial
  refine ah ?_
  rw [show(aa aM [U (k:Int),U (jw (s.aF k)),U (-1),.bool (decide (min ((s.aF k).done+1) (s.aF k).cost≥(s.aF k).cost)),U 0,.bool false] 300:ao B)=aa aM [U (k:Int),U (jw (s.aF k)),U (lu (s.aF k)),.bool (decide (min ((s.aF k).done+1) (s.aF k).cost≥(s.aF k).cost)),U 0,.bool false] 300 from by rw [show lu (s.aF k)= -1 from(Mp al).symm]]
  exact fj () trivial
 rintro _ _
 refine ah ?_
 refine bX ?_ ?_<;>intro c5
 ·have D8:decide (min ((s.aF k).done+1) (s.aF k).cost≥(s.aF k).cost)=false:=by rw [decide_eq_false_iff_not];omega
  rw [D8]
  refine dZ ?_
  refine fl ?_
  refine aA (dh rfl) ?_
  refine aA (dh rfl) ?_
  refine aA (rO rfl) ?_
  refine aA (dw (bx:=jy (fT (s.aF k))) rfl (by with_reducible repeat first|exact .here _ _|apply Out.there|apply Out.fu) ae (by rw [q0];exact Nat.ble_eq_true_of_le al) ((vP ⟨bF s.aF k (fT (s.aF k)),s.live,s.r,s.cY,s.now+1⟩ j6).trans (by show jy (bF s.aF k (fT (s.aF k)) k)=_;rw [e8]))) ?_
  refine dA (Hh c ⟨bF s.aF k (fT (s.aF k)),s.live,s.r,s.cY,s.now+1⟩ (je:=many 16 (cX s.aF)) (fT (s.aF k)) (zn j6 (eh (bg.own k j6) rfl)) bg.cY bg.r (by show 0≤(s.aF k).id∧(s.aF k).id<16;omega) bc) ?_
  rw [←J0 s.aF k (min ((s.aF k).done+1) (s.aF k).cost)]
  refine gD ?_
  refine cM (nk ⟨(k:Int),jw (s.aF k),lu (s.aF k),false,0,false⟩) ?_
  refine ah ?_
  refine cc (.nil _) (gA rfl rfl ar ae (by rfl)) ?_
  exact bI ⟨by rw [Cz ab aj al],by rw [Cz ab aj al]⟩
 have D8:decide (min ((s.aF k).done+1) (s.aF k).cost≥(s.aF k).cost)=true:=by rw [decide_eq_true_eq];omega
 rw [D8]
 refine kk ?_
 refine ik ?_
 refine k5 (α:=Unit) (fun _=>True) (fun _=>[(0,ag c),(2,ag ay),(3,U (k:Int)),(5,.pointer (some ⟨c,0+k*6,none⟩)),(6,ag aM)]) (fun _=>[aa ay [U 0,U 0,U 0,.bool false,U 0,.bool false] 300,aa aM [U (k:Int),U (jw (s.aF k)),U (lu (s.aF k)),.bool true,U (s.now+1-(s.aF k).rel),.bool (decide (s.now+1>(s.aF k).ij))] 300,aa c (cp (⟨bF s.aF k (fT (s.aF k)),s.live,s.r,s.cY,s.now+1⟩:b4)) 260,many 16 (cX s.aF),K]) ?_ ?_
 ·skip
  refine ki [aa c (cp (⟨bF s.aF k (fT (s.aF k)),s.live,s.r,s.cY,s.now+1⟩:b4)) 260,many 16 (cX s.aF)] ae aC ?_
  refine aN [0,1,2] ?_
  refine bs 3 rfl (fm (v:=U (s.now+1)) rfl ar ae (CZ ⟨bF s.aF k (fT (s.aF k)),s.live,s.r,s.cY,s.now+1⟩)) ?_
  refine aN [4,5] ?_
  refine cy 6 rfl (xO rfl ae (fU:=0+k*6+1) rfl) ?_
  refine bs 7 rfl (fm rfl ar ae ((C0 ⟨bF s.aF k (fT (s.aF k)),s.live,s.r,s.cY,s.now+1⟩ j6 (k:=1) (v:=U (s.aF k).rel) (by show(jy (bF s.aF k (fT (s.aF k)) k))[1]?=_;rw [e8];rfl)))) ?_
  refine aN [8,9,10] ?_
  refine bs 11 rfl (dw (bx:=jy (fT (s.aF k))) rfl (by with_reducible repeat first|exact .here _ _|apply Out.there|apply Out.fu) ae (by rw [q0];exact Nat.ble_eq_true_of_le al) ((vP ⟨bF s.aF k (fT (s.aF k)),s.live,s.r,s.cY,s.now+1⟩ j6).trans (by show jy (bF s.aF k (fT (s.aF k)) k)=_;rw [e8]))) ?_
  refine aN [12,13,14] ?_
  refine bs 15 rfl (fm (v:=U (s.now+1)) rfl ar ae (CZ ⟨bF s.aF k (fT (s.aF k)),s.live,s.r,s.cY,s.now+1⟩)) ?_
  refine aN [17,116] ?_
  refine gu (X0 _ _ (s.aF k).ij _ _ _ (s.now+1)) ?_
  refine aN [118] ?_
  refine mg rfl .no dr (oB rfl rfl rfl ar ae pH) aC ?_
  refine aN [19,120] ?_
  refine mg rfl .no dr (oB rfl rfl rfl ar ae pH) aC ?_
  refine aN [99] ?_
  exact fj () trivial
 rintro _ _
 refine ho ?_
 refine aA (fm (v:=aI s.live.toNat) rfl ar ae (zq ⟨bF s.aF k (fT (s.aF k)),s.live,s.r,s.cY,s.now+1⟩)) ?_
 refine ah ?_
 refine hD (Ce s.live k) ?_
 refine dW ?_
 refine fw (iG (k:=96) (fN:=cp ⟨bF s.aF k (fT (s.aF k)),s.live&&&~~~(ep (k:Int)),s.r,s.cY,s.now+1⟩) rfl rfl rfl ar ae (Dk _ al) (JD ⟨bF s.aF k (fT (s.aF k)),s.live,s.r,s.cY,s.now+1⟩ _)) ?_
 refine ah ?_
 refine dA (Ng c 260 (pY ⟨bF s.aF k (fT (s.aF k)),s.live&&&~~~(ep (k:Int)),s.r,s.cY,s.now+1⟩) (qv ⟨bF s.aF k (fT (s.aF k)),s.live&&&~~~(ep (k:Int)),s.r,s.cY,s.now+1⟩) (ql _) s.r bg.r (k:Int) bc) ?_
 rw [←J0 s.aF k (min ((s.aF k).done+1) (s.aF k).cost)]
 refine gD ?_
 refine cM (nk ⟨(k:Int),jw (s.aF k),lu (s.aF k),true,s.now+1-(s.aF k).rel,decide (s.now+1>(s.aF k).ij)⟩) ?_
 refine ah ?_
 refine cc (.nil _) (gA rfl rfl ar ae (by rfl)) ?_
 exact bI ⟨by rw [B7 ab aj al],by rw [B7 ab aj al]⟩
structure dG where
  cG:Int
  aG:List (Nat→Int)
  ba:List (BitVec 32×List (Nat→Int))
  a0:List (Nat→Int)
abbrev bQ.c(x:bQ):dG:=⟨x.cG,x.aG.l,x.ba.l.map fun m=>(m.aG,m.q.l),x.a0.l⟩
abbrev nm(e:Nat→Int)(cG:Int)(r:Nat):Prop:=0≤e (3+r)∧e (3+r)≤e 2∧((r:Int)<cG∨e (3+r)=0)
abbrev vX(e:Nat→Int)(cG:Int):Prop:=(1≤e 0∧e 0≤4096∧1≤e 1∧e 1≤e 0∧1≤e 2∧e 2≤e 1)∧∀r,r<8→nm e cG r
def allM:Nat→BitVec 32
  |0=>0#32
  |n+1=>allM n|||ep n
abbrev uQ(q:List (Nat→Int)):Prop:=q.length≤4∧∀y∈q,1≤y 0∧y 0≤16∧1≤y 1∧y 1≤3
def cw(c:dG)(m:Int):BitVec 32:=if m<0 then 0#32 else match c.ba[m.toNat]? with
  |some p=>p.1
  |none=>0#32
def ji(l:List (Nat→Int))(a b:Int):Int×Bool:=match l.findIdx? (fun e=>decide (e 0=a)&&decide (e 1=b))with
  |some i=>((i:Int),true)
  |none=>(0,false)
theorem ET{α:Type}{l:List α}{i:Nat}{y:α}{P:α→Prop}(h:l[i]?=some y)(aZ:P y)(aJ:∀z∈l.take i,P z):∀z∈l.take (i+1),P z:=by
  intro z cq
  rw [List.take_add_one,h]at cq
  rcases List.mem_append.1 cq with q|q
  · exact aJ z q
  · simp at q;subst q;exact aZ
theorem T5{l:List (Nat→Int)}{a b:Int}{i:Nat}{e:Nat→Int}(h:l[i]?=some e)(b0:e 0=a)(ab:e 1=b)(cR:∀z∈l.take i,¬(z 0=a∧z 1=b)):ji l a b=((i:Int),true):=by
 obtain⟨ak,bh⟩:=List.getElem?_eq_some_iff.1 h
 have:l.findIdx? (fun e=>decide (e 0=a)&&decide (e 1=b))=some i:=by
  rw [List.findIdx?_eq_some_iff_getElem]
  refine⟨ak,by simp [bh,b0,ab],fun j aY=>?_⟩
  have:=cR l[j] (by rw [List.mem_take_iff_getElem];exact⟨j,by omega,rfl⟩)
  simp;exact fun q r=>this ⟨q,r⟩
 unfold ji;rw [this]
theorem T6{l:List (Nat→Int)}{a b:Int}(cR:∀z∈l,¬(z 0=a∧z 1=b)):ji l a b=(0,false):=by
  have:l.findIdx? (fun e=>decide (e 0=a)&&decide (e 1=b))=none:=by
    rw [List.findIdx?_eq_none_iff]
    intro z cq
    have:=cR z cq
    simp;exact fun q r=>this ⟨q,r⟩
  unfold ji;rw [this]
theorem X7(e:Nat→Int)(cG:Int):aS B 103 [.agg (cg e).toArray,U cG] [] (fun v S=>v= .bool (decide (vX e cG))∧S=[]):=by
 refine bD 63 Tryz.func103 fun a4 ax=>?_
 refine fe (au:=cg e) fun ay=>?_
 refine cC ?_ ?_<;>intro ab
 ·exact bI ⟨by first|rw [decide_eq_false (fun z=>by have:=z.1;omega)]|rw [decide_eq_false (fun z=>by have:=z.2 r al;unfold nm at this;omega)]|rw [decide_eq_true ⟨by omega,fun j aY=>aJ j al⟩],rfl⟩
 refine cC ?_ ?_<;>intro af
 ·exact bI ⟨by first|rw [decide_eq_false (fun z=>by have:=z.1;omega)]|rw [decide_eq_false (fun z=>by have:=z.2 r al;unfold nm at this;omega)]|rw [decide_eq_true ⟨by omega,fun j aY=>aJ j al⟩],rfl⟩
 refine cC ?_ ?_<;>intro az
 ·exact bI ⟨by first|rw [decide_eq_false (fun z=>by have:=z.1;omega)]|rw [decide_eq_false (fun z=>by have:=z.2 r al;unfold nm at this;omega)]|rw [decide_eq_true ⟨by omega,fun j aY=>aJ j al⟩],rfl⟩
 refine cC ?_ ?_<;>intro a5
 ·exact bI ⟨by first|rw [decide_eq_false (fun z=>by have:=z.1;omega)]|rw [decide_eq_false (fun z=>by have:=z.2 r al;unfold nm at this;omega)]|rw [decide_eq_true ⟨by omega,fun j aY=>aJ j al⟩],rfl⟩
 refine cC ?_ ?_<;>intro cd
 ·exact bI ⟨by first|rw [decide_eq_false (fun z=>by have:=z.1;omega)]|rw [decide_eq_false (fun z=>by have:=z.2 r al;unfold nm at this;omega)]|rw [decide_eq_true ⟨by omega,fun j aY=>aJ j al⟩],rfl⟩
 refine bX ?_ ?_<;>intro c5
 ·refine ah ?_
  exact bI ⟨by first|rw [decide_eq_false (fun z=>by have:=z.1;omega)]|rw [decide_eq_false (fun z=>by have:=z.2 r al;unfold nm at this;omega)]|rw [decide_eq_true ⟨by omega,fun j aY=>aJ j al⟩],rfl⟩
 refine ho ?_
 refine cM (Di e) ?_
 refine ah ?_
 refine dH (α:=Nat) (fun r=>r≤8∧∀j,j<r→nm e cG j) (fun r=>[(41,U (r:Int)),(40,.agg (Di e).toArray),(1,U cG),(2,ag ay)]) (fun r=>[aa ay (cg e) 173]) (fun r=>8-r) 0 ?_ dD aC ?_
 ·exact⟨by omega,fun j h=>by omega⟩
 rintro r ⟨bk,aJ⟩
 refine ah ?_
 refine aT ?_ ?_<;>intro fo
 ·refine aA (uc rfl rfl ae rfl al (E6 al)) ?_
  refine ah ?_
  refine cC ?_ ?_<;>intro gx
  ·exact bI ⟨by first|rw [decide_eq_false (fun z=>by have:=z.1;omega)]|rw [decide_eq_false (fun z=>by have:=z.2 r al;unfold nm at this;omega)]|rw [decide_eq_true ⟨by omega,fun j aY=>aJ j al⟩],rfl⟩
  refine cC ?_ ?_<;>intro jf
  ·exact bI ⟨by first|rw [decide_eq_false (fun z=>by have:=z.1;omega)]|rw [decide_eq_false (fun z=>by have:=z.2 r al;unfold nm at this;omega)]|rw [decide_eq_true ⟨by omega,fun j aY=>aJ j al⟩],rfl⟩
  refine cC ?_ ?_<;>intro iw
  ·refine aT ?_ ?_<;>intro qN
   ·exact bI ⟨by first|rw [decide_eq_false (fun z=>by have:=z.1;omega)]|rw [decide_eq_false (fun z=>by have:=z.2 r al;unfold nm at this;omega)]|rw [decide_eq_true ⟨by omega,fun j aY=>aJ j al⟩],rfl⟩
   exact fX (r+1) ⟨by omega,fun j aY=>by rcases Nat.lt_succ_iff_lt_or_eq.1 aY with q|rfl;exact aJ j q;unfold nm;omega⟩
  exact fX (r+1) ⟨by omega,fun j aY=>by rcases Nat.lt_succ_iff_lt_or_eq.1 aY with q|rfl;exact aJ j q;unfold nm;omega⟩
 exact bI ⟨by first|rw [decide_eq_false (fun z=>by have:=z.1;omega)]|rw [decide_eq_false (fun z=>by have:=z.2 r al;unfold nm at this;omega)]|rw [decide_eq_true ⟨by omega,fun j aY=>aJ j al⟩],rfl⟩
theorem aaa(x:bQ)(av:x.In K):aS B 104 [x.v] [K] (fun v S=>v=aI (allM x.aG.l.length).toNat∧S=[K]):=by
 refine bD 16 Tryz.func104 fun a4 ax=>?_
 refine fe (au:=(bJ x)) fun ay=>?_
 refine dH (α:=Nat) (fun i=>i≤x.aG.l.length) (fun i=>[(8,U (i:Int)),(3,aI (allM i).toNat),(7,U (x.aG.l.length:Int))]) (fun i=>[K]) (fun i=>x.aG.l.length-i) 0 ?_ dD aC ?_
 ·omega
 rintro i ak
 have j9:=x.aG.small
 refine ah ?_
 refine aT ?_ ?_<;>intro ab
 ·refine fL (s0 (allM i) (i:Int)) ?_
  refine fX (i+1) ?_
  omega
 obtain rfl:i=x.aG.l.length:=by omega
 exact bA
theorem T7(q:ai (Nat→Int))(bP:c1 K q.bl (q.l.flatMap kt)):aS B 105 [aw q] [K] (fun v S=>v= .bool (decide (uQ q.l))∧S=[K]):=by
 refine bD 33 Tryz.func105 fun a4 ax=>?_
 refine aT ?_ ?_<;>intro ab
 ·exact bI ⟨by first|rw [decide_eq_false (fun z=>by have:=z.1;omega)]|rw [decide_eq_false (fun z=>by have:=z.2 y (List.mem_of_getElem? bh);omega)]|rw [decide_eq_true ⟨by omega,by rwa [List.take_of_length_le al]at aJ⟩],rfl⟩
 refine dH (α:=Nat) (fun i=>i≤q.l.length∧∀y∈q.l.take i,1≤y 0∧y 0≤16∧1≤y 1∧y 1≤3) (fun i=>[(10,U (i:Int)),(8,aw q),(9,U (q.l.length:Int))]) (fun i=>[K]) (fun i=>q.l.length-i) 0 ?_ dD aC ?_
 ·exact⟨Nat.zero_le _,by simp⟩
 rintro i ⟨ak,aJ⟩
 have AQ:=q.small
 refine ah ?_
 refine aT ?_ ?_<;>intro af
 ·obtain⟨y,bh⟩:∃y,q.l[i]?=some y:=⟨_,List.getElem?_eq_getElem al⟩
  refine ah ?_
  refine aA (hN (aW:=kt) (aH:=2) (i:=i) (fun _=>rfl) rfl ar bP ae bh) ?_
  refine da fun ay=>?_
  refine cC ?_ ?_<;>intro az
  ·exact bI ⟨by first|rw [decide_eq_false (fun z=>by have:=z.1;omega)]|rw [decide_eq_false (fun z=>by have:=z.2 y (List.mem_of_getElem? bh);omega)]|rw [decide_eq_true ⟨by omega,by rwa [List.take_of_length_le al]at aJ⟩],rfl⟩
  refine cC ?_ ?_<;>intro a5
  ·exact bI ⟨by first|rw [decide_eq_false (fun z=>by have:=z.1;omega)]|rw [decide_eq_false (fun z=>by have:=z.2 y (List.mem_of_getElem? bh);omega)]|rw [decide_eq_true ⟨by omega,by rwa [List.take_of_length_le al]at aJ⟩],rfl⟩
  refine cC ?_ ?_<;>intro cd
  ·exact bI ⟨by first|rw [decide_eq_false (fun z=>by have:=z.1;omega)]|rw [decide_eq_false (fun z=>by have:=z.2 y (List.mem_of_getElem? bh);omega)]|rw [decide_eq_true ⟨by omega,by rwa [List.take_of_length_le al]at aJ⟩],rfl⟩
  refine aT ?_ ?_<;>intro c5
  ·exact bI ⟨by first|rw [decide_eq_false (fun z=>by have:=z.1;omega)]|rw [decide_eq_false (fun z=>by have:=z.2 y (List.mem_of_getElem? bh);omega)]|rw [decide_eq_true ⟨by omega,by rwa [List.take_of_length_le al]at aJ⟩],rfl⟩
  exact fX (i+1) ⟨by omega,ET bh ⟨by omega,by omega,by omega,by omega⟩ aJ⟩
 exact bI ⟨by first|rw [decide_eq_false (fun z=>by have:=z.1;omega)]|rw [decide_eq_false (fun z=>by have:=z.2 y (List.mem_of_getElem? bh);omega)]|rw [decide_eq_true ⟨by omega,by rwa [List.take_of_length_le al]at aJ⟩],rfl⟩
theorem sW(x:bQ)(av:x.In K)(n:Int):aS B 122 [x.v,U n] [K] (fun v S=>v=aI (cw x.c n).toNat∧S=[K]):=by
 refine bD 20 Tryz.func122 fun a4 ax=>?_
 refine fe (au:=(bJ x)) fun ay=>?_
 refine cC ?_ ?_<;>intro ab
 ·exact bI ⟨by unfold cw;rw [if_pos al];rfl,rfl⟩
 refine aT ?_ ?_<;>intro af
 ·exact bI ⟨by unfold cw;rw [if_neg al,List.getElem?_eq_none_iff.2 (by simp;omega)];rfl,rfl⟩
 obtain⟨i,rfl⟩:=Int.eq_ofNat_of_zero_le (show 0≤n by omega)
 obtain⟨m,hm⟩:∃m,x.ba.l[i]?=some m:=⟨_,List.getElem?_eq_getElem al⟩
 refine ah ?_
 refine aA (eO (aW:=eI) (aH:=2) (i:=i) (k:=0) (fun _=>rfl) rfl ar av.ba ae hm rfl) ?_
 refine ah ?_
 exact bI ⟨by unfold cw;rw [if_neg al,Int.toNat_natCast,List.getElem?_map,hm];rfl,rfl⟩
theorem C1(x:bQ)(av:x.In K)(a b:Int):aS B 164 [x.v,U a,U b] [K] (fun v S=>v= .tuple #[U (ji x.a0.l a b).1,.bool (ji x.a0.l a b).2]∧S=[K]):=by
 refine bD 30 Tryz.func164 fun a4 ax=>?_
 refine fe (au:=(bJ x)) fun ay=>?_
 refine dH (α:=Nat) (fun i=>i≤x.a0.l.length∧∀z∈x.a0.l.take i,¬(z 0=a∧z 1=b)) (fun i=>[(13,U (i:Int)),(1,U a),(2,U b),(11,aw x.a0),(12,U (x.a0.l.length:Int))]) (fun i=>[K]) (fun i=>x.a0.l.length-i) 0 ?_ dD aC ?_
 ·exact⟨Nat.zero_le _,by simp⟩
 rintro i ⟨ak,aJ⟩
 have j9:=x.a0.small
 refine ah ?_
 refine aT ?_ ?_<;>intro ab
 ·obtain⟨e,bh⟩:∃e,x.a0.l[i]?=some e:=⟨_,List.getElem?_eq_getElem al⟩
  refine ah ?_
  refine aA (hN (aW:=cS) (aH:=23) (i:=i) (fun _=>rfl) rfl ar av.a0 ae bh) ?_
  refine da fun aM=>?_
  refine cC ?_ ?_<;>intro af
  ·refine aT ?_ ?_<;>intro az
   ·exact bI ⟨by rw [T5 bh af az aJ],rfl⟩
   exact fX (i+1) ⟨by omega,ET bh al aJ⟩
  exact fX (i+1) ⟨by omega,ET bh al aJ⟩
 exact bI ⟨by rw [T6 (by rwa [List.take_of_length_le al]at aJ)],rfl⟩
def nV(f:Nat→Int)(a b:Int):Nat→Option (BitVec 32)
  |0=>some 0#32
  |n+1=>match nV f a b n with
    |none=>none
    |some s=>if f n=0 then some s else if f n<0∨f n>b∨(n:Int)≥a∨hasB s (f n)=true then none else some (s|||ep (f n))
theorem JE{f:Nat→Int}{a b:Int}{n:Nat}(h:nV f a b n=none):∀k,nV f a b (n+k)=none
  |0=>h
  |k+1=>by show nV f a b (n+k+1)=none;rw [nV,JE h k]
theorem za{f:Nat→Int}{a b:Int}{n:Nat}{s:BitVec 32}(h:nV f a b n=some s)(b0:f n≠0)(bb:f n<0∨f n>b∨(n:Int)≥a∨hasB s (f n)=true)(a7:n<4):(nV f a b 4).isSome=false:=by
  have ab:nV f a b (n+1)=none:=by rw [nV,h];simp only;rw [if_neg b0,if_pos bb]
  have:=JE ab (3-n)
  rw [show n+1+(3-n)=4 by omega]at this
  rw [this];rfl
abbrev N7(e:Nat→Int):List Value:=eG 16 fun r=>e (3+r)
abbrev Dl(e:Nat→Int):Nat→Int:=fun r=>e (19+r)
abbrev Aj(e:Nat→Int)(l7:BitVec 32)(i:Nat):Prop:=0≤e (3+i)∧e (3+i)≤16384∧(0<e (3+i)→e 2=3∧hasB l7 (i:Int)=true)
abbrev Hk(e:Nat→Int)(l7:BitVec 32):Prop:=∀i,i<16→Aj e l7 i
def x3(c:dG)(m:Int):Int:=match c.ba[m.toNat]? with
  |some p=>(p.2.length:Int)
  |none=>0
abbrev eY(c:dG)(e:Nat→Int):BitVec 32:=cw c (e 1)&&&~~~(cw c (e 0))
abbrev qo(c:dG)(e:Nat→Int):Prop:=0≤e 0∧e 0<c.ba.length∧0≤e 1∧e 1<c.ba.length∧e 0≠e 1∧1≤e 2∧e 2≤3
def lU(c:dG)(i:Nat)(e:Nat→Int):Bool:=decide (qo c e)&&decide ((ji c.a0 (e 0) (e 1)).1=(i:Int))&&(nV (Dl e) (x3 c (e 0)) (x3 c (e 1)) 4).isSome&&decide (Hk e (eY c e))
theorem KJ{x:bQ}{m:Mode}{n:Int}(b0:0≤n)(h:x.ba.l[n.toNat]?=some m):x3 x.c n=(m.q.l.length:Int):=by unfold x3;rw [List.getElem?_map,h];rfl
theorem rM{c:dG}{i:Nat}{e:Nat→Int}(h:¬qo c e):lU c i e=false:=by unfold lU;rw [decide_eq_false h];rfl
theorem rN{c:dG}{i:Nat}{e:Nat→Int}(h:¬(ji c.a0 (e 0) (e 1)).1=(i:Int)):lU c i e=false:=by unfold lU;rw [decide_eq_false h];simp
theorem X8(f:Nat→Int)(a b:Int):aS B 165 [.agg (eG 4 f).toArray,U a,U b] [] (fun v S=>v= .bool (nV f a b 4).isSome∧S=[]):=by
 refine bD 40 Tryz.func165 fun a4 ax=>?_
 refine dt (au:=eG 4 f) fun ay=>?_
 refine jT ?_
 refine cM (eG 4 f) ?_
 refine ah ?_
 refine dH (α:=Nat×BitVec 32) (fun⟨i,sC⟩=>i≤4∧nV f a b i=some sC) (fun⟨i,sC⟩=>[(11,U (i:Int)),(7,aI sC.toNat),(10,.agg (eG 4 f).toArray),(1,U a),(2,U b)]) (fun⟨i,sC⟩=>[]) (fun⟨i,sC⟩=>4-i) (0,0#32) ?_ dD aC ?_
 ·exact⟨by omega,rfl⟩
 rintro⟨i,sC⟩ ⟨ak,hm⟩
 dsimp only
 refine ah ?_
 refine aT ?_ ?_<;>intro ab
 ·refine aA (uc rfl rfl ae rfl al (vC al)) ?_
  refine ah ?_
  refine aT ?_ ?_<;>intro af
  ·refine eg (i+1,sC) ?_ ?_ ?_ ?_
   ·(try dsimp only);exact⟨by omega,by rw [nV,hm];simp only;rw [if_pos af]⟩
   ·(try dsimp only);omega
   ·refine⟨?_,?_,?_,?_,?_,trivial⟩<;>rfl
   (try dsimp only);exact⟨_,aC⟩
  refine cC ?_ ?_<;>intro az
  ·exact bI ⟨by first|(rw [show(4:Nat)=i by omega,hm];rfl)|(rw [za hm af (by first|exact .inl al|exact .inr (.inl al)|exact .inr (.inr (.inl al))|exact .inr (.inr (.inr cl))) al]),rfl⟩
  refine cC ?_ ?_<;>intro a5
  ·exact bI ⟨by first|(rw [show(4:Nat)=i by omega,hm];rfl)|(rw [za hm af (by first|exact .inl al|exact .inr (.inl al)|exact .inr (.inr (.inl al))|exact .inr (.inr (.inr cl))) al]),rfl⟩
  refine cC ?_ ?_<;>intro cd
  ·exact bI ⟨by first|(rw [show(4:Nat)=i by omega,hm];rfl)|(rw [za hm af (by first|exact .inl al|exact .inr (.inl al)|exact .inr (.inr (.inl al))|exact .inr (.inr (.inr cl))) al]),rfl⟩
  refine fL (re sC (f i)) ?_
  refine aT ?_ ?_<;>intro c5
  ·exact bI ⟨by first|(rw [show(4:Nat)=i by omega,hm];rfl)|(rw [za hm af (by first|exact .inl al|exact .inr (.inl al)|exact .inr (.inr (.inl al))|exact .inr (.inr (.inr cl))) al]),rfl⟩
  refine fL (s0 sC (f i)) ?_
  refine eg (i+1,sC|||ep (f i)) ?_ ?_ ?_ ?_
  ·(try dsimp only);exact⟨by omega,by rw [nV,hm];simp only;rw [if_neg af,if_neg (fun z=>by rcases z with z|z|z|z;omega;omega;omega;simp_all)]⟩
  ·(try dsimp only);omega
  ·refine⟨?_,?_,?_,?_,?_,trivial⟩<;>rfl
  (try dsimp only);exact⟨_,aC⟩
 exact bI ⟨by first|(rw [show(4:Nat)=i by omega,hm];rfl)|(rw [za hm af (by first|exact .inl al|exact .inr (.inl al)|exact .inr (.inr (.inl al))|exact .inr (.inr (.inr cl))) al]),rfl⟩
theorem X9(e:Nat→Int)(l7:BitVec 32):aS B 166 [.agg (cS e).toArray,aI l7.toNat] [] (fun v S=>v= .bool (decide (Hk e l7))∧S=[]):=by
 refine bD 35 Tryz.func166 fun a4 ax=>?_
 refine dt (au:=cS e) fun ay=>?_
 refine ho ?_
 refine cM (N7 e) ?_
 refine ah ?_
 refine dH (α:=Nat) (fun i=>i≤16∧∀j,j<i→Aj e l7 j) (fun i=>[(9,U (i:Int)),(8,.agg (N7 e).toArray),(1,aI l7.toNat),(2,ag ay)]) (fun i=>[aa ay (cS e) 184]) (fun i=>16-i) 0 ?_ dD aC ?_
 ·exact⟨by omega,fun j h=>by omega⟩
 rintro i ⟨ak,aJ⟩
 refine ah ?_
 refine aT ?_ ?_<;>intro ab
 ·refine aA (uc rfl rfl ae rfl al (vC al)) ?_
  refine ah ?_
  refine cC ?_ ?_<;>intro af
  ·exact bI ⟨by first|rw [decide_eq_true (fun j aY=>aJ j al)]|rw [decide_eq_false (fun z=>by have q:=z i al;have bY:=q.1;have bK:=q.2.1;omega)]|rw [decide_eq_false (fun z=>by have q:=((z i al).2.2 cl);have bY:=q.1;omega)]|rw [decide_eq_false (fun z=>by have q:=((z i al).2.2 cl);have bY:=q.2;simp_all)],rfl⟩
  refine cC ?_ ?_<;>intro az
  ·exact bI ⟨by first|rw [decide_eq_true (fun j aY=>aJ j al)]|rw [decide_eq_false (fun z=>by have q:=z i al;have bY:=q.1;have bK:=q.2.1;omega)]|rw [decide_eq_false (fun z=>by have q:=((z i al).2.2 cl);have bY:=q.1;omega)]|rw [decide_eq_false (fun z=>by have q:=((z i al).2.2 cl);have bY:=q.2;simp_all)],rfl⟩
  refine cC ?_ ?_<;>intro a5
  ·refine cC ?_ ?_<;>intro cd
   ·exact bI ⟨by first|rw [decide_eq_true (fun j aY=>aJ j al)]|rw [decide_eq_false (fun z=>by have q:=z i al;have bY:=q.1;have bK:=q.2.1;omega)]|rw [decide_eq_false (fun z=>by have q:=((z i al).2.2 cl);have bY:=q.1;omega)]|rw [decide_eq_false (fun z=>by have q:=((z i al).2.2 cl);have bY:=q.2;simp_all)],rfl⟩
   refine fL (re l7 (i:Int)) ?_
   refine aT ?_ ?_<;>intro c5
   ·exact bI ⟨by first|rw [decide_eq_true (fun j aY=>aJ j al)]|rw [decide_eq_false (fun z=>by have q:=z i al;have bY:=q.1;have bK:=q.2.1;omega)]|rw [decide_eq_false (fun z=>by have q:=((z i al).2.2 cl);have bY:=q.1;omega)]|rw [decide_eq_false (fun z=>by have q:=((z i al).2.2 cl);have bY:=q.2;simp_all)],rfl⟩
   exact fX (i+1) ⟨by omega,fun j aY=>by rcases Nat.lt_succ_iff_lt_or_eq.1 aY with q|rfl;exact aJ j q;exact⟨by omega,by omega,fun q=>by first|(exfalso;omega)|exact⟨by assumption,by assumption⟩⟩⟩
  exact fX (i+1) ⟨by omega,fun j aY=>by rcases Nat.lt_succ_iff_lt_or_eq.1 aY with q|rfl;exact aJ j q;exact⟨by omega,by omega,fun q=>by first|(exfalso;omega)|exact⟨by assumption,by assumption⟩⟩⟩
 exact bI ⟨by first|rw [decide_eq_true (fun j aY=>aJ j al)]|rw [decide_eq_false (fun z=>by have q:=z i al;have bY:=q.1;have bK:=q.2.1;omega)]|rw [decide_eq_false (fun z=>by have q:=((z i al).2.2 cl);have bY:=q.1;omega)]|rw [decide_eq_false (fun z=>by have q:=((z i al).2.2 cl);have bY:=q.2;simp_all)],rfl⟩
theorem Ya(x:bQ)(av:x.In K)(i:Nat)(e:Nat→Int)(he:x.a0.l[i]?=some e):aS B 106 [x.v,U (i:Int)] [K] (fun v S=>v= .bool (lU x.c i e)∧S=[K]):=by
 refine dn 98 Tryz.func106 fun a4 ax=>?_
 have er:=(List.getElem?_eq_some_iff.1 he).1
 have j9:=x.ba.small
 have yy:=x.a0.small
 refine ah ?_
 refine dt (au:=(bJ x)) fun ay=>?_
 refine iW ?_
 refine aA (hx rfl rfl ae (x.a0).en rfl er rfl) ?_
 refine aA (hN (aW:=cS) (aH:=23) (i:=i) (fun _=>rfl) rfl ar av.a0 ae he) ?_
 refine da fun aM=>?_
 refine cC ?_ ?_<;>intro ab
 ·exact bI ⟨by first|rw [rM (fun z=>by have sD:=z.1;have lL:=z.2;simp at lL;omega)]|rw [rN cl]|(unfold lU;rw [lk,mv,decide_eq_true (show qo x.c e from⟨by omega,by simp;omega,by omega,by simp;omega,by omega,by omega,by omega⟩),decide_eq_true (show(ji x.c.a0 (e 0) (e 1)).1=(i:Int)by assumption)];simp only [Bool.true_and,Bool.and_true,Bool.false_and, *]),rfl⟩
 refine cC ?_ ?_<;>intro af
 ·exact bI ⟨by first|rw [rM (fun z=>by have sD:=z.1;have lL:=z.2;simp at lL;omega)]|rw [rN cl]|(unfold lU;rw [lk,mv,decide_eq_true (show qo x.c e from⟨by omega,by simp;omega,by omega,by simp;omega,by omega,by omega,by omega⟩),decide_eq_true (show(ji x.c.a0 (e 0) (e 1)).1=(i:Int)by assumption)];simp only [Bool.true_and,Bool.and_true,Bool.false_and, *]),rfl⟩
 refine cC ?_ ?_<;>intro az
 ·exact bI ⟨by first|rw [rM (fun z=>by have sD:=z.1;have lL:=z.2;simp at lL;omega)]|rw [rN cl]|(unfold lU;rw [lk,mv,decide_eq_true (show qo x.c e from⟨by omega,by simp;omega,by omega,by simp;omega,by omega,by omega,by omega⟩),decide_eq_true (show(ji x.c.a0 (e 0) (e 1)).1=(i:Int)by assumption)];simp only [Bool.true_and,Bool.and_true,Bool.false_and, *]),rfl⟩
 refine cC ?_ ?_<;>intro a5
 ·exact bI ⟨by first|rw [rM (fun z=>by have sD:=z.1;have lL:=z.2;simp at lL;omega)]|rw [rN cl]|(unfold lU;rw [lk,mv,decide_eq_true (show qo x.c e from⟨by omega,by simp;omega,by omega,by simp;omega,by omega,by omega,by omega⟩),decide_eq_true (show(ji x.c.a0 (e 0) (e 1)).1=(i:Int)by assumption)];simp only [Bool.true_and,Bool.and_true,Bool.false_and, *]),rfl⟩
 refine aT ?_ ?_<;>intro cd
 ·exact bI ⟨by first|rw [rM (fun z=>by have sD:=z.1;have lL:=z.2;simp at lL;omega)]|rw [rN cl]|(unfold lU;rw [lk,mv,decide_eq_true (show qo x.c e from⟨by omega,by simp;omega,by omega,by simp;omega,by omega,by omega,by omega⟩),decide_eq_true (show(ji x.c.a0 (e 0) (e 1)).1=(i:Int)by assumption)];simp only [Bool.true_and,Bool.and_true,Bool.false_and, *]),rfl⟩
 refine cC ?_ ?_<;>intro c5
 ·exact bI ⟨by first|rw [rM (fun z=>by have sD:=z.1;have lL:=z.2;simp at lL;omega)]|rw [rN cl]|(unfold lU;rw [lk,mv,decide_eq_true (show qo x.c e from⟨by omega,by simp;omega,by omega,by simp;omega,by omega,by omega,by omega⟩),decide_eq_true (show(ji x.c.a0 (e 0) (e 1)).1=(i:Int)by assumption)];simp only [Bool.true_and,Bool.and_true,Bool.false_and, *]),rfl⟩
 refine bX ?_ ?_<;>intro fo
 ·refine ah ?_
  exact bI ⟨by first|rw [rM (fun z=>by have sD:=z.1;have lL:=z.2;simp at lL;omega)]|rw [rN cl]|(unfold lU;rw [lk,mv,decide_eq_true (show qo x.c e from⟨by omega,by simp;omega,by omega,by simp;omega,by omega,by omega,by omega⟩),decide_eq_true (show(ji x.c.a0 (e 0) (e 1)).1=(i:Int)by assumption)];simp only [Bool.true_and,Bool.and_true,Bool.false_and, *]),rfl⟩
 refine ho ?_
 refine cM (bJ x) ?_
 refine ah ?_
 refine sj (C1 x av (e 0) (e 1)) ?_
 refine ct ?_
 refine bH (U (ji x.a0.l (e 0) (e 1)).1) ?_
 refine bH (.bool (ji x.a0.l (e 0) (e 1)).2) ?_
 refine ah ?_
 refine aT ?_ ?_<;>intro gx
 ·exact bI ⟨by first|rw [rM (fun z=>by have sD:=z.1;have lL:=z.2;simp at lL;omega)]|rw [rN cl]|(unfold lU;rw [lk,mv,decide_eq_true (show qo x.c e from⟨by omega,by simp;omega,by omega,by simp;omega,by omega,by omega,by omega⟩),decide_eq_true (show(ji x.c.a0 (e 0) (e 1)).1=(i:Int)by assumption)];simp only [Bool.true_and,Bool.and_true,Bool.false_and, *]),rfl⟩
 obtain⟨a,aO⟩:∃a,x.ba.l[(e 0).toNat]?=some a:=⟨_,List.getElem?_eq_getElem al⟩
 obtain⟨b,bb⟩:∃b,x.ba.l[(e 1).toNat]?=some b:=⟨_,List.getElem?_eq_getElem al⟩
 have sn:=a.q.small
 have aeS:=b.q.small
 have lk:=KJ (show 0≤e 0 by omega) aO
 have mv:=KJ (show 0≤e 1 by omega) bb
 refine ah ?_
 refine c8 [aa ay (bJ x) 41,aa aM (cS e) 184,K] ae aC ?_
 refine aN [0] ?_
 refine bs 1 rfl (dw (bx:=eG 4 (Dl e)) rfl ar ae rfl (by rfl)) ?_
 refine aN [2,3,4,5] ?_
 refine cy 6 rfl (h7 (j:=(e 0).toNat) rfl rfl ae (x.ba).en (show e 0=((e 0).toNat:Int)by omega) al rfl) ?_
 refine aN [7] ?_
 refine bs 8 rfl (eO (aW:=eI) (aH:=2) (i:=(e 0).toNat) (k:=1) (fun _=>rfl) rfl ar av.ba ae aO rfl) ?_
 refine aN [9,10,11,12,13] ?_
 refine cy 14 rfl (h7 (j:=(e 1).toNat) rfl rfl ae (x.ba).en (show e 1=((e 1).toNat:Int)by omega) al rfl) ?_
 refine aN [15] ?_
 refine bs 16 rfl (eO (aW:=eI) (aH:=2) (i:=(e 1).toNat) (k:=1) (fun _=>rfl) rfl ar av.ba ae bb rfl) ?_
 refine aN [17,118] ?_
 refine gu (X8 (Dl e) (a.q.l.length:Int) (b.q.l.length:Int)) ?_
 refine aN [19] ?_
 refine vB (t:=85) rfl (fun jf=>?_) (fun jf=>?_)
 ·replace jf:=fb jf
  refine bs 20 rfl (dw (bx:=cS e) rfl ar ae rfl (by rfl)) (hw:=(.yes 85 rfl rfl rfl)) ?_
  refine bs 21 rfl (dw (bx:=(bJ x)) rfl ar ae rfl (by rfl)) (hw:=(.yes 85 rfl rfl rfl)) ?_
  refine aN [22,23] ?_
  refine bs 25 rfl (dw (bx:=(bJ x)) rfl ar ae rfl (by rfl)) (hw:=(.yes 85 rfl rfl rfl)) ?_
  refine aN [26,27] ?_
  refine ky 24 (sW x av (e 1)) ?_
  refine ky 28 (sW x av (e 0)) ?_
  refine bs 29 rfl (hH rfl rfl (ej _) (ej _) rfl) (hw:=(.yes 85 rfl rfl rfl)) ?_
  refine aN [130] ?_
  refine gu (X9 e (eY x.c e)) (hw:=(.yes 85 rfl rfl rfl)) ?_
  refine c7 [31,32,99] ?_
  exact bI ⟨by first|rw [rM (fun z=>by have sD:=z.1;have lL:=z.2;simp at lL;omega)]|rw [rN cl]|(unfold lU;rw [lk,mv,decide_eq_true (show qo x.c e from⟨by omega,by simp;omega,by omega,by simp;omega,by omega,by omega,by omega⟩),decide_eq_true (show(ji x.c.a0 (e 0) (e 1)).1=(i:Int)by assumption)];simp only [Bool.true_and,Bool.and_true,Bool.false_and, *]),rfl⟩
 replace jf:=fb jf
 refine c7 [20,21,22,23,24,25,26,27,28,29,30,31,32,99] ?_
 exact bI ⟨by first|rw [rM (fun z=>by have sD:=z.1;have lL:=z.2;simp at lL;omega)]|rw [rN cl]|(unfold lU;rw [lk,mv,decide_eq_true (show qo x.c e from⟨by omega,by simp;omega,by omega,by simp;omega,by omega,by omega,by omega⟩),decide_eq_true (show(ji x.c.a0 (e 0) (e 1)).1=(i:Int)by assumption)];simp only [Bool.true_and,Bool.and_true,Bool.false_and, *]),rfl⟩
theorem CB{n i:Nat}{P:Nat→Bool}(ak:i<n)(h:P i=true)(cR:∀j,j<i→P j=false):(List.range n).find? P=some i:=by
 rw [List.find?_eq_some_iff_getElem]
 refine⟨h,i,by simpa using ak,by simp,fun j aY=>?_⟩
 rw [List.getElem_range,cR j aY];rfl
theorem FU{n:Nat}{P:Nat→Bool}(h:∀j,j<n→P j=false):(List.range n).find? P=none:=by
  rw [List.find?_eq_none]
  intro j aY;rw [h j (List.mem_range.1 aY)];decide
def zr(c:dG)(i:Nat):Bool:=match c.aG[i]? with
  |some e=>!decide (vX e c.cG)
  |none=>false
def sO(c:dG)(i:Nat):Int:=match c.ba[i]? with
  |some p=>if p.1&&&~~~(allM c.aG.length)=0#32 then(if uQ p.2 then 0 else 104)else 101
  |none=>0
def CC(c:dG)(i:Nat):Bool:=match c.a0[i]? with
  |some e=>!lU c i e
  |none=>false
def sX(c:dG):Int×Int:=if c.a0.length>24 then((c.a0.length:Int),102)else match(List.range c.a0.length).find? (CC c)with
  |some i=>((i:Int),102)
  |none=>(0,0)
def pN(c:dG):Int×Int:=if c.ba.length<1∨c.ba.length>8 then((c.ba.length:Int),101)else match(List.range c.ba.length).find? (fun i=>!decide (sO c i=0))with
  |some i=>((i:Int),sO c i)
  |none=>sX c
def iS(c:dG):Int×Int:=if c.cG<0∨c.cG>8 then(0,103)else if c.aG.length<1∨c.aG.length>16 then((c.aG.length:Int),100)else match(List.range c.aG.length).find? (zr c)with
  |some i=>((i:Int),100)
  |none=>pN c
theorem EU{c:dG}{i:Nat}{e:Nat→Int}(h:c.aG[i]?=some e):zr c i=!decide (vX e c.cG):=by unfold zr;rw [h]
theorem EV{c:dG}{i:Nat}{e:Nat→Int}(h:c.a0[i]?=some e):CC c i=!lU c i e:=by unfold CC;rw [h]
theorem y5{x:bQ}{i:Nat}{m:Mode}(h:x.ba.l[i]?=some m):sO x.c i=if m.aG&&&~~~(allM x.aG.l.length)=0#32 then(if uQ m.q.l then 0 else 104)else 101:=by
  unfold sO;rw [List.getElem?_map,h];rfl
theorem Hl{i:Nat}{P:Nat→Prop}(h:P i)(aJ:∀j,j<i→P j):∀j,j<i+1→P j:=fun j aY=>by rcases Nat.lt_succ_iff_lt_or_eq.1 aY with q|rfl;exact aJ j q;exact h
theorem T8{c:dG}(ab:0≤c.cG∧c.cG≤8)(af:1≤c.aG.length∧c.aG.length≤16)(az:∀j,j<c.aG.length→zr c j=false):iS c=pN c:=by
  unfold iS;rw [if_neg (by omega),if_neg (by omega),FU az]
theorem T9{c:dG}(af:1≤c.ba.length∧c.ba.length≤8)(az:∀j,j<c.ba.length→sO c j=0):pN c=sX c:=by
  unfold pN;rw [if_neg (by omega),FU (fun j aY=>by rw [az j aY];rfl)]
theorem C2(x:bQ)(av:x.In K):aS B 55 [x.v] [K] (fun v S=>v= .tuple #[U (iS x.c).1,U (iS x.c).2]∧S=[K]):=by
 refine dn 98 Tryz.func55 fun a4 ax=>?_
 have et:=x.aG.small
 have j9:=x.ba.small
 have yy:=x.a0.small
 refine ah ?_
 refine fe (au:=(bJ x)) fun ay=>?_
 refine cC ?_ ?_<;>intro ab
 ·rw [show iS x.c=(0,103)from by unfold iS;rw [if_pos (show x.cG<0∨x.cG>8 by omega)]]
  exact bA
 refine aT ?_ ?_<;>intro af
 ·rw [show iS x.c=(0,103)from by unfold iS;rw [if_pos (show x.cG<0∨x.cG>8 by omega)]]
  exact bA
 refine cC ?_ ?_<;>intro az
 ·rw [show iS x.c=((x.aG.l.length:Int),100)from by unfold iS;rw [if_neg (show¬(x.cG<0∨x.cG>8)by omega),if_pos (show x.aG.l.length<1∨x.aG.l.length>16 by omega)]]
  exact bA
 refine aT ?_ ?_<;>intro a5
 ·rw [show iS x.c=((x.aG.l.length:Int),100)from by unfold iS;rw [if_neg (show¬(x.cG<0∨x.cG>8)by omega),if_pos (show x.aG.l.length<1∨x.aG.l.length>16 by omega)]]
  exact bA
 refine dH (α:=Nat) (fun i=>i≤x.aG.l.length∧∀j,j<i→zr x.c j=false) (fun i=>[(33,U (i:Int)),(1,ag ay),(31,aw x.aG),(32,U (x.aG.l.length:Int))]) (fun i=>[aa ay (bJ x) 41,K]) (fun i=>x.aG.l.length-i) 0 ?_ dD aC ?_
 ·exact⟨Nat.zero_le _,fun j h=>by omega⟩
 rintro i ⟨ak,aJ⟩
 refine ah ?_
 refine aT ?_ ?_<;>intro cd
 ·obtain⟨e,bh⟩:∃e,x.aG.l[i]?=some e:=⟨_,List.getElem?_eq_getElem al⟩
  refine ah ?_
  refine aA (hN (aW:=cg) (aH:=11) (i:=i) (fun _=>rfl) rfl ar av.aG ae bh) ?_
  refine ds fun aM=>?_
  refine cW ?_
  refine cM (cg e) ?_
  refine ah ?_
  refine fL (X7 e x.cG) ?_
  refine aT ?_ ?_<;>intro c5
  ·rw [show iS x.c=((i:Int),100)from by unfold iS;rw [if_neg (show¬(x.cG<0∨x.cG>8)by omega),if_neg (show¬(x.aG.l.length<1∨x.aG.l.length>16)by omega),CB (show i<x.aG.l.length by omega) (by rw [EU bh,decide_eq_false cl];rfl) aJ]]
   exact bA
  exact fX (i+1) ⟨by omega,Hl (by rw [EU bh,decide_eq_true (show vX e x.cG from c5)];rfl) aJ⟩
 have HW:=T8 (c:=x.c) ⟨by assumption,by assumption⟩ (show 1≤x.aG.l.length∧x.aG.l.length≤16 by omega) (show∀j,j<x.aG.l.length→_ from fun j aY=>aJ j al)
 rw [HW]
 refine ah ?_
 refine cC ?_ ?_<;>intro fo
 ·rw [show pN x.c=((x.ba.l.length:Int),101)from by unfold pN;rw [if_pos (show(x.ba.l.map _).length<1∨(x.ba.l.map _).length>8 by rw [List.length_map];omega),List.length_map]]
  exact bA
 refine aT ?_ ?_<;>intro gx
 ·rw [show pN x.c=((x.ba.l.length:Int),101)from by unfold pN;rw [if_pos (show(x.ba.l.map _).length<1∨(x.ba.l.map _).length>8 by rw [List.length_map];omega),List.length_map]]
  exact bA
 refine dH (α:=Nat) (fun i=>i≤x.ba.l.length∧∀j,j<i→sO x.c j=0) (fun i=>[(61,U (i:Int)),(1,ag ay),(59,aw x.ba),(60,U (x.ba.l.length:Int))]) (fun i=>[aa ay (bJ x) 41,K]) (fun i=>x.ba.l.length-i) 0 ?_ dD aC ?_
 ·exact⟨Nat.zero_le _,fun j h=>by omega⟩
 rintro i ⟨ak,aJ⟩
 refine ah ?_
 refine aT ?_ ?_<;>intro jf
 ·obtain⟨m,bh⟩:∃m,x.ba.l[i]?=some m:=⟨_,List.getElem?_eq_getElem al⟩
  refine ah ?_
  refine aA (hN (aW:=eI) (aH:=2) (i:=i) (fun _=>rfl) rfl ar av.ba ae bh) ?_
  refine da fun bw=>?_
  refine c8 [aa ay (bJ x) 41,aa bw (eI m) 177,K] ae aC ?_
  refine aN [0,1] ?_
  refine bs 2 rfl (dw (bx:=(bJ x)) rfl ar ae rfl (by rfl)) ?_
  refine ky 3 (aaa x av) ?_
  refine bs 4 rfl (hH rfl rfl (ej _) (ej _) rfl) ?_
  refine c7 [5,99] ?_
  refine aT ?_ ?_<;>intro iw
  ·rw [show pN x.c=((i:Int),101)from by unfold pN;rw [if_neg (show¬((x.ba.l.map _).length<1∨(x.ba.l.map _).length>8)by rw [List.length_map];omega),CB (P:=fun i=>!decide (sO x.c i=0)) (show i<(x.ba.l.map _).length by rw [List.length_map];omega) (by rw [y5 bh,if_neg (fun z=>by rw [z]at iw;exact iw rfl)];rfl) (fun j aY=>by rw [aJ j aY];rfl)];dsimp only;rw [y5 bh,if_neg (fun z=>by rw [z]at iw;exact iw rfl)]]
   exact bA
  refine nB (T7 m.q (av.sU m (List.mem_of_getElem? bh))) ?_
  refine aT ?_ ?_<;>intro qN
  ·rw [show pN x.c=((i:Int),104)from by unfold pN;rw [if_neg (show¬((x.ba.l.map _).length<1∨(x.ba.l.map _).length>8)by rw [List.length_map];omega),CB (P:=fun i=>!decide (sO x.c i=0)) (show i<(x.ba.l.map _).length by rw [List.length_map];omega) (by rw [y5 bh,if_pos (uw.1 iw),if_neg cl];rfl) (fun j aY=>by rw [aJ j aY];rfl)];dsimp only;rw [y5 bh,if_pos (uw.1 iw),if_neg cl]]
   exact bA
  exact fX (i+1) ⟨by omega,Hl (by rw [y5 bh,if_pos (uw.1 iw),if_pos (by simpa using qN)]) aJ⟩
 have hi:=T9 (c:=x.c) (show 1≤(x.ba.l.map _).length∧(x.ba.l.map _).length≤8 by rw [List.length_map];omega) (fun j aY=>aJ j (by rw [List.length_map]at aY;omega))
 rw [hi]
 refine ah ?_
 refine aT ?_ ?_<;>intro yz
 ·rw [show sX x.c=((x.a0.l.length:Int),102)from by unfold sX;rw [if_pos (show x.a0.l.length>24 by omega)]]
  exact bA
 refine dH (α:=Nat) (fun i=>i≤x.a0.l.length∧∀j,j<i→CC x.c j=false) (fun i=>[(89,U (i:Int)),(1,ag ay),(88,U (x.a0.l.length:Int))]) (fun i=>[aa ay (bJ x) 41,K]) (fun i=>x.a0.l.length-i) 0 ?_ dD aC ?_
 ·exact⟨Nat.zero_le _,fun j h=>by omega⟩
 rintro i ⟨ak,aJ⟩
 refine ah ?_
 refine bX ?_ ?_<;>intro Py
 ·obtain⟨e,bh⟩:∃e,x.a0.l[i]?=some e:=⟨_,List.getElem?_eq_getElem al⟩
  refine kk ?_
  refine ik ?_
  refine dZ ?_
  refine qY ?_
  refine dZ ?_
  refine fl ?_
  refine aA (dh rfl) ?_
  refine aA (dh rfl) ?_
  refine hd ?_
  refine dZ ?_
  refine fl ?_
  refine aA (dw (bx:=(bJ x)) rfl ar ae rfl (by rfl)) ?_
  refine ah ?_
  refine nB (Ya x av i e bh) ?_
  refine aT ?_ ?_<;>intro HX
  ·rw [show sX x.c=((i:Int),102)from by unfold sX;rw [if_neg (show¬x.a0.l.length>24 by omega),CB (show i<x.a0.l.length by omega) (by rw [EV bh,show lU x.c i e=false from by assumption];rfl) aJ]]
   exact bA
  exact fX (i+1) ⟨by omega,Hl (by rw [EV bh,HX];rfl) aJ⟩
 refine ah ?_
 rw [show sX x.c=(0,0)from by unfold sX;rw [if_neg (show¬x.a0.l.length>24 by omega),FU (fun j aY=>aJ j (by have aY:j<x.a0.l.length:=aY;omega))]]
 exact bA
structure bQ.Own(y:bQ):Prop where
  aG:y.aG.Own
  a0:y.a0.Own
  ba:y.ba.Own
  sU:∀m∈y.ba.l,m.q.Own
abbrev oJ(q:ai (Nat→Int)):ao B:=cr q 180 2 kt
def hn(y:bQ):List (ao B):=[row (.slice y.aG.b1 y.aG.l.length y.aG.c) 173 11 y.aG.l.length (y.aG.l.flatMap cg),row (.slice y.a0.b1 y.a0.l.length y.a0.c) 184 23 y.a0.l.length (y.a0.l.flatMap cS),row (.slice y.ba.b1 y.ba.l.length y.ba.c) 177 2 y.ba.l.length (y.ba.l.flatMap eI)]++y.ba.l.reverse.map fun m=>oJ m.q
theorem kp{y:bQ}(h:y.Own):y.In (all (hn (B:=B) y)):=
  ⟨mh (a:=cr y.aG 173 11 cg) (by simp [hn]) (eh h.aG rfl),mh (a:=cr y.ba 177 2 eI) (by simp [hn]) (eh h.ba rfl),mh (a:=cr y.a0 184 23 cS) (by simp [hn]) (eh h.a0 rfl),
   fun m hm=>mh (a:=oJ m.q) (List.mem_append_right _ (List.mem_map.2 ⟨m,List.mem_reverse.2 hm,rfl⟩)) (eh (h.sU m hm) rfl)⟩
abbrev uR{α:Type}(a:ai α)(l:List α)(h:l.length=a.l.length):ai α:=
  ⟨a.b1,a.c,l,fun q=>List.length_eq_zero_iff.1 (by rw [h,a.nil q];rfl),by rw [h];exact a.small,by rw [h];exact a.cap⟩
theorem Rb{α:Type}{l k:List α}{i:Nat}{a:α}(h:l.drop i=k.drop i)(bh:l[i]?=some a):k[i]?=some a:=by
  have ab:(l.drop i)[0]?=some a:=by rw [List.getElem?_drop];simpa using bh
  rw [h,List.getElem?_drop]at ab;simpa using ab
theorem SC{α:Type}{l k:List α}{i:Nat}(h:l.drop i=k.drop i):l.drop (i+1)=k.drop (i+1):=by
  rw [←List.drop_drop, ←List.drop_drop,h]
theorem JF{α:Type}{l:List α}{i:Nat}{y:α}(h:i<l.length):(l.set i y).take (i+1)=l.take i++[y]:=by
  rw [List.take_add_one,List.getElem?_set_self h,List.take_set_of_le (Nat.le_refl _)];rfl
theorem QJ{α β:Type}{f:α→β}{l:List α}{i:Nat}{a:α}{b:β}(h:l[i]?=some a)(e:b=f a):(l.map f).set i b=l.map f:=by
  subst e
  apply List.ext_getElem?
  intro j
  by_cases aY:i=j
  · subst aY;have aJ:=(List.getElem?_eq_some_iff.1 h).1;rw [List.getElem?_set_self (by simpa using aJ),List.getElem?_map,h];rfl
  · rw [List.getElem?_set_ne aY]
abbrev kq(m:Mode):BitVec 32×List (Nat→Int):=(m.aG,m.q.l)
theorem Nj(x:bQ)(av:x.In K)(wP:x.aG.l.length≤64∧x.a0.l.length≤64∧x.ba.l.length≤64∧∀m∈x.ba.l,m.q.l.length≤64):dQ Tryz.prog B 86 [x.v] [K] (fun v S=>∃y:bQ,(y.c=x.c∧y.Own)∧v=y.v∧S=[all (hn y),K]):=by
 refine dn 35 Tryz.func86 fun a4 ax=>?_
 refine hy cg 173 11 ?_
 refine hy cS 184 23 ?_
 refine hy eI 177 2 ?_
 obtain⟨bY,bK,eu,sE⟩:=wP
 refine ah ?_
 refine dt (au:=[.int .i64 x.cG,.slice x.aG.b1 x.aG.l.length x.aG.c,.slice x.ba.b1 x.ba.l.length x.ba.c,.slice x.a0.b1 x.a0.l.length x.a0.c]) fun ay=>?_
 refine da fun aM=>?_
 refine ma (aW:=cg) (c:=(ai.bG:ai (Nat→Int))) (b:=x.aG) .no rfl rfl ae ar ar (av.aG) (fun _=>rfl) (fun _=>rfl) (by show 0+_≤_;omega) (by show(0+_)*_≤_;omega) rfl (fun c3 u4 Ak=>?_)
 refine ah ?_
 refine ma (aW:=cS) (c:=(ai.bG:ai (Nat→Int))) (b:=x.a0) .no rfl rfl ae ar ar (av.a0) (fun _=>rfl) (fun _=>rfl) (by show 0+_≤_;omega) (by show(0+_)*_≤_;omega) rfl (fun ce hi wj=>?_)
 refine ah ?_
 refine ma (aW:=eI) (c:=(ai.bG:ai Mode)) (b:=x.ba) .no rfl rfl ae ar ar (av.ba) (fun _=>rfl) (fun _=>rfl) (by show 0+_≤_;omega) (by show(0+_)*_≤_;omega) rfl (fun cI ns tg=>?_)
 have aeh:cI.l.length=x.ba.l.length:=by rw [ns];rfl
 refine ah ?_
 refine Rq ?_
 refine dH (α:=Nat×List Mode) (fun⟨i,ha⟩=>i≤cI.l.length∧ha.length=cI.l.length∧ha.map kq=x.ba.l.map kq∧ha.drop i=x.ba.l.drop i∧∀m∈ha.take i,m.q.Own) (fun⟨i,ha⟩=>[(18,.int .i64 (i:Int)),(1,.pointer (some ⟨ay,0,none⟩)),(2,.pointer (some ⟨aM,0,none⟩)),(3,.slice cI.b1 cI.l.length cI.c),(17,.int .i64 (cI.l.length:Int))]) (fun⟨i,ha⟩=>[aa ay [.int .i64 x.cG,.slice c3.b1 c3.l.length c3.c,.slice x.ba.b1 x.ba.l.length x.ba.c,.slice ce.b1 ce.l.length ce.c] 41,aa aM [.int .i64 0,.slice none 0 0,.slice none 0 0,.slice none 0 0] 41,row (.slice c3.b1 c3.l.length c3.c) 173 11 c3.l.length (c3.l.flatMap cg),row (.slice ce.b1 ce.l.length ce.c) 184 23 ce.l.length (ce.l.flatMap cS),row (.slice cI.b1 cI.l.length cI.c) 177 2 cI.l.length (ha.flatMap eI),all ((ha.take i).reverse.map fun m=>oJ m.q),K]) (fun⟨i,ha⟩=>cI.l.length-i) (0,cI.l) ?_ dD bq ?_
 ·exact⟨Nat.zero_le _,rfl,by rw [ns];rfl,by rw [ns];rfl,by simp⟩
 rintro⟨i,ha⟩ ⟨ak,kx,ty,Pz,qO⟩
 dsimp only
 have j9:=cI.small
 refine cW ?_
 refine bX ?_ ?_<;>intro ab
 ·obtain⟨m,yA⟩:∃m,ha[i]?=some m:=⟨_,List.getElem?_eq_getElem al⟩
  have AP:x.ba.l[i]?=some m:=Rb Pz yA
  have so:=sE m (List.mem_of_getElem? AP)
  refine hy kt 180 2 ?_
  refine ah ?_
  refine aA (eO (aW:=eI) (aH:=2) (i:=i) (k:=1) (a:=m) (fun _=>rfl) rfl ar (qk tg rfl kx) ae yA rfl) ?_
  refine ma (aW:=kt) (c:=(ai.bG:ai (Nat→Int))) (b:=m.q) .no rfl rfl ae ar ar (av.sU m (List.mem_of_getElem? AP)) (fun _=>rfl) (fun _=>rfl) (by show 0+_≤_;omega) (by show(0+_)*_≤_;omega) rfl (fun w9 acd aab=>?_)
  refine QO (oJ w9) aC ?_
  refine ah ?_
  refine fw (M1 (aW:=eI) (aH:=2) (k:=1) (i:=i) (a:=m) (y:=⟨m.aG,w9⟩) (p4:=ha.set i ⟨m.aG,w9⟩) tg rfl rfl (fun _=>rfl) bu yA rfl rfl ar ae rfl) ?_
  refine ah ?_
  rw [show(all (oJ w9::(ha.take i).reverse.map fun m=>oJ m.q):ao B)=all (((ha.set i ⟨m.aG,w9⟩).take (i+1)).reverse.map fun m=>oJ m.q)from by rw [JF al,List.reverse_append];rfl]
  refine eg (i+1,ha.set i ⟨m.aG,w9⟩) ?_ ?_ ?_ ?_
  ·(try dsimp only);exact⟨by omega,by rw [List.length_set];exact kx,by rw [List.map_set,ty];exact QJ AP (by show(m.aG,w9.l)=(m.aG,m.q.l);rw [acd];rfl),by rw [List.drop_set_of_lt al];exact SC Pz,by rw [JF al];intro z cq;rcases List.mem_append.1 cq with q|q;exact qO z q;simp at q;subst q;exact aab⟩
  ·(try dsimp only);omega
  ·refine⟨?_,?_,?_,?_,?_,trivial⟩<;>rfl
  (try dsimp only);exact⟨_,bq⟩
 obtain rfl:i=cI.l.length:=by omega
 rw [List.take_of_length_le al]at qO⊢
 refine ES (row (.slice cI.b1 cI.l.length cI.c) 177 2 cI.l.length (ha.flatMap eI)) aC ?_
 refine ES (row (.slice ce.b1 ce.l.length ce.c) 184 23 ce.l.length (ce.l.flatMap cS)) aC ?_
 refine ES (row (.slice c3.b1 c3.l.length c3.c) 173 11 c3.l.length (c3.l.flatMap cg)) aC ?_
 refine te ?_
 refine cM [.int .i64 x.cG,.slice c3.b1 c3.l.length c3.c,.slice cI.b1 cI.l.length cI.c,.slice ce.b1 ce.l.length ce.c] ?_
 refine ah ?_
 refine cc (.nil _) (gA rfl rfl ar ae (by rfl)) ?_
 have aac:c3.l=x.aG.l:=by rw [u4];rfl
 have aad:ce.l=x.a0.l:=by rw [hi];rfl
 have aae:all (hn (B:=B) ⟨x.cG,c3,uR cI ha kx,ce⟩)=all (row (.slice c3.b1 c3.l.length c3.c) 173 11 c3.l.length (c3.l.flatMap cg)::row (.slice ce.b1 ce.l.length ce.c) 184 23 ce.l.length (ce.l.flatMap cS)::row (.slice cI.b1 cI.l.length cI.c) 177 2 cI.l.length (ha.flatMap eI)::ha.reverse.map fun m=>oJ m.q):=by show all (_::_::_::_)=_;rw [show(uR cI ha kx).l.length=cI.l.length from kx];rfl
 rw [←aae]
 exact⟨[all (hn ⟨x.cG,c3,uR cI ha kx,ce⟩),K],⟨⟨x.cG,c3,uR cI ha kx,ce⟩,⟨by show(⟨x.cG,c3.l,ha.map kq,ce.l⟩:dG)=_;rw [ty,aac,aad],⟨Ak,wj,fun q e=>tg q e,qO⟩⟩,by show _=Value.agg _;rw [show(uR cI ha kx).l.length=cI.l.length from kx],rfl⟩,_,bq⟩
def rV(e:Nat→Int)(n:Nat):BitVec 32:=((hO e 8).take n).foldl (fun s p=>s|||ep (p.1:Int)) 0#32
abbrev GO(e:Nat→Int):BitVec 32:=rV e (hO e 8).length
theorem Ua{e:Nat→Int}{n:Nat}{p:Nat×Int}(h:(hO e 8)[n]?=some p):rV e n|||ep (p.1:Int)=rV e (n+1):=by
  unfold rV;rw [List.take_add_one,h,List.foldl_append];rfl
structure c4 where
  at':Nat
  bad:Bool
def pS(l:List (BitVec 32))(i:Nat):Int:=match l[i]? with
  |some w=>(w.toNat:Int)
  |none=>0
def uA(l:List (BitVec 32))(r:c4)(ec:Int):Bool:=r.bad||decide (r.at'=l.length)||decide (pS l r.at'>ec)
def eb(l:List (BitVec 32))(r:c4)(ec:Int):Int×c4:=if uA l r ec=true then(0,⟨r.at',true⟩)else(pS l r.at',⟨r.at'+1,r.bad⟩)
theorem jg{l:List (BitVec 32)}{r:c4}{ec:Int}(h:r.at'≤l.length)(hm:0≤ec):(eb l r ec).2.at'≤l.length∧0≤(eb l r ec).1∧(eb l r ec).1≤ec:=by
 unfold eb uA;split
 ·exact⟨h,Int.le_refl _,hm⟩
 rename_i q
 simp at q
 refine⟨by show r.at'+1≤_;omega,?_,by show pS l r.at'≤ec;omega⟩
 show 0≤pS l r.at'
 unfold pS;split<;>omega
theorem Yb(e:Nat→Int):aS B 227 [.agg (cg e).toArray] [] (fun v S=>v=aI (GO e).toNat∧S=[]):=by
 refine bD 13 Tryz.func227 fun a4 ax=>?_
 refine fe (au:=cg e) fun ay=>?_
 refine ds fun aM=>?_
 refine cW ?_
 refine cM (cg e) ?_
 refine cA (GL e) ?_
 rintro _ _ ⟨b,rfl,rfl⟩
 refine cU ?_
 rw [show(aa aM [aI 0] 158:ao B)=aa aM [aI (rV e 0).toNat] 158 from rfl]
 refine kh (own:=[aa b (cg e) 173]) (aP:=[aa ay (cg e) 173,aa aM [aI (rV e 0).toNat] 158]) rfl e2 (FN b e) (fun i S=>S=[aa ay (cg e) 173,aa aM [aI (rV e i).toNat] 158]) (fun c i S=>False) (show Take ([aa b (cg e) 173,aa ay (cg e) 173,aa aM [aI (rV e 0).toNat] 158]) _ _ from aC) (rfl) rfl (fun x av=>by obtain⟨y,_,rfl⟩:=List.mem_map.1 av;rfl) ?_ ?_ ?_
 ·intro cu rec jF i aQ ak bt
  obtain rfl:=bt
  rw [List.length_map]at ak
  obtain⟨p,cN⟩:∃p,(hO e 8)[i]?=some p:=⟨_,List.getElem?_eq_getElem ak⟩
  rw [show((hO e 8).map fun p=>[Value.int .i64 (p.1:Int),Value.int .i64 p.2]).getD i []=[U (p.1:Int),U p.2]from by simp [List.getD,cN]]
  refine ah ?_
  refine⟨rfl,_,_,.cons ar (Take.self _),fun h1=>?_⟩
  refine ah ?_
  refine hD (s0 (rV e i) (p.1:Int)) ?_
  rw [Ua cN]
  refine ah ?_
  exact⟨[aa ay (cg e) 173,aa aM [aI (rV e (i+1)).toNat] 158],_,aC,rfl⟩
 ·intro c0 aQ bt
  obtain rfl:=bt
  rw [List.length_map]
  refine cU ?_
  refine cc (show Take [du c0] _ _ from aC) (zl rfl rfl) ?_
  exact bA
 intro c0 c i aQ ak h
 exact h.elim
theorem Mq(x:bQ)(av:x.In K)(e:Nat→Int):aS B 131 [x.v,.agg (cS e).toArray] [K] (fun v S=>v=aI (eY x.c e).toNat∧S=[K]):=by
 refine bD 14 Tryz.func131 fun a4 ax=>?_
 refine dt (au:=(bJ x)) fun ay=>?_
 refine fe (au:=cS e) fun aM=>?_
 refine c8 [aa ay (bJ x) 41,aa aM (cS e) 184,K] ae aC ?_
 refine bs 0 rfl (dw (bx:=(bJ x)) rfl ar ae rfl (by rfl)) ?_
 refine aN [1,2] ?_
 refine bs 4 rfl (dw (bx:=(bJ x)) rfl ar ae rfl (by rfl)) ?_
 refine aN [5,6] ?_
 refine ky 3 (sW x av (e 1)) ?_
 refine ky 7 (sW x av (e 0)) ?_
 refine bs 8 rfl (hH rfl rfl (ej _) (ej _) rfl) ?_
 refine c7 [9,99] ?_
 exact bA
theorem iF(q:Nat)(l:ai (BitVec 32))(aJ:c1 K l.bl (l.l.flatMap de))(r:c4)(bk:r.at'≤l.l.length)(ec:Int):aS B 81 [ag q,U ec] [aa q [aw l,U (r.at':Int),.bool r.bad] 208,K] (fun v S=>v=U (eb l.l r ec).1∧S=[aa q [aw l,U ((eb l.l r ec).2.at':Int),.bool (eb l.l r ec).2.bad] 208,K]):=by
 refine dn 58 Tryz.func81 fun a4 ax=>?_
 have j9:=l.small
 refine ah ?_
 refine c8 [aa q [aw l,U (r.at':Int),.bool r.bad] 208,K] ae aC ?_
 refine aN [0,1,2,3,4] ?_
 refine vB (t:=9) rfl (fun ab=>?_) (fun ab=>?_)
 ·replace ab:=fb ab
  refine c7 [5,6,7,8,9,10,11,12,13,14,15,16,17,18,19,20,21,22,23,24,25,26,27,28,29,30,99] ?_
  have a7:eb l.l r ec=(0,⟨r.at',true⟩):=if_pos (by unfold uA;rw [ab];rfl)
  rw [a7]
  exact bA
 replace ab:=fb ab
 refine aN [5,6,7,8,9,10,11,12,13,14,15,16] ?_
 refine vB (t:=21) rfl (fun af=>?_) (fun af=>?_)
 ·replace af:=fb af
  refine c7 [17,18,19,20,21,22,23,24,25,26,27,28,29,30,99] ?_
  have a7:eb l.l r ec=(0,⟨r.at',true⟩):=if_pos (by unfold uA;rw [decide_eq_true (show r.at'=l.l.length by omega)];simp)
  rw [a7]
  exact bA
 replace af:=fb af
 obtain⟨w,bh⟩:∃w,l.l[r.at']?=some w:=⟨_,List.getElem?_eq_getElem al⟩
 refine aN [17,18,19,20,21,22,23,24] ?_
 refine cy 25 rfl (h7 rfl rfl ae (l).en rfl al rfl) (hw:=(.yes 21 rfl rfl rfl)) ?_
 refine bs 26 rfl (eO (aW:=de) (aH:=1) (i:=r.at') (k:=0) (fun _=>rfl) rfl ar aJ ae bh rfl) (hw:=(.yes 21 rfl rfl rfl)) ?_
 refine bs 27 rfl (kn (z:=(w.toNat:Int)) rfl ae (nQ al (by have:=w.isLt;omega))) (hw:=(.yes 21 rfl rfl rfl)) ?_
 refine c7 [28,29,30,99] ?_
 refine aT ?_ ?_<;>intro az
 ·have hw:pS l.l r.at'=(w.toNat:Int):=by unfold pS;rw [bh]
  have a7:eb l.l r ec=(0,⟨r.at',true⟩):=if_pos (by unfold uA;rw [decide_eq_true (show pS l.l r.at'>ec by omega)];simp)
  rw [a7]
  exact bA
 refine c8 [aa q [aw l,U ((r.at':Int)+1),.bool r.bad] 208,K] ae aC ?_
 refine aN [0,1,2,3,4,5,6,7,8] ?_
 refine cy 9 rfl (h7 (j:=r.at') rfl rfl ae (l).en (by omega:(r.at':Int)+1-1=(r.at':Int)) al rfl) ?_
 refine bs 10 rfl (eO (aW:=de) (aH:=1) (i:=r.at') (k:=0) (fun _=>rfl) rfl ar aJ ae bh rfl) ?_
 refine bs 11 rfl (kn (z:=(w.toNat:Int)) rfl ae (nQ al (by have:=w.isLt;omega))) ?_
 refine c7 [12,99] ?_
 have hw:pS l.l r.at'=(w.toNat:Int):=by unfold pS;rw [bh]
 have a7:eb l.l r ec=((w.toNat:Int),⟨r.at'+1,r.bad⟩):=by rw [←hw];exact if_neg (by unfold uA;rw [ab,decide_eq_false (show¬r.at'=l.l.length by omega),decide_eq_false (show¬pS l.l r.at'>ec by omega)];decide)
 rw [a7]
 rw [show(r.at':Int)+1=((r.at'+1:Nat):Int)by omega]
 exact bA
abbrev Yc(l:List (BitVec 32))(r:c4):c4:=⟨(eb l r 4096).2.at',(eb l r 4096).2.bad||((eb l r 4096).1==0)⟩
def s3(l:List (BitVec 32))(p:(Nat→Int)×c4)(k:Int):(Nat→Int)×c4:=(bF p.1 (3+k.toNat) (eb l p.2 4096).1,Yc l p.2)
def fJ(l:List (BitVec 32))(p:(Nat→Int)×c4)(cP:List Int)(n:Nat):(Nat→Int)×c4:=(cP.take n).foldl (s3 l) p
theorem zs{l:List (BitVec 32)}{p:(Nat→Int)×c4}{cP:List Int}{n:Nat}{k:Int}(h:cP[n]?=some k):fJ l p cP (n+1)=s3 l (fJ l p cP n) k:=by
  unfold fJ;rw [List.take_add_one,h,List.foldl_append];rfl
theorem Cg{l:List (BitVec 32)}{p:(Nat→Int)×c4}{cP:List Int}(h:p.2.at'≤l.length):∀n,(fJ l p cP n).2.at'≤l.length
  |0=>h
  |n+1=>by
    cases aj:cP[n]? with
    |none=>
      have:fJ l p cP (n+1)=fJ l p cP n:=by unfold fJ;rw [List.take_add_one,aj];simp
      rw [this];exact Cg h n
    |some k=>rw [zs aj];exact(jg (Cg h n) (by decide)).1
abbrev zH(a b c:Int):Nat→Int:=fun i=>if i=0 then a else if i=1 then b else if i=2 then c else 0
abbrev wQ(l:List (BitVec 32))(r:c4):Int×c4:=eb l r 4096
abbrev u5(l:List (BitVec 32))(r:c4):Int×c4:=eb l (wQ l r).2 4096
abbrev wR(l:List (BitVec 32))(r:c4):Int×c4:=eb l (u5 l r).2 4096
abbrev D9(l:List (BitVec 32))(r:c4):Int×c4:=eb l (wR l r).2 255
abbrev fz(l:List (BitVec 32))(r:c4):BitVec 32:=BitVec.ofNat 32 (D9 l r).1.toNat
abbrev gp(l:List (BitVec 32))(r:c4):(Nat→Int)×c4:=(zH (wQ l r).1 (u5 l r).1 (wR l r).1,(D9 l r).2)
def nW(l:List (BitVec 32))(r:c4):(Nat→Int)×c4:=fJ l (gp l r) (bj (fz l r)) (bj (fz l r)).length
theorem Yd{v:Int}(b0:0≤v)(ab:v≤255){n:Int}(h:n∈bj (BitVec.ofNat 32 v.toNat)):0≤n∧n<8:=by
 unfold bj nU at h
 obtain⟨i,ak,rfl⟩:=List.mem_map.1 h
 obtain⟨af,az⟩:=List.mem_filter.1 ak
 refine⟨by omega,?_⟩
 apply Classical.byContradiction;intro gx
 have jf:8≤i:=by omega
 simp only [hasB]at az
 have cq:(BitVec.ofNat 32 v.toNat).toNat=v.toNat:=by rw [BitVec.toNat_ofNat];omega
 have:(BitVec.ofNat 32 v.toNat).getLsbD i=false:=by
  rw [BitVec.getLsbD,cq];exact Nat.testBit_lt_two_pow (Nat.lt_of_lt_of_le (show v.toNat<2^8 by omega) (Nat.pow_le_pow_right bu jf))
 simp_all
theorem FV{e:Nat→Int}{k:Nat}(h:k<8):(cg e)[3+k*1]?=some (U (e (3+k))):=by
  rcases(show k=0∨k=1∨k=2∨k=3∨k=4∨k=5∨k=6∨k=7 by omega)with rfl|rfl|rfl|rfl|rfl|rfl|rfl|rfl<;>rfl
theorem Ye{v:Int}(b0:0≤v)(ab:v≤255):IntKind.u32.wrap v=((BitVec.ofNat 32 v.toNat).toNat:Int):=by
  have e:(BitVec.ofNat 32 v.toNat).toNat=v.toNat:=by rw [BitVec.toNat_ofNat];omega
  rw [e,u32_in b0 (by omega)];omega
theorem SD{e:Nat→Int}{k:Nat}{v:Int}(h:k<8):(cg e).set (3+k*1) (U v)=cg (bF e (3+k) v):=by
  rcases(show k=0∨k=1∨k=2∨k=3∨k=4∨k=5∨k=6∨k=7 by omega)with rfl|rfl|rfl|rfl|rfl|rfl|rfl|rfl<;>simp [cg,bF]
theorem Yf(q:Nat)(l:ai (BitVec 32))(aJ:c1 K l.bl (l.l.flatMap de))(r:c4)(bk:r.at'≤l.l.length){aq:ao B}(bc:dL aq):aS B 82 [ag q] [aa q [aw l,U (r.at':Int),.bool r.bad] 208,K,aq] (fun v S=>v= .agg (cg (nW l.l r).1).toArray∧S=[aa q [aw l,U ((nW l.l r).2.at':Int),.bool (nW l.l r).2.bad] 208,K,aq]):=by
 refine dn 37 Tryz.func82 fun a4 ax=>?_
 have bM:=jg bk (show(0:Int)≤4096 by decide)
 have wS:=bM.1
 have bS:=jg wS (show(0:Int)≤4096 by decide)
 have yB:=bS.1
 have cD:=jg yB (show(0:Int)≤4096 by decide)
 have yC:=cD.1
 have cV:=jg yC (show(0:Int)≤255 by decide)
 refine ah ?_
 refine dt fun ay=>?_
 refine ds fun aM=>?_
 refine ct ?_
 refine k5 (α:=Nat) (fun dP=>True) (fun dP=>[(3,ag dP),(1,ag ay),(2,ag aM)]) (fun dP=>[aa ay [ag q] 206,aa aM ye 173,aa dP (cg (zH (wQ l.l r).1 (u5 l.l r).1 (wR l.l r).1)) 173,aa q [aw l,U ((wR l.l r).2.at':Int),.bool (wR l.l r).2.bad] 208,K,aq]) ?_ ?_
 ·skip
  refine c8 [aa ay [ag q] 206] ae aC ?_
  refine aN [0,2,4] ?_
  refine ju 1 7 jZ ?_ ?_
  ·skip
   refine lK (iF q l aJ r (by assumption) 4096) ?_
   rintro _ _ ⟨rfl,rfl⟩
   simp only [List.cons_append,List.nil_append]
   refine fV ?_
   refine ju 3 7 jZ ?_ ?_
   ·skip
    refine lK (iF q l aJ (wQ l.l r).2 (by assumption) 4096) ?_
    rintro _ _ ⟨rfl,rfl⟩
    simp only [List.cons_append,List.nil_append]
    refine fV ?_
    refine ju 5 7 jZ ?_ ?_
    ·skip
     refine lK (iF q l aJ (u5 l.l r).2 (by assumption) 4096) ?_
     rintro _ _ ⟨rfl,rfl⟩
     simp only [List.cons_append,List.nil_append]
     refine fV ?_
     refine aN [6,107] ?_
     refine jt rfl .no ae rfl (fun p5=>?_)
     refine aN [108,99] ?_
     exact fj p5 trivial
    skip
    refine jt rfl .no ae rfl (fun p5=>?_)
    refine e6 5 (iF q l aJ (u5 l.l r).2 (by assumption) 4096) ?_
    refine aN [6,108,99] ?_
    exact fj p5 trivial
   skip
   refine jt rfl .no ae rfl (fun p5=>?_)
   refine e6 3 (iF q l aJ (wQ l.l r).2 (by assumption) 4096) ?_
   refine e6 5 (iF q l aJ (u5 l.l r).2 (by assumption) 4096) ?_
   refine aN [6,108,99] ?_
   exact fj p5 trivial
  skip
  refine jt rfl .no ae rfl (fun p5=>?_)
  refine e6 1 (iF q l aJ r (by assumption) 4096) ?_
  refine e6 3 (iF q l aJ (wQ l.l r).2 (by assumption) 4096) ?_
  refine e6 5 (iF q l aJ (u5 l.l r).2 (by assumption) 4096) ?_
  refine aN [6,108,99] ?_
  exact fj p5 trivial
 rintro dP _
 refine ah ?_
 refine dA (iF q l aJ (wR l.l r).2 (by assumption) 255) ?_
 refine aA (kn (z:=((fz l.l r).toNat:Int)) rfl ae (Ye cV.2.1 cV.2.2)) ?_
 refine cA (ps (fz l.l r)) ?_
 rintro _ _ ⟨hk,rfl,rfl⟩
 refine cU ?_
 rw [show(aa dP (cg (zH (wQ l.l r).1 (u5 l.l r).1 (wR l.l r).1)) 173:ao B)=aa dP (cg (fJ l.l (gp l.l r) (bj (fz l.l r)) 0).1) 173 from rfl]
 rw [show(aa q [aw l,U ((D9 l.l r).2.at':Int),.bool (D9 l.l r).2.bad] 208:ao B)=aa q [aw l,U ((fJ l.l (gp l.l r) (bj (fz l.l r)) 0).2.at':Int),.bool (fJ l.l (gp l.l r) (bj (fz l.l r)) 0).2.bad] 208 from rfl]
 refine kh (own:=[aa hk [aI (fz l.l r).toNat] 158,aq]) (aP:=[aa ay [ag q] 206,aa aM ye 173,aa dP (cg (fJ l.l (gp l.l r) (bj (fz l.l r)) 0).1) 173,aa q [aw l,U ((fJ l.l (gp l.l r) (bj (fz l.l r)) 0).2.at':Int),.bool (fJ l.l (gp l.l r) (bj (fz l.l r)) 0).2.bad] 208,K]) rfl e2 (pg (K:=aq) hk (fz l.l r) bc) (fun i S=>S=[aa ay [ag q] 206,aa aM ye 173,aa dP (cg (fJ l.l (gp l.l r) (bj (fz l.l r)) i).1) 173,aa q [aw l,U ((fJ l.l (gp l.l r) (bj (fz l.l r)) i).2.at':Int),.bool (fJ l.l (gp l.l r) (bj (fz l.l r)) i).2.bad] 208,K]) (fun c i S=>False) (show Take ([aa hk [aI (fz l.l r).toNat] 158,aq,aa ay [ag q] 206,aa aM ye 173,aa dP (cg (fJ l.l (gp l.l r) (bj (fz l.l r)) 0).1) 173,aa q [aw l,U ((fJ l.l (gp l.l r) (bj (fz l.l r)) 0).2.at':Int),.bool (fJ l.l (gp l.l r) (bj (fz l.l r)) 0).2.bad] 208,K]) _ _ from aC) (rfl) rfl (fun x av=>by obtain⟨y,_,rfl⟩:=List.mem_map.1 av;rfl) ?_ ?_ ?_
 ·intro cu rec jF i aQ ak bt
  obtain rfl:=bt
  rw [List.length_map]at ak
  obtain⟨n,cN⟩:∃n,(bj (fz l.l r))[i]?=some n:=⟨_,List.getElem?_eq_getElem ak⟩
  obtain⟨Pu,aeT⟩:=Yd cV.2.1 cV.2.2 (List.mem_of_getElem? cN)
  have sm:=Cg (cP:=(bj (fz l.l r))) (p:=gp l.l r) cV.1 i
  rw [m6 cN]
  refine ah ?_
  refine⟨rfl,_,_,.cons ar (Take.self _),fun h1=>?_⟩
  refine ah ?_
  refine dA (iF q l aJ (fJ l.l (gp l.l r) (bj (fz l.l r)) i).2 (by assumption) 4096) ?_
  refine ct ?_
  refine aA (m7 rfl rfl ae (by omega:n=((n.toNat:Nat):Int)) al rfl) ?_
  refine fw (iG (k:=3+n.toNat*1) (fN:=cg (bF (fJ l.l (gp l.l r) (bj (fz l.l r)) i).1 (3+n.toNat) (eb l.l (fJ l.l (gp l.l r) (bj (fz l.l r)) i).2 4096).1)) rfl rfl rfl ar ae (by simp;omega) (SD al)) ?_
  refine ah ?_
  refine c8 [aa ay [ag q] 206,aa dP (cg (bF (fJ l.l (gp l.l r) (bj (fz l.l r)) i).1 (3+n.toNat) (eb l.l (fJ l.l (gp l.l r) (bj (fz l.l r)) i).2 4096).1)) 173,aa q [aw l,U ((eb l.l (fJ l.l (gp l.l r) (bj (fz l.l r)) i).2 4096).2.at':Int),.bool (eb l.l (fJ l.l (gp l.l r) (bj (fz l.l r)) i).2 4096).2.bad] 208] ae aC ?_
  refine aN [0,1,2,3,4,5] ?_
  refine vB (t:=27) rfl (fun ab=>?_) (fun ab=>?_)
  ·replace ab:=fb ab
   refine c7 [6,7,8,9,10,11,12,13,114,99] ?_
   rw [show(aa dP (cg (bF (fJ l.l (gp l.l r) (bj (fz l.l r)) i).1 (3+n.toNat) (eb l.l (fJ l.l (gp l.l r) (bj (fz l.l r)) i).2 4096).1)) 173:ao B)=aa dP (cg (fJ l.l (gp l.l r) (bj (fz l.l r)) (i+1)).1) 173 from by rw [zs cN];rfl]
   rw [show(aa q [aw l,U ((eb l.l (fJ l.l (gp l.l r) (bj (fz l.l r)) i).2 4096).2.at':Int),.bool true] 208:ao B)=aa q [aw l,U ((fJ l.l (gp l.l r) (bj (fz l.l r)) (i+1)).2.at':Int),.bool (fJ l.l (gp l.l r) (bj (fz l.l r)) (i+1)).2.bad] 208 from by rw [zs cN];show _=aa q [_,_,.bool (_||_)] _;rw [show(eb l.l (fJ l.l (gp l.l r) (bj (fz l.l r)) i).2 4096).2.bad=true from by assumption];rfl]
   exact⟨[aa ay [ag q] 206,aa aM ye 173,aa dP (cg (fJ l.l (gp l.l r) (bj (fz l.l r)) (i+1)).1) 173,aa q [aw l,U ((fJ l.l (gp l.l r) (bj (fz l.l r)) (i+1)).2.at':Int),.bool (fJ l.l (gp l.l r) (bj (fz l.l r)) (i+1)).2.bad] 208,K],_,aC,rfl⟩
  replace ab:=fb ab
  refine aN [6,7] ?_
  refine cy 8 rfl (m5 rfl rfl ae (by omega:n=((n.toNat:Nat):Int)) al rfl) (hw:=(.yes 27 rfl rfl rfl)) ?_
  refine bs 9 rfl (fm (v:=U (eb l.l (fJ l.l (gp l.l r) (bj (fz l.l r)) i).2 4096).1) rfl ar ae ((FV al).trans (by rw [e8]))) (hw:=(.yes 27 rfl rfl rfl)) ?_
  refine c7 [10,11,12,13,114,99] ?_
  rw [show(aa dP (cg (bF (fJ l.l (gp l.l r) (bj (fz l.l r)) i).1 (3+n.toNat) (eb l.l (fJ l.l (gp l.l r) (bj (fz l.l r)) i).2 4096).1)) 173:ao B)=aa dP (cg (fJ l.l (gp l.l r) (bj (fz l.l r)) (i+1)).1) 173 from by rw [zs cN];rfl]
  rw [show(aa q [aw l,U ((eb l.l (fJ l.l (gp l.l r) (bj (fz l.l r)) i).2 4096).2.at':Int),.bool ((eb l.l (fJ l.l (gp l.l r) (bj (fz l.l r)) i).2 4096).1==0)] 208:ao B)=aa q [aw l,U ((fJ l.l (gp l.l r) (bj (fz l.l r)) (i+1)).2.at':Int),.bool (fJ l.l (gp l.l r) (bj (fz l.l r)) (i+1)).2.bad] 208 from by rw [zs cN];show _=aa q [_,_,.bool (_||_)] _;rw [show(eb l.l (fJ l.l (gp l.l r) (bj (fz l.l r)) i).2 4096).2.bad=false from by assumption];rfl]
  exact⟨[aa ay [ag q] 206,aa aM ye 173,aa dP (cg (fJ l.l (gp l.l r) (bj (fz l.l r)) (i+1)).1) 173,aa q [aw l,U ((fJ l.l (gp l.l r) (bj (fz l.l r)) (i+1)).2.at':Int),.bool (fJ l.l (gp l.l r) (bj (fz l.l r)) (i+1)).2.bad] 208,K],_,aC,rfl⟩
 ·intro c0 aQ bt
  obtain rfl:=bt
  rw [List.length_map]
  rw [show(fJ l.l (gp l.l r) (bj (fz l.l r)) (bj (fz l.l r)).length)=nW l.l r from rfl]
  simp only [List.cons_append,List.nil_append]
  refine gK ?_
  refine cM (cg (nW l.l r).1) ?_
  refine ah ?_
  refine cc (show Take [du c0] _ _ from aC) (gA rfl rfl ar ae (by rfl)) ?_
  exact bA
 intro c0 c i aQ ak h
 exact h.elim
def yV(a b:Int):Nat→Int
  |0=>a
  |1=>b
  |_=>0
theorem SE{b:BitVec 32}{m:Nat}(h:b.toNat<2^m){n:Int}(a7:n∈bj b):0≤n∧n<m:=by
 unfold bj nU at a7
 obtain⟨i,ak,rfl⟩:=List.mem_map.1 a7
 obtain⟨af,az⟩:=List.mem_filter.1 ak
 refine⟨by omega,?_⟩
 apply Classical.byContradiction;intro gx
 have jf:m≤i:=by omega
 simp only [hasB]at az
 have:b.getLsbD i=false:=by
  rw [BitVec.getLsbD];exact Nat.testBit_lt_two_pow (Nat.lt_of_lt_of_le h (Nat.pow_le_pow_right bu jf))
 simp_all
theorem Yg{v:Int}(b0:0≤v)(ab:v≤65535):IntKind.u32.wrap v=((BitVec.ofNat 32 v.toNat).toNat:Int):=by
  have e:(BitVec.ofNat 32 v.toNat).toNat=v.toNat:=by rw [BitVec.toNat_ofNat];omega
  rw [e,u32_in b0 (by omega)];omega
abbrev wk(l:List (BitVec 32))(p:List (Nat→Int)×c4):Int×c4:=eb l p.2 16
abbrev yi(l:List (BitVec 32))(p:List (Nat→Int)×c4):Int×c4:=eb l (wk l p).2 3
def jS(l:List (BitVec 32))(r:c4):Nat→List (Nat→Int)×c4
  |0=>([],r)
  |n+1=>((jS l r n).1++[yV (wk l (jS l r n)).1 (yi l (jS l r n)).1],(yi l (jS l r n)).2)
theorem FW{l:List (BitVec 32)}{r:c4}(h:r.at'≤l.length):∀n,(jS l r n).2.at'≤l.length
  |0=>h
  |n+1=>(jg (jg (FW h n) (by decide)).1 (by decide)).1
theorem Fs{l:List (BitVec 32)}{r:c4}:∀n,(jS l r n).1.length=n
  |0=>rfl
  |n+1=>by rw [jS,List.length_append,Fs n];rfl
abbrev r5(l:List (BitVec 32))(r:c4):Int×c4:=eb l r 65535
abbrev ku(l:List (BitVec 32))(r:c4):Int×c4:=eb l (r5 l r).2 4
def mM(l:List (BitVec 32))(r:c4):(BitVec 32×List (Nat→Int))×c4:=((BitVec.ofNat 32 (r5 l r).1.toNat,(jS l (ku l r).2 (ku l r).1.toNat).1),(jS l (ku l r).2 (ku l r).1.toNat).2)
theorem KK{l:List (BitVec 32)}{r:c4}(h:r.at'≤l.length):(mM l r).2.at'≤l.length∧(mM l r).1.1.toNat<65536∧(mM l r).1.2.length≤4:=by
 have ab:=jg h (show(0:Int)≤65535 by decide)
 have af:=jg ab.1 (show(0:Int)≤4 by decide)
 refine⟨FW af.1 _,?_,?_⟩
 ·show(BitVec.ofNat 32 _).toNat<_;rw [BitVec.toNat_ofNat];have aeU:=ab.2.2;have aeV:=ab.2.1;unfold r5;omega
 show(jS l _ _).1.length≤4;rw [Fs];have aeW:=af.2.2;have aeX:=af.2.1;unfold ku r5;omega
theorem Yh(jY:Nat)(l:ai (BitVec 32))(aJ:c1 K l.bl (l.l.flatMap de))(r:c4)(bk:r.at'≤l.l.length):aS B 83 [ag jY] [aa jY [aw l,U (r.at':Int),.bool r.bad] 208,K] (fun v S=>∃q:ai (Nat→Int),(q.l=(mM l.l r).1.2∧q.Own)∧v= .agg #[aI (mM l.l r).1.1.toNat,aw q]∧S=[aa jY [aw l,U ((mM l.l r).2.at':Int),.bool (mM l.l r).2.bad] 208,oJ q,K]):=by
 refine dn 24 Tryz.func83 fun a4 ax=>?_
 have bM:=jg bk (show(0:Int)≤65535 by decide)
 have wS:=bM.1
 have bS:(ku l.l r).2.at'≤l.l.length∧0≤(ku l.l r).1∧(ku l.l r).1≤4:=jg wS (show(0:Int)≤4 by decide)
 have yB:=bS.1
 refine ah ?_
 refine da fun ay=>?_
 refine dA (iF jY l aJ r (by assumption) 65535) ?_
 refine aA (kn (z:=((BitVec.ofNat 32 (r5 l.l r).1.toNat).toNat:Int)) rfl ae (Yg bM.2.1 bM.2.2)) ?_
 refine ah ?_
 refine da fun aM=>?_
 refine dA (iF jY l aJ (r5 l.l r).2 (by assumption) 4) ?_
 rw [show(eb l.l (r5 l.l r).2 4)=ku l.l r from rfl]
 refine gD ?_
 refine hy kt 180 2 ?_
 refine dH (α:=Nat×ai (Nat→Int)) (fun⟨i,q⟩=>i≤(ku l.l r).1.toNat∧q.l=(jS l.l (ku l.l r).2 i).1∧q.Own) (fun⟨i,q⟩=>[(10,U (i:Int)),(0,ag jY),(2,ag ay),(3,ag aM),(9,U (ku l.l r).1)]) (fun⟨i,q⟩=>[aa ay [aI 0,.slice none 0 0] 177,aa aM [aI (BitVec.ofNat 32 (r5 l.l r).1.toNat).toNat,aw q] 177,aa jY [aw l,U ((jS l.l (ku l.l r).2 i).2.at':Int),.bool (jS l.l (ku l.l r).2 i).2.bad] 208,oJ q,K]) (fun⟨i,q⟩=>(ku l.l r).1.toNat-i) (0,ai.bG) ?_ dD bq ?_
 ·exact⟨Nat.zero_le _,rfl,ai.fY⟩
 rintro⟨i,q⟩ ⟨ak,bP,wT⟩
 dsimp only
 have Ea:q.l.length=i:=by rw [bP,Fs]
 have sm:=FW bS.1 i
 have aei:=(jg sm (show(0:Int)≤16 by decide)).1
 refine ah ?_
 refine bX ?_ ?_<;>intro ab
 ·refine ah ?_
  refine c8 [aa aM [aI (BitVec.ofNat 32 (r5 l.l r).1.toNat).toNat,aw q] 177] ae aC ?_
  refine aN [0,1,2,4] ?_
  refine e6 3 (iF jY l aJ (jS l.l (ku l.l r).2 i).2 (by assumption) 16) ?_
  refine e6 5 (iF jY l aJ (wk l.l (jS l.l (ku l.l r).2 i)).2 (by assumption) 3) ?_
  refine aN [6,107] ?_
  refine lN (au:=([(yV (wk l.l (jS l.l (ku l.l r).2 i)).1 (yi l.l (jS l.l (ku l.l r).2 i)).1)]:List (Nat→Int)).flatMap kt) rfl .no rfl ae bu bu (by rfl) (by rfl) rfl rfl (fun N8=>?_)
  refine aN [108] ?_
  refine mb (aW:=kt) (c:=q) (b:=ai.lit N8 [(yV (wk l.l (jS l.l (ku l.l r).2 i)).1 (yi l.l (jS l.l (ku l.l r).2 i)).1)] (by simp)) rfl .no rfl rfl ae ar dr (show Out (aa N8 (([(yV (wk l.l (jS l.l (ku l.l r).2 i)).1 (yi l.l (jS l.l (ku l.l r).2 i)).1)]:List (Nat→Int)).flatMap kt) 180) _ _ from ar) hF (fun _=>rfl) (fun _=>rfl) (by show q.l.length+1≤_;omega) (by show(q.l.length+1)*_≤_;omega) rfl (fun c2 gL jQ=>?_)
  refine c7 [9,110,99] ?_
  refine eg (i+1,c2) ?_ ?_ ?_ ?_
  ·(try dsimp only);exact⟨by omega,by rw [gL,bP];rfl,jQ⟩
  ·(try dsimp only);omega
  ·refine⟨?_,?_,?_,?_,?_,trivial⟩<;>rfl
  (try dsimp only);exact⟨_,bq⟩
 refine iW ?_
 refine cM [aI (BitVec.ofNat 32 (r5 l.l r).1.toNat).toNat,aw q] ?_
 refine ah ?_
 refine cc (.nil _) (gA rfl rfl ar ae (by rfl)) ?_
 obtain rfl:i=(ku l.l r).1.toNat:=by omega
 exact⟨[aa jY [aw l,U ((mM l.l r).2.at':Int),.bool (mM l.l r).2.bad] 208,oJ q,K],⟨q,⟨bP,wT⟩,rfl,rfl⟩,_,bq⟩
theorem Ub{e:Nat→Int}{k:Nat}{v:Int}(h:k<16):(cS e).set (3+k*1) (U v)=cS (bF e (3+k) v):=by
  rcases(show k=0∨k=1∨k=2∨k=3∨k=4∨k=5∨k=6∨k=7∨k=8∨k=9∨k=10∨k=11∨k=12∨k=13∨k=14∨k=15 by omega)with rfl|rfl|rfl|rfl|rfl|rfl|rfl|rfl|rfl|rfl|rfl|rfl|rfl|rfl|rfl|rfl<;>simp [cS,bF]
theorem Uc{e:Nat→Int}{k:Nat}{v:Int}(h:k<4):(cS e).set (19+k*1) (U v)=cS (bF e (19+k) v):=by
  rcases(show k=0∨k=1∨k=2∨k=3 by omega)with rfl|rfl|rfl|rfl<;>simp [cS,bF]
def AR(a b c:Int):Nat→Int
  |0=>a
  |1=>b
  |2=>c
  |_=>0
def oK(l:List (BitVec 32))(p:(Nat→Int)×c4):Nat→(Nat→Int)×c4
  |0=>p
  |n+1=>(bF (oK l p n).1 (19+n) (eb l (oK l p n).2 4).1,(eb l (oK l p n).2 4).2)
theorem CD{l:List (BitVec 32)}{p:(Nat→Int)×c4}(h:p.2.at'≤l.length):∀n,(oK l p n).2.at'≤l.length
  |0=>h
  |n+1=>(jg (CD h n) (by decide)).1
def th(l:List (BitVec 32))(p:(Nat→Int)×c4)(k:Int):(Nat→Int)×c4:=(bF p.1 (3+k.toNat) (eb l p.2 16384).1,(eb l p.2 16384).2)
def hQ(l:List (BitVec 32))(p:(Nat→Int)×c4)(cP:List Int)(n:Nat):(Nat→Int)×c4:=(cP.take n).foldl (th l) p
theorem Gt{l:List (BitVec 32)}{p:(Nat→Int)×c4}{cP:List Int}{n:Nat}{k:Int}(h:cP[n]?=some k):hQ l p cP (n+1)=th l (hQ l p cP n) k:=by
  unfold hQ;rw [List.take_add_one,h,List.foldl_append];rfl
theorem CE{l:List (BitVec 32)}{p:(Nat→Int)×c4}{cP:List Int}(h:p.2.at'≤l.length):∀n,(hQ l p cP n).2.at'≤l.length
  |0=>h
  |n+1=>by
    cases aj:cP[n]? with
    |none=>
      have:hQ l p cP (n+1)=hQ l p cP n:=by unfold hQ;rw [List.take_add_one,aj];simp
      rw [this];exact CE h n
    |some k=>rw [Gt aj];exact(jg (CE h n) (by decide)).1
abbrev AS(l:List (BitVec 32))(r:c4):Int×c4:=eb l r 8
abbrev yD(l:List (BitVec 32))(r:c4):Int×c4:=eb l (AS l r).2 8
abbrev PA(l:List (BitVec 32))(r:c4):Int×c4:=eb l (yD l r).2 3
abbrev o0(l:List (BitVec 32))(r:c4):(Nat→Int)×c4:=(AR (AS l r).1 (yD l r).1 (PA l r).1,(PA l r).2)
abbrev dJ(l:List (BitVec 32))(r:c4):(Nat→Int)×c4:=oK l (o0 l r) 4
def ml(c:dG)(l:List (BitVec 32))(r:c4):(Nat→Int)×c4:=if(dJ l r).1 2=3 then hQ l (dJ l r) (bj (eY c (dJ l r).1)) (bj (eY c (dJ l r).1)).length else dJ l r
theorem SF{c:dG}{l:List (BitVec 32)}{r:c4}(h:r.at'≤l.length):(ml c l r).2.at'≤l.length:=by
  have ab:=(jg h (show(0:Int)≤8 by decide)).1
  have af:=(jg ab (show(0:Int)≤8 by decide)).1
  have az:=(jg af (show(0:Int)≤3 by decide)).1
  have a5:=CD (p:=o0 l r) az 4
  unfold ml;split
  · exact CE a5 _
  · exact a5
theorem Lx{c:dG}(h:∀p∈c.ba,p.1.toNat<65536)(e:Nat→Int):(eY c e).toNat<2^16:=by
  have:(cw c (e 1)).toNat<65536:=by
    unfold cw;split
    · decide
    · split
      · rename_i q;exact h _ (List.mem_of_getElem? q)
      · decide
  rw [BitVec.toNat_and]
  exact Nat.lt_of_le_of_lt Nat.and_le_left this
theorem Yi(q:Nat)(l:ai (BitVec 32))(aJ:c1 K l.bl (l.l.flatMap de))(r:c4)(bk:r.at'≤l.l.length)(x:bQ){kD:ao B}(av:x.In kD)(hm:∀p∈x.c.ba,p.1.toNat<65536){aq:ao B}(bc:dL aq):aS B 84 [ag q,x.v] [aa q [aw l,U (r.at':Int),.bool r.bad] 208,K,kD,aq] (fun v S=>v= .agg (cS (ml x.c l.l r).1).toArray∧S=[aa q [aw l,U ((ml x.c l.l r).2.at':Int),.bool (ml x.c l.l r).2.bad] 208,K,kD,aq]):=by
 refine dn 39 Tryz.func84 fun a4 ax=>?_
 have wS:=(jg bk (show(0:Int)≤8 by decide)).1
 have yB:=(jg wS (show(0:Int)≤8 by decide)).1
 have yC:=(jg yB (show(0:Int)≤3 by decide)).1
 have HY:=CD (p:=o0 l.l r) yC 4
 refine ah ?_
 refine dt fun ay=>?_
 refine dt fun aM=>?_
 refine ds fun bw=>?_
 refine ct ?_
 refine k5 (α:=Nat) (fun mB=>True) (fun mB=>[(5,ag mB),(2,ag ay),(3,ag aM),(4,ag bw)]) (fun mB=>[aa ay [ag q] 206,aa aM (bJ x) 41,aa bw yf 184,aa mB (cS (o0 l.l r).1) 184,aa q [aw l,U ((o0 l.l r).2.at':Int),.bool (o0 l.l r).2.bad] 208,K,kD,aq]) ?_ ?_
 ·skip
  refine c8 [aa ay [ag q] 206] ae aC ?_
  refine aN [0,2,4] ?_
  refine ju 1 7 jZ ?_ ?_
  ·skip
   refine lK (iF q l aJ r (by assumption) 8) ?_
   rintro _ _ ⟨rfl,rfl⟩
   simp only [List.cons_append,List.nil_append]
   refine fV ?_
   refine ju 3 7 jZ ?_ ?_
   ·skip
    refine lK (iF q l aJ (AS l.l r).2 (by assumption) 8) ?_
    rintro _ _ ⟨rfl,rfl⟩
    simp only [List.cons_append,List.nil_append]
    refine fV ?_
    refine ju 5 7 jZ ?_ ?_
    ·skip
     refine lK (iF q l aJ (yD l.l r).2 (by assumption) 3) ?_
     rintro _ _ ⟨rfl,rfl⟩
     simp only [List.cons_append,List.nil_append]
     refine fV ?_
     refine aN [6,107] ?_
     refine jt rfl .no ae rfl (fun tx=>?_)
     refine aN [108,99] ?_
     exact fj tx trivial
    skip
    refine jt rfl .no ae rfl (fun tx=>?_)
    refine e6 5 (iF q l aJ (yD l.l r).2 (by assumption) 3) ?_
    refine aN [6,108,99] ?_
    exact fj tx trivial
   skip
   refine jt rfl .no ae rfl (fun tx=>?_)
   refine e6 3 (iF q l aJ (AS l.l r).2 (by assumption) 8) ?_
   refine e6 5 (iF q l aJ (yD l.l r).2 (by assumption) 3) ?_
   refine aN [6,108,99] ?_
   exact fj tx trivial
  skip
  refine jt rfl .no ae rfl (fun tx=>?_)
  refine e6 1 (iF q l aJ r (by assumption) 8) ?_
  refine e6 3 (iF q l aJ (AS l.l r).2 (by assumption) 8) ?_
  refine e6 5 (iF q l aJ (yD l.l r).2 (by assumption) 3) ?_
  refine aN [6,108,99] ?_
  exact fj tx trivial
 rintro mB _
 refine ah ?_
 refine dH (α:=Nat) (fun i=>i≤4) (fun i=>[(15,U (i:Int)),(2,ag ay),(3,ag aM),(4,ag bw),(5,ag mB)]) (fun i=>[aa ay [ag q] 206,aa aM (bJ x) 41,aa bw yf 184,aa mB (cS (oK l.l (o0 l.l r) i).1) 184,aa q [aw l,U ((oK l.l (o0 l.l r) i).2.at':Int),.bool (oK l.l (o0 l.l r) i).2.bad] 208,K,kD,aq]) (fun i=>4-i) 0 ?_ dD bq ?_
 ·exact Nat.zero_le _
 rintro i ak
 have sm:=CD (p:=o0 l.l r) yC i
 refine ah ?_
 refine bX ?_ ?_<;>intro ab
 ·refine ah ?_
  refine e1 (iF q l aJ (oK l.l (o0 l.l r) i).2 (by assumption) 4) ?_
  refine fw (iG (k:=19+i*1) (fN:=cS (bF (oK l.l (o0 l.l r) i).1 (19+i) (eb l.l (oK l.l (o0 l.l r) i).2 4).1)) rfl rfl rfl ar ae (by simp;omega) (Uc al)) ?_
  refine ah ?_
  refine fX (i+1) ?_
  omega
 obtain rfl:i=4:=by omega
 refine uj ?_
 refine tS ?_
 refine tU ?_
 refine tT ?_
 refine ik ?_
 refine dZ ?_
 refine dZ ?_
 refine fl ?_
 refine aA (kf ae) ?_
 refine aA (fm (v:=U ((dJ l.l r).1 2)) rfl ar ae (by rfl)) ?_
 refine ah ?_
 refine bX ?_ ?_<;>intro af
 ·refine dW ?_
  refine cM (cS (dJ l.l r).1) ?_
  refine ah ?_
  refine cc (.nil _) (gA rfl rfl ar ae (by rfl)) ?_
  rw [show ml x.c l.l r=(dJ l.l r)from if_neg cl]
  exact bA
 refine cW ?_
 refine cM (bJ x) ?_
 refine cM (cS (dJ l.l r).1) ?_
 refine dA (Mq (K:=kD) x av (dJ l.l r).1) ?_
 refine cA (ps (eY x.c (dJ l.l r).1)) ?_
 rintro _ _ ⟨hk,rfl,rfl⟩
 refine cU ?_
 rw [show(aa mB (cS (dJ l.l r).1) 184:ao B)=aa mB (cS (hQ l.l (dJ l.l r) (bj (eY x.c (dJ l.l r).1)) 0).1) 184 from rfl]
 rw [show(aa q [aw l,U ((dJ l.l r).2.at':Int),.bool (dJ l.l r).2.bad] 208:ao B)=aa q [aw l,U ((hQ l.l (dJ l.l r) (bj (eY x.c (dJ l.l r).1)) 0).2.at':Int),.bool (hQ l.l (dJ l.l r) (bj (eY x.c (dJ l.l r).1)) 0).2.bad] 208 from rfl]
 refine kh (own:=[aa hk [aI (eY x.c (dJ l.l r).1).toNat] 158,aq]) (aP:=[aa ay [ag q] 206,aa aM (bJ x) 41,aa bw yf 184,aa mB (cS (hQ l.l (dJ l.l r) (bj (eY x.c (dJ l.l r).1)) 0).1) 184,aa q [aw l,U ((hQ l.l (dJ l.l r) (bj (eY x.c (dJ l.l r).1)) 0).2.at':Int),.bool (hQ l.l (dJ l.l r) (bj (eY x.c (dJ l.l r).1)) 0).2.bad] 208,K,kD]) rfl e2 (pg (K:=aq) hk (eY x.c (dJ l.l r).1) bc) (fun i S=>S=[aa ay [ag q] 206,aa aM (bJ x) 41,aa bw yf 184,aa mB (cS (hQ l.l (dJ l.l r) (bj (eY x.c (dJ l.l r).1)) i).1) 184,aa q [aw l,U ((hQ l.l (dJ l.l r) (bj (eY x.c (dJ l.l r).1)) i).2.at':Int),.bool (hQ l.l (dJ l.l r) (bj (eY x.c (dJ l.l r).1)) i).2.bad] 208,K,kD]) (fun c i S=>False) (show Take ([aa hk [aI (eY x.c (dJ l.l r).1).toNat] 158,aq,aa ay [ag q] 206,aa aM (bJ x) 41,aa bw yf 184,aa mB (cS (hQ l.l (dJ l.l r) (bj (eY x.c (dJ l.l r).1)) 0).1) 184,aa q [aw l,U ((hQ l.l (dJ l.l r) (bj (eY x.c (dJ l.l r).1)) 0).2.at':Int),.bool (hQ l.l (dJ l.l r) (bj (eY x.c (dJ l.l r).1)) 0).2.bad] 208,K,kD]) _ _ from aC) (rfl) rfl (fun x av=>by obtain⟨y,_,rfl⟩:=List.mem_map.1 av;rfl) ?_ ?_ ?_
 ·intro cu rec jF i aQ ak bt
  obtain rfl:=bt
  rw [List.length_map]at ak
  obtain⟨n,cN⟩:∃n,(bj (eY x.c (dJ l.l r).1))[i]?=some n:=⟨_,List.getElem?_eq_getElem ak⟩
  obtain⟨Pu,aej⟩:=SE (Lx hm _) (List.mem_of_getElem? cN)
  have sm:=CE (cP:=(bj (eY x.c (dJ l.l r).1))) (p:=(dJ l.l r)) HY i
  rw [m6 cN]
  refine ah ?_
  refine⟨rfl,_,_,.cons ar (Take.self _),fun h1=>?_⟩
  refine ah ?_
  refine dA (iF q l aJ (hQ l.l (dJ l.l r) (bj (eY x.c (dJ l.l r).1)) i).2 (by assumption) 16384) ?_
  refine ct ?_
  refine aA (m7 rfl rfl ae (by omega:n=((n.toNat:Nat):Int)) al rfl) ?_
  refine fw (iG (k:=3+n.toNat*1) (fN:=cS (bF (hQ l.l (dJ l.l r) (bj (eY x.c (dJ l.l r).1)) i).1 (3+n.toNat) (eb l.l (hQ l.l (dJ l.l r) (bj (eY x.c (dJ l.l r).1)) i).2 16384).1)) rfl rfl rfl ar ae (by simp;omega) (Ub al)) ?_
  refine ah ?_
  rw [show(aa mB (cS (bF (hQ l.l (dJ l.l r) (bj (eY x.c (dJ l.l r).1)) i).1 (3+n.toNat) (eb l.l (hQ l.l (dJ l.l r) (bj (eY x.c (dJ l.l r).1)) i).2 16384).1)) 184:ao B)=aa mB (cS (hQ l.l (dJ l.l r) (bj (eY x.c (dJ l.l r).1)) (i+1)).1) 184 from by rw [Gt cN];rfl]
  rw [show(aa q [aw l,U ((eb l.l (hQ l.l (dJ l.l r) (bj (eY x.c (dJ l.l r).1)) i).2 16384).2.at':Int),.bool (eb l.l (hQ l.l (dJ l.l r) (bj (eY x.c (dJ l.l r).1)) i).2 16384).2.bad] 208:ao B)=aa q [aw l,U ((hQ l.l (dJ l.l r) (bj (eY x.c (dJ l.l r).1)) (i+1)).2.at':Int),.bool (hQ l.l (dJ l.l r) (bj (eY x.c (dJ l.l r).1)) (i+1)).2.bad] 208 from by rw [Gt cN];rfl]
  exact⟨[aa ay [ag q] 206,aa aM (bJ x) 41,aa bw yf 184,aa mB (cS (hQ l.l (dJ l.l r) (bj (eY x.c (dJ l.l r).1)) (i+1)).1) 184,aa q [aw l,U ((hQ l.l (dJ l.l r) (bj (eY x.c (dJ l.l r).1)) (i+1)).2.at':Int),.bool (hQ l.l (dJ l.l r) (bj (eY x.c (dJ l.l r).1)) (i+1)).2.bad] 208,K,kD],_,aC,rfl⟩
 ·intro c0 aQ bt
  obtain rfl:=bt
  rw [List.length_map]
  have he:ml x.c l.l r=(hQ l.l (dJ l.l r) (bj (eY x.c (dJ l.l r).1)) (bj (eY x.c (dJ l.l r).1)).length):=if_pos cl
  rw [←he]
  simp only [List.cons_append,List.nil_append]
  refine gK ?_
  refine cM (cS (ml x.c l.l r).1) ?_
  refine ah ?_
  refine cc (show Take [du c0] _ _ from aC) (gA rfl rfl ar ae (by rfl)) ?_
  exact bA
 intro c0 c i aQ ak h
 exact h.elim
abbrev u6:c4:=⟨0,false⟩
abbrev PB(l:List (BitVec 32)):Int×c4:=eb l u6 1380273457
abbrev yE(l:List (BitVec 32)):c4:=⟨(PB l).2.at',(PB l).1 !=1380273457⟩
abbrev kb(l:List (BitVec 32)):Int×c4:=eb l (yE l) 8
abbrev o1(l:List (BitVec 32)):Int×c4:=eb l (kb l).2 16
abbrev o2(l:List (BitVec 32)):Int×c4:=eb l (o1 l).2 8
abbrev lE(l:List (BitVec 32)):Int×c4:=eb l (o2 l).2 24
theorem SG{l:List (BitVec 32)}{r:c4}(h:r.at'≤l.length):(nW l r).2.at'≤l.length:=
  Cg (jg (jg (jg (jg h (by decide)).1 (by decide)).1 (by decide)).1 (by decide)).1 _
def oL(l:List (BitVec 32))(r:c4):Nat→List (Nat→Int)×c4
  |0=>([],r)
  |n+1=>((oL l r n).1++[(nW l (oL l r n).2).1],(nW l (oL l r n).2).2)
theorem CF{l:List (BitVec 32)}{r:c4}(h:r.at'≤l.length):∀n,(oL l r n).2.at'≤l.length∧(oL l r n).1.length=n
  |0=>⟨h,rfl⟩
  |n+1=>⟨SG (CF h n).1,by rw [oL,List.length_append,(CF h n).2];rfl⟩
def nn(l:List (BitVec 32))(r:c4):Nat→List (BitVec 32×List (Nat→Int))×c4
  |0=>([],r)
  |n+1=>((nn l r n).1++[(mM l (nn l r n).2).1],(mM l (nn l r n).2).2)
theorem vJ{l:List (BitVec 32)}{r:c4}(h:r.at'≤l.length):∀n,(nn l r n).2.at'≤l.length∧(nn l r n).1.length=n∧∀p∈(nn l r n).1,p.1.toNat<65536∧p.2.length≤4
  |0=>⟨h,rfl,fun p aE=>by cases aE⟩
  | n + 1 => ⟨(KK (vJ h n).1).1, by rw [nn, List.length_append, (vJ h n).2.1]; rfl, fun p aE => by
      rcases List.mem_append.1 aE with q|q
      · exact(vJ h n).2.2 p q
      · simp at q;subst q;exact(KK (vJ h n).1).2⟩
def oM(c:dG)(l:List (BitVec 32))(r:c4):Nat→List (Nat→Int)×c4
  |0=>([],r)
  |n+1=>((oM c l r n).1++[(ml c l (oM c l r n).2).1],(ml c l (oM c l r n).2).2)
theorem FX{c:dG}{l:List (BitVec 32)}{r:c4}(h:r.at'≤l.length):∀n,(oM c l r n).2.at'≤l.length∧(oM c l r n).1.length=n
  |0=>⟨h,rfl⟩
  |n+1=>⟨SF (FX h n).1,by rw [oM,List.length_append,(FX h n).2];rfl⟩
abbrev oi(l:List (BitVec 32)):List (Nat→Int)×c4:=oL l (lE l).2 (o1 l).1.toNat
abbrev oj(l:List (BitVec 32)):List (BitVec 32×List (Nat→Int))×c4:=nn l (oi l).2 (o2 l).1.toNat
abbrev o3(l:List (BitVec 32)):dG:=⟨(kb l).1,(oi l).1,(oj l).1,[]⟩
abbrev yR(l:List (BitVec 32)):List (Nat→Int)×c4:=oM (o3 l) l (oj l).2 (lE l).1.toNat
def oN(l:List (BitVec 32)):dG×c4:=(⟨(kb l).1,(oi l).1,(oj l).1,(yR l).1⟩,(yR l).2)
def ld(l:List (BitVec 32)):Option dG:=if(oN l).2.bad=true∨(oN l).2.at'≠l.length then none else if(iS (oN l).1).2=0 then some (oN l).1 else none
def oO(l:List (BitVec 32)):Int:=if(ld l).isSome=true then 0 else 110
abbrev qC(a:ai (Nat→Int)):ao B:=cr a 173 11 cg
abbrev oP(a:ai (Nat→Int)):ao B:=cr a 184 23 cS
abbrev rf(a:ai Mode):ao B:=cr a 177 2 eI
abbrev rW(l:List Mode):List (ao B):=l.reverse.map fun m=>oJ m.q
abbrev rX(t:ai (Nat→Int))(m:ai Mode):ao B:=all ([qC t,rf m]++rW m.l)
theorem Mr{y:bQ}(h:y.Own):y.In (all [oP (B:=B) y.a0,rX y.aG y.ba]):=by
 have k:rX (B:=B) y.aG y.ba∈[oP (B:=B) y.a0,rX y.aG y.ba]:=by simp
 refine⟨mh k (mh (a:=qC y.aG) (by simp) (eh h.aG rfl)),mh k (mh (a:=rf y.ba) (by simp) (eh h.ba rfl)),mh (a:=oP y.a0) (by simp) (eh h.a0 rfl),fun m hm=>mh k (mh (a:=oJ m.q) ?_ (eh (h.sU m hm) rfl))⟩
 exact List.mem_append_right _ (List.mem_map.2 ⟨m,List.mem_reverse.2 hm,rfl⟩)
theorem Ly(l:ai (BitVec 32))(aJ:c1 K l.bl (l.l.flatMap de)){aq:ao B}(bc:dL aq):aS B 46 [aw l] [K,aq] (fun v S=>∃y:bQ,((∀c,ld l.l=some c→y.c=c)∧y.Own)∧v= .tuple #[y.v,U (oO l.l)]∧S=[all (hn y),K,aq]):=by
 refine dn 86 Tryz.func46 fun a4 ax=>?_
 have vn:=(jg (l:=l.l) (r:=u6) (Nat.zero_le _) (show(0:Int)≤1380273457 by decide)).1
 have ace:(yE l.l).at'≤l.l.length:=vn
 have wS:=(jg ace (show(0:Int)≤8 by decide)).1
 have bS:(o1 l.l).2.at'≤l.l.length∧0≤(o1 l.l).1∧(o1 l.l).1≤16:=jg wS bu
 have yB:=bS.1
 have cD:(o2 l.l).2.at'≤l.l.length∧0≤(o2 l.l).1∧(o2 l.l).1≤8:=jg yB bu
 have yC:=cD.1
 have cV:(lE l.l).2.at'≤l.l.length∧0≤(lE l.l).1∧(lE l.l).1≤24:=jg yC bu
 have HY:=cV.1
 have ff:=(CF HY (o1 l.l).1.toNat).1
 have gE:=(vJ ff (o2 l.l).1.toNat).1
 refine ah ?_
 refine da fun ay=>?_
 refine fe (au:=[aw l,U 0,.bool false]) fun aM=>?_
 rw [show(aa aM [aw l,U 0,.bool false] 208:ao B)=aa aM [aw l,U (u6.at':Int),.bool u6.bad] 208 from rfl]
 refine e1 (iF aM l aJ u6 (Nat.zero_le _) 1380273457) ?_
 refine e1 (iF aM l aJ (yE l.l) (by assumption) 8) ?_
 refine da fun bw=>?_
 refine e1 (iF aM l aJ (kb l.l).2 (by assumption) 16) ?_
 refine e1 (iF aM l aJ (o1 l.l).2 (by assumption) 8) ?_
 refine dA (iF aM l aJ (o2 l.l).2 (by assumption) 24) ?_
 refine wc ?_
 refine hy cg 173 11 ?_
 refine dH (α:=Nat×ai (Nat→Int)) (fun⟨i,c3⟩=>i≤(o1 l.l).1.toNat∧c3.l=(oL l.l (lE l.l).2 i).1∧c3.Own) (fun⟨i,c3⟩=>[(30,U (i:Int)),(0,aw l),(2,ag ay),(3,U 0),(4,ag aM),(5,ag bw),(6,U (o1 l.l).1),(7,U (o2 l.l).1),(8,U (lE l.l).1),(29,U (o1 l.l).1)]) (fun⟨i,c3⟩=>[aa ay [U 0,.slice none 0 0,.slice none 0 0,.slice none 0 0] 41,aa bw [U (kb l.l).1,aw c3,.slice none 0 0,.slice none 0 0] 41,aa aM [aw l,U ((oL l.l (lE l.l).2 i).2.at':Int),.bool (oL l.l (lE l.l).2 i).2.bad] 208,qC c3,K,aq]) (fun⟨i,c3⟩=>(o1 l.l).1.toNat-i) (0,ai.bG) ?_ dD bq ?_
 ·exact⟨Nat.zero_le _,rfl,ai.fY⟩
 rintro⟨i,c3⟩ ⟨ak,u4,Ak⟩
 dsimp only
 obtain⟨sm,yF⟩:=CF cV.1 i
 have hh:c3.l.length=i:=by rw [u4,yF]
 refine ah ?_
 refine bX ?_ ?_<;>intro ab
 ·refine ah ?_
  refine c8 [aa bw [U (kb l.l).1,aw c3,.slice none 0 0,.slice none 0 0] 41] ae aC ?_
  refine aN [0,1,2] ?_
  refine e6 3 (Yf aM l aJ (oL l.l (lE l.l).2 i).2 (by assumption) bc) ?_
  refine aN [104] ?_
  refine lN (au:=([(nW l.l (oL l.l (lE l.l).2 i).2).1]:List (Nat→Int)).flatMap cg) rfl .no rfl ae bu bu (by rfl) (by rfl) rfl rfl (fun N9=>?_)
  refine aN [105] ?_
  refine mb (aW:=cg) (c:=c3) (b:=ai.lit N9 [(nW l.l (oL l.l (lE l.l).2 i).2).1] (by simp)) rfl .no rfl rfl ae ar dr (show Out (aa N9 (([(nW l.l (oL l.l (lE l.l).2 i).2).1]:List (Nat→Int)).flatMap cg) 173) _ _ from ar) hF (fun _=>rfl) (fun _=>rfl) (by show c3.l.length+1≤_;omega) (by show(c3.l.length+1)*_≤_;omega) rfl (fun c2 gL jQ=>?_)
  refine c7 [6,107,99] ?_
  refine eg (i+1,c2) ?_ ?_ ?_ ?_
  ·(try dsimp only);exact⟨by omega,by rw [gL,u4];rfl,jQ⟩
  ·(try dsimp only);omega
  ·refine⟨?_,?_,?_,?_,?_,?_,?_,?_,?_,?_,trivial⟩<;>rfl
  (try dsimp only);exact⟨_,bq⟩
 obtain rfl:i=(o1 l.l).1.toNat:=by omega
 refine uj ?_
 refine tS ?_
 refine tU ?_
 refine tT ?_
 refine ik ?_
 refine dZ ?_
 refine dZ ?_
 refine fl ?_
 refine aA (dh rfl) ?_
 refine aA (dh rfl) ?_
 refine hd ?_
 refine qY ?_
 refine hy eI 177 2 ?_
 refine td um ?_
 refine dH (α:=Nat×ai Mode) (fun⟨i,cI⟩=>i≤(o2 l.l).1.toNat∧cI.l.map kq=(nn l.l (oi l.l).2 i).1∧cI.Own∧∀m∈cI.l,m.q.Own) (fun⟨i,cI⟩=>[(41,U (i:Int)),(0,aw l),(2,ag ay),(3,U 0),(4,ag aM),(5,ag bw),(6,U (o1 l.l).1),(7,U (o2 l.l).1),(8,U (lE l.l).1),(40,U (o2 l.l).1)]) (fun⟨i,cI⟩=>[aa ay [U 0,.slice none 0 0,.slice none 0 0,.slice none 0 0] 41,aa bw [U (kb l.l).1,aw c3,aw cI,.slice none 0 0] 41,aa aM [aw l,U ((nn l.l (oi l.l).2 i).2.at':Int),.bool (nn l.l (oi l.l).2 i).2.bad] 208,qC c3,rf cI,all (rW cI.l),K,aq]) (fun⟨i,cI⟩=>(o2 l.l).1.toNat-i) (0,ai.bG) ?_ dD bq ?_
 ·exact⟨Nat.zero_le _,rfl,ai.fY,fun m hm=>by cases hm⟩
 rintro⟨i,cI⟩ ⟨ak,ns,tg,wT⟩
 dsimp only
 obtain⟨sm,yF,_⟩:=vJ ff i
 have hh:cI.l.length=i:=by rw [←List.length_map (f:=kq),ns,yF]
 refine ah ?_
 refine bX ?_ ?_<;>intro af
 ·refine ah ?_
  refine c8 [aa bw [U (kb l.l).1,aw c3,aw cI,.slice none 0 0] 41] ae aC ?_
  refine aN [0,1,2] ?_
  refine jU 3 (Yh aM l aJ (nn l.l (oi l.l).2 i).2 (by assumption)) ?_
  rintro _ _ ⟨yW,⟨acf,aaf⟩,rfl,rfl⟩
  simp only [List.cons_append,List.nil_append]
  refine fV ?_
  refine aN [104] ?_
  refine lN (au:=([(⟨(mM l.l (nn l.l (oi l.l).2 i).2).1.1,yW⟩:Mode)]:List Mode).flatMap eI) rfl .no rfl ae bu bu (by rfl) (by rfl) rfl rfl (fun Oa=>?_)
  refine aN [105] ?_
  refine mb (aW:=eI) (c:=cI) (b:=ai.lit Oa [(⟨(mM l.l (nn l.l (oi l.l).2 i).2).1.1,yW⟩:Mode)] (by simp)) rfl .no rfl rfl ae ar dr (show Out (aa Oa (([(⟨(mM l.l (nn l.l (oi l.l).2 i).2).1.1,yW⟩:Mode)]:List Mode).flatMap eI) 177) _ _ from ar) hF (fun _=>rfl) (fun _=>rfl) (by show cI.l.length+1≤_;omega) (by show(cI.l.length+1)*_≤_;omega) rfl (fun c2 gL jQ=>?_)
  refine aN [6,107,99] ?_
  refine gD ?_
  refine kS (FJ (oJ yW) aC) ?_
  refine ah ?_
  rw [show(all (oJ yW::rW cI.l):ao B)=all (rW c2.l)from by rw [gL];unfold rW;rw [List.reverse_append];rfl]
  refine eg (i+1,c2) ?_ ?_ ?_ ?_
  ·(try dsimp only);exact⟨by omega,by rw [gL,List.map_append,ns,nn];show _++[(_,yW.l)]=_;rw [acf],jQ,fun m hm=>by rw [gL]at hm;rcases List.mem_append.1 hm with q|q;exact wT m q;obtain rfl:=List.mem_singleton.1 q;exact aaf⟩
  ·(try dsimp only);omega
  ·refine⟨?_,?_,?_,?_,?_,?_,?_,?_,?_,?_,trivial⟩<;>rfl
  (try dsimp only);exact⟨_,bq⟩
 obtain rfl:i=(o2 l.l).1.toNat:=by omega
 have pz:∀p∈cI.l.map kq,p.1.toNat<65536:=by rw [ns];exact fun p aE=>((vJ ff _).2.2 p aE).1
 refine uj ?_
 refine tS ?_
 refine tU ?_
 refine tT ?_
 refine ik ?_
 refine dZ ?_
 refine dZ ?_
 refine fl ?_
 refine aA (dh rfl) ?_
 refine aA (dh rfl) ?_
 refine hd ?_
 refine qY ?_
 refine td (CS (l:=[qC c3,rf cI]) (m:=rW cI.l) (show Take [qC c3,rf cI,all (rW cI.l)] _ _ from aC)) ?_
 refine hy cS 184 23 ?_
 refine td (jv (l:=[oP (ai.bG:ai (Nat→Int)),rX c3 cI]) bq) ?_
 refine dH (α:=Nat×ai (Nat→Int)) (fun⟨i,ce⟩=>i≤(lE l.l).1.toNat∧ce.l=(oM (o3 l.l) l.l (oj l.l).2 i).1∧ce.Own) (fun⟨i,ce⟩=>[(52,U (i:Int)),(0,aw l),(2,ag ay),(3,U 0),(4,ag aM),(5,ag bw),(6,U (o1 l.l).1),(7,U (o2 l.l).1),(8,U (lE l.l).1),(51,U (lE l.l).1)]) (fun⟨i,ce⟩=>[aa ay [U 0,.slice none 0 0,.slice none 0 0,.slice none 0 0] 41,aa bw [U (kb l.l).1,aw c3,aw cI,aw ce] 41,aa aM [aw l,U ((oM (o3 l.l) l.l (oj l.l).2 i).2.at':Int),.bool (oM (o3 l.l) l.l (oj l.l).2 i).2.bad] 208,all [oP ce,rX c3 cI],K,aq]) (fun⟨i,ce⟩=>(lE l.l).1.toNat-i) (0,ai.bG) ?_ dD bq ?_
 ·exact⟨Nat.zero_le _,rfl,ai.fY⟩
 rintro⟨i,ce⟩ ⟨ak,hi,wj⟩
 dsimp only
 obtain⟨sm,yF⟩:=FX (c:=o3 l.l) gE i
 have hh:ce.l.length=i:=by rw [hi,yF]
 refine ah ?_
 refine aT ?_ ?_<;>intro az
 ·refine c8 [aa bw [U (kb l.l).1,aw c3,aw cI,aw ce] 41] ae aC ?_
  refine aN [0,1,2] ?_
  refine bs 3 rfl (dw (bx:=[U (kb l.l).1,aw c3,aw cI,aw ce]) rfl ar ae rfl (by rfl)) ?_
  refine aN [104] ?_
  have acg:ml (⟨(kb l.l).1,c3,cI,ce⟩:bQ).c l.l (oM (o3 l.l) l.l (oj l.l).2 i).2=ml (o3 l.l) l.l (oM (o3 l.l) l.l (oj l.l).2 i).2:=by rw [show(⟨(kb l.l).1,c3,cI,ce⟩:bQ).c=⟨(kb l.l).1,(oi l.l).1,(oj l.l).1,ce.l⟩from by show(⟨_,c3.l,cI.l.map kq,ce.l⟩:dG)=_;rw [u4,ns]];rfl
  refine lK (Yi aM l aJ (oM (o3 l.l) l.l (oj l.l).2 i).2 (by assumption) (⟨(kb l.l).1,c3,cI,ce⟩:bQ) (kD:=all [oP ce,rX c3 cI]) (Mr (y:=(⟨(kb l.l).1,c3,cI,ce⟩:bQ)) ⟨Ak,wj,tg,wT⟩) pz bc) ?_
  rintro _ _ ⟨rfl,rfl⟩
  simp only [List.cons_append,List.nil_append]
  rw [acg]
  obtain⟨xa,PC⟩:∃xa,xa=ml (o3 l.l) l.l (oM (o3 l.l) l.l (oj l.l).2 i).2:=⟨_,rfl⟩
  rw [←PC]
  refine fV ?_
  refine aN [105] ?_
  refine lN (au:=([xa.1]:List (Nat→Int)).flatMap cS) rfl .no rfl ae bu bu (by rfl) (by rw [show(([xa.1]:List (Nat→Int)).flatMap cS)=cS xa.1 from List.append_nil _];exact Dg rfl) rfl rfl (fun Ob=>?_)
  refine aN [106] ?_
  refine XI (lr (l:=[oP ce,rX c3 cI]) bq) ?_
  simp only [List.cons_append,List.nil_append]
  refine mb (aW:=cS) (c:=ce) (b:=ai.lit Ob [xa.1] (by simp)) rfl .no rfl rfl ae ar dr (show Out (aa Ob (([xa.1]:List (Nat→Int)).flatMap cS) 184) _ _ from ar) hF (fun _=>rfl) (fun _=>rfl) (by show ce.l.length+1≤_;omega) (by show(ce.l.length+1)*_≤_;omega) rfl (fun c2 gL jQ=>?_)
  refine aN [7,108,99] ?_
  refine gD ?_
  refine kS (jv (l:=[oP c2,rX c3 cI]) bq) ?_
  refine ah ?_
  subst PC
  refine eg (i+1,c2) ?_ ?_ ?_ ?_
  ·(try dsimp only);exact⟨by omega,by rw [gL,hi];rfl,jQ⟩
  ·(try dsimp only);omega
  ·refine⟨?_,?_,?_,?_,?_,?_,?_,?_,?_,?_,trivial⟩<;>rfl
  (try dsimp only);exact⟨_,bq⟩
 obtain rfl:i=(lE l.l).1.toNat:=by omega
 have fh:(⟨(kb l.l).1,c3,cI,ce⟩:bQ).c=(oN l.l).1:=by show(⟨_,c3.l,cI.l.map kq,ce.l⟩:dG)=_;rw [u4,ns,hi];rfl
 refine ah ?_
 refine kg (t:=67) rfl (fun a5=>?_) (fun a5=>?_)
 ·replace a5:=fb a5
  refine mn ?_
  refine nR cg 173 11 ?_
  refine nR cS 184 23 ?_
  refine nR eI 177 2 ?_
  refine kS (jv (l:=[qC (ai.bG:ai (Nat→Int)),oP (ai.bG:ai (Nat→Int)),rf (ai.bG:ai Mode)]) aC) ?_
  refine ah ?_
  refine cc (.nil _) (hc rfl rfl ar ae (by rfl) rfl) ?_
  have aD:ld l.l=none:=by unfold ld;rw [if_pos (.inl cl)]
  have ek:oO l.l=110:=by unfold oO;rw [aD];rfl
  exact⟨[all (hn (⟨0,ai.bG,ai.bG,ai.bG⟩:bQ)),K,aq],⟨(⟨0,ai.bG,ai.bG,ai.bG⟩:bQ),⟨fun c q=>(by rw [aD]at q;cases q),⟨ai.fY,ai.fY,ai.fY,fun m hm=>(by cases hm)⟩⟩,by rw [ek];rfl,rfl⟩,_,bq⟩
 replace a5:=fb a5
 refine ah ?_
 refine bX ?_ ?_<;>intro cd
 ·refine dW ?_
  refine nR cg 173 11 ?_
  refine nR cS 184 23 ?_
  refine nR eI 177 2 ?_
  refine kS (jv (l:=[qC (ai.bG:ai (Nat→Int)),oP (ai.bG:ai (Nat→Int)),rf (ai.bG:ai Mode)]) aC) ?_
  refine ah ?_
  refine cc (.nil _) (hc rfl rfl ar ae (by rfl) rfl) ?_
  have aD:ld l.l=none:=by unfold ld;rw [if_pos (.inr (fun e=>cd (congrArg (fun n:Nat=>(n:Int)) e)))]
  have ek:oO l.l=110:=by unfold oO;rw [aD];rfl
  exact⟨[all (hn (⟨0,ai.bG,ai.bG,ai.bG⟩:bQ)),K,aq],⟨(⟨0,ai.bG,ai.bG,ai.bG⟩:bQ),⟨fun c q=>(by rw [aD]at q;cases q),⟨ai.fY,ai.fY,ai.fY,fun m hm=>(by cases hm)⟩⟩,by rw [ek];rfl,rfl⟩,_,bq⟩
 refine cW ?_
 refine cM [U (kb l.l).1,aw c3,aw cI,aw ce] ?_
 refine dA (C2 (K:=all [oP ce,rX c3 cI]) (⟨(kb l.l).1,c3,cI,ce⟩:bQ) (Mr (y:=(⟨(kb l.l).1,c3,cI,ce⟩:bQ)) ⟨Ak,wj,tg,wT⟩)) ?_
 refine ct ?_
 refine bH (U (iS (⟨(kb l.l).1,c3,cI,ce⟩:bQ).c).1) ?_
 refine bH (U (iS (⟨(kb l.l).1,c3,cI,ce⟩:bQ).c).2) ?_
 refine ah ?_
 refine bX ?_ ?_<;>intro c5
 ·refine dW ?_
  refine nR cg 173 11 ?_
  refine nR cS 184 23 ?_
  refine nR eI 177 2 ?_
  refine kS (jv (l:=[qC (ai.bG:ai (Nat→Int)),oP (ai.bG:ai (Nat→Int)),rf (ai.bG:ai Mode)]) aC) ?_
  refine ah ?_
  refine cc (.nil _) (hc rfl rfl ar ae (by rfl) rfl) ?_
  rw [fh]at c5
  have aD:ld l.l=none:=by unfold ld;have a7:¬((oN l.l).2.bad=true∨(oN l.l).2.at'≠l.l.length):=fun e=>e.elim (fun e=>by rw [show(oN l.l).2.bad=false from a5]at e;cases e) (fun e=>e (by have cd:((oN l.l).2.at':Int)=(l.l.length:Int):=cd;omega));rw [if_neg a7,if_neg c5]
  have ek:oO l.l=110:=by unfold oO;rw [aD];rfl
  exact⟨[all (hn (⟨0,ai.bG,ai.bG,ai.bG⟩:bQ)),K,aq],⟨(⟨0,ai.bG,ai.bG,ai.bG⟩:bQ),⟨fun c q=>(by rw [aD]at q;cases q),⟨ai.fY,ai.fY,ai.fY,fun m hm=>(by cases hm)⟩⟩,by rw [ek];rfl,rfl⟩,_,bq⟩
 refine gK ?_
 refine kS (lr (l:=[oP ce,rX c3 cI]) bq) ?_
 simp only [List.cons_append,List.nil_append]
 refine kS (Sk (l:=[qC c3,rf cI]) (m:=rW cI.l) bq) ?_
 simp only [List.cons_append,List.nil_append]
 refine kS (CS (l:=[qC c3,oP ce,rf cI]) (m:=rW cI.l) (show Take [qC c3,oP ce,rf cI,all (rW cI.l)] _ _ from aC)) ?_
 refine cM [U (kb l.l).1,aw c3,aw cI,aw ce] ?_
 refine ah ?_
 refine cc (.nil _) (hc rfl rfl ar ae (by rfl) rfl) ?_
 rw [fh]at c5
 have aD:ld l.l=some (⟨(kb l.l).1,c3,cI,ce⟩:bQ).c:=by have a7:¬((oN l.l).2.bad=true∨(oN l.l).2.at'≠l.l.length):=fun e=>e.elim (fun e=>by rw [show(oN l.l).2.bad=false from a5]at e;cases e) (fun e=>e (by have cd:((oN l.l).2.at':Int)=(l.l.length:Int):=cd;omega));unfold ld;rw [if_neg a7,if_pos c5,fh]
 have ek:oO l.l=0:=by unfold oO;rw [aD];rfl
 exact⟨[all (hn (⟨(kb l.l).1,c3,cI,ce⟩:bQ)),K,aq],⟨(⟨(kb l.l).1,c3,cI,ce⟩:bQ),⟨fun c q=>Option.some.inj (aD.symm.trans q),⟨Ak,wj,tg,wT⟩⟩,by rw [ek]<;>rfl,rfl⟩,_,bq⟩
abbrev cK(a:ai (BitVec 32)):ao B:=cr a 42 1 de
abbrev ti(a:ai Int):ao B:=cr a 3 1 ei
theorem z1(z:Int):IntKind.u32.wrap z=((BitVec.ofInt 32 z).toNat:Int):=by
  rw [BitVec.toNat_ofInt,Int.toNat_of_nonneg (Int.emod_nonneg _ (by decide))]
  simp [IntKind.wrap,IntKind.bits,IntKind.signed]
abbrev gj(z:Int):BitVec 32:=BitVec.ofInt 32 z
theorem zI{α β:Type}{l:List α}{i:Nat}{y:α}{f:α→List β}(h:l[i]?=some y):(l.take (i+1)).flatMap f=(l.take i).flatMap f++f y:=by
  rw [List.take_add_one,h];simp
theorem sP{α β:Type}{k:Nat}{f:α→List β}:∀{l:List α},(∀x∈l,(f x).length≤k)→(l.flatMap f).length≤k*l.length
  |[],_=>by simp
  |x::l,h=>by
    have ab:=h x (by simp)
    have af:=sP (l:=l) (fun y aZ=>h y (by simp [aZ]))
    rw [List.flatMap_cons,List.length_append,List.length_cons,Nat.mul_succ];omega
theorem z2(a:ai (BitVec 32))(aO:a.Own)(n:ai Int)(a7:c1 K n.bl (n.l.flatMap ei))(hlen:a.l.length+n.l.length≤1000000):aS B 75 [aw a,aw n] [cK a,K] (fun v S=>∃c:ai (BitVec 32),(c.l=a.l++n.l.map gj∧c.Own)∧v=aw c∧S=[cK c,K]):=by
 refine bD 21 Tryz.func75 fun a4 ax=>?_
 refine dH (α:=Nat×ai (BitVec 32)) (fun⟨i,c⟩=>i≤n.l.length∧c.l=a.l++(n.l.take i).map gj∧c.Own) (fun⟨i,c⟩=>[(5,U (i:Int)),(0,aw c),(1,aw n),(4,.slice none 0 0)]) (fun⟨i,c⟩=>[cK c,K]) (fun⟨i,c⟩=>n.l.length-i) (0,a) ?_ dD bq ?_
 ·exact⟨Nat.zero_le _,by simp,aO⟩
 rintro⟨i,c⟩ ⟨ak,bg,ka⟩
 dsimp only
 have hh:c.l.length=a.l.length+i:=by rw [bg,List.length_append,List.length_map,List.length_take];omega
 have DN:=n.small
 refine ah ?_
 refine aT ?_ ?_<;>intro ab
 ·obtain⟨z,bh⟩:∃z,n.l[i]?=some z:=⟨_,List.getElem?_eq_getElem al⟩
  refine ah ?_
  refine aA (eO (aW:=ei) (aH:=1) (i:=i) (k:=0) (fun _=>rfl) rfl ar a7 ae bh rfl) ?_
  refine aA (kn rfl ae (z1 z)) ?_
  refine js (au:=de (gj z)) .no rfl ae bu bu (by rfl) (by rfl) rfl rfl (fun ay=>?_)
  refine vH (aW:=de) (c:=c) (y:=(gj z)) (K:=_) .no rfl rfl ae ar ar (hF) rfl rfl al al rfl (fun bC iq pr=>?_)
  refine ah ?_
  refine eg (i+1,bC) ?_ ?_ ?_ ?_
  ·(try dsimp only);exact⟨by omega,by rw [iq,bg,List.take_add_one,bh];simp,pr⟩
  ·(try dsimp only);omega
  ·refine⟨?_,?_,?_,?_,trivial⟩<;>rfl
  (try dsimp only);exact⟨_,bq⟩
 obtain rfl:i=n.l.length:=by omega
 refine ah ?_
 rw [List.take_of_length_le (Nat.le_refl _)]at bg
 exact⟨[cK c,K],⟨c,⟨bg,ka⟩,rfl,rfl⟩,_,bq⟩
theorem aag{k:Nat}(h:k<8):IntKind.i64.wrap (1*2^(min ((k:Int)).toNat IntKind.i64.bits))=((2^k:Nat):Int):=by
  rcases(show k=0∨k=1∨k=2∨k=3∨k=4∨k=5∨k=6∨k=7 by omega)with rfl|rfl|rfl|rfl|rfl|rfl|rfl|rfl<;>decide
def jz(e:Nat→Int):Nat→Nat×List Int
  |0=>(0,[])
  |n+1=>if e (3+n)>0 then((jz e n).1+2^n,(jz e n).2++[e (3+n)])else jz e n
theorem zt(e:Nat→Int):∀n,(jz e n).1<2^n∧(jz e n).2.length≤n
 |0=>⟨Nat.one_pos,Nat.le_refl _⟩
 |n+1=>by
  have h:=zt e n
  rw [jz];split
  ·refine⟨?_,?_⟩
   ·show(jz e n).1+2^n<_;rw [Nat.pow_succ];omega
   show(_++[_]).length≤_;rw [List.length_append];simp;omega
  exact⟨by rw [Nat.pow_succ];omega,by omega⟩
def pc(e:Nat→Int):List (BitVec 32):=[gj (e 0),gj (e 1),gj (e 2),gj ((jz e 8).1:Int)]++(jz e 8).2.map gj
theorem C3(e:Nat→Int):(pc e).length≤12:=by
  have:=(zt e 8).2
  unfold pc;rw [List.length_append,List.length_map];simp;omega
def xb(y:Nat→Int):List (BitVec 32):=[gj (y 0),gj (y 1)]
def qU(p:BitVec 32×List (Nat→Int)):List (BitVec 32):=[p.1,gj (p.2.length:Int)]++p.2.flatMap xb
theorem VZ(q:List (Nat→Int)):(q.flatMap xb).length≤2*q.length:=sP (fun y _=>Nat.le_refl _)
theorem Gu{p:BitVec 32×List (Nat→Int)}(h:p.2.length≤4):(qU p).length≤10:=by
  have:=VZ p.2
  unfold qU;rw [List.length_append];simp only [List.length_cons,List.length_nil];omega
def mo(c:dG)(e:Nat→Int):Nat→List Int
  |0=>[]
  |n+1=>if hasB (cw c (e 1)) (n:Int)=true∧hasB (cw c (e 0)) (n:Int)=false then mo c e n++[e (3+n)]else mo c e n
theorem Ft(c:dG)(e:Nat→Int):∀n,(mo c e n).length≤n
  |0=>Nat.le_refl _
  |n+1=>by
    have h:=Ft c e n
    rw [mo];split
    · rw [List.length_append];simp;omega
    · omega
def Eb(e:Nat→Int):List (BitVec 32):=[gj (e 0),gj (e 1),gj (e 2),gj (e 19),gj (e 20),gj (e 21),gj (e 22)]
def sF(c:dG)(e:Nat→Int):List (BitVec 32):=Eb e++(if e 2=3 then mo c e 16 else []).map gj
theorem Ms(c:dG)(e:Nat→Int):(sF c e).length≤23:=by
  have:=Ft c e 16
  unfold sF;rw [List.length_append,List.length_map];show 7+_≤23;split
  · omega
  · simp
def xc(c:dG):List (BitVec 32):=[gj 1380273457,gj c.cG,gj (c.aG.length:Int),gj (c.ba.length:Int),gj (c.a0.length:Int)]
def np(c:dG):List (BitVec 32):=xc c++c.aG.flatMap pc++c.ba.flatMap qU++c.a0.flatMap (sF c)
theorem Lz{e:Nat→Int}{k:Nat}(h:k<16):(cS e)[3+k*1]?=some (U (e (3+k))):=by
  rcases(show k=0∨k=1∨k=2∨k=3∨k=4∨k=5∨k=6∨k=7∨k=8∨k=9∨k=10∨k=11∨k=12∨k=13∨k=14∨k=15 by omega)with rfl|rfl|rfl|rfl|rfl|rfl|rfl|rfl|rfl|rfl|rfl|rfl|rfl|rfl|rfl|rfl<;>rfl
structure GP(c:dG):Prop where
  t:c.aG.length≤16
  m:c.ba.length≤8
  e:c.a0.length≤24
  q:∀p∈c.ba,p.2.length≤4
  i:∀e∈c.a0,(0≤e 0∧e 0<(c.ba.length:Int))∧0≤e 1∧e 1<(c.ba.length:Int)
theorem Fa{x:bQ}{m:Mode}{n:Int}(b0:0≤n)(h:x.ba.l[n.toNat]?=some m):cw x.c n=m.aG:=by
  unfold cw;rw [if_neg (by omega),List.getElem?_map,h];rfl
theorem CG{α β:Type}{k n:Nat}{f:α→List β}{l:List α}(i:Nat)(h:∀x∈l,(f x).length≤k)(a7:l.length≤n):((l.take i).flatMap f).length≤k*n:=by
  have ab:=sP (l:=l.take i) (f:=f) (k:=k) (fun x av=>h x (List.mem_of_mem_take av))
  exact Nat.le_trans ab (Nat.mul_le_mul_left _ (by rw [List.length_take];omega))
theorem Ud(x:bQ)(av:x.In K)(dy:GP x.c):aS B 39 [x.v] [K] (fun v S=>∃a:ai (BitVec 32),(a.l=np x.c∧a.Own)∧v=aw a∧S=[cK a,K]):=by
 refine dn 188 Tryz.func39 fun a4 ax=>?_
 refine hy de 42 1 ?_
 have AT:=dy.t
 have pz:=dy.m
 have ach:=dy.e
 have et:=x.aG.small
 have j9:=x.ba.small
 have yy:=x.a0.small
 have aek:x.aG.l.length≤16:=AT
 have PD:x.ba.l.length≤8:=by have:=pz;rwa [List.length_map]at this
 have Oc:x.a0.l.length≤24:=ach
 refine ah ?_
 refine fe (au:=(bJ x)) fun ay=>?_
 refine js (au:=[U 1380273457,U x.cG,U (x.aG.l.length:Int),U (x.ba.l.length:Int),U (x.a0.l.length:Int)]) .no rfl ae bu bu (by rfl) (by rfl) rfl rfl (fun aM=>?_)
 refine cA (z2 (K:=aa aM [U 1380273457,U x.cG,U (x.aG.l.length:Int),U (x.ba.l.length:Int),U (x.a0.l.length:Int)] 3) ai.bG ai.fY (ai.lit aM [1380273457,x.cG,(x.aG.l.length:Int),(x.ba.l.length:Int),(x.a0.l.length:Int)] (by simp)) hF (by show 0+5≤_;omega)) ?_
 rintro _ _ ⟨dv,⟨p7,r6⟩,rfl,rfl⟩
 refine cU ?_
 refine dH (α:=Nat×ai (BitVec 32)) (fun⟨i,a⟩=>i≤x.aG.l.length∧a.l=(xc x.c)++((x.aG.l.take i).flatMap pc)∧a.Own) (fun⟨i,a⟩=>[(4,U (i:Int)),(3,aw a),(1,ag ay),(2,.slice none 0 0)]) (fun⟨i,a⟩=>[aa ay (bJ x) 41,cK a,K]) (fun⟨i,a⟩=>x.aG.l.length-i) (0,dv) ?_ dD bq ?_
 ·exact⟨Nat.zero_le _,by rw [p7];simp [xc,ai.lit,ai.bG],r6⟩
 rintro⟨i,a⟩ ⟨ak,aO,bT⟩
 dsimp only
 have PE:((x.aG.l.take i).flatMap pc).length≤12*16:=CG i (fun e _=>C3 e) dy.t
 have dB:a.l.length≤197:=by rw [aO,List.length_append];show 5+_≤_;omega
 refine ah ?_
 refine aT ?_ ?_<;>intro ab
 ·obtain⟨e,bh⟩:∃e,x.aG.l[i]?=some e:=⟨_,List.getElem?_eq_getElem al⟩
  refine ah ?_
  refine aA (hN (aW:=cg) (aH:=11) (i:=i) (fun _=>rfl) rfl ar av.aG ae bh) ?_
  refine ds fun bw=>?_
  refine we ?_
  refine hy ei 3 1 ?_
  refine dH (α:=Nat×ai Int) (fun⟨r,g⟩=>r≤8∧g.l=(jz e r).2∧g.Own) (fun⟨r,g⟩=>[(8,U (r:Int)),(6,U ((jz e r).1:Int)),(7,aw g),(1,ag ay),(2,.slice none 0 0),(3,aw a),(4,U (i:Int)),(5,ag bw)]) (fun⟨r,g⟩=>[aa ay (bJ x) 41,aa bw (cg e) 173,cK a,ti g,K]) (fun⟨r,g⟩=>8-r) (0,ai.bG) ?_ dD bq ?_
  ·exact⟨Nat.zero_le _,rfl,ai.fY⟩
  rintro⟨r,g⟩ ⟨bk,AU,PF⟩
  dsimp only
  have ab6:=zt e r
  have aeY:2^r≤2^8:=Nat.pow_le_pow_right bu bk
  have aeZ:g.l.length≤8:=by rw [AU];omega
  refine ah ?_
  refine bX ?_ ?_<;>intro af
  ·refine jT ?_
   refine aA (fm (v:=U (e (3+r))) rfl ar ae (FV al)) ?_
   refine ah ?_
   refine aT ?_ ?_<;>intro az
   ·refine aA (kn rfl ae (u64_in al al)) ?_
    refine aA (FC (z:=((2^r:Nat):Int)) rfl rfl al (aag al)) ?_
    refine aA (wa (pO (m:=((jz e r).1:Int)) (n:=((2^r:Nat):Int)) rfl rfl al al) (congrArg (fun z:Int=>Value.int .i64 z) (Int.natCast_add _ _).symm)) ?_
    refine iW ?_
    refine aA (fm (v:=U (e (3+r))) rfl ar ae (FV al)) ?_
    refine js (au:=ei (e (3+r))) .no rfl ae bu bu (by rfl) (by rfl) rfl rfl (fun b9=>?_)
    refine vH (aW:=ei) (c:=g) (y:=(e (3+r))) (K:=_) .no rfl rfl ae ar ar (hF) rfl rfl al al rfl (fun bS rq aah=>?_)
    refine ah ?_
    refine eg (r+1,bS) ?_ ?_ ?_ ?_
    ·(try dsimp only);exact⟨by omega,by rw [rq,AU,jz,if_pos cl],aah⟩
    ·(try dsimp only);omega
    ·refine⟨?_,?_,?_,?_,?_,?_,?_,?_,trivial⟩<;>first|rfl|(rw [jz,if_pos cl];rfl)
    (try dsimp only);exact⟨_,bq⟩
   refine eg (r+1,g) ?_ ?_ ?_ ?_
   ·(try dsimp only);exact⟨by omega,by rw [AU,jz,if_neg al],PF⟩
   ·(try dsimp only);omega
   ·refine⟨?_,?_,?_,?_,?_,?_,?_,?_,trivial⟩<;>first|rfl|(rw [jz,if_neg al];rfl)
   (try dsimp only);exact⟨_,bq⟩
  obtain rfl:r=8:=by omega
  refine ah ?_
  refine js (au:=[U (e 0),U (e 1),U (e 2),U ((jz e 8).1:Int)]) .no rfl ae bu bu (by rfl) (by rfl) rfl rfl (fun dK=>?_)
  refine cA (z2 (K:=aa dK [U (e 0),U (e 1),U (e 2),U ((jz e 8).1:Int)] 3) a bT (ai.lit dK [e 0,e 1,e 2,((jz e 8).1:Int)] (by simp)) hF (by show a.l.length+4≤_;omega)) ?_
  rintro _ _ ⟨dg,⟨jn,pX⟩,rfl,rfl⟩
  refine cU ?_
  refine cA (z2 (K:=ti g) dg pX g (eh PF rfl) (by rw [jn,List.length_append];show a.l.length+4+g.l.length≤_;rw [AU];omega)) ?_
  rintro _ _ ⟨bC,⟨iq,pr⟩,rfl,rfl⟩
  refine cU ?_
  refine eg (i+1,bC) ?_ ?_ ?_ ?_
  ·(try dsimp only);exact⟨by omega,by rw [iq,jn,aO,zI bh];unfold pc;rw [AU];simp [List.append_assoc,ai.lit],pr⟩
  ·(try dsimp only);omega
  ·refine⟨?_,?_,?_,?_,trivial⟩<;>rfl
  (try dsimp only);exact⟨_,bq⟩
 obtain rfl:i=x.aG.l.length:=by omega
 rw [List.take_of_length_le (Nat.le_refl _)]at aO
 refine ah ?_
 refine dH (α:=Nat×ai (BitVec 32)) (fun⟨i,a⟩=>i≤x.ba.l.length∧a.l=(xc x.c)++(x.aG.l.flatMap pc)++((x.ba.l.take i).flatMap fun m=>qU (kq m))∧a.Own) (fun⟨i,a⟩=>[(9,U (i:Int)),(3,aw a),(1,ag ay),(2,.slice none 0 0)]) (fun⟨i,a⟩=>[aa ay (bJ x) 41,cK a,K]) (fun⟨i,a⟩=>x.ba.l.length-i) (0,a) ?_ dD bq ?_
 ·exact⟨Nat.zero_le _,by rw [aO];simp,bT⟩
 rintro⟨i,a⟩ ⟨ak,aO,bT⟩
 dsimp only
 have kx:((x.ba.l.take i).flatMap fun m=>qU (kq m)).length≤10*8:=CG i (fun m hm=>Gu (dy.q _ (List.mem_map.2 ⟨m,hm,rfl⟩))) PD
 have PE:(x.aG.l.flatMap pc).length≤12*16:=by have:=sP (l:=x.aG.l) (f:=pc) (k:=12) (fun e _=>C3 e);omega
 have dB:a.l.length≤277:=by rw [aO,List.length_append,List.length_append];show 5+_+_≤_;omega
 refine ah ?_
 refine aT ?_ ?_<;>intro a5
 ·obtain⟨m,bh⟩:∃m,x.ba.l[i]?=some m:=⟨_,List.getElem?_eq_getElem al⟩
  have yw:m.q.l.length≤4:=dy.q _ (List.mem_map.2 ⟨m,List.mem_of_getElem? bh,rfl⟩)
  refine ah ?_
  refine aA (hN (aW:=eI) (aH:=2) (i:=i) (fun _=>rfl) rfl ar av.ba ae bh) ?_
  refine ds fun jE=>?_
  refine kZ ?_
  refine cv (aw m.q) ?_
  refine ah ?_
  refine aA (kn rfl ae (z1 (m.q.l.length:Int))) ?_
  refine js (au:=([m.aG,gj (m.q.l.length:Int)]:List (BitVec 32)).flatMap de) .no rfl ae bu bu (by rfl) (by rfl) rfl rfl (fun jr=>?_)
  refine ma (aW:=de) (c:=a) (b:=ai.lit jr [m.aG,gj (m.q.l.length:Int)] (by simp)) .no rfl rfl ae ar (show Out (aa jr (([m.aG,gj (m.q.l.length:Int)]:List (BitVec 32)).flatMap de) 42) _ _ from ar) hF (fun _=>rfl) (fun _=>rfl) (by show a.l.length+2≤_;omega) (by show(a.l.length+2)*_≤_;omega) rfl (fun dg jn pX=>?_)
  refine ah ?_
  refine dH (α:=Nat×ai (BitVec 32)) (fun⟨k,d⟩=>k≤m.q.l.length∧d.l=a.l++[m.aG,gj (m.q.l.length:Int)]++(m.q.l.take k).flatMap xb∧d.Own) (fun⟨k,d⟩=>[(11,U (k:Int)),(3,aw d),(1,ag ay),(2,.slice none 0 0),(9,U (i:Int)),(10,ag jE)]) (fun⟨k,d⟩=>[aa ay (bJ x) 41,aa jE (eI m) 177,cK d,K]) (fun⟨k,d⟩=>m.q.l.length-k) (0,dg) ?_ dD bq ?_
  ·exact⟨Nat.zero_le _,by rw [jn];simp [ai.lit],pX⟩
  rintro⟨k,d⟩ ⟨aj,aD,sq⟩
  dsimp only
  have Ea:((m.q.l.take k).flatMap xb).length≤2*4:=CG k (fun y _=>Nat.le_refl _) yw
  have aci:d.l.length≤290:=by rw [aD,List.length_append,List.length_append];show _+2+_≤_;omega
  refine cW ?_
  refine cv (aw m.q) ?_
  refine ah ?_
  refine aT ?_ ?_<;>intro cd
  ·obtain⟨y,aZ⟩:∃y,m.q.l[k]?=some y:=⟨_,List.getElem?_eq_getElem al⟩
   refine ah ?_
   refine c8 [aa jE (eI m) 177,K] ae aC ?_
   refine aN [0,1] ?_
   refine bs 2 rfl (ed (v:=aw m.q) ae) ?_
   refine aN [3] ?_
   refine cy 4 rfl (h7 rfl rfl ae (m.q).en rfl al rfl) ?_
   refine aN [5] ?_
   refine bs 6 rfl (eO (aW:=kt) (aH:=2) (i:=k) (k:=0) (fun _=>rfl) rfl ar (av.sU m (List.mem_of_getElem? bh)) ae aZ rfl) ?_
   refine aN [7] ?_
   refine bs 8 rfl (ed (v:=aw m.q) ae) ?_
   refine aN [9] ?_
   refine cy 10 rfl (h7 rfl rfl ae (m.q).en rfl al rfl) ?_
   refine aN [11] ?_
   refine bs 12 rfl (eO (aW:=kt) (aH:=2) (i:=k) (k:=1) (fun _=>rfl) rfl ar (av.sU m (List.mem_of_getElem? bh)) ae aZ rfl) ?_
   refine aN [113] ?_
   refine lN (au:=[U (y 0),U (y 1)]) rfl .no rfl ae bu bu (by rfl) (by rfl) rfl rfl (fun Nk=>?_)
   refine jU 14 (z2 (K:=aa Nk [U (y 0),U (y 1)] 3) d sq (ai.lit Nk [y 0,y 1] (by simp)) hF (by show d.l.length+2≤_;omega)) ?_
   rintro _ _ ⟨bC,⟨iq,pr⟩,rfl,rfl⟩
   simp only [List.cons_append,List.nil_append]
   refine fV ?_
   refine c7 [15,99] ?_
   refine eg (k+1,bC) ?_ ?_ ?_ ?_
   ·(try dsimp only);exact⟨by omega,by rw [iq,aD,zI aZ];simp [List.append_assoc,ai.lit,xb],pr⟩
   ·(try dsimp only);omega
   ·refine⟨?_,?_,?_,?_,?_,?_,trivial⟩<;>rfl
   (try dsimp only);exact⟨_,bq⟩
  obtain rfl:k=m.q.l.length:=by omega
  rw [List.take_of_length_le (Nat.le_refl _)]at aD
  refine ah ?_
  refine eg (i+1,d) ?_ ?_ ?_ ?_
  ·(try dsimp only);exact⟨by omega,by rw [aD,aO,zI bh];unfold qU;simp [List.append_assoc,kq],sq⟩
  ·(try dsimp only);omega
  ·refine⟨?_,?_,?_,?_,trivial⟩<;>rfl
  (try dsimp only);exact⟨_,bq⟩
 obtain rfl:i=x.ba.l.length:=by omega
 rw [List.take_of_length_le (Nat.le_refl _)]at aO
 refine ah ?_
 refine dH (α:=Nat×ai (BitVec 32)) (fun⟨i,a⟩=>i≤x.a0.l.length∧a.l=(xc x.c)++(x.aG.l.flatMap pc)++(x.ba.l.flatMap fun m=>qU (kq m))++((x.a0.l.take i).flatMap (sF x.c))∧a.Own) (fun⟨i,a⟩=>[(12,U (i:Int)),(3,aw a),(1,ag ay),(2,.slice none 0 0)]) (fun⟨i,a⟩=>[aa ay (bJ x) 41,cK a,K]) (fun⟨i,a⟩=>x.a0.l.length-i) (0,a) ?_ dD bq ?_
 ·exact⟨Nat.zero_le _,by rw [aO];simp,bT⟩
 rintro⟨i,a⟩ ⟨ak,aO,bT⟩
 dsimp only
 have HK:((x.a0.l.take i).flatMap (sF x.c)).length≤23*24:=CG i (fun e _=>Ms _ e) Oc
 have PE:(x.aG.l.flatMap pc).length≤12*16:=by have:=sP (l:=x.aG.l) (f:=pc) (k:=12) (fun e _=>C3 e);omega
 have kx:(x.ba.l.flatMap fun m=>qU (kq m)).length≤10*8:=by have:=sP (l:=x.ba.l) (f:=fun m=>qU (kq m)) (k:=10) (fun m hm=>Gu (dy.q _ (List.mem_map.2 ⟨m,hm,rfl⟩)));omega
 have dB:a.l.length≤829:=by rw [aO,List.length_append,List.length_append,List.length_append];show 5+_+_+_≤_;omega
 refine ah ?_
 refine aT ?_ ?_<;>intro c5
 ·obtain⟨e,bh⟩:∃e,x.a0.l[i]?=some e:=⟨_,List.getElem?_eq_getElem al⟩
  obtain⟨⟨Ec,D2⟩,acj,D3⟩:=dy.i e (List.mem_of_getElem? bh)
  rw [List.length_map]at D2 D3
  obtain⟨adB,PG⟩:∃m,x.ba.l[(e 0).toNat]?=some m:=⟨_,List.getElem?_eq_getElem al⟩
  obtain⟨adC,PH⟩:∃m,x.ba.l[(e 1).toNat]?=some m:=⟨_,List.getElem?_eq_getElem al⟩
  have AE:=Fa Ec PG
  have HZ:=Fa acj PH
  refine ah ?_
  refine aA (hN (aW:=cS) (aH:=23) (i:=i) (fun _=>rfl) rfl ar av.a0 ae bh) ?_
  refine ds fun IV=>?_
  refine mn ?_
  refine aA (m7 rfl rfl ae (rfl:(0:Int)=((0:Nat):Int)) bu rfl) ?_
  refine cv (U (e 19)) ?_
  refine ct ?_
  refine aA (m7 rfl rfl ae (rfl:(1:Int)=((1:Nat):Int)) bu rfl) ?_
  refine cv (U (e 20)) ?_
  refine ct ?_
  refine aA (m7 rfl rfl ae (rfl:(2:Int)=((2:Nat):Int)) bu rfl) ?_
  refine cv (U (e 21)) ?_
  refine ct ?_
  refine aA (m7 rfl rfl ae (rfl:(3:Int)=((3:Nat):Int)) bu rfl) ?_
  refine cv (U (e 22)) ?_
  refine js (au:=[U (e 0),U (e 1),U (e 2),U (e 19),U (e 20),U (e 21),U (e 22)]) .no rfl ae bu bu (by rfl) (by rfl) rfl rfl (fun Qo=>?_)
  refine cA (z2 (K:=aa Qo [U (e 0),U (e 1),U (e 2),U (e 19),U (e 20),U (e 21),U (e 22)] 3) a bT (ai.lit Qo [e 0,e 1,e 2,e 19,e 20,e 21,e 22] (by simp)) hF (by show a.l.length+7≤_;omega)) ?_
  rintro _ _ ⟨dg,⟨jn,pX⟩,rfl,rfl⟩
  refine cU ?_
  refine dH (α:=Nat×ai (BitVec 32)) (fun⟨k,d⟩=>k≤16∧d.l=a.l++Eb e++(mo x.c e k).map gj∧d.Own∧(k=0∨e 2=3)) (fun⟨k,d⟩=>[(14,U (k:Int)),(3,aw d),(1,ag ay),(2,.slice none 0 0),(12,U (i:Int)),(13,ag IV)]) (fun⟨k,d⟩=>[aa ay (bJ x) 41,aa IV (cS e) 184,cK d,K]) (fun⟨k,d⟩=>16-k) (0,dg) ?_ dD bq ?_
  ·exact⟨Nat.zero_le _,by rw [jn];simp [ai.lit,Eb,mo],pX,.inl rfl⟩
  rintro⟨k,d⟩ ⟨aj,aD,sq,cq⟩
  dsimp only
  have sr:=Ft x.c e k
  have aci:d.l.length≤860:=by rw [aD,List.length_append,List.length_append,List.length_map];show _+7+_≤_;omega
  refine ah ?_
  refine cC ?_ ?_<;>intro fo
  ·refine aT ?_ ?_<;>intro gx
   ·refine aA (hx (j:=(e 1).toNat) rfl rfl ae (x.ba).en (show e 1=((e 1).toNat:Int)by omega) al rfl) ?_
    refine ah ?_
    refine aA (eO (aW:=eI) (aH:=2) (i:=(e 1).toNat) (k:=0) (fun _=>rfl) rfl ar av.ba ae PH rfl) ?_
    refine ah ?_
    refine fL (has adC.aG (k:Int)) ?_
    refine cC ?_ ?_<;>intro jf
    ·refine aA (hx (j:=(e 0).toNat) rfl rfl ae (x.ba).en (show e 0=((e 0).toNat:Int)by omega) al rfl) (hw:=(.yes 167 rfl rfl rfl)) ?_
     refine ah ?_
     refine aA (eO (aW:=eI) (aH:=2) (i:=(e 0).toNat) (k:=0) (fun _=>rfl) rfl ar av.ba ae PG rfl) (hw:=(.yes 167 rfl rfl rfl)) ?_
     refine ah ?_
     refine fL (has adB.aG (k:Int)) ?_
     refine bX ?_ ?_<;>intro iw
     ·refine cW ?_
      refine aA (fm (v:=U (e (3+k))) rfl ar ae (Lz al)) ?_
      refine aA (kn rfl ae (z1 (e (3+k)))) ?_
      refine js (au:=de (gj (e (3+k)))) .no rfl ae bu bu (by rfl) (by rfl) rfl rfl (fun ae0=>?_)
      refine vH (aW:=de) (c:=d) (y:=(gj (e (3+k)))) (K:=_) .no rfl rfl ae ar ar (hF) rfl rfl al al rfl (fun d2 yo aai=>?_)
      refine ah ?_
      refine eg (k+1,d2) ?_ ?_ ?_ ?_
      ·(try dsimp only);exact⟨by omega,by rw [yo,aD,mo,if_pos ⟨by rw [HZ];assumption,by rw [AE];first|assumption|simp_all⟩];simp [List.append_assoc],aai,.inr cl⟩
      ·(try dsimp only);omega
      ·refine⟨?_,?_,?_,?_,?_,?_,trivial⟩<;>rfl
      (try dsimp only);exact⟨_,bq⟩
     refine ah ?_
     refine eg (k+1,d) ?_ ?_ ?_ ?_
     ·(try dsimp only);exact⟨by omega,by rw [aD,mo,if_neg (by rw [HZ,AE];rintro⟨bY,bK⟩;simp_all)],sq,.inr cl⟩
     ·(try dsimp only);omega
     ·refine⟨?_,?_,?_,?_,?_,?_,trivial⟩<;>rfl
     (try dsimp only);exact⟨_,bq⟩
    refine eg (k+1,d) ?_ ?_ ?_ ?_
    ·(try dsimp only);exact⟨by omega,by rw [aD,mo,if_neg (by rw [HZ,AE];rintro⟨bY,bK⟩;simp_all)],sq,.inr cl⟩
    ·(try dsimp only);omega
    ·refine⟨?_,?_,?_,?_,?_,?_,trivial⟩<;>rfl
    (try dsimp only);exact⟨_,bq⟩
   refine eg (i+1,d) ?_ ?_ ?_ ?_
   ·(try dsimp only);exact⟨by omega,by rw [aD,aO,zI bh];unfold sF;rw [show(if e 2=3 then mo x.c e 16 else [])=mo x.c e k from by split;(rw [show k=16 by omega]);(rw [show k=0 by omega];rfl)];simp [List.append_assoc],sq⟩
   ·(try dsimp only);omega
   ·refine⟨?_,?_,?_,?_,trivial⟩<;>rfl
   (try dsimp only);exact⟨_,bq⟩
  refine eg (i+1,d) ?_ ?_ ?_ ?_
  ·(try dsimp only);exact⟨by omega,by rw [aD,aO,zI bh];unfold sF;rw [show(if e 2=3 then mo x.c e 16 else [])=mo x.c e k from by split;(rw [show k=16 by omega]);(rw [show k=0 by omega];rfl)];simp [List.append_assoc],sq⟩
  ·(try dsimp only);omega
  ·refine⟨?_,?_,?_,?_,trivial⟩<;>rfl
  (try dsimp only);exact⟨_,bq⟩
 obtain rfl:i=x.a0.l.length:=by omega
 rw [List.take_of_length_le (Nat.le_refl _)]at aO
 refine ah ?_
 exact⟨[cK a,K],⟨a,⟨by rw [aO];unfold np;rw [List.flatMap_map],bT⟩,rfl,rfl⟩,_,bq⟩
theorem GQ{n:Nat}{P:Nat→Bool}(h:(List.range n).find? P=none):∀j,j<n→P j=false:=by
  rw [List.find?_eq_none]at h
  intro j aY;have:=h j (List.mem_range.2 aY);simpa using this
structure qw(c:dG):Prop where
  cG:0≤c.cG∧c.cG≤8
  t:1≤c.aG.length∧c.aG.length≤16
  bf:∀e∈c.aG,vX e c.cG
  m:1≤c.ba.length∧c.ba.length≤8
  eT:∀p∈c.ba,p.1&&&~~~(allM c.aG.length)=0#32∧uQ p.2
  e:c.a0.length≤24
  es:∀i e,c.a0[i]?=some e→lU c i e=true
theorem xT{c:dG}(h:(iS c).2=0):qw c:=by
 unfold iS at h
 split at h
 ·cases h
 rename_i ab
 split at h
 ·cases h
 rename_i af
 split at h
 ·cases h
 rename_i az
 have az:=GQ az
 unfold pN at h
 split at h
 ·cases h
 rename_i a5
 split at h
 ·rename_i i cd
  have:=List.find?_some cd
  simp at this;exact absurd h this
 rename_i cd
 have cd:=GQ cd
 unfold sX at h
 split at h
 ·cases h
 rename_i c5
 split at h
 ·cases h
 rename_i fo
 have fo:=GQ fo
 refine⟨by omega,by omega,fun e he=>?_,by omega,fun p aE=>?_,by omega,fun i e he=>?_⟩
 ·obtain⟨i,ak,bh⟩:=List.mem_iff_getElem.1 he
  have:=az i ak
  rw [EU (List.getElem?_eq_some_iff.2 ⟨ak,bh⟩)]at this
  simpa using this
 ·obtain⟨i,ak,bh⟩:=List.mem_iff_getElem.1 aE
  have:=cd i ak
  unfold sO at this
  rw [List.getElem?_eq_some_iff.2 ⟨ak,bh⟩]at this
  simp only [Bool.not_eq_false',decide_eq_true_eq]at this
  split at this
  ·rename_i q;refine⟨q,?_⟩
   split at this
   ·assumption
   cases this
  cases this
 have:=fo i (List.getElem?_eq_some_iff.1 he).1
 rw [EV he]at this
 simpa using this
theorem Ue:∀n,n<17→(allM n).toNat<65536:=by decide+kernel
theorem V0{p a:BitVec 32}(h:p&&&~~~a=0#32):p.toNat≤a.toNat:=by
  have e:p&&&a=p:=ue fun i ak=>by
    have:=congrArg (fun b=>hasB b (i:Int)) h
    simp only [vx]at this
    rw [show hasB 0#32 (i:Int)=false by rw [nP];simp]at this
    rw [vG]
    cases ab:hasB p (i:Int)<;>cases af:hasB a (i:Int)<;>simp_all
  have dd:(p&&&a).toNat≤a.toNat:=by rw [BitVec.toNat_and];exact Nat.and_le_right
  rw [e]at dd;exact dd
theorem qw.PI{c:dG}(h:qw c){p:BitVec 32×List (Nat→Int)}(aE:p∈c.ba):p.1.toNat<65536:=
  Nat.lt_of_le_of_lt (V0 (h.eT p aE).1) (Ue _ (by have:=h.t;omega))
theorem JG{f:Nat→Int}{a b:Int}:∀{n:Nat},(nV f a b n).isSome=true→∀k,k<n→0≤f k∧(f k=0∨f k≤b)
 |0,_,k,aj=>by omega
 |n+1,h,k,aj=>by
  unfold nV at h
  split at h
  ·cases h
  rename_i s aB
  rcases Nat.lt_succ_iff_lt_or_eq.1 aj with q|rfl
  ·exact JG (by rw [aB];rfl) k q
  split at h
  ·rename_i z;exact⟨by omega,.inl z⟩
  split at h
  ·cases h
  rename_i z;refine⟨by omega,.inr al⟩
theorem SH{c:dG}(h:qw c)(m:Int):x3 c m≤4:=by
  unfold x3;split
  · rename_i p aE;have:=(h.eT p (List.mem_of_getElem? aE)).2.1;omega
  · decide
structure Nl(c:dG)(e:Nat→Int):Prop where
  ht:0≤e 0∧e 0<(c.ba.length:Int)
  dc:0≤e 1∧e 1<(c.ba.length:Int)
  dd:1≤e 2∧e 2≤3
  mp:∀k,k<4→0≤e (19+k)∧e (19+k)≤4
  of:Hk e (eY c e)
theorem qw.oQ{c:dG}(h:qw c){e:Nat→Int}(he:e∈c.a0):Nl c e:=by
 obtain⟨i,ak,bh⟩:=List.mem_iff_getElem.1 he
 have:=h.es i e (List.getElem?_eq_some_iff.2 ⟨ak,bh⟩)
 unfold lU at this
 simp only [Bool.and_eq_true,decide_eq_true_eq]at this
 obtain⟨⟨⟨⟨ab,af,az,a5,cd,c5,fo⟩,_⟩,gx⟩,jf⟩:=this
 refine⟨⟨ab,af⟩,⟨az,a5⟩,⟨c5,fo⟩,fun k aj=>?_,jf⟩
 have:=JG gx k aj
 have bP:=SH h (e 1)
 exact⟨this.1,by rcases this.2 with q|q<;>(show Dl e k≤4;omega)⟩
theorem qw.aW{c:dG}(h:qw c):GP c:=⟨h.t.2,h.m.2,h.e,fun p aE=>(h.eT p aE).2.1,fun e he=>⟨(h.oQ he).ht,(h.oQ he).dc⟩⟩
def fR(l:List (BitVec 32))(r:c4)(s:List (BitVec 32)):Prop:=r.bad=false∧r.at'≤l.length∧l.drop r.at'=s
theorem Yj{z:Int}(b0:0≤z)(ab:z<4294967296):((gj z).toNat:Int)=z:=by
  rw [←z1,u32_in b0 (by omega)]
theorem fR.next{l:List (BitVec 32)}{r:c4}{w:BitVec 32}{s:List (BitVec 32)}{ec:Int}(h:fR l r (w::s))(hw:(w.toNat:Int)≤ec):(eb l r ec).1=(w.toNat:Int)∧fR l (eb l r ec).2 s:=by
 obtain⟨ab,af,az⟩:=h
 have bh:l[r.at']?=some w:=by
  have:=congrArg (fun l=>l[0]?) az
  simpa [List.getElem?_drop]using this
 have er:=(List.getElem?_eq_some_iff.1 bh).1
 have ck:pS l r.at'=(w.toNat:Int):=by unfold pS;rw [bh]
 have a7:uA l r ec=false:=by
  unfold uA;rw [ab,ck,decide_eq_false al,decide_eq_false al];rfl
 unfold eb
 rw [a7]
 refine⟨ck,ab,er,?_⟩
 show l.drop (r.at'+1)=s
 rw [←List.drop_drop,az];rfl
theorem fR.mN{l:List (BitVec 32)}{r:c4}{z:Int}{s:List (BitVec 32)}{ec:Int}(h:fR l r (gj z::s))(b0:0≤z)(ab:z≤ec)(hm:ec<4294967296):(eb l r ec).1=z∧fR l (eb l r ec).2 s:=by
  have ck:=Yj b0 (show z<4294967296 by omega)
  have:=h.next (ec:=ec) (by rw [ck];exact ab)
  rw [ck]at this;exact this
def Hm(e:Nat→Int):Prop:=∀i,11≤i→e i=0
def Hn(e:Nat→Int):Prop:=∀i,23≤i→e i=0
def Al(y:Nat→Int):Prop:=∀i,2≤i→y i=0
theorem LA(e:Nat→Int):∀(n i:Nat),(jz e n).1.testBit i=(decide (i<n)&&decide (e (3+i)>0))
  |0,i=>by simp [jz]
  |n+1,i=>by
    have h:=LA e n
    have aJ:=(zt e n).1
    rw [jz]
    split
    · rename_i aE
      show(((jz e n).1)+2^n).testBit i=_
      rcases Nat.lt_trichotomy i n with q|rfl|q
      · rw [Nat.add_comm,Nat.testBit_two_pow_add_gt q,h];simp [q,Nat.lt_succ_of_lt q]
      · rw [Nat.add_comm,Nat.testBit_two_pow_add_eq,h];simp [aE]
      · rw [Nat.testBit_lt_two_pow (Nat.lt_of_lt_of_le (show(jz e n).1+2^n<2^(n+1)by rw [Nat.pow_succ];omega) (Nat.pow_le_pow_right (by decide) q))]
        simp;intro bK;omega
    · rename_i aE
      rw [h]
      by_cases q:i=n
      · subst q;simp [aE]
      · simp only [show(i<n+1)=(i<n)from propext (by omega)]
def tj(e:Nat→Int)(n:Nat):List Int:=((List.range n).filter fun i=>decide (e (3+i)>0)).map fun(i:Nat)=>(i:Int)
theorem QK{p:Nat→Bool}{m n:Nat}(ack:m≤n)(h:∀i,m≤i→i<n→p i=false):(List.range n).filter p=(List.range m).filter p:=by
  obtain⟨k,rfl⟩:=Nat.exists_eq_add_of_le ack
  rw [List.range_add,List.filter_append]
  have:((List.range k).map (m+ ·)).filter p=[]:=by
    rw [List.filter_eq_nil_iff]
    intro x av
    obtain⟨j,aY,rfl⟩:=List.mem_map.1 av
    rw [h (m+j) (by omega) (by have:=List.mem_range.1 aY;omega)];decide
  rw [this,List.append_nil]
theorem KL{b:BitVec 32}{p:Nat→Bool}{m:Nat}(hm:m≤32)(h:∀i:Nat,i<32→hasB b (i:Int)=(decide (i<m)&&p i)):bj b=((List.range m).filter p).map fun(i:Nat)=>(i:Int):=by
  unfold bj nU
  have dc:(List.range 32).filter (fun(i:Nat)=>hasB b (i:Int))=(List.range m).filter (fun(i:Nat)=>hasB b (i:Int)):=
    QK hm (fun i ab af=>by rw [h i af];simp;intro;omega)
  have dd:(List.range m).filter (fun(i:Nat)=>hasB b (i:Int))=(List.range m).filter p:=
    List.filter_congr (fun i ak=>by have:=List.mem_range.1 ak;rw [h i (by omega)];simp [this])
  rw [←dd, ←dc]
theorem SI{e:Nat→Int}:bj (BitVec.ofNat 32 (jz e 8).1)=tj e 8:=by
 refine KL bu fun i ak=>?_
 rw [nP,BitVec.getLsbD_ofNat,LA];simp [ak]
theorem V1(e:Nat→Int)(n:Nat):tj e (n+1)=if e (3+n)>0 then tj e n++[(n:Int)]else tj e n:=by
  unfold tj
  rw [List.range_succ,List.filter_append,List.map_append]
  split<;>simp_all
theorem Fb{l:List (BitVec 32)}{e:Nat→Int}(bb:∀i,i<8→e (3+i)≤4096):∀(n:Nat) (p:(Nat→Int)×c4) (s:List (BitVec 32)),n≤8→fR l p.2 ((jz e n).2.map gj++s)→
  (∀i,((tj e n).foldl (s3 l) p).1 i=if 3≤i∧i<3+n∧e i>0 then e i else p.1 i)∧fR l ((tj e n).foldl (s3 l) p).2 s
 |0,p,s,_,h=>⟨fun i=>by rw [if_neg al];rfl,h⟩
 |n+1,p,s,a7,h=>by
  rw [V1,jz]at*
  by_cases q:e (3+n)>0
  ·rw [if_pos q]at*
   simp only [List.map_append,List.append_assoc]at h
   obtain⟨ab,af⟩:=Fb bb n p _ al h
   rw [List.foldl_append]
   generalize (tj e n).foldl (s3 l) p=tK at ab af
   have az:=fR.mN (ec:=4096) af al (bb n al) bu
   show(∀i,(s3 l tK (n:Int)).1 i=_)∧fR l (s3 l tK (n:Int)).2 s
   unfold s3
   refine⟨fun i=>?_,?_,az.2.2.1,az.2.2.2⟩
   ·show bF tK.1 (3+n) _ i=_
    by_cases Bz:i=3+n
    ·subst Bz;rw [e8,az.1,if_pos ⟨by omega,by omega,q⟩]
    rw [fs _ _ Bz,ab i]
    by_cases bK:3≤i∧i<3+n∧e i>0
    ·rw [if_pos bK,if_pos ⟨bK.1,by omega,bK.2.2⟩]
    rw [if_neg bK,if_neg (fun z=>bK ⟨z.1,by omega,z.2.2⟩)]
   show((eb l tK.2 4096).2.bad||((eb l tK.2 4096).1==0))=false
   rw [az.1,az.2.1];simp;omega
  rw [if_neg q]at*
  obtain⟨ab,af⟩:=Fb bb n p s al h
  refine⟨fun i=>?_,af⟩
  rw [ab i]
  by_cases bK:3≤i∧i<3+n∧e i>0
  ·rw [if_pos bK,if_pos ⟨bK.1,by omega,bK.2.2⟩]
  rw [if_neg bK,if_neg (fun z=>bK ⟨z.1,(by rcases Nat.lt_or_eq_of_le (show i≤3+n by omega)with y|y;exact y;subst y;exact absurd z.2.2 q),z.2.2⟩)]
theorem RO{l:List (BitVec 32)}{e:Nat→Int}{cG:Int}{r:c4}{s:List (BitVec 32)}(aR:vX e cG)(bg:Hm e)(h:fR l r (pc e++s)):(nW l r).1=e∧fR l (nW l r).2 s:=by
 obtain⟨⟨ab,af,az,a5,cd,c5⟩,bk⟩:=aR
 have aJ:=(zt e 8).1
 unfold pc at h
 simp only [List.cons_append,List.nil_append]at h
 have bM:=fR.mN (ec:=4096) h al al bu
 have bS:=fR.mN (ec:=4096) bM.2 al al bu
 have cD:=fR.mN (ec:=4096) bS.2 al al bu
 have cV:=fR.mN (ec:=255) cD.2 al al bu
 have hm:fz l r=BitVec.ofNat 32 (jz e 8).1:=by
  show BitVec.ofNat 32 (eb l _ 255).1.toNat=_
  rw [cV.1];rfl
 have nI:nW l r=(tj e 8).foldl (s3 l) (gp l r):=by
  unfold nW fJ;rw [List.take_length,hm,SI]
 have bb:∀i,i<8→e (3+i)≤4096:=fun i ak=>by have:=bk i ak;unfold nm at this;omega
 have:=Fb bb 8 (gp l r) s (Nat.le_refl _) cV.2
 rw [nI]
 refine⟨funext fun i=>?_,this.2⟩
 rw [this.1 i]
 split
 ·rfl
 rename_i q
 show zH (eb l r 4096).1 _ _ i=_
 unfold zH
 split
 ·rename_i z;rw [z,bM.1]
 split
 ·rename_i z;rw [z];exact bS.1
 split
 ·rename_i z;rw [z];exact cD.1
 by_cases z:i<11
 ·have:=bk (i-3) al
  unfold nm at this
  rw [show 3+(i-3)=i by omega]at this
  omega
 exact(bg i al).symm
theorem KM{l:List (BitVec 32)}{r:c4}{s:List (BitVec 32)}{q:List (Nat→Int)}(bP:uQ q)(bg:∀y∈q,Al y)(h:fR l r (q.flatMap xb++s)):∀n,n≤q.length→(jS l r n).1=q.take n∧fR l (jS l r n).2 ((q.drop n).flatMap xb++s)
 |0,_=>⟨rfl,h⟩
 |n+1,a7=>by
  obtain⟨ab,af⟩:=KM bP bg h n al
  obtain⟨y,aZ⟩:∃y,q[n]?=some y:=⟨_,List.getElem?_eq_getElem al⟩
  have hm:=List.mem_of_getElem? aZ
  obtain⟨eR,cB,lp,tG⟩:=bP.2 y hm
  have aD:q.drop n=y::q.drop (n+1):=by
   obtain⟨ak,bh⟩:=List.getElem?_eq_some_iff.1 aZ
   rw [List.drop_eq_getElem_cons ak,bh]
  rw [aD,List.flatMap_cons]at af
  have bM:=fR.mN (ec:=16) af al al bu
  have bS:=fR.mN (ec:=3) bM.2 al al bu
  refine⟨?_,bS.2⟩
  show(jS l r n).1++[yV (wk l (jS l r n)).1 (yi l (jS l r n)).1]=_
  rw [ab,List.take_add_one,aZ]
  congr 1
  show [_]=[y]
  congr 1
  funext i
  show yV (eb l _ 16).1 (eb l _ 3).1 i=y i
  rw [bM.1,bS.1]
  match i with
  |0=>rfl
  |1=>rfl
  |i+2=>exact(bg y hm (i+2) al).symm
theorem RP{l:List (BitVec 32)}{r:c4}{s:List (BitVec 32)}{p:BitVec 32×List (Nat→Int)}(u7:p.1.toNat<65536)(bP:uQ p.2)(bg:∀y∈p.2,Al y)(h:fR l r (qU p++s)):(mM l r).1=p∧fR l (mM l r).2 s:=by
 unfold qU at h
 simp only [List.cons_append,List.nil_append]at h
 have bM:=fR.next (ec:=65535) h al
 have aJ:=bP.1
 have bS:=fR.mN (ec:=4) bM.2 al al bu
 have cD:=KM bP bg bS.2 p.2.length (Nat.le_refl _)
 have a7:(ku l r).1.toNat=p.2.length:=by show(eb l _ 4).1.toNat=_;rw [bS.1];rfl
 unfold mM
 rw [a7]
 refine⟨Prod.ext ?_ ?_,?_⟩
 ·show BitVec.ofNat 32 (eb l r 65535).1.toNat=p.1
  rw [bM.1];simp
 ·show(jS l _ _).1=p.2
  rw [cD.1,List.take_length]
 have:=cD.2
 rwa [List.drop_length]at this
theorem KN{l:List (BitVec 32)}{e:Nat→Int}(br:∀k,k<4→0≤e (19+k)∧e (19+k)≤4){p:(Nat→Int)×c4}:∀(n:Nat) (s:List (BitVec 32)),n≤4→fR l p.2 ((List.range n).map (fun k=>gj (e (19+k)))++s)→
  (∀i,(oK l p n).1 i=if 19≤i∧i<19+n then e i else p.1 i)∧fR l (oK l p n).2 s
 |0,s,_,h=>⟨fun i=>by rw [if_neg al];rfl,h⟩
 |n+1,s,a7,h=>by
  rw [List.range_succ,List.map_append,List.append_assoc]at h
  obtain⟨ab,af⟩:=KN br n _ al h
  obtain⟨eR,cB⟩:=br n al
  have g:=fR.mN (ec:=4) (s:=s) af eR cB bu
  refine⟨fun i=>?_,g.2⟩
  show bF (oK l p n).1 (19+n) (eb l (oK l p n).2 4).1 i=_
  by_cases q:i=19+n
  ·subst q;rw [e8,g.1,if_pos ⟨by omega,by omega⟩]
  rw [fs _ _ q,ab i]
  by_cases bK:19≤i∧i<19+n
  ·rw [if_pos bK,if_pos ⟨bK.1,by omega⟩]
  rw [if_neg bK,if_neg (fun z=>bK ⟨z.1,by omega⟩)]
def ss(c:dG)(e:Nat→Int)(n:Nat):Bool:=hasB (cw c (e 1)) (n:Int)&&!hasB (cw c (e 0)) (n:Int)
def tk(c:dG)(e:Nat→Int)(n:Nat):List Int:=((List.range n).filter (ss c e)).map fun(i:Nat)=>(i:Int)
theorem V2(c:dG)(e:Nat→Int)(n:Nat):tk c e (n+1)=if ss c e n=true then tk c e n++[(n:Int)]else tk c e n:=by
  unfold tk
  rw [List.range_succ,List.filter_append,List.map_append]
  split<;>simp_all
theorem V3(c:dG)(e:Nat→Int)(n:Nat):mo c e (n+1)=if ss c e n=true then mo c e n++[e (3+n)]else mo c e n:=by
  rw [mo]
  unfold ss
  by_cases q:hasB (cw c (e 1)) (n:Int)=true∧hasB (cw c (e 0)) (n:Int)=false
  · rw [if_pos q,if_pos (by simp [q.1,q.2])]
  · rw [if_neg q,if_neg (by intro z;simp at z;exact q z)]
theorem RQ{c:dG}(h:∀p∈c.ba,p.1.toNat<65536)(e:Nat→Int):bj (eY c e)=tk c e 16:=by
 refine KL bu fun i ak=>?_
 by_cases q:i<16
 ·unfold eY ss;rw [vx];simp [q]
 have:hasB (eY c e) (i:Int)=false:=by
  rw [nP,BitVec.getLsbD]
  exact Nat.testBit_lt_two_pow (Nat.lt_of_lt_of_le (Lx h e) (Nat.pow_le_pow_right bu al))
 rw [this];simp [q]
theorem Fu{l:List (BitVec 32)}{c:dG}{e:Nat→Int}(bb:∀i,i<16→0≤e (3+i)∧e (3+i)≤16384):∀(n:Nat) (p:(Nat→Int)×c4) (s:List (BitVec 32)),n≤16→fR l p.2 ((mo c e n).map gj++s)→
  (∀i,((tk c e n).foldl (th l) p).1 i=if 3≤i∧i<3+n∧ss c e (i-3)=true then e i else p.1 i)∧fR l ((tk c e n).foldl (th l) p).2 s
 |0,p,s,_,h=>⟨fun i=>by rw [if_neg al];rfl,h⟩
 |n+1,p,s,a7,h=>by
  rw [V2]
  rw [V3]at h
  by_cases q:ss c e n=true
  ·rw [if_pos q]at*
   simp only [List.map_append,List.append_assoc]at h
   obtain⟨ab,af⟩:=Fu bb n p _ al h
   rw [List.foldl_append]
   generalize (tk c e n).foldl (th l) p=tK at ab af
   have az:=fR.mN (ec:=16384) af (bb n al).1 (bb n al).2 bu
   show(∀i,(th l tK (n:Int)).1 i=_)∧fR l (th l tK (n:Int)).2 s
   unfold th
   refine⟨fun i=>?_,az.2⟩
   show bF tK.1 (3+n) _ i=_
   by_cases Bz:i=3+n
   ·subst Bz;rw [e8,az.1,if_pos ⟨by omega,by omega,by rw [show 3+n-3=n by omega];exact q⟩]
   rw [fs _ _ Bz,ab i]
   by_cases bK:3≤i∧i<3+n∧ss c e (i-3)=true
   ·rw [if_pos bK,if_pos ⟨bK.1,by omega,bK.2.2⟩]
   rw [if_neg bK,if_neg (fun z=>bK ⟨z.1,by omega,z.2.2⟩)]
  rw [if_neg q]at*
  obtain⟨ab,af⟩:=Fu bb n p s al h
  refine⟨fun i=>?_,af⟩
  rw [ab i]
  by_cases bK:3≤i∧i<3+n∧ss c e (i-3)=true
  ·rw [if_pos bK,if_pos ⟨bK.1,by omega,bK.2.2⟩]
  rw [if_neg bK,if_neg (fun z=>bK ⟨z.1,(by rcases Nat.lt_or_eq_of_le (show i≤3+n by omega)with y|y;exact y;subst y;rw [show 3+n-3=n by omega]at z;exact absurd z.2.2 q),z.2.2⟩)]
theorem RR{l:List (BitVec 32)}{c:dG}{e:Nat→Int}{r:c4}{s:List (BitVec 32)}(hm:c.ba.length≤8)(u7:∀p∈c.ba,p.1.toNat<65536)(he:Nl c e)(bg:Hn e)(h:fR l r (sF c e++s)):(ml c l r).1=e∧fR l (ml c l r).2 s:=by
 obtain⟨⟨cE,c2⟩,⟨ay,aM⟩,⟨dg,bC⟩,acm,Ed⟩:=he
 unfold sF at h
 rw [show Eb e=gj (e 0)::gj (e 1)::gj (e 2)::(List.range 4).map (fun k=>gj (e (19+k)))from rfl]at h
 simp only [List.cons_append,List.append_assoc]at h
 have bM:=fR.mN (ec:=8) h al al bu
 have bS:=fR.mN (ec:=8) bM.2 al al bu
 have cD:=fR.mN (ec:=3) bS.2 al al bu
 obtain⟨eR,cB⟩:=KN (p:=o0 l r) acm 4 _ (Nat.le_refl _) cD.2
 have ek:∀i,(o0 l r).1 i=AR (e 0) (e 1) (e 2) i:=fun i=>by
  show AR (eb l r 8).1 (eb l _ 8).1 (eb l _ 3).1 i=_
  rw [bM.1,bS.1,cD.1]
 have BA:∀i,(dJ l r).1 i=if 19≤i∧i<23 then e i else AR (e 0) (e 1) (e 2) i:=fun i=>by rw [←ek];exact eR i
 have b0:(dJ l r).1 0=e 0:=BA 0
 have ab:(dJ l r).1 1=e 1:=BA 1
 have af:(dJ l r).1 2=e 2:=BA 2
 have rp:eY c (dJ l r).1=eY c e:=by unfold eY;rw [b0,ab]
 have cq:∀i,(3≤i∧i<19→e i=0)→e i=if 19≤i∧i<23 then e i else AR (e 0) (e 1) (e 2) i:=fun i q=>by
  split
  ·rfl
  match i with
  |0=>rfl
  |1=>rfl
  |2=>rfl
  |i+3=>
   show e (i+3)=0
   by_cases z:i+3<19
   ·exact q ⟨by omega,z⟩
   exact bg _ al
 unfold ml
 rw [af]
 by_cases q:e 2=3
 ·rw [if_pos q]at cB⊢
  have b7:hQ l (dJ l r) (bj (eY c (dJ l r).1)) (bj (eY c (dJ l r).1)).length=(tk c e 16).foldl (th l) (dJ l r):=by
   unfold hQ;rw [List.take_length,rp,RQ u7]
  rw [b7]
  obtain⟨f1,f2⟩:=Fu (c:=c) (e:=e) (fun i ak=>⟨(Ed i ak).1,(Ed i ak).2.1⟩) 16 (dJ l r) s (Nat.le_refl _) cB
  refine⟨funext fun i=>?_,f2⟩
  rw [f1 i]
  split
  ·rfl
  rename_i z
  rw [BA i]
  refine(cq i fun y=>?_).symm
  have:=Ed (i-3) al
  unfold Aj at this
  rw [show 3+(i-3)=i by omega]at this
  apply Classical.byContradiction;intro w
  have hV:=(this.2.2 al).2
  refine z ⟨y.1,by omega,?_⟩
  unfold ss;rw [←vx];exact hV
 rw [if_neg q]at cB⊢
 refine⟨funext fun i=>?_,cB⟩
 rw [BA i]
 refine(cq i fun y=>?_).symm
 have:=Ed (i-3) al
 unfold Aj at this
 rw [show 3+(i-3)=i by omega]at this
 apply Classical.byContradiction;intro w
 exact q (this.2.2 al).1
theorem Fv{α:Type}{l:List (BitVec 32)}{r:c4}{s:List (BitVec 32)}{xs:List α}{a9:α→List (BitVec 32)}{f:c4→α×c4}{G:Nat→List α×c4}(b0:G 0=([],r))(aB:∀n,G (n+1)=((G n).1++[(f (G n).2).1],(f (G n).2).2))
  (br:∀x∈xs,∀r s,fR l r (a9 x++s)→(f r).1=x∧fR l (f r).2 s) (h:fR l r (xs.flatMap a9++s)):(G xs.length).1=xs∧fR l (G xs.length).2 s:=by
 have key:∀n,n≤xs.length→(G n).1=xs.take n∧fR l (G n).2 ((xs.drop n).flatMap a9++s):=by
  intro n
  induction n with
  |zero=>intro _;rw [b0];exact⟨rfl,h⟩
  |succ n ih=>
   intro a7
   obtain⟨ab,af⟩:=ih al
   obtain⟨y,aZ⟩:∃y,xs[n]?=some y:=⟨_,List.getElem?_eq_getElem al⟩
   have aD:xs.drop n=y::xs.drop (n+1):=by
    obtain⟨ak,bh⟩:=List.getElem?_eq_some_iff.1 aZ
    rw [List.drop_eq_getElem_cons ak,bh]
   rw [aD,List.flatMap_cons,List.append_assoc]at af
   obtain⟨eR,cB⟩:=br y (List.mem_of_getElem? aZ) _ _ af
   rw [aB]
   refine⟨?_,cB⟩
   show(G n).1++[(f (G n).2).1]=_
   rw [ab,eR,List.take_add_one,aZ];rfl
 have:=key xs.length (Nat.le_refl _)
 rw [List.take_length,List.drop_length]at this
 exact this
structure Can(c:dG):Prop where
  t:∀e∈c.aG,Hm e
  q:∀p∈c.ba,∀y∈p.2,Al y
  e:∀e∈c.a0,Hn e
theorem LB{c:dG}(h:(iS c).2=0)(bg:Can c):ld (np c)=some c:=by
  have aj:=xT h
  generalize aJ:np c=l
  have l5:fR l u6 l:=⟨rfl,Nat.zero_le _,rfl⟩
  have H0:fR l u6 (np c):=by rw [aJ];exact l5
  unfold np xc at H0
  simp only [List.cons_append,List.nil_append,List.append_assoc]at H0
  have t:=aj.t;have m:=aj.m;have e:=aj.e
  have vn:=fR.mN (ec:=1380273457) H0 (by decide) (by decide) (by decide)
  have acn:fR l (yE l) _:=⟨by show((eb l u6 1380273457).1 !=1380273457)=false;rw [vn.1];rfl,vn.2.2.1,vn.2.2.2⟩
  have bM:=fR.mN (ec:=8) acn aj.cG.1 aj.cG.2 (by decide)
  have bS:=fR.mN (ec:=16) bM.2 (by omega) (by omega) (by decide)
  have cD:=fR.mN (ec:=8) bS.2 (by omega) (by omega) (by decide)
  have cV:=fR.mN (ec:=24) cD.2 (by omega) (by omega) (by decide)
  have nJ:(o1 l).1.toNat=c.aG.length:=by show(eb l _ 16).1.toNat=_;rw [bS.1];rfl
  have yS:(o2 l).1.toNat=c.ba.length:=by show(eb l _ 8).1.toNat=_;rw [cD.1];rfl
  have adD:(lE l).1.toNat=c.a0.length:=by show(eb l _ 24).1.toNat=_;rw [cV.1];rfl
  have T:=Fv (G:=oL l (lE l).2) (f:=nW l) rfl (fun n=>rfl) (fun x av r s q=>RO (aj.bf x av) (bg.t x av) q) cV.2
  rw [←nJ]at T
  have M:=Fv (G:=nn l (oi l).2) (f:=mM l) rfl (fun n=>rfl) (fun x av r s q=>RP (aj.PI av) (aj.eT x av).2 (bg.q x av) q) T.2
  rw [←yS]at M
  have ht:o3 l=⟨c.cG,c.aG,c.ba,[]⟩:=by
    show(⟨(eb l (yE l) 8).1,(oi l).1,(oj l).1,[]⟩:dG)=_
    rw [bM.1,show(oi l).1=c.aG from T.1,show(oj l).1=c.ba from M.1]
  have aco:∀r,ml (o3 l) l r=ml c l r:=fun r=>by rw [ht];rfl
  have E:=Fv (G:=oM (o3 l) l (oj l).2) (f:=ml (o3 l) l) (s:=[]) rfl (fun n=>rfl) (fun x av r s q=>by rw [aco];exact RR m.2 (fun p aE=>aj.PI aE) (aj.oQ av) (bg.e x av) q) (by rw [List.append_nil];exact M.2)
  rw [←adD]at E
  have bZ:(oN l).1=c:=by
    show(⟨(eb l (yE l) 8).1,(oi l).1,(oj l).1,(yR l).1⟩:dG)=c
    rw [bM.1,show(oi l).1=c.aG from T.1,show(oj l).1=c.ba from M.1,show(yR l).1=c.a0 from E.1]
  obtain⟨eR,cB,lp⟩:fR l (oN l).2 []:=E.2
  have tG:=List.drop_eq_nil_iff.1 lp
  unfold ld
  rw [if_neg (by rintro(q|q);rw [eR]at q;cases q;omega),bZ,if_pos h]
abbrev g7(n:Int):Prop:=0≤n∧n≤1099511627776
abbrev pD(p:Int×Bool):Value:= .tuple #[U p.1,.bool p.2]
def j7(a b:Int):Int×Bool:=if g7 a∧g7 b∧b≤1099511627776-a then(a+b,true)else(0,false)
def mq(a b:Int):Int×Bool:=if g7 a∧g7 b∧(b≠0→a≤Int.tdiv 1099511627776 b)then(a*b,true)else(0,false)
def oD(a b:Int):Int×Bool:=if g7 a∧g7 b then(max (a-b) 0,true)else(0,false)
def iX(a b:Int):Int×Bool:=if g7 a∧g7 b∧b≠0 then(if a=0 then(0,true)else(Int.tdiv (a-1) b+1,true))else(0,false)
theorem CH{a b:Int}(aO:0≤a)(bb:1≤b):0≤Int.tdiv a b∧Int.tdiv a b≤a:=⟨Int.tdiv_nonneg aO (by omega),by
  rw [Int.tdiv_eq_ediv_of_nonneg aO];exact Int.ediv_le_self _ aO⟩
theorem C4{a b:Int}(h:g7 a∧g7 b∧(b≠0→a≤Int.tdiv 1099511627776 b)):0≤a*b∧a*b≤1099511627776:=by
 obtain⟨⟨ab,af⟩,⟨az,a5⟩,cd⟩:=h
 refine⟨Int.mul_nonneg ab az,?_⟩
 by_cases q:b=0
 ·subst q;simp
 have c5:=cd q
 rw [Int.tdiv_eq_ediv_of_nonneg bu]at c5
 exact Int.le_trans (Int.mul_le_mul_of_nonneg_right c5 az) (Int.ediv_mul_le _ q)
theorem u9(n:Int):aS B 299 [U n] [] (fun v S=>v= .bool (decide (g7 n))∧S=[]):=by
 refine bD 9 Tryz.func299 fun a4 ax=>?_
 refine cC ?_ ?_<;>intro ab
 ·exact bI ⟨congrArg Value.bool (by first|exact decide_eq_decide.2 (by constructor<;>intro h<;>omega)|exact(decide_eq_false al).symm),rfl⟩
 exact bI ⟨congrArg Value.bool (by first|exact decide_eq_decide.2 (by constructor<;>intro h<;>omega)|exact(decide_eq_false al).symm),rfl⟩
theorem Ho(a b:Int):aS B 290 [U a,U b] [] (fun v S=>v=pD (j7 a b)∧S=[]):=by
 refine bD 23 Tryz.func290 fun a4 ax=>?_
 refine fL (u9 a) ?_
 refine cC ?_ ?_<;>intro ab
 ·first|rw [show j7 a b=(0,false)from if_neg (by rintro⟨bY,bK,eu⟩;first|omega|(exact absurd bY cl)|(exact absurd bK cl)|(have sE:=eu al;omega))]|rw [show j7 a b=_ from if_pos ⟨by first|assumption|omega,by first|assumption|omega,by first|omega|(intro;omega)⟩]
  exact bA
 refine fL (u9 b) ?_
 refine cC ?_ ?_<;>intro af
 ·first|rw [show j7 a b=(0,false)from if_neg (by rintro⟨bY,bK,eu⟩;first|omega|(exact absurd bY cl)|(exact absurd bK cl)|(have sE:=eu al;omega))]|rw [show j7 a b=_ from if_pos ⟨by first|assumption|omega,by first|assumption|omega,by first|omega|(intro;omega)⟩]
  exact bA
 refine aT ?_ ?_<;>intro az
 ·first|rw [show j7 a b=(0,false)from if_neg (by rintro⟨bY,bK,eu⟩;first|omega|(exact absurd bY cl)|(exact absurd bK cl)|(have sE:=eu al;omega))]|rw [show j7 a b=_ from if_pos ⟨by first|assumption|omega,by first|assumption|omega,by first|omega|(intro;omega)⟩]
  exact bA
 first|rw [show j7 a b=(0,false)from if_neg (by rintro⟨bY,bK,eu⟩;first|omega|(exact absurd bY cl)|(exact absurd bK cl)|(have sE:=eu al;omega))]|rw [show j7 a b=_ from if_pos ⟨by first|assumption|omega,by first|assumption|omega,by first|omega|(intro;omega)⟩]
 exact bA
theorem aaj(a b:Int):aS B 306 [U a,U b] [] (fun v S=>v=pD (mq a b)∧S=[]):=by
 refine bD 27 Tryz.func306 fun a4 ax=>?_
 refine fL (u9 a) ?_
 refine cC ?_ ?_<;>intro ab
 ·first|rw [show mq a b=(0,false)from if_neg (by rintro⟨bY,bK,eu⟩;first|omega|(exact absurd bY cl)|(exact absurd bK cl)|(have sE:=eu al;omega))]|rw [show mq a b=_ from if_pos ⟨by first|assumption|omega,by first|assumption|omega,by first|omega|(intro;omega)⟩]
  exact bA
 refine fL (u9 b) ?_
 refine cC ?_ ?_<;>intro af
 ·first|rw [show mq a b=(0,false)from if_neg (by rintro⟨bY,bK,eu⟩;first|omega|(exact absurd bY cl)|(exact absurd bK cl)|(have sE:=eu al;omega))]|rw [show mq a b=_ from if_pos ⟨by first|assumption|omega,by first|assumption|omega,by first|omega|(intro;omega)⟩]
  exact bA
 refine cC ?_ ?_<;>intro az
 ·refine aA (rK (z:=Int.tdiv (1099511627776) (b)) rfl rfl al (by have:=CH (a:=1099511627776) (b:=b) al al;exact nQ al al)) (hw:=(.yes 17 rfl rfl rfl)) ?_
  refine ah ?_
  refine aT ?_ ?_<;>intro a5
  ·first|rw [show mq a b=(0,false)from if_neg (by rintro⟨bY,bK,eu⟩;first|omega|(exact absurd bY cl)|(exact absurd bK cl)|(have sE:=eu al;omega))]|rw [show mq a b=_ from if_pos ⟨by first|assumption|omega,by first|assumption|omega,by first|omega|(intro;omega)⟩]
   exact bA
  refine aA (oz (m:=a) (n:=b) rfl rfl (by have:=C4 (a:=a) (b:=b) ⟨by assumption,by assumption,fun q=>by first|assumption|(exfalso;omega)⟩;omega) (by have:=C4 (a:=a) (b:=b) ⟨by assumption,by assumption,fun q=>by first|assumption|(exfalso;omega)⟩;omega)) ?_
  refine ah ?_
  first|rw [show mq a b=(0,false)from if_neg (by rintro⟨bY,bK,eu⟩;first|omega|(exact absurd bY cl)|(exact absurd bK cl)|(have sE:=eu al;omega))]|rw [show mq a b=_ from if_pos ⟨by first|assumption|omega,by first|assumption|omega,by first|omega|(intro;omega)⟩]
  exact bA
 refine aA (oz (m:=a) (n:=b) rfl rfl (by have:=C4 (a:=a) (b:=b) ⟨by assumption,by assumption,fun q=>by first|assumption|(exfalso;omega)⟩;omega) (by have:=C4 (a:=a) (b:=b) ⟨by assumption,by assumption,fun q=>by first|assumption|(exfalso;omega)⟩;omega)) ?_
 refine ah ?_
 first|rw [show mq a b=(0,false)from if_neg (by rintro⟨bY,bK,eu⟩;first|omega|(exact absurd bY cl)|(exact absurd bK cl)|(have sE:=eu al;omega))]|rw [show mq a b=_ from if_pos ⟨by first|assumption|omega,by first|assumption|omega,by first|omega|(intro;omega)⟩]
 exact bA
theorem Yk(a b:Int):aS B 307 [U a,U b] [] (fun v S=>v=pD (oD a b)∧S=[]):=by
 refine bD 18 Tryz.func307 fun a4 ax=>?_
 refine fL (u9 a) ?_
 refine cC ?_ ?_<;>intro ab
 ·first|rw [show oD a b=(0,false)from if_neg (by rintro⟨bY,bK⟩;first|(exact absurd bY cl)|(exact absurd bK cl))]|rw [show oD a b=_ from if_pos ⟨by assumption,by assumption⟩]
  exact bA
 refine fL (u9 b) ?_
 refine aT ?_ ?_<;>intro af
 ·first|rw [show oD a b=(0,false)from if_neg (by rintro⟨bY,bK⟩;first|(exact absurd bY cl)|(exact absurd bK cl))]|rw [show oD a b=_ from if_pos ⟨by assumption,by assumption⟩]
  exact bA
 first|rw [show oD a b=(0,false)from if_neg (by rintro⟨bY,bK⟩;first|(exact absurd bY cl)|(exact absurd bK cl))]|rw [show oD a b=_ from if_pos ⟨by assumption,by assumption⟩]
 exact bA
theorem acp(a b:Int):aS B 308 [U a,U b] [] (fun v S=>v=pD (iX a b)∧S=[]):=by
 refine bD 25 Tryz.func308 fun a4 ax=>?_
 refine fL (u9 a) ?_
 refine cC ?_ ?_<;>intro ab
 ·first|rw [show iX a b=(0,false)from if_neg (show¬(g7 a∧g7 b∧b≠0)by rintro⟨bY,bK,eu⟩;first|(exact absurd bY cl)|(exact absurd bK cl)|omega)]|rw [show iX a b=(0,true)from by unfold iX;rw [if_pos (show g7 a∧g7 b∧b≠0 from⟨by assumption,by assumption,by omega⟩),if_pos cl]]|rw [show iX a b=(Int.tdiv (a-1) b+1,true)from by unfold iX;rw [if_pos (show g7 a∧g7 b∧b≠0 from⟨by assumption,by assumption,by omega⟩),if_neg cl]]
  exact bA
 refine fL (u9 b) ?_
 refine cC ?_ ?_<;>intro af
 ·first|rw [show iX a b=(0,false)from if_neg (show¬(g7 a∧g7 b∧b≠0)by rintro⟨bY,bK,eu⟩;first|(exact absurd bY cl)|(exact absurd bK cl)|omega)]|rw [show iX a b=(0,true)from by unfold iX;rw [if_pos (show g7 a∧g7 b∧b≠0 from⟨by assumption,by assumption,by omega⟩),if_pos cl]]|rw [show iX a b=(Int.tdiv (a-1) b+1,true)from by unfold iX;rw [if_pos (show g7 a∧g7 b∧b≠0 from⟨by assumption,by assumption,by omega⟩),if_neg cl]]
  exact bA
 refine aT ?_ ?_<;>intro az
 ·first|rw [show iX a b=(0,false)from if_neg (show¬(g7 a∧g7 b∧b≠0)by rintro⟨bY,bK,eu⟩;first|(exact absurd bY cl)|(exact absurd bK cl)|omega)]|rw [show iX a b=(0,true)from by unfold iX;rw [if_pos (show g7 a∧g7 b∧b≠0 from⟨by assumption,by assumption,by omega⟩),if_pos cl]]|rw [show iX a b=(Int.tdiv (a-1) b+1,true)from by unfold iX;rw [if_pos (show g7 a∧g7 b∧b≠0 from⟨by assumption,by assumption,by omega⟩),if_neg cl]]
  exact bA
 refine aT ?_ ?_<;>intro a5
 ·first|rw [show iX a b=(0,false)from if_neg (show¬(g7 a∧g7 b∧b≠0)by rintro⟨bY,bK,eu⟩;first|(exact absurd bY cl)|(exact absurd bK cl)|omega)]|rw [show iX a b=(0,true)from by unfold iX;rw [if_pos (show g7 a∧g7 b∧b≠0 from⟨by assumption,by assumption,by omega⟩),if_pos cl]]|rw [show iX a b=(Int.tdiv (a-1) b+1,true)from by unfold iX;rw [if_pos (show g7 a∧g7 b∧b≠0 from⟨by assumption,by assumption,by omega⟩),if_neg cl]]
  exact bA
 refine aA (rK (z:=Int.tdiv (a-1) (b)) rfl rfl al (by have:=CH (a:=a-1) (b:=b) al al;exact nQ al al)) ?_
 refine aA (pO (m:=Int.tdiv (a-1) b) (n:=1) rfl rfl (by have:=CH (a:=a-1) (b:=b) al al;omega) (by have:=CH (a:=a-1) (b:=b) al al;omega)) ?_
 refine ah ?_
 first|rw [show iX a b=(0,false)from if_neg (show¬(g7 a∧g7 b∧b≠0)by rintro⟨bY,bK,eu⟩;first|(exact absurd bY cl)|(exact absurd bK cl)|omega)]|rw [show iX a b=(0,true)from by unfold iX;rw [if_pos (show g7 a∧g7 b∧b≠0 from⟨by assumption,by assumption,by omega⟩),if_pos cl]]|rw [show iX a b=(Int.tdiv (a-1) b+1,true)from by unfold iX;rw [if_pos (show g7 a∧g7 b∧b≠0 from⟨by assumption,by assumption,by omega⟩),if_neg cl]]
 exact bA
abbrev hB(t:Nat→Int):List Value:=[U (t 0),U (t 1),U (t 2),U (t 3)]
def nd(t:Nat→Int)(n:Int):Int×Bool:=if(oD n (t 2)).2=true then iX (oD n (t 2)).1 (t 0)else(0,false)
def qx(t:Nat→Int)(n:Int):Int×Bool:=if(nd t n).2=true then(if(mq (nd t n).1 (t 1)).2=true then j7 (mq (nd t n).1 (t 1)).1 (t 3)else(0,false))else(0,false)
def m4(n:Int)(t:Nat→Int):Int:=if(qx t n).2=true then(qx t n).1 else-1
def rY(e:Nat→Int)(o:Int):Nat→Int
  |0=>e 0
  |1=>e 2
  |2=>o
  |_=>0
def wm(p:Int×Bool)(x:Int):Int×Bool:=if p.2=true then j7 p.1 x else p
def lf(l:List Int)(i:Nat):Int×Bool:=(l.take i).foldl wm (0,true)
def yj(l:List Int):Int×Bool:=l.foldl wm (0,true)
theorem Mt{l:List Int}{i:Nat}{x:Int}(h:l[i]?=some x):lf l (i+1)=wm (lf l i) x:=by
  unfold lf;rw [List.take_add_one,h,List.foldl_append];rfl
theorem KO(l:List Int):lf l l.length=yj l:=by unfold lf yj;rw [List.take_length]
theorem V4{a b:Int}(h:(j7 a b).2=false):j7 a b=(0,false):=by
  unfold j7 at*;split at h
  · cases h
  · rename_i q;rw [if_neg q]
theorem Yl(l:List Int):l.foldl wm (0,false)=(0,false):=by
  induction l with
  |nil=>rfl
  |cons x l ih=>exact ih
theorem V5{l:List Int}{i:Nat}(h:(lf l i).2=true){x:Int}(av:l[i]?=some x)(br:(j7 (lf l i).1 x).2=false):yj l=(0,false):=by
  have ab:lf l (i+1)=(0,false):=by rw [Mt av];unfold wm;rw [if_pos h,V4 br]
  unfold yj
  rw [←List.take_append_drop (i+1) l,List.foldl_append,show(l.take (i+1)).foldl wm (0,true)=(0,false)from ab]
  exact Yl _
theorem V6{l:List Int}{i:Nat}(h:(lf l i).2=true){x:Int}(av:l[i]?=some x)(br:(j7 (lf l i).1 x).2=true):(lf l (i+1)).2=true∧(lf l (i+1)).1=(j7 (lf l i).1 x).1:=by
  rw [Mt av];unfold wm;rw [if_pos h];exact⟨br,rfl⟩
def pw(n:Int)(l:List (Nat→Int)):Int×Bool:=yj (l.map (m4 n))
theorem Ym(t:Nat→Int)(n:Int):aS B 305 [.agg (hB t).toArray,U n] [] (fun v S=>v=pD (nd t n)∧S=[]):=by
 refine bD 23 Tryz.func305 fun a4 ax=>?_
 refine fe (au:=hB t) fun ay=>?_
 refine hD (Yk n (t 2)) ?_
 refine ct ?_
 refine bH (U (oD n (t 2)).1) ?_
 refine bH (.bool (oD n (t 2)).2) ?_
 refine ah ?_
 refine aT ?_ ?_<;>intro ab
 ·rw [show nd t n=(0,false)from by unfold nd;rw [if_neg (by rw [ab];decide)]]
  exact bA
 refine hD (acp (oD n (t 2)).1 (t 0)) ?_
 refine bH (U (iX (oD n (t 2)).1 (t 0)).1) ?_
 refine bH (.bool (iX (oD n (t 2)).1 (t 0)).2) ?_
 refine ah ?_
 rw [show nd t n=iX (oD n (t 2)).1 (t 0)from by unfold nd;rw [if_pos ab]]
 exact bA
theorem Yn(t:Nat→Int)(n:Int):aS B 303 [.agg (hB t).toArray,U n] [] (fun v S=>v=pD (qx t n)∧S=[]):=by
 refine bD 32 Tryz.func303 fun a4 ax=>?_
 refine dt (au:=hB t) fun ay=>?_
 refine cW ?_
 refine cM (hB t) ?_
 refine ah ?_
 refine hD (Ym t n) ?_
 refine ct ?_
 refine bH (U (nd t n).1) ?_
 refine bH (.bool (nd t n).2) ?_
 refine ah ?_
 refine aT ?_ ?_<;>intro ab
 ·rw [show qx t n=(0,false)from by unfold qx;rw [if_neg (by rw [ab];decide)]]
  exact bA
 refine hD (aaj (nd t n).1 (t 1)) ?_
 refine ct ?_
 refine bH (U (mq (nd t n).1 (t 1)).1) ?_
 refine bH (.bool (mq (nd t n).1 (t 1)).2) ?_
 refine ah ?_
 refine aT ?_ ?_<;>intro af
 ·rw [show qx t n=(0,false)from by unfold qx;rw [if_pos ab,if_neg (by rw [af];decide)]]
  exact bA
 refine hD (Ho (mq (nd t n).1 (t 1)).1 (t 3)) ?_
 refine bH (U (j7 (mq (nd t n).1 (t 1)).1 (t 3)).1) ?_
 refine bH (.bool (j7 (mq (nd t n).1 (t 1)).1 (t 3)).2) ?_
 refine ah ?_
 rw [show qx t n=j7 (mq (nd t n).1 (t 1)).1 (t 3)from by unfold qx;rw [if_pos ab,if_pos af]]
 exact bA
theorem PJ(e:Nat→Int)(o:Int):aS B 277 [.agg (cg e).toArray,U o] [] (fun v S=>v= .agg (hB (rY e o)).toArray∧S=[]):=by
 refine bD 11 Tryz.func277 fun a4 ax=>?_
 refine dt (au:=cg e) fun ay=>?_
 refine da fun aM=>?_
 refine cc (.nil _) (gA rfl rfl ar ae (by rfl)) ?_
 exact bA
theorem V7(n:Int)(a:ai (Nat→Int)):aS B 298 [U n,aw a] [] (fun v S=>∃kB c3:Nat,v= .func (.func 302) #[] #[ag kB,ag c3]∧S=[aa kB [aw a] 394,aa c3 [U n] 3]):=by
 refine bD 6 Tryz.func298 fun a4 ax=>?_
 refine dt fun ay=>?_
 refine fe fun aM=>?_
 exact⟨[aa aM [aw a] 394,aa ay [U n] 3],⟨aM,ay,rfl,rfl⟩,_,bq⟩
theorem SJ(kB c3:Nat)(n:Int)(a:ai (Nat→Int))(aO:c1 K a.bl (a.l.flatMap hB)):mW Tryz.prog B 302 [ag kB,ag c3] [aa kB [aw a] 394,aa c3 [U n] 3,K] ((a.l.map (m4 n)).map fun z=>[.int .i64 z]):=by
 intro cu J gN cb gv aZ
 change dQ _ _ _ _ (aa kB [aw a] 394::aa c3 [U n] 3::K::cb) _
 refine bD 27 Tryz.func302 fun a4 ax=>?_
 refine dH (α:=Nat×List (ao B)) (fun⟨i,aP⟩=>i≤a.l.length∧J i aP) (fun⟨i,aP⟩=>[(10,U (i:Int)),(0,.func (.yield cu) #[] #[]),(1,ag kB),(2,ag c3),(8,aw a),(9,U (a.l.length:Int))]) (fun⟨i,aP⟩=>aa kB [aw a] 394::aa c3 [U n] 3::K::aP) (fun⟨i,aP⟩=>a.l.length-i) (0,cb) ?_ dD aC ?_
 ·exact⟨Nat.zero_le _,gv⟩
 rintro⟨i,aP⟩ ⟨ak,bt⟩
 dsimp only
 have has:=a.small
 refine ah ?_
 refine aT ?_ ?_<;>intro ab
 ·obtain⟨t,bh⟩:∃t,a.l[i]?=some t:=⟨_,List.getElem?_eq_getElem al⟩
  have er:i<(a.l.map (m4 n)).length:=by rw [List.length_map];omega
  have fI:=aZ i aP (by rw [List.length_map];exact er) bt
  rw [m6 (f:=fun z=>[Value.int .i64 z]) (show(a.l.map (m4 n))[i]?=some (m4 n t)by rw [List.getElem?_map,bh];rfl)]at fI
  refine ah ?_
  refine aA (hN (aW:=hB) (aH:=4) (i:=i) (fun _=>rfl) rfl ar aO ae bh) ?_
  refine ds fun ay=>?_
  refine gK ?_
  refine cM (hB t) ?_
  refine ah ?_
  refine hD (Yn t n) ?_
  refine ct ?_
  refine bH (U (qx t n).1) ?_
  refine bH (.bool (qx t n).2) ?_
  refine ah ?_
  refine aT ?_ ?_<;>intro af
  ·rw [show m4 n t= -1 from if_neg (by rw [af];decide)]at fI
   refine vI (L:=aa kB [aw a] 394::aa c3 [U n] 3::K::aP) aC ?_
   refine iB (own:=[aa kB [aw a] 394,aa c3 [U n] 3,K]) (hU:=aP) .no rfl rfl fI rfl ?_
   rintro og aQ aE
   refine cU ?_
   refine aT ?_ ?_<;>intro az
   ·obtain⟨z,_⟩|⟨_,aE⟩:=aE
    ·rw [z]at az;cases az
    exact⟨aa kB [aw a] 394::aa c3 [U n] 3::K::aQ,⟨aQ,rfl,.inr ⟨i,by rw [List.length_map];exact er,aE⟩⟩,_,aC⟩
   obtain⟨_,aE⟩|⟨z,_⟩:=aE
   rotate_left
   ·rw [z]at az;cases az
   refine ah ?_
   refine eg (i+1,aQ) ?_ ?_ ?_ ?_
   ·(try dsimp only);exact⟨by omega,aE⟩
   ·(try dsimp only);omega
   ·refine⟨?_,?_,?_,?_,?_,?_,trivial⟩<;>rfl
   (try dsimp only);exact⟨_,aC⟩
  rw [show m4 n t=(qx t n).1 from if_pos af]at fI
  refine vI (L:=aa kB [aw a] 394::aa c3 [U n] 3::K::aP) aC ?_
  refine iB (own:=[aa kB [aw a] 394,aa c3 [U n] 3,K]) (hU:=aP) .no rfl rfl fI rfl ?_
  rintro og aQ aE
  refine cU ?_
  refine aT ?_ ?_<;>intro a5
  ·obtain⟨z,_⟩|⟨_,aE⟩:=aE
   ·rw [z]at a5;cases a5
   exact⟨aa kB [aw a] 394::aa c3 [U n] 3::K::aQ,⟨aQ,rfl,.inr ⟨i,by rw [List.length_map];exact er,aE⟩⟩,_,aC⟩
  obtain⟨_,aE⟩|⟨z,_⟩:=aE
  rotate_left
  ·rw [z]at a5;cases a5
  refine ah ?_
  refine eg (i+1,aQ) ?_ ?_ ?_ ?_
  ·(try dsimp only);exact⟨by omega,aE⟩
  ·(try dsimp only);omega
  ·refine⟨?_,?_,?_,?_,?_,?_,trivial⟩<;>rfl
  (try dsimp only);exact⟨_,aC⟩
 obtain rfl:i=a.l.length:=by omega
 exact⟨aa kB [aw a] 394::aa c3 [U n] 3::K::aP,⟨aP,rfl,.inl (by rw [List.length_map,List.length_map];exact bt)⟩,_,aC⟩
theorem aak(kB c3:Nat)(n:Int)(a:ai (Nat→Int))(aO:c1 K a.bl (a.l.flatMap hB)):aS B 297 [.func (.func 302) #[] #[ag kB,ag c3]] [aa kB [aw a] 394,aa c3 [U n] 3,K] (fun v S=>v=pD (pw n a.l)∧S=[K]):=by
 refine bD 20 Tryz.func297 fun a4 ax=>?_
 refine ds fun ay=>?_
 refine da fun aM=>?_
 refine da fun bw=>?_
 rw [show(aa bw [U 0] 3:ao B)=aa bw [U (lf (a.l.map (m4 n)) 0).1] 3 from rfl]
 refine kh (own:=[aa kB [aw a] 394,aa c3 [U n] 3,K]) (aP:=[aa ay [U 0] 3,aa aM [.bool false] 4,aa bw [U (lf (a.l.map (m4 n)) 0).1] 3]) rfl e2 (SJ kB c3 n a aO) (fun i S=>(lf (a.l.map (m4 n)) i).2=true∧S=[aa ay [U 0] 3,aa aM [.bool false] 4,aa bw [U (lf (a.l.map (m4 n)) i).1] 3]) (fun c i S=>c= .ret∧pw n a.l=(0,false)∧S=[aa ay [U 0] 3,aa aM [.bool false] 4]) (show Take ([aa kB [aw a] 394,aa c3 [U n] 3,K,aa ay [U 0] 3,aa aM [.bool false] 4,aa bw [U (lf (a.l.map (m4 n)) 0).1] 3]) _ _ from aC) (⟨rfl,rfl⟩) rfl (fun x av=>by obtain⟨y,_,rfl⟩:=List.mem_map.1 av;rfl) ?_ ?_ ?_
 ·intro cu rec jF i aQ ak bt
  obtain⟨et,rfl⟩:=bt
  rw [List.length_map]at ak
  obtain⟨x,cN⟩:∃x,(a.l.map (m4 n))[i]?=some x:=⟨_,List.getElem?_eq_getElem ak⟩
  rw [m6 (f:=fun z=>[Value.int .i64 z]) cN]
  refine ah ?_
  refine⟨rfl,_,_,.cons ar (Take.self _),fun h1=>?_⟩
  refine ah ?_
  refine hD (Ho (lf (a.l.map (m4 n)) i).1 x) ?_
  refine ct ?_
  refine bH (U (j7 (lf (a.l.map (m4 n)) i).1 x).1) ?_
  refine bH (.bool (j7 (lf (a.l.map (m4 n)) i).1 x).2) ?_
  refine ah ?_
  refine aT ?_ ?_<;>intro ab
  ·exact⟨[aa ay [U 0] 3,aa aM [.bool false] 4],_,aC,⟨rfl,V5 et cN ab,rfl⟩⟩
  obtain⟨n6,g4⟩:=V6 et cN ab
  rw [←g4]
  exact⟨[aa ay [U 0] 3,aa aM [.bool false] 4,aa bw [U (lf (a.l.map (m4 n)) (i+1)).1] 3],_,aC,⟨n6,rfl⟩⟩
 ·intro c0 aQ bt
  obtain⟨et,rfl⟩:=bt
  rw [List.length_map,KO]
  rw [List.length_map,KO]at et
  refine cU ?_
  refine cc (show Take [du c0] _ _ from aC) (xN rfl rfl rfl ar ar ae ae) ?_
  rw [show pw n a.l=((yj (a.l.map (m4 n))).1,true)from Prod.ext rfl et]
  exact bA
 intro c0 c i aQ ak h
 obtain⟨rfl,acq,rfl⟩:=h
 refine cU ?_
 refine cc (show Take [du c0] _ _ from aC) (xN rfl rfl rfl ar ar ae ae) ?_
 rw [acq]
 exact bA
theorem aal(n:Int)(a:ai (Nat→Int))(aO:c1 K a.bl (a.l.flatMap hB)):aS B 289 [U n,aw a] [K] (fun v S=>v=pD (pw n a.l)∧S=[K]):=by
 refine bD 12 Tryz.func289 fun a4 ax=>?_
 refine cA (V7 n a) ?_
 rintro _ _ ⟨kB,c3,rfl,rfl⟩
 simp only [List.cons_append,List.nil_append]
 refine dA (aak kB c3 n a aO) ?_
 refine bH (U (pw n a.l).1) ?_
 refine bH (.bool (pw n a.l).2) ?_
 exact mz
def q3(own n:Int)(l:List (Nat→Int)):Int×Bool:=if(pw n l).2=true then j7 own (pw n l).1 else(0,false)
def yG(own ec:Int)(l:List (Nat→Int)):Nat→Int→Int×Bool
  |0,_=>(0,false)
  |f+1,w=>if w≤ec then(if(q3 own w l).2=true then(if(q3 own w l).1≤w then(w,true)else yG own ec l f (q3 own w l).1)else(0,false))else(0,false)
def ph(own ec:Int)(l:List (Nat→Int)):Int×Bool:=if own<0 then(0,false)else yG own ec l (ec-max own 1+1).toNat (max own 1)
theorem Uf{own ec:Int}{l:List (Nat→Int)}{w:Int}(h:ec<w):∀f,yG own ec l f w=(0,false)
  |0=>rfl
  |f+1=>by rw [yG,if_neg (by omega)]
theorem Yo{own ec:Int}{l:List (Nat→Int)}{w:Int}{f:Nat}(h:w≤ec)(br:(ec-w+1).toNat≤f):∃IJ,f=IJ+1:=⟨f-1,by omega⟩
theorem Yp(own n:Int)(a:ai (Nat→Int))(aO:c1 K a.bl (a.l.flatMap hB)):aS B 276 [U own,U n,aw a] [K] (fun v S=>v=pD (q3 own n a.l)∧S=[K]):=by
 refine bD 23 Tryz.func276 fun a4 ax=>?_
 refine dA (aal n a aO) ?_
 refine ct ?_
 refine bH (U (pw n a.l).1) ?_
 refine bH (.bool (pw n a.l).2) ?_
 refine ah ?_
 refine aT ?_ ?_<;>intro ab
 ·rw [show q3 own n a.l=(0,false)from by unfold q3;rw [if_neg (by rw [ab];decide)]]
  exact bA
 refine hD (Ho own (pw n a.l).1) ?_
 refine bH (U (j7 own (pw n a.l).1).1) ?_
 refine bH (.bool (j7 own (pw n a.l).1).2) ?_
 refine ah ?_
 rw [show q3 own n a.l=j7 own (pw n a.l).1 from by unfold q3;rw [if_pos ab]]
 exact bA
theorem Gv(own ec:Int)(a:ai (Nat→Int))(aO:c1 K a.bl (a.l.flatMap hB)):aS B 240 [U own,U ec,aw a] [K] (fun v S=>v=pD (ph own ec a.l)∧S=[K]):=by
 refine bD 32 Tryz.func240 fun a4 ax=>?_
 refine aT ?_ ?_<;>intro ab
 ·rw [show ph own ec a.l=(0,false)from by unfold ph;rw [if_pos al]]
  exact bA
 refine dH (α:=Nat×Int) (fun⟨f0,w⟩=>ph own ec a.l=yG own ec a.l f0 w∧(ec-w+1).toNat≤f0) (fun⟨f0,w⟩=>[(8,U w),(0,U own),(1,U ec),(2,aw a)]) (fun⟨f0,w⟩=>[K]) (fun⟨f0,w⟩=>(ec-w+1).toNat) ((ec-max own 1+1).toNat,max own 1) ?_ dD aC ?_
 ·exact⟨if_neg al,Nat.le_refl _⟩
 rintro⟨f0,w⟩ ⟨aJ,br⟩
 dsimp only
 refine ah ?_
 refine aT ?_ ?_<;>intro af
 ·obtain⟨f,rfl⟩:=Yo (own:=own) (l:=a.l) (f:=f0) af br
  rw [yG,if_pos af]at aJ
  refine ah ?_
  refine dA (Yp own w a aO) ?_
  refine ct ?_
  refine bH (U (q3 own w a.l).1) ?_
  refine bH (.bool (q3 own w a.l).2) ?_
  refine ah ?_
  refine aT ?_ ?_<;>intro az
  ·rw [aJ,if_neg (by rw [az];decide)]
   exact bA
  refine aT ?_ ?_<;>intro a5
  ·rw [aJ,if_pos az,if_pos al]
   exact bA
  refine eg (f,(q3 own w a.l).1) ?_ ?_ ?_ ?_
  ·(try dsimp only);exact⟨by rw [aJ,if_pos az,if_neg al],by omega⟩
  ·(try dsimp only);omega
  ·refine⟨?_,?_,?_,?_,trivial⟩<;>rfl
  (try dsimp only);exact⟨_,aC⟩
 rw [aJ,Uf al]
 exact bA
abbrev oR(a:ai (Nat→Int)):ao B:=cr a 398 4 hB
def h2(bf:List (Nat→Int))(l:List Int):List (Nat→Int):=l.filterMap fun k=>bf[k.toNat]?
def C5(bf:List (Nat→Int))(s:BitVec 32):List (Nat→Int):=(h2 bf (bj s)).map fun e=>rY e 0
theorem xU{bf:List (Nat→Int)}{l:List Int}{j:Nat}{k:Int}(h:l[j]?=some k):h2 bf (l.take (j+1))=h2 bf (l.take j)++(bf[k.toNat]?).toList:=by
  unfold h2;rw [List.take_add_one,h,List.filterMap_append]
  congr 1
theorem SK(bf:List (Nat→Int))(l:List Int):(h2 bf l).length≤l.length:=List.length_filterMap_le _ _
def mr(r:Nat)(l:List (Nat→Int)):Int:=l.foldl (fun m e=>max m (e (3+r))) 0
theorem V8(r:Nat)(l:List (Nat→Int))(e:Nat→Int):mr r (l++[e])=max (mr r l) (e (3+r)):=by unfold mr;rw [List.foldl_append];rfl
theorem SL{bf:List (Nat→Int)}{l:List Int}{e:Nat→Int}(h:e∈h2 bf l):e∈bf:=by
  obtain⟨k,_,aj⟩:=List.mem_filterMap.1 h;exact List.mem_of_getElem? aj
abbrev x4(bf:List (Nat→Int)):Prop:=∀e∈bf,∀r,r<8→0≤e (3+r)∧e (3+r)≤4096
theorem foldl_max(r:Nat)(bk:r<8):∀(l:List (Nat→Int)) (m:Int),x4 l→0≤m∧m≤4096→0≤l.foldl (fun m e=>max m (e (3+r))) m∧l.foldl (fun m e=>max m (e (3+r))) m≤4096
  |[],m,_,hm=>hm
  |e::l,m,h,hm=>by
    have:=h e (by simp) r bk
    have af:0≤max m (e (3+r))∧max m (e (3+r))≤4096:=by omega
    exact foldl_max r bk l _ (fun x av=>h x (by simp [av])) af
theorem LC{bf:List (Nat→Int)}{l:List Int}{r:Nat}(bk:r<8)(h:x4 bf):0≤mr r (h2 bf l)∧mr r (h2 bf l)≤4096:=foldl_max r bk _ 0 (fun e he=>h e (SL he)) (by omega)
theorem zu{t:Nat→Int}{i k:Int}:∀{n:Nat},n≤8→hasB (iE t i n) k=true→k<n
  |0,_,h=>by simp [iE,hasB]at h
  |n+1,a7,h=>by
    rw [iE]at h;split at h
    · rw [sN,Bool.or_eq_true]at h
      rcases h with h|h
      · have:=zu (by omega) h;omega
      · rw [qV]at h;simp at h;omega
    · have:=zu (by omega) h;omega
def mS(bf:List (Nat→Int))(s:BitVec 32)(z:Int)(l:List Int):Int:=l.foldl (fun m r=>m+mr r.toNat (h2 bf (bj (km s z)))) 0
def mi(bf:List (Nat→Int))(s:BitVec 32)(t:Nat→Int)(z:Int):Int:=mS bf s z (bj (iE t z 8))
theorem Mu{bf:List (Nat→Int)}{s:BitVec 32}{z r:Int}{l:List Int}{i:Nat}(h:l[i]?=some r):mS bf s z (l.take (i+1))=mS bf s z (l.take i)+mr r.toNat (h2 bf (bj (km s z))):=by
  unfold mS;rw [List.take_add_one,h,List.foldl_append];rfl
theorem FY{bf:List (Nat→Int)}{s:BitVec 32}{z:Int}(h:x4 bf){l:List Int}(aJ:∀r∈l,0≤r∧r<8):∀i,0≤mS bf s z (l.take i)∧mS bf s z (l.take i)≤4096*(i:Int)
  |0=>⟨Int.le_refl _,Int.le_refl _⟩
  |i+1=>by
    have ih:=FY h aJ i (s:=s) (z:=z)
    cases bh:l[i]? with
    |none=>
      have:l.take (i+1)=l.take i:=by rw [List.take_add_one,bh];simp
      rw [this];omega
    |some r=>
      rw [Mu bh]
      have:=aJ r (List.mem_of_getElem? bh)
      have:=LC (l:=bj (km s z)) (r:=r.toNat) (by omega) h
      omega
theorem J1{bf:List (Nat→Int)}{s:BitVec 32}{t:Nat→Int}{z:Int}(h:x4 bf):0≤mi bf s t z∧mi bf s t z≤131072:=by
  have:=FY h (s:=s) (z:=z) (l:=bj (iE t z 8)) (fun r bk=>by have:=lO.1 bk;exact⟨this.1,zu (Nat.le_refl _) this.2.2⟩) 32
  rw [List.take_of_length_le (zg _)]at this
  unfold mi;omega
theorem Mv(x:bQ)(av:x.In K)(s:BitVec 32){aq:ao B}(bc:dL aq)(aD:dS aq):aS B 241 [x.v,aI s.toNat] [K,aq] (fun v S=>∃a:ai (Nat→Int),(a.l=C5 x.aG.l s∧a.Own)∧v=aw a∧S=[oR a,K,aq]):=by
 refine bD 25 Tryz.func241 fun a4 ax=>?_
 refine fe (au:=(bJ x)) fun ay=>?_
 refine da fun aM=>?_
 refine cA (ps s) ?_
 rintro _ _ ⟨hk,rfl,rfl⟩
 simp only [List.cons_append,List.nil_append]
 refine dW ?_
 refine hy hB 398 4 ?_
 refine kh (own:=[aa hk [aI s.toNat] 158,aq]) (aP:=[aa ay (bJ x) 41,aa aM [.slice none 0 0] 394,oR (ai.bG:ai (Nat→Int)),K]) rfl e2 (pg (K:=aq) hk s bc) (fun i S=>∃a:ai (Nat→Int),(a.l=((h2 x.aG.l ((bj s).take i)).map fun e=>rY e 0)∧a.Own)∧S=[aa ay (bJ x) 41,aa aM [aw a] 394,oR a,K]) (fun c i S=>False) (show Take ([aa hk [aI s.toNat] 158,aq,aa ay (bJ x) 41,aa aM [.slice none 0 0] 394,oR (ai.bG:ai (Nat→Int)),K]) _ _ from aC) (⟨ai.bG,⟨rfl,ai.fY⟩,rfl⟩) rfl (fun x av=>by obtain⟨y,_,rfl⟩:=List.mem_map.1 av;rfl) ?_ ?_ ?_
 ·intro cu rec jF i aQ ak bt
  obtain⟨a,⟨aO,bT⟩,rfl⟩:=bt
  rw [List.length_map]at ak
  obtain⟨k,cN⟩:∃k,(bj s)[i]?=some k:=⟨_,List.getElem?_eq_getElem ak⟩
  rw [m6 cN]
  obtain⟨qf,Ee,ED⟩:=lO.1 (List.mem_of_getElem? cN)
  have et:=x.aG.small
  have dB:a.l.length≤32:=by rw [aO,List.length_map];exact Nat.le_trans (SK _ _) (Nat.le_trans (by rw [List.length_take];omega) (zg s))
  refine ah ?_
  refine⟨rfl,_,_,.cons ar (Take.self _),fun h1=>?_⟩
  refine ah ?_
  refine aT ?_ ?_<;>intro ab
  ·obtain⟨e,bh⟩:∃e,x.aG.l[k.toNat]?=some e:=⟨_,List.getElem?_eq_getElem al⟩
   refine c8 [aa ay (bJ x) 41,aa aM [aw a] 394,K] ae aC ?_
   refine bs 0 rfl (ed (v:=aw a) ae) ?_
   refine aN [1,2,3] ?_
   refine cy 4 rfl (h7 (j:=k.toNat) rfl rfl ae (x.aG).en (show k=((k.toNat:Nat):Int)by omega) al rfl) ?_
   refine bs 5 rfl (hN (aW:=cg) (aH:=11) (i:=k.toNat) (fun _=>rfl) rfl ar av.aG ae bh) ?_
   refine aN [106] ?_
   refine gu (PJ e 0) ?_
   refine aN [107] ?_
   refine lN (au:=([rY e 0]:List (Nat→Int)).flatMap hB) rfl .no rfl ae bu bu (by rfl) (by rw [show(([rY e 0]:List (Nat→Int)).flatMap hB)=hB (rY e 0)from List.append_nil _];exact Dg rfl) rfl rfl (fun Od=>?_)
   refine aN [108] ?_
   refine mb (aW:=hB) (c:=a) (b:=ai.lit Od [rY e 0] (by simp)) rfl .no rfl rfl ae ar dr (show Out (aa Od (([rY e 0]:List (Nat→Int)).flatMap hB) 398) _ _ from ar) hF (fun _=>rfl) (fun _=>rfl) (by show a.l.length+1≤_;omega) (by show(a.l.length+1)*_≤_;omega) rfl (fun c2 gL jQ=>?_)
   refine c7 [109,99] ?_
   exact⟨[aa ay (bJ x) 41,aa aM [aw c2] 394,oR c2,K],_,aC,⟨c2,⟨by rw [gL,aO,xU cN,bh];simp [ai.lit],jQ⟩,rfl⟩⟩
  exact⟨[aa ay (bJ x) 41,aa aM [aw a] 394,oR a,K],_,aC,⟨a,⟨by rw [aO,xU cN,List.getElem?_eq_none_iff.2 al];simp,bT⟩,rfl⟩⟩
 ·intro c0 aQ bt
  obtain⟨a,⟨aO,bT⟩,rfl⟩:=bt
  rw [List.length_map,List.take_length]at aO
  simp only [List.cons_append,List.nil_append]
  refine gK ?_
  refine cv (aw a) ?_
  refine ah ?_
  refine cc (show Take [du c0] _ _ from aC) (zl rfl rfl) ?_
  exact⟨[oR a,K,aq],⟨a,⟨aO,bT⟩,rfl,rfl⟩,_,bq⟩
 intro c0 c i aQ ak h
 exact h.elim
theorem Mw(x:bQ)(av:x.In K)(s:BitVec 32)(t:Nat→Int)(z:Int)(eL:x4 x.aG.l){aq:ao B}(bc:dL aq)(aD:dS aq):aS B 239 [x.v,aI s.toNat,qA t,U z] [K,aq] (fun v S=>v=U (mi x.aG.l s t z)∧S=[K,aq]):=by
 refine bD 44 Tryz.func239 fun a4 ax=>?_
 refine dt (au:=(bJ x)) fun ay=>?_
 refine dt fun aM=>?_
 refine dt (au:=eG 8 t) fun bw=>?_
 refine dt fun b9=>?_
 refine gK ?_
 refine cM (eG 8 t) ?_
 refine ah ?_
 refine fL (cover t z) ?_
 refine da fun dK=>?_
 refine cA (ps (iE t z 8)) ?_
 rintro _ _ ⟨hk,rfl,rfl⟩
 simp only [List.cons_append,List.nil_append]
 refine dW ?_
 refine zV aD ar ?_
 rw [show(aa dK [U 0] 3:ao B)=aa dK [U (mS x.aG.l s z ((bj (iE t z 8)).take 0))] 3 from rfl]
 refine kh (own:=[aa hk [aI (iE t z 8).toNat] 158,aq]) (aP:=[aa ay (bJ x) 41,aa aM [aI s.toNat] 158,aa b9 [U z] 3,aa dK [U (mS x.aG.l s z ((bj (iE t z 8)).take 0))] 3,K,aq]) rfl e2 (pg (K:=aq) hk (iE t z 8) bc) (fun i S=>S=[aa ay (bJ x) 41,aa aM [aI s.toNat] 158,aa b9 [U z] 3,aa dK [U (mS x.aG.l s z ((bj (iE t z 8)).take i))] 3,K,aq]) (fun c i S=>False) (show Take ([aa hk [aI (iE t z 8).toNat] 158,aq,aa ay (bJ x) 41,aa aM [aI s.toNat] 158,aa b9 [U z] 3,aa dK [U (mS x.aG.l s z ((bj (iE t z 8)).take 0))] 3,K,aq]) _ _ from aC) (rfl) rfl (fun x av=>by obtain⟨y,_,rfl⟩:=List.mem_map.1 av;rfl) ?_ ?_ ?_
 ·intro cu rec jF i aQ ak bt
  obtain rfl:=bt
  rw [List.length_map]at ak
  obtain⟨r,cN⟩:∃r,(bj (iE t z 8))[i]?=some r:=⟨_,List.getElem?_eq_getElem ak⟩
  rw [m6 cN]
  obtain⟨yQ,ae1,adE⟩:=lO.1 (List.mem_of_getElem? cN)
  have afu:=zu (Nat.le_refl _) adE
  refine ah ?_
  refine da fun jE=>?_
  refine⟨rfl,_,_,.cons ar (Take.self _),fun h1=>?_⟩
  refine ah ?_
  refine da fun jr=>?_
  refine hD (VG s z) ?_
  refine cA (ps (km s z)) ?_
  rintro _ _ ⟨IW,rfl,rfl⟩
  refine cU ?_
  rw [show(aa jr [U 0] 3:ao B)=aa jr [U (mr r.toNat (h2 x.aG.l ((bj (km s z)).take 0)))] 3 from rfl]
  refine Cb (own:=[aa IW [aI (km s z).toNat] 158,aq]) (aP:=[aa ay (bJ x) 41,aa aM [aI s.toNat] 158,aa b9 [U z] 3,aa dK [U (mS x.aG.l s z ((bj (iE t z 8)).take i))] 3,aa jE [U r] 3,aa jr [U (mr r.toNat (h2 x.aG.l ((bj (km s z)).take 0)))] 3,K]) ar rfl e2 (pg (K:=aq) IW (km s z) bc) (fun j S=>S=[aa ay (bJ x) 41,aa aM [aI s.toNat] 158,aa b9 [U z] 3,aa dK [U (mS x.aG.l s z ((bj (iE t z 8)).take i))] 3,aa jE [U r] 3,aa jr [U (mr r.toNat (h2 x.aG.l ((bj (km s z)).take j)))] 3,K]) (fun c j S=>False) (show Take ([aa IW [aI (km s z).toNat] 158,aq,aa ay (bJ x) 41,aa aM [aI s.toNat] 158,aa b9 [U z] 3,aa dK [U (mS x.aG.l s z ((bj (iE t z 8)).take i))] 3,aa jE [U r] 3,aa jr [U (mr r.toNat (h2 x.aG.l ((bj (km s z)).take 0)))] 3,K]) _ _ from aC) (rfl) rfl (fun x av=>by obtain⟨y,_,rfl⟩:=List.mem_map.1 av;rfl) ?_ ?_ ?_
  ·intro u3 Ah By j cF aY iN
   obtain rfl:=iN
   rw [List.length_map]at aY
   obtain⟨k,uy⟩:∃k,(bj (km s z))[j]?=some k:=⟨_,List.getElem?_eq_getElem aY⟩
   rw [m6 uy]
   obtain⟨qf,Ee,ED⟩:=lO.1 (List.mem_of_getElem? uy)
   refine ah ?_
   refine⟨rfl,_,_,.cons ar (Take.self _),fun h1=>?_⟩
   refine ah ?_
   refine aT ?_ ?_<;>intro ab
   ·have et:=x.aG.small
    obtain⟨e,bh⟩:∃e,x.aG.l[k.toNat]?=some e:=⟨_,List.getElem?_eq_getElem al⟩
    refine c8 [aa ay (bJ x) 41,aa jE [U r] 3,aa jr [U (mr r.toNat (h2 x.aG.l ((bj (km s z)).take j)))] 3,K] ae aC ?_
    refine aN [0,1,2,3,4] ?_
    refine cy 5 rfl (h7 (j:=k.toNat) rfl rfl ae (x.aG).en (show k=((k.toNat:Nat):Int)by omega) al rfl) ?_
    refine aN [6] ?_
    refine bs 7 rfl (Lc (gF:=k.toNat*11+(3+r.toNat*1)) rfl rfl ae (show r=((r.toNat:Nat):Int)by omega) al (Nat.add_assoc _ _ _)) ?_
    refine bs 8 rfl (eO (aW:=cg) (aH:=11) (i:=k.toNat) (k:=(3+r.toNat*1)) (fun _=>rfl) rfl ar av.aG ae bh (zh al)) ?_
    refine c7 [9,110,99] ?_
    rw [show max (mr r.toNat (h2 x.aG.l ((bj (km s z)).take j))) (e (3+r.toNat))=(mr r.toNat (h2 x.aG.l ((bj (km s z)).take (j+1))))from by rw [xU uy,bh];exact(V8 _ _ _).symm]
    exact⟨[aa ay (bJ x) 41,aa aM [aI s.toNat] 158,aa b9 [U z] 3,aa dK [U (mS x.aG.l s z ((bj (iE t z 8)).take i))] 3,aa jE [U r] 3,aa jr [U (mr r.toNat (h2 x.aG.l ((bj (km s z)).take (j+1))))] 3,K],_,aC,rfl⟩
   rw [show(mr r.toNat (h2 x.aG.l ((bj (km s z)).take j)))=(mr r.toNat (h2 x.aG.l ((bj (km s z)).take (j+1))))from by rw [xU uy,List.getElem?_eq_none_iff.2 al];simp]
   exact⟨[aa ay (bJ x) 41,aa aM [aI s.toNat] 158,aa b9 [U z] 3,aa dK [U (mS x.aG.l s z ((bj (iE t z 8)).take i))] 3,aa jE [U r] 3,aa jr [U (mr r.toNat (h2 x.aG.l ((bj (km s z)).take (j+1))))] 3,K],_,aC,rfl⟩
  ·intro cF iN
   obtain rfl:=iN
   refine cU ?_
   refine aA ((by have bM:=FY (s:=s) (z:=z) eL (l:=(bj (iE t z 8))) (fun r bk=>by have:=lO.1 bk;exact⟨this.1,zu (Nat.le_refl _) this.2.2⟩) i;have bS:=LC (l:=((bj (km s z)).take (((bj (km s z)).map fun n=>[Value.int .i64 n]).length))) (r:=r.toNat) al eL;have cD:=zg (iE t z 8);exact pO rfl rfl al al)) ?_
   refine ah ?_
   rw [List.length_map,List.take_length,show(mS x.aG.l s z ((bj (iE t z 8)).take i))+mr r.toNat (h2 x.aG.l (bj (km s z)))=(mS x.aG.l s z ((bj (iE t z 8)).take (i+1)))from(Mu cN).symm]
   exact⟨[aa ay (bJ x) 41,aa aM [aI s.toNat] 158,aa b9 [U z] 3,aa dK [U (mS x.aG.l s z ((bj (iE t z 8)).take (i+1)))] 3,K,aq],_,aC,rfl⟩
  intro c i aQ ak h
  exact h.elim
 ·intro c0 aQ bt
  obtain rfl:=bt
  rw [List.length_map,List.take_length]
  refine cU ?_
  refine cc (show Take [du c0] _ _ from aC) (zl rfl rfl) ?_
  exact⟨[K,aq],⟨rfl,rfl⟩,_,bq⟩
 intro c0 c i aQ ak h
 exact h.elim
abbrev nX(r:Nat→Int):List Value:=[U (r 0),U (r 1),U (r 2)]
abbrev r7(a:ai (Nat→Int)):ao B:=cr a 334 3 nX
def Ef(a b c:Int):Nat→Int
  |0=>a
  |1=>b
  |2=>c
  |_=>0
def GR(bf:List (Nat→Int))(z:Int):Option (Nat→Int):=if z<0 then none else bf[z.toNat]?
def uS(bf:List (Nat→Int))(s h:BitVec 32)(t:Nat→Int)(z:Int)(e:Nat→Int):Int×Bool:=ph (e 2+mi bf h t z) (e 1) (C5 bf (mJ s z))
def ly(bf:List (Nat→Int))(s h:BitVec 32)(t:Nat→Int)(z:Int):(Nat→Int)×Bool:=match GR bf z with
  |none=>(Ef 0 0 0,false)
  |some e=>(Ef z (mi bf h t z) (uS bf s h t z e).1,(uS bf s h t z e).2)
theorem xF{bf:List (Nat→Int)}{s h:BitVec 32}{t:Nat→Int}{z:Int}(cq:z<0∨(bf.length:Int)≤z):ly bf s h t z=(Ef 0 0 0,false):=by
  unfold ly GR
  split
  · rfl
  · rename_i e he;split at he
    · cases he
    · have:=(List.getElem?_eq_some_iff.1 he).1;omega
theorem FZ{bf:List (Nat→Int)}{s h:BitVec 32}{t:Nat→Int}{z:Int}{e:Nat→Int}(b0:0≤z)(bh:bf[z.toNat]?=some e):ly bf s h t z=(Ef z (mi bf h t z) (uS bf s h t z e).1,(uS bf s h t z e).2):=by
  unfold ly GR;rw [if_neg (by omega),bh]
abbrev x5(bf:List (Nat→Int))(cG:Int):Prop:=∀e∈bf,vX e cG
theorem x5.H2{bf:List (Nat→Int)}{cG:Int}(h:x5 bf cG):x4 bf:=fun e he r bk=>by
  obtain⟨⟨ab,af,az,a5,cd,c5⟩,fo⟩:=h e he
  have:=fo r bk;unfold nm at this;omega
theorem z3(x:bQ)(av:x.In K)(s h:BitVec 32)(t:Nat→Int)(z:Int)(gO:x5 x.aG.l x.cG){aq:ao B}(bc:dL aq)(aD:dS aq):aS B 187 [x.v,aI s.toNat,aI h.toNat,qA t,U z] [K,aq] (fun v S=>v= .tuple #[.agg (nX (ly x.aG.l s h t z).1).toArray,.bool (ly x.aG.l s h t z).2]∧S=[K,aq]):=by
 refine Ql 58 Tryz.func187 fun a4 ax=>?_
 have eL:=gO.H2
 have et:=x.aG.small
 refine dZ ?_
 refine fl ?_
 refine HR (au:=(bJ x)) fun ay=>?_
 refine HR (au:=eG 8 t) fun aM=>?_
 refine ys ae fun bw=>?_
 refine aA (dh rfl) ?_
 refine hd ?_
 refine dZ ?_
 refine dZ ?_
 refine fl ?_
 refine aA (dh rfl) ?_
 refine aA (dh rfl) ?_
 refine aA (dh rfl) ?_
 refine kg (t:=18) rfl (fun ab=>?_) (fun ab=>?_)
 ·replace ab:=fb ab
  refine lJ 18 ?_
  refine lJ 18 ?_
  refine lJ 18 ?_
  refine lJ 18 ?_
  refine lJ 18 ?_
  refine aA (dh rfl) ?_
  refine hd ?_
  refine B9 rfl rfl ?_
  refine dZ ?_
  refine fl ?_
  refine aA (yt) ?_
  refine fw (hA rfl rfl rfl ar ae rfl rfl) ?_
  refine aA (dh rfl) ?_
  refine hd ?_
  refine rS ?_
  refine B2 ?_
  refine cc (.nil _) (hc rfl rfl ar ae (by rfl) rfl) ?_
  first|rw [xF (.inl al)]|rw [xF (.inr al)]|rw [FZ al bh]
  exact⟨_,⟨rfl,rfl⟩,_,bq⟩
 ·replace ab:=fb ab
  refine aA (dh rfl) (hw:=(.yes 18 rfl rfl rfl)) ?_
  refine aA (kf ae) (hw:=(.yes 18 rfl rfl rfl)) ?_
  refine aA (ed ae) (hw:=(.yes 18 rfl rfl rfl)) ?_
  refine aA (D1 rfl ae) (hw:=(.yes 18 rfl rfl rfl)) ?_
  refine aA (dh rfl) (hw:=(.yes 18 rfl rfl rfl)) ?_
  refine aA (dh rfl) ?_
  refine hd ?_
  refine bX (fun af=>?_) fun af=>?_
  ·refine dZ ?_
   refine fl ?_
   refine aA (yt) ?_
   refine fw (hA rfl rfl rfl ar ae rfl rfl) ?_
   refine aA (dh rfl) ?_
   refine hd ?_
   refine rS ?_
   refine B2 ?_
   refine cc (.nil _) (hc rfl rfl ar ae (by rfl) rfl) ?_
   first|rw [xF (.inl al)]|rw [xF (.inr al)]|rw [FZ al bh]
   exact⟨_,⟨rfl,rfl⟩,_,bq⟩
  ·obtain⟨e,bh⟩:∃e,x.aG.l[z.toNat]?=some e:=⟨_,List.getElem?_eq_getElem al⟩
   obtain⟨⟨dc,dd,fD,yT,EB,adF⟩,_⟩:=gO e (List.mem_of_getElem? bh)
   have acr:=J1 (s:=h) (t:=t) (z:=z) eL
   refine kk ?_
   refine ik ?_
   refine dZ ?_
   refine fl ?_
   refine aA (kf ae) ?_
   refine aA (ed ae) ?_
   refine aA (dh rfl) ?_
   refine aA (hx (j:=z.toNat) rfl rfl ae (x.aG).en (show z=((z.toNat:Nat):Int)by omega) al rfl) ?_
   refine aA (hN (aW:=cg) (aH:=11) (i:=z.toNat) (fun _=>rfl) rfl ar av.aG ae bh) ?_
   refine ys ae fun b9=>?_
   refine fw (hA rfl rfl rfl ar ae rfl rfl) ?_
   refine hd ?_
   refine dZ ?_
   refine fl ?_
   refine aA (dh rfl) ?_
   refine aA (dw (bx:=(bJ x)) rfl ar ae rfl (by rfl)) ?_
   refine aA (dh rfl) ?_
   refine aA (dw (bx:=eG 8 t) rfl ar ae rfl (by rfl)) ?_
   refine aA (dh rfl) ?_
   refine Qj (Mw x av h t z eL bc aD) ?_
   rintro _ _ ⟨rfl,rfl⟩
   simp only [List.cons_append,List.nil_append]
   refine aA (qj [_,_,_] rfl ae (by rfl)) ?_
   refine ys ae fun dK=>?_
   refine fw (hA rfl rfl rfl ar ae rfl rfl) ?_
   refine hd ?_
   refine dZ ?_
   refine c8 [aa ay (bJ x) 41,aa b9 (cg e) 173,aa dK [U z,U (mi x.aG.l h t z),U 0] 334] ae aC ?_
   refine cy 0 rfl (sB ae) ?_
   refine bs 1 rfl (ed ae) ?_
   refine cy 2 rfl (sB ae) ?_
   refine bs 3 rfl (ed (v:=U (mi x.aG.l h t z)) ae) ?_
   refine bs 4 rfl (pO (m:=e 2) (n:=(mi x.aG.l h t z)) rfl rfl al al) ?_
   refine cy 5 rfl (sB ae) ?_
   refine bs 6 rfl (ed ae) ?_
   refine bs 7 rfl (dw (bx:=(bJ x)) rfl ar ae rfl (by rfl)) ?_
   refine cy 8 rfl (fx rfl) ?_
   refine cy 9 rfl (fx rfl) ?_
   refine rC 10 ?_
   refine gu (Gq s z) ?_
   refine rC 11 ?_
   refine lK (Mv x av (mJ s z) bc aD) ?_
   rintro _ _ ⟨a,⟨aO,bT⟩,rfl,rfl⟩
   simp only [List.cons_append,List.nil_append]
   refine⟨[oR a,K,aq,aa bw [U 0,U 0,U 0] 334],_,_,dr,aC,?_⟩
   refine rC 12 ?_
   refine lK (Gv (K:=oR a) (e 2+(mi x.aG.l h t z)) (e 1) a (eh bT rfl)) ?_
   rintro _ _ ⟨rfl,rfl⟩
   simp only [List.cons_append,List.nil_append]
   rw [aO,show ph (e 2+(mi x.aG.l h t z)) (e 1) (C5 x.aG.l (mJ s z))=(uS x.aG.l s h t z e)from rfl]
   refine⟨[K,aq,aa bw [U 0,U 0,U 0] 334],_,_,dr,aC,?_⟩
   refine cy 13 rfl (fx rfl) ?_
   refine cy 14 rfl (fx (v:=U (uS x.aG.l s h t z e).1) rfl) ?_
   refine cy 15 rfl (fx (v:= .bool (uS x.aG.l s h t z e).2) rfl) ?_
   refine cy 16 rfl (fx rfl) ?_
   refine cy 17 rfl (fx rfl) ?_
   refine Qk ?_
   try simp only [List.cons_append,List.nil_append,List.append_nil]
   refine ik ?_
   refine dZ ?_
   refine fl ?_
   refine aA (dh rfl) ?_
   refine aA (kf ae) ?_
   refine fw (oB rfl rfl rfl ar ae pH) ?_
   refine hd ?_
   refine dZ ?_
   refine fl ?_
   refine aA (dw (bx:=[U z,U (mi x.aG.l h t z),U (uS x.aG.l s h t z e).1]) rfl ar ae rfl (by rfl)) ?_
   refine aA (dh rfl) ?_
   refine fw (hA rfl rfl rfl ar ae rfl rfl) ?_
   refine aA (dh rfl) ?_
   refine hd ?_
   refine rS ?_
   refine cc (.nil _) (hc rfl rfl ar ae (by rfl) rfl) ?_
   first|rw [xF (.inl al)]|rw [xF (.inr al)]|rw [FZ al bh]
   exact⟨_,⟨rfl,rfl⟩,_,bq⟩
abbrev qD(bf:List (Nat→Int))(s:BitVec 32)(z:Int):(Nat→Int)×Bool:=ly bf s s (fH bf s) z
def rR(bf:List (Nat→Int))(s:BitVec 32):Bool:=(bj s).all fun z=>(qD bf s z).2
def Dm(bf:List (Nat→Int))(s:BitVec 32):List (Nat→Int):=(bj s).map fun z=>(qD bf s z).1
abbrev qE(t:Nat→Int):Nat→Int:=bF t 3 (t 1)
def s4(bf:List (Nat→Int))(s:BitVec 32):Int×Bool:=ph 0 65536 ((C5 bf s).map qE)
theorem SM(t:Nat→Int):(hB t).set 3 (U (t 1))=hB (qE t):=by simp [hB,qE,bF]
theorem Yq{l:List (Nat→Int)}{i:Nat}{t:Nat→Int}(h:l[i]?=some t):((l.take i).map qE++l.drop i).set i (qE t)=(l.take (i+1)).map qE++l.drop (i+1):=by
  obtain⟨ak,bh⟩:=List.getElem?_eq_some_iff.1 h
  rw [List.take_add_one,h,List.map_append,List.append_assoc,List.drop_eq_getElem_cons ak,bh,List.set_append_right _ _ (by rw [List.length_map,List.length_take];omega)]
  rw [show i-((l.take i).map qE).length=0 by rw [List.length_map,List.length_take];omega]
  rfl
theorem Ug{l:List (Nat→Int)}{i:Nat}{t:Nat→Int}(h:l[i]?=some t):((l.take i).map qE++l.drop i)[i]?=some t:=by
  rw [List.getElem?_append_right (by rw [List.length_map,List.length_take];omega),List.length_map,List.length_take,List.getElem?_drop, ←h]
  congr 1
  have:=(List.getElem?_eq_some_iff.1 h).1
  omega
theorem Yr(x:bQ)(av:x.In K)(s:BitVec 32)(gO:x5 x.aG.l x.cG){aq:ao B}(bc:dL aq)(aD:dS aq):aS B 121 [x.v,aI s.toNat] [K,aq] (fun v S=>∃(a:ai (Nat→Int)) (z:Int),((rR x.aG.l s=true→a.l=Dm x.aG.l s)∧a.Own)∧v= .tuple #[aw a,U z,.bool (rR x.aG.l s)]∧S=[r7 a,K,aq]):=by
 refine bD 35 Tryz.func121 fun a4 ax=>?_
 refine dt (au:=(bJ x)) fun ay=>?_
 refine dt fun aM=>?_
 refine ds fun bw=>?_
 refine ds fun b9=>?_
 refine ds fun dK=>?_
 refine gD ?_
 refine cM (bJ x) ?_
 refine ah ?_
 refine dA (D6 (kD:=K) (K:=aq) x av s bc) ?_
 refine da fun jE=>?_
 refine da fun jr=>?_
 refine cA (ps s) ?_
 rintro _ _ ⟨hk,rfl,rfl⟩
 simp only [List.cons_append,List.nil_append]
 refine dW ?_
 refine hy nX 334 3 ?_
 refine zV aD ar ?_
 refine kh (own:=[aa hk [aI s.toNat] 158,aq]) (aP:=[aa ay (bJ x) 41,aa aM [aI s.toNat] 158,aa bw [.slice none 0 0] 261,aa b9 [U 0] 3,aa dK [.bool false] 4,aa jE (eG 8 (fH x.aG.l s)) 258,aa jr [.slice none 0 0] 261,r7 (ai.bG:ai (Nat→Int)),K,aq]) rfl e2 (pg (K:=aq) hk s bc) (fun i S=>∃a:ai (Nat→Int),(a.l=((bj s).take i).map (fun z=>(qD x.aG.l s z).1)∧a.Own∧∀z∈(bj s).take i,(qD x.aG.l s z).2=true)∧S=[aa ay (bJ x) 41,aa aM [aI s.toNat] 158,aa bw [.slice none 0 0] 261,aa b9 [U 0] 3,aa dK [.bool false] 4,aa jE (eG 8 (fH x.aG.l s)) 258,aa jr [aw a] 261,r7 a,K,aq]) (fun c i S=>c= .ret∧rR x.aG.l s=false∧∃z:Int,S=[aa bw [.slice none 0 0] 261,aa b9 [U z] 3,aa dK [.bool false] 4,K,aq]) (show Take ([aa hk [aI s.toNat] 158,aq,aa ay (bJ x) 41,aa aM [aI s.toNat] 158,aa bw [.slice none 0 0] 261,aa b9 [U 0] 3,aa dK [.bool false] 4,aa jE (eG 8 (fH x.aG.l s)) 258,aa jr [.slice none 0 0] 261,r7 (ai.bG:ai (Nat→Int)),K,aq]) _ _ from aC) (⟨ai.bG,⟨rfl,ai.fY,fun z cq=>by cases cq⟩,rfl⟩) rfl (fun x av=>by obtain⟨y,_,rfl⟩:=List.mem_map.1 av;rfl) ?_ ?_ ?_
 ·intro cu rec jF i aQ ak bt
  obtain⟨a,⟨aO,bT,lb⟩,rfl⟩:=bt
  rw [List.length_map]at ak
  obtain⟨z,cN⟩:∃z,(bj s)[i]?=some z:=⟨_,List.getElem?_eq_getElem ak⟩
  rw [m6 cN]
  obtain⟨sD,ae2,fV⟩:=lO.1 (List.mem_of_getElem? cN)
  have dB:a.l.length≤32:=by rw [aO,List.length_map,List.length_take];have:=zg s;omega
  refine ah ?_
  refine⟨rfl,_,_,.cons ar (Take.self _),fun h1=>?_⟩
  refine gD ?_
  refine cM (bJ x) ?_
  refine dW ?_
  refine cM (eG 8 (fH x.aG.l s)) ?_
  refine ah ?_
  refine dA (z3 x av s s (fH x.aG.l s) z gO bc aD) ?_
  refine ct ?_
  refine bH (.agg (nX (qD x.aG.l s z).1).toArray) ?_
  refine bH (.bool (qD x.aG.l s z).2) ?_
  refine da fun IV=>?_
  refine bX ?_ ?_<;>intro ab
  ·refine ah ?_
   exact⟨[aa bw [.slice none 0 0] 261,aa b9 [U z] 3,aa dK [.bool false] 4,K,aq],_,aC,⟨rfl,List.all_eq_false.2 ⟨z,List.mem_of_getElem? cN,by rw [ab];decide⟩,z,rfl⟩⟩
  refine gD ?_
  refine cv (aw a) ?_
  refine cM (nX (qD x.aG.l s z).1) ?_
  refine js (au:=([(qD x.aG.l s z).1]:List (Nat→Int)).flatMap nX) .no rfl ae bu bu (by rfl) (by rw [show(([(qD x.aG.l s z).1]:List (Nat→Int)).flatMap nX)=nX (qD x.aG.l s z).1 from List.append_nil _];exact Dg rfl) rfl rfl (fun PK=>?_)
  refine ma (aW:=nX) (c:=a) (b:=ai.lit PK [(qD x.aG.l s z).1] (by simp)) .no rfl rfl ae ar (show Out (aa PK (([(qD x.aG.l s z).1]:List (Nat→Int)).flatMap nX) 334) _ _ from ar) hF (fun _=>rfl) (fun _=>rfl) (by show a.l.length+1≤_;omega) (by show(a.l.length+1)*_≤_;omega) rfl (fun c2 gL jQ=>?_)
  refine ah ?_
  exact⟨[aa ay (bJ x) 41,aa aM [aI s.toNat] 158,aa bw [.slice none 0 0] 261,aa b9 [U 0] 3,aa dK [.bool false] 4,aa jE (eG 8 (fH x.aG.l s)) 258,aa jr [aw c2] 261,r7 c2,K,aq],_,aC,⟨c2,⟨by rw [gL,aO,List.take_add_one,cN];simp [ai.lit],jQ,fun y aZ=>by rw [List.take_add_one,cN]at aZ;rcases List.mem_append.1 aZ with q|q;exact lb y q;simp at q;subst q;exact ab⟩,rfl⟩⟩
 ·intro c0 aQ bt
  obtain⟨a,⟨aO,bT,lb⟩,rfl⟩:=bt
  rw [List.length_map,List.take_length]at aO lb
  simp only [List.cons_append,List.nil_append]
  refine gK ?_
  refine cv (aw a) ?_
  refine ah ?_
  refine cc (show Take [du c0] _ _ from aC) (Cs rfl rfl rfl rfl ar ar ar ae ae ae) ?_
  have dy:rR x.aG.l s=true:=List.all_eq_true.2 lb
  exact⟨[r7 a,K,aq],⟨a,0,⟨fun _=>aO,bT⟩,by rw [dy],rfl⟩,_,bq⟩
 intro c0 c i aQ ak h
 obtain⟨rfl,cR,z,rfl⟩:=h
 simp only [List.cons_append,List.nil_append]
 refine hy nX 334 3 ?_
 refine ah ?_
 refine cc (show Take [du c0] _ _ from aC) (Cs rfl rfl rfl rfl ar ar ar ae ae ae) ?_
 exact⟨[r7 (ai.bG:ai (Nat→Int)),K,aq],⟨ai.bG,z,⟨fun q=>(by rw [cR]at q;cases q),ai.fY⟩,by rw [cR];rfl,rfl⟩,_,bq⟩
theorem Ys(x:bQ)(av:x.In K)(s:BitVec 32){aq:ao B}(bc:c1 aq ⟨0,0,none⟩ (q2.map fun m=> .int .u8 m))(aD:dS aq):dQ Tryz.prog B 189 [x.v,.int .u32 s.toNat] [K,aq] (fun v S=>v=pD (s4 x.aG.l s)∧S=[K,aq]):=by
 refine bD 30 Tryz.func189 fun a4 ax=>?_
 refine dt (au:=[.int .i64 x.cG,.slice x.aG.b1 x.aG.l.length x.aG.c,.slice x.ba.b1 x.ba.l.length x.ba.c,.slice x.a0.b1 x.a0.l.length x.a0.c]) fun ay=>?_
 refine cW ?_
 refine cM [.int .i64 x.cG,.slice x.aG.b1 x.aG.l.length x.aG.c,.slice x.ba.b1 x.ba.l.length x.ba.c,.slice x.a0.b1 x.a0.l.length x.a0.c] ?_
 refine ah ?_
 refine cA (Mv x av s bc aD) ?_
 rintro _ _ ⟨a,⟨aO,bT⟩,rfl,rfl⟩
 refine cU ?_
 refine dH (α:=Nat×List (Nat→Int)) (fun⟨i,ha⟩=>i≤a.l.length∧ha.length=a.l.length∧ha=(a.l.take i).map qE++a.l.drop i) (fun⟨i,ha⟩=>[(13,.int .i64 (i:Int)),(4,.int .i64 0),(5,.bool false),(6,.slice a.b1 a.l.length a.c),(12,.int .i64 (a.l.length:Int))]) (fun⟨i,ha⟩=>[row (.slice a.b1 a.l.length a.c) 398 4 a.l.length (ha.flatMap hB),K,aq]) (fun⟨i,ha⟩=>a.l.length-i) (0,a.l) ?_ dD bq ?_
 ·exact⟨Nat.zero_le _,rfl,rfl⟩
 rintro⟨i,ha⟩ ⟨ak,kx,ty⟩
 dsimp only
 have has:=a.small
 refine ah ?_
 refine aT ?_ ?_<;>intro ab
 ·obtain⟨t,bh⟩:∃t,a.l[i]?=some t:=⟨_,List.getElem?_eq_getElem al⟩
  have yA:ha[i]?=some t:=by rw [ty];exact Ug bh
  refine ah ?_
  refine aA (eO (aW:=hB) (aH:=4) (i:=i) (k:=1) (a:=t) (fun _=>rfl) rfl ar (qk bT rfl kx) ae yA rfl) ?_
  refine ah ?_
  refine fw (M1 (aW:=hB) (aH:=4) (k:=3) (i:=i) (a:=t) (y:=qE t) (p4:=ha.set i (qE t)) bT rfl rfl (fun _=>rfl) bu yA (SM t) rfl ar ae rfl) ?_
  refine ah ?_
  refine eg (i+1,ha.set i (qE t)) ?_ ?_ ?_ ?_
  ·(try dsimp only);exact⟨by omega,by rw [List.length_set];exact kx,by rw [ty];exact Yq bh⟩
  ·(try dsimp only);omega
  ·refine⟨?_,?_,?_,?_,?_,trivial⟩<;>rfl
  (try dsimp only);exact⟨_,bq⟩
 obtain rfl:i=a.l.length:=by omega
 refine ah ?_
 rw [show a.l.length=(uR a ha kx).l.length from kx.symm]
 refine dA (Gv (K:=oR (uR a ha kx)) 0 65536 (uR a ha kx) (eh (fun q e=>bT q e) rfl)) ?_
 refine bH (.int .i64 (ph 0 65536 ha).1) ?_
 refine bH (.bool (ph 0 65536 ha).2) ?_
 refine ah ?_
 rw [show ph 0 65536 ha=s4 x.aG.l s from by unfold s4;rw [ty,aO,List.take_of_length_le (by rw [←aO];omega),List.drop_of_length_le (by rw [←aO];omega),List.append_nil]]
 exact⟨[K,aq],⟨rfl,rfl⟩,_,bq⟩
abbrev kv(a b:BitVec 32):List Value:=[aI (a&&&~~~b).toNat,aI (b&&&~~~a).toNat,aI (a&&&b).toNat]
abbrev cm(a b:BitVec 32):BitVec 32:=(a&&&~~~b)|||(b&&&~~~a)|||(a&&&b)
abbrev uB(a b:BitVec 32):BitVec 32:=(a&&&~~~b)|||(a&&&b)
abbrev k0(a b:BitVec 32):BitVec 32:=(b&&&~~~a)|||(a&&&b)
theorem aam(a b:BitVec 32):aS B 243 [aI a.toNat,aI b.toNat] [] (fun v S=>v= .agg (kv a b).toArray∧S=[]):=by
 refine bD 15 Tryz.func243 fun a4 ax=>?_
 refine da fun ay=>?_
 refine aA (hH rfl rfl (ej _) (ej _) rfl) ?_
 refine ah ?_
 refine aA (hH rfl rfl (ej _) (ej _) rfl) ?_
 refine ah ?_
 refine aA (hH rfl rfl (ej _) (ej _) rfl) ?_
 refine ah ?_
 refine cc (.nil _) (gA rfl rfl ar ae (by rfl)) ?_
 exact bA
theorem GS(x:bQ)(av:x.In K)(i:Nat)(e:Nat→Int)(he:x.a0.l[i]?=some e):aS B 188 [x.v,U (i:Int)] [K] (fun v S=>v= .agg (kv (cw x.c (e 0)) (cw x.c (e 1))).toArray∧S=[K]):=by
 refine dn 32 Tryz.func188 fun a4 ax=>?_
 have er:=(List.getElem?_eq_some_iff.1 he).1
 have yy:=x.a0.small
 refine ah ?_
 refine dt (au:=(bJ x)) fun ay=>?_
 refine ds fun aM=>?_
 refine iW ?_
 refine cC ?_ ?_<;>intro ab
 ·omega
 refine aT ?_ ?_<;>intro af
 ·omega
 refine c8 [aa ay (bJ x) 41,K] ae aC ?_
 refine bs 0 rfl (dw (bx:=(bJ x)) rfl ar ae rfl (by rfl)) ?_
 refine aN [1,2,3] ?_
 refine cy 4 rfl (h7 rfl rfl ae (x.a0).en rfl al rfl) ?_
 refine aN [5] ?_
 refine bs 6 rfl (eO (aW:=cS) (aH:=23) (i:=i) (k:=0) (fun _=>rfl) rfl ar av.a0 ae he rfl) ?_
 refine bs 8 rfl (dw (bx:=(bJ x)) rfl ar ae rfl (by rfl)) ?_
 refine aN [9,10,11] ?_
 refine cy 12 rfl (h7 rfl rfl ae (x.a0).en rfl al rfl) ?_
 refine aN [13] ?_
 refine bs 14 rfl (eO (aW:=cS) (aH:=23) (i:=i) (k:=1) (fun _=>rfl) rfl ar av.a0 ae he rfl) ?_
 refine ky 7 (sW x av (e 0)) ?_
 refine ky 15 (sW x av (e 1)) ?_
 refine aN [116] ?_
 refine gu (aam (cw x.c (e 0)) (cw x.c (e 1))) ?_
 refine c7 [117,99] ?_
 refine cc (.nil _) (gA rfl rfl ar ae (by rfl)) ?_
 exact bA
theorem rZ(a b:BitVec 32):aS B 192 [.agg (kv a b).toArray] [] (fun v S=>v=aI (cm a b).toNat∧S=[]):=by
 refine bD 11 Tryz.func192 fun a4 ax=>?_
 refine fe (au:=kv a b) fun ay=>?_
 refine aA (hH rfl rfl (ej _) (ej _) rfl) ?_
 refine ah ?_
 refine aA (hH rfl rfl (ej _) (ej _) rfl) ?_
 exact mz
theorem Yt(a b:BitVec 32):aS B 190 [.agg (kv a b).toArray] [] (fun v S=>v=aI (uB a b).toNat∧S=[]):=by
 refine bD 8 Tryz.func190 fun a4 ax=>?_
 refine fe (au:=kv a b) fun ay=>?_
 refine aA (hH rfl rfl (ej _) (ej _) rfl) ?_
 exact mz
theorem Eg(a b:BitVec 32):aS B 279 [.agg (kv a b).toArray] [] (fun v S=>v=aI (k0 a b).toNat∧S=[]):=by
 refine bD 8 Tryz.func279 fun a4 ax=>?_
 refine fe (au:=kv a b) fun ay=>?_
 refine aA (hH rfl rfl (ej _) (ej _) rfl) ?_
 exact mz
def ft(x:bQ)(a b:BitVec 32)(f:Nat→Int):List Value:=[U x.cG,aw x.aG,aw x.ba,aw x.a0,aI (a&&&~~~b).toNat,aI (b&&&~~~a).toNat,aI (a&&&b).toNat,U (fH x.aG.l (cm a b) 0),U (fH x.aG.l (cm a b) 1),U (fH x.aG.l (cm a b) 2),U (fH x.aG.l (cm a b) 3),U (fH x.aG.l (cm a b) 4),U (fH x.aG.l (cm a b) 5),U (fH x.aG.l (cm a b) 6),U (fH x.aG.l (cm a b) 7),U (f 0),U (f 1),U (f 2),U (f 3),U (f 4),U (f 5),U (f 6),U (f 7),U (f 8),U (f 9),U (f 10),U (f 11),U (f 12),U (f 13),U (f 14),U (f 15)]
theorem Uh{x:bQ}{a b:BitVec 32}{f:Nat→Int}{k:Nat}(h:k<16):(ft x a b f)[15+k*1]?=some (U (f k)):=by
  rcases(show k=0∨k=1∨k=2∨k=3∨k=4∨k=5∨k=6∨k=7∨k=8∨k=9∨k=10∨k=11∨k=12∨k=13∨k=14∨k=15 by omega)with rfl|rfl|rfl|rfl|rfl|rfl|rfl|rfl|rfl|rfl|rfl|rfl|rfl|rfl|rfl|rfl<;>rfl
def g2(a b:BitVec 32)(f:Nat→Int)(z:Int):Int:=if hasB (b&&&~~~a) z=true then f z.toNat else 0
def va(bf:List (Nat→Int))(k:Int):Nat→Int:=(bf[k.toNat]?).getD fun _=>0
theorem Mx{bf:List (Nat→Int)}{k:Int}{e:Nat→Int}(h:bf[k.toNat]?=some e):va bf k=e:=by unfold va;rw [h];rfl
def px(bf:List (Nat→Int))(a b:BitVec 32)(f:Nat→Int)(z:Int):List (Nat→Int):=(bj (mJ (cm a b) z)).map fun k=>rY (va bf k) (g2 a b f k)
structure tl(bf:List (Nat→Int))(cG:Int)(a b:BitVec 32)(f:Nat→Int):Prop where
  t:x5 bf cG
  n:bf.length≤16
  k:∀k:Int,hasB (cm a b) k=true→k<(bf.length:Int)
  f:∀i,i<16→0≤f i∧f i≤16384
theorem LD{a b:BitVec 32}{k:Int}(h:hasB (b&&&~~~a) k=true):hasB (cm a b) k=true:=by
  unfold cm;rw [sN,sN,h];simp
theorem F0{s:BitVec 32}{k:Int}(h:hasB s k=true):0≤k∧k<32:=by
  apply Classical.byContradiction;intro q;rw [vF _ _ q]at h;cases h
theorem Ui{bf:List (Nat→Int)}{cG:Int}{a b:BitVec 32}{f:Nat→Int}(h:tl bf cG a b f)(z:Int):0≤g2 a b f z∧g2 a b f z≤16384:=by
  unfold g2;split
  · rename_i q
    have ab:=h.k z (LD q);have af:=F0 q;have az:=h.n
    exact h.f _ (by omega)
  · omega
theorem RS{s:BitVec 32}{z k:Int}(h:k∈bj (mJ s z)):hasB s k=true∧0≤k∧k<32:=by
  obtain⟨b0,ab,af⟩:=lO.1 h
  obtain⟨n,rfl⟩:=Int.eq_ofNat_of_zero_le b0
  rw [Q6 _ _ _ (by omega)]at af
  simp only [Bool.and_eq_true]at af
  exact⟨af.1,b0,ab⟩
theorem aan(x:bQ)(av:x.In K)(i:Nat)(e:Nat→Int)(he:x.a0.l[i]?=some e)(f:Nat→Int){aq:ao B}(bc:dL aq)(aD:dS aq):aS B 193 [x.v,U (i:Int),.agg (eG 16 f).toArray] [K,aq] (fun v S=>v= .tuple #[.agg (ft x (cw x.c (e 0)) (cw x.c (e 1)) f).toArray,.bool true]∧S=[K,aq]):=by
 refine dn 30 Tryz.func193 fun a4 ax=>?_
 have er:=(List.getElem?_eq_some_iff.1 he).1
 have yy:=x.a0.small
 refine ah ?_
 refine dt (au:=(bJ x)) fun ay=>?_
 refine dt (au:=eG 16 f) fun aM=>?_
 refine ds fun bw=>?_
 refine kZ ?_
 refine cC ?_ ?_<;>intro ab
 ·omega
 refine bX ?_ ?_<;>intro af
 ·omega
 refine gK ?_
 refine cM (bJ x) ?_
 refine ah ?_
 refine dA (GS x av i e he) ?_
 refine da fun b9=>?_
 refine c8 [aa ay (bJ x) 41,aa aM (eG 16 f) 105,aa b9 (kv (cw x.c (e 0)) (cw x.c (e 1))) 338] ae aC ?_
 refine bs 0 rfl (dw (bx:=(bJ x)) rfl ar ae rfl (by rfl)) ?_
 refine bs 1 rfl (dw (bx:=kv (cw x.c (e 0)) (cw x.c (e 1))) rfl ar ae rfl (by rfl)) ?_
 refine bs 2 rfl (dw (bx:=(bJ x)) rfl ar ae rfl (by rfl)) ?_
 refine bs 3 rfl (dw (bx:=kv (cw x.c (e 0)) (cw x.c (e 1))) rfl ar ae rfl (by rfl)) ?_
 refine bs 6 rfl (dw (bx:=eG 16 f) rfl ar ae rfl (by rfl)) ?_
 refine aN [104] ?_
 refine gu (rZ (cw x.c (e 0)) (cw x.c (e 1))) ?_
 refine e6 5 (D6 (kD:=K) (K:=aq) x av (cm (cw x.c (e 0)) (cw x.c (e 1))) bc) ?_
 refine bs 7 rfl (qj (ft x (cw x.c (e 0)) (cw x.c (e 1)) f) rfl ae (XJ (cj:=(bJ x)) (dg:=kv (cw x.c (e 0)) (cw x.c (e 1))) (bC:=eG 8 (fH x.aG.l (cm (cw x.c (e 0)) (cw x.c (e 1))))) (dP:=eG 16 f) rfl rfl rfl rfl rfl rfl rfl)) ?_
 refine c7 [108,9,99] ?_
 refine cc (.nil _) (hc rfl rfl ar ae (by rfl) rfl) ?_
 exact bA
theorem DA(x:bQ)(a b:BitVec 32)(f:Nat→Int)(eK:tl x.aG.l x.cG a b f)(z:Int):aS B 245 [.agg (ft x a b f).toArray,U z] [] (fun v S=>v=U (g2 a b f z)∧S=[]):=by
 refine bD 14 Tryz.func245 fun a4 ax=>?_
 refine fe (au:=ft x a b f) fun ay=>?_
 refine fL (re (b&&&~~~a) z) ?_
 refine bX ?_ ?_<;>intro ab
 ·have Eh:=eK.k z (LD ab)
  have jm:=F0 ab
  have ae3:=eK.n
  refine dZ ?_
  refine fl ?_
  refine aA (dh rfl) ?_
  refine aA (kf ae) ?_
  refine aA (m7 rfl rfl ae (show z=((z.toNat:Nat):Int)by omega) (by omega) rfl) ?_
  refine aA (fm (v:=U (f z.toNat)) rfl ar ae (Uh (by omega))) ?_
  refine ah ?_
  exact bI ⟨by rw [show g2 a b f z=f z.toNat from if_pos ab],rfl⟩
 refine ah ?_
 exact bI ⟨by rw [show g2 a b f z=0 from if_neg (by rw [ab];decide)],rfl⟩
theorem V9(x:bQ)(a b:BitVec 32)(f:Nat→Int)(z:Int):aS B 291 [.agg (ft x a b f).toArray,U z] [] (fun v S=>∃au c3:Nat,v= .func (.func 300) #[] #[ag au,ag c3]∧S=[aa au (ft x a b f) 343,aa c3 [U z] 3]):=by
 refine bD 6 Tryz.func291 fun a4 ax=>?_
 refine dt (au:=ft x a b f) fun ay=>?_
 refine fe fun aM=>?_
 exact⟨[aa ay (ft x a b f) 343,aa aM [U z] 3],⟨ay,aM,rfl,rfl⟩,_,bq⟩
def r8(bf:List (Nat→Int))(a b:BitVec 32)(f:Nat→Int)(z:Int):Int×Bool:=if hasB (cm a b) z=true then ph (va bf z 2+mi bf (cm a b) (fH bf (cm a b)) z) (va bf z 1+g2 a b f z) (px bf a b f z)else(0,false)
theorem SN(bf:List (Nat→Int))(a b:BitVec 32)(f:Nat→Int)(z:Int):(px bf a b f z).length≤32:=by unfold px;rw [List.length_map];exact zg _
theorem Wa(au c3:Nat)(x:bQ)(av:x.In K)(a b:BitVec 32)(f:Nat→Int)(eK:tl x.aG.l x.cG a b f)(z:Int){aq:ao B}(bc:dL aq)(aD:dS aq):mW Tryz.prog B 300 [ag au,ag c3] [aa au (ft x a b f) 343,aa c3 [U z] 3,K,aq] ((px x.aG.l a b f z).map fun t=>[Value.agg (hB t).toArray]):=by
 intro cu J gN cb gv aZ
 change dQ _ _ _ _ (aa au (ft x a b f) 343::aa c3 [U z] 3::K::aq::cb) _
 refine dn 33 Tryz.func300 fun a4 ax=>?_
 have et:=x.aG.small
 refine ah ?_
 refine fe (au:=[.func (.yield cu) #[] #[]]) fun ay=>?_
 refine c8 [aa au (ft x a b f) 343,aa c3 [U z] 3] ae aC ?_
 refine aN [0] ?_
 refine bs 1 rfl (dw (bx:=kv a b) rfl ar ae rfl (by rfl)) ?_
 refine aN [3,102] ?_
 refine gu (rZ a b) ?_
 refine aN [104] ?_
 refine gu (Gq (cm a b) z) ?_
 refine jU 5 (ps (mJ (cm a b) z)) ?_
 rintro _ _ ⟨hk,rfl,rfl⟩
 simp only [List.cons_append,List.nil_append]
 refine⟨aa hk [aI (mJ (cm a b) z).toNat] 158::aa ay [.func (.yield cu) #[] #[]] 438::K::aq::cb,_,_,dr,aC,?_⟩
 refine aN [99] ?_
 refine dW ?_
 refine zV aD ar ?_
 refine kh (own:=[aa hk [aI (mJ (cm a b) z).toNat] 158,aq]) (aP:=aa ay [.func (.yield cu) #[] #[]] 438::aa au (ft x a b f) 343::aa c3 [U z] 3::K::aq::cb) rfl e2 (pg (K:=aq) hk (mJ (cm a b) z) bc) (fun i S=>∃aP,J i aP∧S=aa ay [.func (.yield cu) #[] #[]] 438::aa au (ft x a b f) 343::aa c3 [U z] 3::K::aq::aP) (fun c i S=>c= .ret∧∃aP m,m<((px x.aG.l a b f z).map fun t=>[Value.agg (hB t).toArray]).length∧gN m aP∧S=aa ay [.func (.yield cu) #[] #[]] 438::aa au (ft x a b f) 343::aa c3 [U z] 3::K::aq::aP) (show Take (aa hk [aI (mJ (cm a b) z).toNat] 158::aq::aa ay [.func (.yield cu) #[] #[]] 438::aa au (ft x a b f) 343::aa c3 [U z] 3::K::aq::cb) _ _ from aC) (⟨cb,gv,rfl⟩) rfl (fun x av=>by obtain⟨y,_,rfl⟩:=List.mem_map.1 av;rfl) ?_ ?_ ?_
 ·intro acs rec jF i aQ ak kL
  obtain⟨aP,bt,rfl⟩:=kL
  rw [List.length_map]at ak
  obtain⟨k,cN⟩:∃k,(bj (mJ (cm a b) z))[i]?=some k:=⟨_,List.getElem?_eq_getElem ak⟩
  rw [m6 cN]
  obtain⟨qf,Ee,ED⟩:=lO.1 (List.mem_of_getElem? cN)
  obtain⟨tI,ae4,_⟩:=RS (List.mem_of_getElem? cN)
  have afv:=eK.k k tI
  have mC:=eK.n
  obtain⟨e,DS⟩:∃e,x.aG.l[k.toNat]?=some e:=⟨_,List.getElem?_eq_getElem al⟩
  obtain rfl:va x.aG.l k=e:=Mx DS
  have acu:=DS
  have D4:(px x.aG.l a b f z)[i]?=some (rY (va x.aG.l k) (g2 a b f k)):=by unfold px;rw [List.getElem?_map,cN];rfl
  have er:i<((px x.aG.l a b f z).map fun t=>[Value.agg (hB t).toArray]).length:=by rw [List.length_map];exact(List.getElem?_eq_some_iff.1 D4).1
  have fI:=aZ i aP er bt
  rw [m6 (f:=fun t=>[Value.agg (hB t).toArray]) D4]at fI
  refine ah ?_
  refine⟨rfl,_,_,.cons ar (Take.self _),fun h1=>?_⟩
  refine ah ?_
  refine c8 [aa ay [.func (.yield cu) #[] #[]] 438,aa au (ft x a b f) 343,K] ae aC ?_
  refine aN [0,1,2,3,4,5,6] ?_
  refine vB (t:=18) rfl (fun ab=>?_) (fun ab=>?_)
  ·replace ab:=fb ab
   omega
  replace ab:=fb ab
  refine bs 7 rfl (ed (v:= .func (.yield cu) #[] #[]) ae) (hw:=(.yes 18 rfl rfl rfl)) ?_
  refine aN [8,9,10,11] ?_
  refine cy 12 rfl (h7 (j:=k.toNat) rfl rfl ae (x.aG).en (show k=((k.toNat:Nat):Int)by omega) al rfl) (hw:=(.yes 18 rfl rfl rfl)) ?_
  refine bs 13 rfl (hN (aW:=cg) (aH:=11) (i:=k.toNat) (fun _=>rfl) rfl ar av.aG ae acu) (hw:=(.yes 18 rfl rfl rfl)) ?_
  refine bs 14 rfl (dw (bx:=ft x a b f) rfl ar ae rfl (by rfl)) (hw:=(.yes 18 rfl rfl rfl)) ?_
  refine aN [15,116] ?_
  refine gu (DA x a b f eK k) (hw:=(.yes 18 rfl rfl rfl)) ?_
  refine aN [117] ?_
  refine gu (PJ (va x.aG.l k) (g2 a b f k)) (hw:=(.yes 18 rfl rfl rfl)) ?_
  refine aN [118] ?_
  refine xv rfl (.yes 18 rfl rfl rfl) rfl rfl dr fI aC rfl ?_
  rintro og aQ aE
  refine⟨aa c3 [U z] 3::aq::obj acs (.loop h1)::aQ,_,_,dr,aC,?_⟩
  refine c7 [19,20,99] ?_
  refine aT ?_ ?_<;>intro af
  ·obtain⟨h,_⟩|⟨_,aE⟩:=aE
   ·rw [h]at af;cases af
   exact⟨aa ay [.func (.yield cu) #[] #[]] 438::aa au (ft x a b f) 343::aa c3 [U z] 3::K::aq::aQ,_,aC,⟨rfl,aQ,_,er,aE,rfl⟩⟩
  obtain⟨_,aE⟩|⟨h,_⟩:=aE
  rotate_left
  ·rw [h]at af;cases af
  exact⟨aa ay [.func (.yield cu) #[] #[]] 438::aa au (ft x a b f) 343::aa c3 [U z] 3::K::aq::aQ,_,aC,⟨aQ,aE,rfl⟩⟩
 ·intro c0 aQ kL
  obtain⟨aP,bt,rfl⟩:=kL
  rw [List.length_map]at bt
  refine cU ?_
  refine Cm (show Take [du c0] _ _ from aC) (ua rfl) ?_
  exact⟨aa au (ft x a b f) 343::aa c3 [U z] 3::K::aq::aP,⟨aP,rfl,.inl (by rw [List.length_map];unfold px;rw [List.length_map];exact bt)⟩,_,aC⟩
 intro c0 c i aQ ak h
 obtain⟨rfl,aP,m,oZ,H3,rfl⟩:=h
 refine cU ?_
 refine cc (show Take [du c0] _ _ from aC) (ua rfl) ?_
 exact⟨aa au (ft x a b f) 343::aa c3 [U z] 3::K::aq::aP,⟨aP,rfl,.inr ⟨m,oZ,H3⟩⟩,_,aC⟩
def tm(bf:List (Nat→Int))(a b:BitVec 32)(z:Int):Int×Bool:=if hasB (k0 a b) z=true then((ly bf (k0 a b) (cm a b) (fH bf (cm a b)) z).1 2,(ly bf (k0 a b) (cm a b) (fH bf (cm a b)) z).2)else(0,false)
def gQ(bf:List (Nat→Int))(a b:BitVec 32)(f:Nat→Int)(z:Int):Int×Bool:=if(r8 bf a b f z).2=true then(if hasB (k0 a b) z=true then(max (r8 bf a b f z).1 (tm bf a b z).1,!(tm bf a b z).2)else((r8 bf a b f z).1,false))else(0,true)
theorem aao(x:bQ)(av:x.In K)(a b:BitVec 32)(f:Nat→Int)(eK:tl x.aG.l x.cG a b f)(z:Int){aq:ao B}(bc:dL aq)(aD:dS aq):aS B 278 [.agg (ft x a b f).toArray,U z] [K,aq] (fun v S=>v=pD (r8 x.aG.l a b f z)∧S=[K,aq]):=by
 refine bD 61 Tryz.func278 fun a4 ax=>?_
 refine dt (au:=ft x a b f) fun ay=>?_
 refine iW ?_
 refine cM (kv a b) ?_
 refine fL (rZ a b) ?_
 refine fL (re (cm a b) z) ?_
 refine cC ?_ ?_<;>intro ab
 ·rw [show(r8 x.aG.l a b f z)=(0,false)from if_neg (by rw [ab];decide)]
  exact bA
 have DT:=eK.k z ab
 have ae5:=F0 ab
 have ae6:=eK.n
 obtain⟨e,bh⟩:∃e,x.aG.l[z.toNat]?=some e:=⟨_,List.getElem?_eq_getElem al⟩
 obtain⟨⟨dc,dd,fD,yT,EB,adF⟩,_⟩:=eK.t e (List.mem_of_getElem? bh)
 have acr:=J1 (s:=cm a b) (t:=(fH x.aG.l (cm a b))) (z:=z) eK.t.H2
 have D8:=Ui eK z
 have hw:(r8 x.aG.l a b f z)=ph (e 2+(mi x.aG.l (cm a b) (fH x.aG.l (cm a b)) z)) (e 1+g2 a b f z) (px x.aG.l a b f z):=by rw [←Mx bh];exact if_pos ab
 refine ah ?_
 refine aT ?_ ?_<;>intro af
 ·omega
 refine da fun aM=>?_
 refine cA (V9 x a b f z) ?_
 rintro _ _ ⟨au,c3,rfl,rfl⟩
 simp only [List.cons_append,List.nil_append]
 refine dW ?_
 refine hy hB 398 4 ?_
 refine kh (own:=[aa au (ft x a b f) 343,aa c3 [U z] 3,K,aq]) (aP:=[aa ay (ft x a b f) 343,aa aM [.slice none 0 0] 394,oR (ai.bG:ai (Nat→Int))]) rfl e2 (Wa au c3 x av a b f eK z bc aD) (fun i S=>∃r:ai (Nat→Int),(r.l=(px x.aG.l a b f z).take i∧r.Own)∧S=[aa ay (ft x a b f) 343,aa aM [aw r] 394,oR r]) (fun c i S=>False) (show Take ([aa au (ft x a b f) 343,aa c3 [U z] 3,K,aq,aa ay (ft x a b f) 343,aa aM [.slice none 0 0] 394,oR (ai.bG:ai (Nat→Int))]) _ _ from aC) (⟨ai.bG,⟨rfl,ai.fY⟩,rfl⟩) rfl (fun x av=>by obtain⟨y,_,rfl⟩:=List.mem_map.1 av;rfl) ?_ ?_ ?_
 ·intro cu rec jF i aQ ak bt
  obtain⟨r,⟨bk,pA⟩,rfl⟩:=bt
  rw [List.length_map]at ak
  obtain⟨t,cN⟩:∃t,(px x.aG.l a b f z)[i]?=some t:=⟨_,List.getElem?_eq_getElem ak⟩
  rw [m6 (f:=fun t=>[Value.agg (hB t).toArray]) cN]
  have PL:r.l.length≤32:=by rw [bk,List.length_take];have:=SN x.aG.l a b f z;omega
  refine ah ?_
  refine da fun bw=>?_
  refine⟨rfl,_,_,.cons ar (Take.self _),fun h1=>?_⟩
  refine dW ?_
  refine cv (aw r) ?_
  refine cM (hB t) ?_
  refine js (au:=([t]:List (Nat→Int)).flatMap hB) .no rfl ae bu bu (by rfl) (by rw [show(([t]:List (Nat→Int)).flatMap hB)=hB t from List.append_nil _];exact Dg rfl) rfl rfl (fun PM=>?_)
  refine ma (aW:=hB) (c:=r) (b:=ai.lit PM [t] (by simp)) .no rfl rfl ae ar (show Out (aa PM (([t]:List (Nat→Int)).flatMap hB) 398) _ _ from ar) hF (fun _=>rfl) (fun _=>rfl) (by show r.l.length+1≤_;omega) (by show(r.l.length+1)*_≤_;omega) rfl (fun c2 gL jQ=>?_)
  refine ah ?_
  exact⟨[aa ay (ft x a b f) 343,aa aM [aw c2] 394,oR c2],_,aC,⟨c2,⟨by rw [gL,bk,List.take_add_one,cN];simp [ai.lit],jQ⟩,rfl⟩⟩
 ·intro c0 aQ bt
  obtain⟨r,⟨bk,pA⟩,rfl⟩:=bt
  rw [List.length_map,List.take_length]at bk
  refine cU ?_
  refine aA (hx (j:=z.toNat) rfl rfl ae (x.aG).en (show z=((z.toNat:Nat):Int)by omega) al rfl) ?_
  refine aA (hN (aW:=cg) (aH:=11) (i:=z.toNat) (fun _=>rfl) rfl ar av.aG ae bh) ?_
  refine da fun b9=>?_
  refine c8 [aa ay (ft x a b f) 343] ae aC ?_
  refine aN [0] ?_
  refine bs 1 rfl (dw (bx:=(bJ x)) rfl ar ae rfl (by rfl)) ?_
  refine aN [2] ?_
  refine bs 3 rfl (dw (bx:=kv a b) rfl ar ae rfl (by rfl)) ?_
  refine aN [5] ?_
  refine bs 6 rfl (dw (bx:=eG 8 (fH x.aG.l (cm a b))) rfl ar ae rfl (by rfl)) ?_
  refine aN [7,104] ?_
  refine gu (rZ a b) ?_
  refine e6 8 (Mw x av (cm a b) (fH x.aG.l (cm a b)) z eK.t.H2 bc aD) ?_
  refine c7 [9,99] ?_
  refine c8 [aa ay (ft x a b f) 343,aa b9 (cg e) 173,aa aM [aw r] 394] ae aC ?_
  refine aN [0,1,2] ?_
  refine bs 3 rfl (pO (m:=e 2) (n:=(mi x.aG.l (cm a b) (fH x.aG.l (cm a b)) z)) rfl rfl al al) ?_
  refine aN [4,5] ?_
  refine bs 6 rfl (dw (bx:=ft x a b f) rfl ar ae rfl (by rfl)) ?_
  refine aN [7] ?_
  refine bs 10 rfl (ed (v:=aw r) ae) ?_
  refine aN [108] ?_
  refine gu (DA x a b f eK z) ?_
  refine bs 9 rfl (pO (m:=e 1) (n:=g2 a b f z) rfl rfl al al) ?_
  refine jU 11 (Gv (K:=oR r) (e 2+(mi x.aG.l (cm a b) (fH x.aG.l (cm a b)) z)) (e 1+g2 a b f z) r (eh pA rfl)) ?_
  rintro _ _ ⟨rfl,rfl⟩
  simp only [List.cons_append,List.nil_append]
  rw [bk]
  refine fV ?_
  refine cy 12 rfl (fx (v:=U (ph (e 2+(mi x.aG.l (cm a b) (fH x.aG.l (cm a b)) z)) (e 1+g2 a b f z) (px x.aG.l a b f z)).1) rfl) ?_
  refine cy 13 rfl (fx (v:= .bool (ph (e 2+(mi x.aG.l (cm a b) (fH x.aG.l (cm a b)) z)) (e 1+g2 a b f z) (px x.aG.l a b f z)).2) rfl) ?_
  refine c7 [14,15,99] ?_
  refine cc (show Take [du c0] _ _ from aC) (zd rfl rfl rfl) ?_
  rw [hw]
  exact bA
 intro c0 c i aQ ak h
 exact h.elim
theorem Uj(x:bQ)(av:x.In K)(a b:BitVec 32)(f:Nat→Int)(eK:tl x.aG.l x.cG a b f)(z:Int){aq:ao B}(bc:dL aq)(aD:dS aq):aS B 280 [.agg (ft x a b f).toArray,U z] [K,aq] (fun v S=>v=pD (tm x.aG.l a b z)∧S=[K,aq]):=by
 refine bD 32 Tryz.func280 fun a4 ax=>?_
 refine dt (au:=ft x a b f) fun ay=>?_
 refine iW ?_
 refine cM (kv a b) ?_
 refine fL (Eg a b) ?_
 refine fL (re (k0 a b) z) ?_
 refine bX ?_ ?_<;>intro ab
 ·refine ah ?_
  rw [show(tm x.aG.l a b z)=(0,false)from if_neg (by rw [ab];decide)]
  exact bA
 refine dW ?_
 refine k5 (α:=Nat) (fun BB=>True) (fun BB=>[(6,ag BB),(7,.bool (ly x.aG.l (k0 a b) (cm a b) (fH x.aG.l (cm a b)) z).2),(2,ag ay)]) (fun BB=>[aa BB (nX (ly x.aG.l (k0 a b) (cm a b) (fH x.aG.l (cm a b)) z).1) 334,K,aq]) ?_ ?_
 ·skip
  refine c8 [aa ay (ft x a b f) 343] ae aC ?_
  refine aN [0] ?_
  refine bs 1 rfl (dw (bx:=(bJ x)) rfl ar ae rfl (by rfl)) ?_
  refine aN [2] ?_
  refine bs 3 rfl (dw (bx:=kv a b) rfl ar ae rfl (by rfl)) ?_
  refine aN [5] ?_
  refine bs 6 rfl (dw (bx:=kv a b) rfl ar ae rfl (by rfl)) ?_
  refine aN [8] ?_
  refine bs 9 rfl (dw (bx:=eG 8 (fH x.aG.l (cm a b))) rfl ar ae rfl (by rfl)) ?_
  refine aN [10] ?_
  refine ju 4 15 jZ ?_ ?_
  ·skip
   refine gu (Eg a b) ?_
   refine ju 7 15 jZ ?_ ?_
   ·skip
    refine gu (rZ a b) ?_
    refine ju 11 15 jZ ?_ ?_
    ·skip
     refine lK (z3 x av (k0 a b) (cm a b) (fH x.aG.l (cm a b)) z eK.t bc aD) ?_
     rintro _ _ ⟨rfl,rfl⟩
     simp only [List.cons_append,List.nil_append]
     refine fV ?_
     refine aN [12] ?_
     refine cy 13 rfl (fx (v:= .agg (nX (ly x.aG.l (k0 a b) (cm a b) (fH x.aG.l (cm a b)) z).1).toArray) rfl) ?_
     refine cy 14 rfl (fx (v:= .bool (ly x.aG.l (k0 a b) (cm a b) (fH x.aG.l (cm a b)) z).2) rfl) ?_
     refine aN [115] ?_
     refine jt rfl .no ae rfl (fun o4=>?_)
     refine aN [116,17,99] ?_
     exact fj o4 trivial
    skip
    refine jt rfl .no ae rfl (fun o4=>?_)
    refine e6 11 (z3 x av (k0 a b) (cm a b) (fH x.aG.l (cm a b)) z eK.t bc aD) ?_
    refine aN [12] ?_
    refine cy 13 rfl (fx (v:= .agg (nX (ly x.aG.l (k0 a b) (cm a b) (fH x.aG.l (cm a b)) z).1).toArray) rfl) ?_
    refine cy 14 rfl (fx (v:= .bool (ly x.aG.l (k0 a b) (cm a b) (fH x.aG.l (cm a b)) z).2) rfl) ?_
    refine aN [116,17,99] ?_
    exact fj o4 trivial
   skip
   refine jt rfl .no ae rfl (fun o4=>?_)
   refine aN [107] ?_
   refine gu (rZ a b) ?_
   refine e6 11 (z3 x av (k0 a b) (cm a b) (fH x.aG.l (cm a b)) z eK.t bc aD) ?_
   refine aN [12] ?_
   refine cy 13 rfl (fx (v:= .agg (nX (ly x.aG.l (k0 a b) (cm a b) (fH x.aG.l (cm a b)) z).1).toArray) rfl) ?_
   refine cy 14 rfl (fx (v:= .bool (ly x.aG.l (k0 a b) (cm a b) (fH x.aG.l (cm a b)) z).2) rfl) ?_
   refine aN [116,17,99] ?_
   exact fj o4 trivial
  skip
  refine jt rfl .no ae rfl (fun o4=>?_)
  refine aN [104] ?_
  refine gu (Eg a b) ?_
  refine aN [107] ?_
  refine gu (rZ a b) ?_
  refine e6 11 (z3 x av (k0 a b) (cm a b) (fH x.aG.l (cm a b)) z eK.t bc aD) ?_
  refine aN [12] ?_
  refine cy 13 rfl (fx (v:= .agg (nX (ly x.aG.l (k0 a b) (cm a b) (fH x.aG.l (cm a b)) z).1).toArray) rfl) ?_
  refine cy 14 rfl (fx (v:= .bool (ly x.aG.l (k0 a b) (cm a b) (fH x.aG.l (cm a b)) z).2) rfl) ?_
  refine aN [116,17,99] ?_
  exact fj o4 trivial
 rintro BB _
 refine ah ?_
 rw [show(tm x.aG.l a b z)=((ly x.aG.l (k0 a b) (cm a b) (fH x.aG.l (cm a b)) z).1 2,(ly x.aG.l (k0 a b) (cm a b) (fH x.aG.l (cm a b)) z).2)from if_pos ab]
 exact bA
theorem Yu(x:bQ)(av:x.In K)(a b:BitVec 32)(f:Nat→Int)(eK:tl x.aG.l x.cG a b f)(z:Int){aq:ao B}(bc:dL aq)(aD:dS aq):aS B 244 [.agg (ft x a b f).toArray,U z] [K,aq] (fun v S=>v=pD (gQ x.aG.l a b f z)∧S=[K,aq]):=by
 refine bD 35 Tryz.func244 fun a4 ax=>?_
 refine dt (au:=ft x a b f) fun ay=>?_
 refine cW ?_
 refine cM (ft x a b f) ?_
 refine ah ?_
 refine dA (aao x av a b f eK z bc aD) ?_
 refine ct ?_
 refine bH (U (r8 x.aG.l a b f z).1) ?_
 refine bH (.bool (r8 x.aG.l a b f z).2) ?_
 refine ah ?_
 refine bX ?_ ?_<;>intro ab
 ·refine ah ?_
  rw [show(gQ x.aG.l a b f z)=(0,true)from if_neg (by rw [ab];decide)]
  exact bA
 refine ho ?_
 refine cM (kv a b) ?_
 refine fL (Eg a b) ?_
 refine fL (re (k0 a b) z) ?_
 refine bX ?_ ?_<;>intro af
 ·refine ah ?_
  rw [show(gQ x.aG.l a b f z)=((r8 x.aG.l a b f z).1,false)from by unfold gQ;rw [if_pos ab,if_neg (by rw [af];decide)]]
  exact bA
 refine gK ?_
 refine cM (ft x a b f) ?_
 refine ah ?_
 refine dA (Uj x av a b f eK z bc aD) ?_
 refine ct ?_
 refine bH (U (tm x.aG.l a b z).1) ?_
 refine bH (.bool (tm x.aG.l a b z).2) ?_
 refine ah ?_
 rw [show(gQ x.aG.l a b f z)=(max (r8 x.aG.l a b f z).1 (tm x.aG.l a b z).1,!(tm x.aG.l a b z).2)from by unfold gQ;rw [if_pos ab,if_pos af]]
 exact bA
abbrev gr(p:Int×Int):List Value:=[U p.1,U p.2]
def gw(g:Int→Int)(l:List Int):Int:=l.foldl (fun m k=>max m (g k)) 0
theorem r0{g:Int→Int}{l:List Int}{i:Nat}{k:Int}(h:l[i]?=some k):gw g (l.take (i+1))=max (gw g (l.take i)) (g k):=by
  unfold gw;rw [List.take_add_one,h,List.foldl_append];rfl
def uC(bf:List (Nat→Int))(a b:BitVec 32)(f:Nat→Int):(Int×Int)×Bool:=if((bj (cm a b)).all fun k=>!(gQ bf a b f k).2)=true then((max (gw (fun k=>(gQ bf a b f k).1) (bj (cm a b))) (gw (g2 a b f) (bj (cm a b))),gw (fun k=>(gQ bf a b f k).1) (bj (cm a b))),true)else((0,0),false)
def oS(l:List (Nat→Int)):Int:=l.foldl (fun m e=>max m (e 0)) 0
theorem Wb(l:List (Nat→Int))(e:Nat→Int):oS (l++[e])=max (oS l) (e 0):=by unfold oS;rw [List.foldl_append];rfl
def GU(bf:List (Nat→Int))(s:BitVec 32):Int:=oS (h2 bf (bj s))
def eZ(c:dG)(e:Nat→Int):(Int×Int)×Bool:=
  if e 2=1 then(((s4 c.aG (uB (cw c (e 0)) (cw c (e 1)))).1,0),(s4 c.aG (uB (cw c (e 0)) (cw c (e 1)))).2)
  else if e 2=2 then((GU c.aG (cm (cw c (e 0)) (cw c (e 1))),0),true)
  else if e 2=3 then uC c.aG (cw c (e 0)) (cw c (e 1)) (fun r=>e (3+r))
  else((0,0),false)
theorem Yv(x:bQ)(av:x.In K)(a b:BitVec 32)(f:Nat→Int)(eK:tl x.aG.l x.cG a b f){aq:ao B}(bc:dL aq)(aD:dS aq):aS B 194 [.agg (ft x a b f).toArray] [K,aq] (fun v S=>v= .tuple #[.agg (gr (uC x.aG.l a b f).1).toArray,.bool (uC x.aG.l a b f).2]∧S=[K,aq]):=by
 refine bD 35 Tryz.func194 fun a4 ax=>?_
 refine dt (au:=ft x a b f) fun ay=>?_
 refine ds fun aM=>?_
 refine da fun bw=>?_
 refine ds fun b9=>?_
 refine ds fun dK=>?_
 refine iW ?_
 refine cM (kv a b) ?_
 refine hD (rZ a b) ?_
 refine cA (ps (cm a b)) ?_
 rintro _ _ ⟨hk,rfl,rfl⟩
 simp only [List.cons_append,List.nil_append]
 refine dW ?_
 refine zV aD ar ?_
 rw [show(aa b9 [U 0] 3:ao B)=aa b9 [U (gw (fun k=>(gQ x.aG.l a b f k).1) ((bj (cm a b)).take 0))] 3 from rfl]
 rw [show(aa dK [U 0] 3:ao B)=aa dK [U (gw (g2 a b f) ((bj (cm a b)).take 0))] 3 from rfl]
 refine kh (own:=[aa hk [aI (cm a b).toNat] 158,aq]) (aP:=[aa ay (ft x a b f) 343,aa aM [U 0,U 0] 190,aa bw [.bool false] 4,aa b9 [U (gw (fun k=>(gQ x.aG.l a b f k).1) ((bj (cm a b)).take 0))] 3,aa dK [U (gw (g2 a b f) ((bj (cm a b)).take 0))] 3,K,aq]) rfl e2 (pg (K:=aq) hk (cm a b) bc) (fun i S=>(∀k∈(bj (cm a b)).take i,(gQ x.aG.l a b f k).2=false)∧S=[aa ay (ft x a b f) 343,aa aM [U 0,U 0] 190,aa bw [.bool false] 4,aa b9 [U (gw (fun k=>(gQ x.aG.l a b f k).1) ((bj (cm a b)).take i))] 3,aa dK [U (gw (g2 a b f) ((bj (cm a b)).take i))] 3,K,aq]) (fun c i S=>c= .ret∧(∃k∈(bj (cm a b)),(gQ x.aG.l a b f k).2=true)∧S=[aa aM [U 0,U 0] 190,aa bw [.bool false] 4,K,aq]) (show Take ([aa hk [aI (cm a b).toNat] 158,aq,aa ay (ft x a b f) 343,aa aM [U 0,U 0] 190,aa bw [.bool false] 4,aa b9 [U (gw (fun k=>(gQ x.aG.l a b f k).1) ((bj (cm a b)).take 0))] 3,aa dK [U (gw (g2 a b f) ((bj (cm a b)).take 0))] 3,K,aq]) _ _ from aC) (⟨fun k aj=>(by cases aj),rfl⟩) rfl (fun x av=>by obtain⟨y,_,rfl⟩:=List.mem_map.1 av;rfl) ?_ ?_ ?_
 ·intro cu rec jF i aQ ak bt
  obtain⟨cR,rfl⟩:=bt
  rw [List.length_map]at ak
  obtain⟨k,cN⟩:∃k,(bj (cm a b))[i]?=some k:=⟨_,List.getElem?_eq_getElem ak⟩
  rw [m6 cN]
  obtain⟨qf,Ee,ED⟩:=lO.1 (List.mem_of_getElem? cN)
  refine ah ?_
  refine⟨rfl,_,_,.cons ar (Take.self _),fun h1=>?_⟩
  refine gD ?_
  refine cM (ft x a b f) ?_
  refine ah ?_
  refine dA (Yu x av a b f eK k bc aD) ?_
  refine ct ?_
  refine bH (U (gQ x.aG.l a b f k).1) ?_
  refine bH (.bool (gQ x.aG.l a b f k).2) ?_
  refine ah ?_
  refine aT ?_ ?_<;>intro ab
  ·exact⟨[aa aM [U 0,U 0] 190,aa bw [.bool false] 4,K,aq],_,aC,⟨rfl,⟨k,List.mem_of_getElem? cN,ab⟩,rfl⟩⟩
  refine c8 [aa ay (ft x a b f) 343,aa b9 [U (gw (fun k=>(gQ x.aG.l a b f k).1) ((bj (cm a b)).take i))] 3,aa dK [U (gw (g2 a b f) ((bj (cm a b)).take i))] 3] ae aC ?_
  refine aN [0,1,2] ?_
  refine bs 4 rfl (dw (bx:=ft x a b f) rfl ar ae rfl (by rfl)) ?_
  refine aN [5] ?_
  refine ju 3 6 jZ ?_ ?_
  ·skip
   refine qm rfl .no dr (ed ae) rfl ?_
   refine aN [106] ?_
   refine gu (DA x a b f eK k) ?_
   refine ju 7 8 jZ ?_ ?_
   ·skip
    refine qm rfl .no dr (xY rfl rfl) rfl ?_
    refine c7 [108,109,99] ?_
    rw [show max (gw (fun k=>(gQ x.aG.l a b f k).1) ((bj (cm a b)).take i)) (gQ x.aG.l a b f k).1=(gw (fun k=>(gQ x.aG.l a b f k).1) ((bj (cm a b)).take (i+1)))from(r0 (g:=fun k=>(gQ x.aG.l a b f k).1) cN).symm,show max (gw (g2 a b f) ((bj (cm a b)).take i)) (g2 a b f k)=(gw (g2 a b f) ((bj (cm a b)).take (i+1)))from(r0 cN).symm]
    exact⟨[aa ay (ft x a b f) 343,aa aM [U 0,U 0] 190,aa bw [.bool false] 4,aa b9 [U (gw (fun k=>(gQ x.aG.l a b f k).1) ((bj (cm a b)).take (i+1)))] 3,aa dK [U (gw (g2 a b f) ((bj (cm a b)).take (i+1)))] 3,K,aq],_,aC,⟨fun y aZ=>by rw [List.take_add_one,cN]at aZ;rcases List.mem_append.1 aZ with q|q;exact cR y q;simp at q;subst q;exact ab,rfl⟩⟩
   skip
   refine lC rfl dr (oB rfl rfl rfl ar ae pH) ?_
   refine c7 [107,109,99] ?_
   rw [show max (gw (fun k=>(gQ x.aG.l a b f k).1) ((bj (cm a b)).take i)) (gQ x.aG.l a b f k).1=(gw (fun k=>(gQ x.aG.l a b f k).1) ((bj (cm a b)).take (i+1)))from(r0 (g:=fun k=>(gQ x.aG.l a b f k).1) cN).symm,show max (gw (g2 a b f) ((bj (cm a b)).take i)) (g2 a b f k)=(gw (g2 a b f) ((bj (cm a b)).take (i+1)))from(r0 cN).symm]
   exact⟨[aa ay (ft x a b f) 343,aa aM [U 0,U 0] 190,aa bw [.bool false] 4,aa b9 [U (gw (fun k=>(gQ x.aG.l a b f k).1) ((bj (cm a b)).take (i+1)))] 3,aa dK [U (gw (g2 a b f) ((bj (cm a b)).take (i+1)))] 3,K,aq],_,aC,⟨fun y aZ=>by rw [List.take_add_one,cN]at aZ;rcases List.mem_append.1 aZ with q|q;exact cR y q;simp at q;subst q;exact ab,rfl⟩⟩
  skip
  refine gu (DA x a b f eK k) ?_
  refine ju 3 8 jZ ?_ ?_
  ·skip
   refine qm rfl .no dr (ed ae) rfl ?_
   refine ju 7 8 jZ ?_ ?_
   ·skip
    refine qm rfl .no dr (xY rfl rfl) rfl ?_
    refine c7 [108,109,99] ?_
    rw [show max (gw (fun k=>(gQ x.aG.l a b f k).1) ((bj (cm a b)).take i)) (gQ x.aG.l a b f k).1=(gw (fun k=>(gQ x.aG.l a b f k).1) ((bj (cm a b)).take (i+1)))from(r0 (g:=fun k=>(gQ x.aG.l a b f k).1) cN).symm,show max (gw (g2 a b f) ((bj (cm a b)).take i)) (g2 a b f k)=(gw (g2 a b f) ((bj (cm a b)).take (i+1)))from(r0 cN).symm]
    exact⟨[aa ay (ft x a b f) 343,aa aM [U 0,U 0] 190,aa bw [.bool false] 4,aa b9 [U (gw (fun k=>(gQ x.aG.l a b f k).1) ((bj (cm a b)).take (i+1)))] 3,aa dK [U (gw (g2 a b f) ((bj (cm a b)).take (i+1)))] 3,K,aq],_,aC,⟨fun y aZ=>by rw [List.take_add_one,cN]at aZ;rcases List.mem_append.1 aZ with q|q;exact cR y q;simp at q;subst q;exact ab,rfl⟩⟩
   skip
   refine lC rfl dr (oB rfl rfl rfl ar ae pH) ?_
   refine c7 [107,109,99] ?_
   rw [show max (gw (fun k=>(gQ x.aG.l a b f k).1) ((bj (cm a b)).take i)) (gQ x.aG.l a b f k).1=(gw (fun k=>(gQ x.aG.l a b f k).1) ((bj (cm a b)).take (i+1)))from(r0 (g:=fun k=>(gQ x.aG.l a b f k).1) cN).symm,show max (gw (g2 a b f) ((bj (cm a b)).take i)) (g2 a b f k)=(gw (g2 a b f) ((bj (cm a b)).take (i+1)))from(r0 cN).symm]
   exact⟨[aa ay (ft x a b f) 343,aa aM [U 0,U 0] 190,aa bw [.bool false] 4,aa b9 [U (gw (fun k=>(gQ x.aG.l a b f k).1) ((bj (cm a b)).take (i+1)))] 3,aa dK [U (gw (g2 a b f) ((bj (cm a b)).take (i+1)))] 3,K,aq],_,aC,⟨fun y aZ=>by rw [List.take_add_one,cN]at aZ;rcases List.mem_append.1 aZ with q|q;exact cR y q;simp at q;subst q;exact ab,rfl⟩⟩
  skip
  refine lC rfl dr (oB rfl rfl rfl ar ae pH) ?_
  refine c7 [103,107,109,99] ?_
  rw [show max (gw (fun k=>(gQ x.aG.l a b f k).1) ((bj (cm a b)).take i)) (gQ x.aG.l a b f k).1=(gw (fun k=>(gQ x.aG.l a b f k).1) ((bj (cm a b)).take (i+1)))from(r0 (g:=fun k=>(gQ x.aG.l a b f k).1) cN).symm,show max (gw (g2 a b f) ((bj (cm a b)).take i)) (g2 a b f k)=(gw (g2 a b f) ((bj (cm a b)).take (i+1)))from(r0 cN).symm]
  exact⟨[aa ay (ft x a b f) 343,aa aM [U 0,U 0] 190,aa bw [.bool false] 4,aa b9 [U (gw (fun k=>(gQ x.aG.l a b f k).1) ((bj (cm a b)).take (i+1)))] 3,aa dK [U (gw (g2 a b f) ((bj (cm a b)).take (i+1)))] 3,K,aq],_,aC,⟨fun y aZ=>by rw [List.take_add_one,cN]at aZ;rcases List.mem_append.1 aZ with q|q;exact cR y q;simp at q;subst q;exact ab,rfl⟩⟩
 ·intro c0 aQ bt
  obtain⟨cR,rfl⟩:=bt
  rw [List.length_map,List.take_length]
  rw [List.length_map,List.take_length]at cR
  refine cU ?_
  refine cc (show Take [du c0] _ _ from aC) (zA rfl rfl rfl ar ar ae ae (by rfl)) ?_
  rw [show(uC x.aG.l a b f)=_ from if_pos (List.all_eq_true.2 fun k aj=>by rw [cR k aj];rfl)]
  exact bA
 intro c0 c i aQ ak h
 obtain⟨rfl,⟨k,Eh,jm⟩,rfl⟩:=h
 refine cU ?_
 refine cc (show Take [du c0] _ _ from aC) (zA rfl rfl rfl ar ar ae ae (by rfl)) ?_
 rw [show(uC x.aG.l a b f)=((0,0),false)from if_neg (fun q=>by have:=List.all_eq_true.1 q k Eh;rw [jm]at this;cases this)]
 exact bA
theorem Yw(x:bQ)(av:x.In K)(s:BitVec 32){aq:ao B}(bc:dL aq)(aD:dS aq):aS B 191 [x.v,aI s.toNat] [K,aq] (fun v S=>v=U (GU x.aG.l s)∧S=[K,aq]):=by
 refine bD 24 Tryz.func191 fun a4 ax=>?_
 refine fe (au:=(bJ x)) fun ay=>?_
 refine da fun aM=>?_
 refine cA (ps s) ?_
 rintro _ _ ⟨hk,rfl,rfl⟩
 refine cU ?_
 rw [show(aa aM [U 0] 3:ao B)=aa aM [U (oS (h2 x.aG.l ((bj s).take 0)))] 3 from rfl]
 refine kh (own:=[aa hk [aI s.toNat] 158,aq]) (aP:=[aa ay (bJ x) 41,aa aM [U (oS (h2 x.aG.l ((bj s).take 0)))] 3,K]) rfl e2 (pg (K:=aq) hk s bc) (fun i S=>S=[aa ay (bJ x) 41,aa aM [U (oS (h2 x.aG.l ((bj s).take i)))] 3,K]) (fun c i S=>False) (show Take ([aa hk [aI s.toNat] 158,aq,aa ay (bJ x) 41,aa aM [U (oS (h2 x.aG.l ((bj s).take 0)))] 3,K]) _ _ from aC) (rfl) rfl (fun x av=>by obtain⟨y,_,rfl⟩:=List.mem_map.1 av;rfl) ?_ ?_ ?_
 ·intro cu rec jF i aQ ak bt
  obtain rfl:=bt
  rw [List.length_map]at ak
  obtain⟨k,cN⟩:∃k,(bj s)[i]?=some k:=⟨_,List.getElem?_eq_getElem ak⟩
  rw [m6 cN]
  obtain⟨qf,Ee,ED⟩:=lO.1 (List.mem_of_getElem? cN)
  have et:=x.aG.small
  refine ah ?_
  refine⟨rfl,_,_,.cons ar (Take.self _),fun h1=>?_⟩
  refine ah ?_
  refine aT ?_ ?_<;>intro ab
  ·obtain⟨e,bh⟩:∃e,x.aG.l[k.toNat]?=some e:=⟨_,List.getElem?_eq_getElem al⟩
   refine c8 [aa ay (bJ x) 41,aa aM [U (oS (h2 x.aG.l ((bj s).take i)))] 3,K] ae aC ?_
   refine aN [0,1,2,3] ?_
   refine cy 4 rfl (h7 (j:=k.toNat) rfl rfl ae (x.aG).en (show k=((k.toNat:Nat):Int)by omega) al rfl) ?_
   refine aN [5] ?_
   refine bs 6 rfl (eO (aW:=cg) (aH:=11) (i:=k.toNat) (k:=0) (fun _=>rfl) rfl ar av.aG ae bh rfl) ?_
   refine c7 [7,108,99] ?_
   rw [show max (oS (h2 x.aG.l ((bj s).take i))) (e 0)=(oS (h2 x.aG.l ((bj s).take (i+1))))from by rw [xU cN,bh];exact(Wb _ _).symm]
   exact⟨[aa ay (bJ x) 41,aa aM [U (oS (h2 x.aG.l ((bj s).take (i+1))))] 3,K],_,aC,rfl⟩
  rw [show(oS (h2 x.aG.l ((bj s).take i)))=(oS (h2 x.aG.l ((bj s).take (i+1))))from by rw [xU cN,List.getElem?_eq_none_iff.2 al];simp]
  exact⟨[aa ay (bJ x) 41,aa aM [U (oS (h2 x.aG.l ((bj s).take (i+1))))] 3,K],_,aC,rfl⟩
 ·intro c0 aQ bt
  obtain rfl:=bt
  rw [List.length_map,List.take_length]
  refine cU ?_
  refine cc (show Take [du c0] _ _ from aC) (zl rfl rfl) ?_
  exact bA
 intro c0 c i aQ ak h
 exact h.elim
theorem Yx(x:bQ)(av:x.In K)(i:Nat)(e:Nat→Int)(he:x.a0.l[i]?=some e)(eK:tl x.aG.l x.cG (cw x.c (e 0)) (cw x.c (e 1)) (fun r=>e (3+r))){aq:ao B}(bc:dL aq)(aD:dS aq):aS B 123 [x.v,U (i:Int)] [K,aq] (fun v S=>v= .tuple #[.agg (gr (eZ x.c e).1).toArray,.bool (eZ x.c e).2]∧S=[K,aq]):=by
 refine dn 69 Tryz.func123 fun a4 ax=>?_
 have er:=(List.getElem?_eq_some_iff.1 he).1
 have yy:=x.a0.small
 refine ah ?_
 refine dt (au:=(bJ x)) fun ay=>?_
 refine ds fun aM=>?_
 refine kZ ?_
 refine cC ?_ ?_<;>intro ab
 ·omega
 refine aT ?_ ?_<;>intro af
 ·omega
 refine aA (hN (aW:=cS) (aH:=23) (i:=i) (fun _=>rfl) rfl ar av.a0 ae he) ?_
 refine ds fun bw=>?_
 refine gK ?_
 refine cM (bJ x) ?_
 refine ah ?_
 refine dA (GS x av i e he) ?_
 refine ds fun b9=>?_
 refine ho ?_
 refine cv (U (e 2)) ?_
 refine ah ?_
 refine aT ?_ ?_<;>intro az
 ·refine c8 [aa ay (bJ x) 41,aa b9 (kv (cw x.c (e 0)) (cw x.c (e 1))) 338] ae aC ?_
  refine bs 0 rfl (dw (bx:=(bJ x)) rfl ar ae rfl (by rfl)) ?_
  refine bs 1 rfl (dw (bx:=kv (cw x.c (e 0)) (cw x.c (e 1))) rfl ar ae rfl (by rfl)) ?_
  refine aN [102] ?_
  refine gu (Yt (cw x.c (e 0)) (cw x.c (e 1))) ?_
  refine e6 3 (Ys x av (uB (cw x.c (e 0)) (cw x.c (e 1))) bc aD) ?_
  refine aN [4] ?_
  refine cy 5 rfl (fx (v:=U (s4 x.aG.l (uB (cw x.c (e 0)) (cw x.c (e 1)))).1) rfl) ?_
  refine cy 6 rfl (fx (v:= .bool (s4 x.aG.l (uB (cw x.c (e 0)) (cw x.c (e 1)))).2) rfl) ?_
  refine c7 [7,8,99] ?_
  refine cc (.nil _) (hc rfl rfl ar ae (by rfl) rfl) ?_
  rw [show(eZ x.c e)=(((s4 x.aG.l (uB (cw x.c (e 0)) (cw x.c (e 1)))).1,0),(s4 x.aG.l (uB (cw x.c (e 0)) (cw x.c (e 1)))).2)from by unfold eZ;rw [if_pos az]]
  exact bA
 refine aT ?_ ?_<;>intro a5
 ·refine c8 [aa ay (bJ x) 41,aa b9 (kv (cw x.c (e 0)) (cw x.c (e 1))) 338] ae aC ?_
  refine bs 0 rfl (dw (bx:=(bJ x)) rfl ar ae rfl (by rfl)) ?_
  refine bs 1 rfl (dw (bx:=kv (cw x.c (e 0)) (cw x.c (e 1))) rfl ar ae rfl (by rfl)) ?_
  refine aN [102] ?_
  refine gu (rZ (cw x.c (e 0)) (cw x.c (e 1))) ?_
  refine e6 3 (Yw x av (cm (cw x.c (e 0)) (cw x.c (e 1))) bc aD) ?_
  refine c7 [4,105,6,99] ?_
  refine cc (.nil _) (hc rfl rfl ar ae (by rfl) rfl) ?_
  rw [show(eZ x.c e)=(((GU x.aG.l (cm (cw x.c (e 0)) (cw x.c (e 1)))),0),true)from by unfold eZ;rw [if_neg az,if_pos a5]]
  exact bA
 refine bX ?_ ?_<;>intro cd
 ·refine dW ?_
  refine cM (bJ x) ?_
  refine dW ?_
  refine cM (eG 16 (fun r=>e (3+r))) ?_
  refine dA (aan x av i e he (fun r=>e (3+r)) bc aD) ?_
  refine ct ?_
  refine bH (.agg (ft x (cw x.c (e 0)) (cw x.c (e 1)) (fun r=>e (3+r))).toArray) ?_
  refine bH (.bool true) ?_
  refine ds fun dK=>?_
  refine ra ?_
  refine cM (ft x (cw x.c (e 0)) (cw x.c (e 1)) (fun r=>e (3+r))) ?_
  refine dA (Yv x av (cw x.c (e 0)) (cw x.c (e 1)) (fun r=>e (3+r)) eK bc aD) ?_
  refine bH (.agg (gr (uC x.aG.l (cw x.c (e 0)) (cw x.c (e 1)) (fun r=>e (3+r))).1).toArray) ?_
  refine bH (.bool (uC x.aG.l (cw x.c (e 0)) (cw x.c (e 1)) (fun r=>e (3+r))).2) ?_
  refine ah ?_
  refine cc (.nil _) (hc rfl rfl ar ae (by rfl) rfl) ?_
  rw [show(eZ x.c e)=(uC x.aG.l (cw x.c (e 0)) (cw x.c (e 1)) (fun r=>e (3+r)))from by unfold eZ;rw [if_neg az,if_neg a5,if_pos cd]]
  exact bA
 refine ah ?_
 refine cc (.nil _) (hc rfl rfl ar ae (by rfl) rfl) ?_
 rw [show(eZ x.c e)=((0,0),false)from by unfold eZ;rw [if_neg az,if_neg a5,if_neg cd]]
 exact bA
abbrev uD(r:ai (Nat→Int)):List Value:=[aw r]
abbrev uE(a:ai (ai (Nat→Int))):ao B:=cr a 261 1 uD
abbrev s5(a:ai (Int×Int)):ao B:=cr a 190 2 gr
abbrev uF(l:List (ai (Nat→Int))):List (ao B):=l.reverse.map r7
def iU(c:dG):Int:=if(iS c).2=0 then(if(c.ba.all fun p=>rR c.aG p.1)=true then(if(c.a0.all fun e=>(eZ c e).2)=true then 0 else 190)else 180)else(iS c).2
structure ea where
  ba:ai (ai (Nat→Int))
  a0:ai (Int×Int)
structure lS(c:dG)(o:ea):Prop where
  m:o.ba.l.map (fun r=>r.l)=c.ba.map fun p=>Dm c.aG p.1
  e:o.a0.l=c.a0.map fun e=>(eZ c e).1
  gP:o.ba.Own
  vq:o.a0.Own
  ro:∀r∈o.ba.l,r.Own
abbrev ea.v(o:ea):Value:= .agg #[aw o.ba,aw o.a0]
def kQ(o:ea):List (ao B):=[uE o.ba,s5 o.a0]++uF o.ba.l
theorem KP{k:Int}:∀n:Nat,hasB (allM n) k=true→k<n
  |0,h=>by simp [allM,hasB]at h
  |n+1,h=>by
    rw [allM,sN,Bool.or_eq_true]at h
    rcases h with h|h
    · have:=KP n h;omega
    · rw [qV]at h;simp at h;omega
theorem EW{c:dG}(h:qw c){m k:Int}(bb:hasB (cw c m) k=true):k<(c.aG.length:Int):=by
  unfold cw at bb
  split at bb
  · simp [hasB]at bb
  · split at bb
    · rename_i p aE
      have ab:=(h.eT p (List.mem_of_getElem? aE)).1
      have af:=congrArg (fun b=>hasB b k) ab
      simp only [vx]at af
      rw [bb,show hasB 0#32 k=false by simp [hasB]]at af
      simp at af
      exact KP _ af
    · simp [hasB]at bb
theorem qw.adG{c:dG}(h:qw c){e:Nat→Int}(he:e∈c.a0):tl c.aG c.cG (cw c (e 0)) (cw c (e 1)) (fun r=>e (3+r)):=by
 refine⟨h.bf,h.t.2,fun k aj=>?_,fun i ak=>?_⟩
 ·unfold cm at aj
  simp only [sN,vx,vG,Bool.or_eq_true,Bool.and_eq_true]at aj
  rcases aj with(aj|aj)|aj
  ·exact EW h aj.1
  ·exact EW h aj.1
  exact EW h aj.1
 have:=(h.oQ he).of i ak
 unfold Aj at this;exact⟨this.1,this.2.1⟩
theorem zadm(x:bQ)(av:x.In K){aq:ao B}(bc:dL aq)(aD:dS aq):aS B 73 [x.v] [K,aq] (fun v S=>∃(o:ea) (z:Int),(iU x.c=0→lS x.c o)∧v= .tuple #[o.v,U z,U (iU x.c)]∧S=[all (kQ o),K,aq]):=by
 refine dn 76 Tryz.func73 fun a4 ax=>?_
 have j9:=x.ba.small
 have yy:=x.a0.small
 refine ah ?_
 refine dt (au:=(bJ x)) fun ay=>?_
 refine ds fun aM=>?_
 refine ho ?_
 refine cM (bJ x) ?_
 refine dA (C2 x av) ?_
 refine ct ?_
 refine bH (U (iS x.c).1) ?_
 refine bH (U (iS x.c).2) ?_
 refine ah ?_
 refine bX ?_ ?_<;>intro ab
 ·refine dW ?_
  refine nR uD 261 1 ?_
  refine nR gr 190 2 ?_
  refine kS (jv (l:=[uE (ai.bG:ai (ai (Nat→Int))),s5 (ai.bG:ai (Int×Int))]) aC) ?_
  refine ah ?_
  refine cc (.nil _) (BT rfl rfl ar ae (by rfl) rfl rfl) ?_
  have ek:iU x.c=(iS x.c).2:=by unfold iU;rw [if_neg ab]
  exact⟨[all (kQ ⟨ai.bG,ai.bG⟩),K,aq],⟨⟨ai.bG,ai.bG⟩,_,⟨fun q=>absurd (ek.symm.trans q) (by first|decide|assumption),by rw [ek];rfl,rfl⟩⟩,_,bq⟩
 have aj:=xT ab
 have gO:x5 x.aG.l x.cG:=aj.bf
 have PD:x.ba.l.length≤8:=by have:=aj.m;rw [show x.c.ba.length=x.ba.l.length from List.length_map _]at this;omega
 have Oc:x.a0.l.length≤24:=aj.e
 refine ah ?_
 refine ds fun bw=>?_
 refine wc ?_
 refine hy uD 261 1 ?_
 refine td um ?_
 refine dH (α:=Nat×ai (ai (Nat→Int))) (fun⟨i,cI⟩=>i≤x.ba.l.length∧cI.l.map (fun r=>r.l)=(x.ba.l.take i).map (fun m=>Dm x.aG.l m.aG)∧cI.Own∧(∀r∈cI.l,r.Own)∧∀m∈x.ba.l.take i,(rR x.aG.l m.aG)=true) (fun⟨i,cI⟩=>[(29,U (i:Int)),(1,ag ay),(2,ag aM),(3,U 0),(4,U 0),(7,ag bw),(28,U (x.ba.l.length:Int))]) (fun⟨i,cI⟩=>[aa ay (bJ x) 41,aa aM [.slice none 0 0,.slice none 0 0] 164,aa bw [aw cI,.slice none 0 0] 164,uE cI,all (uF cI.l),K,aq]) (fun⟨i,cI⟩=>x.ba.l.length-i) (0,ai.bG) ?_ dD bq ?_
 ·exact⟨Nat.zero_le _,rfl,ai.fY,fun r bk=>(by cases bk),fun m hm=>(by cases hm)⟩
 rintro⟨i,cI⟩ ⟨ak,ns,tg,Oe,lb⟩
 dsimp only
 have hh:cI.l.length≤8:=by rw [←List.length_map (f:=fun r:ai (Nat→Int)=>r.l),ns,List.length_map,List.length_take];omega
 refine ah ?_
 refine bX ?_ ?_<;>intro af
 ·obtain⟨m,hm⟩:∃m,x.ba.l[i]?=some m:=⟨_,List.getElem?_eq_getElem al⟩
  have AT:(cw x.c (i:Int))=m.aG:=Fa al (by rw [Int.toNat_natCast];exact hm)
  refine ah ?_
  refine c8 [aa ay (bJ x) 41] ae aC ?_
  refine bs 0 rfl (dw (bx:=(bJ x)) rfl ar ae rfl (by rfl)) ?_
  refine bs 1 rfl (dw (bx:=(bJ x)) rfl ar ae rfl (by rfl)) ?_
  refine aN [2] ?_
  refine ky 3 (sW x av (i:Int)) ?_
  refine jU 4 (Yr x av (cw x.c (i:Int)) gO bc aD) ?_
  rintro _ _ ⟨r,z,⟨PL,pA⟩,rfl,rfl⟩
  simp only [List.cons_append,List.nil_append]
  refine fV ?_
  refine aN [5] ?_
  refine cy 6 rfl (fx (v:=aw r) rfl) ?_
  refine cy 7 rfl (fx (v:=U z) rfl) ?_
  refine cy 8 rfl (fx (v:= .bool (rR x.aG.l (cw x.c (i:Int)))) rfl) ?_
  refine c7 [9,10,11,99] ?_
  refine bX ?_ ?_<;>intro az
  ·refine dW ?_
   refine nR uD 261 1 ?_
   refine nR gr 190 2 ?_
   refine kS (jv (l:=[uE (ai.bG:ai (ai (Nat→Int))),s5 (ai.bG:ai (Int×Int))]) aC) ?_
   refine ah ?_
   refine cc (.nil _) (BT rfl rfl ar ae (by rfl) rfl rfl) ?_
   have ek:iU x.c=180:=by unfold iU;rw [if_pos ab,if_neg (fun q=>by have:=List.all_eq_true.1 q (kq m) (List.mem_map.2 ⟨m,List.mem_of_getElem? hm,rfl⟩);rw [show rR x.c.aG (kq m).1=rR x.aG.l m.aG from rfl, ←AT,az]at this;cases this)]
   exact⟨[all (kQ ⟨ai.bG,ai.bG⟩),K,aq],⟨⟨ai.bG,ai.bG⟩,_,⟨fun q=>absurd (ek.symm.trans q) (by first|decide|assumption),by rw [ek];rfl,rfl⟩⟩,_,bq⟩
  refine gK ?_
  refine cv (aw cI) ?_
  refine ah ?_
  refine js (au:=([r]:List (ai (Nat→Int))).flatMap uD) .no rfl ae bu bu (by rfl) (by rfl) rfl rfl (fun b9=>?_)
  refine ma (aW:=uD) (c:=cI) (b:=ai.lit b9 [r] (by simp)) .no rfl rfl ae ar (show Out (aa b9 (([r]:List (ai (Nat→Int))).flatMap uD) 261) _ _ from ar) hF (fun _=>rfl) (fun _=>rfl) (by show cI.l.length+1≤_;omega) (by show(cI.l.length+1)*_≤_;omega) rfl (fun c2 gL jQ=>?_)
  refine ho ?_
  refine kS (FJ (r7 r) aC) ?_
  refine ah ?_
  rw [show(all (r7 r::uF cI.l):ao B)=all (uF c2.l)from by rw [gL];unfold uF;rw [List.reverse_append];rfl]
  refine eg (i+1,c2) ?_ ?_ ?_ ?_
  ·(try dsimp only);exact⟨by omega,by rw [gL,List.map_append,ns,List.take_add_one,hm,List.map_append];show _++[r.l]=_++[Dm x.aG.l m.aG];rw [PL az,AT],jQ,fun y aZ=>by(rw [gL]at aZ;rcases List.mem_append.1 aZ with q|q;exact Oe y q;obtain rfl:=List.mem_singleton.1 q;exact pA),fun y aZ=>by(rw [List.take_add_one,hm]at aZ;rcases List.mem_append.1 aZ with q|q;exact lb y q;simp at q;subst q;rw [←AT];exact az)⟩
  ·(try dsimp only);omega
  ·refine⟨?_,?_,?_,?_,?_,?_,?_,trivial⟩<;>rfl
  (try dsimp only);exact⟨_,bq⟩
 obtain rfl:i=x.ba.l.length:=by omega
 rw [List.take_of_length_le (Nat.le_refl _)]at ns lb
 have Nm:(x.c.ba.all fun p=>rR x.c.aG p.1)=true:=List.all_eq_true.2 (fun p aE=>by obtain⟨m,hm,rfl⟩:=List.mem_map.1 aE;exact lb m hm)
 refine uj ?_
 refine tS ?_
 refine tU ?_
 refine tT ?_
 refine ik ?_
 refine dZ ?_
 refine dZ ?_
 refine fl ?_
 refine aA (kf ae) ?_
 refine aA (ed ae) ?_
 refine aA (D1 rfl ae) ?_
 refine aA (dh rfl) ?_
 refine hd ?_
 refine qY ?_
 refine hy gr 190 2 ?_
 refine dH (α:=Nat×ai (Int×Int)) (fun⟨i,ce⟩=>i≤x.a0.l.length∧ce.l=(x.a0.l.take i).map (fun e=>(eZ x.c e).1)∧ce.Own∧∀e∈x.a0.l.take i,(eZ x.c e).2=true) (fun⟨i,ce⟩=>[(55,U (i:Int)),(1,ag ay),(2,ag aM),(3,U 0),(4,U 0),(7,ag bw),(54,U (x.a0.l.length:Int))]) (fun⟨i,ce⟩=>[aa ay (bJ x) 41,aa aM [.slice none 0 0,.slice none 0 0] 164,aa bw [aw cI,aw ce] 164,uE cI,all (uF cI.l),s5 ce,K,aq]) (fun⟨i,ce⟩=>x.a0.l.length-i) (0,ai.bG) ?_ dD bq ?_
 ·exact⟨Nat.zero_le _,rfl,ai.fY,fun e he=>(by cases he)⟩
 rintro⟨i,ce⟩ ⟨ak,hi,wj,GV⟩
 dsimp only
 have ael:ce.l.length≤24:=by rw [hi,List.length_map,List.length_take];omega
 refine cW ?_
 refine bX ?_ ?_<;>intro a5
 ·obtain⟨e,he⟩:∃e,x.a0.l[i]?=some e:=⟨_,List.getElem?_eq_getElem al⟩
  refine kk ?_
  refine ik ?_
  refine dZ ?_
  refine qY ?_
  refine dZ ?_
  refine fl ?_
  refine aA (dh rfl) ?_
  refine aA (dh rfl) ?_
  refine hd ?_
  refine dZ ?_
  refine fl ?_
  refine aA (dw (bx:=(bJ x)) rfl ar ae rfl (by rfl)) ?_
  refine ah ?_
  refine dA (Yx x av i e he (aj.adG (List.mem_of_getElem? he)) bc aD) ?_
  refine ct ?_
  refine bH (.agg (gr (eZ x.c e).1).toArray) ?_
  refine bH (.bool (eZ x.c e).2) ?_
  refine da fun dK=>?_
  refine bX ?_ ?_<;>intro cd
  ·refine dW ?_
   refine nR uD 261 1 ?_
   refine nR gr 190 2 ?_
   refine kS (jv (l:=[uE (ai.bG:ai (ai (Nat→Int))),s5 (ai.bG:ai (Int×Int))]) aC) ?_
   refine ah ?_
   refine cc (.nil _) (BT rfl rfl ar ae (by rfl) rfl rfl) ?_
   have ek:iU x.c=190:=by unfold iU;rw [if_pos ab,if_pos Nm,if_neg (fun q=>by have:=List.all_eq_true.1 q e (List.mem_of_getElem? he);rw [cd]at this;cases this)]
   exact⟨[all (kQ ⟨ai.bG,ai.bG⟩),K,aq],⟨⟨ai.bG,ai.bG⟩,_,⟨fun q=>absurd (ek.symm.trans q) (by first|decide|assumption),by rw [ek];rfl,rfl⟩⟩,_,bq⟩
  refine gK ?_
  refine cv (aw ce) ?_
  refine cM (gr (eZ x.c e).1) ?_
  refine js (au:=([(eZ x.c e).1]:List (Int×Int)).flatMap gr) .no rfl ae bu bu (by rfl) (by rfl) rfl rfl (fun jE=>?_)
  refine ma (aW:=gr) (c:=ce) (b:=ai.lit jE [(eZ x.c e).1] (by simp)) .no rfl rfl ae ar (show Out (aa jE (([(eZ x.c e).1]:List (Int×Int)).flatMap gr) 190) _ _ from ar) hF (fun _=>rfl) (fun _=>rfl) (by show ce.l.length+1≤_;omega) (by show(ce.l.length+1)*_≤_;omega) rfl (fun c2 gL jQ=>?_)
  refine ah ?_
  refine eg (i+1,c2) ?_ ?_ ?_ ?_
  ·(try dsimp only);exact⟨by omega,by rw [gL,hi,List.take_add_one,he,List.map_append];rfl,jQ,fun y aZ=>by(rw [List.take_add_one,he]at aZ;rcases List.mem_append.1 aZ with q|q;exact GV y q;simp at q;subst q;exact cd)⟩
  ·(try dsimp only);omega
  ·refine⟨?_,?_,?_,?_,?_,?_,?_,trivial⟩<;>rfl
  (try dsimp only);exact⟨_,bq⟩
 obtain rfl:i=x.a0.l.length:=by omega
 rw [List.take_of_length_le (Nat.le_refl _)]at hi GV
 have Yy:(x.c.a0.all fun e=>(eZ x.c e).2)=true:=List.all_eq_true.2 GV
 refine uj ?_
 refine tS ?_
 refine tU ?_
 refine tT ?_
 refine ik ?_
 refine dZ ?_
 refine fl ?_
 refine kS (CS (l:=[uE cI,s5 ce]) (m:=uF cI.l) (show Take [uE cI,s5 ce,all (uF cI.l)] _ _ from aC)) ?_
 refine aA (dw rfl ar ae rfl (by rfl)) ?_
 refine fw (hA rfl rfl rfl ar ae rfl rfl) ?_
 refine aA (dh rfl) ?_
 refine aA (dh rfl) ?_
 refine hd ?_
 refine rS ?_
 refine cc (.nil _) (BT rfl rfl ar ae (by rfl) rfl rfl) ?_
 have ek:iU x.c=0:=by unfold iU;rw [if_pos ab,if_pos Nm,if_pos Yy]
 exact⟨[all (kQ ⟨cI,ce⟩),K,aq],⟨⟨cI,ce⟩,0,⟨fun _=>⟨by rw [ns];show _=(x.ba.l.map kq).map _;rw [List.map_map];rfl,hi,tg,wj,Oe⟩,by rw [ek];rfl,rfl⟩⟩,_,bq⟩
abbrev Of(y:Nat→Int):Prop:=1≤y 0∧y 0≤16∧1≤y 1∧y 1≤3
abbrev yH(b:Nat)(y:Nat→Int):ao B:=aa b [U (y 0),U (y 1),.slice none 0 0,U 0] 356
abbrev z4(b:Nat):List Value:=[ag b]
abbrev mO(a:ai Nat):ao B:=cr a 289 1 z4
def oE(bV:List Nat)(cO:List (Nat→Int)):List (ao B):=(bV.zip cO).reverse.map fun p=>yH p.1 p.2
theorem Uk{bV:List Nat}{cO:List (Nat→Int)}{i b:Nat}{y:Nat→Int}(h:bV.length=i)(ak:cO[i]?=some y):(oE (bV++[b]) (cO.take (i+1)):List (ao B))=yH b y::oE bV (cO.take i):=by
  have aJ:=(List.getElem?_eq_some_iff.1 ak).1
  unfold oE
  rw [List.take_add_one,ak,List.zip_append (by rw [List.length_take];omega),List.reverse_append];rfl
theorem Wc(y:Nat→Int):aS B 202 [.agg (kt y).toArray] [] (fun v S=>v= .bool (decide (Of y))∧S=[]):=by
 refine bD 21 Tryz.func202 fun a4 ax=>?_
 refine fe (au:=kt y) fun ay=>?_
 refine cC ?_ ?_<;>intro ab
 ·refine cC ?_ ?_<;>intro af
  ·refine cC ?_ ?_<;>intro az
   ·exact bI ⟨congrArg Value.bool (by first|exact decide_eq_decide.2 (by constructor<;>intro h<;>omega)|exact(decide_eq_false al).symm),rfl⟩
   exact bI ⟨congrArg Value.bool (by first|exact decide_eq_decide.2 (by constructor<;>intro h<;>omega)|exact(decide_eq_false al).symm),rfl⟩
  exact bI ⟨congrArg Value.bool (by first|exact decide_eq_decide.2 (by constructor<;>intro h<;>omega)|exact(decide_eq_false al).symm),rfl⟩
 exact bI ⟨congrArg Value.bool (by first|exact decide_eq_decide.2 (by constructor<;>intro h<;>omega)|exact(decide_eq_false al).symm),rfl⟩
theorem aap(y:Nat→Int)(aZ:Of y):aS B 133 [.agg (kt y).toArray] [] (fun v S=>∃b:Nat,v= .tuple #[ag b,U 0]∧S=[yH b y]):=by
 refine bD 10 Tryz.func133 fun a4 ax=>?_
 refine dt (au:=kt y) fun ay=>?_
 refine ho ?_
 refine cM (kt y) ?_
 refine fL (Wc y) ?_
 refine bX ?_ ?_<;>intro ab
 ·exact absurd aZ cl
 refine gK ?_
 refine cM (kt y) ?_
 refine ah ?_
 refine fe (au:=[U (y 0),U (y 1),.slice none 0 0,U 0]) fun aM=>?_
 exact⟨[yH aM y],⟨aM,rfl,rfl⟩,_,bq⟩
theorem Nn(q:ai (Nat→Int))(bP:c1 K q.bl (q.l.flatMap kt))(a5:uQ q.l):aS B 88 [aw q] [K] (fun v S=>∃a:ai Nat,(a.l.length=q.l.length∧a.Own)∧v= .tuple #[aw a,U 0]∧S=[mO a,all (oE a.l q.l),K]):=by
 refine bD 32 Tryz.func88 fun a4 ax=>?_
 refine bX ?_ ?_<;>intro ab
 ·have:=a5.1;omega
 refine ra ?_
 refine hy z4 289 1 ?_
 refine td um ?_
 refine dH (α:=Nat×ai Nat) (fun⟨i,a⟩=>i≤q.l.length∧a.l.length=i∧a.Own) (fun⟨i,a⟩=>[(14,U (i:Int)),(4,aw a),(0,aw q),(2,.slice none 0 0),(3,U 0),(12,aw q),(13,U (q.l.length:Int))]) (fun⟨i,a⟩=>[mO a,all (oE a.l (q.l.take i)),K]) (fun⟨i,a⟩=>q.l.length-i) (0,ai.bG) ?_ dD bq ?_
 ·exact⟨Nat.zero_le _,rfl,ai.fY⟩
 rintro⟨i,a⟩ ⟨ak,dB,bT⟩
 dsimp only
 have yw:=a5.1
 refine ah ?_
 refine aT ?_ ?_<;>intro af
 ·obtain⟨y,bh⟩:∃y,q.l[i]?=some y:=⟨_,List.getElem?_eq_getElem al⟩
  refine ah ?_
  refine aA (hN (aW:=kt) (aH:=2) (i:=i) (fun _=>rfl) rfl ar bP ae bh) ?_
  refine ds fun ay=>?_
  refine gK ?_
  refine cM (kt y) ?_
  refine cA (aap y (a5.2 y (List.mem_of_getElem? bh))) ?_
  rintro _ _ ⟨b,rfl,rfl⟩
  simp only [List.cons_append,List.nil_append]
  refine ct ?_
  refine bH (ag b) ?_
  refine bH (U 0) ?_
  refine jT ?_
  refine aT ?_ ?_<;>intro az
  ·first|cases az|exact absurd trivial az
  refine js (au:=([b]:List Nat).flatMap z4) .no rfl ae bu bu (by rfl) (by rfl) rfl rfl (fun aM=>?_)
  refine ma (aW:=z4) (c:=a) (b:=ai.lit aM [b] (by simp)) .no rfl rfl ae ar (show Out (aa aM (([b]:List Nat).flatMap z4) 289) _ _ from ar) hF (fun _=>rfl) (fun _=>rfl) (by show a.l.length+1≤_;omega) (by show(a.l.length+1)*_≤_;omega) rfl (fun c2 gL jQ=>?_)
  refine cW ?_
  refine kS (FJ (yH b y) aC) ?_
  refine ah ?_
  rw [show(all (yH b y::oE a.l (q.l.take i)):ao B)=all (oE c2.l (q.l.take (i+1)))from by rw [gL];exact congrArg all (Uk dB bh).symm]
  refine eg (i+1,c2) ?_ ?_ ?_ ?_
  ·(try dsimp only);exact⟨by omega,by rw [gL,List.length_append,dB];rfl,jQ⟩
  ·(try dsimp only);omega
  ·refine⟨?_,?_,?_,?_,?_,?_,?_,trivial⟩<;>rfl
  (try dsimp only);exact⟨_,bq⟩
 obtain rfl:i=q.l.length:=by omega
 refine ah ?_
 rw [List.take_of_length_le (Nat.le_refl _)]
 exact⟨[mO a,all (oE a.l q.l),K],⟨a,⟨dB,bT⟩,rfl,rfl⟩,_,bq⟩
structure iQ where
  y:bQ
  o:ea
  mode:Int
  oQ:Int
  phase:Int
  since:Int
  now:Int
  held:Int
  op:BitVec 32
  first:Value
  many:Int
abbrev b6(e:iQ):List Value:=[U e.y.cG,aw e.y.aG,aw e.y.ba,aw e.y.a0,aw e.o.ba,aw e.o.a0,U e.mode,U e.oQ,U e.phase,U e.since,U e.now,U e.held,aI e.op.toNat,e.first,U e.many]
def tn(e:iQ):BitVec 32×BitVec 32:=match e.y.a0.l[e.oQ.toNat]? with
  |some d=>(cw e.y.c (d 0),cw e.y.c (d 1))
  |none=>(0#32,0#32)
def gn(e:iQ):BitVec 32:=if e.phase=3 then cm (tn e).1 (tn e).2 else cw e.y.c e.mode
abbrev s6(e:iQ):Prop:=∃(i:Nat) (d:Nat→Int),e.oQ=(i:Int)∧e.y.a0.l[i]?=some d
theorem LF{e:iQ}{i:Nat}{d:Nat→Int}(h:e.oQ=(i:Int))(aD:e.y.a0.l[i]?=some d):tn e=(cw e.y.c (d 0),cw e.y.c (d 1)):=by
  unfold tn;rw [h,Int.toNat_natCast,aD]
def jB(y:bQ)(o:ea):iQ:=⟨y,o,0,-1,0,0,0,-1,0#32,.pointer none,0⟩
abbrev My(x:bQ):Prop:=x.aG.l.length≤64∧x.a0.l.length≤64∧x.ba.l.length≤64∧∀m∈x.ba.l,m.q.l.length≤64
theorem KQ(p:Nat)(e:iQ)(aZ:e.y.In K)(ek:s6 e):aS B 203 [ag p] [aa p (b6 e) 288,K] (fun v S=>v= .agg (kv (tn e).1 (tn e).2).toArray∧S=[aa p (b6 e) 288,K]):=by
 refine dn 12 Tryz.func203 fun a4 ax=>?_
 obtain⟨i,d,ak,aD⟩:=ek
 refine ah ?_
 refine da fun ay=>?_
 refine c8 [aa p (b6 e) 288] ae aC ?_
 refine aN [0,1,2] ?_
 refine bs 3 rfl (dw (bx:=(bJ e.y)) rfl ar ae rfl (by rfl)) ?_
 refine aN [4,5,6,7,108] ?_
 rw [ak]
 refine lK (GS e.y aZ i d aD) ?_
 rintro _ _ ⟨rfl,rfl⟩
 simp only [List.cons_append,List.nil_append]
 refine fV ?_
 refine c7 [109,99] ?_
 refine cc (.nil _) (gA rfl rfl ar ae (by rfl)) ?_
 rw [LF ak aD]
 exact bA
theorem LG(p:Nat)(e:iQ)(aZ:e.y.In K)(ek:e.phase=3→s6 e):aS B 134 [ag p] [aa p (b6 e) 288,K] (fun v S=>v=aI (gn e).toNat∧S=[aa p (b6 e) 288,K]):=by
 refine bD 20 Tryz.func134 fun a4 ax=>?_
 refine aT ?_ ?_<;>intro ab
 ·refine dA (KQ p e aZ (ek ab)) ?_
  refine fL (rZ (tn e).1 (tn e).2) ?_
  rw [show gn e=_ from if_pos ab]
  exact bA
 refine c8 [aa p (b6 e) 288] ae aC ?_
 refine aN [0,1,2] ?_
 refine bs 3 rfl (dw (bx:=(bJ e.y)) rfl ar ae rfl (by rfl)) ?_
 refine aN [4,5,6,7] ?_
 refine e6 8 (sW e.y aZ e.mode) ?_
 refine c7 [9,99] ?_
 rw [show gn e=_ from if_neg ab]
 exact bA
theorem aaq(x:bQ)(av:x.In K)(wP:My x)(o:ea):aS B 87 [x.v,o.v] [K] (fun v S=>∃(p:Nat) (y:bQ),(y.c=x.c∧y.Own)∧v=ag p∧S=[aa p (b6 (jB y o)) 288,all (hn y),K]):=by
 refine bD 10 Tryz.func87 fun a4 ax=>?_
 refine dt (au:=(bJ x)) fun ay=>?_
 refine fe (au:=[aw o.ba,aw o.a0]) fun aM=>?_
 refine c8 [aa ay (bJ x) 41,aa aM [aw o.ba,aw o.a0] 164] ae aC ?_
 refine bs 0 rfl (dw (bx:=(bJ x)) rfl ar ae rfl (by rfl)) ?_
 refine bs 2 rfl (dw (bx:=[aw o.ba,aw o.a0]) rfl ar ae rfl (by rfl)) ?_
 refine jU 1 (Nj x av wP) ?_
 rintro _ _ ⟨y,⟨fh,st⟩,rfl,rfl⟩
 simp only [List.cons_append,List.nil_append]
 refine fV ?_
 refine aN [3,104] ?_
 refine L0 (au:=b6 (jB y o)) rfl .no rfl rfl rfl (fun vb=>?_)
 refine c7 [5,99] ?_
 exact⟨[aa vb (b6 (jB y o)) 288,all (hn y),K],⟨vb,y,⟨fh,st⟩,rfl,rfl⟩,_,bq⟩
structure eV where
  dC:Nat
  qg:BitVec 32
  y:bQ
  o:ea
  cf:Nat→Int
  gg:Nat→Int
  a9:Nat
  q:ai Nat
  act:BitVec 32
  late:Int
  aX:Value
abbrev c9(k:eV):List Value:=[ag k.dC,aI k.qg.toNat,U k.y.cG,aw k.y.aG,aw k.y.ba,aw k.y.a0,aw k.o.ba,aw k.o.a0,U (k.cf 0),U (k.cf 1),U (k.cf 2),U (k.cf 3),U (k.cf 4),U (k.cf 5),U (k.cf 6),U (k.cf 7),U (k.cf 8),U (k.cf 9),U (k.cf 10),U (k.cf 11),U (k.cf 12),U (k.cf 13),U (k.cf 14),U (k.cf 15),U (k.gg 0),U (k.gg 1),U (k.gg 2),U (k.gg 3),U (k.gg 4),U (k.gg 5),U (k.gg 6),U (k.gg 7),U (k.gg 8),U (k.gg 9),U (k.gg 10),U (k.gg 11),U (k.gg 12),U (k.gg 13),U (k.gg 14),U (k.gg 15),ag k.a9,aw k.q,aI k.act.toNat,U k.late,k.aX]
theorem Ch(bf:List (Nat→Int))(s:BitVec 32)(r:Nat):0≤x1 bf s r∧x1 bf s r≤16:=by
  unfold x1
  cases h:(List.range 16).find? (yg bf s r)with
  |none=>simp
  |some i=>have:=List.mem_range.1 (List.mem_of_find?_eq_some h);simp;omega
def g3(k:eV)(e:iQ)(s:b4):b4:=if gn e=k.act then s else vW s (fH k.y.aG.l (gn e))
theorem Mz:fP h3:=⟨fun n=>⟨Int.le_refl _,(by show(0:Int)≤32;decide)⟩,fun i _=>ai.fY,fun r _=>⟨(by show(0:Int)≤16;decide),Int.le_refl _⟩,fun i h=>by simp [hasB]at h,⟨by decide,by decide⟩,fun n a7=>by simp [hasB]⟩
theorem aar(p:Nat)(k:eV)(e:iQ)(s:b4){cs gl:ao B}(iY:k.y.In cs)(o5:e.y.In gl)(ek:e.phase=3→s6 e)(bg:fP s){aq:ao B}(bc:dL aq)(aD:dS aq):aS B 89 [ag p] [aa p (c9 k) 170,aa k.dC (cp s) 260,many 16 (cX s.aF),aa k.a9 (b6 e) 288,cs,gl,aq] (fun v S=>v= .tuple #[]∧S=[aa p (c9 {k with act:=(gn e)}) 170,aa k.dC (cp (g3 k e s)) 260,many 16 (cX s.aF),aa k.a9 (b6 e) 288,cs,gl,aq]):=by
 refine bD 29 Tryz.func89 fun a4 ax=>?_
 refine e1 (LG (K:=gl) k.a9 e o5 ek) ?_
 refine aT ?_ ?_<;>intro ab
 ·refine c8 [aa p (c9 {k with act:=(gn e)}) 170] ae aC ?_
  rw [show(aa p [ag k.dC,aI k.qg.toNat,U k.y.cG,aw k.y.aG,aw k.y.ba,aw k.y.a0,aw k.o.ba,aw k.o.a0,U (k.cf 0),U (k.cf 1),U (k.cf 2),U (k.cf 3),U (k.cf 4),U (k.cf 5),U (k.cf 6),U (k.cf 7),U (k.cf 8),U (k.cf 9),U (k.cf 10),U (k.cf 11),U (k.cf 12),U (k.cf 13),U (k.cf 14),U (k.cf 15),U (k.gg 0),U (k.gg 1),U (k.gg 2),U (k.gg 3),U (k.gg 4),U (k.gg 5),U (k.gg 6),U (k.gg 7),U (k.gg 8),U (k.gg 9),U (k.gg 10),U (k.gg 11),U (k.gg 12),U (k.gg 13),U (k.gg 14),U (k.gg 15),ag k.a9,aw k.q,aI (gn e).toNat,U k.late,k.aX] 170:ao B)=aa p (c9 {k with act:=(gn e)}) 170 from rfl]
  refine aN [0,1,2,3,4,5,6] ?_
  refine bs 7 rfl (dw (bx:=(bJ k.y)) rfl ar ae rfl (by rfl)) ?_
  refine aN [8] ?_
  refine e6 9 (D6 (kD:=cs) (K:=aq) k.y iY (gn e) bc) ?_
  refine e6 10 (Nh (K:=aq) k.dC s (fH k.y.aG.l (gn e)) bg (fun r _=>Ch _ _ _) bc aD) ?_
  refine c7 [99] ?_
  have kI:¬gn e=k.act:=fun q=>ab (by rw [q])
  rw [show g3 k e s=_ from if_neg kI]
  exact bA
 have tt:gn e=k.act:=BitVec.eq_of_toNat_eq al
 rw [show g3 k e s=s from if_pos tt,show(aa p (c9 {k with act:=(gn e)}) 170:ao B)=aa p (c9 k) 170 from by rw [tt]]
 exact bA
abbrev yI(c:Nat)(y:bQ)(o:ea)(IX adH:Value):List Value:=[ag c,aI 0,U y.cG,aw y.aG,aw y.ba,aw y.a0,aw o.ba,aw o.a0,U 0,U 0,U 0,U 0,U 0,U 0,U 0,U 0,U 0,U 0,U 0,U 0,U 0,U 0,U 0,U 0,U 0,U 0,U 0,U 0,U 0,U 0,U 0,U 0,U 0,U 0,U 0,U 0,U 0,U 0,U 0,U 0,IX,adH,aI 0,U 0,.slice none 0 0]
abbrev mX(c:Nat)(y:bQ)(o:ea)(j0:Nat)(q:ai Nat):eV:=⟨c,0#32,y,o,fun _=>0,fun _=>0,j0,q,0#32,0,.slice none 0 0⟩
theorem xx{c:dG}(h:iU c=0):(iS c).2=0:=by
  unfold iU at h;split at h
  · assumption
  · exact absurd h (by assumption)
theorem KR{x:bQ}(h:qw x.c):My x:=by
  have ab:=h.t.2;have af:=h.m.2;have az:=h.e
  rw [show x.c.ba.length=x.ba.l.length from List.length_map _]at af
  exact⟨by show x.c.aG.length≤64;omega,by show x.c.a0.length≤64;omega,by omega,fun m hm=>by have:=(h.eT (kq m) (List.mem_map.2 ⟨m,hm,rfl⟩)).2.1;show(kq m).2.length≤64;omega⟩
def xy(p:Nat)(k:eV)(e:iQ)(s:b4)(cO:List (Nat→Int)):List (ao B):=[aa p (c9 k) 170,aa k.dC (cp s) 260,many 16 (cX s.aF),aa k.a9 (b6 e) 288,all (hn k.y),all (hn e.y),all (kQ k.o),mO k.q,all (oE k.q.l cO)]
structure Og(c:dG)(k:eV)(e:iQ)(s:b4)(cO:List (Nat→Int)):Prop where
  y:k.y.c=c
  adI:k.y.Own
  adJ:e.y.c=c
  acv:e.y.Own
  o:lS c k.o
  hb:∃q,k={mX k.dC k.y k.o k.a9 q with act:=cw c 0}∧q.Own∧q.l.length=cO.length
  adK:e=jB e.y k.o
  adL:s=if cw c 0=0#32 then h3 else vW h3 (fH c.aG (cw c 0))
  cO:∃t,c.ba[0]?=some (t,cO)
def CI(c:dG)(ol:Value)(jH:ao B):Prop:=∃(p:Nat) (k:eV) (e:iQ) (s:b4) (cO:List (Nat→Int)),Og c k e s cO∧ol=ag p∧jH=all (xy p k e s cO)
theorem LH{y:bQ}{c:dG}(h:y.c=c):y.aG.l=c.aG:=by rw [←h]
theorem LI(x:bQ)(av:x.In K){aq:ao B}(bc:dL aq)(aD:dS aq):aS B 47 [x.v] [K,aq] (fun v S=>∃(ol:Value) (z:Int) (jH:ao B),((iU x.c=0→CI x.c ol jH)∧(iU x.c≠0→ol= .pointer none))∧v= .tuple #[ol,U z,U (iU x.c)]∧S=[jH,K,aq]):=by
 refine bD 52 Tryz.func47 fun a4 ax=>?_
 refine dt (au:=(bJ x)) fun ay=>?_
 refine ho ?_
 refine cM (bJ x) ?_
 refine cA (zadm x av bc aD) ?_
 rintro _ _ ⟨o,z,GW,rfl,rfl⟩
 simp only [List.cons_append,List.nil_append]
 refine ct ?_
 refine bH (.agg #[aw o.ba,aw o.a0]) ?_
 refine bH (U z) ?_
 refine bH (U (iU x.c)) ?_
 refine da fun aM=>?_
 refine bX ?_ ?_<;>intro ab
 ·refine dW ?_
  refine kS um ?_
  refine kZ ?_
  refine cc (.nil _) (Fk rfl rfl rfl rfl) ?_
  exact⟨[all [],K,aq],⟨.pointer none,z,all [],⟨fun q=>absurd q ab,fun _=>rfl⟩,rfl,rfl⟩,_,bq⟩
 have aj:=xT (xx ab)
 have ap:=GW ab
 refine dW ?_
 refine k5 (α:=Nat×bQ×Nat) (fun⟨cj,gy,p⟩=>gy.c=x.c∧gy.Own) (fun⟨cj,gy,p⟩=>[(8,ag p),(5,ag aM)]) (fun⟨cj,gy,p⟩=>[aa p (yI cj gy o (.pointer none) (.slice none 0 0)) 170,aa cj (cp h3) 260,many 16 (cX h3.aF),all (hn gy),aa aM [aw o.ba,aw o.a0] 164,all (kQ o),K,aq]) ?_ ?_
 ·skip
  refine c8 [aa ay (bJ x) 41,aa aM [aw o.ba,aw o.a0] 164] ae aC ?_
  refine bs 1 rfl (dw (bx:=(bJ x)) rfl ar ae rfl (by rfl)) ?_
  refine bs 3 rfl (dw (bx:=[aw o.ba,aw o.a0]) rfl ar ae rfl (by rfl)) ?_
  refine jU 0 (Z9) ?_
  rintro _ _ ⟨mA,rfl,rfl⟩
  simp only [List.cons_append,List.nil_append]
  refine fV ?_
  refine jU 2 (Nj x av (KR aj)) ?_
  rintro _ _ ⟨vr,⟨fh,st⟩,rfl,rfl⟩
  simp only [List.cons_append,List.nil_append]
  refine fV ?_
  refine aN [4,105] ?_
  refine L0 (au:=yI mA vr o (.pointer none) (.slice none 0 0)) rfl .no rfl rfl rfl (fun aas=>?_)
  refine aN [6,99] ?_
  exact fj (mA,vr,aas) ⟨fh,st⟩
 rintro⟨cj,gy,p⟩ ⟨rm,Am⟩
 refine ah ?_
 refine c8 [aa p (yI cj gy o (.pointer none) (.slice none 0 0)) 170,aa aM [aw o.ba,aw o.a0] 164] ae aC ?_
 refine aN [0,1,2,3] ?_
 refine bs 4 rfl (dw (bx:=(bJ gy)) rfl ar ae rfl (by rfl)) ?_
 refine bs 5 rfl (dw (bx:=[aw o.ba,aw o.a0]) rfl ar ae rfl (by rfl)) ?_
 refine jU 6 (aaq (K:=all (hn gy)) gy (kp Am) (KR (rm▸aj)) o) ?_
 rintro _ _ ⟨j0,aU,⟨Oh,Oi⟩,rfl,rfl⟩
 simp only [List.cons_append,List.nil_append]
 refine fV ?_
 refine cy 7 rfl (qh rfl) ?_
 refine cy 8 rfl (sB ae) ?_
 refine rC 9 ?_
 refine lC rfl dr (iG (k:=40) (fN:=yI cj gy o (ag j0) (.slice none 0 0)) rfl rfl rfl ar ae (by simp) rfl) ?_
 refine aN [99] ?_
 refine gD ?_
 have aat:0<gy.ba.l.length:=by have:=aj.m.1;rw [←rm,show gy.c.ba.length=gy.ba.l.length from List.length_map _]at this;exact this
 obtain⟨gG,Ei⟩:∃m,gy.ba.l[0]?=some m:=⟨_,List.getElem?_eq_getElem aat⟩
 have ty:x.c.ba[0]?=some (kq gG):=by rw [←rm];show(gy.ba.l.map kq)[0]?=_;rw [List.getElem?_map,Ei];rfl
 have lk:uQ gG.q.l:=(aj.eT (kq gG) (List.mem_of_getElem? ty)).2
 refine cW ?_
 refine aA (ed (v:=aw gy.ba) ae) ?_
 refine aA (hx (j:=0) rfl rfl ae (gy.ba).en (rfl:(0:Int)=((0:Nat):Int)) (List.getElem?_eq_some_iff.1 Ei).1 rfl) ?_
 refine ah ?_
 refine aA (eO (aW:=eI) (aH:=2) (i:=0) (k:=1) (fun _=>rfl) rfl ar (kp Am).ba ae Ei rfl) ?_
 refine cA (Nn (K:=all (hn gy)) gG.q ((kp Am).sU gG (List.mem_of_getElem? Ei)) lk) ?_
 rintro _ _ ⟨fk,⟨sn,wo⟩,rfl,rfl⟩
 simp only [List.cons_append,List.nil_append]
 refine ct ?_
 refine bH (aw fk) ?_
 refine bH (U 0) ?_
 refine dW ?_
 refine fw (iG (k:=41) (fN:=yI cj gy o (ag j0) (aw fk)) rfl rfl rfl ar ae (by simp) rfl) ?_
 refine ah ?_
 rw [show(aa p (yI cj gy o (ag j0) (aw fk)) 170:ao B)=aa p (c9 (mX cj gy o j0 fk)) 170 from rfl]
 refine dA (aar (cs:=all (hn gy)) (gl:=all (hn aU)) p (mX cj gy o j0 fk) (jB aU o) h3 (kp Am) (kp Oi) (fun q=>by cases q) Mz bc aD) ?_
 refine gD ?_
 refine kS (jv (l:=[aa p (c9 {(mX cj gy o j0 fk)with act:=gn (jB aU o)}) 170,aa cj (cp (g3 (mX cj gy o j0 fk) (jB aU o) h3)) 260,many 16 (cX h3.aF),aa j0 (b6 (jB aU o)) 288,all (hn gy),all (hn aU),all (kQ o),mO fk,all (oE fk.l gG.q.l)]) bq) ?_
 refine ho ?_
 refine cc (.nil _) (Fk rfl rfl rfl rfl) ?_
 have Oj:gn (jB aU o)=cw x.c 0:=by show(if(0:Int)=3 then _ else cw aU.c 0)=_;rw [if_neg bu,Oh,rm]
 have acw:(g3 (mX cj gy o j0 fk) (jB aU o) h3).aF=h3.aF:=by unfold g3;split<;>rfl
 have acx:all (xy (B:=B) p {(mX cj gy o j0 fk)with act:=gn (jB aU o)} (jB aU o) (g3 (mX cj gy o j0 fk) (jB aU o) h3) gG.q.l)=all [aa p (c9 {(mX cj gy o j0 fk)with act:=gn (jB aU o)}) 170,aa cj (cp (g3 (mX cj gy o j0 fk) (jB aU o) h3)) 260,many 16 (cX h3.aF),aa j0 (b6 (jB aU o)) 288,all (hn gy),all (hn aU),all (kQ o),mO fk,all (oE fk.l gG.q.l)]:=by unfold xy;rw [acw];rfl
 have acy:CI x.c (ag p) (all [aa p (c9 {(mX cj gy o j0 fk)with act:=gn (jB aU o)}) 170,aa cj (cp (g3 (mX cj gy o j0 fk) (jB aU o) h3)) 260,many 16 (cX h3.aF),aa j0 (b6 (jB aU o)) 288,all (hn gy),all (hn aU),all (kQ o),mO fk,all (oE fk.l gG.q.l)]:ao B):=⟨p,{(mX cj gy o j0 fk)with act:=gn (jB aU o)},jB aU o,(g3 (mX cj gy o j0 fk) (jB aU o) h3),gG.q.l,⟨rm,Am,Oh.trans rm,Oi,ap,⟨fk,by rw [Oj],wo,sn⟩,rfl,by unfold g3;rw [Oj];show(if cw x.c 0=0#32 then h3 else vW h3 (fH gy.aG.l (cw x.c 0)))=_;rw [LH rm],⟨gG.aG,ty⟩⟩,rfl,acx.symm⟩
 exact⟨[all [aa p (c9 {(mX cj gy o j0 fk)with act:=gn (jB aU o)}) 170,aa cj (cp (g3 (mX cj gy o j0 fk) (jB aU o) h3)) 260,many 16 (cX h3.aF),aa j0 (b6 (jB aU o)) 288,all (hn gy),all (hn aU),all (kQ o),mO fk,all (oE fk.l gG.q.l)],K,aq],⟨ag p,0,all [aa p (c9 {(mX cj gy o j0 fk)with act:=gn (jB aU o)}) 170,aa cj (cp (g3 (mX cj gy o j0 fk) (jB aU o) h3)) 260,many 16 (cX h3.aF),aa j0 (b6 (jB aU o)) 288,all (hn gy),all (hn aU),all (kQ o),mO fk,all (oE fk.l gG.q.l)],⟨fun _=>acy,fun q=>absurd ab q⟩,by rw [ab],rfl⟩,_,bq⟩
abbrev Ok:List Value:=[.bool false,U 0,U 0,U 0,U 0,.slice none 0 0,.bool false,U 0,U 0,U 0,U 0,.slice none 0 0,.bool false,U 0,U 0,U 0,U 0,.slice none 0 0,.bool false,U 0,U 0,U 0,U 0,.slice none 0 0,.bool false,U 0,U 0,U 0,U 0,.slice none 0 0,.bool false,U 0,U 0,U 0,U 0,.slice none 0 0,.bool false,U 0,U 0,U 0,U 0,.slice none 0 0,.bool false,U 0,U 0,U 0,U 0,.slice none 0 0,.bool false,U 0,U 0,U 0,U 0,.slice none 0 0,.bool false,U 0,U 0,U 0,U 0,.slice none 0 0,.bool false,U 0,U 0,U 0,U 0,.slice none 0 0,.bool false,U 0,U 0,U 0,U 0,.slice none 0 0,.bool false,U 0,U 0,U 0,U 0,.slice none 0 0,.bool false,U 0,U 0,U 0,U 0,.slice none 0 0,.bool false,U 0,U 0,U 0,U 0,.slice none 0 0,.bool false,U 0,U 0,U 0,U 0,.slice none 0 0,U 0,U 0,U 0,U 0,U 0,U 0,U 0,U 0,U 0]
abbrev uT:List Value:=[U 0,.slice none 0 0,.slice none 0 0,.slice none 0 0,.bool false,U 0,U 0,U 0,U 0,.slice none 0 0,.bool false,U 0,U 0,U 0,U 0,.slice none 0 0,.bool false,U 0,U 0,U 0,U 0,.slice none 0 0,.bool false,U 0,U 0,U 0,U 0,.slice none 0 0,.bool false,U 0,U 0,U 0,U 0,.slice none 0 0,.bool false,U 0,U 0,U 0,U 0,.slice none 0 0,.bool false,U 0,U 0,U 0,U 0,.slice none 0 0,.bool false,U 0,U 0,U 0,U 0,.slice none 0 0,.bool false,U 0,U 0,U 0,U 0,.slice none 0 0,.bool false,U 0,U 0,U 0,U 0,.slice none 0 0,.bool false,U 0,U 0,U 0,U 0,.slice none 0 0,.bool false,U 0,U 0,U 0,U 0,.slice none 0 0,.bool false,U 0,U 0,U 0,U 0,.slice none 0 0,.bool false,U 0,U 0,U 0,U 0,.slice none 0 0,.bool false,U 0,U 0,U 0,U 0,.slice none 0 0,.bool false,U 0,U 0,U 0,U 0,.slice none 0 0,U 0,U 0,U 0,U 0,U 0,U 0,U 0,U 0,U 0,U 0,.slice none 0 0,.slice none 0 0,.slice none 0 0,.slice none 0 0,.slice none 0 0,U 0,U 0,U 0,U 0,U 0,U 0,U 0,U 0,U 0,U 0,U 0,U 0,U 0,U 0,U 0,U 0,U 0,U 0,U 0,U 0,U 0,U 0,U 0,.slice none 0 0,U 0,.slice none 0 0]
abbrev tL(x:bQ):List Value:=(bJ x)
abbrev p8(x:bQ)(lt bz:ai Int):List Value:=[U x.cG,aw x.aG,aw x.ba,aw x.a0,aw lt,aw bz,U 0,U (-1),U 0,U 0,U 0,U 0,U (-1)]
theorem PN:aS B 124 [] [] (fun v S=>∃au:List Value,Fit 105 au∧v= .agg au.toArray∧S=[]):=by
 refine bD 12 Tryz.func124 fun a4 ax=>?_
 refine da fun ay=>?_
 refine da fun aM=>?_
 refine dH (α:=Nat×List Value) (fun⟨r,au⟩=>r≤8∧Fit 105 au) (fun⟨r,au⟩=>[(2,U (r:Int)),(0,ag ay),(1,ag aM)]) (fun⟨r,au⟩=>[aa ay Ok 101,aa aM au 101]) (fun⟨r,au⟩=>8-r) (0,Ok) ?_ dD bq ?_
 ·exact⟨Nat.zero_le _,rfl,rfl⟩
 rintro⟨r,au⟩ ⟨bk,b7⟩
 dsimp only
 refine ah ?_
 refine bX ?_ ?_<;>intro ab
 ·refine ah ?_
  refine fw (iG (k:=96+r*1) (fN:=(au).set (96+r*1) (U 16)) rfl rfl rfl ar ae (by rw [b7.len];simp;omega) rfl) ?_
  refine ah ?_
  refine eg (r+1,au.set (96+r*1) (U 16)) ?_ ?_ ?_ ?_
  ·(try dsimp only);exact⟨by omega,b7.set rfl⟩
  ·(try dsimp only);omega
  ·refine⟨?_,?_,?_,trivial⟩<;>rfl
  (try dsimp only);exact⟨_,bq⟩
 refine iW ?_
 refine aA (dw (bx:=au) rfl ar ae (by rw [b7.len];rfl) (by rw [List.drop_zero,List.take_of_length_le (by rw [b7.len];exact Nat.le_refl _)])) ?_
 refine fw (hA rfl rfl b7.one ar ae (by rw [b7.len];rfl) (by rfl)) ?_
 refine ah ?_
 refine cc (.nil _) (gA rfl rfl ar ae b7.len) ?_
 exact⟨[],⟨au,b7,rfl,rfl⟩,_,bq⟩
theorem H4(x:bQ)(lt bz:ai Int):aS B 125 [x.v,aw lt,aw bz] [] (fun v S=>v= .agg (p8 x lt bz).toArray∧S=[]):=by
 refine bD 11 Tryz.func125 fun a4 ax=>?_
 refine dt (au:=(bJ x)) fun ay=>?_
 refine ds fun aM=>?_
 refine gD ?_
 refine cM (bJ x) ?_
 refine ah ?_
 refine cc (.nil _) (gA rfl rfl ar ae (by rfl)) ?_
 exact bA
theorem aau(x:bQ)(av:x.In K)(lt bz:ai Int)(m:Mode)(hm:x.ba.l[0]?=some m):aS B 196 [.agg (p8 x lt bz).toArray] [K] (fun v S=>v=aI m.aG.toNat∧S=[K]):=by
 refine bD 32 Tryz.func196 fun a4 ax=>?_
 refine fe (au:=p8 x lt bz) fun ay=>?_
 refine aA (hx (j:=0) rfl rfl ae (x.ba).en (rfl:(0:Int)=((0:Nat):Int)) (List.getElem?_eq_some_iff.1 hm).1 rfl) ?_
 refine ah ?_
 refine aA (eO (aW:=eI) (aH:=2) (i:=0) (k:=0) (fun _=>rfl) rfl ar av.ba ae hm rfl) ?_
 refine jT ?_
 refine B9 rfl (rfl) ?_
 exact mz
theorem Yz(x:bQ)(av:x.In K)(s:BitVec 32)(r:Nat)(bk:r<8):aS B 195 [x.v,aI s.toNat,U (r:Int)] [K] (fun v S=>∃z:Int,v=U z∧S=[K]):=by
 refine bD 30 Tryz.func195 fun a4 ax=>?_
 refine fe (au:=(bJ x)) fun ay=>?_
 refine dH (α:=Nat) (fun i=>i≤x.aG.l.length) (fun i=>[(7,U (i:Int)),(1,aI s.toNat),(2,U (r:Int)),(3,ag ay)]) (fun i=>[aa ay (bJ x) 41,K]) (fun i=>x.aG.l.length-i) 0 ?_ dD aC ?_
 ·exact Nat.zero_le _
 rintro i ak
 have j9:=x.aG.small
 refine ah ?_
 refine aT ?_ ?_<;>intro ab
 ·obtain⟨e,he⟩:∃e,x.aG.l[i]?=some e:=⟨_,List.getElem?_eq_getElem al⟩
  refine ah ?_
  refine fL (has s i) ?_
  refine kg (t:=18) rfl (fun af=>?_) (fun af=>?_)
  ·replace af:=fb af
   refine ho ?_
   refine aA (Lc (gF:=i*11+(3+r*1)) rfl rfl ae rfl bk (Nat.add_assoc _ _ _)) (hw:=(.yes 18 rfl rfl rfl)) ?_
   refine aA (eO (aW:=cg) (aH:=11) (i:=i) (k:=(3+r*1)) (fun _=>rfl) rfl ar av.aG ae he (zh bk)) (hw:=(.yes 18 rfl rfl rfl)) ?_
   refine ah ?_
   refine aT ?_ ?_<;>intro az
   ·exact⟨[K],⟨_,rfl,rfl⟩,_,bq⟩
   refine fX (i+1) ?_
   omega
  replace af:=fb af
  refine ah ?_
  refine fX (i+1) ?_
  omega
 exact⟨[K],⟨_,rfl,rfl⟩,_,bq⟩
theorem aav(x:bQ)(av:x.In K)(lt bz:ai Int)(m:Mode)(hm:x.ba.l[0]?=some m)(au:List Value)(b7:Fit 141 au)(a5:(au.drop 0).take 4=tL x)(ek:(au.drop 109).take 13=p8 x lt bz):aS B 126 [.agg au.toArray] [K] (fun v S=>∃au:List Value,Fit 141 au∧v= .agg au.toArray∧S=[K]):=by
 refine bD 20 Tryz.func126 fun a4 ax=>?_
 refine dt (au:=au) fun ay=>?_
 refine da fun aM=>?_
 refine dH (α:=Nat×List Value) (fun⟨r,au⟩=>r≤8∧Fit 141 au∧(au.drop 0).take 4=tL x∧(au.drop 109).take 13=p8 x lt bz) (fun⟨r,au⟩=>[(3,U (r:Int)),(1,ag ay),(2,ag aM)]) (fun⟨r,au⟩=>[aa ay au 109,aa aM uT 109,K]) (fun⟨r,au⟩=>8-r) (0,au) ?_ dD bq ?_
 ·exact⟨Nat.zero_le _,b7,a5,ek⟩
 rintro⟨r,au⟩ ⟨bk,b7,a5,ek⟩
 dsimp only
 refine ah ?_
 refine bX ?_ ?_<;>intro ab
 ·refine ah ?_
  refine c8 [aa ay au 109,K] ae aC ?_
  refine aN [0,1] ?_
  refine bs 2 rfl (dw (bx:=tL x) rfl ar ae (by rw [b7.len];rfl) (a5)) ?_
  refine aN [3] ?_
  refine bs 4 rfl (dw (bx:=p8 x lt bz) rfl ar ae (by rw [b7.len];rfl) (ek)) ?_
  refine aN [6,8,9] ?_
  refine ky 5 (aau x av lt bz m hm) ?_
  refine jU 7 (Yz x av m.aG r (by omega)) ?_
  rintro _ _ ⟨z,rfl,rfl⟩
  simp only [List.cons_append,List.nil_append]
  refine fV ?_
  refine cy 10 rfl (m5 rfl rfl ae rfl al rfl) ?_
  refine aN [111] ?_
  refine lC rfl dr (iG (k:=100+r*1) (fN:=(au).set (100+r*1) (U z)) rfl rfl rfl ar ae (by rw [b7.len];simp;omega) rfl) ?_
  refine c7 [99] ?_
  refine eg (r+1,au.set (100+r*1) (U z)) ?_ ?_ ?_ ?_
  ·(try dsimp only);exact⟨by omega,b7.set rfl,by rw [Cr al];exact a5,by rw [Cr al];exact ek⟩
  ·(try dsimp only);omega
  ·refine⟨?_,?_,?_,trivial⟩<;>rfl
  (try dsimp only);exact⟨_,bq⟩
 refine iW ?_
 refine aA (dw (bx:=au) rfl ar ae (by rw [b7.len];rfl) (by rw [List.drop_zero,List.take_of_length_le (by rw [b7.len];exact Nat.le_refl _)])) ?_
 refine fw (hA rfl rfl b7.one ar ae (by rw [b7.len];rfl) (by rfl)) ?_
 refine ah ?_
 refine cc (.nil _) (gA rfl rfl ar ae b7.len) ?_
 exact⟨[K],⟨au,b7,rfl,rfl⟩,_,bq⟩
abbrev rr(x:bQ)(au:List Value)(lt bz:ai Int):List Value:=tL x++au++p8 x lt bz++uT.drop (4+105+13)
theorem sQ{x:bQ}{au:List Value}{lt bz:ai Int}(h:Fit 105 au):Fit 141 (rr x au lt bz):=by
 refine⟨?_,?_⟩
 ·unfold rr;rw [List.length_append,List.length_append,List.length_append,h.len];rfl
 unfold rr;rw [List.all_append,List.all_append,List.all_append,h.one];rfl
theorem GX{x:bQ}{au:List Value}{lt bz:ai Int}(h:Fit 105 au):((rr x au lt bz).drop 109).take 13=p8 x lt bz:=by
  have e:rr x au lt bz=(tL x++au)++(p8 x lt bz++uT.drop (4+105+13)):=List.append_assoc _ _ _
  rw [e,List.drop_left' (by rw [List.length_append,h.len];rfl)];rfl
theorem acz(x:bQ)(av:x.In K)(lt bz:ai Int)(m:Mode)(hm:x.ba.l[0]?=some m)(bP:m.q.l.length≤4):aS B 74 [x.v,aw lt,aw bz] [K] (fun v S=>∃au:List Value,Fit 141 au∧v= .agg au.toArray∧S=[K]):=by
 refine bD 25 Tryz.func74 fun a4 ax=>?_
 refine dt (au:=(bJ x)) fun ay=>?_
 refine ds fun aM=>?_
 refine ct ?_
 refine k5 (α:=Nat×List Value) (fun⟨BC,au⟩=>Fit 141 au∧(au.drop 0).take 4=tL x∧(au.drop 109).take 13=p8 x lt bz) (fun⟨BC,au⟩=>[(7,ag BC),(3,ag ay),(6,ag aM)]) (fun⟨BC,au⟩=>[aa ay (bJ x) 41,aa aM uT 109,aa BC au 109,K]) ?_ ?_
 ·skip
  refine c8 [aa ay (bJ x) 41] ae aC ?_
  refine bs 0 rfl (dw (bx:=(bJ x)) rfl ar ae rfl (by rfl)) ?_
  refine bs 2 rfl (dw (bx:=(bJ x)) rfl ar ae rfl (by rfl)) ?_
  refine aN [3,4] ?_
  refine ju 1 7 (by kernel_rfl) ?_ ?_
  ·skip
   refine lK (PN) ?_
   rintro _ _ ⟨au,b7,rfl,rfl⟩
   simp only [List.cons_append,List.nil_append]
   refine fV ?_
   refine ju 5 7 (by kernel_rfl) ?_ ?_
   ·skip
    refine gu (H4 x lt bz) ?_
    refine bs 6 rfl (qj (rr x au lt bz) rfl ae (GI (cj:=tL x) (dg:=au) (bC:=p8 x lt bz) rfl b7.len rfl rfl (by decide))) ?_
    refine aN [107] ?_
    refine jt rfl .no ae rfl (fun AV=>?_)
    refine aN [108] ?_
    refine lC rfl dr (hA rfl rfl (sQ b7).one ar ae (by rw [(sQ b7).len]<;>rfl) (by rfl)) ?_
    refine aN [99] ?_
    exact fj (AV,(rr x au lt bz)) ⟨sQ b7,rfl,GX b7⟩
   skip
   refine jt rfl .no ae rfl (fun AV=>?_)
   refine aN [105] ?_
   refine gu (H4 x lt bz) ?_
   refine bs 6 rfl (qj (rr x au lt bz) rfl ae (GI (cj:=tL x) (dg:=au) (bC:=p8 x lt bz) rfl b7.len rfl rfl (by decide))) ?_
   refine aN [108] ?_
   refine lC rfl dr (hA rfl rfl (sQ b7).one ar ae (by rw [(sQ b7).len]<;>rfl) (by rfl)) ?_
   refine aN [99] ?_
   exact fj (AV,(rr x au lt bz)) ⟨sQ b7,rfl,GX b7⟩
  skip
  refine jt rfl .no ae rfl (fun AV=>?_)
  refine jU 1 (PN) ?_
  rintro _ _ ⟨au,b7,rfl,rfl⟩
  simp only [List.cons_append,List.nil_append]
  refine fV ?_
  refine aN [105] ?_
  refine gu (H4 x lt bz) ?_
  refine bs 6 rfl (qj (rr x au lt bz) rfl ae (GI (cj:=tL x) (dg:=au) (bC:=p8 x lt bz) rfl b7.len rfl rfl (by decide))) ?_
  refine aN [108] ?_
  refine lC rfl dr (hA rfl rfl (sQ b7).one ar ae (by rw [(sQ b7).len]<;>rfl) (by rfl)) ?_
  refine aN [99] ?_
  exact fj (AV,(rr x au lt bz)) ⟨sQ b7,rfl,GX b7⟩
 rintro⟨BC,au⟩ ⟨b7,a5,ek⟩
 refine ah ?_
 refine aA (hx (j:=0) rfl rfl ae (x.ba).en (rfl:(0:Int)=((0:Nat):Int)) (List.getElem?_eq_some_iff.1 hm).1 rfl) ?_
 refine ah ?_
 refine aA (eO (aW:=eI) (aH:=2) (i:=0) (k:=1) (fun _=>rfl) rfl ar av.ba ae hm rfl) ?_
 refine ah ?_
 refine FF (fun _:Unit=>[.slice none 0 0]) () .no rfl rfl ae rfl (by omega) (by omega) rfl (fun c bg ka=>?_)
 refine ah ?_
 refine fw (iG (k:=138) (fN:=(au).set (138) (aw c)) rfl rfl rfl ar ae (by rw [b7.len];rfl) rfl) ?_
 refine gD ?_
 refine aA (dw (bx:=au.set 138 (aw c)) rfl ar ae (by rw [List.length_set,b7.len];rfl) (by rw [List.drop_zero,List.take_of_length_le (by rw [List.length_set,b7.len];exact Nat.le_refl _)])) ?_
 refine lP .no e2 rfl (aav x av lt bz m hm _ (b7.set rfl) (by rw [Cr (by omega)];exact a5) (by rw [Cr (by omega)];exact ek)) aC rfl ?_
 rintro _ _ ⟨acA,nE,rfl,rfl⟩
 simp only [List.cons_append,List.nil_append]
 refine fw (hA rfl rfl nE.one ar ae (by rw [nE.len];rfl) (by rfl)) ?_
 refine ah ?_
 refine cc (.nil _) (gA rfl rfl ar ae nE.len) ?_
 exact⟨[K],⟨acA,nE,rfl,rfl⟩,_,bq⟩
theorem MA{o:ea}(h:o.a0.Own):c1 (all (kQ (B:=B) o)) o.a0.bl (o.a0.l.flatMap gr):=mh (a:=s5 o.a0) (by simp [kQ]) (eh h rfl)
theorem MB(x:bQ)(av:x.In K){aq:ao B}(bc:dL aq)(aD:dS aq):aS B 38 [x.v] [K,aq] (fun v S=>∃(ol:Value) (au:List Value),((qn x=false→iU x.c=0→∃p:Nat,ol=ag p)∧(qn x=true∨iU x.c≠0→ol= .pointer none)∧Fit 141 au)∧v= .tuple #[ol,.agg au.toArray]∧S=[K,aq]):=by
 refine dn 76 Tryz.func38 fun a4 ax=>?_
 have j9:=x.ba.small
 refine ah ?_
 refine fe (au:=(bJ x)) fun ay=>?_
 refine ds fun aM=>?_
 refine gK ?_
 refine cM (bJ x) ?_
 refine e1 (VJ x av) ?_
 refine bX ?_ ?_<;>intro ab
 ·refine kZ ?_
  refine cc (.nil _) (EO rfl rfl ar ae (by first|exact b7.len|rfl) rfl) ?_
  exact⟨[K,aq],⟨.pointer none,uT,⟨fun q=>(by rw [ab]at q;cases q),fun _=>rfl,⟨rfl,rfl⟩⟩,rfl,rfl⟩,_,bq⟩
 refine gK ?_
 refine cM (bJ x) ?_
 refine cA (zadm x av bc aD) ?_
 rintro _ _ ⟨o,z,GW,rfl,rfl⟩
 simp only [List.cons_append,List.nil_append]
 refine ct ?_
 refine bH (.agg #[aw o.ba,aw o.a0]) ?_
 refine bH (U z) ?_
 refine bH (U (iU x.c)) ?_
 refine da fun bw=>?_
 refine li ?_ ?_<;>intro af
 ·refine ZP ?_
  refine cc (.nil _) (EO rfl rfl ar ae (by first|exact b7.len|rfl) rfl) ?_
  exact⟨[K,aq],⟨.pointer none,uT,⟨fun _ q=>absurd q af,fun _=>rfl,⟨rfl,rfl⟩⟩,rfl,rfl⟩,_,bq⟩
 have aj:=xT (xx af)
 have ap:=GW af
 have HK:o.a0.l.length=x.a0.l.length:=by rw [ap.e,List.length_map]
 have kx:1≤x.ba.l.length:=by have:=aj.m.1;rw [show x.c.ba.length=x.ba.l.length from List.length_map _]at this;exact this
 have aem:x.a0.l.length≤24:=aj.e
 obtain⟨m,hm⟩:∃m,x.ba.l[0]?=some m:=⟨_,List.getElem?_eq_getElem kx⟩
 have yw:m.q.l.length≤4:=(aj.eT (kq m) (List.mem_map.2 ⟨m,List.mem_of_getElem? hm,rfl⟩)).2.1
 refine ct ?_
 refine cv (aw o.a0) ?_
 refine ah ?_
 refine cC ?_ ?_<;>intro az
 ·omega
 refine bX ?_ ?_<;>intro a5
 ·omega
 refine te ?_
 refine hy ei 3 1 ?_
 refine hy ei 3 1 ?_
 refine dH (α:=Nat×ai Int×ai Int) (fun⟨i,lt,bz⟩=>i≤o.a0.l.length∧lt.l.length=i∧bz.l.length=i∧lt.Own∧bz.Own) (fun⟨i,lt,bz⟩=>[(9,U (i:Int)),(7,aw lt),(8,aw bz),(1,ag ay),(2,.pointer none),(3,ag aM),(4,ag bw)]) (fun⟨i,lt,bz⟩=>[aa ay (bJ x) 41,aa aM uT 109,aa bw [aw o.ba,aw o.a0] 164,all (kQ o),ti lt,ti bz,K,aq]) (fun⟨i,lt,bz⟩=>o.a0.l.length-i) (0,ai.bG,ai.bG) ?_ dD bq ?_
 ·exact⟨Nat.zero_le _,rfl,rfl,ai.fY,ai.fY⟩
 rintro⟨i,lt,bz⟩ ⟨ak,er,et,aen,aeo⟩
 dsimp only
 refine cW ?_
 refine cv (aw o.a0) ?_
 refine ah ?_
 refine bX ?_ ?_<;>intro cd
 ·obtain⟨p,bh⟩:∃p,o.a0.l[i]?=some p:=⟨_,List.getElem?_eq_getElem al⟩
  refine dW ?_
  refine k5 (α:=ai Int×ai Int) (fun⟨qT,s2⟩=>qT.l.length=lt.l.length+1∧s2.l.length=bz.l.length+1∧qT.Own∧s2.Own) (fun⟨qT,s2⟩=>[(7,aw qT),(8,aw s2),(1,ag ay),(2,.pointer none),(3,ag aM),(4,ag bw),(9,U (i:Int))]) (fun⟨qT,s2⟩=>[aa ay (bJ x) 41,aa aM uT 109,aa bw [aw o.ba,aw o.a0] 164,all (kQ o),ti qT,ti s2,K,aq]) ?_ ?_
  ·skip
   refine ah ?_
   refine c8 [aa bw [aw o.ba,aw o.a0] 164,all (kQ o)] ae aC ?_
   refine aN [0,1] ?_
   refine bs 2 rfl (ed (v:=aw o.a0) ae) ?_
   refine aN [3] ?_
   refine cy 4 rfl (h7 rfl rfl ae (o.a0).en rfl al rfl) ?_
   refine aN [5] ?_
   refine bs 6 rfl (eO (aW:=gr) (aH:=2) (i:=i) (k:=0) (fun _=>rfl) rfl ar (MA ap.vq) ae bh rfl) ?_
   refine aN [9,10] ?_
   refine bs 11 rfl (ed (v:=aw o.a0) ae) ?_
   refine aN [12] ?_
   refine cy 13 rfl (h7 rfl rfl ae (o.a0).en rfl al rfl) ?_
   refine aN [14] ?_
   refine bs 15 rfl (eO (aW:=gr) (aH:=2) (i:=i) (k:=1) (fun _=>rfl) rfl ar (MA ap.vq) ae bh rfl) ?_
   refine ju 7 16 jZ ?_ ?_
   ·skip
    refine lN (au:=([p.1]:List Int).flatMap ei) rfl .no rfl ae bu bu (by rfl) (by rfl) rfl rfl (fun wq=>?_)
    refine ju 8 16 jZ ?_ ?_
    ·skip
     refine mb (aW:=ei) (c:=lt) (b:=ai.lit wq [p.1] (by simp)) rfl .no rfl rfl ae ar dr (show Out (aa wq (([p.1]:List Int).flatMap ei) 3) _ _ from ar) hF (fun _=>rfl) (fun _=>rfl) (by show lt.l.length+1≤_;omega) (by show(lt.l.length+1)*_≤_;omega) rfl (fun dg jn pX=>?_)
     refine aN [116] ?_
     refine lN (au:=([p.2]:List Int).flatMap ei) rfl .no rfl ae bu bu (by rfl) (by rfl) rfl rfl (fun uU=>?_)
     refine aN [117] ?_
     refine mb (aW:=ei) (c:=bz) (b:=ai.lit uU [p.2] (by simp)) rfl .no rfl rfl ae ar dr (show Out (aa uU (([p.2]:List Int).flatMap ei) 3) _ _ from ar) hF (fun _=>rfl) (fun _=>rfl) (by show bz.l.length+1≤_;omega) (by show(bz.l.length+1)*_≤_;omega) rfl (fun bC iq pr=>?_)
     refine c7 [18,19,99] ?_
     exact fj (dg,bC) ⟨by rw [jn,List.length_append];rfl,by rw [iq,List.length_append];rfl,pX,pr⟩
    skip
    refine lN (au:=([p.2]:List Int).flatMap ei) rfl .no rfl ae bu bu (by rfl) (by rfl) rfl rfl (fun uU=>?_)
    refine aN [108] ?_
    refine mb (aW:=ei) (c:=lt) (b:=ai.lit wq [p.1] (by simp)) rfl .no rfl rfl ae ar dr (show Out (aa wq (([p.1]:List Int).flatMap ei) 3) _ _ from ar) hF (fun _=>rfl) (fun _=>rfl) (by show lt.l.length+1≤_;omega) (by show(lt.l.length+1)*_≤_;omega) rfl (fun dg jn pX=>?_)
    refine aN [117] ?_
    refine mb (aW:=ei) (c:=bz) (b:=ai.lit uU [p.2] (by simp)) rfl .no rfl rfl ae ar dr (show Out (aa uU (([p.2]:List Int).flatMap ei) 3) _ _ from ar) hF (fun _=>rfl) (fun _=>rfl) (by show bz.l.length+1≤_;omega) (by show(bz.l.length+1)*_≤_;omega) rfl (fun bC iq pr=>?_)
    refine c7 [18,19,99] ?_
    exact fj (dg,bC) ⟨by rw [jn,List.length_append];rfl,by rw [iq,List.length_append];rfl,pX,pr⟩
   skip
   refine lN (au:=([p.2]:List Int).flatMap ei) rfl .no rfl ae bu bu (by rfl) (by rfl) rfl rfl (fun uU=>?_)
   refine aN [107] ?_
   refine lN (au:=([p.1]:List Int).flatMap ei) rfl .no rfl ae bu bu (by rfl) (by rfl) rfl rfl (fun wq=>?_)
   refine aN [108] ?_
   refine mb (aW:=ei) (c:=lt) (b:=ai.lit wq [p.1] (by simp)) rfl .no rfl rfl ae ar dr (show Out (aa wq (([p.1]:List Int).flatMap ei) 3) _ _ from ar) hF (fun _=>rfl) (fun _=>rfl) (by show lt.l.length+1≤_;omega) (by show(lt.l.length+1)*_≤_;omega) rfl (fun dg jn pX=>?_)
   refine aN [117] ?_
   refine mb (aW:=ei) (c:=bz) (b:=ai.lit uU [p.2] (by simp)) rfl .no rfl rfl ae ar dr (show Out (aa uU (([p.2]:List Int).flatMap ei) 3) _ _ from ar) hF (fun _=>rfl) (fun _=>rfl) (by show bz.l.length+1≤_;omega) (by show(bz.l.length+1)*_≤_;omega) rfl (fun bC iq pr=>?_)
   refine c7 [18,19,99] ?_
   exact fj (dg,bC) ⟨by rw [jn,List.length_append];rfl,by rw [iq,List.length_append];rfl,pX,pr⟩
  rintro⟨qT,s2⟩ ⟨sh,g4,aaw,aax⟩
  refine ah ?_
  refine eg (i+1,qT,s2) ?_ ?_ ?_ ?_
  ·(try dsimp only);exact⟨by omega,by omega,by omega,aaw,aax⟩
  ·(try dsimp only);omega
  ·refine⟨?_,?_,?_,?_,?_,?_,?_,trivial⟩<;>rfl
  (try dsimp only);exact⟨_,bq⟩
 refine iW ?_
 refine cM (bJ x) ?_
 refine cA (LI x av bc aD) ?_
 rintro _ _ ⟨ol,Bx,jH,⟨om,jb⟩,rfl,rfl⟩
 simp only [List.cons_append,List.nil_append]
 refine ct ?_
 refine bH ol ?_
 refine bH (U Bx) ?_
 refine bH (U (iU x.c)) ?_
 refine iW ?_
 refine cM (bJ x) ?_
 refine ah ?_
 refine cA (acz x av lt bz m hm yw) ?_
 rintro _ _ ⟨au,b7,rfl,rfl⟩
 simp only [List.cons_append,List.nil_append]
 refine ct ?_
 refine fw (hA rfl rfl b7.one ar ae (by rw [b7.len];rfl) (by rfl)) ?_
 refine dW ?_
 refine cc (.nil _) (EO rfl rfl ar ae (by first|exact b7.len|rfl) rfl) ?_
 exact⟨[K,aq],⟨ol,au,⟨fun _ q=>(let⟨p,_,_,_,_,_,e,_⟩:=om q;⟨p,e⟩),fun q=>q.elim (fun q=>(by rw [ab]at q;cases q)) (fun q=>absurd af q),b7⟩,rfl,rfl⟩,_,bq⟩
def nf(d:a2)(ad:Nat→bL):List Nat:=
  if fF d (ad 0)=true∧fF d (ad 1)=true then(if(dV d (ad 0) 0).seq.toNat<(dV d (ad 1) 1).seq.toNat then [1,0]else [0,1])
  else(if fF d (ad 0)=true then [0]else [])++(if fF d (ad 1)=true then [1]else [])
abbrev tz:=ai (BitVec 32)×ai (BitVec 32)
abbrev jN(x:tz)(j:Nat):ai (BitVec 32):=if j=0 then x.1 else x.2
abbrev uG(d:a2)(ad:Nat→bL)(x:tz)(j:Nat):List Value:=[.agg (gq (dV d (ad j) j) (jN x j)).toArray]
def mj(d:a2)(ad:Nat→bL)(x:tz):List (List Value):=(nf d ad).map (uG d ad x)
abbrev r1(d:a2)(ad:Nat→bL)(x:tz):Prop:=(x.1.l=(dV d (ad 0) 0).l∧x.1.Own)∧x.2.l=(dV d (ad 1) 1).l∧x.2.Own
theorem SO{d:a2}{ad:Nat→bL}{x:tz}(b0:fF d (ad 0)=true)(ab:fF d (ad 1)=true)(h:((dV d (ad 1) 1).seq.toNat:Int)>((dV d (ad 0) 0).seq.toNat:Int)):mj d ad x=[uG d ad x 1,uG d ad x 0]:=by
  unfold mj nf;rw [if_pos ⟨b0,ab⟩,if_pos (by omega)];rfl
theorem SP{d:a2}{ad:Nat→bL}{x:tz}(b0:fF d (ad 0)=true)(ab:fF d (ad 1)=true)(h:((dV d (ad 1) 1).seq.toNat:Int)≤((dV d (ad 0) 0).seq.toNat:Int)):mj d ad x=[uG d ad x 0,uG d ad x 1]:=by
  unfold mj nf;rw [if_pos ⟨b0,ab⟩,if_neg (by omega)];rfl
theorem SQ{d:a2}{ad:Nat→bL}{x:tz}(b0:fF d (ad 0)=true)(ab:fF d (ad 1)=false):mj d ad x=[uG d ad x 0]:=by
  unfold mj nf;rw [if_neg (by rw [ab];simp),if_pos b0,if_neg (by rw [ab];decide)];rfl
theorem SR{d:a2}{ad:Nat→bL}{x:tz}(b0:fF d (ad 0)=false)(ab:fF d (ad 1)=true):mj d ad x=[uG d ad x 1]:=by
  unfold mj nf;rw [if_neg (by rw [b0];simp),if_neg (by rw [b0];decide),if_pos ab];rfl
theorem SS{d:a2}{ad:Nat→bL}{x:tz}(b0:fF d (ad 0)=false)(ab:fF d (ad 1)=false):mj d ad x=[]:=by
  unfold mj nf;rw [if_neg (by rw [b0];simp),if_neg (by rw [b0];decide),if_neg (by rw [ab];decide)];rfl
theorem Wd(c a6 p:Nat)(Q:Nat→Nat)(d:a2)(h:cZ d)(ad:Nat→bL)(aj:∀i,i<2→dj d (ad i))(z:Int)(qF:fF d (ad 0)=true)(qG:fF d (ad 1)=true):yc Tryz.prog B 79 [ag c] [aa c [ag a6] 114] [aa a6 [ag p,ag (Q 0),ag (Q 1),U z] 200,aa (Q 0) (bp p (ad 0)) 273,aa (Q 1) (bp p (ad 1)) 273,aa p (bE d) 196,b5 d] (r1 d ad) (mj d ad) (fun x=>[cK x.1,cK x.2]):=by
 intro cu J gN cb gv aZ
 refine dn 50 Tryz.func79 fun a4 ax=>?_
 simp only [List.cons_append,List.nil_append]
 refine CT (L:=aa c [ag a6] 114::aa a6 [ag p,ag (Q 0),ag (Q 1),U z] 200::aa (Q 0) (bp p (ad 0)) 273::aa (Q 1) (bp p (ad 1)) 273::aa p (bE d) 196::b5 d::cb) aC ?_
 refine dW ?_
 refine cv (ag a6) ?_
 refine cA (sT a6 p Q d h ad 0 (by decide) (aj 0 (by decide)) z) ?_
 rintro _ _ ⟨dv,⟨p7,r6⟩,rfl,rfl⟩
 simp only [List.cons_append,List.nil_append]
 rw [qF]
 refine ct ?_
 refine bH (.agg (gq (dV d (ad 0) 0) dv).toArray) ?_
 refine bH (.bool true) ?_
 refine ds fun ay=>?_
 refine cW ?_
 refine cv (ag a6) ?_
 refine cA (sT a6 p Q d h ad 1 (by decide) (aj 1 (by decide)) z) ?_
 rintro _ _ ⟨cE,⟨pE,uV⟩,rfl,rfl⟩
 simp only [List.cons_append,List.nil_append]
 rw [qG]
 refine ct ?_
 refine bH (.agg (gq (dV d (ad 1) 1) cE).toArray) ?_
 refine bH (.bool true) ?_
 refine da fun aM=>?_
 refine bX ?_ ?_<;>intro ab
 ·refine ct ?_
  refine cM (gq (dV d (ad 1) 1) cE) ?_
  refine cM (gq (dV d (ad 0) 0) dv) ?_
  refine N1 ?_
  refine cM (gq (dV d (ad 1) 1) cE) ?_
  have av:r1 d ad (dv,cE):=⟨⟨p7,r6⟩,pE,uV⟩
  have iL:=SO (x:=(dv,cE)) qF qG ab
  have fI:=aZ (dv,cE) 0 _ av (by rw [iL];simp) (gv (dv,cE) av)
  rw [iL]at fI
  refine vI (L:=aa c [ag a6] 114::aa ay (gq (dV d (ad 1) 1) cE) 124::aa aM (gq (dV d (ad 0) 0) dv) 124::cK dv::cK cE::aa a6 [ag p,ag (Q 0),ag (Q 1),U z] 200::aa (Q 0) (bp p (ad 0)) 273::aa (Q 1) (bp p (ad 1)) 273::aa p (bE d) 196::b5 d::cb) aC ?_
  refine kS (hL.pre (K:=[aa c [ag a6] 114,aa ay (gq (dV d (ad 1) 1) cE) 124,aa aM (gq (dV d (ad 0) 0) dv) 124]) (zB [cK dv,cK cE,aa a6 [ag p,ag (Q 0),ag (Q 1),U z] 200,aa (Q 0) (bp p (ad 0)) 273,aa (Q 1) (bp p (ad 1)) 273,aa p (bE d) 196,b5 d] cb)) ?_
  simp only [List.cons_append,List.nil_append]
  refine iB (own:=[aa c [ag a6] 114,aa ay (gq (dV d (ad 1) 1) cE) 124,aa aM (gq (dV d (ad 0) 0) dv) 124]) (hU:=cb++([cK dv,cK cE]++[aa a6 [ag p,ag (Q 0),ag (Q 1),U z] 200,aa (Q 0) (bp p (ad 0)) 273,aa (Q 1) (bp p (ad 1)) 273,aa p (bE d) 196,b5 d])) .no rfl rfl fI rfl ?_
  rintro og aQ aE
  refine cU ?_
  refine li ?_ ?_<;>intro af
  ·refine ct ?_
   refine cM (gq (dV d (ad 0) 0) dv) ?_
   have kL:J (dv,cE) 1 aQ:=(aE.resolve_right (fun q=>by have:=q.1;simp_all)).2
   have An:=aZ (dv,cE) 1 aQ av (by rw [iL];simp) kL
   rw [iL]at An
   refine iB (own:=[aa c [ag a6] 114,aa ay (gq (dV d (ad 1) 1) cE) 124,aa aM (gq (dV d (ad 0) 0) dv) 124]) (hU:=aQ) (.yes 37 rfl rfl rfl) rfl rfl An rfl ?_
   rintro acB cF n9
   refine cU ?_
   exact⟨aa c [ag a6] 114::cF,⟨(dv,cE),av,cF,rfl,n9.elim (fun q=> .inl (by rw [iL];exact q.2)) (fun q=> .inr ⟨1,(by rw [iL];simp),q.2⟩)⟩,_,bq⟩
  refine ah ?_
  exact⟨aa c [ag a6] 114::aQ,⟨(dv,cE),av,aQ,rfl,.inr ⟨0,(by rw [iL];simp),(aE.resolve_left (fun q=>by have:=q.1;simp_all)).2⟩⟩,_,bq⟩
 refine ra ?_
 refine cM (gq (dV d (ad 0) 0) dv) ?_
 have av:r1 d ad (dv,cE):=⟨⟨p7,r6⟩,pE,uV⟩
 have iL:=SP (x:=(dv,cE)) qF qG ab
 have fI:=aZ (dv,cE) 0 _ av (by rw [iL];simp) (gv (dv,cE) av)
 rw [iL]at fI
 refine vI (L:=aa c [ag a6] 114::aa ay (gq (dV d (ad 0) 0) dv) 124::aa aM (gq (dV d (ad 1) 1) cE) 124::cK dv::cK cE::aa a6 [ag p,ag (Q 0),ag (Q 1),U z] 200::aa (Q 0) (bp p (ad 0)) 273::aa (Q 1) (bp p (ad 1)) 273::aa p (bE d) 196::b5 d::cb) aC ?_
 refine kS (hL.pre (K:=[aa c [ag a6] 114,aa ay (gq (dV d (ad 0) 0) dv) 124,aa aM (gq (dV d (ad 1) 1) cE) 124]) (zB [cK dv,cK cE,aa a6 [ag p,ag (Q 0),ag (Q 1),U z] 200,aa (Q 0) (bp p (ad 0)) 273,aa (Q 1) (bp p (ad 1)) 273,aa p (bE d) 196,b5 d] cb)) ?_
 simp only [List.cons_append,List.nil_append]
 refine iB (own:=[aa c [ag a6] 114,aa ay (gq (dV d (ad 0) 0) dv) 124,aa aM (gq (dV d (ad 1) 1) cE) 124]) (hU:=cb++([cK dv,cK cE]++[aa a6 [ag p,ag (Q 0),ag (Q 1),U z] 200,aa (Q 0) (bp p (ad 0)) 273,aa (Q 1) (bp p (ad 1)) 273,aa p (bE d) 196,b5 d])) .no rfl rfl fI rfl ?_
 rintro og aQ aE
 refine cU ?_
 refine li ?_ ?_<;>intro az
 ·refine ct ?_
  refine cM (gq (dV d (ad 1) 1) cE) ?_
  have kL:J (dv,cE) 1 aQ:=(aE.resolve_right (fun q=>by have:=q.1;simp_all)).2
  have An:=aZ (dv,cE) 1 aQ av (by rw [iL];simp) kL
  rw [iL]at An
  refine iB (own:=[aa c [ag a6] 114,aa ay (gq (dV d (ad 0) 0) dv) 124,aa aM (gq (dV d (ad 1) 1) cE) 124]) (hU:=aQ) (.yes 37 rfl rfl rfl) rfl rfl An rfl ?_
  rintro acB cF n9
  refine cU ?_
  exact⟨aa c [ag a6] 114::cF,⟨(dv,cE),av,cF,rfl,n9.elim (fun q=> .inl (by rw [iL];exact q.2)) (fun q=> .inr ⟨1,(by rw [iL];simp),q.2⟩)⟩,_,bq⟩
 refine ah ?_
 exact⟨aa c [ag a6] 114::aQ,⟨(dv,cE),av,aQ,rfl,.inr ⟨0,(by rw [iL];simp),(aE.resolve_left (fun q=>by have:=q.1;simp_all)).2⟩⟩,_,bq⟩
theorem We(c a6 p:Nat)(Q:Nat→Nat)(d:a2)(h:cZ d)(ad:Nat→bL)(aj:∀i,i<2→dj d (ad i))(z:Int)(qF:fF d (ad 0)=true)(qG:fF d (ad 1)=false):yc Tryz.prog B 79 [ag c] [aa c [ag a6] 114] [aa a6 [ag p,ag (Q 0),ag (Q 1),U z] 200,aa (Q 0) (bp p (ad 0)) 273,aa (Q 1) (bp p (ad 1)) 273,aa p (bE d) 196,b5 d] (r1 d ad) (mj d ad) (fun x=>[cK x.1,cK x.2]):=by
 intro cu J gN cb gv aZ
 refine dn 50 Tryz.func79 fun a4 ax=>?_
 simp only [List.cons_append,List.nil_append]
 refine CT (L:=aa c [ag a6] 114::aa a6 [ag p,ag (Q 0),ag (Q 1),U z] 200::aa (Q 0) (bp p (ad 0)) 273::aa (Q 1) (bp p (ad 1)) 273::aa p (bE d) 196::b5 d::cb) aC ?_
 refine dW ?_
 refine cv (ag a6) ?_
 refine cA (sT a6 p Q d h ad 0 (by decide) (aj 0 (by decide)) z) ?_
 rintro _ _ ⟨dv,⟨p7,r6⟩,rfl,rfl⟩
 simp only [List.cons_append,List.nil_append]
 rw [qF]
 refine ct ?_
 refine bH (.agg (gq (dV d (ad 0) 0) dv).toArray) ?_
 refine bH (.bool true) ?_
 refine ds fun ay=>?_
 refine cW ?_
 refine cv (ag a6) ?_
 refine cA (sT a6 p Q d h ad 1 (by decide) (aj 1 (by decide)) z) ?_
 rintro _ _ ⟨cE,⟨pE,uV⟩,rfl,rfl⟩
 simp only [List.cons_append,List.nil_append]
 rw [qG]
 refine ct ?_
 refine bH (.agg (gq (dV d (ad 1) 1) cE).toArray) ?_
 refine bH (.bool false) ?_
 refine ds fun aM=>?_
 refine ZQ ?_
 refine cM (gq (dV d (ad 0) 0) dv) ?_
 have av:r1 d ad (dv,cE):=⟨⟨p7,r6⟩,pE,uV⟩
 have iL:=SQ (x:=(dv,cE)) qF qG
 have fI:=aZ (dv,cE) 0 _ av (by rw [iL];simp) (gv (dv,cE) av)
 rw [iL]at fI
 refine vI (L:=aa c [ag a6] 114::aa ay (gq (dV d (ad 0) 0) dv) 124::aa aM (gq (dV d (ad 1) 1) cE) 124::cK dv::cK cE::aa a6 [ag p,ag (Q 0),ag (Q 1),U z] 200::aa (Q 0) (bp p (ad 0)) 273::aa (Q 1) (bp p (ad 1)) 273::aa p (bE d) 196::b5 d::cb) aC ?_
 refine kS (hL.pre (K:=[aa c [ag a6] 114,aa ay (gq (dV d (ad 0) 0) dv) 124,aa aM (gq (dV d (ad 1) 1) cE) 124]) (zB [cK dv,cK cE,aa a6 [ag p,ag (Q 0),ag (Q 1),U z] 200,aa (Q 0) (bp p (ad 0)) 273,aa (Q 1) (bp p (ad 1)) 273,aa p (bE d) 196,b5 d] cb)) ?_
 simp only [List.cons_append,List.nil_append]
 refine iB (own:=[aa c [ag a6] 114,aa ay (gq (dV d (ad 0) 0) dv) 124,aa aM (gq (dV d (ad 1) 1) cE) 124]) (hU:=cb++([cK dv,cK cE]++[aa a6 [ag p,ag (Q 0),ag (Q 1),U z] 200,aa (Q 0) (bp p (ad 0)) 273,aa (Q 1) (bp p (ad 1)) 273,aa p (bE d) 196,b5 d])) .no rfl rfl fI rfl ?_
 rintro og aQ aE
 refine cU ?_
 exact⟨aa c [ag a6] 114::aQ,⟨(dv,cE),av,aQ,rfl,aE.elim (fun q=> .inl (by rw [iL];exact q.2)) (fun q=> .inr ⟨0,(by rw [iL];simp),q.2⟩)⟩,_,bq⟩
theorem Wf(c a6 p:Nat)(Q:Nat→Nat)(d:a2)(h:cZ d)(ad:Nat→bL)(aj:∀i,i<2→dj d (ad i))(z:Int)(qF:fF d (ad 0)=false)(qG:fF d (ad 1)=true):yc Tryz.prog B 79 [ag c] [aa c [ag a6] 114] [aa a6 [ag p,ag (Q 0),ag (Q 1),U z] 200,aa (Q 0) (bp p (ad 0)) 273,aa (Q 1) (bp p (ad 1)) 273,aa p (bE d) 196,b5 d] (r1 d ad) (mj d ad) (fun x=>[cK x.1,cK x.2]):=by
 intro cu J gN cb gv aZ
 refine dn 50 Tryz.func79 fun a4 ax=>?_
 simp only [List.cons_append,List.nil_append]
 refine CT (L:=aa c [ag a6] 114::aa a6 [ag p,ag (Q 0),ag (Q 1),U z] 200::aa (Q 0) (bp p (ad 0)) 273::aa (Q 1) (bp p (ad 1)) 273::aa p (bE d) 196::b5 d::cb) aC ?_
 refine dW ?_
 refine cv (ag a6) ?_
 refine cA (sT a6 p Q d h ad 0 (by decide) (aj 0 (by decide)) z) ?_
 rintro _ _ ⟨dv,⟨p7,r6⟩,rfl,rfl⟩
 simp only [List.cons_append,List.nil_append]
 rw [qF]
 refine ct ?_
 refine bH (.agg (gq (dV d (ad 0) 0) dv).toArray) ?_
 refine bH (.bool false) ?_
 refine ds fun ay=>?_
 refine cW ?_
 refine cv (ag a6) ?_
 refine cA (sT a6 p Q d h ad 1 (by decide) (aj 1 (by decide)) z) ?_
 rintro _ _ ⟨cE,⟨pE,uV⟩,rfl,rfl⟩
 simp only [List.cons_append,List.nil_append]
 rw [qG]
 refine ct ?_
 refine bH (.agg (gq (dV d (ad 1) 1) cE).toArray) ?_
 refine bH (.bool true) ?_
 refine ds fun aM=>?_
 refine fw (hA rfl rfl rfl ar ae rfl rfl) ?_
 refine aA (dh rfl) ?_
 refine hd ?_
 refine dZ ?_
 refine dZ ?_
 refine fl ?_
 refine aA (dh rfl) ?_
 refine aA (dh rfl) ?_
 refine lJ 18 ?_
 refine aA (dh rfl) ?_
 refine aA (dh rfl) ?_
 refine lJ 21 ?_
 refine lJ 21 ?_
 refine lJ 21 ?_
 refine lJ 21 ?_
 refine lJ 21 ?_
 refine aA (dh rfl) ?_
 refine hd ?_
 refine tZ rfl rfl ?_
 refine kk ?_
 refine ik ?_
 refine dZ ?_
 refine dZ ?_
 refine fl ?_
 refine aA (dh rfl) ?_
 refine aA (dh rfl) ?_
 refine lJ 31 ?_
 refine aA (dh rfl) ?_
 refine hd ?_
 refine tZ rfl rfl ?_
 refine kk ?_
 refine ik ?_
 refine dZ ?_
 refine dZ ?_
 refine fl ?_
 refine aA (dh rfl) ?_
 refine hd ?_
 refine tZ rfl rfl ?_
 refine kk ?_
 refine ik ?_
 refine dZ ?_
 refine fl ?_
 refine aA (dh rfl) ?_
 refine hd ?_
 refine B9 rfl rfl ?_
 refine fl ?_
 refine aA (dh rfl) ?_
 refine aA (dw (bx:=gq (dV d (ad 1) 1) cE) rfl ar ae rfl (by rfl)) ?_
 have av:r1 d ad (dv,cE):=⟨⟨p7,r6⟩,pE,uV⟩
 have iL:=SR (x:=(dv,cE)) qF qG
 have fI:=aZ (dv,cE) 0 _ av (by rw [iL];simp) (gv (dv,cE) av)
 rw [iL]at fI
 refine vI (L:=aa c [ag a6] 114::aa ay (gq (dV d (ad 0) 0) dv) 124::aa aM (gq (dV d (ad 1) 1) cE) 124::cK dv::cK cE::aa a6 [ag p,ag (Q 0),ag (Q 1),U z] 200::aa (Q 0) (bp p (ad 0)) 273::aa (Q 1) (bp p (ad 1)) 273::aa p (bE d) 196::b5 d::cb) aC ?_
 refine kS (hL.pre (K:=[aa c [ag a6] 114,aa ay (gq (dV d (ad 0) 0) dv) 124,aa aM (gq (dV d (ad 1) 1) cE) 124]) (zB [cK dv,cK cE,aa a6 [ag p,ag (Q 0),ag (Q 1),U z] 200,aa (Q 0) (bp p (ad 0)) 273,aa (Q 1) (bp p (ad 1)) 273,aa p (bE d) 196,b5 d] cb)) ?_
 simp only [List.cons_append,List.nil_append]
 refine iB (own:=[aa c [ag a6] 114,aa ay (gq (dV d (ad 0) 0) dv) 124,aa aM (gq (dV d (ad 1) 1) cE) 124]) (hU:=cb++([cK dv,cK cE]++[aa a6 [ag p,ag (Q 0),ag (Q 1),U z] 200,aa (Q 0) (bp p (ad 0)) 273,aa (Q 1) (bp p (ad 1)) 273,aa p (bE d) 196,b5 d])) .no rfl rfl fI rfl ?_
 rintro og aQ aE
 refine cU ?_
 exact⟨aa c [ag a6] 114::aQ,⟨(dv,cE),av,aQ,rfl,aE.elim (fun q=> .inl (by rw [iL];exact q.2)) (fun q=> .inr ⟨0,(by rw [iL];simp),q.2⟩)⟩,_,bq⟩
theorem Wg(c a6 p:Nat)(Q:Nat→Nat)(d:a2)(h:cZ d)(ad:Nat→bL)(aj:∀i,i<2→dj d (ad i))(z:Int)(qF:fF d (ad 0)=false)(qG:fF d (ad 1)=false):yc Tryz.prog B 79 [ag c] [aa c [ag a6] 114] [aa a6 [ag p,ag (Q 0),ag (Q 1),U z] 200,aa (Q 0) (bp p (ad 0)) 273,aa (Q 1) (bp p (ad 1)) 273,aa p (bE d) 196,b5 d] (r1 d ad) (mj d ad) (fun x=>[cK x.1,cK x.2]):=by
 intro cu J gN cb gv aZ
 refine dn 50 Tryz.func79 fun a4 ax=>?_
 simp only [List.cons_append,List.nil_append]
 refine CT (L:=aa c [ag a6] 114::aa a6 [ag p,ag (Q 0),ag (Q 1),U z] 200::aa (Q 0) (bp p (ad 0)) 273::aa (Q 1) (bp p (ad 1)) 273::aa p (bE d) 196::b5 d::cb) aC ?_
 refine dW ?_
 refine cv (ag a6) ?_
 refine cA (sT a6 p Q d h ad 0 (by decide) (aj 0 (by decide)) z) ?_
 rintro _ _ ⟨dv,⟨p7,r6⟩,rfl,rfl⟩
 simp only [List.cons_append,List.nil_append]
 rw [qF]
 refine ct ?_
 refine bH (.agg (gq (dV d (ad 0) 0) dv).toArray) ?_
 refine bH (.bool false) ?_
 refine ds fun ay=>?_
 refine cW ?_
 refine cv (ag a6) ?_
 refine cA (sT a6 p Q d h ad 1 (by decide) (aj 1 (by decide)) z) ?_
 rintro _ _ ⟨cE,⟨pE,uV⟩,rfl,rfl⟩
 simp only [List.cons_append,List.nil_append]
 rw [qG]
 refine ct ?_
 refine bH (.agg (gq (dV d (ad 1) 1) cE).toArray) ?_
 refine bH (.bool false) ?_
 refine ds fun aM=>?_
 refine fw (hA rfl rfl rfl ar ae rfl rfl) ?_
 refine aA (dh rfl) ?_
 refine hd ?_
 refine dZ ?_
 refine dZ ?_
 refine fl ?_
 refine aA (dh rfl) ?_
 refine aA (dh rfl) ?_
 refine lJ 18 ?_
 refine aA (dh rfl) ?_
 refine aA (dh rfl) ?_
 refine lJ 21 ?_
 refine lJ 21 ?_
 refine lJ 21 ?_
 refine lJ 21 ?_
 refine lJ 21 ?_
 refine aA (dh rfl) ?_
 refine hd ?_
 refine tZ rfl rfl ?_
 refine kk ?_
 refine ik ?_
 refine dZ ?_
 refine dZ ?_
 refine fl ?_
 refine aA (dh rfl) ?_
 refine aA (dh rfl) ?_
 refine lJ 31 ?_
 refine aA (dh rfl) ?_
 refine hd ?_
 refine tZ rfl rfl ?_
 refine kk ?_
 refine ik ?_
 refine dZ ?_
 refine dZ ?_
 refine fl ?_
 refine aA (dh rfl) ?_
 refine hd ?_
 refine tZ rfl rfl ?_
 refine kk ?_
 refine ik ?_
 refine dZ ?_
 refine fl ?_
 refine vI (L:=aa c [ag a6] 114::cK dv::cK cE::aa a6 [ag p,ag (Q 0),ag (Q 1),U z] 200::aa (Q 0) (bp p (ad 0)) 273::aa (Q 1) (bp p (ad 1)) 273::aa p (bE d) 196::b5 d::cb) aC ?_
 refine kS (hL.pre (K:=[aa c [ag a6] 114]) (zB [cK dv,cK cE,aa a6 [ag p,ag (Q 0),ag (Q 1),U z] 200,aa (Q 0) (bp p (ad 0)) 273,aa (Q 1) (bp p (ad 1)) 273,aa p (bE d) 196,b5 d] cb)) ?_
 refine cU ?_
 have av:r1 d ad (dv,cE):=⟨⟨p7,r6⟩,pE,uV⟩
 have iL:=SS (x:=(dv,cE)) qF qG
 exact⟨aa c [ag a6] 114::(cb++[cK dv,cK cE,aa a6 [ag p,ag (Q 0),ag (Q 1),U z] 200,aa (Q 0) (bp p (ad 0)) 273,aa (Q 1) (bp p (ad 1)) 273,aa p (bE d) 196,b5 d]),⟨(dv,cE),av,cb++[cK dv,cK cE,aa a6 [ag p,ag (Q 0),ag (Q 1),U z] 200,aa (Q 0) (bp p (ad 0)) 273,aa (Q 1) (bp p (ad 1)) 273,aa p (bE d) 196,b5 d],rfl,.inl (by rw [iL];exact gv (dv,cE) av)⟩,_,bq⟩
theorem Ul(c a6 p:Nat)(Q:Nat→Nat)(d:a2)(h:cZ d)(ad:Nat→bL)(aj:∀i,i<2→dj d (ad i))(z:Int):yc Tryz.prog B 79 [ag c] [aa c [ag a6] 114] [aa a6 [ag p,ag (Q 0),ag (Q 1),U z] 200,aa (Q 0) (bp p (ad 0)) 273,aa (Q 1) (bp p (ad 1)) 273,aa p (bE d) 196,b5 d] (r1 d ad) (mj d ad) (fun x=>[cK x.1,cK x.2]):=by
  cases b0:fF d (ad 0)with
  |true=>cases ab:fF d (ad 1)with
    |true=>exact Wd c a6 p Q d h ad aj z b0 ab
    |false=>exact We c a6 p Q d h ad aj z b0 ab
  |false=>cases ab:fF d (ad 1)with
    |true=>exact Wf c a6 p Q d h ad aj z b0 ab
    |false=>exact Wg c a6 p Q d h ad aj z b0 ab
theorem Um(a6:Nat):aS B 45 [ag a6] [] (fun v S=>∃c:Nat,v= .func (.func 79) #[] #[ag c]∧S=[aa c [ag a6] 114]):=by
 refine bD 4 Tryz.func45 fun a4 ax=>?_
 refine fe fun ay=>?_
 exact⟨[aa ay [ag a6] 114],⟨ay,rfl,rfl⟩,_,bq⟩
end Go.Proofs.YtkpibibplbjciaaGreatDoor
