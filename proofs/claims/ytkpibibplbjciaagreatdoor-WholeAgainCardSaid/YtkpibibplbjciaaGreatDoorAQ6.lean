/- A part of the proof of WholeAgain: it hangs on nothing beside the given files. -/
import Derived.Test.YtkpibibplbjciaaGreatDoorAQ5
set_option linter.unusedVariables false
set_option linter.unusedSectionVars false
set_option linter.unusedSimpArgs false
namespace Go.Proofs.YtkpibibplbjciaaGreatDoor
open Go Go.Sl
set_option maxRecDepth 4000
variable {B : Nat} {K : ao B}
abbrev Dn(d:Nat→Int):List Int:=[d 3,d 4,d 5,d 6,d 7,d 8,d 9,d 10]
abbrev Dp(d:Nat→Int):List Int:=[d 3,d 4,d 5,d 6,d 7,d 8,d 9,d 10,d 11,d 12,d 13,d 14,d 15,d 16,d 17,d 18]
abbrev Dq(d:Nat→Int):List Int:=[d 19,d 20,d 21,d 22]
def vY(d:Nat→Int):List UInt8:=[116,97,115,107,32]++jW (d 0)++[32]++jW (d 1)++[32]++jW (d 2)++ou [58] (Dn d) 8++[10]
def z6(d:Nat→Int):List UInt8:=[101,100,103,101,32]++jW (d 0)++[32]++jW (d 1)++[32]++pi (d 2)++ou [62] (Dq d) 4++ou [58] (Dp d) 16++[10]
def q4(m:BitVec 32):Nat→List UInt8
  |0=>[]
  |i+1=>q4 m i++(if m>>>i&&&1#32=1#32 then [32]++jW (i:Int)else [])
theorem US{m:BitVec 32}{i:Nat}(h:m>>>i&&&1#32=1#32):q4 m (i+1)=q4 m i++([32]++jW (i:Int)):=by rw [q4,if_pos h]
theorem UT{m:BitVec 32}{i:Nat}(h:¬m>>>i&&&1#32=1#32):q4 m (i+1)=q4 m i:=by rw [q4,if_neg h,List.append_nil]
theorem J8(m:BitVec 32):∀i,(q4 m i).length≤12*i
  |0=>Nat.le_refl _
  |i+1=>by
    have ih:=J8 m i
    rw [q4,List.length_append]
    have:(if m>>>i&&&1#32=1#32 then [32]++jW (i:Int)else []).length≤12:=by
      split
      · have ab:=jL (i:Int);simp only [List.length_append,List.length_cons,List.length_nil];omega
      · simp
    omega
def Dr(m:Mode):List UInt8:=[109,111,100,101]++q4 m.aG 32++[10]
def C8(x:bQ):List UInt8:=[114,101,115,32]++jW x.cG++[10]++x.aG.l.flatMap vY++x.ba.l.flatMap Dr++x.a0.l.flatMap z6
theorem F7{α:Type}{f:α→List UInt8}{l:List α}{i:Nat}{d:α}(h:l[i]?=some d):(l.take (i+1)).flatMap f=(l.take i).flatMap f++f d:=by
  rw [List.take_add_one,h];simp
theorem R0(d:Nat→Int):(vY d).length≤300:=by
  have ab:=jL (d 0);have af:=jL (d 1);have az:=jL (d 2);have a5:=tR [58] (Dn d) (by decide) 8
  unfold vY;simp only [List.length_append,List.length_cons,List.length_nil];omega
theorem R1(d:Nat→Int):(z6 d).length≤600:=by
  have ab:=jL (d 0);have af:=jL (d 1);have az:=JL (d 2);have a5:=tR [62] (Dq d) (by decide) 4;have cd:=tR [58] (Dp d) (by decide) 16
  unfold z6;simp only [List.length_append,List.length_cons,List.length_nil];omega
theorem F8{hX:ao B}(bl:Addr)(l:List Int)(n:Nat)(a7:l.length=n)(h:n≤100)(bk:c1 hX bl (l.flatMap ei))(eA:List UInt8)(Ik:eA.length≤1):aS B 68 [.slice (some bl) n n,str eA] [hX] (fun v S=>v=str (ou eA l n)∧S=[hX]):=by
  subst a7
  exact WU (aaG bl l h) bk h eA Ik
theorem sprint(x:bQ)(av:x.In K)(bP:∀m∈x.ba.l,m.q.l=[])(afe:x.aG.l.length≤60)(aff:x.ba.l.length≤60)(afg:x.a0.l.length≤60):aS B 32 [x.v] [K] (fun v S=>v=str (C8 x)∧S=[K]):=by
 refine dn 128 Tryz.func32 fun a4 ax=>?_
 have vn:=jL x.cG
 refine ah ?_
 refine fe (au:=(bJ x)) fun ay=>?_
 refine hD (mP x.cG) ?_
 refine aA (fS rfl rfl fW) ?_
 refine aA (fS rfl rfl fW) ?_
 refine ah ?_
 refine dH (α:=Nat×List UInt8) (fun⟨i,b⟩=>i≤x.aG.l.length∧b=([114,101,115,32]++jW x.cG++[10])++(x.aG.l.take i).flatMap vY∧b.length≤40+300*i) (fun⟨i,b⟩=>[(3,str b),(21,U (i:Int)),(20,U (x.aG.l.length:Int)),(0,x.v),(1,ag ay),(19,aw x.aG)]) (fun⟨i,b⟩=>[aa ay (bJ x) 41,K]) (fun⟨i,b⟩=>x.aG.l.length-i) (0,([114,101,115,32]++jW x.cG++[10])) ?_ dD aC ?_
 ·exact⟨Nat.zero_le _,(List.append_nil _).symm,by have:=jL x.cG;simp only [List.length_append,List.length_cons,List.length_nil];omega⟩
 rintro⟨i,b⟩ ⟨ak,bb,nF⟩
 dsimp only
 refine ah ?_
 refine aT ?_ ?_<;>intro ab
 ·obtain⟨d,bh⟩:∃d,x.aG.l[i]?=some d:=⟨_,List.getElem?_eq_getElem al⟩
  have bM:=jL (d 0)
  have bS:=jL (d 1)
  have cD:=jL (d 2)
  have cV:=tR [58] (Dn d) bu 8
  refine ah ?_
  refine aA (hN (aW:=cg) (aH:=11) (i:=i) (fun _=>rfl) rfl ar av.aG ae bh) ?_
  refine da fun aM=>?_
  refine ki [aa aM (cg d) 173] ae aC ?_
  refine aN [0,1] ?_
  refine bs 2 rfl (ed (v:=U (d 0)) ae) ?_
  refine aN [6] ?_
  refine bs 7 rfl (ed (v:=U (d 1)) ae) ?_
  refine aN [11] ?_
  refine bs 12 rfl (ed (v:=U (d 2)) ae) ?_
  refine aN [15] ?_
  refine bs 16 rfl (C7 rfl ae) ?_
  refine aN [103] ?_
  refine gu (mP (d 0)) ?_
  refine bs 4 rfl (fS rfl rfl fW) ?_
  refine bs 5 rfl (fS rfl rfl fW) ?_
  refine aN [108] ?_
  refine gu (mP (d 1)) ?_
  refine bs 9 rfl (fS rfl rfl fW) ?_
  refine bs 10 rfl (fS rfl rfl fW) ?_
  refine aN [113] ?_
  refine gu (mP (d 2)) ?_
  refine bs 14 rfl (fS rfl rfl fW) ?_
  refine ky 17 (F8 (hX:=aa aM (cg d) 173) ⟨aM,3,none⟩ (Dn d) 8 rfl bu (F6 rfl) [58] bu) ?_
  refine bs 18 rfl (fS rfl rfl fW) ?_
  refine bs 19 rfl (fS rfl rfl fW) ?_
  refine bs 20 rfl (fS rfl rfl fW) ?_
  refine c7 [21,99] ?_
  refine eg (i+1,b++vY d) ?_ ?_ ?_ ?_
  ·(try dsimp only);exact⟨by omega,by rw [bb,F7 bh];simp only [List.append_assoc,List.cons_append,List.nil_append],by rw [List.length_append];have:=R0 d;omega⟩
  ·(try dsimp only);omega
  ·refine⟨?_,?_,?_,?_,?_,?_,trivial⟩<;>rfl
  (try dsimp only);exact⟨_,aC⟩
 obtain rfl:i=x.aG.l.length:=by omega
 rw [List.take_length]at bb
 refine ah ?_
 refine dH (α:=Nat×List UInt8) (fun⟨i,b⟩=>i≤x.ba.l.length∧b=(([114,101,115,32]++jW x.cG++[10])++x.aG.l.flatMap vY)++(x.ba.l.take i).flatMap Dr∧b.length≤20000+400*i) (fun⟨i,b⟩=>[(3,str b),(50,U (i:Int)),(49,U (x.ba.l.length:Int)),(0,x.v),(1,ag ay),(48,aw x.ba)]) (fun⟨i,b⟩=>[aa ay (bJ x) 41,K]) (fun⟨i,b⟩=>x.ba.l.length-i) (0,b) ?_ dD aC ?_
 ·exact⟨Nat.zero_le _,by rw [bb];exact(List.append_nil _).symm,by omega⟩
 rintro⟨i,b⟩ ⟨ak,bb,nF⟩
 dsimp only
 refine ah ?_
 refine aT ?_ ?_<;>intro af
 ·obtain⟨m,bh⟩:∃d,x.ba.l[i]?=some d:=⟨_,List.getElem?_eq_getElem al⟩
  have lk:=bP m (List.mem_of_getElem? bh)
  have Ea:m.q.l.length=0:=by rw [lk];rfl
  refine ah ?_
  refine aA (hN (aW:=eI) (aH:=2) (i:=i) (fun _=>rfl) rfl ar av.ba ae bh) ?_
  refine da fun bw=>?_
  refine aA (fS rfl rfl fW) ?_
  refine ah ?_
  refine dH (α:=Nat×List UInt8) (fun⟨j,c⟩=>j≤32∧c=b++([109,111,100,101]++q4 m.aG j)) (fun⟨j,c⟩=>[(3,str c),(56,U (j:Int)),(0,x.v),(1,ag ay),(7,ag bw),(48,aw x.ba),(49,U (x.ba.l.length:Int)),(50,U (i:Int))]) (fun⟨j,c⟩=>[aa ay (bJ x) 41,aa bw (eI m) 177,K]) (fun⟨j,c⟩=>32-j) (0,b++[109,111,100,101]) ?_ dD aC ?_
  ·exact⟨Nat.zero_le _,rfl⟩
  rintro⟨j,c⟩ ⟨aY,bg⟩
  dsimp only
  have hh:c.length≤20388+400*i:=by rw [bg];have:=J8 m.aG j;simp only [List.length_append,List.length_cons,List.length_nil];omega
  have bM:=jL (j:Int)
  refine ah ?_
  refine bX ?_ ?_<;>intro az
  ·refine mn ?_
   refine cv (aI m.aG.toNat) ?_
   refine ah ?_
   refine aA (sM rfl rfl rfl al al) ?_
   refine aA (hH rfl rfl (ej _) rfl rfl) ?_
   refine ah ?_
   refine aT ?_ ?_<;>intro a5
   ·have Au:m.aG>>>j&&&1#32=1#32:=BitVec.eq_of_toNat_eq (by have dc:(1#32:BitVec 32).toNat=1:=rfl;rw [dc];exact Int.ofNat.inj a5)
    refine ah ?_
    refine hD (mP (j:Int)) ?_
    refine aA (fS rfl rfl fW) ?_
    refine aA (fS rfl rfl fW) ?_
    refine ah ?_
    refine eg (j+1,c++([32]++jW (j:Int))) ?_ ?_ ?_ ?_
    ·(try dsimp only);exact⟨by omega,by rw [bg,US Au];simp only [List.append_assoc]⟩
    ·(try dsimp only);omega
    ·refine⟨?_,?_,?_,?_,?_,?_,?_,?_,trivial⟩<;>rfl
    (try dsimp only);exact⟨_,aC⟩
   have Au:¬m.aG>>>j&&&1#32=1#32:=fun q=>a5 (by have dc:=congrArg BitVec.toNat q;exact congrArg Int.ofNat dc)
   refine ah ?_
   refine eg (j+1,c) ?_ ?_ ?_ ?_
   ·(try dsimp only);exact⟨by omega,by rw [bg,UT Au]⟩
   ·(try dsimp only);omega
   ·refine⟨?_,?_,?_,?_,?_,?_,?_,?_,trivial⟩<;>rfl
   (try dsimp only);exact⟨_,aC⟩
  obtain rfl:j=32:=by omega
  refine ah ?_
  refine aA (fS rfl rfl fW) ?_
  refine cW ?_
  refine cv (aw m.q) ?_
  refine ah ?_
  refine k4 0 ?_
  refine ah ?_
  refine aT ?_ ?_<;>intro cd
  ·exact bW cd
  refine k3 ?_
  refine ah ?_
  refine eg (i+1,c++[10]) ?_ ?_ ?_ ?_
  ·(try dsimp only);exact⟨by omega,by rw [bg,bb,F7 bh];unfold Dr;simp only [List.append_assoc,List.cons_append,List.nil_append],by rw [List.length_append];show c.length+1≤_;omega⟩
  ·(try dsimp only);omega
  ·refine⟨?_,?_,?_,?_,?_,?_,trivial⟩<;>rfl
  (try dsimp only);exact⟨_,aC⟩
 obtain rfl:i=x.ba.l.length:=by omega
 rw [List.take_length]at bb
 refine ah ?_
 refine dH (α:=Nat×List UInt8) (fun⟨i,b⟩=>i≤x.a0.l.length∧b=((([114,101,115,32]++jW x.cG++[10])++x.aG.l.flatMap vY)++x.ba.l.flatMap Dr)++(x.a0.l.take i).flatMap z6∧b.length≤50000+600*i) (fun⟨i,b⟩=>[(3,str b),(97,U (i:Int)),(96,U (x.a0.l.length:Int)),(0,x.v),(1,ag ay),(95,aw x.a0)]) (fun⟨i,b⟩=>[aa ay (bJ x) 41,K]) (fun⟨i,b⟩=>x.a0.l.length-i) (0,b) ?_ dD aC ?_
 ·exact⟨Nat.zero_le _,by rw [bb];exact(List.append_nil _).symm,by omega⟩
 rintro⟨i,b⟩ ⟨ak,bb,nF⟩
 dsimp only
 refine ah ?_
 refine aT ?_ ?_<;>intro c5
 ·obtain⟨d,bh⟩:∃d,x.a0.l[i]?=some d:=⟨_,List.getElem?_eq_getElem al⟩
  have bM:=jL (d 0)
  have bS:=jL (d 1)
  have cD:=JL (d 2)
  have cV:=tR [62] (Dq d) bu 4
  have ff:=tR [58] (Dp d) bu 16
  refine ah ?_
  refine aA (hN (aW:=cS) (aH:=23) (i:=i) (fun _=>rfl) rfl ar av.a0 ae bh) ?_
  refine da fun b9=>?_
  refine ki [aa b9 (cS d) 184] ae aC ?_
  refine aN [0,1] ?_
  refine bs 2 rfl (ed (v:=U (d 0)) ae) ?_
  refine aN [6] ?_
  refine bs 7 rfl (ed (v:=U (d 1)) ae) ?_
  refine aN [11] ?_
  refine bs 12 rfl (ed (v:=U (d 2)) ae) ?_
  refine aN [15] ?_
  refine bs 16 rfl (C7 rfl ae) ?_
  refine aN [19] ?_
  refine bs 20 rfl (C7 rfl ae) ?_
  refine aN [103] ?_
  refine gu (mP (d 0)) ?_
  refine bs 4 rfl (fS rfl rfl fW) ?_
  refine bs 5 rfl (fS rfl rfl fW) ?_
  refine aN [108] ?_
  refine gu (mP (d 1)) ?_
  refine bs 9 rfl (fS rfl rfl fW) ?_
  refine bs 10 rfl (fS rfl rfl fW) ?_
  refine aN [113] ?_
  refine gu (MP (d 2)) ?_
  refine bs 14 rfl (fS rfl rfl fW) ?_
  refine ky 17 (F8 (hX:=aa b9 (cS d) 184) ⟨b9,19,none⟩ (Dq d) 4 rfl bu (F6 rfl) [62] bu) ?_
  refine bs 18 rfl (fS rfl rfl fW) ?_
  refine ky 21 (F8 (hX:=aa b9 (cS d) 184) ⟨b9,3,none⟩ (Dp d) 16 rfl bu (F6 rfl) [58] bu) ?_
  refine bs 22 rfl (fS rfl rfl fW) ?_
  refine bs 23 rfl (fS rfl rfl fW) ?_
  refine bs 24 rfl (fS rfl rfl fW) ?_
  refine c7 [25,99] ?_
  refine eg (i+1,b++z6 d) ?_ ?_ ?_ ?_
  ·(try dsimp only);exact⟨by omega,by rw [bb,F7 bh];simp only [List.append_assoc,List.cons_append,List.nil_append],by rw [List.length_append];have:=R1 d;omega⟩
  ·(try dsimp only);omega
  ·refine⟨?_,?_,?_,?_,?_,?_,trivial⟩<;>rfl
  (try dsimp only);exact⟨_,aC⟩
 obtain rfl:i=x.a0.l.length:=by omega
 rw [List.take_length]at bb
 refine ah ?_
 exact bI ⟨by rw [bb];rfl,rfl⟩
abbrev hM(l:List Int):Nat→Int:=fun k=>l.getD k 0
abbrev vu:List (Nat→Int):=[hM [10,10,2,1],hM [20,18,5],hM [40,40,6,2]]
abbrev tM:List (Nat→Int):=[hM [0,1,1],hM [1,2,2],hM [2,0,3],hM [0,2,3]]
abbrev rG:List Mode:=[⟨3#32,ai.bG⟩,⟨6#32,ai.bG⟩,⟨7#32,ai.bG⟩]
abbrev nq(ay aM bw:Nat):bQ:=⟨1,ai.lit ay vu (by show 3≤_;decide),ai.lit aM rG (by show 3≤_;decide),ai.lit bw tM (by show 4≤_;decide)⟩
abbrev I6(b:Nat):ao B:=row (.slice (some ⟨b,0,none⟩) 3 3) 173 11 3 (vu.flatMap cg)
abbrev I7(b:Nat):ao B:=row (.slice (some ⟨b,0,none⟩) 3 3) 177 2 3 (rG.flatMap eI)
abbrev I8(b:Nat):ao B:=row (.slice (some ⟨b,0,none⟩) 4 4) 184 23 4 (tM.flatMap cS)
abbrev x6(x:bQ):List (ao B):=[cr x.aG 173 11 cg,cr x.ba 177 2 eI,cr x.a0 184 23 cS]
theorem UU(ay aM bw:Nat):(nq ay aM bw).In (all (x6 (B:=B) (nq ay aM bw))):=
  ⟨mh (.head _) (eh ai.ug rfl),mh (.tail _ (.head _)) (eh ai.ug rfl),mh (.tail _ (.tail _ (.head _))) (eh ai.ug rfl),fun m hm=>by
    have:m.q.l=[]:=by
      have h:m∈rG:=hm
      simp only [rG,List.mem_cons,List.not_mem_nil,or_false]at h
      rcases h with rfl|rfl|rfl<;>rfl
    rw [this];exact zL⟩
theorem three:aS B 33 [.bool false] [] (fun v S=>∃a b c:Nat,v=(nq a b c).v∧S=[I6 a,I7 b,I8 c]):=by
 refine bD 35 Tryz.func33 fun a4 ax=>?_
 refine da fun ay=>?_
 refine da fun aM=>?_
 refine da fun bw=>?_
 refine ds fun b9=>?_
 refine cW ?_
 refine aA (m7 rfl rfl ae (rfl:(0:Int)=((0:Nat):Int)) bu rfl) ?_
 refine dW ?_
 refine aA (m7 rfl rfl ae (rfl:(0:Int)=((0:Nat):Int)) bu rfl) ?_
 refine ah ?_
 refine js (au:=[U 10,U 10,U 2,U 1,U 0,U 0,U 0,U 0,U 0,U 0,U 0,U 20,U 18,U 5,U 0,U 0,U 0,U 0,U 0,U 0,U 0,U 0,U 40,U 40,U 6,U 2,U 0,U 0,U 0,U 0,U 0,U 0,U 0]) .no rfl ae bu bu (by rfl) (by rfl) rfl rfl (fun Av=>?_)
 refine xr (b:=Av) 3 11 (.here _ _) rfl rfl ?_
 rw [show(row (.slice (some ⟨Av,0,none⟩) 3 3) 173 11 3 [U 10,U 10,U 2,U 1,U 0,U 0,U 0,U 0,U 0,U 0,U 0,U 20,U 18,U 5,U 0,U 0,U 0,U 0,U 0,U 0,U 0,U 0,U 40,U 40,U 6,U 2,U 0,U 0,U 0,U 0,U 0,U 0,U 0]:ao B)=I6 Av from rfl]
 refine ah ?_
 refine js (au:=[aI 3,.slice none 0 0,aI 6,.slice none 0 0,aI 7,.slice none 0 0]) .no rfl ae bu bu (by rfl) (by rfl) rfl rfl (fun Aw=>?_)
 refine xr (b:=Aw) 3 2 (.here _ _) rfl rfl ?_
 rw [show(row (.slice (some ⟨Aw,0,none⟩) 3 3) 177 2 3 [aI 3,.slice none 0 0,aI 6,.slice none 0 0,aI 7,.slice none 0 0]:ao B)=I7 Aw from rfl]
 refine ah ?_
 refine da fun dK=>?_
 refine js (au:=[U 0,U 1,U 1,U 0,U 0,U 0,U 0,U 0,U 0,U 0,U 0,U 0,U 0,U 0,U 0,U 0,U 0,U 0,U 0,U 0,U 0,U 0,U 0,U 1,U 2,U 2,U 0,U 0,U 0,U 0,U 0,U 0,U 0,U 0,U 0,U 0,U 0,U 0,U 0,U 0,U 0,U 0,U 0,U 0,U 0,U 0,U 2,U 0,U 3,U 0,U 0,U 0,U 0,U 0,U 0,U 0,U 0,U 0,U 0,U 0,U 0,U 0,U 0,U 0,U 0,U 0,U 0,U 0,U 0,U 0,U 2,U 3,U 0,U 0,U 0,U 0,U 0,U 0,U 0,U 0,U 0,U 0,U 0,U 0,U 0,U 0,U 0,U 0,U 0,U 0,U 0,U 0]) .no rfl ae bu bu (by rfl) (by rfl) rfl rfl (fun Ax=>?_)
 refine xr (b:=Ax) 4 23 (.here _ _) rfl rfl ?_
 rw [show(row (.slice (some ⟨Ax,0,none⟩) 4 4) 184 23 4 [U 0,U 1,U 1,U 0,U 0,U 0,U 0,U 0,U 0,U 0,U 0,U 0,U 0,U 0,U 0,U 0,U 0,U 0,U 0,U 0,U 0,U 0,U 0,U 1,U 2,U 2,U 0,U 0,U 0,U 0,U 0,U 0,U 0,U 0,U 0,U 0,U 0,U 0,U 0,U 0,U 0,U 0,U 0,U 0,U 0,U 0,U 2,U 0,U 3,U 0,U 0,U 0,U 0,U 0,U 0,U 0,U 0,U 0,U 0,U 0,U 0,U 0,U 0,U 0,U 0,U 0,U 0,U 0,U 0,U 0,U 2,U 3,U 0,U 0,U 0,U 0,U 0,U 0,U 0,U 0,U 0,U 0,U 0,U 0,U 0,U 0,U 0,U 0,U 0,U 0,U 0,U 0]:ao B)=I8 Ax from rfl]
 refine ah ?_
 refine cc (.nil _) (gA rfl rfl ar ae (by rfl)) ?_
 exact⟨[I6 Av,I7 Aw,I8 Ax],⟨Av,Aw,Ax,rfl,rfl⟩,_,bq⟩
def cn(l:List UInt8):Int:=l.foldl (fun n b=>10*n+(b.toNat:Int)-48) 0
def DI(b:UInt8):Prop:=48≤b.toNat∧b.toNat≤57
instance(b:UInt8):Decidable (DI b):=inferInstanceAs (Decidable (_∧_))
structure iz(s:List UInt8):Prop where
  len:1≤s.length∧s.length≤10
  head:¬(1<s.length∧s[0]?=some 48)
  all:∀b∈s,DI b
  ec:cn s≤2147483647
theorem J9(l:List UInt8)(b:UInt8):cn (l++[b])=10*cn l+(b.toNat:Int)-48:=by unfold cn;rw [List.foldl_append];rfl
open Classical in
/--What a text is read as:the number,the error. -/
 noncomputable def Es(s:List UInt8):Int×Int:=if iz s then(cn s,0)else(0,10)
theorem x7{s:List UInt8}(h:iz s):Es s=(cn s,0):=if_pos h
theorem x8{s:List UInt8}(h:¬iz s):Es s=(0,10):=if_neg h
theorem UW:∀(k:Nat) (l:List UInt8),l.length≤k→-(48*((11^k:Nat):Int))≤cn l∧cn l≤255*((11^k:Nat):Int)
  |k,l,h=>by
    induction e:l.reverse generalizing l k with
    | nil => have : l = [] := by simpa using e
             subst this;have:0<11^k:=Nat.pow_pos (by decide);show _≤(0:Int)∧(0:Int)≤_;omega
    |cons b r ih=>
      have:l=r.reverse++[b]:=by rw [←List.reverse_reverse l,e];simp
      subst this
      rw [J9]
      cases k with
      |zero=>simp at h
      |succ k=>
        have:=ih k r.reverse (by simp at h⊢;omega) (by simp)
        have bb:=b.toNat_lt
        have aE:0<11^k:=Nat.pow_pos (by decide)
        rw [Nat.pow_succ]
        omega
def hY:List UInt8→List UInt8→List (List UInt8)
  |gU,[]=>if gU=[]then []else [gU]
  |gU,b::s=>if b=32 then(if gU=[]then hY [] s else gU::hY [] s)else hY (gU++[b]) s
abbrev pieces(s:List UInt8):List (List UInt8):=hY [] s
theorem DJ(gU s:List UInt8):hY gU (32::s)=(if gU=[]then hY [] s else gU::hY [] s):=if_pos rfl
theorem Hx{b:UInt8}(h:b≠32)(gU s:List UInt8):hY gU (b::s)=hY (gU++[b]) s:=if_neg h
def okB(s:List UInt8):Bool:=decide (1≤s.length∧s.length≤10)&&!(decide (1<s.length∧s[0]?=some 48))&&s.all (fun b=>decide (48≤b.toNat∧b.toNat≤57))&&decide (cn s≤2147483647)
theorem kE{s:List UInt8}(h:okB s=true):iz s:=by
  unfold okB at h
  simp only [Bool.and_eq_true,Bool.not_eq_true',decide_eq_true_eq,decide_eq_false_iff_not,List.all_eq_true]at h
  exact⟨h.1.1.1,h.1.1.2,h.1.2,h.2⟩
def fQ(dl:List (List UInt8)):List UInt8:=dl.flatMap (· ++[10])
abbrev Il(dl:List (List UInt8)):List (List Value):=dl.zipIdx.map fun p=>[.int .i64 ((p.2+1:Nat):Int),str p.1]
theorem vL(l:List (List UInt8)):(Il l).length=l.length:=by simp
theorem F9{l:List (List UInt8)}{i:Nat}{q:List UInt8}(h:l[i]?=some q):(Il l).getD i []=[U ((i+1:Nat):Int),str q]:=by
  simp [List.getD,h]
theorem K2{dl:List (List UInt8)}{i:Nat}{q:List UInt8}(h:dl[i]?=some q):fQ (dl.drop i)=q++([10]++fQ (dl.drop (i+1))):=by
  obtain⟨ab,af⟩:=List.getElem?_eq_some_iff.1 h
  rw [List.drop_eq_getElem_cons ab,af]
  unfold fQ;rw [List.flatMap_cons,List.append_assoc]
theorem UX(dl:List (List UInt8)):fQ (dl.drop dl.length)=[]:=by rw [List.drop_length];rfl
theorem WV{q r:List UInt8}:¬(q++([10]++r))=[]:=by simp
theorem WW(q r:List UInt8):(q++([10]++r))[q.length]?=some 10:=by simp
theorem WX{q r:List UInt8}{i:Nat}(h:i<q.length):(q++([10]++r))[i]?=q[i]?:=List.getElem?_append_left h
theorem Tc(q r:List UInt8):(q++([10]++r)).drop (q.length+1)=r:=by
  rw [←List.append_assoc,show q.length+1=(q++[10]).length by simp];exact List.drop_left
theorem R2{l:List UInt8}(h:l.length≤10): -1244996380848≤cn l∧cn l≤6614043273255:=by
  have ab:=UW 10 l h
  have e:(11^10:Nat)=25937424601:=by decide
  rw [e]at ab
  omega
theorem WY{s:List UInt8}{i:Nat}{b:UInt8}(h:s[i]?=some b):cn (s.take (i+1))=10*cn (s.take i)+(b.toNat:Int)-48:=by
  rw [List.take_add_one,h];exact J9 _ _
theorem Td{s:List UInt8}{i:Nat}{b:UInt8}{p:UInt8→Prop}(h:s[i]?=some b)(aO:∀c∈s.take i,p c)(bb:p b):∀c∈s.take (i+1),p c:=by
  rw [List.take_add_one,h]
  intro c bg
  rcases List.mem_append.1 bg with bg|bg
  · exact aO c bg
  · have:c=b:=by simpa using bg
    subst this;exact bb
theorem z7(s:List UInt8):aS B 171 [str s] [] (fun v S=>v= .tuple #[U (Es s).1,U (Es s).2]∧S=[]):=by
 refine dn 50 Tryz.func171 fun a4 ax=>?_
 refine cW ?_
 refine k5 (α:=Unit) (fun _=>1≤s.length∧s.length≤10∧¬(1<s.length∧s[0]?=some 48)) (fun _=>[(0,str s)]) (fun _=>[]) ?_ ?_
 ·skip
  refine ah ?_
  refine aA (k6 (b:=[]) rfl rfl rfl) ?_
  refine ah ?_
  refine cC ?_ ?_<;>intro ab
  ·exact bI ⟨by rw [x8 (fun aj=>by have:=aj.len.1;rw [ab]at this;simp at this)],rfl⟩
  refine cC ?_ ?_<;>intro af
  ·exact bI ⟨by rw [x8 (fun aj=>by have:=aj.len.2;omega)],rfl⟩
  refine cC ?_ ?_<;>intro az
  ·obtain⟨adZ,AX⟩:∃b,s[0]?=some b:=⟨_,List.getElem?_eq_getElem al⟩
   refine ah ?_
   refine aA (ul (i:=0) rfl rfl ae rfl AX) (hw:=(.yes 17 rfl rfl rfl)) ?_
   refine ah ?_
   refine aT ?_ ?_<;>intro a5
   ·exact bI ⟨by rw [x8 (fun aj=>aj.head ⟨by omega,by rw [AX];exact congrArg some (UInt8.toNat_inj.1 (show adZ.toNat=48 by omega))⟩)],rfl⟩
   exact fj () ⟨by omega,by omega,fun e=>a5 (by have dd:=e.2;rw [AX]at dd;have fD:=Option.some.inj dd;rw [fD];rfl)⟩
  exact fj () ⟨by have:s.length≠0:=fun e=>ab (List.length_eq_zero_iff.1 e);omega,by omega,fun e=>by have:=e.1;omega⟩
 rintro _ ⟨AB,sh,Px⟩
 refine ah ?_
 refine dH (α:=Nat) (fun i=>i≤s.length∧∀b∈s.take i,DI b) (fun i=>[(4,U (cn (s.take i))),(24,U (s.length:Int)),(25,U (i:Int)),(0,str s)]) (fun i=>[]) (fun i=>s.length-i) 0 ?_ dD aC ?_
 ·exact⟨Nat.zero_le _,fun b h=>by simp at h⟩
 rintro i ⟨ak,aD⟩
 have ck:=R2 (l:=s.take i) (by rw [List.length_take];omega)
 refine ah ?_
 refine aT ?_ ?_<;>intro cd
 ·obtain⟨b,bb⟩:∃b,s[i]?=some b:=⟨_,List.getElem?_eq_getElem al⟩
  have nF:=b.toNat_lt
  refine ah ?_
  refine aA (ul (i:=i) rfl rfl ae rfl bb) ?_
  refine ah ?_
  refine cC ?_ ?_<;>intro c5
  ·exact bI ⟨by rw [x8 (fun aj=>by have:=aj.all b (List.mem_of_getElem? bb);have:=this.1;omega)],rfl⟩
  refine aA (ul (i:=i) rfl rfl ae rfl bb) (hw:=(.yes 32 rfl rfl rfl)) ?_
  refine ah ?_
  refine aT ?_ ?_<;>intro fo
  ·exact bI ⟨by rw [x8 (fun aj=>by have:=aj.all b (List.mem_of_getElem? bb);have:=this.2;omega)],rfl⟩
  have acT:DI b:=⟨by omega,by omega⟩
  refine ah ?_
  refine aA (oz (m:=10) (n:=cn (s.take i)) rfl rfl al al) ?_
  refine ah ?_
  refine aA (ul (i:=i) rfl rfl ae rfl bb) ?_
  refine aA (Tn (z:=(b.toNat:Int)-48) rfl rfl (u8_in al al)) ?_
  refine aA (kn (z:=(b.toNat:Int)-48) rfl ae (nQ al al)) ?_
  refine aA (pO (m:=10*cn (s.take i)) (n:=(b.toNat:Int)-48) rfl rfl al al) ?_
  refine ah ?_
  refine eg (i+1) ?_ ?_ ?_ ?_
  ·exact⟨by omega,Td bb aD acT⟩
  ·omega
  ·refine⟨by rw [WY bb];exact congrArg (fun n=>some (Value.int .i64 n)) al,?_,?_,?_,trivial⟩<;>rfl
  exact⟨_,aC⟩
 obtain rfl:i=s.length:=by omega
 rw [List.take_length]at aD
 refine ah ?_
 refine aT ?_ ?_<;>intro gx
 ·exact bI ⟨by rw [x8 (fun aj=>by have:=aj.ec;rw [List.take_length]at gx;omega)],rfl⟩
 exact bI ⟨by rw [x7 ⟨⟨AB,sh⟩,Px,aD,by rw [List.take_length]at gx;omega⟩,List.take_length],rfl⟩
theorem xX{α:Type}{s:List α}{i:Nat}{b:α}(h:s[i]?=some b):s.drop i=b::s.drop (i+1):=by
  obtain⟨ab,af⟩:=List.getElem?_eq_some_iff.1 h
  rw [List.drop_eq_getElem_cons ab,af]
abbrev Im(l:List (List UInt8)):List (List Value):=l.zipIdx.map fun p=>[.int .i64 (p.2:Int),str p.1]
theorem rP(l:List (List UInt8)):(Im l).length=l.length:=by simp
theorem zv{l:List (List UInt8)}{i:Nat}{q:List UInt8}(h:l[i]?=some q):(Im l).getD i []=[U (i:Int),str q]:=by
  simp [List.getD,h]
theorem C9:∀(s gU:List UInt8),(hY gU s).length≤s.length+1
  |[],gU=>by rw [hY];split<;>simp
  |b::s,gU=>by
    have ab:=C9 s [];have af:=C9 s (gU++[b])
    by_cases bb:b=32
    · subst bb;rw [DJ];split<;>simp<;>omega
    · rw [Hx bb];simp;omega
def acU:Option Nat→Int
  |none=> -1
  |some f=>(f:Int)
def lB(s:List UInt8)(i:Nat):Option Nat→List UInt8
  |none=>[]
  |some f=>(s.drop f).take (i-f)
theorem CO{s:List UInt8}{i f:Nat}(h:f<i)(ak:i≤s.length):lB s i (some f)≠[]:=fun e=>by
  have:=congrArg List.length e
  simp [lB]at this;omega
theorem Rf{s:List UInt8}{i:Nat}{b:UInt8}(h:s[i]?=some b):lB s (i+1) (some i)=lB s i none++[b]:=by
  show(s.drop i).take (i+1-i)=[b]
  rw [xX h,show i+1-i=1 by omega];rfl
theorem WZ{s:List UInt8}{i f:Nat}{b:UInt8}(h:s[i]?=some b)(br:f≤i):lB s (i+1) (some f)=lB s i (some f)++[b]:=by
  show(s.drop f).take (i+1-f)=(s.drop f).take (i-f)++[b]
  rw [show i+1-f=(i-f)+1 by omega,List.take_add_one,List.getElem?_drop,Nat.add_sub_cancel' br,h];rfl
theorem Ga(s:List UInt8):aS B 58 [str s] [] (fun v S=>∃b,v= .func (.func 109) #[] #[ag b]∧S=[aa b [str s] 9]):=by
 refine bD 4 Tryz.func58 fun a4 ax=>?_
 refine fe fun ay=>?_
 exact⟨[aa ay [str s] 9],⟨ay,rfl,rfl⟩,_,aC⟩
theorem G1(b:Nat)(s:List UInt8)(aB:s.length≤5000000):
  mW Tryz.prog B 109 [ag b] [aa b [str s] 9] (Im (pieces s)):=by
 intro cu J gN cb gv aZ
 change dQ _ _ _ _ (aa b [str s] 9::cb) _
 refine bD 37 Tryz.func109 fun a4 ax=>?_
 refine dH (α:=Nat×Nat×Option Nat×List (ao B)) (fun⟨i,n,h5,aP⟩=>i≤s.length+1∧J n aP∧(∃out,pieces s=out++hY (lB s i h5) (s.drop i)∧out.length=n)∧∀f,h5=some f→f<i∧i≤s.length) (fun⟨i,n,h5,aP⟩=>[(3,U (n:Int)),(4,U (acU h5)),(5,U (i:Int)),(0,.func (.yield cu) #[] #[]),(1,ag b)]) (fun⟨i,n,h5,aP⟩=>aa b [str s] 9::aP) (fun⟨i,n,h5,aP⟩=>s.length+1-i) (0,0,none,cb) ?_ dD aC ?_
 ·exact⟨Nat.zero_le _,gv,⟨[],rfl,rfl⟩,fun f h=>by cases h⟩
 rintro⟨i,n,h5,aP⟩ ⟨ak,bt,⟨out,ap,sr⟩,A8⟩
 dsimp only
 have j9:s.length≤5000000:=aB
 have En:n≤s.length+1:=by have ab:(pieces s).length≤s.length+1:=C9 s [];have af:=congrArg List.length ap;rw [List.length_append]at af;omega
 refine ah ?_
 refine aT ?_ ?_<;>intro ab
 ·refine cC ?_ ?_<;>intro af
  ·obtain⟨aM,bb⟩:∃b,s[i]?=some b:=⟨_,List.getElem?_eq_getElem al⟩
   refine ah ?_
   refine aA (ul (i:=i) rfl rfl ae rfl bb) (hw:=(.yes 16 rfl rfl rfl)) ?_
   refine ah ?_
   refine aT ?_ ?_<;>intro az
   ·refine aT ?_ ?_<;>intro a5
    ·have s7:h5=none:=by cases h5 with|none=>rfl|some f=>exact absurd a5 (by show¬(f:Int)<0;omega)
     refine ah ?_
     refine eg (i+1,n,some i,aP) ?_ ?_ ?_ ?_
     ·(try dsimp only);exact⟨by omega,bt,⟨out,by rw [ap,Rf bb,xX bb,s7,Hx (fun e=>az (by rw [e];rfl))],sr⟩,fun f h=>by cases h;omega⟩
     ·(try dsimp only);omega
     ·refine⟨?_,?_,?_,?_,?_,trivial⟩<;>rfl
     (try dsimp only);exact⟨_,aC⟩
    obtain⟨f,Ny⟩:∃f,h5=some f:=by cases h5 with|none=>exact absurd a5 bu|some f=>exact⟨f,rfl⟩
    refine ah ?_
    refine eg (i+1,n,h5,aP) ?_ ?_ ?_ ?_
    ·(try dsimp only);exact⟨by omega,bt,⟨out,by rw [ap,xX bb,Ny,Hx (fun e=>az (by rw [e];rfl)),WZ bb (by have:=A8 f Ny;omega)],sr⟩,fun f h=>by have:=A8 f h;omega⟩
    ·(try dsimp only);omega
    ·refine⟨?_,?_,?_,?_,?_,trivial⟩<;>rfl
    (try dsimp only);exact⟨_,aC⟩
   have Hy:aM=32:=UInt8.toNat_inj.1 (show aM.toNat=32 by omega)
   refine ah ?_
   refine aT ?_ ?_<;>intro cd
   ·obtain⟨f,rfl⟩:∃f,h5=some f:=by cases h5 with|none=>exact absurd cd bu|some f=>exact⟨f,rfl⟩
    have tE:=A8 f rfl
    have A9:(pieces s)[n]?=some (lB s i (some f)):=by rw [ap,(show hY (lB s i (some f)) (s.drop i)=lB s i (some f)::hY [] (s.drop (i+1))by rw [xX bb,Hy,DJ,if_neg (CO tE.1 tE.2)]), ←sr,List.getElem?_append_right (Nat.le_refl _)];simp
    have Ba:n<(pieces s).length:=(List.getElem?_eq_some_iff.1 A9).1
    have fI:=aZ n aP (by rw [rP];exact Ba) bt
    rw [zv A9]at fI
    refine ah ?_
    refine aA (vE (gY:=f) (ak:=i) (p:=lB s i (some f)) rfl ae ⟨_,rfl⟩ ⟨_,rfl⟩ al al rfl) ?_
    refine iB (own:=[aa b [str s] 9]) (hU:=aP) .no rfl rfl fI rfl ?_
    rintro og aQ aE
    refine cU ?_
    refine aT ?_ ?_<;>intro c5
    ·obtain⟨h,_⟩|⟨_,aE⟩:=aE
     ·rw [h]at c5;cases c5
     exact⟨aa b [str s] 9::aQ,⟨aQ,rfl,.inr ⟨n,by rw [rP];exact Ba,aE⟩⟩,_,aC⟩
    obtain⟨_,aE⟩|⟨h,_⟩:=aE
    rotate_left
    ·rw [h]at c5;cases c5
    refine ah ?_
    refine eg (i+1,n+1,none,aQ) ?_ ?_ ?_ ?_
    ·(try dsimp only);exact⟨by omega,aE,⟨out++[lB s i (some f)],by rw [ap,(show hY (lB s i (some f)) (s.drop i)=lB s i (some f)::hY [] (s.drop (i+1))by rw [xX bb,Hy,DJ,if_neg (CO tE.1 tE.2)]),List.append_assoc];rfl,by simp [sr]⟩,fun f h=>by cases h⟩
    ·(try dsimp only);omega
    ·refine⟨?_,?_,?_,?_,?_,trivial⟩<;>rfl
    (try dsimp only);exact⟨_,aC⟩
   have s7:h5=none:=by cases h5 with|none=>rfl|some f=>exact absurd cd (by show¬(f:Int)<0;omega)
   refine ah ?_
   refine eg (i+1,n,h5,aP) ?_ ?_ ?_ ?_
   ·(try dsimp only);exact⟨by omega,bt,⟨out,by rw [ap,s7,xX bb,Hy];exact congrArg (out++ ·) (DJ _ _),sr⟩,fun f h=>by rw [s7]at h;cases h⟩
   ·(try dsimp only);omega
   ·refine⟨?_,?_,?_,?_,?_,trivial⟩<;>rfl
   (try dsimp only);exact⟨_,aC⟩
  refine aT ?_ ?_<;>intro fo
  ·obtain⟨f,rfl⟩:∃f,h5=some f:=by cases h5 with|none=>exact absurd fo bu|some f=>exact⟨f,rfl⟩
   have tE:=A8 f rfl
   have A9:(pieces s)[n]?=some (lB s i (some f)):=by rw [ap,(show hY (lB s i (some f)) (s.drop i)=lB s i (some f)::hY [] (s.drop (i+1))by rw [List.drop_eq_nil_of_le al,List.drop_eq_nil_of_le al,hY,if_neg (CO tE.1 tE.2)];rfl), ←sr,List.getElem?_append_right (Nat.le_refl _)];simp
   have Ba:n<(pieces s).length:=(List.getElem?_eq_some_iff.1 A9).1
   have fI:=aZ n aP (by rw [rP];exact Ba) bt
   rw [zv A9]at fI
   refine ah ?_
   refine aA (vE (gY:=f) (ak:=i) (p:=lB s i (some f)) rfl ae ⟨_,rfl⟩ ⟨_,rfl⟩ al al rfl) ?_
   refine iB (own:=[aa b [str s] 9]) (hU:=aP) .no rfl rfl fI rfl ?_
   rintro og aQ aE
   refine cU ?_
   refine aT ?_ ?_<;>intro gx
   ·obtain⟨h,_⟩|⟨_,aE⟩:=aE
    ·rw [h]at gx;cases gx
    exact⟨aa b [str s] 9::aQ,⟨aQ,rfl,.inr ⟨n,by rw [rP];exact Ba,aE⟩⟩,_,aC⟩
   obtain⟨_,aE⟩|⟨h,_⟩:=aE
   rotate_left
   ·rw [h]at gx;cases gx
   refine ah ?_
   refine eg (i+1,n+1,none,aQ) ?_ ?_ ?_ ?_
   ·(try dsimp only);exact⟨by omega,aE,⟨out++[lB s i (some f)],by rw [ap,(show hY (lB s i (some f)) (s.drop i)=lB s i (some f)::hY [] (s.drop (i+1))by rw [List.drop_eq_nil_of_le al,List.drop_eq_nil_of_le al,hY,if_neg (CO tE.1 tE.2)];rfl),List.append_assoc];rfl,by simp [sr]⟩,fun f h=>by cases h⟩
   ·(try dsimp only);omega
   ·refine⟨?_,?_,?_,?_,?_,trivial⟩<;>rfl
   (try dsimp only);exact⟨_,aC⟩
  have s7:h5=none:=by cases h5 with|none=>rfl|some f=>exact absurd fo (by show¬(f:Int)<0;omega)
  refine ah ?_
  refine eg (i+1,n,h5,aP) ?_ ?_ ?_ ?_
  ·(try dsimp only);exact⟨by omega,bt,⟨out,by rw [ap,s7,List.drop_eq_nil_of_le al,List.drop_eq_nil_of_le al];rfl,sr⟩,fun f h=>by rw [s7]at h;cases h⟩
  ·(try dsimp only);omega
  ·refine⟨?_,?_,?_,?_,?_,trivial⟩<;>rfl
  (try dsimp only);exact⟨_,aC⟩
 have s7:h5=none:=by cases h5 with|none=>rfl|some f=>have:=A8 f rfl;omega
 rw [s7,List.drop_eq_nil_of_le al]at ap
 have acV:pieces s=out:=by rw [ap];exact List.append_nil _
 exact⟨aa b [str s] 9::aP,⟨aP,rfl,.inl (by rw [rP,acV,sr];exact bt)⟩,_,aC⟩
theorem MQ(s:List UInt8):aS B 57 [str s] [] (fun v S=>∃b,v= .func (.func 108) #[] #[ag b]∧S=[aa b [str s] 9]):=by
 refine bD 4 Tryz.func57 fun a4 ax=>?_
 refine fe fun ay=>?_
 exact⟨[aa ay [str s] 9],⟨ay,rfl,rfl⟩,_,aC⟩
theorem CP{E:Env}{d:Nat}:sz E d d none:=rfl
theorem UY(dl:List (List UInt8)):dl.length≤(fQ dl).length:=by
  induction dl with
  |nil=>exact Nat.le_refl _
  |cons a l ih=>unfold fQ at*;rw [List.flatMap_cons,List.length_append,List.length_cons,List.length_append];show _≤_+1+_;omega
theorem W0{dl:List (List UInt8)}{i:Nat}(h:(fQ dl).length≤1000000):(fQ (dl.drop i)).length≤1000000:=by
  have e:fQ dl=fQ (dl.take i)++fQ (dl.drop i):=by unfold fQ;rw [←List.flatMap_append,List.take_append_drop]
  rw [e,List.length_append]at h;omega
theorem Nz(b:Nat)(dl:List (List UInt8))(aB:(fQ dl).length≤1000000)(iw:∀q∈dl,∀c∈q,c≠10∧c≠35)(hlen:∀q∈dl,q.length≤100000):NM Tryz.prog B 108 [ag b] [aa b [str (fQ dl)] 9] [ex (fun z:List UInt8=>[aa b [str z] 9])] (Il dl):=by
 intro cu J gN cb gv aZ
 change dQ _ _ _ _ (aa b [str (fQ (dl.drop 0))] 9::cb) _
 refine bD 49 Tryz.func108 fun a4 ax=>?_
 refine dH (α:=Nat×List (ao B)) (fun⟨i,aP⟩=>i≤dl.length∧J i aP) (fun⟨i,aP⟩=>[(3,U ((i+1:Nat):Int)),(0,.func (.yield cu) #[] #[]),(1,ag b)]) (fun⟨i,aP⟩=>aa b [str (fQ (dl.drop i))] 9::aP) (fun⟨i,aP⟩=>dl.length-i) (0,cb) ?_ dD aC ?_
 ·exact⟨Nat.zero_le _,gv⟩
 rintro⟨i,aP⟩ ⟨ak,bt⟩
 dsimp only
 have P2:=Nat.le_trans (UY dl) aB
 refine ah ?_
 refine aA (k6 (q:=!(fQ (dl.drop i)==[])) rfl rfl rfl) ?_
 refine ah ?_
 refine bX ?_ ?_<;>intro ab
 ·have o9:i<dl.length:=by rcases Nat.lt_or_ge i dl.length with g|g;exact g;exact absurd (by rw [show i=dl.length by omega];exact UX dl) ab
  obtain⟨q,bP⟩:∃q,dl[i]?=some q:=⟨_,List.getElem?_eq_getElem o9⟩
  have wD:=K2 bP
  have Oz:=iw q (List.mem_of_getElem? bP)
  have Ea:=hlen q (List.mem_of_getElem? bP)
  have afh:(fQ (dl.drop (i+1))).length≤1000000:=W0 aB
  rw [wD]
  refine ah ?_
  refine dH (α:=Nat) (fun k=>k≤q.length) (fun k=>[(4,str (q++([10]++fQ (dl.drop (i+1))))),(5,str []),(15,U (k:Int)),(14,U ((q++([10]++fQ (dl.drop (i+1)))).length:Int)),(0,.func (.yield cu) #[] #[]),(1,ag b),(3,U ((i+1:Nat):Int))]) (fun k=>aa b [str (q++([10]++fQ (dl.drop (i+1))))] 9::aP) (fun k=>q.length-k) 0 ?_ dD aC ?_
  ·exact Nat.zero_le _
  intro k aj
  refine ah ?_
  refine aT ?_ ?_<;>intro af
  ·obtain⟨c,bb⟩:∃c,(q++([10]++fQ (dl.drop (i+1))))[k]?=some c:=⟨_,List.getElem?_eq_getElem (by simp only [List.length_append,List.length_cons];omega)⟩
   refine ah ?_
   refine aA (ul (i:=k) rfl rfl ae rfl bb) ?_
   refine ah ?_
   refine aT ?_ ?_<;>intro az
   ·have iy:k=q.length:=by rcases Nat.lt_or_ge k q.length with g|g;(rw [WX g]at bb;exact absurd (show c=10 from UInt8.toNat_inj.1 (by show c.toNat=10;omega)) (Oz c (List.mem_of_getElem? bb)).1);omega
    subst iy
    refine ah ?_
    refine ki [aa b [str (q++([10]++fQ (dl.drop (i+1))))] 9] ae aC ?_
    refine aN [0,1] ?_
    refine bs 2 rfl (vE (AG:=none) (gY:=0) (ak:=q.length) (p:=q) rfl ae rfl ⟨_,rfl⟩ (Nat.zero_le _) (by simp only [List.length_append,List.length_cons];omega) (by simp)) ?_
    refine aN [3,4,5] ?_
    refine bs 6 rfl (vE (yr:=none) (gY:=q.length+1) (ak:=(q++([10]++fQ (dl.drop (i+1)))).length) (p:=(fQ (dl.drop (i+1)))) rfl ae ⟨_,rfl⟩ CP (by simp only [List.length_append,List.length_cons];omega) (Nat.le_refl _) (by rw [Tc,List.take_of_length_le fW])) ?_
    refine c7 [7,8,99] ?_
    refine dH (α:=Nat) (fun k=>k≤q.length) (fun k=>[(4,str q),(33,U (k:Int)),(32,U (q.length:Int)),(0,.func (.yield cu) #[] #[]),(1,ag b),(3,U ((i+1:Nat):Int))]) (fun k=>aa b [str (fQ (dl.drop (i+1)))] 9::aP) (fun k=>q.length-k) 0 ?_ dD aC ?_
    ·exact Nat.zero_le _
    intro k aj
    refine ah ?_
    refine aT ?_ ?_<;>intro a5
    ·obtain⟨bC,bg⟩:∃c,q[k]?=some c:=⟨_,List.getElem?_eq_getElem al⟩
     refine ah ?_
     refine aA (ul (i:=k) rfl rfl ae rfl bg) ?_
     refine ah ?_
     refine aT ?_ ?_<;>intro cd
     ·exact absurd (show bC=35 from UInt8.toNat_inj.1 (by show bC.toNat=35;omega)) (Oz bC (List.mem_of_getElem? bg)).2
     refine fX (k+1) ?_
     show k+1≤_;omega
    have fI:=aZ i aP (by rw [vL];exact o9) bt
    rw [F9 bP]at fI
    refine ah ?_
    refine iB (own:=[aa b [str (fQ (dl.drop (i+1)))] 9]) (hU:=aP) .no rfl rfl fI rfl ?_
    rintro og aQ aE
    refine cU ?_
    refine bX ?_ ?_<;>intro c5
    ·refine td (kT (F:=fun z:List UInt8=>[aa b [str z] 9]) (fQ (dl.drop (i+1))) aC) ?_
     refine ah ?_
     obtain⟨h,_⟩|⟨_,aE⟩:=aE
     ·rw [h]at c5;cases c5
     exact⟨ex (fun z:List UInt8=>[aa b [str z] 9])::aQ,⟨aQ,rfl,.inr ⟨i,by rw [vL];exact o9,aE⟩⟩,_,aC⟩
    obtain⟨_,aE⟩|⟨h,_⟩:=aE
    rotate_left
    ·rw [h]at c5;cases c5
    refine ah ?_
    refine eg (i+1,aQ) ?_ ?_ ?_ ?_
    ·(try dsimp only);exact⟨by omega,aE⟩
    ·(try dsimp only);omega
    ·refine⟨?_,?_,?_,trivial⟩<;>rfl
    (try dsimp only);exact⟨_,aC⟩
   have iy:k<q.length:=by rcases Nat.lt_or_ge k q.length with g|g;exact g;(have e:k=q.length:=by omega);subst e;rw [WW]at bb;injection bb with bb;subst bb;exact absurd rfl az
   refine ah ?_
   refine fX (k+1) ?_
   show k+1≤_;omega
  simp only [List.length_append,List.length_cons]at af;omega
 have o9:i=dl.length:=by rcases Nat.lt_or_ge i dl.length with g|g;exact absurd ab (by obtain⟨q,bP⟩:∃q,dl[i]?=some q:=⟨_,List.getElem?_eq_getElem g⟩;rw [K2 bP];exact WV);omega
 refine td (kT (F:=fun z:List UInt8=>[aa b [str z] 9]) (fQ (dl.drop i)) aC) ?_
 refine ah ?_
 subst o9
 exact⟨ex (fun z:List UInt8=>[aa b [str z] 9])::aP,⟨aP,rfl,.inl (by rw [vL];exact bt)⟩,_,aC⟩
abbrev fr(l:List UInt8):List Value:=[str l]
theorem Zd(x:List UInt8)(c:Int)(w:World):(callFunc 272 [str x,.int .u8 c].toArray).run Tryz.prog w= .ok (.value (U (Lib.indexByte x c.toNat.toUInt8))) w:=by
  rw [run_callFunc_extern Tryz.func272 (by kernel_rfl) (by kernel_rfl) (by kernel_rfl) (e:=Extern.BytealgIndexByte.indexByte) (by kernel_rfl)]
  show((Extern.BytealgIndexByte.indexByte #[.string ⟨x.toArray⟩,.int .u8 c]).run _ w).andThen _=_
  rw [Lib.run_indexByteString];simp [Result.andThen]
theorem LS{P:Program}{A:eD}{N:Nat}{an:List Nat}{E:Env}{S:List (ao B)}{t n e aH c:Nat}{bl:Addr}{x i:Operand}{k:IntKind}(av:aX E x=some (.slice (some bl) n c))(ak:aX E i=some (.int k 0))(aR:hz P t=some (e,aH))(a7:Nat.blt 0 n=true):dp P B A N an E S (.indexAddr t x i) (.pointer (some bl)):=by
  have h:dp P B A N an E S (.indexAddr t x i) (.pointer (some (bl.add 0))):=Gd (j:=0) av ak aR rfl (Nat.le_of_ble_eq_true a7) (Nat.zero_mul _)
  have e:bl.add 0=bl:=by obtain⟨b,o,q⟩:=bl;cases q<;>simp [Addr.add]
  rwa [e]at h
theorem aaH(x:List UInt8)(c:Int):aS B 229 [str x,.int .u8 c] [] (fun v S=>v=U (Lib.indexByte x c.toNat.toUInt8)∧S=[]):=by
 refine bD 8 Tryz.func229 fun a4 ax=>?_
 refine aA (XL (args:=[str x,.int .u8 c]) rfl (Zd x c)) ?_
 exact mz
theorem OA(x:List UInt8)(c:Int):aS B 174 [str x,.int .u8 c] [] (fun v S=>v=U (Lib.indexByte x c.toNat.toUInt8)∧S=[]):=by
 refine bD 8 Tryz.func174 fun a4 ax=>?_
 refine fL (aaH x c) ?_
 exact bA
theorem sb(r:Nat)(cj dg bC dP:Value)(p:ai (List UInt8))(aE:p.Own)(i:Nat)(q:List UInt8)(bP:p.l[i]?=some q)(dy:iz q):aS B 225 [ag r,U (i:Int)] [aa r [cj,dg,bC,dP,aw p] 230,cr p 9 1 fr] (fun v S=>v= .tuple #[U (cn q),.bool true]∧S=[aa r [cj,dg,bC,dP,aw p] 230,cr p 9 1 fr]):=by
 refine dn 29 Tryz.func225 fun a4 ax=>?_
 have o9:=(List.getElem?_eq_some_iff.1 bP).1
 have lY:=p.small
 refine ah ?_
 refine aT ?_ ?_<;>intro ab
 ·exact bW ab
 refine aA (eO (aW:=fr) (aH:=1) (i:=i) (k:=0) (fun _=>rfl) rfl ar (eh aE rfl) ae bP rfl) ?_
 refine dA (z7 q) ?_
 rw [x7 dy]
 refine ct ?_
 refine bH (U (cn q)) ?_
 refine bH (U 0) ?_
 exact mz
theorem W1(b:Nat)(t0 t1 t2:Int)(x:List UInt8)(j:Nat)(aY:Lib.indexByte x 58=(j:Int))(Ig:j<x.length)(wP:x.length≤1000)(bM:iz (x.take j))(bS:iz (x.drop (j+1)))(cD:cn (x.take j)=0)(cV:cn (x.drop (j+1))≠0):aS B 226 [str x,.int .u8 58,.slice (some ⟨b,3,none⟩) 8 8] [aa b (cg (hM [t0,t1,t2])) 173] (fun v S=>v= .bool true∧S=[aa b (cg (hM [t0,t1,t2,(cn (x.drop (j+1)))])) 173]):=by
 refine bD 59 Tryz.func226 fun a4 ax=>?_
 refine dA (OA x 58) ?_
 rw [show Lib.indexByte x (58:Int).toNat.toUInt8=(j:Int)from aY]
 refine kZ ?_
 refine aT ?_ ?_<;>intro ab
 ·first|omega|exact absurd ab cV|exact absurd rfl ab|simp at ab
 refine aA (vE (AG:=none) (gY:=0) (ak:=j) (p:=x.take j) rfl ae CP ⟨_,rfl⟩ (Nat.zero_le _) al (by simp)) ?_
 refine dA (z7 (x.take j)) ?_
 rw [x7 bM,cD]
 refine ct ?_
 refine bH (U 0) ?_
 refine bH (U 0) ?_
 refine ah ?_
 refine aA (vE (yr:=none) (gY:=j+1) (ak:=x.length) (p:=x.drop (j+1)) rfl ae ⟨_,rfl⟩ CP al (Nat.le_refl _) (List.take_of_length_le (by simp))) ?_
 refine dA (z7 (x.drop (j+1))) ?_
 rw [x7 bS]
 refine ct ?_
 refine bH (U (cn (x.drop (j+1)))) ?_
 refine bH (U 0) ?_
 refine ah ?_
 refine cC ?_ ?_<;>intro af
 ·first|omega|exact absurd af cV|exact absurd rfl af|simp at af
 refine cC ?_ ?_<;>intro az
 ·first|omega|exact absurd az cV|exact absurd rfl az|simp at az
 refine cC ?_ ?_<;>intro a5
 ·first|omega|exact absurd a5 cV|exact absurd rfl a5|simp at a5
 refine cC ?_ ?_<;>intro cd
 ·first|omega|exact absurd cd cV|exact absurd rfl cd|simp at cd
 refine aA (LS rfl rfl ae rfl) (hw:=(.yes 48 rfl rfl rfl)) ?_
 refine cv (U 0) ?_
 refine gD ?_
 refine aT ?_ ?_<;>intro c5
 ·first|omega|exact absurd c5 cV|exact absurd rfl c5|simp at c5
 refine aA (LS rfl rfl ae rfl) ?_
 refine ah ?_
 exact⟨[aa b (cg (hM [t0,t1,t2,(cn (x.drop (j+1)))])) 173],⟨rfl,rfl⟩,_,bq⟩
theorem xI{P:Program}{A:eD}{N:Nat}{an:List Nat}{E:Env}{S:List (ao B)}{t n e c b j:Nat}{m:Int}{x i:Operand}{k:IntKind}(av:aX E x=some (.slice (some ⟨b,0,none⟩) n c))(ak:aX E i=some (.int k m))(aR:hz P t=some (e,1))(hm:m=(j:Int))(a7:Nat.blt j n=true):dp P B A N an E S (.indexAddr t x i) (.pointer (some ⟨b,j,none⟩)):=by
  have h:dp P B A N an E S (.indexAddr t x i) (.pointer (some ((⟨b,0,none⟩:Addr).add j))):=Gd (j:=j) av ak aR hm (Nat.le_of_ble_eq_true a7) (Nat.mul_one j)
  rwa [mG,Nat.zero_add]at h
theorem UZ{α:Type}{a:ai α}{aH l i:Nat}{x:α}{ab:l≤a.l.length}{az:a.l.length≤a.c}(h:a.l[l+i]?=some x):(a.cut aH l a.l.length a.c ab (Nat.le_refl _) az).l[i]?=some x:=by
  have aJ:=(List.getElem?_eq_some_iff.1 h).1
  show((a.l.drop l).take (a.l.length-l))[i]?=some x
  rw [List.getElem?_take_of_lt (by omega),List.getElem?_drop];exact h
theorem zw{α:Type}{a:ai α}{aH l:Nat}{ab:l≤a.l.length}{az:a.l.length≤a.c}:(a.cut aH l a.l.length a.c ab (Nat.le_refl _) az).l.length=a.l.length-l:=by
  show((a.l.drop l).take (a.l.length-l)).length=_;simp
theorem Ze(r:Nat)(cj dg bC dP:Value)(p:ai (List UInt8))(aE:p.Own)(af:p.l.length=2)(q:List UInt8)(bP:p.l[1]?=some q)(dy:iz q):aS B 158 [ag r] [aa r [cj,dg,bC,dP,aw p] 230,cr p 9 1 fr] (fun v S=>v= .bool true∧S=[aa r [(U (cn q)),dg,bC,dP,aw p] 230,cr p 9 1 fr]):=by
 refine bD 24 Tryz.func158 fun a4 ax=>?_
 refine dA (sb r cj dg bC dP p aE 1 q bP dy) ?_
 refine ct ?_
 refine bH (U (cn q)) ?_
 refine bH (.bool true) ?_
 refine ah ?_
 exact⟨[aa r [(U (cn q)),dg,bC,dP,aw p] 230,cr p 9 1 fr],⟨by rw [af];rfl,rfl⟩,_,bq⟩
theorem U0(r:Nat)(cj bC dP:Value)(p:ai (List UInt8))(aE:p.Own)(bf:ai (Nat→Int))(pG:bf.l.length≤1000)(bY bK eu:List UInt8)(mv:p.l[1]?=some bY)(tu:p.l[2]?=some bK)(Io:p.l[3]?=some eu)(jl:iz bY)(kY:iz bK)(Ip:iz eu)(sd:p.l.length=4):aS B 159 [ag r] [aa r [cj,aw bf,bC,dP,aw p] 230,cr p 9 1 fr,cr bf 173 11 cg] (fun v S=>∃ja:ai (Nat→Int),(ja.l=bf.l++[(hM [cn bY,cn bK,cn eu])]∧ja.Own)∧v= .bool true∧S=[aa r [cj,aw ja,bC,dP,aw p] 230,cr p 9 1 fr,cr ja 173 11 cg]):=by
 refine dn 62 Tryz.func159 fun a4 ax=>?_
 have rv:4≤p.l.length:=by omega
 have hh:(p.cut 1 4 p.l.length p.c rv (Nat.le_refl _) p.cap).l.length=p.l.length-4:=zw
 refine ah ?_
 refine da fun ay=>?_
 refine js (au:=[ag ay,.pointer (some ⟨ay,1,none⟩),.pointer (some ⟨ay,2,none⟩)]) .no rfl ae bu bu (by rfl) (by rfl) rfl rfl (fun aaI=>?_)
 refine ah ?_
 refine k4 3 ?_
 refine cW ?_
 refine aT ?_ ?_<;>intro ab
 ·refine aA (xI (j:=0) rfl rfl ae rfl rfl) ?_
  refine cv (ag ay) ?_
  refine ah ?_
  refine dA (sb r cj (aw bf) bC dP p aE 1 bY mv jl) ?_
  refine ct ?_
  refine bH (U (cn bY)) ?_
  refine bH (.bool true) ?_
  refine ah ?_
  refine nN ?_
  refine cW ?_
  refine aT ?_ ?_<;>intro af
  ·refine aA (xI (j:=1) rfl rfl ae rfl rfl) ?_
   refine cv (.pointer (some ⟨ay,1,none⟩)) ?_
   refine ah ?_
   refine dA (sb r cj (aw bf) bC dP p aE 2 bK tu kY) ?_
   refine ct ?_
   refine bH (U (cn bK)) ?_
   refine bH (.bool true) ?_
   refine ah ?_
   refine nN ?_
   refine cW ?_
   refine aT ?_ ?_<;>intro az
   ·refine aA (xI (j:=2) rfl rfl ae rfl rfl) ?_
    refine cv (.pointer (some ⟨ay,2,none⟩)) ?_
    refine ah ?_
    refine dA (sb r cj (aw bf) bC dP p aE 3 eu Io Ip) ?_
    refine ct ?_
    refine bH (U (cn eu)) ?_
    refine bH (.bool true) ?_
    refine ah ?_
    refine nN ?_
    refine cW ?_
    refine aT ?_ ?_<;>intro a5
    ·simp at a5
    refine k3 ?_
    refine ah ?_
    refine aA (xu (a:=p) (aH:=1) (l:=4) (h:=p.l.length) (m:=p.c) rfl ae (by exact⟨_,rfl⟩) (by exact rfl) (by exact rfl) (by intro h;exact rfl) rv (Nat.le_refl _) p.cap (Nat.le_refl _)) ?_
    refine ah ?_
    refine k4 0 ?_
    refine ah ?_
    refine aT ?_ ?_<;>intro cd
    ·rw [hh,sd]at cd;simp at cd
    refine k3 ?_
    refine ah ?_
    refine c8 [aa r [cj,aw bf,bC,dP,aw p] 230,aa ay [U (cn bY),U (cn bK),U (cn eu),U 0,U 0,U 0,U 0,U 0,U 0,U 0,U 0] 173] ae aC ?_
    refine aN [0,1,2,3,4] ?_
    refine bs 5 rfl (ed (v:=aw bf) ae) ?_
    refine bs 6 rfl (dw (bx:=cg (hM [cn bY,cn bK,cn eu])) rfl ar ae rfl (by rfl)) ?_
    refine aN [107] ?_
    refine lN (au:=(([(hM [cn bY,cn bK,cn eu])]:List _).flatMap cg)) rfl .no rfl ae bu bu (by rfl) (by rfl) rfl rfl (fun Bb=>?_)
    refine aN [108] ?_
    refine mb (aW:=cg) (c:=bf) (b:=ai.lit Bb [(hM [cn bY,cn bK,cn eu])] (by simp)) rfl .no rfl rfl ae ar dr (show Out (aa Bb (([(hM [cn bY,cn bK,cn eu])]:List _).flatMap cg) 173) _ _ from ar) hF (fun _=>rfl) (fun _=>rfl) (by show bf.l.length+1≤_;omega) (by show(bf.l.length+1)*_≤_;omega) rfl (fun ja oI q5=>?_)
    refine c7 [9,10,11,112,99] ?_
    exact⟨[aa r [cj,aw ja,bC,dP,aw p] 230,cr p 9 1 fr,cr ja 173 11 cg],⟨ja,⟨oI,q5⟩,rfl,rfl⟩,_,bq⟩
   simp at az
  simp at af
 simp at ab
theorem U1(r:Nat)(cj bC dP:Value)(p:ai (List UInt8))(aE:p.Own)(bf:ai (Nat→Int))(pG:bf.l.length≤1000)(bY bK eu:List UInt8)(mv:p.l[1]?=some bY)(tu:p.l[2]?=some bK)(Io:p.l[3]?=some eu)(jl:iz bY)(kY:iz bK)(Ip:iz eu)(sd:p.l.length=5)(x:List UInt8)(av:p.l[4]?=some x)(j:Nat)(aY:Lib.indexByte x 58=(j:Int))(Ig:j<x.length)(wP:x.length≤1000)(bM:iz (x.take j))(bS:iz (x.drop (j+1)))(cD:cn (x.take j)=0)(cV:cn (x.drop (j+1))≠0):aS B 159 [ag r] [aa r [cj,aw bf,bC,dP,aw p] 230,cr p 9 1 fr,cr bf 173 11 cg] (fun v S=>∃ja:ai (Nat→Int),(ja.l=bf.l++[(hM [cn bY,cn bK,cn eu,cn (x.drop (j+1))])]∧ja.Own)∧v= .bool true∧S=[aa r [cj,aw ja,bC,dP,aw p] 230,cr p 9 1 fr,cr ja 173 11 cg]):=by
 refine dn 62 Tryz.func159 fun a4 ax=>?_
 have rv:4≤p.l.length:=by omega
 have hh:(p.cut 1 4 p.l.length p.c rv (Nat.le_refl _) p.cap).l.length=p.l.length-4:=zw
 refine ah ?_
 refine da fun ay=>?_
 refine js (au:=[ag ay,.pointer (some ⟨ay,1,none⟩),.pointer (some ⟨ay,2,none⟩)]) .no rfl ae bu bu (by rfl) (by rfl) rfl rfl (fun aaI=>?_)
 refine ah ?_
 refine k4 3 ?_
 refine cW ?_
 refine aT ?_ ?_<;>intro ab
 ·refine aA (xI (j:=0) rfl rfl ae rfl rfl) ?_
  refine cv (ag ay) ?_
  refine ah ?_
  refine dA (sb r cj (aw bf) bC dP p aE 1 bY mv jl) ?_
  refine ct ?_
  refine bH (U (cn bY)) ?_
  refine bH (.bool true) ?_
  refine ah ?_
  refine nN ?_
  refine cW ?_
  refine aT ?_ ?_<;>intro af
  ·refine aA (xI (j:=1) rfl rfl ae rfl rfl) ?_
   refine cv (.pointer (some ⟨ay,1,none⟩)) ?_
   refine ah ?_
   refine dA (sb r cj (aw bf) bC dP p aE 2 bK tu kY) ?_
   refine ct ?_
   refine bH (U (cn bK)) ?_
   refine bH (.bool true) ?_
   refine ah ?_
   refine nN ?_
   refine cW ?_
   refine aT ?_ ?_<;>intro az
   ·refine aA (xI (j:=2) rfl rfl ae rfl rfl) ?_
    refine cv (.pointer (some ⟨ay,2,none⟩)) ?_
    refine ah ?_
    refine dA (sb r cj (aw bf) bC dP p aE 3 eu Io Ip) ?_
    refine ct ?_
    refine bH (U (cn eu)) ?_
    refine bH (.bool true) ?_
    refine ah ?_
    refine nN ?_
    refine cW ?_
    refine aT ?_ ?_<;>intro a5
    ·simp at a5
    refine k3 ?_
    refine ah ?_
    refine aA (xu (a:=p) (aH:=1) (l:=4) (h:=p.l.length) (m:=p.c) rfl ae (by exact⟨_,rfl⟩) (by exact rfl) (by exact rfl) (by intro h;exact rfl) rv (Nat.le_refl _) p.cap (Nat.le_refl _)) ?_
    refine ah ?_
    refine k4 1 ?_
    refine ah ?_
    refine aT ?_ ?_<;>intro cd
    ·refine aA (hx (j:=0) rfl rfl ae (p.cut 1 4 p.l.length p.c rv (Nat.le_refl _) p.cap).en (rfl:(0:Int)=((0:Nat):Int)) (by rw [zw,sd];decide) rfl) ?_
     refine aA (eO (aW:=fr) (aH:=1) (i:=0) (k:=0) (fun _=>rfl) rfl ar (L2 (fun _=>rfl) (eh aE rfl)) ae (UZ (i:=0) av) rfl) ?_
     refine ah ?_
     refine aA (C7 rfl ae) ?_
     refine lP .no e2 rfl (W1 ay (cn bY) (cn bK) (cn eu) x j aY Ig wP bM bS cD cV) bq rfl ?_
     rintro _ _ ⟨rfl,rfl⟩
     simp only [List.cons_append,List.nil_append]
     refine dW ?_
     refine aT ?_ ?_<;>intro c5
     ·simp at c5
     refine nN ?_
     refine ah ?_
     refine aT ?_ ?_<;>intro fo
     ·rw [hh,sd]at fo;simp at fo
     refine k3 ?_
     refine ah ?_
     refine c8 [aa r [cj,aw bf,bC,dP,aw p] 230,aa ay (cg (hM [cn bY,cn bK,cn eu,cn (x.drop (j+1))])) 173] ae aC ?_
     refine aN [0,1,2,3,4] ?_
     refine bs 5 rfl (ed (v:=aw bf) ae) ?_
     refine bs 6 rfl (dw (bx:=cg (hM [cn bY,cn bK,cn eu,cn (x.drop (j+1))])) rfl ar ae rfl (by rfl)) ?_
     refine aN [107] ?_
     refine lN (au:=(([(hM [cn bY,cn bK,cn eu,cn (x.drop (j+1))])]:List _).flatMap cg)) rfl .no rfl ae bu bu (by rfl) (by rfl) rfl rfl (fun Bb=>?_)
     refine aN [108] ?_
     refine mb (aW:=cg) (c:=bf) (b:=ai.lit Bb [(hM [cn bY,cn bK,cn eu,cn (x.drop (j+1))])] (by simp)) rfl .no rfl rfl ae ar dr (show Out (aa Bb (([(hM [cn bY,cn bK,cn eu,cn (x.drop (j+1))])]:List _).flatMap cg) 173) _ _ from ar) hF (fun _=>rfl) (fun _=>rfl) (by show bf.l.length+1≤_;omega) (by show(bf.l.length+1)*_≤_;omega) rfl (fun ja oI q5=>?_)
     refine c7 [9,10,11,112,99] ?_
     exact⟨[aa r [cj,aw ja,bC,dP,aw p] 230,cr p 9 1 fr,cr ja 173 11 cg],⟨ja,⟨oI,q5⟩,rfl,rfl⟩,_,bq⟩
    rw [hh,sd]at cd;simp at cd
   simp at az
  simp at af
 simp at ab
def lM(l:List (List UInt8)):Nat→BitVec 32
  |0=>0#32
  |i+1=>lM l i|||(1#32<<<(cn (l.getD (i+1) [])).toNat)
structure G2(l:List (List UInt8)):Prop where
  ne:1≤l.length
  each:∀i q,l[i+1]?=some q→iz q∧0≤cn q∧cn q≤31∧¬(lM l i>>>(cn q).toNat&&&1#32)=1#32
theorem aaJ{l:List (List UInt8)}{i:Nat}{q:List UInt8}(h:l[i+1]?=some q):lM l (i+1)=lM l i|||(1#32<<<(cn q).toNat):=by rw [lM];simp [List.getD,h]
theorem Rg{k p:Int}(ab:1≤k∧k≤3)(af:1≤p∧p≤3)(h:pi k=pi p):k=p:=by
  rcases(show k=1∨k=2∨k=3 by omega)with rfl|rfl|rfl<;>rcases(show p=1∨p=2∨p=3 by omega)with rfl|rfl|rfl<;>first|rfl|exact absurd h (by decide)
theorem W2(r:Nat)(cj dg dP:Value)(p:ai (List UInt8))(aE:p.Own)(eT:ai Mode)(ry:eT.l.length≤1000)(dy:G2 p.l):aS B 160 [ag r] [aa r [cj,dg,aw eT,dP,aw p] 230,cr p 9 1 fr,cr eT 177 2 eI] (fun v S=>∃lF:ai Mode,(lF.l=eT.l++[(⟨lM p.l (p.l.length-1),ai.bG⟩:Mode)]∧lF.Own)∧v= .bool true∧S=[aa r [cj,dg,aw lF,dP,aw p] 230,cr p 9 1 fr,cr lF 177 2 eI]):=by
 refine dn 57 Tryz.func160 fun a4 ax=>?_
 have jn:1≤p.l.length:=dy.ne
 have hh:(p.cut 1 1 p.l.length p.c jn (Nat.le_refl _) p.cap).l.length=p.l.length-1:=zw
 have lY:=p.small
 refine ah ?_
 refine da fun ay=>?_
 refine aA (xu (a:=p) (aH:=1) (l:=1) (h:=p.l.length) (m:=p.c) rfl ae (by exact⟨_,rfl⟩) (by exact rfl) (by exact rfl) (by intro h;exact rfl) jn (Nat.le_refl _) p.cap (Nat.le_refl _)) ?_
 refine ah ?_
 rw [show(aa ay [aI 0,.slice none 0 0] 177:ao B)=aa ay [aI (lM p.l 0).toNat,.slice none 0 0] 177 from rfl]
 refine dH (α:=Nat) (fun i=>i≤p.l.length-1) (fun i=>[(14,U (i:Int)),(13,U ((p.cut 1 1 p.l.length p.c jn (Nat.le_refl _) p.cap).l.length:Int)),(0,ag r),(3,ag ay)]) (fun i=>[aa r [cj,dg,aw eT,dP,aw p] 230,cr p 9 1 fr,cr eT 177 2 eI,aa ay [aI (lM p.l i).toNat,.slice none 0 0] 177]) (fun i=>p.l.length-1-i) 0 ?_ dD aC ?_
 ·exact Nat.zero_le _
 intro i ak
 refine ah ?_
 refine aT ?_ ?_<;>intro ab
 ·obtain⟨q,bP⟩:∃q,p.l[i+1]?=some q:=⟨_,List.getElem?_eq_getElem al⟩
  obtain⟨ap,qJ,ib,Au⟩:=dy.each i q bP
  have aaK:=aaJ bP
  refine ah ?_
  rw [show(1+(i:Int))=((i+1:Nat):Int)by omega]
  refine dA (sb r cj dg (aw eT) dP p aE (i+1) q bP ap) ?_
  refine ct ?_
  refine bH (U (cn q)) ?_
  refine bH (.bool true) ?_
  refine ah ?_
  refine li ?_ ?_<;>intro af
  ·exact bW af
  refine ct ?_
  refine cv (aI (lM p.l i).toNat) ?_
  refine ah ?_
  refine aA (sM rfl rfl rfl al al) (hw:=(.yes 30 rfl rfl rfl)) ?_
  refine aA (hH rfl rfl (ej _) rfl rfl) (hw:=(.yes 30 rfl rfl rfl)) ?_
  refine ah ?_
  refine aT ?_ ?_<;>intro az
  ·exact absurd (BitVec.eq_of_toNat_eq (by have dc:(1#32:BitVec 32).toNat=1:=rfl;rw [dc];exact Int.ofNat.inj az)) Au
  refine c8 [aa ay [aI (lM p.l i).toNat,.slice none 0 0] 177] ae aC ?_
  refine aN [0] ?_
  refine bs 1 rfl (ed (v:=aI (lM p.l i).toNat) ae) ?_
  refine aN [2] ?_
  refine bs 3 rfl (zm rfl rfl rfl al al) ?_
  refine bs 4 rfl (hH rfl rfl (ej _) (ej _) rfl) ?_
  refine c7 [5,106,99] ?_
  refine eg (i+1) ?_ ?_ ?_ ?_
  ·show i+1≤_;omega
  ·omega
  ·refine⟨?_,?_,?_,?_,trivial⟩<;>rfl
  rw [aaK];exact⟨_,bq⟩
 obtain rfl:i=p.l.length-1:=by omega
 refine ah ?_
 refine c8 [aa r [cj,dg,aw eT,dP,aw p] 230,aa ay [aI (lM p.l (p.l.length-1)).toNat,.slice none 0 0] 177] ae aC ?_
 refine aN [0,1,2,3,4] ?_
 refine bs 5 rfl (ed (v:=aw eT) ae) ?_
 refine bs 6 rfl (dw (bx:=eI (⟨lM p.l (p.l.length-1),ai.bG⟩:Mode)) rfl ar ae rfl (by rfl)) ?_
 refine aN [107] ?_
 refine lN (au:=(([(⟨lM p.l (p.l.length-1),ai.bG⟩:Mode)]:List _).flatMap eI)) rfl .no rfl ae bu bu (by rfl) (by rfl) rfl rfl (fun P3=>?_)
 refine aN [108] ?_
 refine mb (aW:=eI) (c:=eT) (b:=ai.lit P3 [(⟨lM p.l (p.l.length-1),ai.bG⟩:Mode)] (by simp)) rfl .no rfl rfl ae ar dr (show Out (aa P3 (([(⟨lM p.l (p.l.length-1),ai.bG⟩:Mode)]:List _).flatMap eI) 177) _ _ from ar) hF (fun _=>rfl) (fun _=>rfl) (by show eT.l.length+1≤_;omega) (by show(eT.l.length+1)*_≤_;omega) rfl (fun lF oI q5=>?_)
 refine c7 [9,10,11,112,99] ?_
 exact⟨[aa r [cj,dg,aw lF,dP,aw p] 230,cr p 9 1 fr,cr lF 177 2 eI],⟨lF,⟨oI,q5⟩,rfl,rfl⟩,_,bq⟩
theorem W3(r:Nat)(cj dg bC:Value)(p:ai (List UInt8))(aE:p.Own)(es:ai (Nat→Int))(rz:es.l.length≤1000)(bY bK:List UInt8)(mv:p.l[1]?=some bY)(tu:p.l[2]?=some bK)(jl:iz bY)(kY:iz bK)(sd:p.l.length=4)(hZ:Int)(acW:1≤hZ∧hZ≤3)(hw:p.l[3]?=some (pi hZ)):aS B 162 [ag r] [aa r [cj,dg,bC,aw es,aw p] 230,cr p 9 1 fr,cr es 184 23 cS] (fun v S=>∃lG:ai (Nat→Int),(lG.l=es.l++[(hM [cn bY,cn bK,hZ])]∧lG.Own)∧v= .bool true∧S=[aa r [cj,dg,bC,aw lG,aw p] 230,cr p 9 1 fr,cr lG 184 23 cS]):=by
 refine dn 91 Tryz.func162 fun a4 ax=>?_
 have rv:4≤p.l.length:=by omega
 have hh:(p.cut 1 4 p.l.length p.c rv (Nat.le_refl _) p.cap).l.length=p.l.length-4:=zw
 refine ah ?_
 refine dA (sb r cj dg bC (aw es) p aE 1 bY mv jl) ?_
 refine ct ?_
 refine bH (U (cn bY)) ?_
 refine bH (.bool true) ?_
 refine ah ?_
 refine dA (sb r cj dg bC (aw es) p aE 2 bK tu kY) ?_
 refine ct ?_
 refine bH (U (cn bK)) ?_
 refine bH (.bool true) ?_
 refine uN ?_
 refine bX ?_ ?_<;>intro ab
 ·exact bW ab
 refine kk ?_
 refine ik ?_
 refine dZ ?_
 refine fl ?_
 refine aA (dh rfl) ?_
 refine aA (dh rfl) ?_
 refine aA (qj [_,_,_,_,_,_,_,_,_,_,_,_,_,_,_,_,_,_,_,_,_,_,_] rfl ae (by rfl)) ?_
 refine ds fun ay=>?_
 refine fw (hA rfl rfl rfl ar ae rfl rfl) ?_
 refine hd ?_
 refine dZ ?_
 refine dZ ?_
 refine fl ?_
 refine aA (dh rfl) ?_
 refine hd ?_
 refine qY ?_
 rw [show(aa ay [U (cn bY),U (cn bK),U 0,U 0,U 0,U 0,U 0,U 0,U 0,U 0,U 0,U 0,U 0,U 0,U 0,U 0,U 0,U 0,U 0,U 0,U 0,U 0,U 0] 184:ao B)=aa ay [U (cn bY),U (cn bK),U (if hZ<(1:Int)then hZ else 0),U 0,U 0,U 0,U 0,U 0,U 0,U 0,U 0,U 0,U 0,U 0,U 0,U 0,U 0,U 0,U 0,U 0,U 0,U 0,U 0] 184 from by rw [if_neg al]]
 refine dH (α:=Int) (fun hb=>1≤hb∧hb≤4) (fun hb=>[(8,U hb),(0,ag r),(7,ag ay)]) (fun hb=>[aa r [cj,dg,bC,aw es,aw p] 230,cr p 9 1 fr,cr es 184 23 cS,aa ay [U (cn bY),U (cn bK),U (if hZ<hb then hZ else 0),U 0,U 0,U 0,U 0,U 0,U 0,U 0,U 0,U 0,U 0,U 0,U 0,U 0,U 0,U 0,U 0,U 0,U 0,U 0,U 0] 184]) (fun hb=>(4-hb).toNat) 1 ?_ dD aC ?_
 ·exact⟨by decide,by decide⟩
 rintro hb ⟨Eh,jm⟩
 refine ah ?_
 refine aT ?_ ?_<;>intro af
 ·refine ki [aa r [cj,dg,bC,aw es,aw p] 230,cr p 9 1 fr] ae aC ?_
  refine aN [0,2,3,4,5] ?_
  refine cy 6 rfl (h7 (j:=3) rfl rfl ae (p).en rfl al rfl) ?_
  refine bs 7 rfl (eO (aW:=fr) (aH:=1) (i:=3) (k:=0) (fun _=>rfl) rfl ar (eh aE rfl) ae hw rfl) ?_
  refine aN [101] ?_
  refine gu (MP hb) ?_
  refine bs 8 rfl (k6 (a:=pi hb) (b:=pi hZ) rfl rfl rfl) ?_
  refine c7 [99] ?_
  refine aT ?_ ?_<;>intro az
  ·refine eg (hb+1) ?_ ?_ ?_ ?_
   ·exact⟨by omega,by omega⟩
   ·omega
   ·refine⟨?_,?_,?_,trivial⟩<;>rfl
   rw [show(if hZ<hb+1 then hZ else 0)=hb by have:=Rg ⟨Eh,by omega⟩ acW az;rw [if_pos al];exact this.symm];exact⟨_,bq⟩
  refine eg (hb+1) ?_ ?_ ?_ ?_
  ·exact⟨by omega,by omega⟩
  ·omega
  ·refine⟨?_,?_,?_,trivial⟩<;>rfl
  rw [show(if hZ<hb+1 then hZ else 0)=(if hZ<hb then hZ else 0)by have kI:hb≠hZ:=(fun e=>az (by rw [e]));by_cases er:hZ<hb;(rw [if_pos er,if_pos al]);(rw [if_neg er,if_neg al])];exact⟨_,bq⟩
 obtain rfl:hb=4:=by omega
 rw [if_pos (show hZ<4 by omega)]
 refine ah ?_
 refine aA (xu (a:=p) (aH:=1) (l:=4) (h:=p.l.length) (m:=p.c) rfl ae (by exact⟨_,rfl⟩) (by exact rfl) (by exact rfl) (by intro h;exact rfl) rv (Nat.le_refl _) p.cap (Nat.le_refl _)) ?_
 refine ah ?_
 refine k4 0 ?_
 refine ah ?_
 refine aT ?_ ?_<;>intro a5
 ·rw [hh,sd]at a5;simp at a5
 refine k3 ?_
 refine ah ?_
 refine c8 [aa r [cj,dg,bC,aw es,aw p] 230,aa ay [U (cn bY),U (cn bK),U hZ,U 0,U 0,U 0,U 0,U 0,U 0,U 0,U 0,U 0,U 0,U 0,U 0,U 0,U 0,U 0,U 0,U 0,U 0,U 0,U 0] 184] ae aC ?_
 refine aN [0,1,2,3,4] ?_
 refine bs 5 rfl (ed (v:=aw es) ae) ?_
 refine bs 6 rfl (dw (bx:=[U (cn bY),U (cn bK),U hZ,U 0,U 0,U 0,U 0,U 0,U 0,U 0,U 0,U 0,U 0,U 0,U 0,U 0,U 0,U 0,U 0,U 0,U 0,U 0,U 0]) rfl ar ae rfl (by rfl)) ?_
 refine aN [107] ?_
 refine lN (au:=[U (cn bY),U (cn bK),U hZ,U 0,U 0,U 0,U 0,U 0,U 0,U 0,U 0,U 0,U 0,U 0,U 0,U 0,U 0,U 0,U 0,U 0,U 0,U 0,U 0]) rfl .no rfl ae bu bu (by rfl) jZ rfl rfl (fun Et=>?_)
 rw [show(aa Et [U (cn bY),U (cn bK),U hZ,U 0,U 0,U 0,U 0,U 0,U 0,U 0,U 0,U 0,U 0,U 0,U 0,U 0,U 0,U 0,U 0,U 0,U 0,U 0,U 0] 184:ao B)=aa Et (([(hM [cn bY,cn bK,hZ])]:List _).flatMap cS) 184 from rfl]
 refine aN [108] ?_
 refine mb (aW:=cS) (c:=es) (b:=ai.lit Et [(hM [cn bY,cn bK,hZ])] (by simp)) rfl .no rfl rfl ae ar dr (show Out (aa Et (([(hM [cn bY,cn bK,hZ])]:List _).flatMap cS) 184) _ _ from ar) hF (fun _=>rfl) (fun _=>rfl) (by show es.l.length+1≤_;omega) (by show(es.l.length+1)*_≤_;omega) rfl (fun lG oI q5=>?_)
 refine aN [9,10,11,112,99] ?_
 refine gK ?_
 refine cv (U hZ) ?_
 refine ah ?_
 have bb:(!(hZ==0))=true:=by simp;omega
 refine⟨[aa r [cj,dg,bC,aw lG,aw p] 230,cr p 9 1 fr,cr lG 184 23 cS],⟨lG,⟨oI,q5⟩,?_,rfl⟩,_,aC⟩
 exact congrArg Value.bool bb
theorem Zf(r:Nat)(cj dg bC dP:Value)(p:ai (List UInt8))(aE:p.Own)(hw:p.l[0]?=some [114,101,115])(aP:List (ao B))(post:List (ao B)→Prop)(b7:aS B 158 [ag r] (aa r [cj,dg,bC,dP,aw p] 230::cr p 9 1 fr::aP) (fun v S=>v= .bool true∧post S)):aS B 102 [ag r,.bool true] (aa r [cj,dg,bC,dP,aw p] 230::cr p 9 1 fr::aP) (fun v S=>v= .bool true∧post S):=by
 refine dn 40 Tryz.func102 fun a4 ax=>?_
 have rk:=(List.getElem?_eq_some_iff.1 hw).1
 refine mn ?_
 refine aA (hx (j:=0) rfl rfl ae (p).en (rfl:(0:Int)=((0:Nat):Int)) al rfl) ?_
 refine aA (eO (aW:=fr) (aH:=1) (i:=0) (k:=0) (fun _=>rfl) rfl ar (eh aE rfl) ae hw rfl) ?_
 refine aA (k6 (a:=[114,101,115]) (b:=[114,101,115]) rfl rfl rfl) ?_
 refine aA (Dc rfl rfl ae rfl) ?_
 refine ct ?_
 refine bX ?_ ?_<;>intro ab
 ·exact bW ab
 refine jT ?_
 refine aA (hx (j:=0) rfl rfl ae (p).en (rfl:(0:Int)=((0:Nat):Int)) al rfl) ?_
 refine aA (eO (aW:=fr) (aH:=1) (i:=0) (k:=0) (fun _=>rfl) rfl ar (eh aE rfl) ae hw rfl) ?_
 refine ah ?_
 refine aA (k6 (a:=[114,101,115]) (b:=[114,101,115]) rfl rfl rfl) ?_
 refine dW ?_
 refine aT ?_ ?_<;>intro af
 ·refine cA (b7) ?_
  rintro _ aQ ⟨rfl,vZ⟩
  try simp only [List.cons_append,List.nil_append]
  refine ah ?_
  exact⟨aQ,⟨rfl,vZ⟩,_,bq⟩
 exact absurd bu af
theorem MR(r:Nat)(cj dg bC dP:Value)(p:ai (List UInt8))(aE:p.Own)(hw:p.l[0]?=some [116,97,115,107])(aP:List (ao B))(post:List (ao B)→Prop)(b7:aS B 159 [ag r] (aa r [cj,dg,bC,dP,aw p] 230::cr p 9 1 fr::aP) (fun v S=>v= .bool true∧post S)):aS B 102 [ag r,.bool false] (aa r [cj,dg,bC,dP,aw p] 230::cr p 9 1 fr::aP) (fun v S=>v= .bool true∧post S):=by
 refine dn 40 Tryz.func102 fun a4 ax=>?_
 have rk:=(List.getElem?_eq_some_iff.1 hw).1
 refine mn ?_
 refine aA (hx (j:=0) rfl rfl ae (p).en (rfl:(0:Int)=((0:Nat):Int)) al rfl) ?_
 refine aA (eO (aW:=fr) (aH:=1) (i:=0) (k:=0) (fun _=>rfl) rfl ar (eh aE rfl) ae hw rfl) ?_
 refine aA (k6 (a:=[116,97,115,107]) (b:=[114,101,115]) rfl rfl rfl) ?_
 refine aA (Dc rfl rfl ae rfl) ?_
 refine ct ?_
 refine bX ?_ ?_<;>intro ab
 ·exact bW ab
 refine jT ?_
 refine aA (hx (j:=0) rfl rfl ae (p).en (rfl:(0:Int)=((0:Nat):Int)) al rfl) ?_
 refine aA (eO (aW:=fr) (aH:=1) (i:=0) (k:=0) (fun _=>rfl) rfl ar (eh aE rfl) ae hw rfl) ?_
 refine ah ?_
 refine aA (k6 (a:=[116,97,115,107]) (b:=[114,101,115]) rfl rfl rfl) ?_
 refine dW ?_
 refine aT ?_ ?_<;>intro af
 ·exact absurd af bu
 refine aA (k6 (a:=[116,97,115,107]) (b:=[116,97,115,107]) rfl rfl rfl) ?_
 refine dW ?_
 refine aT ?_ ?_<;>intro az
 ·refine cA (b7) ?_
  rintro _ aQ ⟨rfl,vZ⟩
  try simp only [List.cons_append,List.nil_append]
  refine ah ?_
  exact⟨aQ,⟨rfl,vZ⟩,_,bq⟩
 exact absurd bu az
theorem W4(r:Nat)(cj dg bC dP:Value)(p:ai (List UInt8))(aE:p.Own)(hw:p.l[0]?=some [109,111,100,101])(aP:List (ao B))(post:List (ao B)→Prop)(b7:aS B 160 [ag r] (aa r [cj,dg,bC,dP,aw p] 230::cr p 9 1 fr::aP) (fun v S=>v= .bool true∧post S)):aS B 102 [ag r,.bool false] (aa r [cj,dg,bC,dP,aw p] 230::cr p 9 1 fr::aP) (fun v S=>v= .bool true∧post S):=by
 refine dn 40 Tryz.func102 fun a4 ax=>?_
 have rk:=(List.getElem?_eq_some_iff.1 hw).1
 refine mn ?_
 refine aA (hx (j:=0) rfl rfl ae (p).en (rfl:(0:Int)=((0:Nat):Int)) al rfl) ?_
 refine aA (eO (aW:=fr) (aH:=1) (i:=0) (k:=0) (fun _=>rfl) rfl ar (eh aE rfl) ae hw rfl) ?_
 refine aA (k6 (a:=[109,111,100,101]) (b:=[114,101,115]) rfl rfl rfl) ?_
 refine aA (Dc rfl rfl ae rfl) ?_
 refine ct ?_
 refine bX ?_ ?_<;>intro ab
 ·exact bW ab
 refine jT ?_
 refine aA (hx (j:=0) rfl rfl ae (p).en (rfl:(0:Int)=((0:Nat):Int)) al rfl) ?_
 refine aA (eO (aW:=fr) (aH:=1) (i:=0) (k:=0) (fun _=>rfl) rfl ar (eh aE rfl) ae hw rfl) ?_
 refine ah ?_
 refine aA (k6 (a:=[109,111,100,101]) (b:=[114,101,115]) rfl rfl rfl) ?_
 refine dW ?_
 refine aT ?_ ?_<;>intro af
 ·exact absurd af bu
 refine aA (k6 (a:=[109,111,100,101]) (b:=[116,97,115,107]) rfl rfl rfl) ?_
 refine dW ?_
 refine aT ?_ ?_<;>intro az
 ·exact absurd az bu
 refine aA (k6 (a:=[109,111,100,101]) (b:=[109,111,100,101]) rfl rfl rfl) ?_
 refine dW ?_
 refine aT ?_ ?_<;>intro a5
 ·refine cA (b7) ?_
  rintro _ aQ ⟨rfl,vZ⟩
  try simp only [List.cons_append,List.nil_append]
  refine ah ?_
  exact⟨aQ,⟨rfl,vZ⟩,_,bq⟩
 exact absurd bu a5
theorem W5(r:Nat)(cj dg bC dP:Value)(p:ai (List UInt8))(aE:p.Own)(hw:p.l[0]?=some [101,100,103,101])(aP:List (ao B))(post:List (ao B)→Prop)(b7:aS B 162 [ag r] (aa r [cj,dg,bC,dP,aw p] 230::cr p 9 1 fr::aP) (fun v S=>v= .bool true∧post S)):aS B 102 [ag r,.bool false] (aa r [cj,dg,bC,dP,aw p] 230::cr p 9 1 fr::aP) (fun v S=>v= .bool true∧post S):=by
 refine dn 40 Tryz.func102 fun a4 ax=>?_
 have rk:=(List.getElem?_eq_some_iff.1 hw).1
 refine mn ?_
 refine aA (hx (j:=0) rfl rfl ae (p).en (rfl:(0:Int)=((0:Nat):Int)) al rfl) ?_
 refine aA (eO (aW:=fr) (aH:=1) (i:=0) (k:=0) (fun _=>rfl) rfl ar (eh aE rfl) ae hw rfl) ?_
 refine aA (k6 (a:=[101,100,103,101]) (b:=[114,101,115]) rfl rfl rfl) ?_
 refine aA (Dc rfl rfl ae rfl) ?_
 refine ct ?_
 refine bX ?_ ?_<;>intro ab
 ·exact bW ab
 refine jT ?_
 refine aA (hx (j:=0) rfl rfl ae (p).en (rfl:(0:Int)=((0:Nat):Int)) al rfl) ?_
 refine aA (eO (aW:=fr) (aH:=1) (i:=0) (k:=0) (fun _=>rfl) rfl ar (eh aE rfl) ae hw rfl) ?_
 refine ah ?_
 refine aA (k6 (a:=[101,100,103,101]) (b:=[114,101,115]) rfl rfl rfl) ?_
 refine dW ?_
 refine aT ?_ ?_<;>intro af
 ·exact absurd af bu
 refine aA (k6 (a:=[101,100,103,101]) (b:=[116,97,115,107]) rfl rfl rfl) ?_
 refine dW ?_
 refine aT ?_ ?_<;>intro az
 ·exact absurd az bu
 refine aA (k6 (a:=[101,100,103,101]) (b:=[109,111,100,101]) rfl rfl rfl) ?_
 refine dW ?_
 refine aT ?_ ?_<;>intro a5
 ·exact absurd a5 bu
 refine aA (k6 (a:=[101,100,103,101]) (b:=[113,117,101,117,101]) rfl rfl rfl) ?_
 refine dW ?_
 refine aT ?_ ?_<;>intro cd
 ·exact absurd cd bu
 refine aA (k6 (a:=[101,100,103,101]) (b:=[101,100,103,101]) rfl rfl rfl) ?_
 refine dW ?_
 refine aT ?_ ?_<;>intro c5
 ·refine cA (b7) ?_
  rintro _ aQ ⟨rfl,vZ⟩
  try simp only [List.cons_append,List.nil_append]
  refine ah ?_
  exact⟨aQ,⟨rfl,vZ⟩,_,bq⟩
 exact absurd bu c5
structure xj where
  cG:Int
  bf:List (Nat→Int)
  eT:List Mode
  es:List (Nat→Int)
inductive im:Bool→List (List UInt8)→xj→xj→Prop
  |cG {q dN}:iz q→im true [[114,101,115],q] dN {dN with cG:=cn q}
  |NA {bY bK eu dN}:iz bY→iz bK→iz eu→im false [[116,97,115,107],bY,bK,eu] dN {dN with bf:=dN.bf++[hM [cn bY,cn bK,cn eu]]}
  |G3 {bY bK eu x dN} {j:Nat}:iz bY→iz bK→iz eu→Lib.indexByte x 58=(j:Int)→j<x.length→x.length≤1000→iz (x.take j)→iz (x.drop (j+1))→cn (x.take j)=0→cn (x.drop (j+1))≠0→im false [[116,97,115,107],bY,bK,eu,x] dN {dN with bf:=dN.bf++[hM [cn bY,cn bK,cn eu,cn (x.drop (j+1))]]}
  |mode {l dN}:G2 ([109,111,100,101]::l)→im false ([109,111,100,101]::l) dN {dN with eT:=dN.eT++[⟨lM ([109,111,100,101]::l) l.length,ai.bG⟩]}
  |oQ {bY bK dN} {hZ:Int}:iz bY→iz bK→1≤hZ∧hZ≤3→im false [[101,100,103,101],bY,bK,pi hZ] dN {dN with es:=dN.es++[hM [cn bY,cn bK,hZ]]}
theorem im.ne{f:Bool}{l:List (List UInt8)}{dN wZ:xj}(h:im f l dN wZ):l≠[]:=by cases h<;>simp
theorem acX(r:Nat)(p:ai (List UInt8))(aE:p.Own)(bf eT es)(first:Bool)(dN wZ:xj)(pG:(bf:ai (Nat→Int)).l=dN.bf∧bf.Own)(ry:(eT:ai Mode).l=dN.eT∧eT.Own)(rz:(es:ai (Nat→Int)).l=dN.es∧es.Own)(bb:dN.bf.length≤1000∧dN.eT.length≤1000∧dN.es.length≤1000)(l:List (List UInt8))(aJ:p.l=l)(h:im first l dN wZ):
  aS B 102 [ag r,.bool first] [aa r [U dN.cG,aw bf,aw eT,aw es,aw p] 230,cr p 9 1 fr,cr bf 173 11 cg,cr eT 177 2 eI,cr es 184 23 cS] (fun v S=>v= .bool true∧∃(ja:ai (Nat→Int)) (lF:ai Mode) (lG:ai (Nat→Int)),(ja.l=wZ.bf∧ja.Own)∧(lF.l=wZ.eT∧lF.Own)∧(lG.l=wZ.es∧lG.Own)∧S=[aa r [U wZ.cG,aw ja,aw lF,aw lG,aw p] 230,cr p 9 1 fr,cr ja 173 11 cg,cr lF 177 2 eI,cr lG 184 23 cS]):=by
 have bh:∀i:Nat,p.l[i]?=l[i]?:=fun i=>by rw [aJ]
 have a7:p.l.length=l.length:=by rw [aJ]
 cases h with
 |cG ab=>
  refine Zf r _ _ _ _ p aE (bh 0) _ _ (gB (jK (Ze r _ _ _ _ p aE a7 _ (bh 1) ab) aC) ?_)
  rintro v S ⟨aP,rfl,rfl,rfl⟩
  exact⟨_,_,_,fun _ _ h=>h,Take.self _,rfl,bf,eT,es,pG,ry,rz,rfl⟩
 |NA ab af az=>
  refine MR r _ _ _ _ p aE (bh 0) _ _ (gB (jK (U0 r _ _ _ p aE bf (by rw [pG.1];exact bb.1) _ _ _ (bh 1) (bh 2) (bh 3) ab af az a7) aC) ?_)
  rintro v S ⟨aP,rfl,ja,⟨bk,pA⟩,rfl,rfl⟩
  exact⟨_,_,_,fun _ _ h=>h,Take.self _,rfl,ja,eT,es,⟨by rw [bk,pG.1],pA⟩,ry,rz,rfl⟩
 |G3 ab af az a5 cd c5 fo gx jf iw=>
  refine MR r _ _ _ _ p aE (bh 0) _ _ (gB (jK (U1 r _ _ _ p aE bf (by rw [pG.1];exact bb.1) _ _ _ (bh 1) (bh 2) (bh 3) ab af az a7 _ (bh 4) _ a5 cd c5 fo gx jf iw) aC) ?_)
  rintro v S ⟨aP,rfl,ja,⟨bk,pA⟩,rfl,rfl⟩
  exact⟨_,_,_,fun _ _ h=>h,Take.self _,rfl,ja,eT,es,⟨by rw [bk,pG.1],pA⟩,ry,rz,rfl⟩
 |mode ab=>
  refine W4 r _ _ _ _ p aE (bh 0) _ _ (gB (jK (W2 r _ _ _ p aE eT (by rw [ry.1];exact bb.2.1) (by rw [aJ];exact ab)) aC) ?_)
  rintro v S ⟨aP,rfl,lF,⟨bk,pA⟩,rfl,rfl⟩
  exact⟨_,[aa r [U dN.cG,aw bf,aw lF,aw es,aw p] 230,cr p 9 1 fr,cr bf 173 11 cg,cr lF 177 2 eI,cr es 184 23 cS],_,fun _ _ h=>h,(by simp only [List.cons_append,List.nil_append];exact aC),rfl,bf,lF,es,pG,⟨by rw [bk,ry.1,aJ];rfl,pA⟩,rz,rfl⟩
 |oQ ab af az=>
  refine W5 r _ _ _ _ p aE (bh 0) _ _ (gB (jK (W3 r _ _ _ p aE es (by rw [rz.1];exact bb.2.2) _ _ (bh 1) (bh 2) ab af a7 _ az (bh 3)) aC) ?_)
  rintro v S ⟨aP,rfl,lG,⟨bk,pA⟩,rfl,rfl⟩
  exact⟨_,[aa r [U dN.cG,aw bf,aw eT,aw lG,aw p] 230,cr p 9 1 fr,cr bf 173 11 cg,cr eT 177 2 eI,cr lG 184 23 cS],_,fun _ _ h=>h,(by simp only [List.cons_append,List.nil_append];exact aC),rfl,bf,eT,lG,pG,ry,⟨by rw [bk,rz.1],pA⟩,rfl⟩
theorem W6(dl:List (List UInt8))(aB:(fQ dl).length≤60000)(iw:∀q∈dl,∀c∈q,c≠10∧c≠35)(hlen:∀q∈dl,q.length≤100000)(kI:0<dl.length)(dN:Nat→xj)(b0:dN 0=⟨0,[],[],[]⟩)(Iq:∀i q,dl[i]?=some q→im (decide (i=0)) (pieces q) (dN i) (dN (i+1))∧(dN i).bf.length≤1000∧(dN i).eT.length≤1000∧(dN i).es.length≤1000):aS B 54 [str (fQ dl)] [] (fun v S=>∃x:bQ,(x.cG=(dN dl.length).cG∧(x.aG.l=(dN dl.length).bf∧x.aG.Own)∧(x.ba.l=(dN dl.length).eT∧x.ba.Own)∧(x.a0.l=(dN dl.length).es∧x.a0.Own))∧v= .tuple #[x.v,U 0,U 0]∧S=[cr x.aG 173 11 cg,cr x.ba 177 2 eI,cr x.a0 184 23 cS]):=by
 refine bD 61 Tryz.func54 fun a4 ax=>?_
 refine ds fun ay=>?_
 refine ds fun aM=>?_
 refine da fun bw=>?_
 refine FH ?_
 refine ah ?_
 refine aT ?_ ?_<;>intro ab
 ·first|omega|simp at ab|(simp at ab;done)|(have:=aB;omega)
 refine dt (au:=[U 0,.slice none 0 0,.slice none 0 0,.slice none 0 0,.slice none 0 0]) fun b9=>?_
 refine da fun dK=>?_
 refine da fun jE=>?_
 refine FG ?_
 refine ah ?_
 refine cA (MQ (fQ dl)) ?_
 rintro _ _ ⟨c,rfl,rfl⟩
 simp only [List.cons_append,List.nil_append]
 refine dW ?_
 refine hy cg 173 11 ?_
 refine hy eI 177 2 ?_
 refine hy cS 184 23 ?_
 refine hy fr 9 1 ?_
 rw [show(aa b9 [U 0,.slice none 0 0,.slice none 0 0,.slice none 0 0,.slice none 0 0] 230:ao B)=aa b9 [U 0,aw (ai.bG:ai (Nat→Int)),aw (ai.bG:ai Mode),aw (ai.bG:ai (Nat→Int)),aw (ai.bG:ai (List UInt8))] 230 from rfl]
 refine Kp (own:=[aa c [str (fQ dl)] 9]) (aP:=[aa b9 [U 0,aw (ai.bG:ai (Nat→Int)),aw (ai.bG:ai Mode),aw (ai.bG:ai (Nat→Int)),aw (ai.bG:ai (List UInt8))] 230,cr (ai.bG:ai (List UInt8)) 9 1 fr,cr (ai.bG:ai (Nat→Int)) 173 11 cg,cr (ai.bG:ai Mode) 177 2 eI,cr (ai.bG:ai (Nat→Int)) 184 23 cS,aa dK [ag b9] 228,aa jE [.bool true] 4,aa ay [U 0,.slice none 0 0,.slice none 0 0,.slice none 0 0] 41,aa aM [U 0] 3,aa bw [U 0] 53]) rfl e2 (Nz c dl al iw hlen) (fun i S=>∃(bf:ai (Nat→Int)) (eT:ai Mode) (es:ai (Nat→Int)) (p:ai (List UInt8)),((bf.l=(dN i).bf∧bf.Own)∧(eT.l=(dN i).eT∧eT.Own)∧(es.l=(dN i).es∧es.Own)∧p.Own)∧S=[aa b9 [U (dN i).cG,aw bf,aw eT,aw es,aw p] 230,cr p 9 1 fr,cr bf 173 11 cg,cr eT 177 2 eI,cr es 184 23 cS,aa dK [ag b9] 228,aa jE [.bool (decide (i=0))] 4,aa ay [U 0,.slice none 0 0,.slice none 0 0,.slice none 0 0] 41,aa aM [U 0] 3,aa bw [U 0] 53]) (fun c i S=>False) (show Take ([aa c [str (fQ dl)] 9,aa b9 [U 0,aw (ai.bG:ai (Nat→Int)),aw (ai.bG:ai Mode),aw (ai.bG:ai (Nat→Int)),aw (ai.bG:ai (List UInt8))] 230,cr (ai.bG:ai (List UInt8)) 9 1 fr,cr (ai.bG:ai (Nat→Int)) 173 11 cg,cr (ai.bG:ai Mode) 177 2 eI,cr (ai.bG:ai (Nat→Int)) 184 23 cS,aa dK [ag b9] 228,aa jE [.bool true] 4,aa ay [U 0,.slice none 0 0,.slice none 0 0,.slice none 0 0] 41,aa aM [U 0] 3,aa bw [U 0] 53]) _ _ from aC) (⟨(ai.bG:ai (Nat→Int)),(ai.bG:ai Mode),(ai.bG:ai (Nat→Int)),(ai.bG:ai (List UInt8)),⟨⟨by rw [b0];rfl,ai.fY⟩,⟨by rw [b0];rfl,ai.fY⟩,⟨by rw [b0];rfl,ai.fY⟩,ai.fY⟩,by rw [b0];rfl⟩) rfl (fun x av=>by obtain⟨j,_,rfl⟩:=List.mem_map.1 av;rfl) ?_ ?_ ?_
 ·intro cu rec jF i aQ ak bt
  obtain⟨bf,eT,es,p,⟨pG,ry,rz,P4⟩,rfl⟩:=bt
  rw [vL]at ak
  obtain⟨q,bP⟩:∃q,dl[i]?=some q:=⟨_,List.getElem?_eq_getElem ak⟩
  rw [F9 bP]
  have et:=Iq i q bP
  refine ah ?_
  refine⟨rfl,_,_,.cons ar (Take.self _),fun h1=>?_⟩
  refine ah ?_
  refine c8 [aa dK [ag b9] 228,aa b9 [U (dN i).cG,aw bf,aw eT,aw es,aw p] 230] ae aC ?_
  refine aN [0,1,2,3] ?_
  refine bs 4 rfl (ed (v:=aw p) ae) ?_
  refine bs 5 rfl (So rfl rfl ae) ?_
  refine c7 [6,7,108,99] ?_
  rw [show(aa b9 [U (dN i).cG,aw bf,aw eT,aw es,.slice p.b1 0 p.c] 230:ao B)=aa b9 [U (dN i).cG,aw bf,aw eT,aw es,aw p.qL] 230 from rfl]
  refine kS (Tx (a:=p) (aW:=fr) (e:=9) (aH:=1) ar) ?_
  refine ah ?_
  refine cA (Ga q) ?_
  rintro _ _ ⟨bC,rfl,rfl⟩
  refine cU ?_
  refine Cb (own:=[aa bC [str q] 9]) (aP:=[aa b9 [U (dN i).cG,aw bf,aw eT,aw es,aw p.qL] 230,cr p.qL 9 1 fr,aa dK [ag b9] 228]) ar rfl e2 (G1 bC q (by have:=hlen q (List.mem_of_getElem? bP);omega)) (fun j S=>∃gk:ai (List UInt8),(gk.l=(pieces q).take j∧gk.Own)∧S=[aa b9 [U (dN i).cG,aw bf,aw eT,aw es,aw gk] 230,cr gk 9 1 fr,aa dK [ag b9] 228]) (fun c j S=>False) (show Take ([aa bC [str q] 9,aa b9 [U (dN i).cG,aw bf,aw eT,aw es,aw p.qL] 230,cr p.qL 9 1 fr,aa dK [ag b9] 228]) _ _ from aC) (⟨p.qL,⟨rfl,ai.Tw P4⟩,rfl⟩) rfl (fun x av=>by obtain⟨j,_,rfl⟩:=List.mem_map.1 av;rfl) ?_ ?_ ?_
  ·intro u3 Ah By j cF aY iN
   obtain⟨gk,⟨n9,Hz⟩,rfl⟩:=iN
   rw [rP]at aY
   obtain⟨w,hw⟩:∃w,(pieces q)[j]?=some w:=⟨_,List.getElem?_eq_getElem aY⟩
   rw [zv hw]
   have aes:gk.l.length≤200000:=by have ab:=congrArg List.length n9;rw [List.length_take]at ab;have af:(pieces q).length≤q.length+1:=C9 q [];have:=hlen q (List.mem_of_getElem? bP);omega
   refine ah ?_
   refine⟨rfl,_,_,.cons ar (Take.self _),fun h1=>?_⟩
   refine ah ?_
   refine c8 [aa dK [ag b9] 228,aa b9 [U (dN i).cG,aw bf,aw eT,aw es,aw gk] 230] ae aC ?_
   refine aN [0,1,2,3] ?_
   refine bs 4 rfl (ed (v:=aw gk) ae) ?_
   refine aN [5,106] ?_
   refine lN (au:=(([w]:List _).flatMap fr)) rfl .no rfl ae bu bu (by rfl) (by rfl) rfl rfl (fun P5=>?_)
   refine aN [107] ?_
   refine mb (aW:=fr) (c:=gk) (b:=ai.lit P5 [w] (by simp)) rfl .no rfl rfl ae ar dr (show Out (aa P5 (([w]:List _).flatMap fr) 9) _ _ from ar) hF (fun _=>rfl) (fun _=>rfl) (by show gk.l.length+1≤_;omega) (by show(gk.l.length+1)*_≤_;omega) rfl (fun kN oI q5=>?_)
   refine c7 [8,9,110,99] ?_
   exact⟨[aa b9 [U (dN i).cG,aw bf,aw eT,aw es,aw kN] 230,cr kN 9 1 fr,aa dK [ag b9] 228],_,aC,⟨kN,⟨by rw [oI,n9,List.take_add_one,hw];rfl,q5⟩,rfl⟩⟩
  ·intro cF iN
   obtain⟨gk,⟨n9,Hz⟩,rfl⟩:=iN
   rw [rP,List.take_length]at n9
   simp only [List.cons_append,List.nil_append]
   refine kZ ?_
   refine cv (aw gk) ?_
   refine ah ?_
   refine bX ?_ ?_<;>intro af
   ·exact absurd (List.length_eq_zero_iff.1 (show gk.l.length=0 by omega)) (by rw [n9];exact et.1.ne)
   refine ho ?_
   refine aA (fm (v:= .bool (decide (i=0))) rfl ar ae (by rfl)) ?_
   refine cA (acX b9 gk Hz bf eT es (decide (i=0)) (dN i) (dN (i+1)) pG ry rz et.2 (pieces q) n9 et.1) ?_
   rintro _ _ ⟨rfl,ja,lF,lG,acY,acZ,ac0,rfl⟩
   refine cU ?_
   exact⟨[aa b9 [U (dN (i+1)).cG,aw ja,aw lF,aw lG,aw gk] 230,cr gk 9 1 fr,cr ja 173 11 cg,cr lF 177 2 eI,cr lG 184 23 cS,aa dK [ag b9] 228,aa jE [.bool false] 4,aa ay [U 0,.slice none 0 0,.slice none 0 0,.slice none 0 0] 41,aa aM [U 0] 3,aa bw [U 0] 53],_,aC,⟨ja,lF,lG,gk,⟨acY,acZ,ac0,Hz⟩,rfl⟩⟩
  intro c i aQ ak h
  exact h.elim
 ·intro c0 aQ bt
  rw [vL]at bt
  obtain⟨bf,eT,es,p,⟨pG,ry,rz,P4⟩,rfl⟩:=bt
  simp only [List.cons_append,List.nil_append]
  rw [show decide (dl.length=0)=false from decide_eq_false al]
  refine cW ?_
  refine cv (.bool false) ?_
  refine ct ?_
  refine bX ?_ ?_<;>intro az
  ·simp at az
  refine iW ?_
  refine cM [U (dN dl.length).cG,aw bf,aw eT,aw es] ?_
  refine ah ?_
  refine xo ?_
  refine cc (show Take [du c0] _ _ from aC) (Tv rfl rfl rfl rfl ar ar ar ae ae ae (by rfl)) ?_
  exact⟨[cr bf 173 11 cg,cr eT 177 2 eI,cr es 184 23 cS],⟨(⟨(dN dl.length).cG,bf,eT,es⟩:bQ),⟨rfl,pG,ry,rz⟩,rfl,rfl⟩,_,bq⟩
 intro c0 c i aQ ak h
 exact h.elim
def tN(d:Nat→Int):List Int:=[d 0,d 1,d 2,((GO d).toNat:Int)]++(hO d 8).map (·.2)
def y0(m:Mode):List Int:=[(m.aG.toNat:Int),(m.q.l.length:Int)]
def pd(x:bQ)(d:Nat→Int):List Int:=[d 0,d 1,d 2,d 19,d 20,d 21,d 22]++(if d 2=3 then(bj (eY x.c d)).map (fun k=>d (3+k.toNat))else [])
def oq(x:bQ):List Int:=[1380273457,x.cG,(x.aG.l.length:Int),(x.ba.l.length:Int),(x.a0.l.length:Int)]++(x.aG.l.flatMap tN++(x.ba.l.flatMap y0++x.a0.l.flatMap (pd x)))
theorem s8{α:Type}{a b:List α}{i:Nat}{n:Nat}{w:α}(a7:a.length=n)(h:b[i]?=some w):(a++b)[n+i]?=some w:=by
  rw [List.getElem?_append_right (by omega),show n+i-a.length=i by omega];exact h
theorem Zg(d:Nat→Int)(cu:Nat)(J:Nat→List (ao B)→Prop)(cb:List (ao B))(gv:J 0 cb)(aZ:∀i w S,(tN d)[i]?=some w→J i S→nu Tryz.prog B cu [U w] S fun b aQ=>b=true∧J (i+1) aQ):aS B 168 [.agg (cg d).toArray,.func (.yield cu) #[] #[]] cb (fun v S=>v= .bool true∧J (tN d).length S):=by
 refine bD 42 Tryz.func168 fun a4 ax=>?_
 refine dt (au:=cg d) fun ay=>?_
 refine dt (au:=[.func (.yield cu) #[] #[]]) fun aM=>?_
 refine da fun bw=>?_
 refine ki [aa ay (cg d) 173,aa aM [.func (.yield cu) #[] #[]] 302] ae aC ?_
 refine bs 0 rfl (ed (v:= .func (.yield cu) #[] #[]) ae) ?_
 refine aN [1] ?_
 refine bs 2 rfl (ed (v:=U (d 0)) ae) ?_
 refine aN [103] ?_
 have w0:=aZ (0) (d 0) cb (rfl) gv
 refine xv rfl .no rfl rfl dr w0 aC rfl ?_
 rintro _ aP ⟨rfl,kL⟩
 refine⟨aa bw [.bool false] 4::aP,_,_,dr,aC,?_⟩
 refine aN [4,5] ?_
 refine bs 6 rfl (ed (v:= .func (.yield cu) #[] #[]) ae) (hw:=(.yes 12 rfl rfl rfl)) ?_
 refine aN [7] ?_
 refine bs 8 rfl (ed (v:=U (d 1)) ae) (hw:=(.yes 12 rfl rfl rfl)) ?_
 refine aN [109] ?_
 have w1:=aZ (1) (d 1) aP (rfl) kL
 refine xv rfl (.yes 12 rfl rfl rfl) rfl rfl dr w1 aC rfl ?_
 rintro _ aQ ⟨rfl,iN⟩
 refine⟨aa bw [.bool false] 4::aQ,_,_,dr,aC,?_⟩
 refine aN [10,11,12] ?_
 refine bs 13 rfl (ed (v:= .func (.yield cu) #[] #[]) ae) (hw:=(.yes 19 rfl rfl rfl)) ?_
 refine aN [14] ?_
 refine bs 15 rfl (ed (v:=U (d 2)) ae) (hw:=(.yes 19 rfl rfl rfl)) ?_
 refine aN [116] ?_
 have Bc:=aZ (2) (d 2) aQ (rfl) iN
 refine xv rfl (.yes 19 rfl rfl rfl) rfl rfl dr Bc aC rfl ?_
 rintro _ cF ⟨rfl,nw⟩
 refine⟨aa bw [.bool false] 4::cF,_,_,dr,aC,?_⟩
 refine aN [17,18,19] ?_
 refine bs 20 rfl (ed (v:= .func (.yield cu) #[] #[]) ae) (hw:=(.yes 26 rfl rfl rfl)) ?_
 refine bs 21 rfl (dw (bx:=cg d) rfl ar ae rfl (by rfl)) (hw:=(.yes 26 rfl rfl rfl)) ?_
 refine aN [122] ?_
 refine gu (Yb d) (hw:=(.yes 26 rfl rfl rfl)) ?_
 refine bs 23 rfl (kn rfl ae (nQ al al)) (hw:=(.yes 26 rfl rfl rfl)) ?_
 refine aN [124] ?_
 have Ir:=aZ (3) (((GO d).toNat:Int)) cF (rfl) nw
 refine xv rfl (.yes 26 rfl rfl rfl) rfl rfl dr Ir aC rfl ?_
 rintro _ lI ⟨rfl,w2⟩
 refine⟨aa bw [.bool false] 4::lI,_,_,dr,aC,?_⟩
 refine aN [25,26,99] ?_
 refine iW ?_
 refine cM (cg d) ?_
 refine cA (GL d) ?_
 rintro _ _ ⟨I9,rfl,rfl⟩
 refine cU ?_
 refine kh (own:=[aa I9 (cg d) 173]) (aP:=aa aM [.func (.yield cu) #[] #[]] 302::aa bw [.bool false] 4::lI) rfl e2 (FN I9 d) (fun i S=>∃nH,J (4+i) nH∧S=aa aM [.func (.yield cu) #[] #[]] 302::aa bw [.bool false] 4::nH) (fun c i S=>False) (show Take (aa I9 (cg d) 173::aa aM [.func (.yield cu) #[] #[]] 302::aa bw [.bool false] 4::lI) _ _ from aC) (⟨lI,w2,rfl⟩) rfl (fun x av=>by obtain⟨j,_,rfl⟩:=List.mem_map.1 av;rfl) ?_ ?_ ?_
 ·intro u3 Ah By i cF ak Is
  obtain⟨nH,p1,rfl⟩:=Is
  rw [List.length_map]at ak
  obtain⟨u,hu⟩:∃u,(hO d 8)[i]?=some u:=⟨_,List.getElem?_eq_getElem ak⟩
  rw [show((hO d 8).map fun p=>[Value.int .i64 (p.1:Int),U p.2]).getD i []=[U (u.1:Int),U u.2]from by simp [List.getD,hu]]
  refine ah ?_
  refine⟨rfl,_,_,.cons ar (Take.self _),fun h1=>?_⟩
  refine gD ?_
  refine cv (.func (.yield cu) #[] #[]) ?_
  refine ah ?_
  have ac1:=aZ (4+i) (u.2) nH (s8 rfl (by rw [List.getElem?_map,hu];rfl)) p1
  refine qi [obj u3 (.loop h1),aa aM [.func (.yield cu) #[] #[]] 302,aa bw [.bool false] 4] aC ?_
  refine iB (own:=[obj u3 (.loop h1),aa aM [.func (.yield cu) #[] #[]] 302,aa bw [.bool false] 4]) (hU:=nH) .no rfl rfl ac1 rfl ?_
  rintro _ tO ⟨rfl,Bd⟩
  refine cU ?_
  exact⟨aa aM [.func (.yield cu) #[] #[]] 302::aa bw [.bool false] 4::tO,_,aC,⟨tO,Bd,rfl⟩⟩
 ·intro c0 aQ bt
  obtain⟨nH,p1,rfl⟩:=bt
  refine cU ?_
  refine cc (show Take [du c0] _ _ from aC) (mF rfl rfl ar ae) ?_
  exact⟨nH,⟨rfl,by rw [show(tN d).length=4+((hO d 8).map fun p=>[Value.int .i64 (p.1:Int),U p.2]).length from by unfold tN;simp;omega];exact p1⟩,_,bq⟩
 intro c0 c i aQ ak h
 exact h.elim
theorem Zh(m:Mode)(bP:m.q.l=[])(cu:Nat)(J:Nat→List (ao B)→Prop)(cb:List (ao B))(gv:J 0 cb)(aZ:∀i w S,(y0 m)[i]?=some w→J i S→nu Tryz.prog B cu [U w] S fun b aQ=>b=true∧J (i+1) aQ):aS B 169 [.agg (eI m).toArray,.func (.yield cu) #[] #[]] cb (fun v S=>v= .bool true∧J (y0 m).length S):=by
 refine dn 41 Tryz.func169 fun a4 ax=>?_
 have Ea:m.q.l.length=0:=by rw [bP];rfl
 refine ah ?_
 refine dt (au:=eI m) fun ay=>?_
 refine iW ?_
 refine cv (aI m.aG.toNat) ?_
 refine aA (kn rfl ae (nQ al al)) ?_
 have w0:=aZ (0) ((m.aG.toNat:Int)) cb (rfl) gv
 refine qi [aa ay (eI m) 177] aC ?_
 refine iB (own:=[aa ay (eI m) 177]) (hU:=cb) .no rfl rfl w0 rfl ?_
 rintro _ aP ⟨rfl,kL⟩
 simp only [List.cons_append,List.nil_append]
 refine gK ?_
 refine cv (aw m.q) ?_
 refine ah ?_
 have w1:=aZ (1) ((m.q.l.length:Int)) aP (rfl) kL
 refine qi [aa ay (eI m) 177] aC ?_
 refine iB (own:=[aa ay (eI m) 177]) (hU:=aP) (.yes 13 rfl rfl rfl) rfl rfl w1 rfl ?_
 rintro _ aQ ⟨rfl,iN⟩
 simp only [List.cons_append,List.nil_append]
 refine uM ?_
 refine cv (aw m.q) ?_
 refine ah ?_
 refine k4 0 ?_
 refine ah ?_
 refine aT ?_ ?_<;>intro ab
 ·exact bW ab
 refine k3 ?_
 refine ah ?_
 exact⟨aQ,⟨rfl,iN⟩,_,aC⟩
theorem Te{d:Nat→Int}{j:Nat}(h:j<4):([U (d 19),U (d 20),U (d 21),U (d 22)]:List Value)[j]?=some (U (d (19+j))):=by
  rcases(show j=0∨j=1∨j=2∨j=3 by omega)with rfl|rfl|rfl|rfl<;>rfl
theorem W7{x:bQ}{d:Nat→Int}{j:Nat}(h:j<4):(pd x d)[3+j]?=some (d (19+j)):=by
  rcases(show j=0∨j=1∨j=2∨j=3 by omega)with rfl|rfl|rfl|rfl<;>rfl
theorem aaL{x:bQ}{d:Nat→Int}{i mC:Nat}(h:d 2=3)(aj:(bj (eY x.c d))[i]?=some (mC:Int)):(pd x d)[7+i]?=some (d (3+mC)):=by
  unfold pd;rw [if_pos h]
  exact s8 rfl (by rw [List.getElem?_map,aj];rfl)
theorem Zi(x:bQ)(av:x.In K)(i:Nat)(d:Nat→Int)(gW:x.a0.l[i]?=some d)(rp:d 2=3→∀k∈bj (eY x.c d),∃mC:Nat,k=(mC:Int)∧mC<16){aq:ao B}(bc:dL aq)(aD:dS aq)(cu:Nat)(J:Nat→List (ao B)→Prop)(cb:List (ao B))(gv:J 0 cb)(aZ:∀i w S,(pd x d)[i]?=some w→J i S→nu Tryz.prog B cu [U w] S fun b aQ=>b=true∧J (i+1) aQ):aS B 170 [x.v,U (i:Int),.func (.yield cu) #[] #[]] (K::aq::cb) (fun v S=>v= .bool true∧∃aQ,J (pd x d).length aQ∧S=K::aq::aQ):=by
 refine dn 60 Tryz.func170 fun a4 ax=>?_
 have o9:=(List.getElem?_eq_some_iff.1 gW).1
 refine ah ?_
 refine dt (au:=(bJ x)) fun ay=>?_
 refine dt (au:=[.func (.yield cu) #[] #[]]) fun aM=>?_
 refine da fun bw=>?_
 refine aA (hN (aW:=cS) (aH:=23) (i:=i) (fun _=>rfl) rfl ar av.a0 ae gW) ?_
 refine ds fun b9=>?_
 refine cW ?_
 refine cv (.func (.yield cu) #[] #[]) ?_
 refine ct ?_
 refine cv (U (d 0)) ?_
 have w0:=aZ (0) (d 0) cb (rfl) gv
 refine qi [K,aa ay (bJ x) 41,aa aM [.func (.yield cu) #[] #[]] 302,aa bw [.bool false] 4,aa b9 (cS d) 184,aq] aC ?_
 refine iB (own:=[K,aa ay (bJ x) 41,aa aM [.func (.yield cu) #[] #[]] 302,aa bw [.bool false] 4,aa b9 (cS d) 184,aq]) (hU:=cb) .no rfl rfl w0 rfl ?_
 rintro _ aP ⟨rfl,kL⟩
 simp only [List.cons_append,List.nil_append]
 refine dW ?_
 refine cv (.func (.yield cu) #[] #[]) ?_
 refine ct ?_
 refine cv (U (d 1)) ?_
 have w1:=aZ (1) (d 1) aP (rfl) kL
 refine qi [K,aa ay (bJ x) 41,aa aM [.func (.yield cu) #[] #[]] 302,aa bw [.bool false] 4,aa b9 (cS d) 184,aq] aC ?_
 refine iB (own:=[K,aa ay (bJ x) 41,aa aM [.func (.yield cu) #[] #[]] 302,aa bw [.bool false] 4,aa b9 (cS d) 184,aq]) (hU:=aP) (.yes 21 rfl rfl rfl) rfl rfl w1 rfl ?_
 rintro _ aQ ⟨rfl,iN⟩
 simp only [List.cons_append,List.nil_append]
 refine gD ?_
 refine cv (.func (.yield cu) #[] #[]) ?_
 refine ct ?_
 refine cv (U (d 2)) ?_
 have Bc:=aZ (2) (d 2) aQ (rfl) iN
 refine qi [K,aa ay (bJ x) 41,aa aM [.func (.yield cu) #[] #[]] 302,aa bw [.bool false] 4,aa b9 (cS d) 184,aq] aC ?_
 refine iB (own:=[K,aa ay (bJ x) 41,aa aM [.func (.yield cu) #[] #[]] 302,aa bw [.bool false] 4,aa b9 (cS d) 184,aq]) (hU:=aQ) (.yes 28 rfl rfl rfl) rfl rfl Bc rfl ?_
 rintro _ cF ⟨rfl,nw⟩
 simp only [List.cons_append,List.nil_append]
 refine uM ?_
 refine cM [U (d 19),U (d 20),U (d 21),U (d 22)] ?_
 refine ah ?_
 refine dH (α:=Nat×List (ao B)) (fun⟨j,lI⟩=>j≤4∧J (3+j) lI) (fun⟨j,lI⟩=>[(37,U (j:Int)),(36,.agg ([U (d 19),U (d 20),U (d 21),U (d 22)]).toArray),(0,x.v),(1,U (i:Int)),(2,.func (.yield cu) #[] #[]),(3,ag ay),(5,ag aM),(6,ag bw),(7,ag b9)]) (fun⟨j,lI⟩=>K::aa ay (bJ x) 41::aa aM [.func (.yield cu) #[] #[]] 302::aa bw [.bool false] 4::aa b9 (cS d) 184::aq::lI) (fun⟨j,lI⟩=>4-j) (0,cF) ?_ dD aC ?_
 ·exact⟨Nat.zero_le _,nw⟩
 rintro⟨j,lI⟩ ⟨aY,w2⟩
 dsimp only
 refine ah ?_
 refine bX ?_ ?_<;>intro ab
 ·refine ah ?_
  refine aA (uc rfl rfl ae rfl al (Te al)) ?_
  refine gK ?_
  refine cv (.func (.yield cu) #[] #[]) ?_
  refine ah ?_
  have It:=aZ (3+j) (d (19+j)) lI (W7 al) w2
  refine qi [K,aa ay (bJ x) 41,aa aM [.func (.yield cu) #[] #[]] 302,aa bw [.bool false] 4,aa b9 (cS d) 184,aq] aC ?_
  refine iB (own:=[K,aa ay (bJ x) 41,aa aM [.func (.yield cu) #[] #[]] 302,aa bw [.bool false] 4,aa b9 (cS d) 184,aq]) (hU:=lI) .no rfl rfl It rfl ?_
  rintro _ nH ⟨rfl,p1⟩
  refine cU ?_
  refine eg (j+1,nH) ?_ ?_ ?_ ?_
  ·(try dsimp only);exact⟨by omega,p1⟩
  ·(try dsimp only);omega
  ·refine⟨?_,?_,?_,?_,?_,?_,?_,?_,?_,trivial⟩<;>rfl
  (try dsimp only);exact⟨_,aC⟩
 obtain rfl:j=4:=by omega
 refine uj ?_
 refine tS ?_
 refine tU ?_
 refine tT ?_
 refine ik ?_
 refine dZ ?_
 refine dZ ?_
 refine fl ?_
 refine aA (kf ae) ?_
 refine aA (ed (v:=U (d 2)) ae) ?_
 refine ah ?_
 refine bX ?_ ?_<;>intro af
 ·refine ah ?_
  refine cc (.nil _) (mF rfl rfl ar ae) ?_
  exact bI ⟨rfl,lI,by rw [show(pd x d).length=3+4 from by unfold pd;rw [if_neg af];rfl];exact w2,rfl⟩
 refine cW ?_
 refine cM (bJ x) ?_
 refine cM (cS d) ?_
 refine dA (Mq x av d) ?_
 refine cA (ps (eY x.c d)) ?_
 rintro _ _ ⟨hk,rfl,rfl⟩
 refine cU ?_
 refine kh (own:=[aa hk [aI (eY x.c d).toNat] 158,aq]) (aP:=aa aM [.func (.yield cu) #[] #[]] 302::aa bw [.bool false] 4::aa b9 (cS d) 184::lI) rfl e2 (pg hk (eY x.c d) bc) (fun i2 S=>∃tO,J (7+i2) tO∧S=aa aM [.func (.yield cu) #[] #[]] 302::aa bw [.bool false] 4::aa b9 (cS d) 184::tO) (fun c i2 S=>False) (show Take (aa hk [aI (eY x.c d).toNat] 158::aq::aa aM [.func (.yield cu) #[] #[]] 302::aa bw [.bool false] 4::aa b9 (cS d) 184::lI) _ _ from aC) (⟨lI,w2,rfl⟩) rfl (fun x av=>by obtain⟨j,_,rfl⟩:=List.mem_map.1 av;rfl) ?_ ?_ ?_
 ·intro u3 Ah By i2 afi P6 Is
  obtain⟨tO,Bd,rfl⟩:=Is
  rw [List.length_map]at P6
  obtain⟨k,aj⟩:∃k,(bj (eY x.c d))[i2]?=some k:=⟨_,List.getElem?_eq_getElem P6⟩
  obtain⟨mC,rfl,j6⟩:=rp al k (List.mem_of_getElem? aj)
  rw [show((bj (eY x.c d)).map fun n=>[Value.int .i64 n]).getD i2 []=[U (mC:Int)]from by simp [List.getD,aj]]
  refine ah ?_
  refine⟨rfl,_,_,.cons ar (Take.self _),fun h1=>?_⟩
  refine ah ?_
  refine ki [aa aM [.func (.yield cu) #[] #[]] 302,aa b9 (cS d) 184] ae aC ?_
  refine bs 0 rfl (ed (v:= .func (.yield cu) #[] #[]) ae) ?_
  refine aN [1,2] ?_
  refine cy 3 rfl (m5 rfl rfl ae rfl j6 rfl) ?_
  refine bs 4 rfl (fm (v:=U (d (3+mC))) rfl ar ae (Lz j6)) ?_
  refine aN [105] ?_
  have ac2:=aZ (7+i2) (d (3+mC)) tO (aaL al aj) Bd
  refine xv rfl .no rfl rfl dr ac2 aC rfl ?_
  rintro _ Ja ⟨rfl,ac3⟩
  refine⟨obj u3 (.loop h1)::aa bw [.bool false] 4::Ja,_,_,dr,aC,?_⟩
  refine c7 [6,99] ?_
  exact⟨aa aM [.func (.yield cu) #[] #[]] 302::aa bw [.bool false] 4::aa b9 (cS d) 184::Ja,_,aC,⟨Ja,ac3,rfl⟩⟩
 ·intro c0 aQ bt
  obtain⟨tO,Bd,rfl⟩:=bt
  refine cU ?_
  refine cc (show Take [du c0] _ _ from aC) (mF rfl rfl ar ae) ?_
  exact bI ⟨rfl,tO,by rw [show(pd x d).length=7+((bj (eY x.c d)).map fun n=>[Value.int .i64 n]).length from by unfold pd;rw [if_pos al];simp;omega];exact Bd,rfl⟩
 intro c0 c i aQ ak h
 exact h.elim
theorem Ck{α β:Type}{f:α→List β}:∀{l:List α} {i k:Nat} {d:α} {w:β},l[i]?=some d→(f d)[k]?=some w→(l.flatMap f)[((l.take i).flatMap f).length+k]?=some w
  |[],i,_,_,_,h,_=>by simp at h
  |a::l,0,k,d,w,h,aj=>by
    have:a=d:=by simpa using h
    subst this
    rw [List.flatMap_cons]
    show(f a++l.flatMap f)[0+k]?=_
    rw [Nat.zero_add,List.getElem?_append_left (List.getElem?_eq_some_iff.1 aj).1];exact aj
  |a::l,i+1,k,d,w,h,aj=>by
    have ih:=Ck (f:=f) (l:=l) (i:=i) (by simpa using h) aj
    rw [List.take_succ_cons,List.flatMap_cons,List.flatMap_cons,List.length_append,Nat.add_assoc]
    exact s8 rfl ih
theorem Gb{α β:Type}{f:α→List β}{l:List α}{i:Nat}{d:α}(h:l[i]?=some d):((l.take (i+1)).flatMap f).length=((l.take i).flatMap f).length+(f d).length:=by
  rw [List.take_add_one,h];simp
theorem NB{α:Type}{a b:List α}{i:Nat}{w:α}(h:a[i]?=some w):(a++b)[i]?=some w:=by rw [List.getElem?_append_left (List.getElem?_eq_some_iff.1 h).1];exact h
abbrev vv(x:bQ)(i:Nat):Nat:=5+((x.aG.l.take i).flatMap tN).length
abbrev tP(x:bQ)(i:Nat):Nat:=5+((x.aG.l.flatMap tN).length+((x.ba.l.take i).flatMap y0).length)
abbrev tQ(x:bQ)(i:Nat):Nat:=5+((x.aG.l.flatMap tN).length+((x.ba.l.flatMap y0).length+((x.a0.l.take i).flatMap (pd x)).length))
theorem W8(x:bQ):aS B 107 [x.v] [] (fun v S=>∃b,v= .func (.func 167) #[] #[ag b]∧S=[aa b (bJ x) 41]):=by
 refine bD 4 Tryz.func107 fun a4 ax=>?_
 refine fe (au:=(bJ x)) fun ay=>?_
 exact⟨[aa ay (bJ x) 41],⟨ay,rfl,rfl⟩,_,aC⟩
theorem Zj(c:Nat)(x:bQ)(av:x.In K)(bP:∀m∈x.ba.l,m.q.l=[])(rp:∀d∈x.a0.l,d 2=3→∀k∈bj (eY x.c d),∃mC:Nat,k=(mC:Int)∧mC<16){aq:ao B}(bc:dL aq)(aD:dS aq):NN Tryz.prog B 167 [ag c] [aa c (bJ x) 41,K,aq] ((oq x).map fun n=>[.int .i64 n]):=by
 intro cu J gN cb H3 gv rm
 have aZ:∀i w S,(oq x)[i]?=some w→J i S→nu Tryz.prog B cu [U w] S fun b aQ=>b=true∧J (i+1) aQ:=fun i w S hw bt=>by
  have h:=rm i S (by rw [List.length_map];exact(List.getElem?_eq_some_iff.1 hw).1) bt
  rw [show((oq x).map fun n=>[Value.int .i64 n]).getD i []=[U w]from by simp [List.getD,hw]]at h
  exact h.mono fun b aQ q=>q.resolve_right (fun q=>H3 _ _ q.2)
 change dQ _ _ _ _ (aa c (bJ x) 41::K::aq::cb) _
 refine dn 78 Tryz.func167 fun a4 ax=>?_
 have wB:=x.aG.small
 have HG:=x.ba.small
 have afj:=x.a0.small
 refine ah ?_
 have w0:=aZ (0) (1380273457) cb (rfl) gv
 refine qi [aa c (bJ x) 41,K,aq] aC ?_
 refine iB (own:=[aa c (bJ x) 41,K,aq]) (hU:=cb) .no rfl rfl w0 rfl ?_
 rintro _ aP ⟨rfl,kL⟩
 refine cU ?_
 have w1:=aZ (1) (x.cG) aP (rfl) kL
 refine qi [aa c (bJ x) 41,K,aq] aC ?_
 refine iB (own:=[aa c (bJ x) 41,K,aq]) (hU:=aP) (.yes 11 rfl rfl rfl) rfl rfl w1 rfl ?_
 rintro _ aQ ⟨rfl,iN⟩
 refine cU ?_
 have Bc:=aZ (2) ((x.aG.l.length:Int)) aQ (rfl) iN
 refine qi [aa c (bJ x) 41,K,aq] aC ?_
 refine iB (own:=[aa c (bJ x) 41,K,aq]) (hU:=aQ) (.yes 18 rfl rfl rfl) rfl rfl Bc rfl ?_
 rintro _ cF ⟨rfl,nw⟩
 refine cU ?_
 have Ir:=aZ (3) ((x.ba.l.length:Int)) cF (rfl) nw
 refine qi [aa c (bJ x) 41,K,aq] aC ?_
 refine iB (own:=[aa c (bJ x) 41,K,aq]) (hU:=cF) (.yes 26 rfl rfl rfl) rfl rfl Ir rfl ?_
 rintro _ lI ⟨rfl,w2⟩
 refine cU ?_
 have It:=aZ (4) ((x.a0.l.length:Int)) lI (rfl) w2
 refine qi [aa c (bJ x) 41,K,aq] aC ?_
 refine iB (own:=[aa c (bJ x) 41,K,aq]) (hU:=lI) (.yes 34 rfl rfl rfl) rfl rfl It rfl ?_
 rintro _ nH ⟨rfl,p1⟩
 refine cU ?_
 refine dH (α:=Nat×List (ao B)) (fun⟨i,aP⟩=>i≤x.aG.l.length∧J (vv x i) aP) (fun⟨i,aP⟩=>[(45,U (i:Int)),(44,U (x.aG.l.length:Int)),(0,.func (.yield cu) #[] #[]),(1,ag c),(43,aw x.aG)]) (fun⟨i,aP⟩=>aa c (bJ x) 41::K::aq::aP) (fun⟨i,aP⟩=>x.aG.l.length-i) (0,nH) ?_ dD aC ?_
 ·exact⟨Nat.zero_le _,p1⟩
 rintro⟨i,aP⟩ ⟨ak,kL⟩
 dsimp only
 refine ah ?_
 refine aT ?_ ?_<;>intro ab
 ·obtain⟨d,bh⟩:∃d,x.aG.l[i]?=some d:=⟨_,List.getElem?_eq_getElem al⟩
  refine ah ?_
  refine aA (hN (aW:=cg) (aH:=11) (i:=i) (fun _=>rfl) rfl ar av.aG ae bh) ?_
  refine ds fun ay=>?_
  refine gK ?_
  refine cM (cg d) ?_
  refine ah ?_
  refine cA (Zg d cu (fun k=>J (vv x i+k)) aP kL (fun k w S aj bt=>aZ (vv x i+k) w S (by rw [vv,Nat.add_assoc];exact s8 rfl (NB (Ck bh aj))) bt)) ?_
  rintro _ aQ ⟨rfl,iN⟩
  try simp only [List.cons_append,List.nil_append]
  refine ah ?_
  refine eg (i+1,aQ) ?_ ?_ ?_ ?_
  ·(try dsimp only);exact⟨by omega,by rw [show vv x (i+1)=vv x i+(tN d).length from by show 5+_=5+_+_;rw [Gb bh];omega];exact iN⟩
  ·(try dsimp only);omega
  ·refine⟨?_,?_,?_,?_,?_,trivial⟩<;>rfl
  (try dsimp only);exact⟨_,aC⟩
 obtain rfl:i=x.aG.l.length:=by omega
 refine ah ?_
 refine dH (α:=Nat×List (ao B)) (fun⟨i,aP⟩=>i≤x.ba.l.length∧J (tP x i) aP) (fun⟨i,aP⟩=>[(57,U (i:Int)),(56,U (x.ba.l.length:Int)),(0,.func (.yield cu) #[] #[]),(1,ag c),(55,aw x.ba)]) (fun⟨i,aP⟩=>aa c (bJ x) 41::K::aq::aP) (fun⟨i,aP⟩=>x.ba.l.length-i) (0,aP) ?_ dD aC ?_
 ·exact⟨Nat.zero_le _,by rw [show tP x 0=vv x x.aG.l.length from by rw [vv,List.take_length];rfl];exact kL⟩
 rintro⟨i,aP⟩ ⟨ak,kL⟩
 dsimp only
 refine ah ?_
 refine aT ?_ ?_<;>intro af
 ·obtain⟨d,bh⟩:∃d,x.ba.l[i]?=some d:=⟨_,List.getElem?_eq_getElem al⟩
  refine ah ?_
  refine aA (hN (aW:=eI) (aH:=2) (i:=i) (fun _=>rfl) rfl ar av.ba ae bh) ?_
  refine ds fun aM=>?_
  refine gK ?_
  refine cM (eI d) ?_
  refine ah ?_
  refine cA (Zh d (bP d (List.mem_of_getElem? bh)) cu (fun k=>J (tP x i+k)) aP kL (fun k w S aj bt=>aZ (tP x i+k) w S (by rw [tP,Nat.add_assoc,Nat.add_assoc];exact s8 rfl (s8 rfl (NB (Ck bh aj)))) bt)) ?_
  rintro _ aQ ⟨rfl,iN⟩
  try simp only [List.cons_append,List.nil_append]
  refine ah ?_
  refine eg (i+1,aQ) ?_ ?_ ?_ ?_
  ·(try dsimp only);exact⟨by omega,by rw [show tP x (i+1)=tP x i+(y0 d).length from by show 5+(_+_)=5+(_+_)+_;rw [Gb bh];omega];exact iN⟩
  ·(try dsimp only);omega
  ·refine⟨?_,?_,?_,?_,?_,trivial⟩<;>rfl
  (try dsimp only);exact⟨_,aC⟩
 obtain rfl:i=x.ba.l.length:=by omega
 refine ah ?_
 refine dH (α:=Nat×List (ao B)) (fun⟨i,aP⟩=>i≤x.a0.l.length∧J (tQ x i) aP) (fun⟨i,aP⟩=>[(69,U (i:Int)),(68,U (x.a0.l.length:Int)),(0,.func (.yield cu) #[] #[]),(1,ag c)]) (fun⟨i,aP⟩=>aa c (bJ x) 41::K::aq::aP) (fun⟨i,aP⟩=>x.a0.l.length-i) (0,aP) ?_ dD aC ?_
 ·exact⟨Nat.zero_le _,by rw [show tQ x 0=tP x x.ba.l.length from by rw [tP,List.take_length];rfl];exact kL⟩
 rintro⟨i,aP⟩ ⟨ak,kL⟩
 dsimp only
 refine ah ?_
 refine bX ?_ ?_<;>intro az
 ·obtain⟨d,bh⟩:∃d,x.a0.l[i]?=some d:=⟨_,List.getElem?_eq_getElem al⟩
  refine kk ?_
  refine ik ?_
  refine dZ ?_
  refine qY ?_
  refine dZ ?_
  refine fl ?_
  refine aA (dh rfl) ?_
  refine aA (dh rfl) ?_
  refine hd ?_
  refine dZ ?_
  refine fl ?_
  refine aA (dw (bx:=(bJ x)) rfl ar ae rfl (by rfl)) ?_
  refine ah ?_
  refine cA (Zi x av i d bh (rp d (List.mem_of_getElem? bh)) bc aD cu (fun k=>J (tQ x i+k)) aP kL (fun k w S aj bt=>aZ (tQ x i+k) w S (by rw [tQ,Nat.add_assoc,Nat.add_assoc,Nat.add_assoc];exact s8 rfl (s8 rfl (s8 rfl (Ck bh aj)))) bt)) ?_
  rintro _ _ ⟨rfl,aQ,iN,rfl⟩
  try simp only [List.cons_append,List.nil_append]
  refine ah ?_
  refine eg (i+1,aQ) ?_ ?_ ?_ ?_
  ·(try dsimp only);exact⟨by omega,by rw [show tQ x (i+1)=tQ x i+(pd x d).length from by show 5+(_+(_+_))=5+(_+(_+_))+_;rw [Gb bh];omega];exact iN⟩
  ·(try dsimp only);omega
  ·refine⟨?_,?_,?_,?_,trivial⟩<;>rfl
  (try dsimp only);exact⟨_,aC⟩
 obtain rfl:i=x.a0.l.length:=by omega
 refine ah ?_
 exact⟨aa c (bJ x) 41::K::aq::aP,⟨aP,rfl,.inl (by rw [List.length_map,show(oq x).length=tQ x x.a0.l.length from by rw [tQ,List.take_length];unfold oq;simp only [List.length_append,List.length_cons,List.length_nil]];exact kL)⟩,_,aC⟩
theorem U2(x:bQ)(av:x.In K)(bg:(iS x.c).2=0)(bP:∀m∈x.ba.l,m.q.l=[])(rp:∀d∈x.a0.l,d 2=3→∀k∈bj (eY x.c d),∃mC:Nat,k=(mC:Int)∧mC<16)(a7:(oq x).length≤100000){aq:ao B}(bc:dL aq)(aD:dS aq):aS B 56 [x.v] [K,aq] (fun v S=>∃a:ai (BitVec 32),(a.l=(oq x).map gj∧a.Own)∧v= .tuple #[aw a,U 0]∧S=[cK a,K,aq]):=by
 refine bD 25 Tryz.func56 fun a4 ax=>?_
 refine dt (au:=(bJ x)) fun ay=>?_
 refine ho ?_
 refine cM (bJ x) ?_
 refine dA (C2 x av) ?_
 rw [bg]
 refine ct ?_
 refine bH (U (iS x.c).1) ?_
 refine bH (U 0) ?_
 refine kZ ?_
 refine aT ?_ ?_<;>intro ab
 ·exact bW ab
 refine ds fun aM=>?_
 refine gK ?_
 refine cM (bJ x) ?_
 refine cA (W8 x) ?_
 rintro _ _ ⟨c,rfl,rfl⟩
 simp only [List.cons_append,List.nil_append]
 refine dW ?_
 refine hy de 42 1 ?_
 rw [show(aa aM [.slice none 0 0] 46:ao B)=aa aM [aw (ai.bG:ai (BitVec 32))] 46 from rfl]
 refine Sp (own:=[aa c (bJ x) 41,K,aq]) (aP:=[aa aM [aw (ai.bG:ai (BitVec 32))] 46,cK ai.bG]) rfl e2 (Zj c x av bP rp bc aD) (fun i S=>∃a:ai (BitVec 32),(a.l=((oq x).take i).map gj∧a.Own)∧S=[aa aM [aw a] 46,cK a]) (fun c i S=>False) (fun _ _ _ h=>h) (show Take ([aa c (bJ x) 41,K,aq,aa aM [aw (ai.bG:ai (BitVec 32))] 46,cK ai.bG]) _ _ from aC) (⟨ai.bG,⟨rfl,ai.fY⟩,rfl⟩) rfl (fun x av=>by obtain⟨j,_,rfl⟩:=List.mem_map.1 av;rfl) ?_ ?_ ?_
 ·intro cu rec jF i aQ ak bt
  obtain⟨a,⟨aO,bT⟩,rfl⟩:=bt
  rw [List.length_map]at ak
  obtain⟨n,bh⟩:∃n,(oq x)[i]?=some n:=⟨_,List.getElem?_eq_getElem ak⟩
  rw [show((oq x).map fun n=>[Value.int .i64 n]).getD i []=[U n]from by simp [List.getD,bh]]
  have dB:a.l.length=i:=by rw [aO,List.length_map,List.length_take];omega
  refine ah ?_
  refine⟨rfl,_,_,.cons ar (Take.self _),fun h1=>?_⟩
  refine ah ?_
  refine aA (kn rfl ae (z1 n)) ?_
  refine js (au:=de (gj n)) .no rfl ae bu bu (by rfl) (by rfl) rfl rfl (fun bw=>?_)
  refine vH (aW:=de) (c:=a) (y:=(gj n)) (K:=_) .no rfl rfl ae ar ar (hF) rfl rfl al al rfl (fun c2 gL jQ=>?_)
  refine ah ?_
  exact⟨[aa aM [aw c2] 46,cK c2],_,aC,⟨c2,⟨by rw [gL,aO,List.take_add_one,bh];simp,jQ⟩,rfl⟩⟩
 ·intro c0 aQ bt
  obtain⟨a,⟨aO,bT⟩,rfl⟩:=bt
  rw [List.length_map,List.take_length]at aO
  simp only [List.cons_append,List.nil_append]
  refine gK ?_
  refine cv (aw a) ?_
  refine ah ?_
  refine cc (show Take [du c0] _ _ from aC) (zd rfl rfl rfl) ?_
  exact⟨[cK a,K,aq],⟨a,⟨aO,bT⟩,rfl,rfl⟩,_,bq⟩
 intro c0 c i aQ ak h
 exact h.elim
def ac4:List (List UInt8×List UInt8):=[([116,105,99,107],[110]),([111,102,102,101,114],[97,110,115]),([114,101,113,117,101,115,116],[97]),([115,101,110,100],[97,110]),([116,97,107,101],[97]),([115,101,116],[104]),([99,108,101,97,114],[104]),([116,101,115,116],[97,104]),([98,101,103,105,110],[]),([112,117,116],[119]),([99,111,109,109,105,116],[]),([99,111,110,102,105,114,109],[]),([99,117,116],[97,104]),([111,102,102],[]),([98,111,111,116],[])]
def ee(k:Int):List UInt8×List UInt8:=ac4.getD (k-1).toNat ([],[])
theorem MS(k:Int)(aj:1≤k∧k≤15):aS B 111 [U k] [] (fun v S=>v= .tuple #[.agg #[str (ee k).1,str (ee k).2],.bool true]∧S=[]):=by
 refine bD 51 Tryz.func111 fun a4 ax=>?_
 refine da fun ay=>?_
 refine aT ?_ ?_<;>intro ab
 ·refine cc (.nil _) (hc rfl rfl ar ae (by rfl) rfl) ?_
  have iZ:k=1:=by omega
  subst iZ
  exact⟨[],⟨rfl,rfl⟩,_,aC⟩
 refine aT ?_ ?_<;>intro af
 ·refine cc (.nil _) (hc rfl rfl ar ae (by rfl) rfl) ?_
  have iZ:k=2:=by omega
  subst iZ
  exact⟨[],⟨rfl,rfl⟩,_,aC⟩
 refine aT ?_ ?_<;>intro az
 ·refine cc (.nil _) (hc rfl rfl ar ae (by rfl) rfl) ?_
  have iZ:k=3:=by omega
  subst iZ
  exact⟨[],⟨rfl,rfl⟩,_,aC⟩
 refine aT ?_ ?_<;>intro a5
 ·refine cc (.nil _) (hc rfl rfl ar ae (by rfl) rfl) ?_
  have iZ:k=4:=by omega
  subst iZ
  exact⟨[],⟨rfl,rfl⟩,_,aC⟩
 refine aT ?_ ?_<;>intro cd
 ·refine cc (.nil _) (hc rfl rfl ar ae (by rfl) rfl) ?_
  have iZ:k=5:=by omega
  subst iZ
  exact⟨[],⟨rfl,rfl⟩,_,aC⟩
 refine aT ?_ ?_<;>intro c5
 ·refine cc (.nil _) (hc rfl rfl ar ae (by rfl) rfl) ?_
  have iZ:k=6:=by omega
  subst iZ
  exact⟨[],⟨rfl,rfl⟩,_,aC⟩
 refine aT ?_ ?_<;>intro fo
 ·refine cc (.nil _) (hc rfl rfl ar ae (by rfl) rfl) ?_
  have iZ:k=7:=by omega
  subst iZ
  exact⟨[],⟨rfl,rfl⟩,_,aC⟩
 refine aT ?_ ?_<;>intro gx
 ·refine cc (.nil _) (hc rfl rfl ar ae (by rfl) rfl) ?_
  have iZ:k=8:=by omega
  subst iZ
  exact⟨[],⟨rfl,rfl⟩,_,aC⟩
 refine aT ?_ ?_<;>intro jf
 ·refine cc (.nil _) (hc rfl rfl ar ae (by rfl) rfl) ?_
  have iZ:k=9:=by omega
  subst iZ
  exact⟨[],⟨rfl,rfl⟩,_,aC⟩
 refine aT ?_ ?_<;>intro iw
 ·refine cc (.nil _) (hc rfl rfl ar ae (by rfl) rfl) ?_
  have iZ:k=10:=by omega
  subst iZ
  exact⟨[],⟨rfl,rfl⟩,_,aC⟩
 refine aT ?_ ?_<;>intro qN
 ·refine cc (.nil _) (hc rfl rfl ar ae (by rfl) rfl) ?_
  have iZ:k=11:=by omega
  subst iZ
  exact⟨[],⟨rfl,rfl⟩,_,aC⟩
 refine aT ?_ ?_<;>intro yz
 ·refine cc (.nil _) (hc rfl rfl ar ae (by rfl) rfl) ?_
  have iZ:k=12:=by omega
  subst iZ
  exact⟨[],⟨rfl,rfl⟩,_,aC⟩
 refine aT ?_ ?_<;>intro Py
 ·refine cc (.nil _) (hc rfl rfl ar ae (by rfl) rfl) ?_
  have iZ:k=13:=by omega
  subst iZ
  exact⟨[],⟨rfl,rfl⟩,_,aC⟩
 refine aT ?_ ?_<;>intro HX
 ·refine cc (.nil _) (hc rfl rfl ar ae (by rfl) rfl) ?_
  have iZ:k=14:=by omega
  subst iZ
  exact⟨[],⟨rfl,rfl⟩,_,aC⟩
 refine aT ?_ ?_<;>intro yL
 ·refine cc (.nil _) (hc rfl rfl ar ae (by rfl) rfl) ?_
  have iZ:k=15:=by omega
  subst iZ
  exact⟨[],⟨rfl,rfl⟩,_,aC⟩
 omega
theorem Zk(w:List UInt8)(k:Int)(aj:1≤k∧k≤15)(hw:(ee k).1=w)(er:∀j,1≤j→j<k→(ee j).1≠w):aS B 110 [str w] [] (fun v S=>v=U k∧S=[]):=by
 refine bD 20 Tryz.func110 fun a4 ax=>?_
 refine dH (α:=Int) (fun j=>1≤j∧j≤k) (fun j=>[(3,U j),(0,str w)]) (fun j=>[]) (fun j=>(16-j).toNat) 1 ?_ dD aC ?_
 ·exact⟨by decide,by omega⟩
 rintro j ⟨HV,mw⟩
 refine ah ?_
 refine aT ?_ ?_<;>intro ab
 ·refine hD (MS j (by omega)) ?_
  refine ct ?_
  refine bH (.agg #[str (ee j).1,str (ee j).2]) ?_
  refine bH (.bool true) ?_
  refine ds fun ay=>?_
  refine ho ?_
  refine cv (str (ee j).1) ?_
  refine ah ?_
  refine aA (k6 (a:=(ee j).1) (b:=w) rfl rfl rfl) ?_
  refine ah ?_
  refine aT ?_ ?_<;>intro af
  ·have n7:j=k:=by rcases Int.lt_or_le j k with g|g;exact absurd af (er j HV g);omega
   exact⟨[],⟨by rw [n7],rfl⟩,_,bq⟩
  exact fX (j+1) ⟨by omega,by have kI:j≠k:=(fun e=>af (by rw [e];exact hw));omega⟩
 omega
theorem OB(a b:List UInt8)(c:Int):aS B 113 [.agg #[str a,str b],.int .u8 c] [] (fun v S=>v= .bool (decide (0≤Lib.indexByte b c.toNat.toUInt8))∧S=[]):=by
 refine bD 10 Tryz.func113 fun a4 ax=>?_
 refine dt (au:=[str a,str b]) fun ay=>?_
 refine cW ?_
 refine cv (str b) ?_
 refine ah ?_
 refine fL (OA b c) ?_
 exact bA
theorem Zl(b:Nat)(iP A N c:Int)(bg:c=97∨c=110)(q:List UInt8)(dy:iz q):aS B 112 [ag b,.int .u8 c,str q] [aa b [U iP,U A,U N,.slice none 0 0,.slice none 0 0] 63] (fun v S=>v= .bool true∧S=[aa b [U iP,U (if c=97 then cn q else A),U (if c=97 then N else cn q),.slice none 0 0,.slice none 0 0] 63]):=by
 refine bD 85 Tryz.func112 fun a4 ax=>?_
 refine aT ?_ ?_<;>intro ab
 ·refine aT ?_ ?_<;>intro af
  ·refine dA (z7 q) ?_
   rw [x7 dy]
   refine ct ?_
   refine bH (U (cn q)) ?_
   refine bH (U 0) ?_
   refine ah ?_
   refine aT ?_ ?_<;>intro az
   ·have cq:c=97:=by omega
    rw [if_pos cq,if_pos cq]
    exact bA
   omega
  omega
 refine aT ?_ ?_<;>intro a5
 ·refine dA (z7 q) ?_
  rw [x7 dy]
  refine ct ?_
  refine bH (U (cn q)) ?_
  refine bH (U 0) ?_
  refine ah ?_
  refine aT ?_ ?_<;>intro cd
  ·omega
  first|(have cq:c=97:=by omega);rw [if_pos cq,if_pos cq];exact⟨_,⟨rfl,rfl⟩,_,aC⟩|(have cq:¬c=97:=by omega);rw [if_neg cq,if_neg cq];exact⟨_,⟨rfl,rfl⟩,_,aC⟩
 omega
def iu(vg:List UInt8)(bV:List (List UInt8)):Nat→Int×Int
  |0=>(0,0)
  |1=>(0,0)
  |i+2=>if vg[i]?=some 97 then(cn (bV.getD (i+1) []),(iu vg bV (i+1)).2)else((iu vg bV (i+1)).1,cn (bV.getD (i+1) []))
structure HA(bV:List (List UInt8))(k:Int):Prop where
  yM:1≤k∧k≤15
  w:bV[0]?=some (ee k).1
  lt:∀j,1≤j→j<k→(ee j).1≠(ee k).1
  n:bV.length≤(ee k).2.length+1
  l:(ee k).2.length≤10
  each:∀i q,bV[i+1]?=some q→iz q∧((ee k).2[i]?=some 97∨(ee k).2[i]?=some 110)
  least:(ee k).2.length≤bV.length-1+(if 0≤Lib.indexByte (ee k).2 (115:Int).toNat.toUInt8∨0≤Lib.indexByte (ee k).2 (119:Int).toNat.toUInt8 then 1 else 0)
def EH(k:Int):Nat→Int
  |0=>0
  |_+1=>k
def EI(k:Int):Nat→List UInt8×List UInt8
  |0=>([],[])
  |_+1=>ee k
def ad0:Nat→Int
  |0=>0
  |i+1=>(i:Int)
theorem Zm{vg:List UInt8}{bV:List (List UInt8)}{j:Nat}{q:List UInt8}{pJ:UInt8}(bg:vg[j]?=some pJ)(bP:bV[j+1]?=some q):iu vg bV (j+2)=((if(pJ.toNat:Int)=97 then cn q else(iu vg bV (j+1)).1),(if(pJ.toNat:Int)=97 then(iu vg bV (j+1)).2 else cn q)):=by
  rw [iu,bg,show bV.getD (j+1) []=q from by simp [List.getD,bP]]
  by_cases h:pJ=97
  · subst h;simp
  · have:¬(pJ.toNat:Int)=97:=fun e=>h (UInt8.toNat_inj.1 (show pJ.toNat=97 by omega))
    rw [if_neg (by simpa using h),if_neg this,if_neg this]
theorem Zn(s:List UInt8)(aB:s.length≤100000)(k:Int)(aj:HA (pieces s) k):aS B 59 [str s] [] (fun v S=>v= .tuple #[.agg #[U k,U (iu (ee k).2 (pieces s) (pieces s).length).1,U (iu (ee k).2 (pieces s) (pieces s).length).2,.slice none 0 0,.slice none 0 0],.bool true]∧S=[]):=by
 refine bD 93 Tryz.func59 fun a4 ax=>?_
 refine ds fun ay=>?_
 refine da fun aM=>?_
 refine FH ?_
 refine ah ?_
 refine ds fun bw=>?_
 refine ds fun b9=>?_
 refine da fun dK=>?_
 refine FG ?_
 refine ah ?_
 refine cA (Ga s) ?_
 rintro _ _ ⟨c,rfl,rfl⟩
 refine cU ?_
 rw [show(aa b9 [Value.string ByteArray.empty,Value.string ByteArray.empty] 241:ao B)=aa b9 [str [],str []] 241 from rfl]
 refine kh (own:=[aa c [str s] 9]) (aP:=[aa bw [U 0,U 0,U 0,.slice none 0 0,.slice none 0 0] 63,aa b9 [str [],str []] 241,aa dK [U 0] 3]) rfl e2 (G1 c s (by omega)) (fun i S=>S=[aa bw [U (EH k i),U (iu (ee k).2 (pieces s) i).1,U (iu (ee k).2 (pieces s) i).2,.slice none 0 0,.slice none 0 0] 63,aa b9 [str (EI k i).1,str (EI k i).2] 241,aa dK [U (ad0 i)] 3]) (fun c i S=>False) (show Take ([aa c [str s] 9,aa bw [U 0,U 0,U 0,.slice none 0 0,.slice none 0 0] 63,aa b9 [str [],str []] 241,aa dK [U 0] 3]) _ _ from aC) (rfl) rfl (fun x av=>by obtain⟨j,_,rfl⟩:=List.mem_map.1 av;rfl) ?_ ?_ ?_
 ·intro cu rec jF i aQ ak bt
  subst bt
  rw [rP]at ak
  obtain⟨q,bP⟩:∃q,(pieces s)[i]?=some q:=⟨_,List.getElem?_eq_getElem ak⟩
  rw [zv bP]
  refine ah ?_
  refine⟨rfl,_,_,.cons ar (Take.self _),fun h1=>?_⟩
  refine ah ?_
  refine bX ?_ ?_<;>intro ab
  ·obtain rfl:i=0:=by omega
   obtain rfl:q=(ee k).1:=by have:=aj.w;rw [bP]at this;exact Option.some.inj this
   refine ah ?_
   refine hD (Zk (ee k).1 k aj.yM rfl aj.lt) ?_
   refine ho ?_
   refine cv (U k) ?_
   refine hD (MS k aj.yM) ?_
   refine ct ?_
   refine bH (.agg #[str (ee k).1,str (ee k).2]) ?_
   refine bH (.bool true) ?_
   refine ho ?_
   refine cv (U k) ?_
   refine ah ?_
   refine aT ?_ ?_<;>intro af
   ·have:=aj.yM;omega
   exact⟨[aa bw [U k,U (iu (ee k).2 (pieces s) 0).1,U (iu (ee k).2 (pieces s) 0).2,.slice none 0 0,.slice none 0 0] 63,aa b9 [str (ee k).1,str (ee k).2] 241,aa dK [U ((0:Nat):Int)] 3],_,aC,rfl⟩
  obtain⟨j,rfl⟩:∃j,i=j+1:=⟨i-1,by omega⟩
  obtain⟨ac5,ac6⟩:=aj.each j q bP
  have yF:=aj.n
  have P2:=aj.l
  obtain⟨pJ,Iu⟩:∃pJ,(ee k).2[j]?=some pJ:=⟨_,List.getElem?_eq_getElem (by omega)⟩
  have bg:(pJ.toNat:Int)=97∨(pJ.toNat:Int)=110:=by rcases ac6 with g|g<;>(rw [Iu]at g;injection g with g;subst g);exact .inl rfl;exact .inr rfl
  rw [show(aa bw [U (EH k (j+1)),U (iu (ee k).2 (pieces s) (j+1)).1,U (iu (ee k).2 (pieces s) (j+1)).2,.slice none 0 0,.slice none 0 0] 63:ao B)=aa bw [U k,U (iu (ee k).2 (pieces s) (j+1)).1,U (iu (ee k).2 (pieces s) (j+1)).2,.slice none 0 0,.slice none 0 0] 63 from rfl]
  refine kk ?_
  refine ik ?_
  refine dZ ?_
  refine fl ?_
  refine aA (dh rfl) ?_
  refine aA (kf ae) ?_
  refine aA (ed (v:=str (ee k).2) ae) ?_
  refine dW ?_
  rw [show min (((j+1:Nat):Int)) ((ee k).2.length:Int)=((j+1:Nat):Int)by omega]
  refine aA (MY (m:=((j+1:Nat):Int)) (n:=1) rfl rfl (by omega) (by omega)) ?_
  rw [show((j+1:Nat):Int)-1=(j:Int)by omega]
  refine iW ?_
  refine li ?_ ?_<;>intro az
  ·omega
  refine dW ?_
  refine aA (ed (v:=str (ee k).2) ae) (hw:=(.yes 41 rfl rfl rfl)) ?_
  refine ah ?_
  refine li ?_ ?_<;>intro a5
  ·omega
  refine we ?_
  refine cv (str (ee k).2) ?_
  refine ah ?_
  refine aA (ul (i:=j) rfl rfl ae rfl Iu) (hw:=(.yes 62 rfl rfl rfl)) ?_
  refine ah ?_
  refine e1 (Zl bw k (iu (ee k).2 (pieces s) (j+1)).1 (iu (ee k).2 (pieces s) (j+1)).2 (pJ.toNat:Int) bg q ac5) ?_
  rw [show(aa bw [U k,U (if(pJ.toNat:Int)=97 then cn q else(iu (ee k).2 (pieces s) (j+1)).1),U (if(pJ.toNat:Int)=97 then(iu (ee k).2 (pieces s) (j+1)).2 else cn q),.slice none 0 0,.slice none 0 0] 63:ao B)=aa bw [U (EH k (j+2)),U (iu (ee k).2 (pieces s) (j+2)).1,U (iu (ee k).2 (pieces s) (j+2)).2,.slice none 0 0,.slice none 0 0] 63 from by rw [Zm Iu bP];rfl]
  exact⟨[aa bw [U (EH k (j+2)),U (iu (ee k).2 (pieces s) (j+2)).1,U (iu (ee k).2 (pieces s) (j+2)).2,.slice none 0 0,.slice none 0 0] 63,aa b9 [str (EI k (j+1)).1,str (EI k (j+1)).2] 241,aa dK [U ((j+1:Nat):Int)] 3],_,aC,rfl⟩
 ·intro c0 aQ bt
  rw [rP]at bt
  subst bt
  obtain⟨m,hm⟩:∃m,(pieces s).length=m+1:=⟨(pieces s).length-1,by have:=(List.getElem?_eq_some_iff.1 aj.w).1;omega⟩
  have hle:=aj.least
  have P2:=aj.l
  rw [hm]at hle
  rw [hm]
  simp only [List.cons_append,List.nil_append]
  refine cW ?_
  refine cv (str (ee k).2) ?_
  refine ho ?_
  refine cM [str (ee k).1,str (ee k).2] ?_
  refine fL (OB (ee k).1 (ee k).2 115) ?_
  refine li ?_ ?_<;>intro cd
  ·refine ra ?_
   refine cv (U k) ?_
   refine ah ?_
   refine li ?_ ?_<;>intro c5
   ·have:=aj.yM;omega
   refine cv (U (m:Int)) ?_
   refine ah ?_
   refine bX ?_ ?_<;>intro fo
   ·split at hle<;>omega
   refine gK ?_
   refine cM [U k,U (iu (ee k).2 (pieces s) (m+1)).1,U (iu (ee k).2 (pieces s) (m+1)).2,.slice none 0 0,.slice none 0 0] ?_
   refine ah ?_
   refine xo ?_
   refine cc (show Take [du c0] _ _ from aC) (zA rfl rfl rfl ar ar ae ae (by rfl)) ?_
   exact⟨[],⟨rfl,rfl⟩,_,aC⟩
  refine cM [str (ee k).1,str (ee k).2] ?_
  refine fL (OB (ee k).1 (ee k).2 119) ?_
  refine bX ?_ ?_<;>intro gx
  ·refine jT ?_
   refine cv (U k) ?_
   refine ah ?_
   refine li ?_ ?_<;>intro jf
   ·have:=aj.yM;omega
   refine cv (U (m:Int)) ?_
   refine ah ?_
   refine bX ?_ ?_<;>intro iw
   ·split at hle<;>omega
   refine gK ?_
   refine cM [U k,U (iu (ee k).2 (pieces s) (m+1)).1,U (iu (ee k).2 (pieces s) (m+1)).2,.slice none 0 0,.slice none 0 0] ?_
   refine ah ?_
   refine xo ?_
   refine cc (show Take [du c0] _ _ from aC) (zA rfl rfl rfl ar ar ae ae (by rfl)) ?_
   exact⟨[],⟨rfl,rfl⟩,_,aC⟩
  refine ho ?_
  refine cv (U k) ?_
  refine ah ?_
  refine li ?_ ?_<;>intro qN
  ·have:=aj.yM;omega
  refine cv (U (m:Int)) ?_
  refine ah ?_
  refine bX ?_ ?_<;>intro yz
  ·split at hle<;>omega
  refine gK ?_
  refine cM [U k,U (iu (ee k).2 (pieces s) (m+1)).1,U (iu (ee k).2 (pieces s) (m+1)).2,.slice none 0 0,.slice none 0 0] ?_
  refine ah ?_
  refine xo ?_
  refine cc (show Take [du c0] _ _ from aC) (zA rfl rfl rfl ar ar ae ae (by rfl)) ?_
  exact⟨[],⟨rfl,rfl⟩,_,aC⟩
 intro c0 c i aQ ak h
 exact h.elim
abbrev nG:=Int×Int×Int
abbrev la(x:nG):List Value:=[U x.1,U x.2.1,U x.2.2,.slice none 0 0,.slice none 0 0]
abbrev s9(a:ai nG):ao B:=cr a 63 5 la
abbrev nY(bV:List (List UInt8))(k:Int):nG:=(k,(iu (ee k).2 bV bV.length).1,(iu (ee k).2 bV bV.length).2)
theorem W9(dl:List (List UInt8))(aB:(fQ dl).length≤60000)(iw:∀q∈dl,∀c∈q,c≠10∧c≠35)(hlen:∀q∈dl,q.length≤100000)(L:List nG)(ac7:L.length=dl.length)(P7:L.length≤400)(aj:∀(i:Nat) q,dl[i]?=some q→∃k,HA (pieces q) k∧L[i]?=some (nY (pieces q) k)):aS B 24 [str (fQ dl)] [] (fun v S=>∃a:ai nG,(a.l=L∧a.Own)∧v= .tuple #[aw a,U 0,U 0]∧S=[s9 a]):=by
 refine bD 41 Tryz.func24 fun a4 ax=>?_
 refine ds fun ay=>?_
 refine ds fun aM=>?_
 refine da fun bw=>?_
 refine aT ?_ ?_<;>intro ab
 ·first|omega|simp at ab|(simp at ab;done)|(have:=aB;omega)
 refine da fun b9=>?_
 refine cA (MQ (fQ dl)) ?_
 rintro _ _ ⟨c,rfl,rfl⟩
 simp only [List.cons_append,List.nil_append]
 refine dW ?_
 refine hy la 63 5 ?_
 rw [show(aa b9 [.slice none 0 0] 22:ao B)=aa b9 [aw (ai.bG:ai nG)] 22 from rfl]
 refine Kp (own:=[aa c [str (fQ dl)] 9]) (aP:=[aa b9 [aw (ai.bG:ai nG)] 22,s9 ai.bG]) rfl e2 (Nz c dl al iw hlen) (fun i S=>∃a:ai nG,(a.l=L.take i∧a.Own)∧S=[aa b9 [aw a] 22,s9 a]) (fun c i S=>False) (show Take ([aa c [str (fQ dl)] 9,aa b9 [aw (ai.bG:ai nG)] 22,s9 ai.bG]) _ _ from aC) (⟨ai.bG,⟨rfl,ai.fY⟩,rfl⟩) rfl (fun x av=>by obtain⟨j,_,rfl⟩:=List.mem_map.1 av;rfl) ?_ ?_ ?_
 ·intro cu rec jF i aQ ak bt
  obtain⟨a,⟨aO,bT⟩,rfl⟩:=bt
  rw [vL]at ak
  obtain⟨q,bP⟩:∃q,dl[i]?=some q:=⟨_,List.getElem?_eq_getElem ak⟩
  rw [F9 bP]
  obtain⟨k,Iv,eL⟩:=aj i q bP
  have dB:a.l.length≤400:=by rw [aO,List.length_take];omega
  refine ah ?_
  refine⟨rfl,_,_,.cons ar (Take.self _),fun h1=>?_⟩
  refine ah ?_
  refine da fun dK=>?_
  refine cA (Ga q) ?_
  rintro _ _ ⟨bC,rfl,rfl⟩
  refine cU ?_
  refine Cb (own:=[aa bC [str q] 9]) (aP:=[aa dK [.bool true] 4]) ar rfl e2 (G1 bC q (by have:=hlen q (List.mem_of_getElem? bP);omega)) (fun j S=>j=0∧S=[aa dK [.bool true] 4]) (fun c j S=>c= .exit 2∧S=[aa dK [.bool false] 4]) (show Take ([aa bC [str q] 9,aa dK [.bool true] 4]) _ _ from aC) (⟨rfl,rfl⟩) rfl (fun x av=>by obtain⟨j,_,rfl⟩:=List.mem_map.1 av;rfl) ?_ ?_ ?_
  ·intro u3 Ah By j cF aY iN
   obtain⟨rfl,rfl⟩:=iN
   obtain⟨w,hw⟩:∃w,(pieces q)[0]?=some w:=⟨_,Iv.w⟩
   rw [zv hw]
   refine ah ?_
   refine⟨rfl,_,_,.cons ar (Take.self _),fun h1=>?_⟩
   refine ah ?_
   exact⟨[aa dK [.bool false] 4],_,aC,⟨rfl,rfl⟩⟩
  ·intro cF iN
   exact absurd (List.getElem?_eq_some_iff.1 Iv.w).1 (by have b0:=iN.1;rw [rP]at b0;omega)
  intro c i aQ ak h
  obtain⟨rfl,rfl⟩:=h
  simp only [List.cons_append,List.nil_append]
  refine ho ?_
  refine cv (.bool false) ?_
  refine ct ?_
  refine aT ?_ ?_<;>intro af
  ·simp at af
  refine dA (Zn q (hlen q (List.mem_of_getElem? bP)) k Iv) ?_
  refine ct ?_
  refine bH (.agg (la (nY (pieces q) k)).toArray) ?_
  refine bH (.bool true) ?_
  refine ds fun jE=>?_
  refine jT ?_
  refine cv (aw a) ?_
  refine ah ?_
  refine bX ?_ ?_<;>intro az
  ·omega
  refine gD ?_
  refine cv (aw a) ?_
  refine cM (la (nY (pieces q) k)) ?_
  refine js (au:=la (nY (pieces q) k)) .no rfl ae bu bu (by rfl) (by rfl) rfl rfl (fun Eu=>?_)
  rw [show(aa Eu (la (nY (pieces q) k)) 63:ao B)=aa Eu (([(nY (pieces q) k)]:List nG).flatMap la) 63 from rfl]
  refine ma (aW:=la) (c:=a) (b:=ai.lit Eu [(nY (pieces q) k)] (by simp)) .no rfl rfl ae ar (show Out (aa Eu (([(nY (pieces q) k)]:List nG).flatMap la) 63) _ _ from ar) hF (fun _=>rfl) (fun _=>rfl) (by show a.l.length+1≤_;omega) (by show(a.l.length+1)*_≤_;omega) rfl (fun c2 oI q5=>?_)
  refine ah ?_
  exact⟨[aa b9 [aw c2] 22,s9 c2],_,aC,⟨c2,⟨by rw [oI,aO,List.take_add_one,eL];rfl,q5⟩,rfl⟩⟩
 ·intro c0 aQ bt
  rw [vL]at bt
  obtain⟨a,⟨aO,bT⟩,rfl⟩:=bt
  rw [←ac7,List.take_length]at aO
  simp only [List.cons_append,List.nil_append]
  refine gK ?_
  refine cv (aw a) ?_
  refine ah ?_
  refine cc (show Take [du c0] _ _ from aC) (Cs rfl rfl rfl rfl ar ar ar ae ae ae) ?_
  exact⟨[s9 a],⟨a,⟨aO,bT⟩,rfl,rfl⟩,_,bq⟩
 intro c0 c i aQ ak h
 exact h.elim
def zN(P:Program)(t:Nat):Bool:=match P.underlying t with
  |some (.interface ..)=>true
  |_=>false
theorem Je{P:Program}{t:Nat}(aR:zN P t=true)(w:World):∀d,(Op.equalIn (d+1) t .nilIface .nilIface).run P w= .ok true w:=by
  intro d
  unfold zN at aR
  unfold Op.equalIn
  split at aR
  · rename_i hu
    simp [run_underlying hu]
  · cases aR
theorem Xa{P:Program}{A:eD}{N:Nat}{an:List Nat}{E:Env}{S:List (ao B)}{t fB:Nat}{x:Operand}(av:aX E x=some .nilIface)(aR:zN P t=true):dp P B A N an E S (.binOp .neq t x (.const .nilIface) fB) (.bool false):=
  ⟨by simp,by simp,fun a w bd pos a3 g d ap aB=>by
    have e:=Je (P:=P) aR w 9999
    have bg:a.eval (.const .nilIface)= .nilIface:=rfl
    simp [execOp,ap.aX av,bg,eqGuard,binOp,Op.equal,Op.maxDepth,e]⟩
theorem U3{P:Program}{A:eD}{N:Nat}{an:List Nat}{E:Env}{S:List (ao B)}{t fB:Nat}{x:Operand}(av:aX E x=some .nilIface)(aR:zN P t=true):dp P B A N an E S (.binOp .eql t x (.const .nilIface) fB) (.bool true):=
  ⟨by simp,by simp,fun a w bd pos a3 g d ap aB=>by
    have e:=Je (P:=P) aR w 9999
    have bg:a.eval (.const .nilIface)= .nilIface:=rfl
    simp [execOp,ap.aX av,bg,eqGuard,binOp,Op.equal,Op.maxDepth,e]⟩
theorem U4(x:bQ)(ab:x.aG.Own)(af:x.ba.Own)(az:x.a0.Own)(bP:∀m∈x.ba.l,m.q.l=[]):x.In (all [cr x.aG 173 11 cg,cr x.ba 177 2 eI,cr x.a0 184 23 cS]:ao B):=
  ⟨mh (.head _) (eh ab rfl),mh (.tail _ (.head _)) (eh af rfl),mh (.tail _ (.tail _ (.head _))) (eh az rfl),fun m hm=>by rw [bP m hm];exact zL⟩
theorem Xb(dl:List (List UInt8))(aB:(fQ dl).length≤60000)(iw:∀q∈dl,∀c∈q,c≠10∧c≠35)(hlen:∀q∈dl,q.length≤100000)(kI:0<dl.length)(dN:Nat→xj)(b0:dN 0=⟨0,[],[],[]⟩)(Iq:∀(i:Nat) q,dl[i]?=some q→im (decide (i=0)) (pieces q) (dN i) (dN (i+1))∧(dN i).bf.length≤1000∧(dN i).eT.length≤1000∧(dN i).es.length≤1000)(W:List (BitVec 32))(HW:∀x:bQ,x.cG=(dN dl.length).cG→x.aG.l=(dN dl.length).bf→x.ba.l=(dN dl.length).eT→x.a0.l=(dN dl.length).es→(iS x.c).2=0∧(∀m∈x.ba.l,m.q.l=[])∧(∀d∈x.a0.l,d 2=3→∀k∈bj (eY x.c d),∃mC:Nat,k=(mC:Int)∧mC<16)∧(oq x).length≤100000∧(oq x).map gj=W){aq:ao B}(bc:dL aq)(aD:dS aq):aS B 23 [str (fQ dl)] [aq] (fun v S=>∃a:ai (BitVec 32),(a.l=W∧a.Own)∧v= .tuple #[aw a,.nilIface]∧S=[cK a,aq]):=by
 refine bD 42 Tryz.func23 fun a4 ax=>?_
 refine cA (W6 dl aB iw hlen kI dN b0 Iq) ?_
 rintro _ _ ⟨x,⟨wz,⟨DP,aaM⟩,⟨ac8,aaN⟩,⟨ac9,aaO⟩⟩,rfl,rfl⟩
 simp only [List.cons_append,List.nil_append]
 obtain⟨jn,iq,ada,rv,adb⟩:=HW x wz DP ac8 ac9
 have wN:=U4 (B:=B) x aaM aaN aaO iq
 refine ct ?_
 refine bH x.v ?_
 refine bH (U 0) ?_
 refine bH (U 0) ?_
 refine ds fun ay=>?_
 refine uM ?_
 refine bX ?_ ?_<;>intro ab
 ·exact bW ab
 refine cW ?_
 refine kS (jv (l:=[cr x.aG 173 11 cg,cr x.ba 177 2 eI,cr x.a0 184 23 cS]) aC) ?_
 refine cM (bJ x) ?_
 refine dA (C2 x wN) ?_
 rw [jn]
 refine ct ?_
 refine bH (U (iS x.c).1) ?_
 refine bH (U 0) ?_
 refine kZ ?_
 refine bX ?_ ?_<;>intro af
 ·exact bW af
 refine gK ?_
 refine cM (bJ x) ?_
 refine cA (U2 x wN jn iq ada rv bc aD) ?_
 rintro _ _ ⟨a,⟨aO,bT⟩,rfl,rfl⟩
 simp only [List.cons_append,List.nil_append]
 refine ct ?_
 refine bH (aw a) ?_
 refine bH (U 0) ?_
 refine ah ?_
 exact⟨[cK a,aq],⟨a,⟨aO.trans adb,bT⟩,rfl,rfl⟩,_,bq⟩
theorem Zo(p e:List UInt8)(h:(p++e).length≤1000000000000):aS B 34 [str (p++e),str e] [] (fun v S=>v= .bool true∧S=[]):=by
 refine dn 21 Tryz.func34 fun a4 ax=>?_
 have aJ:(p++e).length=p.length+e.length:=List.length_append
 refine ah ?_
 refine cC ?_ ?_<;>intro ab
 ·refine aA (vE (yr:=none) (gY:=p.length) (ak:=(p++e).length) (p:=e) rfl ae ⟨_,congrArg (fun n:Int=>some (Value.int .i64 n)) al⟩ CP al (Nat.le_refl _) (by rw [List.drop_left,List.take_of_length_le al])) (hw:=(.yes 10 rfl rfl rfl)) ?_
  refine ah ?_
  refine aA (k6 (a:=e) (b:=e) rfl rfl rfl) (hw:=(.yes 10 rfl rfl rfl)) ?_
  refine ah ?_
  exact bI ⟨by simp,rfl⟩
 omega
theorem MT:zN Tryz.prog 27=true:=by kernel_rfl
theorem Xc{aq:ao B}(text Qu:List UInt8)(W:List (BitVec 32))(L:List nG)(P7:L.length≤400)(vm:aS B 23 [str text] [aq] (fun v S=>∃a:ai (BitVec 32),(a.l=W∧a.Own)∧v= .tuple #[aw a,.nilIface]∧S=[cK a,aq]))(eK:aS B 24 [str Qu] [] (fun v S=>∃a:ai nG,(a.l=L∧a.Own)∧v= .tuple #[aw a,U 0,U 0]∧S=[s9 a]))(J:Nat→Nat→List (ao B)→Prop)(jb:∀a:ai (BitVec 32),a.l=W→a.Own→aS B 25 [.agg #[U 16,U 256,U 1000],aw a] [cK a,aq] (fun v S=>∃q,v= .tuple #[ag q,U 0]∧J q 0 S))(bZ:∀(q i:Nat) x S,L[i]?=some x→J q i S→aS B 20 [ag q,.agg (la x).toArray] S (fun v aQ=>∃(e n:Int) (eF bN gT:Nat) (bz:Value) (w:ai (BitVec 32)) (dx:BitVec 32) (k:eV) (aX:ai eP) (R:List (ao B)),(aX.l.length≤100000∧aX.Own)∧v= .agg #[U e,U n]∧aQ=aa q (c6 eF bz (ag bN) w dx gT) 116::aa bN (c9 (dE k aX)) 170::fa aX::R∧J q (i+1) (aa q (c6 eF bz (ag bN) w dx gT) 116::aa bN (c9 (dE k (ai.bG:ai eP))) 170::fa (ai.bG:ai eP)::R)))(Iw:List UInt8)(aet:Iw.length≤1000)(ek:∀q S,J q L.length S→aS B 31 [ag q] S (fun v _=>v=str Iw)):aS B 8 [str text,str Qu] [aq] (fun v S=>∃out:List UInt8,out.length≤4000000000∧v= .tuple #[str (out++(Iw++[10])),.nilIface]):=by
 refine bD 77 Tryz.func8 fun a4 ax=>?_
 refine cA (vm) ?_
 rintro _ _ ⟨a,⟨aO,bT⟩,rfl,rfl⟩
 simp only [List.cons_append,List.nil_append]
 refine ct ?_
 refine bH (aw a) ?_
 refine bH .nilIface ?_
 refine ah ?_
 refine aA (Xa rfl MT) ?_
 refine ah ?_
 refine cA (eK) ?_
 rintro _ _ ⟨c2,⟨gL,jQ⟩,rfl,rfl⟩
 simp only [List.cons_append,List.nil_append]
 refine ct ?_
 refine bH (aw c2) ?_
 refine bH (U 0) ?_
 refine bH (U 0) ?_
 refine uM ?_
 refine aT ?_ ?_<;>intro ab
 ·exact bW ab
 refine e1 (Zb) ?_
 refine cA (jb a aO bT) ?_
 rintro _ cb ⟨q,rfl,gv⟩
 try simp only [List.cons_append,List.nil_append]
 refine ct ?_
 refine bH (ag q) ?_
 refine bH (U 0) ?_
 refine jT ?_
 refine aT ?_ ?_<;>intro af
 ·exact bW af
 refine dH (α:=Nat×List UInt8×List (ao B)) (fun⟨i,b,aP⟩=>i≤c2.l.length∧b.length≤6000000*i∧J q i aP) (fun⟨i,b,aP⟩=>[(12,str b),(51,U (i:Int)),(50,U (c2.l.length:Int)),(8,aw c2),(11,ag q),(49,aw c2)]) (fun⟨i,b,aP⟩=>s9 c2::aP) (fun⟨i,b,aP⟩=>c2.l.length-i) (0,[],cb) ?_ dD aC ?_
 ·exact⟨Nat.zero_le _,Nat.zero_le _,gv⟩
 rintro⟨i,b,aP⟩ ⟨ak,bb,bt⟩
 dsimp only
 have PQ:c2.l.length≤400:=by rw [gL];exact P7
 refine ah ?_
 refine aT ?_ ?_<;>intro az
 ·obtain⟨x,bh⟩:∃x,c2.l[i]?=some x:=⟨_,List.getElem?_eq_getElem al⟩
  refine ah ?_
  refine aA (hN (aW:=la) (aH:=5) (i:=i) (fun _=>rfl) rfl ar (eh jQ rfl) ae bh) ?_
  refine ds fun ay=>?_
  refine ho ?_
  refine cM (la x) ?_
  refine cA (bZ q i x aP (by rw [←gL];exact bh) bt) ?_
  rintro _ _ ⟨e,n,eF,bN,gT,bz,w,dx,k,aX,R,⟨Ix,aaP⟩,rfl,rfl,iN⟩
  try simp only [List.cons_append,List.nil_append]
  refine cA (UR e n) ?_
  rintro _ _ ⟨aM,acS,rfl,rfl⟩
  simp only [List.cons_append,List.nil_append]
  refine aA (fS rfl rfl fW) ?_
  refine aA (fS rfl rfl fW) ?_
  refine ah ?_
  refine e1 (MM q eF bz (ag bN) w dx gT) ?_
  refine dA (UN bN k aX) ?_
  refine cA (Za aX aaP Ix) ?_
  rintro _ _ ⟨bw,afk,rfl,rfl⟩
  simp only [List.cons_append,List.nil_append]
  refine nR po 155 4 ?_
  refine aA (fS rfl rfl fW) ?_
  refine ah ?_
  refine eg (i+1,b++(aM++[10])++bw,aa q (c6 eF bz (ag bN) w dx gT) 116::aa bN (c9 (dE k (ai.bG:ai eP))) 170::fa (ai.bG:ai eP)::R) ?_ ?_ ?_ ?_
  ·(try dsimp only);exact⟨by omega,by simp only [List.length_append,List.length_cons,List.length_nil];omega,iN⟩
  ·(try dsimp only);omega
  ·refine⟨?_,?_,?_,?_,?_,?_,trivial⟩<;>rfl
  (try dsimp only);exact⟨_,aC⟩
 obtain rfl:i=c2.l.length:=by omega
 refine ah ?_
 refine cA (ek q aP (by rw [←gL];exact bt)) ?_
 rintro _ ad1 rfl
 try simp only [List.cons_append,List.nil_append]
 refine aA (fS rfl rfl al) ?_
 refine aA (fS rfl rfl fW) ?_
 refine ah ?_
 exact⟨_,⟨b,by omega,by rw [List.append_assoc]⟩,_,Take.self _⟩
section
def g1:dG:=⟨1,vu,[(3#32,[]),(6#32,[]),(7#32,[])],tM⟩
abbrev k2:List (BitVec 32):=np g1
namespace Lv
structure uH(a:ai (BitVec 32))(b:ai Int):Prop where
  a:a.l.length=16*256∧a.Own
  b:b.l.length=16∧b.Own
theorem NC{l:List Int}(h:l.length=16):∃qS xk y1 y2 BH BI BJ BK BL BM Be Bf Bg Bh Bi Bj,l=[qS,xk,y1,y2,BH,BI,BJ,BK,BL,BM,Be,Bf,Bg,Bh,Bi,Bj]:=by
  match l,h with
  |[qS,xk,y1,y2,BH,BI,BJ,BK,BL,BM,Be,Bf,Bg,Bh,Bi,Bj],_=>exact⟨qS,xk,y1,y2,BH,BI,BJ,BK,BL,BM,Be,Bf,Bg,Bh,Bi,Bj,rfl⟩
set_option maxRecDepth 100000 in
theorem Zp(a:ai (BitVec 32)){b:ai Int}(h:b.l.length=16):(hf (lR 256 1000 a b) (lc (b.l.length/2) 0) k2).2.2=0:=by
  obtain⟨b1,c,l,ab,af,az⟩:=b
  obtain⟨qS,xk,y1,y2,BH,BI,BJ,BK,BL,BM,Be,Bf,Bg,Bh,Bi,Bj,rfl⟩:=NC h
  kernel_rfl
set_option maxRecDepth 100000 in
theorem Xd(a:ai (BitVec 32)){b:ai Int}(h:b.l.length=16):j4 (g8 256 1000 a b k2)=some 0∧kG (g8 256 1000 a b k2)=0∧e5 (g8 256 1000 a b k2) 0=⟨0,1#32,false,k2⟩:=by
  obtain⟨b1,c,l,ab,af,az⟩:=b
  obtain⟨qS,xk,y1,y2,BH,BI,BJ,BK,BL,BM,Be,Bf,Bg,Bh,Bi,Bj,rfl⟩:=NC h
  exact⟨by kernel_rfl,by kernel_rfl,by kernel_rfl⟩
theorem Xe{a:ai (BitVec 32)}{b:ai Int}(ak:uH a b):cZ (g8 256 1000 a b k2)∧(g8 256 1000 a b k2).ops≤5000∧(g8 256 1000 a b k2).b.l.length=16∧(g8 256 1000 a b k2).words=256:=by
  have av:=Gw (l:=k2) (n:=16) (W:=256) (L:=1000) (by decide) (by decide) (by decide) ak.a.1 ak.a.2 ak.b.1 ak.b.2
  have e:(lR 256 1000 a b).ops=0:=rfl
  exact⟨av.ok,by have:=av.ops;omega,by rw [av.b];exact ak.b.1,by rw [av.w]⟩
end Lv
end
theorem Fe{α:Type}{S:List (ao B)}(aW:α→List Value)(e aH:Nat):hL S (row (aw (ai.bG:ai α)) e aH (ai.bG:ai α).l.length ((ai.bG:ai α).l.flatMap aW)::S):=fun D w h=>
  ⟨fun _=>False,D,fun k=>by simp,fun _ h _=>h,⟨World.ownsRow_nil _ _ _ _,fun k=>by simp [Value.ownBlock,ai.bG]⟩,h⟩
theorem Da{P:Program}{f:FuncId}{args:List Value}{pre:List (ao B)}{post pj:Value→List (ao B)→Prop}(h:dQ P B f args pre post)(aE:∀v S,post v S→∃(α:Type) (F:α→List (ao B)) (R:List (ao B)),S=ex F::R∧∀x,pj v (F x++R)):dQ P B f args pre pj:=fun w D aB bZ hq=>
  (h w D aB bZ hq).mono fun _ _ ⟨v,a8,e,p,bz⟩=>by
    obtain⟨α,F,R,rfl,q⟩:=aE v a8 p
    obtain⟨dk,⟨dX,kc,dc,aD,⟨x,eR⟩,cB⟩,rest⟩:=bz
    exact⟨v,F x++R,e,q x,dk,dR.join dc aD eR cB,rest⟩
abbrev bR(a9:Nat)(eX aU:bQ)(o:ea)(m bo bn aV no:Int)(op:BitVec 32)(t:mD):List (ao B):=[aa a9 (b6 (cJ aU o m bo bn aV no (-1) op t)) 288,ix t,all (hn eX),all (hn aU),all (kQ o)]
abbrev cQ(p:Nat)(k:eV)(s:b4)(v:ai eP)(E aq:ao B):List (ao B):=[aa p (c9 (dE k v)) 170,aa k.dC (cp s) 260,many 16 (cX s.aF),fa v,E,aq]
structure kO(k:eV)(s:b4)(x:eV×b4):Prop where
  dC:x.1.dC=k.dC
  a9:x.1.a9=k.a9
  y:x.1.y=k.y
  q:x.1.q.l=[]
  late:x.1.late=k.late
  cf:x.1.cf=k.cf
  aF:x.2.aF=s.aF
  live:x.2.live=s.live
  now:x.2.now=s.now
  ok:fP x.2
theorem zO{k:eV}{e:iQ}{s:b4}(h:fP s):(g3 k e s).aF=s.aF∧(g3 k e s).live=s.live∧(g3 k e s).now=s.now∧fP (g3 k e s):=by
  unfold g3;split
  · exact⟨rfl,rfl,rfl,h⟩
  · exact⟨rfl,rfl,rfl,LQ h fun r _=>Ch _ _ _⟩
theorem xJ{o:ea}(h:o.a0.Own):c1 (all (kQ (B:=B) o)) o.a0.bl (o.a0.l.flatMap gr):=mh (a:=s5 o.a0) (by simp [kQ]) (eh h rfl)
theorem DU{a9:Nat}{eX aU:bQ}{o:ea}(m bo bn aV no:Int)(op:BitVec 32)(cR: -1000000≤no∧no≤1000000)(dM:BitVec 32)(hw:¬(bn=1∧dM=0#32)):aS B 213 [ag a9,aI dM.toNat] [(all (bR a9 eX aU o (m) (bo) (bn) (aV) (no) (op) (none)))] (fun v S=>∃a:ai ez,(a.l=[]∧a.Own)∧v=aw a∧S=[(all (bR a9 eX aU o (m) (bo) (bn) (aV) (no+1) (op) (none))),dO a]):=by
 refine gB (j2 (jK (WC a9 aU o m bo bn aV no (-1) op cR dM hw) (show Take _ ((bR a9 eX aU o (m) (bo) (bn) (aV) (no) (op) (none))++[]) _ from(by(try dsimp only [bR,cQ]);exact dI))) (lr (Take.self _))) ?_
 rintro v S ⟨aP,rfl,rfl,rfl⟩
 exact⟨_,[(all (bR a9 eX aU o (m) (bo) (bn) (aV) (no+1) (op) (none))),dO ai.bG],_,fun D w h=>jv (l:=(bR a9 eX aU o (m) (bo) (bn) (aV) (no+1) (op) (none))) (by(try dsimp only [bR,cQ]);exact dI) D w (Fe lz 375 6 D w h),(by(try dsimp only [bR,cQ]);exact dI),ai.bG,⟨rfl,ai.fY⟩,rfl,rfl⟩
theorem ade{a9:Nat}{eX aU:bQ}{o:ea}(b:Nat)(id k:Int)(aj:2≤k∧k≤65536)(m bo bn aV no:Int)(op:BitVec 32)(cR: -1000000≤no∧no≤1000000)(dM:BitVec 32)(hw:¬(bn=1∧dM=0#32)):aS B 213 [ag a9,aI dM.toNat] [(all (bR a9 eX aU o (m) (bo) (bn) (aV) (no) (op) (some (b,id,k))))] (fun v S=>∃a:ai ez,(a.l=[]∧a.Own)∧v=aw a∧S=[(all (bR a9 eX aU o (m) (bo) (bn) (aV) (no+1) (op) (some (b,id,k-1)))),dO a]):=by
 refine gB (j2 (jK (WD a9 aU o b id k aj m bo bn aV no (-1) op cR dM hw) (show Take _ ((bR a9 eX aU o (m) (bo) (bn) (aV) (no) (op) (some (b,id,k)))++[]) _ from(by(try dsimp only [bR,cQ]);exact dI))) (lr (Take.self _))) ?_
 rintro v S ⟨aP,rfl,rfl,rfl⟩
 exact⟨_,[(all (bR a9 eX aU o (m) (bo) (bn) (aV) (no+1) (op) (some (b,id,k-1)))),dO ai.bG],_,fun D w h=>jv (l:=(bR a9 eX aU o (m) (bo) (bn) (aV) (no+1) (op) (some (b,id,k-1)))) (by(try dsimp only [bR,cQ]);exact dI) D w (Fe lz 375 6 D w h),(by(try dsimp only [bR,cQ]);exact dI),ai.bG,⟨rfl,ai.fY⟩,rfl,rfl⟩
theorem aaQ{a9:Nat}{eX aU:bQ}{o:ea}(eQ:aU.Own)(ap:o.a0.Own)(i:Nat)(d:Nat→Int)(gW:aU.a0.l[i]?=some d)(sp:Int×Int)(aB:o.a0.l[i]?=some sp)(b:Nat)(m bn aV no:Int)(op:BitVec 32)(cR: -1000000≤no∧no≤1000000)(my: -1000000000≤aV∧aV≤1000000000)(dM:BitVec 32)(iO:bn≠1)(kW:¬0<sp.2):aS B 213 [ag a9,aI dM.toNat] [(all (bR a9 eX aU o (m) ((i:Int)) (bn) (aV) (no) (op) (some (b,16,1))))] (fun v S=>∃a:ai ez,(a.l=[⟨false,true,false,(i:Int),d 1,no+1-aV⟩,⟨false,false,true,(i:Int),d 1,0⟩]∧a.Own)∧v=aw a∧S=[(all (bR a9 eX aU o (d 1) (-1) (0) (aV) (no+1) (0#32) (none))),dO a]):=by
 refine gB (j2 (jK (UL a9 aU o (kp eQ) (xJ ap) i d gW sp aB b m bn aV no (-1) op cR my bu dM iO kW) (show Take _ ((bR a9 eX aU o (m) ((i:Int)) (bn) (aV) (no) (op) (some (b,16,1)))++[]) _ from(by(try dsimp only [bR,cQ]);exact dI))) (lr (Take.self _))) ?_
 rintro v S ⟨aP,rfl,a,⟨aO,bT⟩,rfl,rfl⟩
 exact⟨_,[(all (bR a9 eX aU o (d 1) (-1) (0) (aV) (no+1) (0#32) (none))),dO a],_,fun D w h=>jv (l:=(bR a9 eX aU o (d 1) (-1) (0) (aV) (no+1) (0#32) (none))) (by(try dsimp only [bR,cQ]);exact dI) D w (show dR (ix none::_) D w from um D w h),(by(try dsimp only [bR,cQ]);exact dI),a,⟨aO,bT⟩,rfl,rfl⟩
theorem aaR{a9:Nat}{eX aU:bQ}{o:ea}(eQ:aU.Own)(ap:o.a0.Own)(i:Nat)(d:Nat→Int)(gW:aU.a0.l[i]?=some d)(sp:Int×Int)(aB:o.a0.l[i]?=some sp)(b:Nat)(m bn aV no:Int)(op:BitVec 32)(cR: -1000000≤no∧no≤1000000)(my: -1000000000≤aV∧aV≤1000000000)(dM:BitVec 32)(iO:bn≠1)(kW:0<sp.2∧sp.2≤65536):aS B 213 [ag a9,aI dM.toNat] [(all (bR a9 eX aU o (m) ((i:Int)) (bn) (aV) (no) (op) (some (b,16,1))))] (fun v S=>∃(a:ai ez) (c:Nat),(a.l=[⟨false,true,false,(i:Int),d 1,no+1-aV⟩]∧a.Own)∧v=aw a∧S=[(all (bR a9 eX aU o (d 1) ((i:Int)) (4) (aV) (no+1) (op) (some (c,17,sp.2)))),dO a]):=by
 refine gB (j2 (jK (UK a9 aU o (kp eQ) (xJ ap) i d gW sp aB b m bn aV no (-1) op cR my bu dM iO kW) (show Take _ ((bR a9 eX aU o (m) ((i:Int)) (bn) (aV) (no) (op) (some (b,16,1)))++[]) _ from(by(try dsimp only [bR,cQ]);exact dI))) (lr (Take.self _))) ?_
 rintro v S ⟨aP,rfl,a,c,⟨aO,bT⟩,rfl,rfl⟩
 exact⟨_,[(all (bR a9 eX aU o (d 1) ((i:Int)) (4) (aV) (no+1) (op) (some (c,17,sp.2)))),dO a],_,jv (l:=(bR a9 eX aU o (d 1) ((i:Int)) (4) (aV) (no+1) (op) (some (c,17,sp.2)))) (by(try dsimp only [bR,cQ]);exact dI),(by(try dsimp only [bR,cQ]);exact dI),a,c,⟨aO,bT⟩,rfl,rfl⟩
theorem adf{a9:Nat}{eX aU:bQ}{o:ea}(b:Nat)(m bo bn aV no:Int)(op:BitVec 32)(cR: -1000000≤no∧no≤1000000)(dM:BitVec 32)(iO:bn≠1):aS B 213 [ag a9,aI dM.toNat] [(all (bR a9 eX aU o (m) (bo) (bn) (aV) (no) (op) (some (b,17,1))))] (fun v S=>∃a:ai ez,(a.l=[⟨false,false,true,bo,m,0⟩]∧a.Own)∧v=aw a∧S=[(all (bR a9 eX aU o (m) (-1) (0) (aV) (no+1) (0#32) (none))),dO a]):=by
 refine gB (j2 (jK (WE a9 aU o b m bo bn aV no (-1) op cR bu dM iO) (show Take _ ((bR a9 eX aU o (m) (bo) (bn) (aV) (no) (op) (some (b,17,1)))++[]) _ from(by(try dsimp only [bR,cQ]);exact dI))) (lr (Take.self _))) ?_
 rintro v S ⟨aP,rfl,a,⟨aO,bT⟩,rfl,rfl⟩
 exact⟨_,[(all (bR a9 eX aU o (m) (-1) (0) (aV) (no+1) (0#32) (none))),dO a],_,fun D w h=>jv (l:=(bR a9 eX aU o (m) (-1) (0) (aV) (no+1) (0#32) (none))) (by(try dsimp only [bR,cQ]);exact dI) D w (show dR (ix none::_) D w from um D w h),(by(try dsimp only [bR,cQ]);exact dI),a,⟨aO,bT⟩,rfl,rfl⟩
theorem adg{a9:Nat}{eX aU:bQ}{o:ea}(eQ:aU.Own)(ap:o.a0.Own)(i:Nat)(d:Nat→Int)(gW:aU.a0.l[i]?=some d)(sp:Int×Int)(aB:o.a0.l[i]?=some sp)(m aV no:Int)(op:BitVec 32)(cR: -1000000≤no∧no≤1000000)(my: -1000000000≤aV∧aV≤1000000000)(dM:BitVec 32)(l0:dM=0#32)(kW:¬0<sp.2):aS B 213 [ag a9,aI dM.toNat] [(all (bR a9 eX aU o (m) ((i:Int)) (1) (aV) (no) (op) (none)))] (fun v S=>∃a:ai ez,(a.l=[⟨false,true,false,(i:Int),d 1,no+1-aV⟩,⟨false,false,true,(i:Int),d 1,0⟩]∧a.Own)∧v=aw a∧S=[(all (bR a9 eX aU o (d 1) (-1) (0) (aV) (no+1) (0#32) (none))),dO a]):=by
 refine gB (j2 (jK (WG a9 aU o (kp eQ) (xJ ap) i d gW sp aB m aV no (-1) op cR my bu dM l0 kW) (show Take _ ((bR a9 eX aU o (m) ((i:Int)) (1) (aV) (no) (op) (none))++[]) _ from(by(try dsimp only [bR,cQ]);exact dI))) (lr (Take.self _))) ?_
 rintro v S ⟨aP,rfl,a,⟨aO,bT⟩,rfl,rfl⟩
 exact⟨_,[(all (bR a9 eX aU o (d 1) (-1) (0) (aV) (no+1) (0#32) (none))),dO a],_,jv (l:=(bR a9 eX aU o (d 1) (-1) (0) (aV) (no+1) (0#32) (none))) (by(try dsimp only [bR,cQ]);exact dI),(by(try dsimp only [bR,cQ]);exact dI),a,⟨aO,bT⟩,rfl,rfl⟩
theorem Iy(p:Nat)(k:eV)(s:b4)(bg:fP s){aq:ao B}(bc:dL aq)(aD:dS aq)(aU:bQ)(o:ea)(iY:k.y.Own)(eQ:aU.Own)(m bo bn aV no:Int)(op:BitVec 32)(t:mD)(iO:bn=3→∃(i:Nat) (d:Nat→Int),bo=(i:Int)∧aU.a0.l[i]?=some d)(iy:k.q.l=[])(v1:ai eP)(ib:v1.l.length≤99990)(gI:v1.Own)(a:ai ez)(dB:a.l=[])(bT:a.Own):
  aS B 149 [ag p,aw a] [aa p (c9 (dE k v1)) 170,aa k.dC (cp s) 260,many 16 (cX s.aF),fa v1,(all (bR k.a9 k.y aU o m bo bn aV no op t)),dO a,aq] (fun v S=>∃ca:ai eP,(ca.l.length≤v1.l.length+2∧ca.Own)∧v= .tuple #[]∧S=[ex fun x:{x:eV×b4//kO k s x}=>cQ p x.1.1 x.1.2 ca (all (bR k.a9 k.y aU o m bo bn aV no op t)) aq]):=by
 obtain⟨bM,bS,cD,cV⟩:=zO (k:=k) (e:=(cJ aU o m bo bn aV no (-1) op t)) bg
 refine gB (j2 (jK (WJ p k (cJ aU o m bo bn aV no (-1) op t) s (kp iY) (kp eQ) iO bg bc aD v1 ib gI a dB bT) (show Take _ (bR k.a9 k.y aU o m bo bn aV no op t++[aa p (c9 (dE k v1)) 170,aa k.dC (cp s) 260,many 16 (cX s.aF),fa v1,dO a,aq]) _ from(by(try dsimp only [bR,cQ]);exact dI))) (lr (by(try dsimp only [bR,cQ]);exact dI))) ?_
 rintro v S ⟨aP,rfl,ca,⟨qR,lA⟩,rfl,rfl⟩
 rw [show(many 16 (cX s.aF):ao B)=many 16 (cX (g3 k (cJ aU o m bo bn aV no (-1) op t) s).aF)from by rw [bM]]
 exact⟨_,[ex fun x:{x:eV×b4//kO k s x}=>cQ p x.1.1 x.1.2 ca (all (bR k.a9 k.y aU o m bo bn aV no op t)) aq],_,(jv (l:=bR k.a9 k.y aU o m bo bn aV no op t) (by(try dsimp only [bR,cQ]);exact dI)).trans (kT (F:=fun x:{x:eV×b4//kO k s x}=>cQ p x.1.1 x.1.2 ca (all (bR k.a9 k.y aU o m bo bn aV no op t)) aq) ⟨({k with act:=gn (cJ aU o m bo bn aV no (-1) op t)},g3 k (cJ aU o m bo bn aV no (-1) op t) s),⟨rfl,rfl,rfl,iy,rfl,rfl,bM,bS,cD,cV⟩⟩ (by(try dsimp only [bR,cQ]);exact dI)),.cons (.here _ _) (.nil _),ca,⟨by omega,lA⟩,rfl,rfl⟩
theorem Iz(p:Nat)(k:eV)(s:b4)(bg:fP s){aq:ao B}(bc:dL aq)(aD:dS aq)(aU:bQ)(o:ea)(iY:k.y.Own)(eQ:aU.Own)(m bo bn aV no:Int)(op:BitVec 32)(t:mD)(iO:bn=3→∃(i:Nat) (d:Nat→Int),bo=(i:Int)∧aU.a0.l[i]?=some d)(iy:k.q.l=[])(v1:ai eP)(ib:v1.l.length≤99990)(gI:v1.Own)(ht gG t0:Int)(a:ai ez)(dB:a.l=[(⟨true,false,false,ht,gG,t0⟩:ez)])(bT:a.Own):
  aS B 149 [ag p,aw a] [aa p (c9 (dE k v1)) 170,aa k.dC (cp s) 260,many 16 (cX s.aF),fa v1,(all (bR k.a9 k.y aU o m bo bn aV no op t)),dO a,aq] (fun v S=>∃ca:ai eP,(ca.l.length≤v1.l.length+2∧ca.Own)∧v= .tuple #[]∧S=[ex fun x:{x:eV×b4//kO k s x}=>cQ p x.1.1 x.1.2 ca (all (bR k.a9 k.y aU o m bo bn aV no op t)) aq]):=by
 obtain⟨bM,bS,cD,cV⟩:=zO (k:=k) (e:=(cJ aU o m bo bn aV no (-1) op t)) bg
 refine gB (j2 (jK (WK p k (cJ aU o m bo bn aV no (-1) op t) s (kp iY) (kp eQ) iO bg bc aD v1 ib gI ht gG t0 a dB bT) (show Take _ (bR k.a9 k.y aU o m bo bn aV no op t++[aa p (c9 (dE k v1)) 170,aa k.dC (cp s) 260,many 16 (cX s.aF),fa v1,dO a,aq]) _ from(by(try dsimp only [bR,cQ]);exact dI))) (lr (by(try dsimp only [bR,cQ]);exact dI))) ?_
 rintro v S ⟨aP,rfl,ca,⟨qR,lA⟩,rfl,rfl⟩
 rw [show(many 16 (cX s.aF):ao B)=many 16 (cX (g3 k (cJ aU o m bo bn aV no (-1) op t) s).aF)from by rw [bM]]
 exact⟨_,[ex fun x:{x:eV×b4//kO k s x}=>cQ p x.1.1 x.1.2 ca (all (bR k.a9 k.y aU o m bo bn aV no op t)) aq],_,(jv (l:=bR k.a9 k.y aU o m bo bn aV no op t) (by(try dsimp only [bR,cQ]);exact dI)).trans (kT (F:=fun x:{x:eV×b4//kO k s x}=>cQ p x.1.1 x.1.2 ca (all (bR k.a9 k.y aU o m bo bn aV no op t)) aq) ⟨({k with act:=gn (cJ aU o m bo bn aV no (-1) op t)},g3 k (cJ aU o m bo bn aV no (-1) op t) s),⟨rfl,rfl,rfl,iy,rfl,rfl,bM,bS,cD,cV⟩⟩ (by(try dsimp only [bR,cQ]);exact dI)),.cons (.here _ _) (.nil _),ca,⟨by omega,lA⟩,rfl,rfl⟩
theorem adh(p:Nat)(k:eV)(s:b4)(bg:fP s){aq:ao B}(bc:dL aq)(aD:dS aq)(aU:bQ)(o:ea)(iY:k.y.Own)(eQ:aU.Own)(m bo bn aV no:Int)(op:BitVec 32)(t:mD)(iO:bn=3→∃(i:Nat) (d:Nat→Int),bo=(i:Int)∧aU.a0.l[i]?=some d)(iy:k.q.l=[])(v1:ai eP)(ib:v1.l.length≤99990)(gI:v1.Own)(ht gG t0:Int)(a:ai ez)(dB:a.l=[(⟨false,false,true,ht,gG,t0⟩:ez)])(bT:a.Own):
  aS B 149 [ag p,aw a] [aa p (c9 (dE k v1)) 170,aa k.dC (cp s) 260,many 16 (cX s.aF),fa v1,(all (bR k.a9 k.y aU o m bo bn aV no op t)),dO a,aq] (fun v S=>∃ca:ai eP,(ca.l.length≤v1.l.length+2∧ca.Own)∧v= .tuple #[]∧S=[ex fun x:{x:eV×b4//kO k s x}=>cQ p x.1.1 x.1.2 ca (all (bR k.a9 k.y aU o m bo bn aV no op t)) aq]):=by
 obtain⟨bM,bS,cD,cV⟩:=zO (k:=k) (e:=(cJ aU o m bo bn aV no (-1) op t)) bg
 refine gB (j2 (jK (WL p k (cJ aU o m bo bn aV no (-1) op t) s (kp iY) (kp eQ) iO bg bc aD v1 ib gI ht gG t0 a dB bT) (show Take _ (bR k.a9 k.y aU o m bo bn aV no op t++[aa p (c9 (dE k v1)) 170,aa k.dC (cp s) 260,many 16 (cX s.aF),fa v1,dO a,aq]) _ from(by(try dsimp only [bR,cQ]);exact dI))) (lr (by(try dsimp only [bR,cQ]);exact dI))) ?_
 rintro v S ⟨aP,rfl,ca,⟨qR,lA⟩,rfl,rfl⟩
 rw [show(many 16 (cX s.aF):ao B)=many 16 (cX (g3 k (cJ aU o m bo bn aV no (-1) op t) s).aF)from by rw [bM]]
 exact⟨_,[ex fun x:{x:eV×b4//kO k s x}=>cQ p x.1.1 x.1.2 ca (all (bR k.a9 k.y aU o m bo bn aV no op t)) aq],_,(jv (l:=bR k.a9 k.y aU o m bo bn aV no op t) (by(try dsimp only [bR,cQ]);exact dI)).trans (kT (F:=fun x:{x:eV×b4//kO k s x}=>cQ p x.1.1 x.1.2 ca (all (bR k.a9 k.y aU o m bo bn aV no op t)) aq) ⟨({k with act:=gn (cJ aU o m bo bn aV no (-1) op t)},g3 k (cJ aU o m bo bn aV no (-1) op t) s),⟨rfl,rfl,rfl,iy,rfl,rfl,bM,bS,cD,cV⟩⟩ (by(try dsimp only [bR,cQ]);exact dI)),.cons (.here _ _) (.nil _),ca,⟨by omega,lA⟩,rfl,rfl⟩
theorem adi(p:Nat)(k:eV)(s:b4)(bg:fP s){aq:ao B}(bc:dL aq)(aD:dS aq)(aU:bQ)(o:ea)(iY:k.y.Own)(eQ:aU.Own)(m bo bn aV no:Int)(op:BitVec 32)(t:mD)(iO:bn=3→∃(i:Nat) (d:Nat→Int),bo=(i:Int)∧aU.a0.l[i]?=some d)(iy:k.q.l=[])(v1:ai eP)(ib:v1.l.length≤99990)(gI:v1.Own)(ht gG t0:Int)(a:ai ez)(dB:a.l=[(⟨false,true,false,ht,gG,t0⟩:ez)])(bT:a.Own)(i:Nat)(wY:ht=(i:Int))(d:Nat→Int)(gW:k.y.a0.l[i]?=some d)(j:Nat)(aY:d 1=(j:Int))(md:Mode)(hm:k.y.ba.l[j]?=some md)(so:md.q.l=[]):
  aS B 149 [ag p,aw a] [aa p (c9 (dE k v1)) 170,aa k.dC (cp s) 260,many 16 (cX s.aF),fa v1,(all (bR k.a9 k.y aU o m bo bn aV no op t)),dO a,aq] (fun v S=>∃ca:ai eP,(ca.l.length≤v1.l.length+2∧ca.Own)∧v= .tuple #[]∧S=[ex fun x:{x:eV×b4//kO k s x}=>cQ p x.1.1 x.1.2 ca (all (bR k.a9 k.y aU o m bo bn aV no op t)) aq]):=by
 obtain⟨bM,bS,cD,cV⟩:=zO (k:=k) (e:=(cJ aU o m bo bn aV no (-1) op t)) bg
 refine gB (j2 (jK (WM p k (cJ aU o m bo bn aV no (-1) op t) s (kp iY) (kp eQ) iO bg bc aD v1 ib gI ht gG t0 a dB bT i wY d gW j aY md hm so iy) (show Take _ (bR k.a9 k.y aU o m bo bn aV no op t++[aa p (c9 (dE k v1)) 170,aa k.dC (cp s) 260,many 16 (cX s.aF),fa v1,dO a,aq]) _ from(by(try dsimp only [bR,cQ]);exact dI))) (lr (by(try dsimp only [bR,cQ]);exact dI))) ?_
 rintro v S ⟨aP,rfl,ca,fk,⟨qR,lA⟩,⟨sn,wo⟩,rfl,rfl⟩
 rw [show(many 16 (cX s.aF):ao B)=many 16 (cX (g3 k (cJ aU o m bo bn aV no (-1) op t) s).aF)from by rw [bM]]
 exact⟨_,[ex fun x:{x:eV×b4//kO k s x}=>cQ p x.1.1 x.1.2 ca (all (bR k.a9 k.y aU o m bo bn aV no op t)) aq],_,(jv (l:=bR k.a9 k.y aU o m bo bn aV no op t) (by(try dsimp only [bR,cQ]);exact dI)).trans (kT (F:=fun x:{x:eV×b4//kO k s x}=>cQ p x.1.1 x.1.2 ca (all (bR k.a9 k.y aU o m bo bn aV no op t)) aq) ⟨({k with q:=fk,act:=gn (cJ aU o m bo bn aV no (-1) op t)},g3 k (cJ aU o m bo bn aV no (-1) op t) s),⟨rfl,rfl,rfl,sn,rfl,rfl,bM,bS,cD,cV⟩⟩ (by(try dsimp only [bR,cQ]);exact dI)),.cons (.here _ _) (.nil _),ca,⟨by omega,lA⟩,rfl,rfl⟩
theorem OC(p:Nat)(k:eV)(s:b4)(bg:fP s){aq:ao B}(bc:dL aq)(aD:dS aq)(aU:bQ)(o:ea)(iY:k.y.Own)(eQ:aU.Own)(m bo bn aV no:Int)(op:BitVec 32)(t:mD)(iO:bn=3→∃(i:Nat) (d:Nat→Int),bo=(i:Int)∧aU.a0.l[i]?=some d)(iy:k.q.l=[])(v1:ai eP)(ib:v1.l.length≤99990)(gI:v1.Own)(ht gG t0:Int)(dc m3 t1:Int)(a:ai ez)(dB:a.l=[(⟨false,true,false,ht,gG,t0⟩:ez),(⟨false,false,true,dc,m3,t1⟩:ez)])(bT:a.Own)(i:Nat)(wY:ht=(i:Int))(d:Nat→Int)(gW:k.y.a0.l[i]?=some d)(j:Nat)(aY:d 1=(j:Int))(md:Mode)(hm:k.y.ba.l[j]?=some md)(so:md.q.l=[]):
  aS B 149 [ag p,aw a] [aa p (c9 (dE k v1)) 170,aa k.dC (cp s) 260,many 16 (cX s.aF),fa v1,(all (bR k.a9 k.y aU o m bo bn aV no op t)),dO a,aq] (fun v S=>∃ca:ai eP,(ca.l.length≤v1.l.length+2∧ca.Own)∧v= .tuple #[]∧S=[ex fun x:{x:eV×b4//kO k s x}=>cQ p x.1.1 x.1.2 ca (all (bR k.a9 k.y aU o m bo bn aV no op t)) aq]):=by
 obtain⟨bM,bS,cD,cV⟩:=zO (k:=k) (e:=(cJ aU o m bo bn aV no (-1) op t)) bg
 refine gB (j2 (jK (UP p k (cJ aU o m bo bn aV no (-1) op t) s (kp iY) (kp eQ) iO bg bc aD v1 ib gI ht gG t0 dc m3 t1 a dB bT i wY d gW j aY md hm so iy) (show Take _ (bR k.a9 k.y aU o m bo bn aV no op t++[aa p (c9 (dE k v1)) 170,aa k.dC (cp s) 260,many 16 (cX s.aF),fa v1,dO a,aq]) _ from(by(try dsimp only [bR,cQ]);exact dI))) (lr (by(try dsimp only [bR,cQ]);exact dI))) ?_
 rintro v S ⟨aP,rfl,ca,fk,⟨qR,lA⟩,⟨sn,wo⟩,rfl,rfl⟩
 rw [show(many 16 (cX s.aF):ao B)=many 16 (cX (g3 k (cJ aU o m bo bn aV no (-1) op t) s).aF)from by rw [bM]]
 exact⟨_,[ex fun x:{x:eV×b4//kO k s x}=>cQ p x.1.1 x.1.2 ca (all (bR k.a9 k.y aU o m bo bn aV no op t)) aq],_,(jv (l:=bR k.a9 k.y aU o m bo bn aV no op t) (by(try dsimp only [bR,cQ]);exact dI)).trans (kT (F:=fun x:{x:eV×b4//kO k s x}=>cQ p x.1.1 x.1.2 ca (all (bR k.a9 k.y aU o m bo bn aV no op t)) aq) ⟨({k with q:=fk,act:=gn (cJ aU o m bo bn aV no (-1) op t)},g3 k (cJ aU o m bo bn aV no (-1) op t) s),⟨rfl,rfl,rfl,sn,rfl,rfl,bM,bS,cD,cV⟩⟩ (by(try dsimp only [bR,cQ]);exact dI)),.cons (.here _ _) (.nil _),ca,⟨by omega,lA⟩,rfl,rfl⟩
theorem r2{L S:List (ao B)}(t:Take L S []):hL S L:=by
  have h:=FI t
  rwa [List.append_nil]at h
theorem Cl{α β:Type}{F:α→List (ao B)}{G:β→List (ao B)}{R:List (ao B)}(h:∀x,∃y,F x=G y):hL (ex F::R) (ex G::R):=fun D w ⟨dk,dX,e,aD,⟨x,eR⟩,cB⟩=>by
  obtain⟨y,aZ⟩:=h x
  exact⟨dk,dX,e,aD,⟨y,aZ▸eR⟩,cB⟩
def g9(b:Nat):Option (Int×Int)→mD
  |none=>none
  |some x=>some (b,x.1,x.2)
abbrev mE(a9:Nat)(eX aU:bQ)(o:ea)(m bo bn aV no:Int)(op:BitVec 32)(x:Option (Int×Int)):ao B:=ex fun b:Nat=>[all (bR a9 eX aU o m bo bn aV no op (g9 b x))]
def jJ(c:dG)(a9:Nat)(aU:bQ)(o:ea)(p:Nat)(aq:ao B)(gz:b4→Prop)(g no m bo bn aV:Int)(op:BitVec 32)(x:Option (Int×Int))(n:Nat)(S:List (ao B)):Prop:=
  ∃(k:eV) (s:b4) (v:ai eP) (b:Nat),k.y.c=c∧k.y.Own∧k.a9=a9∧k.q.l=[]∧k.late=0∧k.cf 0≤g∧fP s∧s.now=no∧gz s∧v.Own∧v.l.length≤n∧S=cQ p k s v (all (bR a9 k.y aU o m bo bn aV no op (g9 b x))) aq
theorem v0{c:dG}{a9:Nat}{aU:bQ}{o:ea}{p:Nat}{aq:ao B}(bc:dL aq)(aD:dS aq)(eQ:aU.Own){gz gX:b4→Prop}{g no m bo bn aV vw vh vi vj:Int}{op vk:BitVec 32}{x gM:Option (Int×Int)}{n:Nat}(news:List ez)(a7:n≤90000)(nr:0≤no∧no≤100000)
  (bt:∀s,fP s→gz s→s.now=no→gX (dm s).1∧(dm s).1.now=no+1∧(dm s).2.pu<0∧(dm s).2.pv<0∧(dm s).2.late=false) (lH:∀s gZ:b4,gZ.aF=s.aF→gZ.live=s.live→gX s→gX gZ)
  (gO:∀(eX:bQ) (b:Nat) (s:b4),gX s→aS B 213 [ag a9,aI s.live.toNat] [(all (bR a9 eX aU o m bo bn aV no op (g9 b x)))] (fun v S=>∃a:ai ez,(a.l=news∧a.Own)∧v=aw a∧S=[mE a9 eX aU o vw vh vi vj (no+1) vk gM,dO a]))
  (xi:∀(k:eV) (s:b4) (a:ai ez) (v1:ai eP) (b:Nat),fP s→k.y.c=c→k.y.Own→k.q.l=[]→v1.l.length≤99990→v1.Own→a.l=news→a.Own→aS B 149 [ag p,aw a] [aa p (c9 (dE k v1)) 170,aa k.dC (cp s) 260,many 16 (cX (s:b4).aF),fa v1,(all (bR k.a9 k.y aU o vw vh vi vj (no+1) vk (g9 b gM))),dO a,aq] (fun v S=>∃ca:ai eP,(ca.l.length≤v1.l.length+2∧ca.Own)∧v= .tuple #[]∧S=[ex fun x:{x:eV×b4//kO k s x}=>cQ p x.1.1 x.1.2 ca (all (bR k.a9 k.y aU o vw vh vi vj (no+1) vk (g9 b gM))) aq])):
  ∀S,jJ c a9 aU o p aq gz g no m bo bn aV op x n S→aS B 140 [ag p] S (fun v aQ=>(∃r:qM,v= .agg (nk r).toArray)∧jJ c a9 aU o p aq gX g (no+1) vw vh vi vj vk gM (n+7) aQ):=by
 rintro S ⟨k,s,v,b,fh,st,w3,bP,aJ,w4,bg,r4,vl,w5,IA,rfl⟩
 subst w3
 obtain⟨Qv,Qw,ad2⟩:=bt s bg vl r4
 have jn:=UM bg al
 refine Da (Y5 p k s bg bc aD v al w5 (all (bR k.a9 k.y aU o m bo bn aV no op (g9 b x))) (mE k.a9 k.y aU o vw vh vi vj (no+1) vk gM) (fun a=>a.l=news∧a.Own) (fun ca=>ex fun y:Nat×{x:eV×b4//kO k (dm s).1 x}=>cQ p y.2.1.1 y.2.1.2 ca (all (bR k.a9 k.y aU o vw vh vi vj (no+1) vk (g9 y.1 gM))) aq) ad2 (gO k.y b _ Qv) ?_) ?_
 ·intro a v1 aO ib gI
  refine j2 (pre:=(mE k.a9 k.y aU o vw vh vi vj (no+1) vk gM)::[aa p (c9 (dE k v1)) 170,aa k.dC (cp (dm s).1) 260,many 16 (cX (dm s).1.aF),fa v1,dO a,aq]) (sS fun b=>?_) (r2 (by(try dsimp only [bR,cQ]);exact dI))
  refine gB (j2 (xi k (dm s).1 a v1 b jn fh st bP al gI aO.1 aO.2) (r2 (by(try dsimp only [bR,cQ]);exact dI))) ?_
  rintro v2 aQ ⟨ca,⟨ab,af⟩,rfl,rfl⟩
  exact⟨_,[ex fun y:Nat×{x:eV×b4//kO k (dm s).1 x}=>cQ p y.2.1.1 y.2.1.2 ca (all (bR k.a9 k.y aU o vw vh vi vj (no+1) vk (g9 y.1 gM))) aq],_,Cl fun x=>⟨(b,x),rfl⟩,Take.self _,ca,⟨ab,af⟩,rfl,rfl⟩
 rintro v2 aQ ⟨ca,⟨ab,af⟩,rfl,rfl⟩
 refine⟨_,_,[],rfl,fun y=>⟨⟨_,rfl⟩,y.2.1.1,y.2.1.2,ca,y.1,?_⟩⟩
 have q:=y.2.2
 refine⟨by rw [q.y];exact fh,by rw [q.y];exact st,q.a9,q.q,by rw [q.late];exact aJ,by rw [q.cf];exact w4,q.ok,by rw [q.now];exact Qw,lH _ _ q.aF q.live Qv,af,by omega,?_⟩
 rw [q.y];exact List.append_nil _
theorem Gc{x:bQ}{j:Nat}{pK:BitVec 32×List (Nat→Int)}(h:x.c.ba[j]?=some pK):∃md,x.ba.l[j]?=some md∧md.q.l=pK.2:=by
  rw [show x.c.ba=x.ba.l.map kq from rfl,List.getElem?_map]at h
  cases hm:x.ba.l[j]? with
  |none=>rw [hm]at h;cases h
  |some md=>rw [hm]at h;injection h with h;subst h;exact⟨md,rfl,rfl⟩
theorem ov{x:bQ}{c:dG}(h:x.c=c):x.a0.l=c.a0:=by rw [←h]
theorem xK{c:dG}{o:ea}(h:lS c o){i:Nat}{d:Nat→Int}(aD:c.a0[i]?=some d):o.a0.l[i]?=some (eZ c d).1:=by rw [h.e,List.getElem?_map,aD];rfl
theorem IB{c:dG}{a9:Nat}{aU:bQ}{o:ea}{p:Nat}{aq:ao B}(bc:dL aq)(aD:dS aq)(eQ:aU.Own)(fh:aU.c=c)(ap:lS c o){no m bo bn aV:Int}(IC:bn=3→∃(i:Nat) (d:Nat→Int),bo=(i:Int)∧c.a0[i]?=some d)(iO:bn≠1∨False){gz gX:b4→Prop}(bt:∀s,fP s→gz s→s.now=no→gX (dm s).1∧(dm s).1.now=no+1∧(dm s).2.pu<0∧(dm s).2.pv<0∧(dm s).2.late=false)(lH:∀s gZ:b4,gZ.aF=s.aF→gZ.live=s.live→gX s→gX gZ){g:Int}{n:Nat}(a7:n≤90000)(nr:0≤no∧no≤100000):∀S,jJ c a9 aU o p aq gz g (no) (m) (bo) (bn) (aV) (0#32) (none) (n) S→aS B 140 [ag p] S (fun v aQ=>(∃r:qM,v= .agg (nk r).toArray)∧jJ c a9 aU o p aq gX g (no+1) (m) (bo) (bn) (aV) (0#32) (none) (n+7) aQ):=by
 refine v0 bc aD eQ [] a7 nr bt lH (fun eX b s aB=>?_) (fun k s a v1 b bg m0 kJ iy ib gI dB bT=>?_)
 ·refine gB (DU m bo bn aV no 0#32 al s.live (fun q=>iO.elim (fun h=>h q.1) (fun h=>h))) ?_
  rintro v S ⟨a,⟨aO,bT⟩,rfl,rfl⟩
  exact⟨_,[mE a9 eX aU o (m) (bo) (bn) (aV) (no+1) (0#32) (none),dO a],_,kT (F:=fun b:Nat=>[all (bR a9 eX aU o (m) (bo) (bn) (aV) (no+1) (0#32) (g9 b (none)))]) b (by(try dsimp only [bR,cQ,g9]);exact dI),(by(try dsimp only [bR,cQ]);exact dI),a,⟨aO,bT⟩,rfl,rfl⟩
 exact Iy p k s bg bc aD aU o kJ eQ m bo bn aV (no+1) 0#32 none (fun q=>let⟨i,d,ab,af⟩:=IC q;⟨i,d,ab,by rw [ov fh];exact af⟩) iy v1 ib gI a dB bT
theorem adj{c:dG}{a9:Nat}{aU:bQ}{o:ea}{p:Nat}{aq:ao B}(bc:dL aq)(aD:dS aq)(eQ:aU.Own)(fh:aU.c=c)(ap:lS c o){no m bo aV:Int}{gz gX:b4→Prop}(bt:∀s,fP s→gz s→s.now=no→gX (dm s).1∧(dm s).1.now=no+1∧(dm s).2.pu<0∧(dm s).2.pv<0∧(dm s).2.late=false)(lH:∀s gZ:b4,gZ.aF=s.aF→gZ.live=s.live→gX s→gX gZ)(aJ:∀s,gX s→s.live≠0#32){g:Int}{n:Nat}(a7:n≤90000)(nr:0≤no∧no≤100000):∀S,jJ c a9 aU o p aq gz g (no) (m) (bo) (1) (aV) (0#32) (none) (n) S→aS B 140 [ag p] S (fun v aQ=>(∃r:qM,v= .agg (nk r).toArray)∧jJ c a9 aU o p aq gX g (no+1) (m) (bo) (1) (aV) (0#32) (none) (n+7) aQ):=by
 refine v0 bc aD eQ [] a7 nr bt lH (fun eX b s aB=>?_) (fun k s a v1 b bg m0 kJ iy ib gI dB bT=>?_)
 ·refine gB (DU m bo 1 aV no 0#32 al s.live (fun q=>aJ s aB q.2)) ?_
  rintro v S ⟨a,⟨aO,bT⟩,rfl,rfl⟩
  exact⟨_,[mE a9 eX aU o (m) (bo) (1) (aV) (no+1) (0#32) (none),dO a],_,kT (F:=fun b:Nat=>[all (bR a9 eX aU o (m) (bo) (1) (aV) (no+1) (0#32) (g9 b (none)))]) b (by(try dsimp only [bR,cQ,g9]);exact dI),(by(try dsimp only [bR,cQ]);exact dI),a,⟨aO,bT⟩,rfl,rfl⟩
 exact Iy p k s bg bc aD aU o kJ eQ m bo 1 aV (no+1) 0#32 none (fun q=>by cases q) iy v1 ib gI a dB bT
theorem ID{c:dG}{a9:Nat}{aU:bQ}{o:ea}{p:Nat}{aq:ao B}(bc:dL aq)(aD:dS aq)(eQ:aU.Own)(fh:aU.c=c)(ap:lS c o){no m bo bn aV:Int}(IC:bn=3→∃(i:Nat) (d:Nat→Int),bo=(i:Int)∧c.a0[i]?=some d)(iO:bn≠1)(id hb:Int)(jm:2≤hb∧hb≤65536){gz gX:b4→Prop}(bt:∀s,fP s→gz s→s.now=no→gX (dm s).1∧(dm s).1.now=no+1∧(dm s).2.pu<0∧(dm s).2.pv<0∧(dm s).2.late=false)(lH:∀s gZ:b4,gZ.aF=s.aF→gZ.live=s.live→gX s→gX gZ){g:Int}{n:Nat}(a7:n≤90000)(nr:0≤no∧no≤100000):∀S,jJ c a9 aU o p aq gz g (no) (m) (bo) (bn) (aV) (0#32) (some (id,hb)) (n) S→aS B 140 [ag p] S (fun v aQ=>(∃r:qM,v= .agg (nk r).toArray)∧jJ c a9 aU o p aq gX g (no+1) (m) (bo) (bn) (aV) (0#32) (some (id,hb-1)) (n+7) aQ):=by
 refine v0 bc aD eQ [] a7 nr bt lH (fun eX b s aB=>?_) (fun k s a v1 b bg m0 kJ iy ib gI dB bT=>?_)
 ·refine gB (ade b id hb jm m bo bn aV no 0#32 al s.live (fun q=>iO q.1)) ?_
  rintro v S ⟨a,⟨aO,bT⟩,rfl,rfl⟩
  exact⟨_,[mE a9 eX aU o (m) (bo) (bn) (aV) (no+1) (0#32) (some (id,hb-1)),dO a],_,kT (F:=fun b:Nat=>[all (bR a9 eX aU o (m) (bo) (bn) (aV) (no+1) (0#32) (g9 b (some (id,hb-1))))]) b (by(try dsimp only [bR,cQ,g9]);exact dI),(by(try dsimp only [bR,cQ]);exact dI),a,⟨aO,bT⟩,rfl,rfl⟩
 exact Iy p k s bg bc aD aU o kJ eQ m bo bn aV (no+1) 0#32 (g9 b (some (id,hb-1))) (fun q=>let⟨i,d,ab,af⟩:=IC q;⟨i,d,ab,by rw [ov fh];exact af⟩) iy v1 ib gI a dB bT
theorem aaS{c:dG}{a9:Nat}{aU:bQ}{o:ea}{p:Nat}{aq:ao B}(bc:dL aq)(aD:dS aq)(eQ:aU.Own)(fh:aU.c=c)(ap:lS c o){no m bn aV:Int}(i:Nat)(d:Nat→Int)(iV:c.a0[i]?=some d)(my: -1000000000≤aV∧aV≤1000000000)(j:Nat)(aY:d 1=(j:Int))(pK:BitVec 32)(Bk:c.ba[j]?=some (pK,[]))(iO:bn≠1)(kW:¬0<(eZ c d).1.2){gz gX:b4→Prop}(bt:∀s,fP s→gz s→s.now=no→gX (dm s).1∧(dm s).1.now=no+1∧(dm s).2.pu<0∧(dm s).2.pv<0∧(dm s).2.late=false)(lH:∀s gZ:b4,gZ.aF=s.aF→gZ.live=s.live→gX s→gX gZ){g:Int}{n:Nat}(a7:n≤90000)(nr:0≤no∧no≤100000):∀S,jJ c a9 aU o p aq gz g (no) (m) ((i:Int)) (bn) (aV) (0#32) (some (16,1)) (n) S→aS B 140 [ag p] S (fun v aQ=>(∃r:qM,v= .agg (nk r).toArray)∧jJ c a9 aU o p aq gX g (no+1) (d 1) (-1) (0) (aV) (0#32) (none) (n+7) aQ):=by
 refine v0 bc aD eQ [⟨false,true,false,(i:Int),d 1,no+1-aV⟩,⟨false,false,true,(i:Int),d 1,0⟩] a7 nr bt lH (fun eX b s aB=>?_) (fun k s a v1 b bg m0 kJ iy ib gI dB bT=>?_)
 ·refine gB (aaQ eQ ap.vq i d (by rw [ov fh];exact iV) (eZ c d).1 (xK ap iV) b m bn aV no 0#32 al my s.live iO kW) ?_
  rintro v S ⟨a,⟨aO,bT⟩,rfl,rfl⟩
  exact⟨_,[mE a9 eX aU o (d 1) (-1) (0) (aV) (no+1) (0#32) (none),dO a],_,kT (F:=fun b:Nat=>[all (bR a9 eX aU o (d 1) (-1) (0) (aV) (no+1) (0#32) (g9 b (none)))]) b (by(try dsimp only [bR,cQ,g9]);exact dI),(by(try dsimp only [bR,cQ]);exact dI),a,⟨aO,bT⟩,rfl,rfl⟩
 obtain⟨md,oZ,nC⟩:=Gc (x:=k.y) (j:=j) (pK:=(pK,[])) (by rw [m0];exact Bk)
 exact OC p k s bg bc aD aU o kJ eQ (d 1) (-1) 0 aV (no+1) 0#32 none (fun q=>by cases q) iy v1 ib gI _ _ _ _ _ _ a dB bT i rfl d (by rw [ov m0];exact iV) j aY md oZ nC
theorem adk{c:dG}{a9:Nat}{aU:bQ}{o:ea}{p:Nat}{aq:ao B}(bc:dL aq)(aD:dS aq)(eQ:aU.Own)(fh:aU.c=c)(ap:lS c o){no m aV:Int}(i:Nat)(d:Nat→Int)(iV:c.a0[i]?=some d)(my: -1000000000≤aV∧aV≤1000000000)(j:Nat)(aY:d 1=(j:Int))(pK:BitVec 32)(Bk:c.ba[j]?=some (pK,[]))(kW:¬0<(eZ c d).1.2){gz gX:b4→Prop}(bt:∀s,fP s→gz s→s.now=no→gX (dm s).1∧(dm s).1.now=no+1∧(dm s).2.pu<0∧(dm s).2.pv<0∧(dm s).2.late=false)(lH:∀s gZ:b4,gZ.aF=s.aF→gZ.live=s.live→gX s→gX gZ)(aJ:∀s,gX s→s.live=0#32){g:Int}{n:Nat}(a7:n≤90000)(nr:0≤no∧no≤100000):∀S,jJ c a9 aU o p aq gz g (no) (m) ((i:Int)) (1) (aV) (0#32) (none) (n) S→aS B 140 [ag p] S (fun v aQ=>(∃r:qM,v= .agg (nk r).toArray)∧jJ c a9 aU o p aq gX g (no+1) (d 1) (-1) (0) (aV) (0#32) (none) (n+7) aQ):=by
 refine v0 bc aD eQ [⟨false,true,false,(i:Int),d 1,no+1-aV⟩,⟨false,false,true,(i:Int),d 1,0⟩] a7 nr bt lH (fun eX b s aB=>?_) (fun k s a v1 b bg m0 kJ iy ib gI dB bT=>?_)
 ·refine gB (adg eQ ap.vq i d (by rw [ov fh];exact iV) (eZ c d).1 (xK ap iV) m aV no 0#32 al my s.live (aJ s aB) kW) ?_
  rintro v S ⟨a,⟨aO,bT⟩,rfl,rfl⟩
  exact⟨_,[mE a9 eX aU o (d 1) (-1) (0) (aV) (no+1) (0#32) (none),dO a],_,kT (F:=fun b:Nat=>[all (bR a9 eX aU o (d 1) (-1) (0) (aV) (no+1) (0#32) (g9 b (none)))]) b (by(try dsimp only [bR,cQ,g9]);exact dI),(by(try dsimp only [bR,cQ]);exact dI),a,⟨aO,bT⟩,rfl,rfl⟩
 obtain⟨md,oZ,nC⟩:=Gc (x:=k.y) (j:=j) (pK:=(pK,[])) (by rw [m0];exact Bk)
 exact OC p k s bg bc aD aU o kJ eQ (d 1) (-1) 0 aV (no+1) 0#32 none (fun q=>by cases q) iy v1 ib gI _ _ _ _ _ _ a dB bT i rfl d (by rw [ov m0];exact iV) j aY md oZ nC
theorem aaT{c:dG}{a9:Nat}{aU:bQ}{o:ea}{p:Nat}{aq:ao B}(bc:dL aq)(aD:dS aq)(eQ:aU.Own)(fh:aU.c=c)(ap:lS c o){no m bn aV:Int}(i:Nat)(d:Nat→Int)(iV:c.a0[i]?=some d)(my: -1000000000≤aV∧aV≤1000000000)(j:Nat)(aY:d 1=(j:Int))(pK:BitVec 32)(Bk:c.ba[j]?=some (pK,[]))(iO:bn≠1)(kW:0<(eZ c d).1.2∧(eZ c d).1.2≤65536){gz gX:b4→Prop}(bt:∀s,fP s→gz s→s.now=no→gX (dm s).1∧(dm s).1.now=no+1∧(dm s).2.pu<0∧(dm s).2.pv<0∧(dm s).2.late=false)(lH:∀s gZ:b4,gZ.aF=s.aF→gZ.live=s.live→gX s→gX gZ){g:Int}{n:Nat}(a7:n≤90000)(nr:0≤no∧no≤100000):∀S,jJ c a9 aU o p aq gz g (no) (m) ((i:Int)) (bn) (aV) (0#32) (some (16,1)) (n) S→aS B 140 [ag p] S (fun v aQ=>(∃r:qM,v= .agg (nk r).toArray)∧jJ c a9 aU o p aq gX g (no+1) (d 1) ((i:Int)) (4) (aV) (0#32) (some (17,(eZ c d).1.2)) (n+7) aQ):=by
 refine v0 bc aD eQ [⟨false,true,false,(i:Int),d 1,no+1-aV⟩] a7 nr bt lH (fun eX b s aB=>?_) (fun k s a v1 b bg m0 kJ iy ib gI dB bT=>?_)
 ·refine gB (aaR eQ ap.vq i d (by rw [ov fh];exact iV) (eZ c d).1 (xK ap iV) b m bn aV no 0#32 al my s.live iO kW) ?_
  rintro v S ⟨a,bC,⟨aO,bT⟩,rfl,rfl⟩
  exact⟨_,[mE a9 eX aU o (d 1) ((i:Int)) (4) (aV) (no+1) (0#32) (some (17,(eZ c d).1.2)),dO a],_,kT (F:=fun b:Nat=>[all (bR a9 eX aU o (d 1) ((i:Int)) (4) (aV) (no+1) (0#32) (g9 b (some (17,(eZ c d).1.2))))]) bC (by(try dsimp only [bR,cQ,g9]);exact dI),(by(try dsimp only [bR,cQ]);exact dI),a,⟨aO,bT⟩,rfl,rfl⟩
 obtain⟨md,oZ,nC⟩:=Gc (x:=k.y) (j:=j) (pK:=(pK,[])) (by rw [m0];exact Bk)
 exact adi p k s bg bc aD aU o kJ eQ (d 1) (i:Int) 4 aV (no+1) 0#32 (g9 b (some (17,(eZ c d).1.2))) (fun q=>by cases q) iy v1 ib gI _ _ _ a dB bT i rfl d (by rw [ov m0];exact iV) j aY md oZ nC
theorem adl{c:dG}{a9:Nat}{aU:bQ}{o:ea}{p:Nat}{aq:ao B}(bc:dL aq)(aD:dS aq)(eQ:aU.Own)(fh:aU.c=c)(ap:lS c o){no m bo bn aV:Int}(iO:bn≠1){gz gX:b4→Prop}(bt:∀s,fP s→gz s→s.now=no→gX (dm s).1∧(dm s).1.now=no+1∧(dm s).2.pu<0∧(dm s).2.pv<0∧(dm s).2.late=false)(lH:∀s gZ:b4,gZ.aF=s.aF→gZ.live=s.live→gX s→gX gZ){g:Int}{n:Nat}(a7:n≤90000)(nr:0≤no∧no≤100000):∀S,jJ c a9 aU o p aq gz g (no) (m) (bo) (bn) (aV) (0#32) (some (17,1)) (n) S→aS B 140 [ag p] S (fun v aQ=>(∃r:qM,v= .agg (nk r).toArray)∧jJ c a9 aU o p aq gX g (no+1) (m) (-1) (0) (aV) (0#32) (none) (n+7) aQ):=by
 refine v0 bc aD eQ [⟨false,false,true,bo,m,0⟩] a7 nr bt lH (fun eX b s aB=>?_) (fun k s a v1 b bg m0 kJ iy ib gI dB bT=>?_)
 ·refine gB (adf b m bo bn aV no 0#32 al s.live iO) ?_
  rintro v S ⟨a,⟨aO,bT⟩,rfl,rfl⟩
  exact⟨_,[mE a9 eX aU o (m) (-1) (0) (aV) (no+1) (0#32) (none),dO a],_,kT (F:=fun b:Nat=>[all (bR a9 eX aU o (m) (-1) (0) (aV) (no+1) (0#32) (g9 b (none)))]) b (by(try dsimp only [bR,cQ,g9]);exact dI),(by(try dsimp only [bR,cQ]);exact dI),a,⟨aO,bT⟩,rfl,rfl⟩
 exact adh p k s bg bc aD aU o kJ eQ m (-1) 0 aV (no+1) 0#32 none (fun q=>by cases q) iy v1 ib gI _ _ _ a dB bT
def hJ(s:b4):Prop:=s.live=0#32
structure rH(d:Int)(s:b4):Prop where
  live:s.live=ep 0
  cost:(s.aF 0).cost=2
  done:(s.aF 0).done=d
  rel:(s.aF 0).rel=0
  ij:(s.aF 0).ij=10
  cT:(s.aF 0).cT.l=[]
theorem qy(s gZ:b4)(ab:gZ.aF=s.aF)(af:gZ.live=s.live)(h:hJ s):hJ gZ:=af.trans h
theorem OD(d:Int)(s gZ:b4)(ab:gZ.aF=s.aF)(af:gZ.live=s.live)(h:rH d s):rH d gZ:=⟨af.trans h.live,by rw [ab];exact h.cost,by rw [ab];exact h.done,by rw [ab];exact h.rel,by rw [ab];exact h.ij,by rw [ab];exact h.cT⟩
theorem sL{no:Int}(s:b4)(h:fP s)(aY:hJ s)(a7:s.now=no):hJ (dm s).1∧(dm s).1.now=no+1∧(dm s).2.pu<0∧(dm s).2.pv<0∧(dm s).2.late=false:=by
  rcases EX h with⟨_,k,_,aJ,_⟩|⟨ab,_⟩
  · have aJ:hasB s.live (k:Int)=true:=aJ
    rw [show s.live=0#32 from aY]at aJ
    simp [hasB]at aJ
  · rw [FT (by rw [ab])]
    exact⟨aY,by rw [←a7],by show(-1:Int)<0;decide,by show(-1:Int)<0;decide,rfl⟩
theorem aaU:∀m:Nat,m<16→hasB (ep 0) (m:Int)=true→m=0:=by decide
theorem CQ{j:fy}(h:j.cT.l=[]):jw j= -1∧lu j= -1:=by
  have e:∀d,oC j.cT.l d= -1:=fun d=>by rw [h];rfl
  unfold jw lu
  exact⟨if_neg (by rw [e];omega),if_neg (by rw [e];omega)⟩
theorem K3{d:Int}{s:b4}(h:fP s)(aY:rH d s):(iC s.r).2=true∧(iC s.r).1=((0:Nat):Int):=by
  rcases EX h with⟨ab,k,aj,aJ,af,_⟩|⟨_,ab⟩
  · have aJ:hasB s.live (k:Int)=true:=aJ
    rw [aY.live]at aJ
    have:=aaU k aj aJ;subst this
    exact⟨ab,af⟩
  · exact absurd (show hasB s.live ((0:Nat):Int)=true by rw [aY.live];decide) (ab 0)
theorem Zq(s:b4)(h:fP s)(aY:rH 0 s)(a7:s.now=0):rH 1 (dm s).1∧(dm s).1.now=0+1∧(dm s).2.pu<0∧(dm s).2.pv<0∧(dm s).2.late=false:=by
 obtain⟨f1,f2⟩:=K3 h aY
 have bg:=aY.cost;have aD:=aY.done
 rw [Cz f1 f2 (by rw [bg,aD];decide)]
 have e:bF s.aF 0 (fT (s.aF 0)) 0=fT (s.aF 0):=e8 _ _ _
 refine⟨⟨aY.live,?_,?_,?_,?_,?_⟩,by rw [←a7],?_,?_,rfl⟩
 ·show(bF s.aF 0 (fT (s.aF 0)) 0).cost=_;rw [e];exact bg
 ·show(bF s.aF 0 (fT (s.aF 0)) 0).done=_;rw [e];show min ((s.aF 0).done+1) (s.aF 0).cost=1;rw [bg,aD];decide
 ·show(bF s.aF 0 (fT (s.aF 0)) 0).rel=_;rw [e];exact aY.rel
 ·show(bF s.aF 0 (fT (s.aF 0)) 0).ij=_;rw [e];exact aY.ij
 ·show(bF s.aF 0 (fT (s.aF 0)) 0).cT.l=_;rw [e];exact aY.cT
 ·show jw (s.aF 0)<0;rw [(CQ aY.cT).1];decide
 show lu (s.aF 0)<0;rw [(CQ aY.cT).2];decide
theorem U5(s:b4)(h:fP s)(aY:rH 1 s)(a7:s.now=1):hJ (dm s).1∧(dm s).1.now=1+1∧(dm s).2.pu<0∧(dm s).2.pv<0∧(dm s).2.late=false:=by
 obtain⟨f1,f2⟩:=K3 h aY
 have bg:=aY.cost;have aD:=aY.done
 rw [B7 f1 f2 (by rw [bg,aD];decide)]
 refine⟨?_,by rw [←a7],?_,?_,?_⟩
 ·show s.live&&&~~~(ep ((0:Nat):Int))=0#32;rw [aY.live];decide
 ·show jw (s.aF 0)<0;rw [(CQ aY.cT).1];decide
 ·show lu (s.aF 0)<0;rw [(CQ aY.cT).2];decide
 show decide (s.now+1>(s.aF 0).ij)=false;rw [a7,aY.ij];decide
theorem Zr{c:dG}{a9:Nat}{aU:bQ}{o:ea}{p:Nat}{aq:ao B}(bc:dL aq)(aD:dS aq)(eQ:aU.Own)(fh:aU.c=c)(ap:lS c o){gz:b4→Prop}(lH:∀s s2:b4,s2.aF=s.aF→s2.live=s.live→gz s→gz s2){g no m gP bo aV:Int}(i:Nat)(d:Nat→Int)(iV:c.a0[i]?=some d)(qQ:bo<0)(qO:0≤gP∧gP<(c.ba.length:Int))(ek:ji c.a0 m gP=((i:Int),true))(aE:d 2=1)(aJ:∀s,gz s→s.live≠0#32)(nr:0≤no∧no≤100000){n:Nat}(a7:n≤90000):
  ∀S,jJ c a9 aU o p aq gz g (no) (m) (bo) (0) (aV) (0#32) (none) (n) S→aS B 93 [ag p,U gP] S (fun v aQ=>v=U 0∧jJ c a9 aU o p aq gz g (no) (m) ((i:Int)) (1) (no) (0#32) (none) (n+2) aQ):=by
 rintro S ⟨k,s,v,b,m0,kJ,w3,bP,rk,w4,bg,r4,vl,w5,IA,rfl⟩
 subst w3
 refine Da (Hw p k s v al w5 gP (all (bR k.a9 k.y aU o m bo 0 aV no 0#32 none)) (mE k.a9 k.y aU o m (i:Int) 1 no no 0#32 (none)) (fun a=>a.l=[⟨true,false,false,(i:Int),d 1,0⟩]∧a.Own) ?_ (fun ca=>ex fun y:Nat×{x:eV×b4//kO k s x}=>cQ p y.2.1.1 y.2.1.2 ca (all (bR k.a9 k.y aU o m (i:Int) 1 no no 0#32 (g9 y.1 (none)))) aq) ?_) ?_
 ·refine gB (j2 (jK (YY k.a9 aU o (kp eQ) (xJ ap.vq) i d (by rw [ov fh];exact iV) (eZ c d).1 (xK ap iV) m gP bo aV no (-1) 0#32 al qQ bu (by rw [show(aU.ba.l.length:Int)=(c.ba.length:Int)from by rw [←fh];simp];exact qO) (by rw [ov fh];exact ek) aE s.live (aJ s vl)) (show Take _ (bR k.a9 k.y aU o m bo 0 aV no 0#32 none++[aq]) _ from(by(try dsimp only [bR,cQ]);exact dI))) (lr (Take.cons (.here _ _) (.nil _)))) ?_
  rintro v S ⟨aP,rfl,a,⟨aO,bT⟩,rfl,rfl⟩
  exact⟨_,[(mE k.a9 k.y aU o m (i:Int) 1 no no 0#32 (none)),dO a,aq],_,(jv (l:=bR k.a9 k.y aU o m (i:Int) 1 no no 0#32 (none)) (by(try dsimp only [bR,cQ]);exact dI)).trans (kT (F:=fun b:Nat=>[all (bR k.a9 k.y aU o m (i:Int) 1 no no 0#32 (g9 b (none)))]) b (by(try dsimp only [bR,cQ,g9]);exact dI)),(by(try dsimp only [bR,cQ]);exact dI),a,⟨aO,bT⟩,rfl,rfl⟩
 ·intro a v1 aO ib gI
  refine j2 (pre:=(mE k.a9 k.y aU o m (i:Int) 1 no no 0#32 (none))::[aa p (c9 (dE k v1)) 170,aa k.dC (cp s) 260,many 16 (cX s.aF),fa v1,dO a,aq]) (sS fun b=>?_) (r2 (by(try dsimp only [bR,cQ]);exact dI))
  refine gB (j2 (Iz p k s bg bc aD aU o kJ eQ m (i:Int) 1 no no 0#32 (g9 b (none)) (fun q=>by cases q) bP v1 al gI (i:Int) (d 1) 0 a aO.1 aO.2) (r2 (by(try dsimp only [bR,cQ]);exact dI))) ?_
  rintro v2 aQ ⟨ca,⟨ab,af⟩,rfl,rfl⟩
  exact⟨_,[ex fun y:Nat×{x:eV×b4//kO k s x}=>cQ p y.2.1.1 y.2.1.2 ca (all (bR k.a9 k.y aU o m (i:Int) 1 no no 0#32 (g9 y.1 (none)))) aq],_,Cl fun x=>⟨(b,x),rfl⟩,Take.self _,ca,⟨ab,af⟩,rfl,rfl⟩
 rintro v2 aQ ⟨ca,⟨ab,af⟩,rfl,rfl⟩
 refine⟨_,_,[],rfl,fun y=>⟨rfl,y.2.1.1,y.2.1.2,ca,y.1,?_⟩⟩
 have q:=y.2.2
 refine⟨by rw [q.y];exact m0,by rw [q.y];exact kJ,q.a9,q.q,by rw [q.late];exact rk,by rw [q.cf];exact w4,q.ok,by rw [q.now];exact r4,lH _ _ q.aF q.live vl,af,by omega,?_⟩
 rw [q.y];exact List.append_nil _
theorem Zs{c:dG}{a9:Nat}{aU:bQ}{o:ea}{p:Nat}{aq:ao B}(bc:dL aq)(aD:dS aq)(eQ:aU.Own)(fh:aU.c=c)(ap:lS c o){gz:b4→Prop}(lH:∀s s2:b4,s2.aF=s.aF→s2.live=s.live→gz s→gz s2){g no m gP bo aV:Int}(i:Nat)(d:Nat→Int)(iV:c.a0[i]?=some d)(qQ:bo<0)(qO:0≤gP∧gP<(c.ba.length:Int))(ek:ji c.a0 m gP=((i:Int),true))(aE:d 2=2)(aJ:1≤(eZ c d).1.1∧(eZ c d).1.1≤65536)(nr:0≤no∧no≤100000){n:Nat}(a7:n≤90000):
  ∀S,jJ c a9 aU o p aq gz g (no) (m) (bo) (0) (aV) (0#32) (none) (n) S→aS B 93 [ag p,U gP] S (fun v aQ=>v=U 0∧jJ c a9 aU o p aq gz g (no) (m) ((i:Int)) (2) (no) (0#32) (some (16,(eZ c d).1.1)) (n+2) aQ):=by
 rintro S ⟨k,s,v,b,m0,kJ,w3,bP,rk,w4,bg,r4,vl,w5,IA,rfl⟩
 subst w3
 refine Da (Hw p k s v al w5 gP (all (bR k.a9 k.y aU o m bo 0 aV no 0#32 none)) (mE k.a9 k.y aU o m (i:Int) 2 no no 0#32 (some (16,(eZ c d).1.1))) (fun a=>a.l=[⟨true,false,false,(i:Int),d 1,0⟩]∧a.Own) ?_ (fun ca=>ex fun y:Nat×{x:eV×b4//kO k s x}=>cQ p y.2.1.1 y.2.1.2 ca (all (bR k.a9 k.y aU o m (i:Int) 2 no no 0#32 (g9 y.1 (some (16,(eZ c d).1.1))))) aq) ?_) ?_
 ·refine gB (j2 (jK (YZ k.a9 aU o (kp eQ) (xJ ap.vq) i d (by rw [ov fh];exact iV) (eZ c d).1 (xK ap iV) m gP bo aV no (-1) 0#32 al qQ bu (by rw [show(aU.ba.l.length:Int)=(c.ba.length:Int)from by rw [←fh];simp];exact qO) (by rw [ov fh];exact ek) aE s.live aJ) (show Take _ (bR k.a9 k.y aU o m bo 0 aV no 0#32 none++[aq]) _ from(by(try dsimp only [bR,cQ]);exact dI))) (lr (Take.cons (.here _ _) (.nil _)))) ?_
  rintro v S ⟨aP,rfl,a,bC,⟨aO,bT⟩,rfl,rfl⟩
  exact⟨_,[(mE k.a9 k.y aU o m (i:Int) 2 no no 0#32 (some (16,(eZ c d).1.1))),dO a,aq],_,(jv (l:=bR k.a9 k.y aU o m (i:Int) 2 no no 0#32 (some (bC,16,(eZ c d).1.1))) (by(try dsimp only [bR,cQ]);exact dI)).trans (kT (F:=fun b:Nat=>[all (bR k.a9 k.y aU o m (i:Int) 2 no no 0#32 (g9 b (some (16,(eZ c d).1.1))))]) bC (by(try dsimp only [bR,cQ,g9]);exact dI)),(by(try dsimp only [bR,cQ]);exact dI),a,⟨aO,bT⟩,rfl,rfl⟩
 ·intro a v1 aO ib gI
  refine j2 (pre:=(mE k.a9 k.y aU o m (i:Int) 2 no no 0#32 (some (16,(eZ c d).1.1)))::[aa p (c9 (dE k v1)) 170,aa k.dC (cp s) 260,many 16 (cX s.aF),fa v1,dO a,aq]) (sS fun b=>?_) (r2 (by(try dsimp only [bR,cQ]);exact dI))
  refine gB (j2 (Iz p k s bg bc aD aU o kJ eQ m (i:Int) 2 no no 0#32 (g9 b (some (16,(eZ c d).1.1))) (fun q=>by cases q) bP v1 al gI (i:Int) (d 1) 0 a aO.1 aO.2) (r2 (by(try dsimp only [bR,cQ]);exact dI))) ?_
  rintro v2 aQ ⟨ca,⟨ab,af⟩,rfl,rfl⟩
  exact⟨_,[ex fun y:Nat×{x:eV×b4//kO k s x}=>cQ p y.2.1.1 y.2.1.2 ca (all (bR k.a9 k.y aU o m (i:Int) 2 no no 0#32 (g9 y.1 (some (16,(eZ c d).1.1))))) aq],_,Cl fun x=>⟨(b,x),rfl⟩,Take.self _,ca,⟨ab,af⟩,rfl,rfl⟩
 rintro v2 aQ ⟨ca,⟨ab,af⟩,rfl,rfl⟩
 refine⟨_,_,[],rfl,fun y=>⟨rfl,y.2.1.1,y.2.1.2,ca,y.1,?_⟩⟩
 have q:=y.2.2
 refine⟨by rw [q.y];exact m0,by rw [q.y];exact kJ,q.a9,q.q,by rw [q.late];exact rk,by rw [q.cf];exact w4,q.ok,by rw [q.now];exact r4,lH _ _ q.aF q.live vl,af,by omega,?_⟩
 rw [q.y];exact List.append_nil _
theorem Zt{c:dG}{a9:Nat}{aU:bQ}{o:ea}{p:Nat}{aq:ao B}(bc:dL aq)(aD:dS aq)(eQ:aU.Own)(fh:aU.c=c)(ap:lS c o){gz:b4→Prop}(lH:∀s s2:b4,s2.aF=s.aF→s2.live=s.live→gz s→gz s2){g no m gP bo aV:Int}(i:Nat)(d:Nat→Int)(iV:c.a0[i]?=some d)(qQ:bo<0)(qO:0≤gP∧gP<(c.ba.length:Int))(ek:ji c.a0 m gP=((i:Int),true))(aE:d 2=3)(aJ:1≤(eZ c d).1.1∧(eZ c d).1.1≤65536)(jb:(cw c (d 1)&&&~~~(cw c (d 0)))=0#32)(nr:0≤no∧no≤100000){n:Nat}(a7:n≤90000):
  ∀S,jJ c a9 aU o p aq gz g (no) (m) (bo) (0) (aV) (0#32) (none) (n) S→aS B 93 [ag p,U gP] S (fun v aQ=>v=U 0∧jJ c a9 aU o p aq gz g (no) (m) ((i:Int)) (3) (no) (0#32) (some (16,(eZ c d).1.1)) (n+2) aQ):=by
 rintro S ⟨k,s,v,b,m0,kJ,w3,bP,rk,w4,bg,r4,vl,w5,IA,rfl⟩
 subst w3
 refine Da (Hw p k s v al w5 gP (all (bR k.a9 k.y aU o m bo 0 aV no 0#32 none)) (mE k.a9 k.y aU o m (i:Int) 3 no no 0#32 (some (16,(eZ c d).1.1))) (fun a=>a.l=[⟨true,false,false,(i:Int),d 1,0⟩]∧a.Own) ?_ (fun ca=>ex fun y:Nat×{x:eV×b4//kO k s x}=>cQ p y.2.1.1 y.2.1.2 ca (all (bR k.a9 k.y aU o m (i:Int) 3 no no 0#32 (g9 y.1 (some (16,(eZ c d).1.1))))) aq) ?_) ?_
 ·refine gB (j2 (jK (Y0 k.a9 aU o (kp eQ) (xJ ap.vq) i d (by rw [ov fh];exact iV) (eZ c d).1 (xK ap iV) m gP bo aV no (-1) 0#32 al qQ bu (by rw [show(aU.ba.l.length:Int)=(c.ba.length:Int)from by rw [←fh];simp];exact qO) (by rw [ov fh];exact ek) aE s.live aJ (by rw [fh];exact jb) bc aD) (show Take _ (bR k.a9 k.y aU o m bo 0 aV no 0#32 none++[aq]) _ from(by(try dsimp only [bR,cQ]);exact dI))) (lr (Take.cons (.here _ _) (.nil _)))) ?_
  rintro v S ⟨aP,rfl,a,bC,⟨aO,bT⟩,rfl,rfl⟩
  exact⟨_,[(mE k.a9 k.y aU o m (i:Int) 3 no no 0#32 (some (16,(eZ c d).1.1))),dO a,aq],_,(jv (l:=bR k.a9 k.y aU o m (i:Int) 3 no no 0#32 (some (bC,16,(eZ c d).1.1))) (by(try dsimp only [bR,cQ]);exact dI)).trans (kT (F:=fun b:Nat=>[all (bR k.a9 k.y aU o m (i:Int) 3 no no 0#32 (g9 b (some (16,(eZ c d).1.1))))]) bC (by(try dsimp only [bR,cQ,g9]);exact dI)),(by(try dsimp only [bR,cQ]);exact dI),a,⟨aO,bT⟩,rfl,rfl⟩
 ·intro a v1 aO ib gI
  refine j2 (pre:=(mE k.a9 k.y aU o m (i:Int) 3 no no 0#32 (some (16,(eZ c d).1.1)))::[aa p (c9 (dE k v1)) 170,aa k.dC (cp s) 260,many 16 (cX s.aF),fa v1,dO a,aq]) (sS fun b=>?_) (r2 (by(try dsimp only [bR,cQ]);exact dI))
  refine gB (j2 (Iz p k s bg bc aD aU o kJ eQ m (i:Int) 3 no no 0#32 (g9 b (some (16,(eZ c d).1.1))) (fun _=>⟨i,d,rfl,by rw [ov fh];exact iV⟩) bP v1 al gI (i:Int) (d 1) 0 a aO.1 aO.2) (r2 (by(try dsimp only [bR,cQ]);exact dI))) ?_
  rintro v2 aQ ⟨ca,⟨ab,af⟩,rfl,rfl⟩
  exact⟨_,[ex fun y:Nat×{x:eV×b4//kO k s x}=>cQ p y.2.1.1 y.2.1.2 ca (all (bR k.a9 k.y aU o m (i:Int) 3 no no 0#32 (g9 y.1 (some (16,(eZ c d).1.1))))) aq],_,Cl fun x=>⟨(b,x),rfl⟩,Take.self _,ca,⟨ab,af⟩,rfl,rfl⟩
 rintro v2 aQ ⟨ca,⟨ab,af⟩,rfl,rfl⟩
 refine⟨_,_,[],rfl,fun y=>⟨rfl,y.2.1.1,y.2.1.2,ca,y.1,?_⟩⟩
 have q:=y.2.2
 refine⟨by rw [q.y];exact m0,by rw [q.y];exact kJ,q.a9,q.q,by rw [q.late];exact rk,by rw [q.cf];exact w4,q.ok,by rw [q.now];exact r4,lH _ _ q.aF q.live vl,af,by omega,?_⟩
 rw [q.y];exact List.append_nil _
theorem GA:iU g1=0:=by decide+kernel
theorem Xf:k2.length=54:=by decide+kernel
theorem Xg:Can g1:=⟨fun e he=>by
    simp only [g1,vu,List.mem_cons,List.not_mem_nil,or_false]at he
    rcases he with rfl|rfl|rfl<;>(intro k aj;simp only [hM];rw [List.getD_eq_getElem?_getD,List.getElem?_eq_none (by simp;omega)];rfl),fun p aE=>by
    simp only [g1,List.mem_cons,List.not_mem_nil,or_false]at aE
    rcases aE with rfl|rfl|rfl<;>(intro y aZ;cases aZ),fun e he=>by
    simp only [g1,tM,List.mem_cons,List.not_mem_nil,or_false]at he
    rcases he with rfl|rfl|rfl|rfl<;>(intro k aj;simp only [hM];rw [List.getD_eq_getElem?_getD,List.getElem?_eq_none (by simp;omega)];rfl)⟩
theorem MU:ld k2=some g1:=LB (xx GA) Xg
theorem Tf:jM k2=true:=Ci MU GA
theorem Xh:cw g1 0=3#32∧cw g1 1=6#32∧cw g1 2=7#32:=⟨rfl,rfl,rfl⟩
theorem Xi:(eZ g1 (hM [0,1,1])).1.2=0:=rfl
theorem GB:(eZ g1 (hM [1,2,2])).1=(40,0):=by decide+kernel
theorem Db:(eZ g1 (hM [2,0,3])).1=(15,15):=by decide+kernel
theorem Zu:ji g1.a0 0 1=(((0:Nat):Int),true):=by decide+kernel
theorem Zv:ji g1.a0 1 2=(((1:Nat):Int),true):=by decide+kernel
theorem Zw:ji g1.a0 2 0=(((2:Nat):Int),true):=by decide+kernel
structure l8 where
  gz:b4→Prop
  g:Int
  no:Int
  m:Int
  bo:Int
  bn:Int
  aV:Int
  x:Option (Int×Int)
abbrev ot(t:l8)(aq:ao B)(a9:Nat)(aU:bQ)(o:ea)(p:Nat)(n:Nat)(S:List (ao B)):Prop:=jJ g1 a9 aU o p aq t.gz t.g t.no t.m t.bo t.bn t.aV 0#32 t.x n S
def nM(t:l8)(aq:ao B)(q:Nat)(S:List (ao B)):Prop:=∃(eF bN:Nat) (bz:Value) (w:ai (BitVec 32)) (a9:Nat) (aU:bQ) (o:ea) (aP:List (ao B)),(w.l=k2∧w.Own)∧(aU.Own∧aU.c=g1∧lS g1 o)∧ot t aq a9 aU o bN 0 aP∧hL S (aa q (c6 eF bz (ag bN) w 1#32 ((1:Nat):Int)) 116::cK w::aP)
abbrev rA(q:Nat)(J:List (ao B)→Prop)(v:Value)(aQ:List (ao B)):Prop:=∃(e n:Int) (eF bN gT:Nat) (bz:Value) (w:ai (BitVec 32)) (dx:BitVec 32) (k:eV) (aX:ai eP) (R:List (ao B)),(aX.l.length≤100000∧aX.Own)∧v= .agg #[U e,U n]∧aQ=aa q (c6 eF bz (ag bN) w dx gT) 116::aa bN (c9 (dE k aX)) 170::fa aX::R∧J (aa q (c6 eF bz (ag bN) w dx gT) 116::aa bN (c9 (dE k (ai.bG:ai eP))) 170::fa (ai.bG:ai eP)::R)
theorem jJ.mono{c:dG}{a9:Nat}{aU:bQ}{o:ea}{p:Nat}{aq:ao B}{gz:b4→Prop}{g no m bo bn aV:Int}{op:BitVec 32}{x:Option (Int×Int)}{n nJ:Nat}(a7:n≤nJ){S:List (ao B)}(h:jJ c a9 aU o p aq gz g no m bo bn aV op x n S):jJ c a9 aU o p aq gz g no m bo bn aV op x nJ S:=by
  obtain⟨k,s,v,b,ab,af,az,a5,cd,c5,fo,gx,jf,iw,qN,yz⟩:=h
  exact⟨k,s,v,b,ab,af,az,a5,cd,c5,fo,gx,jf,iw,by omega,yz⟩
theorem GC{aq:ao B}(t t2:l8)(q:Nat)(x:nG)(e n:Int)(h:∀(eF bN:Nat) (bz:Value) (w:ai (BitVec 32)) (a9:Nat) (aU:bQ) (o:ea) (aP:List (ao B)),aU.Own→aU.c=g1→lS g1 o→ot t aq a9 aU o bN 0 aP→aS B 20 [ag q,.agg (la x).toArray] (aa q (c6 eF bz (ag bN) w 1#32 ((1:Nat):Int)) 116::aP) (fun v S=>v= .agg #[U e,U n]∧∃aQ,ot t2 aq a9 aU o bN 90000 aQ∧S=aa q (c6 eF bz (ag bN) w 1#32 ((1:Nat):Int)) 116::aQ)):
  ∀S,nM t aq q S→aS B 20 [ag q,.agg (la x).toArray] S (fun v aQ=>rA q (nM t2 aq q) v aQ):=by
 rintro S ⟨eF,bN,bz,w,a9,aU,o,aP,hw,⟨ab,af,az⟩,aB,ll⟩
 refine j2 (gB (jK (h eF bN bz w a9 aU o aP ab af az aB) (?_:Take _ _ [cK w])) ?_) ll
 ·exact .cons (.here _ _) (Take.skip (Take.self _))
 rintro v S ⟨aQ,rfl,rfl,cF,⟨k,s,aX,b,bM,bS,cD,cV,ff,gE,rD,xl,Qx,P8,adm,rfl⟩,rfl⟩
 subst cD
 refine⟨_,[aa q (c6 eF bz (ag bN) w 1#32 ((1:Nat):Int)) 116,aa bN (c9 (dE k aX)) 170,fa aX,aa k.dC (cp s) 260,many 16 (cX s.aF),all (bR k.a9 k.y aU o t2.m t2.bo t2.bn t2.aV t2.no 0#32 (g9 b t2.x)),aq,cK w],_,fun _ _ h=>h,(by(try dsimp only [cQ]);exact dI),e,n,eF,bN,1,bz,w,1#32,k,aX,_,⟨by omega,P8⟩,rfl,rfl,eF,bN,bz,w,k.a9,aU,o,cQ bN k s (ai.bG:ai eP) (all (bR k.a9 k.y aU o t2.m t2.bo t2.bn t2.aV t2.no 0#32 (g9 b t2.x))) aq,hw,⟨ab,af,az⟩,⟨k,s,ai.bG,b,bM,bS,rfl,cV,ff,gE,rD,xl,Qx,ai.fY,Nat.le_refl 0,rfl⟩,r2 (by(try dsimp only [cQ]);exact dI)⟩
abbrev kP:Nat→Int:=hM [10,10,2,1]
abbrev yN:l8:=⟨hJ,0,0,0,-1,0,0,none⟩
abbrev tF:l8:=⟨rH 0,5000,0,0,-1,0,0,none⟩
theorem Xj{s:b4}{x a:ai fv}(bg:fP s)(bt:hJ s)(a7:s.now=0)(av:x.l=[])(aO:a.l=x.l)(bT:a.Own):ow s (⟨0,s.now,s.now+kP 1,min (max 2 1) (kP 2),0,x⟩:fy)=0∧fP (nl s ⟨0,s.now,s.now+kP 1,min (max 2 1) (kP 2),0,x⟩ a)∧rH 0 (nl s ⟨0,s.now,s.now+kP 1,min (max 2 1) (kP 2),0,x⟩ a)∧(nl s ⟨0,s.now,s.now+kP 1,min (max 2 1) (kP 2),0,x⟩ a).now=0:=by
 have he:ow s (⟨0,s.now,s.now+kP 1,min (max 2 1) (kP 2),0,x⟩:fy)=0:=Ni (by show¬((0:Int)<0∨(0:Int)≥16∨(0:Int)≥2);decide) (by show hasB s.live 0=false;rw [show s.live=0#32 from bt];decide)
 refine⟨he,WH bg bT aO fun k aj _=>?_,?_,?_⟩
 ·refine⟨by assumption,aj,by show(0:Int)≤0;decide,by show(0:Int)≤100000000;decide,by show(0:Int)≤2;decide,by show(2:Int)≤100000000;decide,?_,?_⟩
  ·show(-1000000000:Int)≤s.now;omega
  show s.now≤(1000000000:Int);omega
 ·have e:(nl s ⟨0,s.now,s.now+kP 1,min (max 2 1) (kP 2),0,x⟩ a).aF 0=⟨0,s.now,s.now+kP 1,min (max 2 1) (kP 2),0,a⟩:=(congrFun (congrArg b4.aF (zG he)) 0).trans (e8 s.aF 0 (⟨0,s.now,s.now+kP 1,min (max 2 1) (kP 2),0,a⟩:fy))
  refine⟨?_,by rw [e];rfl,by rw [e],by rw [e];exact a7,by rw [e];show s.now+10=10;omega,by rw [e];exact aO.trans av⟩
  refine(congrArg b4.live (zG he)).trans ?_
  show s.live|||ep 0=ep 0;rw [show s.live=0#32 from bt];decide
 rw [zG he];exact a7
theorem Xk{aq:ao B}(bc:dL aq)(aD:dS aq){a9:Nat}{aU:bQ}{o:ea}{p:Nat}(eQ:aU.Own)(fh:aU.c=g1):∀S,ot yN aq a9 aU o p 0 S→aS B 92 [ag p,U 0,U 2,.slice none 0 0] S (fun v aQ=>v=U 0∧ot tF aq a9 aU o p 90000 aQ):=by
 rintro S ⟨k,s,v,b,ab,af,az,a5,cd,c5,fo,gx,jf,iw,qN,rfl⟩
 subst az
 have a7:s.now=0:=gx
 have bt:s.live=0#32:=jf
 have gO:k.y.aG.l[0]?=some kP:=by rw [LH ab];rfl
 show aS B 92 _ (cQ p k s v (all (bR k.a9 k.y aU o 0 (-1) 0 0 0 0#32 none)) aq) _
 refine gB (j2 (jK (WN p k s fo bc aD v al iw aU o 0 (-1) 0 0 0 (-1) 0#32 none bu (kp af) (kp eQ) kP gO bu bu bu 2 (by rw [fh];decide) (by rw [bt];decide) (by rw [a7];exact c5) al) (show Take _ (bR k.a9 k.y aU o 0 (-1) 0 0 0 0#32 none++[aa p (c9 (dE k v)) 170,aa k.dC (cp s) 260,many 16 (cX s.aF),fa v,aq]) [ix none,all (kQ o)]from(by(try dsimp only [bR,cQ]);exact dI))) (lr aC)) ?_
 rintro w S ⟨ad1,rfl,ca,x,a,⟨bM,bS⟩,⟨cD,cV⟩,⟨ff,gE⟩,rfl,rfl⟩
 obtain⟨qe,jq,I0,I1⟩:=Xj fo jf a7 cD ff gE
 rw [qe]
 refine⟨_,cQ p ({k with cf:=ru (s.now+min (max (kP 0) 1) 4096) k.cf}) (nl s ⟨0,s.now,s.now+kP 1,min (max 2 1) (kP 2),0,x⟩ a) ca (all (bR k.a9 k.y aU o 0 (-1) 0 0 0 0#32 none)) aq,_,jv (l:=bR k.a9 k.y aU o 0 (-1) 0 0 0 0#32 none) (by(try dsimp only [bR,cQ]);exact dI),(by(try dsimp only [cQ]);exact dI),rfl,({k with cf:=ru (s.now+min (max (kP 0) 1) 4096) k.cf}),(nl s ⟨0,s.now,s.now+kP 1,min (max 2 1) (kP 2),0,x⟩ a),ca,0,ab,af,rfl,a5,cd,?_,jq,I1,I0,bS,by omega,rfl⟩
 show s.now+10≤5000;omega
abbrev ad3(q p:Nat)(d:a2)(c2:ai (BitVec 32))(aq:ao B):List (ao B):=[aa q (c6 p (.pointer none) (.pointer none) ai.bG 0#32 0) 116,aa p (bE d) 196,b5 (d),dT (d),cK c2,aq]
abbrev Qy(aq:ao B)(q:Nat)(S:List (ao B)):Prop:=∃(p:Nat) (a:ai (BitVec 32)) (b:ai Int) (c2:ai (BitVec 32)),Lv.uH a b∧S=ad3 q p (g8 256 1000 a b k2) c2 aq
theorem U6{k:eV}{e:iQ}{s:b4}{cO:List (Nat→Int)}(h:Og g1 k e s cO):dE k ai.bG=k∧k.q.l=[]∧k.late=0∧k.cf 0=0∧fP s∧s.now=0∧hJ s∧b6 e=b6 (cJ e.y k.o 0 (-1) 0 0 0 (-1) 0#32 none):=by
 obtain⟨q,aj,wT,bP⟩:=h.hb
 have Ix:k.aX= .slice none 0 0:=by rw [aj]
 have bg:fP (vW h3 (fH g1.aG (cw g1 0))):=LQ Mz fun r _=>Ch _ _ _
 have aB:s=vW h3 (fH g1.aG (cw g1 0)):=h.adL.trans (if_neg (by rw [Xh.1];decide))
 refine⟨?_,?_,by rw [aj],by rw [aj],by rw [aB];exact bg,by rw [aB];rfl,by rw [aB];rfl,by rw [h.adK];rfl⟩
 ·show({k with aX:= .slice none 0 0}:eV)=k
  rw [←Ix]
 obtain⟨t,aR⟩:=h.cO
 have:cO=[]:=by injection aR with aR;injection aR with _ af;exact af.symm
 rw [this]at bP
 rw [show k.q=q from by rw [aj]]
 exact List.eq_nil_of_length_eq_zero bP
theorem Zx{aq:ao B}(bc:dL aq)(aD:dS aq)(q:Nat):∀S,Qy aq q S→aS B 20 [ag q,.agg (la (15,0,0)).toArray] S (fun v aQ=>rA q (nM yN aq q) v aQ):=by
 rintro S ⟨p,a,b,c2,ak,rfl⟩
 obtain⟨d1,d2,d3,d4⟩:=Lv.Xe ak
 obtain⟨ay,aM,b9⟩:=Lv.Xd a ak.b.1
 generalize gW:g8 256 1000 a b k2=d at d1 d2 d3 d4 ay aM b9
 have g6:d.on=false:=by rw [←gW]
 refine gB (WR q 0 0 _ 0 (fun S=>∃(bz co:Value) (hV:ai (BitVec 32)) (dx:BitVec 32) (hX jH:ao B),(xV p d bz co hV dx hX∧MF d co jH)∧S=[aa q (c6 p bz co hV dx (0+1)) 116,hX,jH,aq]) (gB (jK (MG q p ai.bG 0#32 0 d d1 g6 al (by rw [d3];decide) (by rw [d4];decide) bu bc aD) (aC:Take _ _ [cK c2])) ?_)) ?_
 ·rintro v S ⟨aP,rfl,bz,co,hV,dx,hX,jH,eJ,rfl,rfl⟩
  exact⟨_,_,_,fun _ _ h=>h,(by(try dsimp only [cQ]);exact dI),by rw [aM],bz,co,hV,dx,hX,jH,eJ,rfl⟩
 rintro v S ⟨rfl,bz,co,hV,dx,hX,jH,⟨hq,l5⟩,rfl⟩
 obtain⟨a6,Q,bN,j,aY,rfl,rfl,hw,sv,AQ,rfl⟩:=hq.on aM
 obtain⟨Qw,c,mw,IE,hY,k,e,s,cO,jb,H5,rfl⟩:=l5 aM
 rw [ay]at aY mw;cases aY;cases mw
 rw [b9]at hw AQ IE
 have u4:c=g1:=by
  have af:ld k2=some c:=IE
  rw [MU]at af;exact(Option.some.inj af).symm
 clear IE
 subst u4
 obtain rfl:hY=bN:=by injection H5 with ab;injection ab with ab;injection ab with ab;exact ab.symm
 obtain⟨bM,bS,cD,cV,ff,gE,rD,xl⟩:=U6 jb
 rw [AQ]
 clear AQ hq l5
 rw [←bM]
 have ll:hL [aa q (c6 p (ag a6) (ag hY) hV 1#32 (0+1)) 116,all (Hp a6 p Q d 0 ((0:Nat):Int) hV),all (xy hY (dE k ai.bG) e s cO),aq] (fa (ai.bG:ai eP)::ix none::([aa hY (c9 (dE k ai.bG)) 170,aa k.dC (cp s) 260,many 16 (cX s.aF),aa k.a9 (b6 e) 288,all (hn k.y),all (hn e.y),all (kQ k.o),mO k.q,all (oE k.q.l cO)]++([aa a6 [ag p,.pointer (some ⟨Q 0,0,none⟩),.pointer (some ⟨Q 1,0,none⟩),U ((0:Nat):Int)] 200,iI Q p d 0,iI Q p d (1-0),cK hV]++[aa q (c6 p (ag a6) (ag hY) hV 1#32 (0+1)) 116,aq]))):=fun D w h=>
  Fe po 155 4 D w (show dR (ix none::_) D w from um D w (lr (l:=xy hY (dE k ai.bG) e s cO) aC D w (lr (l:=Hp a6 p Q d 0 ((0:Nat):Int) hV) (R:=[aa q (c6 p (ag a6) (ag hY) hV 1#32 (0+1)) 116,all (xy hY (dE k ai.bG) e s cO),aq]) aC D w h)))
 rw [xl,show((0:Int)+1)=((1:Nat):Int)from rfl]at ll
 refine⟨_,[aa q (c6 p (ag a6) (ag hY) hV 1#32 ((1:Nat):Int)) 116,aa hY (c9 (dE k (ai.bG:ai eP))) 170,fa (ai.bG:ai eP),aa k.dC (cp s) 260,many 16 (cX s.aF),all (bR k.a9 k.y e.y k.o 0 (-1) 0 0 0 0#32 none),aq,cK hV],_,ll.trans (jv (l:=bR k.a9 k.y e.y k.o 0 (-1) 0 0 0 0#32 none) (by(try dsimp only [bR,cQ]);exact dI)),(by(try dsimp only [cQ]);exact dI),0,0,p,hY,1,ag a6,hV,1#32,k,ai.bG,_,⟨by show 0≤100000;decide,ai.fY⟩,rfl,rfl,p,hY,ag a6,hV,k.a9,e.y,k.o,cQ hY k s (ai.bG:ai eP) (all (bR k.a9 k.y e.y k.o 0 (-1) 0 0 0 0#32 none)) aq,⟨hw,sv⟩,⟨jb.acv,jb.adJ,jb.o⟩,⟨k,s,ai.bG,0,jb.y,jb.adI,rfl,bS,cD,by rw [cV];exact Int.le_refl 0,ff,gE,rD,ai.fY,Nat.le_refl 0,rfl⟩,r2 (by(try dsimp only [cQ]);exact dI)⟩
section
abbrev P9:Nat→Int:=hM [0,1,1]
abbrev IF:Nat→Int:=hM [1,2,2]
abbrev Bl:Nat→Int:=hM [2,0,3]
abbrev Bm:l8:=⟨rH 0,5000,0,0,0,1,0,none⟩
abbrev Ev:l8:=⟨hJ,5000,20,1,-1,0,0,none⟩
abbrev Ew:l8:=⟨hJ,5000,20,1,1,2,20,some (16,40)⟩
abbrev Ex:l8:=⟨hJ,5000,70,2,-1,0,20,none⟩
abbrev Ey:l8:=⟨hJ,5000,70,2,2,3,70,some (16,15)⟩
abbrev Qa:l8:=⟨hJ,5000,169,0,-1,0,70,none⟩
def DK:Nat→l8
  |0=>Bm
  |1=>⟨rH 1,5000,1,0,0,1,0,none⟩
  |i+2=>⟨hJ,5000,(i:Int)+2,1,-1,0,0,none⟩
def tp(i:Nat):l8:=if i<40 then⟨hJ,5000,20+(i:Int),1,1,2,20,some (16,40-(i:Int))⟩else⟨hJ,5000,20+(i:Int),2,-1,0,20,none⟩
def pZ(i:Nat):l8:=if i<15 then⟨hJ,5000,70+(i:Int),2,2,3,70,some (16,15-(i:Int))⟩else if i<30 then⟨hJ,5000,70+(i:Int),0,2,4,70,some (17,30-(i:Int))⟩else⟨hJ,5000,70+(i:Int),0,-1,0,70,none⟩
abbrev EJ(aq:ao B)(a9:Nat)(aU:bQ)(o:ea)(p:Nat)(t t2:l8)(i:Nat):Prop:=∀S,ot t aq a9 aU o p (7*i) S→aS B 140 [ag p] S (fun v aQ=>(∃r:qM,v= .agg (nk r).toArray)∧ot t2 aq a9 aU o p (7*(i+1)) aQ)
theorem LU{d:Int}(s:b4)(h:rH d s):s.live≠0#32:=by rw [h.live];decide
variable{a9:Nat}{aU:bQ}{o:ea}{p:Nat}{aq:ao B}(bc:c1 aq ⟨0,0,none⟩ (q2.map fun m=> .int .u8 m))(aD:dS aq)
 include bc aD
theorem aaV(eQ:aU.Own)(fh:aU.c=g1)(ap:lS g1 o):∀i,i<20→EJ aq a9 aU o p (DK i) (DK (i+1)) i
  |0,_=>adj bc aD eQ fh ap (fun s h aY a7=>Zq s h aY a7) (OD 1) (fun s h=>LU s h) (by decide) (by decide)
  |1,_=>adk bc aD eQ fh ap 0 P9 rfl (by decide) 1 rfl 6#32 rfl (by rw [Xi];decide) (fun s h aY a7=>U5 s h aY a7) qy (fun s h=>h) (by decide) (by decide)
  |i+2,ak=>by
    have e:DK (i+2+1)=⟨hJ,5000,(i:Int)+2+1,1,-1,0,0,none⟩:=by
      show(⟨hJ,5000,((i+1:Nat):Int)+2,1,-1,0,0,none⟩:l8)=_
      rw [show((i+1:Nat):Int)+2=(i:Int)+2+1 by omega]
    rw [e]
    exact IB (no:=(i:Int)+2) (bn:=0) bc aD eQ fh ap (fun q=>by cases q) (.inl (by decide)) (fun s h aY a7=>sL s h aY a7) qy (by omega) (by omega)
theorem aaW(eQ:aU.Own)(fh:aU.c=g1)(ap:lS g1 o)(i:Nat)(ak:i<50):EJ aq a9 aU o p (tp i) (tp (i+1)) i:=by
  have iA:20+((i+1:Nat):Int)=20+(i:Int)+1:=by omega
  rcases Nat.lt_trichotomy i 39 with h|rfl|h
  · rw [show tp i=⟨hJ,5000,20+(i:Int),1,1,2,20,some (16,40-(i:Int))⟩from if_pos (by omega),show tp (i+1)=⟨hJ,5000,20+(i:Int)+1,1,1,2,20,some (16,40-(i:Int)-1)⟩from(if_pos (by omega)).trans (by rw [iA,show 40-((i+1:Nat):Int)=40-(i:Int)-1 by omega])]
    exact ID (no:=20+(i:Int)) (bn:=2) bc aD eQ fh ap (fun q=>by cases q) (by decide) 16 (40-(i:Int)) (by omega) (fun s h aY a7=>sL s h aY a7) qy (by omega) (by omega)
  · rw [show tp 39=⟨hJ,5000,20+((39:Nat):Int),1,((1:Nat):Int),2,20,some (16,1)⟩from if_pos (by omega),show tp (39+1)=⟨hJ,5000,20+((39:Nat):Int)+1,IF 1,-1,0,20,none⟩from if_neg (by omega)]
    exact aaS (no:=20+((39:Nat):Int)) (bn:=2) bc aD eQ fh ap 1 IF rfl (by decide) 2 rfl 7#32 rfl (by decide) (by rw [GB];decide) (fun s h aY a7=>sL s h aY a7) qy (by decide) (by decide)
  · rw [show tp i=⟨hJ,5000,20+(i:Int),2,-1,0,20,none⟩from if_neg (by omega),show tp (i+1)=⟨hJ,5000,20+(i:Int)+1,2,-1,0,20,none⟩from(if_neg (by omega)).trans (by rw [iA])]
    exact IB (no:=20+(i:Int)) (bn:=0) bc aD eQ fh ap (fun q=>by cases q) (.inl (by decide)) (fun s h aY a7=>sL s h aY a7) qy (by omega) (by omega)
theorem aaX(eQ:aU.Own)(fh:aU.c=g1)(ap:lS g1 o)(i:Nat)(ak:i<99):EJ aq a9 aU o p (pZ i) (pZ (i+1)) i:=by
  have iA:70+((i+1:Nat):Int)=70+(i:Int)+1:=by omega
  rcases Nat.lt_trichotomy i 14 with h|rfl|h
  · rw [show pZ i=⟨hJ,5000,70+(i:Int),2,((2:Nat):Int),3,70,some (16,15-(i:Int))⟩from if_pos (by omega),show pZ (i+1)=⟨hJ,5000,70+(i:Int)+1,2,((2:Nat):Int),3,70,some (16,15-(i:Int)-1)⟩from(if_pos (by omega)).trans (by rw [iA,show 15-((i+1:Nat):Int)=15-(i:Int)-1 by omega];rfl)]
    exact ID (no:=70+(i:Int)) (bn:=3) bc aD eQ fh ap (fun _=>⟨2,Bl,rfl,rfl⟩) (by decide) 16 (15-(i:Int)) (by omega) (fun s h aY a7=>sL s h aY a7) qy (by omega) (by omega)
  · rw [show pZ 14=⟨hJ,5000,70+((14:Nat):Int),2,((2:Nat):Int),3,70,some (16,1)⟩from if_pos (by omega),show pZ (14+1)=⟨hJ,5000,70+((14:Nat):Int)+1,Bl 1,((2:Nat):Int),4,70,some (17,(eZ g1 Bl).1.2)⟩from((if_neg (by omega)).trans (if_pos (by omega))).trans (by rw [Db];rfl)]
    exact aaT (no:=70+((14:Nat):Int)) (bn:=3) bc aD eQ fh ap 2 Bl rfl (by decide) 0 rfl 3#32 rfl (by decide) (by rw [Db];decide) (fun s h aY a7=>sL s h aY a7) qy (by decide) (by decide)
  · rcases Nat.lt_trichotomy i 29 with af|rfl|af
    · rw [show pZ i=⟨hJ,5000,70+(i:Int),0,2,4,70,some (17,30-(i:Int))⟩from(if_neg (by omega)).trans (if_pos (by omega)),show pZ (i+1)=⟨hJ,5000,70+(i:Int)+1,0,2,4,70,some (17,30-(i:Int)-1)⟩from((if_neg (by omega)).trans (if_pos (by omega))).trans (by rw [iA,show 30-((i+1:Nat):Int)=30-(i:Int)-1 by omega])]
      exact ID (no:=70+(i:Int)) (bn:=4) bc aD eQ fh ap (fun q=>by cases q) (by decide) 17 (30-(i:Int)) (by omega) (fun s h aY a7=>sL s h aY a7) qy (by omega) (by omega)
    · rw [show pZ 29=⟨hJ,5000,70+((29:Nat):Int),0,2,4,70,some (17,1)⟩from(if_neg (by omega)).trans (if_pos (by omega)),show pZ (29+1)=⟨hJ,5000,70+((29:Nat):Int)+1,0,-1,0,70,none⟩from(if_neg (by omega)).trans (if_neg (by omega))]
      exact adl (no:=70+((29:Nat):Int)) (bn:=4) bc aD eQ fh ap (by decide) (fun s h aY a7=>sL s h aY a7) qy (by decide) (by decide)
    · rw [show pZ i=⟨hJ,5000,70+(i:Int),0,-1,0,70,none⟩from(if_neg (by omega)).trans (if_neg (by omega)),show pZ (i+1)=⟨hJ,5000,70+(i:Int)+1,0,-1,0,70,none⟩from((if_neg (by omega)).trans (if_neg (by omega))).trans (by rw [iA])]
      exact IB (no:=70+(i:Int)) (bn:=0) bc aD eQ fh ap (fun q=>by cases q) (.inl (by decide)) (fun s h aY a7=>sL s h aY a7) qy (by omega) (by omega)
end
abbrev p0:List nG:=[(15,0,0),(2,0,2),(3,1,0),(1,0,20),(3,2,0),(1,0,50),(3,0,0),(1,0,99)]
abbrev Qb:List l8:=[yN,tF,Bm,Ev,Ew,Ex,Ey,Qa]
def y3(aq:ao B)(q:Nat):Nat→List (ao B)→Prop
  |0,S=>Qy aq q S
  |i+1,S=>∃t,Qb[i]?=some t∧nM t aq q S
theorem HB{aq:ao B}(q:Nat)(t t2:l8)(A:Int)(h:∀(a9:Nat) (aU:bQ) (o:ea) (p:Nat) (S:List (ao B)),aU.Own→aU.c=g1→lS g1 o→ot t aq a9 aU o p 0 S→aS B 93 [ag p,U A] S (fun v aQ=>v=U 0∧ot t2 aq a9 aU o p 2 aQ)):
    ∀S,nM t aq q S→aS B 20 [ag q,.agg (la (3,A,0)).toArray] S (fun v aQ=>rA q (nM t2 aq q) v aQ):=
  GC t t2 q (3,A,0) 0 0 fun eF bN bz w a9 aU o aP ab af az aB=>Ii q eF bN bz w 1#32 ((1:Nat):Int) A 0 aP 3 (by decide) 0 0 (ot t2 aq a9 aU o bN 90000) (Y6 q eF bN bz w 1#32 ((1:Nat):Int) A 0 aP 0 (ot t2 aq a9 aU o bN 90000) ((h a9 aU o bN aP ab af az aB).mono fun v S ⟨e,k⟩=>⟨e,jJ.mono (by decide) k⟩))
theorem aaY{aq:ao B}(bc:dL aq)(aD:dS aq)(q:Nat):∀S,nM yN aq q S→aS B 20 [ag q,.agg (la (2,0,2)).toArray] S (fun v aQ=>rA q (nM tF aq q) v aQ):=
  GC yN tF q (2,0,2) 0 0 fun eF bN bz w a9 aU o aP ab af az aB=>Ii q eF bN bz w 1#32 ((1:Nat):Int) 0 2 aP 2 (by decide) 0 0 (ot tF aq a9 aU o bN 90000) (UQ q eF bN bz w 1#32 ((1:Nat):Int) 0 2 aP 0 (ot tF aq a9 aU o bN 90000) (Xk bc aD ab af aP aB))
theorem HC{aq:ao B}(q:Nat)(T:Nat→l8)(n:Nat)(a7:1≤n∧n≤4096)(h:∀(a9:Nat) (aU:bQ) (o:ea) (p:Nat),aU.Own→aU.c=g1→lS g1 o→∀i,i<n→EJ aq a9 aU o p (T i) (T (i+1)) i):
    ∀S,nM (T 0) aq q S→aS B 20 [ag q,.agg (la (1,0,(n:Int))).toArray] S (fun v aQ=>rA q (nM (T n) aq q) v aQ):=
  GC (T 0) (T n) q (1,0,(n:Int)) 0 n fun eF bN bz w a9 aU o aP ab af az aB=>Ii q eF bN bz w 1#32 ((1:Nat):Int) 0 n aP 1 (by decide) 0 n (ot (T n) aq a9 aU o bN 90000) (WQ q eF bN bz w 1#32 ((1:Nat):Int) 0 n aP (ot (T n) aq a9 aU o bN 90000) ((WO q eF bN bz w 1#32 ((1:Nat):Int) n a7 (fun i S=>ot (T i) aq a9 aU o bN (7*i) S) aP aB (fun i S ak eK=>h a9 aU o bN ab af az i ak S eK)).mono fun v S ⟨e,aQ,k,dd⟩=>⟨e,aQ,jJ.mono (by omega) k,dd⟩))
theorem adn{aq:ao B}(bc:dL aq)(aD:dS aq)(q:Nat):∀S,nM tF aq q S→aS B 20 [ag q,.agg (la (3,1,0)).toArray] S (fun v aQ=>rA q (nM Bm aq q) v aQ):=
  HB q tF Bm 1 fun a9 aU o p S ab af az aB=>Zr bc aD ab af az (OD 0) 0 P9 rfl (by decide) (by decide) Zu rfl (fun s h=>LU s h) (by decide) (by decide) S aB
theorem ado{aq:ao B}(bc:dL aq)(aD:dS aq)(q:Nat):∀S,nM Ev aq q S→aS B 20 [ag q,.agg (la (3,2,0)).toArray] S (fun v aQ=>rA q (nM Ew aq q) v aQ):=
  HB q Ev Ew 2 fun a9 aU o p S ab af az aB=>by
    have h:=Zs (g:=5000) (no:=20) (aV:=0) bc aD ab af az qy 1 IF rfl (by decide) (by decide) Zv rfl (by rw [GB];decide) (by decide) (by decide) S aB
    rw [GB]at h
    exact h
theorem adp{aq:ao B}(bc:dL aq)(aD:dS aq)(q:Nat):∀S,nM Ex aq q S→aS B 20 [ag q,.agg (la (3,0,0)).toArray] S (fun v aQ=>rA q (nM Ey aq q) v aQ):=
  HB q Ex Ey 0 fun a9 aU o p S ab af az aB=>by
    have h:=Zt (g:=5000) (no:=70) (aV:=20) bc aD ab af az qy 2 Bl rfl (by decide) (by decide) Zw rfl (by rw [Db];decide) (by decide) (by decide) (by decide) S aB
    rw [Db]at h
    exact h
theorem adq{aq:ao B}(bc:dL aq)(aD:dS aq)(q:Nat):∀(i:Nat) (x:nG) (S:List (ao B)),p0[i]?=some x→y3 aq q i S→aS B 20 [ag q,.agg (la x).toArray] S (fun v aQ=>rA q (y3 aq q (i+1)) v aQ):=by
  have up:∀(i:Nat) (t:l8) (v:Value) (aQ:List (ao B)),Qb[i]?=some t→rA q (nM t aq q) v aQ→rA q (y3 aq q (i+1)) v aQ:=fun i t v aQ aR ⟨e,n,eF,bN,gT,bz,w,dx,k,aX,R,ab,af,az,a5⟩=>⟨e,n,eF,bN,gT,bz,w,dx,k,aX,R,ab,af,az,t,aR,a5⟩
  intro i x S av bt
  match i,av,bt with
  |0,av,bt=>cases av;exact(Zx bc aD q S bt).mono fun v aQ h=>up 0 yN v aQ rfl h
  |1,av,⟨t,aR,bt⟩=>cases av;cases aR;exact(aaY bc aD q S bt).mono fun v aQ h=>up 1 tF v aQ rfl h
  |2,av,⟨t,aR,bt⟩=>cases av;cases aR;exact(adn bc aD q S bt).mono fun v aQ h=>up 2 Bm v aQ rfl h
  |3,av,⟨t,aR,bt⟩=>cases av;cases aR;exact(HC q DK 20 (by decide) (fun a9 aU o p ab af az i ak=>aaV bc aD ab af az i ak) S bt).mono fun v aQ h=>up 3 Ev v aQ rfl h
  |4,av,⟨t,aR,bt⟩=>cases av;cases aR;exact(ado bc aD q S bt).mono fun v aQ h=>up 4 Ew v aQ rfl h
  |5,av,⟨t,aR,bt⟩=>cases av;cases aR;exact(HC q tp 50 (by decide) (fun a9 aU o p ab af az i ak=>aaW bc aD ab af az i ak) S bt).mono fun v aQ h=>up 5 Ex v aQ rfl h
  |6,av,⟨t,aR,bt⟩=>cases av;cases aR;exact(adp bc aD q S bt).mono fun v aQ h=>up 6 Ey v aQ rfl h
  |7,av,⟨t,aR,bt⟩=>cases av;cases aR;exact(HC q pZ 99 (by decide) (fun a9 aU o p ab af az i ak=>aaX bc aD ab af az i ak) S bt).mono fun v aQ h=>up 7 Qa v aQ rfl h
theorem aaZ{aq:ao B}(bc:dL aq)(aD:dS aq)(a:ai (BitVec 32))(aO:a.l=k2)(bT:a.Own):aS B 25 [.agg #[U 16,U 256,U 1000],aw a] [cK a,aq] (fun v S=>∃q,v= .tuple #[ag q,U 0]∧y3 aq q 0 S):=by
 refine(Ol 16 256 1000 bu bu bu a (eh bT rfl) (by rw [aO];exact Tf) (fun cE b ab af az a5=>by rw [aO];exact Lv.Zp cE az) bc aD).mono ?_
 rintro v S ⟨q,p,cE,b,⟨ab,af,az,a5⟩,rfl,rfl⟩
 rw [show g8 256 1000 cE b a.l=g8 256 1000 cE b k2 by rw [aO]]
 exact⟨q,rfl,p,cE,b,a,⟨⟨ab,af⟩,az,a5⟩,rfl⟩
abbrev DL:List UInt8:=Nx 169 0 0 1
theorem Zy{aq:ao B}(q:Nat)(S:List (ao B))(h:y3 aq q p0.length S):aS B 31 [ag q] S (fun v _=>v=str DL):=by
 obtain⟨t,aR,h⟩:=h
 cases aR
 obtain⟨eF,bN,bz,w,a9,aU,o,aP,hw,⟨ab,af,az⟩,⟨k,s,aX,b,bM,bS,cD,cV,ff,gE,rD,xl,Qx,P8,adm,rfl⟩,ll⟩:=h
 subst cD
 have xl:s.now=169:=xl
 have ll:hL S (aa q (c6 eF bz (ag bN) w 1#32 ((1:Nat):Int)) 116::cK w::cQ bN k s aX (all (bR k.a9 k.y aU o 0 (-1) 0 70 169 0#32 none)) aq):=ll
 refine gB (j2 (jK (Zc q eF bN bz w hw.2 (by rw [hw.1,Xf];decide) 1#32 ((1:Nat):Int) (dE k aX) s aU o 0 (-1) 0 70 169 (-1) 0#32 none) (show Take _ (bR k.a9 k.y aU o 0 (-1) 0 70 169 0#32 none++[aa q (c6 eF bz (ag bN) w 1#32 ((1:Nat):Int)) 116,cK w,aa bN (c9 (dE k aX)) 170,aa k.dC (cp s) 260,many 16 (cX s.aF),fa aX,aq]) [ix none,all (hn k.y),all (hn aU),all (kQ o),many 16 (cX s.aF),fa aX,aq]from(by(try dsimp only [bR,cQ]);exact dI))) (ll.trans (lr (by(try dsimp only [cQ]);exact dI)))) ?_
 rintro v S ⟨aP,rfl,rfl,rfl⟩
 refine⟨_,[],_,fun _ _ h=>h,.nil _,?_⟩
 rw [xl,show(dE k aX).late=0 from ff]
 rfl
theorem U7:DL++[10]=[111,110,32,49,54,57,32,109,111,100,101,32,48,32,108,97,116,101,32,48,32,105,109,97,103,101,32,49,10]:=by decide+kernel
def OE(l:List (List UInt8)):Bool:=decide (1≤l.length)&&(List.range l.length).all fun i=>match l[i+1]? with
  |none=>true
  |some q=>okB q&&decide (0≤cn q∧cn q≤31∧¬(lM l i>>>(cn q).toNat&&&1#32)=1#32)
theorem GD{l:List (List UInt8)}(h:OE l=true):G2 l:=by
 unfold OE at h
 simp only [Bool.and_eq_true,decide_eq_true_eq,List.all_eq_true,List.mem_range]at h
 refine⟨h.1,fun i q bP=>?_⟩
 have ak:=(List.getElem?_eq_some_iff.1 bP).1
 have:=h.2 i al
 rw [bP]at this
 simp only [Bool.and_eq_true,decide_eq_true_eq]at this
 exact⟨kE this.1,this.2⟩
def sx(bV:List (List UInt8))(k:Int):Bool:=decide (1≤k∧k≤15∧bV[0]?=some (ee k).1∧bV.length≤(ee k).2.length+1∧(ee k).2.length≤10∧(ee k).2.length≤bV.length-1+(if 0≤Lib.indexByte (ee k).2 (115:Int).toNat.toUInt8∨0≤Lib.indexByte (ee k).2 (119:Int).toNat.toUInt8 then 1 else 0))&&((List.range k.toNat).all fun j=>decide (1≤j→(ee (j:Int)).1≠(ee k).1))&&(List.range bV.length).all fun i=>match bV[i+1]? with
  |none=>true
  |some q=>okB q&&decide ((ee k).2[i]?=some 97∨(ee k).2[i]?=some 110)
theorem uJ{bV:List (List UInt8)}{k:Int}(h:sx bV k=true):HA bV k:=by
 unfold sx at h
 simp only [Bool.and_eq_true,decide_eq_true_eq,List.all_eq_true,List.mem_range]at h
 obtain⟨⟨⟨ab,af,az,a5,cd,c5⟩,fo⟩,gx⟩:=h
 refine⟨⟨ab,af⟩,az,fun j aY aj=>?_,a5,cd,fun i q bP=>?_,c5⟩
 ·obtain⟨n,rfl⟩:=Int.eq_ofNat_of_zero_le (show 0≤j by omega)
  exact fo n al al
 have ak:=(List.getElem?_eq_some_iff.1 bP).1
 have:=gx i al
 rw [bP]at this
 simp only [Bool.and_eq_true,decide_eq_true_eq]at this
 exact⟨kE this.1,this.2⟩
abbrev wv:List (List UInt8):=[[114,101,115,32,49],[116,97,115,107,32,49,48,32,49,48,32,50,32,48,58,49],[116,97,115,107,32,50,48,32,49,56,32,53],[116,97,115,107,32,52,48,32,52,48,32,54,32,48,58,50],[109,111,100,101,32,48,32,49],[109,111,100,101,32,49,32,50],[109,111,100,101,32,48,32,49,32,50],[101,100,103,101,32,48,32,49,32,105,100,108,101],[101,100,103,101,32,49,32,50,32,108,111,110,103,101,115,116],[101,100,103,101,32,50,32,48,32,97,112,97,114,116],[101,100,103,101,32,48,32,50,32,97,112,97,114,116]]
abbrev Ay:List (List UInt8):=[[98,111,111,116],[111,102,102,101,114,32,48,32,50],[114,101,113,117,101,115,116,32,49],[116,105,99,107,32,50,48],[114,101,113,117,101,115,116,32,50],[116,105,99,107,32,53,48],[114,101,113,117,101,115,116,32,48],[116,105,99,107,32,57,57]]
theorem Tg(a b c:Nat):C8 (nq a b c)=fQ wv:=(show C8 (nq a b c)=C8 (nq 0 0 0)from rfl).trans (by decide+kernel)
def eA(i:Nat):xj:=⟨if i=0 then 0 else 1,vu.take (i-1),rG.take (i-4),tM.take (i-7)⟩
theorem aa0:pieces [114,101,115,32,49]=[[114,101,115],[49]]:=by decide+kernel
theorem aa1:pieces [116,97,115,107,32,49,48,32,49,48,32,50,32,48,58,49]=[[116,97,115,107],[49,48],[49,48],[50],[48,58,49]]:=by decide+kernel
theorem aa2:pieces [116,97,115,107,32,50,48,32,49,56,32,53]=[[116,97,115,107],[50,48],[49,56],[53]]:=by decide+kernel
theorem aa3:pieces [116,97,115,107,32,52,48,32,52,48,32,54,32,48,58,50]=[[116,97,115,107],[52,48],[52,48],[54],[48,58,50]]:=by decide+kernel
theorem aa4:pieces [109,111,100,101,32,48,32,49]=[[109,111,100,101],[48],[49]]:=by decide+kernel
theorem aa5:pieces [109,111,100,101,32,49,32,50]=[[109,111,100,101],[49],[50]]:=by decide+kernel
theorem aa6:pieces [109,111,100,101,32,48,32,49,32,50]=[[109,111,100,101],[48],[49],[50]]:=by decide+kernel
theorem aa7:pieces [101,100,103,101,32,48,32,49,32,105,100,108,101]=[[101,100,103,101],[48],[49],[105,100,108,101]]:=by decide+kernel
theorem aa8:pieces [101,100,103,101,32,49,32,50,32,108,111,110,103,101,115,116]=[[101,100,103,101],[49],[50],[108,111,110,103,101,115,116]]:=by decide+kernel
theorem aa9:pieces [101,100,103,101,32,50,32,48,32,97,112,97,114,116]=[[101,100,103,101],[50],[48],[97,112,97,114,116]]:=by decide+kernel
theorem Zz:pieces [101,100,103,101,32,48,32,50,32,97,112,97,114,116]=[[101,100,103,101],[48],[50],[97,112,97,114,116]]:=by decide+kernel
theorem aba:im (decide (0=0)) (pieces [114,101,115,32,49]) (eA 0) (eA 1):=by
  rw [aa0]
  exact im.cG (dN:=eA 0) (kE (by decide+kernel))
theorem abb:im (decide (1=0)) (pieces [116,97,115,107,32,49,48,32,49,48,32,50,32,48,58,49]) (eA 1) (eA 2):=by
  rw [aa1]
  exact im.G3 (dN:=eA 1) (j:=1) (kE (by decide+kernel)) (kE (by decide+kernel)) (kE (by decide+kernel)) (by decide+kernel) (by decide) (by decide) (kE (by decide+kernel)) (kE (by decide+kernel)) (by decide+kernel) (by decide+kernel)
theorem abc:im (decide (2=0)) (pieces [116,97,115,107,32,50,48,32,49,56,32,53]) (eA 2) (eA 3):=by
  rw [aa2]
  exact im.NA (dN:=eA 2) (kE (by decide+kernel)) (kE (by decide+kernel)) (kE (by decide+kernel))
theorem abd:im (decide (3=0)) (pieces [116,97,115,107,32,52,48,32,52,48,32,54,32,48,58,50]) (eA 3) (eA 4):=by
  rw [aa3]
  exact im.G3 (dN:=eA 3) (j:=1) (kE (by decide+kernel)) (kE (by decide+kernel)) (kE (by decide+kernel)) (by decide+kernel) (by decide) (by decide) (kE (by decide+kernel)) (kE (by decide+kernel)) (by decide+kernel) (by decide+kernel)
theorem abe:im (decide (4=0)) (pieces [109,111,100,101,32,48,32,49]) (eA 4) (eA 5):=by
  rw [aa4]
  have h:=im.mode (l:=[[48],[49]]) (dN:=eA 4) (GD (by decide+kernel))
  rw [show lM ([[109,111,100,101],[48],[49]]) _=3#32 by decide+kernel]at h
  exact h
theorem abf:im (decide (5=0)) (pieces [109,111,100,101,32,49,32,50]) (eA 5) (eA 6):=by
  rw [aa5]
  have h:=im.mode (l:=[[49],[50]]) (dN:=eA 5) (GD (by decide+kernel))
  rw [show lM ([[109,111,100,101],[49],[50]]) _=6#32 by decide+kernel]at h
  exact h
theorem abg:im (decide (6=0)) (pieces [109,111,100,101,32,48,32,49,32,50]) (eA 6) (eA 7):=by
  rw [aa6]
  have h:=im.mode (l:=[[48],[49],[50]]) (dN:=eA 6) (GD (by decide+kernel))
  rw [show lM ([[109,111,100,101],[48],[49],[50]]) _=7#32 by decide+kernel]at h
  exact h
theorem abh:im (decide (7=0)) (pieces [101,100,103,101,32,48,32,49,32,105,100,108,101]) (eA 7) (eA 8):=by
  rw [aa7]
  exact im.oQ (dN:=eA 7) (hZ:=1) (kE (by decide+kernel)) (kE (by decide+kernel)) (by decide)
theorem abi:im (decide (8=0)) (pieces [101,100,103,101,32,49,32,50,32,108,111,110,103,101,115,116]) (eA 8) (eA 9):=by
  rw [aa8]
  exact im.oQ (dN:=eA 8) (hZ:=2) (kE (by decide+kernel)) (kE (by decide+kernel)) (by decide)
theorem abj:im (decide (9=0)) (pieces [101,100,103,101,32,50,32,48,32,97,112,97,114,116]) (eA 9) (eA 10):=by
  rw [aa9]
  exact im.oQ (dN:=eA 9) (hZ:=3) (kE (by decide+kernel)) (kE (by decide+kernel)) (by decide)
theorem ZA:im (decide (10=0)) (pieces [101,100,103,101,32,48,32,50,32,97,112,97,114,116]) (eA 10) (eA 11):=by
  rw [Zz]
  exact im.oQ (dN:=eA 10) (hZ:=3) (kE (by decide+kernel)) (kE (by decide+kernel)) (by decide)
theorem ZB(i:Nat):(eA i).bf.length≤1000∧(eA i).eT.length≤1000∧(eA i).es.length≤1000:=by
  have ab:(vu.take (i-1)).length≤vu.length:=by rw [List.length_take];omega
  have af:(rG.take (i-4)).length≤rG.length:=by rw [List.length_take];omega
  have az:(tM.take (i-7)).length≤tM.length:=by rw [List.length_take];omega
  exact⟨Nat.le_trans ab (by decide),Nat.le_trans af (by decide),Nat.le_trans az (by decide)⟩
theorem Xl:∀(i:Nat) q,wv[i]?=some q→im (decide (i=0)) (pieces q) (eA i) (eA (i+1))∧(eA i).bf.length≤1000∧(eA i).eT.length≤1000∧(eA i).es.length≤1000:=by
 intro i q bP
 refine⟨?_,ZB i⟩
 match i,bP with
 |0,bP=>cases bP;exact aba
 |1,bP=>cases bP;exact abb
 |2,bP=>cases bP;exact abc
 |3,bP=>cases bP;exact abd
 |4,bP=>cases bP;exact abe
 |5,bP=>cases bP;exact abf
 |6,bP=>cases bP;exact abg
 |7,bP=>cases bP;exact abh
 |8,bP=>cases bP;exact abi
 |9,bP=>cases bP;exact abj
 |10,bP=>cases bP;exact ZA
 |n+11,bP=>exact absurd (List.getElem?_eq_some_iff.1 bP).1 (by show¬n+11<11;omega)
theorem Xm:∀d∈tM,d 2=3→∀k∈bj (eY g1 d),0≤k∧k<16:=by decide+kernel
theorem abk:(oq (nq 0 0 0)).map gj=k2:=by decide+kernel
theorem Xn{aq:ao B}(bc:dL aq)(aD:dS aq):aS B 23 [str (fQ wv)] [aq] (fun v S=>∃a:ai (BitVec 32),(a.l=k2∧a.Own)∧v= .tuple #[aw a,.nilIface]∧S=[cK a,aq]):=by
 refine Xb wv (by decide+kernel) (by decide+kernel) (by decide+kernel) bu eA rfl Xl k2 ?_ bc aD
 intro x ab af az a5
 have ab:x.cG=1:=ab
 have af:x.aG.l=vu:=af
 have az:x.ba.l=rG:=az
 have a5:x.a0.l=tM:=a5
 have bg:x.c=g1:=by show(⟨x.cG,x.aG.l,x.ba.l.map kq,x.a0.l⟩:dG)=g1;rw [ab,af,az,a5];rfl
 have hw:oq x=oq (nq 0 0 0):=by
  have e:pd x=pd (nq 0 0 0):=by
   funext d;unfold pd;rw [bg];rfl
  unfold oq;rw [ab,af,az,a5,e];rfl
 refine⟨by rw [bg];exact xx GA,fun m hm=>?_,fun d Qc yo k aj=>?_,by rw [hw];decide+kernel,by rw [hw];exact abk⟩
 ·rw [az]at hm
  simp only [rG,List.mem_cons,List.not_mem_nil,or_false]at hm
  rcases hm with rfl|rfl|rfl<;>rfl
 rw [a5]at Qc;rw [bg]at aj
 have:=Xm d Qc yo k aj
 exact⟨k.toNat,by omega,by omega⟩
theorem OF:sx (pieces [98,111,111,116]) 15=true∧p0[0]?=some (nY (pieces [98,111,111,116]) 15):=by decide+kernel
theorem OG:sx (pieces [111,102,102,101,114,32,48,32,50]) 2=true∧p0[1]?=some (nY (pieces [111,102,102,101,114,32,48,32,50]) 2):=by decide+kernel
theorem OH:sx (pieces [114,101,113,117,101,115,116,32,49]) 3=true∧p0[2]?=some (nY (pieces [114,101,113,117,101,115,116,32,49]) 3):=by decide+kernel
theorem OI:sx (pieces [116,105,99,107,32,50,48]) 1=true∧p0[3]?=some (nY (pieces [116,105,99,107,32,50,48]) 1):=by decide+kernel
theorem OJ:sx (pieces [114,101,113,117,101,115,116,32,50]) 3=true∧p0[4]?=some (nY (pieces [114,101,113,117,101,115,116,32,50]) 3):=by decide+kernel
theorem OK:sx (pieces [116,105,99,107,32,53,48]) 1=true∧p0[5]?=some (nY (pieces [116,105,99,107,32,53,48]) 1):=by decide+kernel
theorem OL:sx (pieces [114,101,113,117,101,115,116,32,48]) 3=true∧p0[6]?=some (nY (pieces [114,101,113,117,101,115,116,32,48]) 3):=by decide+kernel
theorem OM:sx (pieces [116,105,99,107,32,57,57]) 1=true∧p0[7]?=some (nY (pieces [116,105,99,107,32,57,57]) 1):=by decide+kernel
theorem U8:aS B 24 [str (fQ Ay)] [] (fun v S=>∃a:ai nG,(a.l=p0∧a.Own)∧v= .tuple #[aw a,U 0,U 0]∧S=[s9 a]):=by
 refine W9 Ay (by decide+kernel) (by decide+kernel) (by decide+kernel) p0 rfl bu ?_
 intro i q bP
 match i,bP with
 |0,bP=>cases bP;exact⟨15,uJ OF.1,OF.2⟩
 |1,bP=>cases bP;exact⟨2,uJ OG.1,OG.2⟩
 |2,bP=>cases bP;exact⟨3,uJ OH.1,OH.2⟩
 |3,bP=>cases bP;exact⟨1,uJ OI.1,OI.2⟩
 |4,bP=>cases bP;exact⟨3,uJ OJ.1,OJ.2⟩
 |5,bP=>cases bP;exact⟨1,uJ OK.1,OK.2⟩
 |6,bP=>cases bP;exact⟨3,uJ OL.1,OL.2⟩
 |7,bP=>cases bP;exact⟨1,uJ OM.1,OM.2⟩
 |n+8,bP=>exact absurd (List.getElem?_eq_some_iff.1 bP).1 (by show¬n+8<8;omega)
theorem Xo{aq:ao B}(bc:dL aq)(aD:dS aq):aS B 8 [str (fQ wv),str (fQ Ay)] [aq] (fun v S=>∃out:List UInt8,out.length≤4000000000∧v= .tuple #[str (out++(DL++[10])),.nilIface]):=
  Xc (fQ wv) (fQ Ay) k2 p0 (by decide) (Xn bc aD) U8 (y3 aq) (fun a ab af=>aaZ bc aD a ab af) (fun q i x S ab af=>adq bc aD q i x S ab af) DL (by decide+kernel) (fun q S h=>Zy q S h)
theorem Xp:fQ Ay=[98,111,111,116,10,111,102,102,101,114,32,48,32,50,10,114,101,113,117,101,115,116,32,49,10,116,105,99,107,32,50,48,10,114].append [101,113,117,101,115,116,32,50,10,116,105,99,107,32,53,48,10,114,101,113,117,101,115,116,32,48,10,116,105,99,107,32,57,57,10]:=by decide+kernel
theorem abl(a b c:Nat):∀m∈(nq a b c).ba.l,m.q.l=[]:=fun m hm=>by
  have h:m∈rG:=hm
  simp only [rG,List.mem_cons,List.not_mem_nil,or_false]at h
  rcases h with rfl|rfl|rfl<;>rfl
theorem Xq:aS B 33 [.bool false] [] (fun v S=>∃a b c:Nat,v=(nq a b c).v∧S=[all (x6 (nq a b c))]):=by
 refine gB three ?_
 rintro v S ⟨a,b,c,rfl,rfl⟩
 exact⟨_,[all (x6 (nq a b c))],[],jv (l:=x6 (nq a b c)) (show Take (x6 (B:=B) (nq a b c)) (x6 (nq a b c)) []from Take.self _),Take.self _,a,b,c,rfl,rfl⟩
theorem U9{aq:ao B}(bc:dL aq)(aD:dS aq):aS B 8 [str (fQ wv),str ([98,111,111,116,10,111,102,102,101,114,32,48,32,50,10,114,101,113,117,101,115,116,32,49,10,116,105,99,107,32,50,48,10,114].append [101,113,117,101,115,116,32,50,10,116,105,99,107,32,53,48,10,114,101,113,117,101,115,116,32,48,10,116,105,99,107,32,57,57,10])] [aq] (fun v S=>∃out:List UInt8,out.length≤4000000000∧v= .tuple #[str (out++[111,110,32,49,54,57,32,109,111,100,101,32,48,32,108,97,116,101,32,48,32,105,109,97,103,101,32,49,10]),.nilIface]∧S=[aq]):=by
 have h:=(dQ.frame (Xo bc aD) [aq]).dup (.here _ _) aD
 rw [Xp]at h
 refine gB h ?_
 rintro v S ⟨aP,rfl,out,ap,rfl⟩
 rw [U7]
 exact⟨_,[aq],_,fun _ _ h=>h,.cons (Out.fu (.here _ _)) (.nil _),out,ap,rfl,rfl⟩
theorem ZC{aq:ao B}(bc:dL aq)(aD:dS aq):aS B 9 [] [aq] (fun v S=>v= .bool true∧S=[aq]):=by
 refine bD 17 Tryz.func9 fun a4 ax=>?_
 refine cA (Xq) ?_
 rintro _ _ ⟨a,b,c,rfl,rfl⟩
 simp only [List.cons_append,List.nil_append]
 refine dA (sprint (nq a b c) (UU a b c) (abl a b c) (by show 3≤60;decide) (by show 3≤60;decide) (by show 4≤60;decide)) ?_
 rw [Tg]
 refine ah ?_
 refine cA (U9 bc aD) ?_
 rintro _ _ ⟨out,ap,rfl,rfl⟩
 simp only [List.cons_append,List.nil_append]
 refine ct ?_
 refine bH (str (out++[111,110,32,49,54,57,32,109,111,100,101,32,48,32,108,97,116,101,32,48,32,105,109,97,103,101,32,49,10])) ?_
 refine bH .nilIface ?_
 refine ah ?_
 refine aA (U3 rfl MT) ?_
 refine ah ?_
 refine e1 (Zo out [111,110,32,49,54,57,32,109,111,100,101,32,48,32,108,97,116,101,32,48,32,105,109,97,103,101,32,49,10] (by simp only [List.length_append,List.length_cons,List.length_nil];omega)) ?_
 exact bA
end Go.Proofs.YtkpibibplbjciaaGreatDoor
