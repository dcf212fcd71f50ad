/- The given statement WholeAgainCardSaid is proved: in whichever operation of an update the power goes, and once more at the next boot, the old image or the new one runs then, word by word, and the update can be done again. Conditions: two images that are admitted, as the statement itself says them; none beside. -/
import Derived.Test.YtkpibibplbjciaaGreatDoorAQ6
import Derived.Test.YtkpibibplbjciaaGreatDoorRows
import Derived.Test.YtkpibibplbjciaaGreatDoorTie
import Derived.Test.YtkpibibplbjciaaGreatDoorCards
import Derived.SevenTiedAt
import Derived.LaidMore
set_option linter.unusedVariables false
set_option linter.unusedSectionVars false
set_option linter.unusedSimpArgs false
section
namespace Go.Proofs.YtkpibibplbjciaaGreatDoor
open Go Go.Sl Go.ChangeShapes Go.WideShapes Go.ChangeAt Go.RowKit
abbrev abm:Nat:=405
theorem Xr:Tryz.prog.underlying 3=some (.int .i64):=by kernel_rfl
theorem Va:kR Tryz.prog 12 173=some [some .i64,some .i64,some .i64,some .i64,some .i64,some .i64,some .i64,some .i64,some .i64,some .i64,some .i64]:=by kernel_rfl
theorem Vb:kR Tryz.prog 12 180=some [some .i64,some .i64]:=by kernel_rfl
theorem Vc:kR Tryz.prog 12 184=some [some .i64,some .i64,some .i64,some .i64,some .i64,some .i64,some .i64,some .i64,some .i64,some .i64,some .i64,some .i64,some .i64,some .i64,some .i64,some .i64,some .i64,some .i64,some .i64,some .i64,some .i64,some .i64,some .i64]:=by kernel_rfl
theorem agx:kR Tryz.prog 12 45=some [some .i64,some .u32,some .i64,some .u32]:=by kernel_rfl
theorem Vd:(Tryz.prog.info? 173).map (·.size)=some 11:=by kernel_rfl
theorem Ve:(Tryz.prog.info? 184).map (·.size)=some 23:=by kernel_rfl
theorem abn:(Tryz.prog.info? 180).map (·.size)=some 2:=by kernel_rfl
theorem Th:hz Tryz.prog 37=some (173,11):=by kernel_rfl
theorem Ti:hz Tryz.prog 38=some (177,2):=by kernel_rfl
theorem Tj:hz Tryz.prog 39=some (184,23):=by kernel_rfl
theorem ZD:hz Tryz.prog 175=some (180,2):=by kernel_rfl
theorem Vf:yp Tryz.prog 41=some [3,37,38,39]:=by kernel_rfl
theorem Tk:yp Tryz.prog 177=some [42,175]:=by kernel_rfl
theorem Xt:Tryz.prog.underlying 42=some (.int .u32):=by kernel_rfl
theorem FB{W:World}{n t k:Nat}{H:Type}{aW:TypeId×Value→H}{au:List Value}{x:DataW H×List MemPlace}{cP:List (Option IntKind)}(h:kR Tryz.prog 12 t=some cP)(ak:(Tryz.prog.info? t).map (·.size)=some cP.length)(oG:(Nat→Int)→List Value)(he:∀e:Nat→Int,qz e 0 cP=oG fun i=>if i<k then e i else 0)(av:DataW.trod aW Tryz.prog W 0 (fun _=>true) true n t au=some x):∃e:Nat→Int,au=oG e∧∀i,k≤i→e i=0:=by
  obtain⟨e,ab,_⟩:=Ke h ak av
  exact⟨fun i=>if i<k then e i else 0,ab.trans (he e),fun i ak=>if_neg (by omega)⟩
theorem LV{W:World}{v:Value}(h:Dd Tryz.prog W 41 v):∃x:bQ,v=x.v∧x.In (uX (B:=W.heap.size) W)∧Can x.c:=by
  obtain⟨H,aW,au,rfl,yP,jY,rfl,⟨kC,qS,b0⟩,kd,bY,rfl,⟨iA,xk,ab⟩,gk,bK,rfl,⟨nJ,y1,af⟩,kN,eu,rfl,⟨yS,y2,az⟩,rfl⟩:=QX Vf h
  obtain⟨cG,rfl,_,_⟩:=DataW.trod_int Xr b0
  obtain⟨ad4,rfl,t1,t2⟩:=ai.Co (oG:=cg) (ok:=Hm) Th (by decide) ab (fun n au x av=>FB Va Vd cg (fun _=>rfl) av)
  obtain⟨bo,rfl,dc,dd⟩:=ai.Co (oG:=cS) (ok:=Hn) Tj (by decide) az (fun n au x av=>FB Vc Ve cS (fun _=>rfl) av)
  obtain⟨gP,rfl,m3,tJ⟩:=ai.Co (oG:=eI) (ok:=fun m=>c1 (uX (B:=W.heap.size) W) m.q.bl (m.q.l.flatMap kt)∧∀y∈m.q.l,Al y) Ti (by decide) af (fun n au x av=>by
    obtain⟨yP,jY,rfl,⟨kC,qS,b0⟩,kd,bY,rfl,⟨iA,xk,ab⟩,rfl⟩:=Jh Tk av
    obtain⟨b,rfl,_,bb⟩:=DataW.trod_int Xt b0
    obtain⟨b,rfl⟩:=Vo bb
    obtain⟨q,rfl,bY,bK⟩:=ai.Co (oG:=kt) (ok:=Al) ZD (by decide) ab (fun n au x av=>FB Vb abn kt (fun _=>rfl) av)
    exact⟨⟨b,q⟩,rfl,bK,bY⟩)
  refine⟨⟨cG,ad4,gP,bo⟩,rfl,⟨t2,tJ,dd,fun m hm=>(m3 m hm).1⟩,⟨t1,fun p aE=>?_,dc⟩⟩
  obtain⟨m,hm,rfl⟩:=List.mem_map.1 aE
  exact(m3 m hm).2
theorem Xu:(Tryz.prog.info? 45).map (·.size)=some 4:=by kernel_rfl
theorem own:ownKnob Tryz.prog.godebug=none:=by kernel_rfl
theorem laidOut:laidOutB Tryz.prog=true:=by kernel_rfl
abbrev x9:List (String×DataW Unit):=[("math/bits.deBruijn32tab",Rows.laid_math_bits_deBruijn32tab)]
set_option maxRecDepth 100000 in
theorem Vg{W:World}(h:laidMetH Tryz.prog x9 W):c1 (uX (B:=W.heap.size) W) ⟨0,0,none⟩ (q2.map fun m=> .int .u8 m):=by
  rw [MakeChecks.laidMetH_plain _ _ _ (by kernel_rfl)]at h
  rw [show x9=[("math/bits.deBruijn32tab",.agg (q2.map fun m=> .lit (.int .u8 m)))]from by kernel_rfl]at h
  exact Sb (cY:=q2) (t:=abm) (len:=32) (e:=5) (k:= .u8) (by kernel_rfl) (by kernel_rfl) (by kernel_rfl) (by kernel_rfl) (by kernel_rfl) (by decide) h
theorem Tl(os:Os)(args:Array Value):laidMetH Tryz.prog x9 ((World.doorLaid Tryz.prog 400 os).forCall (fun _ _=>0) ⟨#[],args,[]⟩).memory:=
  laidMetH_of_parts3 (fuel:=8) (laidMet_of_run' 8 (by kernel_rfl) (by kernel_rfl)) (by kernel_rfl) (by kernel_rfl)
set_option maxRecDepth 100000 in
theorem agk(W:World)(args:Array Value)(eL:laidMetH Tryz.prog x9 W)(h:zz Tryz.prog W Tryz.f4.params.toList args.toList):Calls Tryz.prog 4 args W fun e b3=>e= .returned (.bool true)∧Go.RowKit.Below W.heap.size W b3:=by
  rw [show Tryz.f4.params.toList=[41,41,45]from by kernel_rfl]at h
  obtain⟨args⟩:=args
  match args,h with
  |[dY,v1,v2],h=>
    have bc:=Vg eL
    obtain⟨dv,cE,c2,_⟩:=h
    obtain⟨x,rfl,av,I4⟩:=LV dv
    obtain⟨y,rfl,aZ,I5⟩:=LV cE
    obtain⟨e,rfl,br⟩:=Sa agx Xu (by kernel_rfl) c2
    obtain⟨Tz,b0⟩:=Vo br.2.1
    obtain⟨s1,ab⟩:=Vo br.2.2.2.1
    rw [show(qz e 0 [some .i64,some .u32,some .i64,some .u32])=[.int .i64 (e 0),.int .u32 Tz.toNat,.int .i64 (e 2),.int .u32 s1.toNat]by rw [←b0, ←ab];rfl]
    exact R6 (R7 W) ((((((agm x y av aZ I4 I5 (e 0) Tz (e 2) s1 (afU br.1).2 (afU br.2.2.1).2 bc (Cq W) (ZC bc (Cq W))).mono fun _ _ h=>(⟨h,trivial⟩:_∧True))).dup (.here _ _) (Cq W)).dup (.here _ _) (Cq W)).mono fun _ _ h=>h.1)
set_option maxRecDepth 100000 in
theorem agj(os:Os)(started:os.Started)(H:Type)(aW:TypeId×Value→H):
    ReturnsInHanded {} Tryz.checked os 4 .any (fun w args=>(Rows.wholeAgainSpec.pre aW Tryz.prog Tryz.f4 [] false w args∧laidMetH Tryz.prog x9 w)∧sizedMet aW Tryz.prog Tryz.f4 (OpenSpec.ofChange Rows.wholeAgainSpec) false w args) (Rows.wholeAgainSpec.post aW Tryz.prog Tryz.f4 false true false false):=
  Tp (C:=Tryz.checked) (w7:=4) own started (by kernel_rfl) Tryz.func4 laidOut (by kernel_rfl) rfl
    (fun an h=>by
      have h:an.length=3:=h
      match an,h with
      |[_,_,_],_=>exact⟨rfl,rfl,rfl⟩) (by kernel_rfl) (by kernel_rfl)
    (ChangeSpec.witness_shaped (enc:=aW) (C:=Tryz.checked) (os:=os) (X:=fun w _=>laidMetH Tryz.prog x9 w) false (World.doorLaid Tryz.prog 400 os) #[.agg #[.int .i64 0,.slice none 0 0,.slice none 0 0,.slice none 0 0],.agg #[.int .i64 0,.slice none 0 0,.slice none 0 0,.slice none 0 0],.agg #[.int .i64 0,.int .u32 0,.int .i64 0,.int .u32 0]] 8 rfl (World.shaped_of_RefB (by kernel_rfl) (by kernel_rfl)) (by kernel_rfl) (by kernel_rfl) (by kernel_rfl) (Tl os _))
    (fun W args eL h=>agk W args eL h)
theorem Xv{a b:Bool}(aO:a=true)(bb:b=true):(a&&b)=true:=by rw [aO,bb];rfl
theorem af1:Tryz.checked.prog.funcNamed "remontoir/remontoirtop.WholeAgain"=some 4:=by kernel_rfl
set_option maxRecDepth 100000 in
set_option maxHeartbeats 4000000 in
theorem agt:joinedFacts Tryz.checked.prog 4 Tryz.f4 Rows.wholeAgainSpec Rows.wholeAgainRow=true:=by
  unfold joinedFacts
  repeat' with_reducible apply Xv
  all_goals(as_aux_lemma=>kernel_rfl)
theorem agl:Rows.WholeAgainSaid:=
  OpenClaim.holds_of_wide 4 Tryz.f4 rfl rfl rfl rfl rfl rfl rfl ⟨rfl,rfl,rfl,rfl,rfl⟩ rfl rfl rfl rfl rfl af1 Tryz.func4 agt
    (of_decide_eq_true (by kernel_rfl)) (by unfold Func.isWrapper;first|(rw [if_pos (by decide+kernel)];kernel_rfl)|(rw [if_neg (by decide+kernel)];exact⟨rfl,rfl⟩))
    (fun os started H aW _=>agj os started H aW)
theorem provedWholeAgain:Rows.WholeAgainCardSaid:=
  Claim7.holds_tied_plain_at .later [] [.data] true (true,"fb9d97bdac140702ff715c475432bf0c7d4b2cbc618c5e23a6e49960582f2dff") false
    agl (fun _ h=>by cases h) (by kernel_rfl) (fun _ h=>by cases h) wholeAgain_row_tie rfl ⟨rfl,rfl⟩ (by kernel_rfl) rfl
    (fun f fn br HL=>by
      obtain rfl:f=4:=Option.some.inj (af1.symm.trans br)|>.symm
      obtain rfl:fn=Tryz.f4:=(Option.some.inj (Tryz.func4.symm.trans HL)).symm
      exact⟨by kernel_rfl,fun j t aR=>by
        have aR:t∈Tryz.f4.params.toList:=by simpa using Array.mem_of_getElem? aR
        rw [show Tryz.f4.params.toList=[41,41,45]from by kernel_rfl]at aR
        have lb:([41,41,45].all fun u=>!Tryz.prog.wantsStandIn u)=true:=by kernel_rfl
        exact(show Tryz.prog.wantsStandIn t=false by simpa using List.all_eq_true.1 lb t aR)⟩)
    (by kernel_rfl)
#print axioms provedWholeAgain
end Go.Proofs.YtkpibibplbjciaaGreatDoor
end
