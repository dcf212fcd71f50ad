/- The given statement WholeSafeCardSaid is proved: whatever image a text says and whatever a script has it do, no line of the run tells a late job, and the last line counts none. Conditions: texts of at most 4,000 bytes, at most 40 steps, 3,000 ticks, as the statement itself says them; none beside. -/
import Derived.Test.YtkpibibplbjciaaGreatDoorSQ7
import Derived.Test.YtkpibibplbjciaaGreatDoorRows
import Derived.Test.YtkpibibplbjciaaGreatDoorTie
import Derived.Test.YtkpibibplbjciaaGreatDoorCards
import Derived.SevenTiedAt
import Derived.LaidMore
set_option linter.unusedVariables false
set_option linter.unusedSectionVars false
set_option linter.unusedSimpArgs false
section
namespace Go.Proofs.YtkpibibplbjciaaGreatDoor
open Go Go.Sl Go.ChangeShapes Go.WideShapes Go.ChangeAt Go.RowKit
abbrev ag0:Nat:=405
theorem ai5:Tryz.prog.underlying 3=some (.int .i64):=by kernel_rfl
theorem own:ownKnob Tryz.prog.godebug=none:=by kernel_rfl
theorem laidOut:laidOutB Tryz.prog=true:=by kernel_rfl
abbrev A2:List (String×DataW Unit):=[("math/bits.deBruijn32tab",Rows.laid_math_bits_deBruijn32tab)]
set_option maxRecDepth 100000 in
theorem aaY{W:World}(h:laidMetH Tryz.prog A2 W):dI (D8 (B:=W.heap.size) W) ⟨0,0,none⟩ (rZ.map fun m=> .int .u8 m):=by
  rw [MakeChecks.laidMetH_plain _ _ _ (by kernel_rfl)]at h
  rw [show A2=[("math/bits.deBruijn32tab",.agg (rZ.map fun m=> .lit (.int .u8 m)))]from by kernel_rfl]at h
  exact XL (cl:=rZ) (t:=ag0) (len:=32) (e:=5) (k:= .u8) (by kernel_rfl) (by kernel_rfl) (by kernel_rfl) (by kernel_rfl) (by kernel_rfl) (by decide) h
theorem Y1(os:Os)(args:Array Value):laidMetH Tryz.prog A2 ((World.doorLaid Tryz.prog 400 os).forCall (fun _ _=>0) ⟨#[],args,[]⟩).memory:=
  laidMetH_of_parts3 (fuel:=8) (laidMet_of_run' 8 (by kernel_rfl) (by kernel_rfl)) (by kernel_rfl) (by kernel_rfl)
set_option maxRecDepth 100000 in
theorem V5(W:World)(args:Array Value)(eM:laidMetH Tryz.prog A2 W)(h:C6 Tryz.prog W Tryz.f3.params.toList args.toList):Calls Tryz.prog 3 args W fun e ca=>e= .returned (.bool true)∧Go.RowKit.Below W.heap.size W ca:=by
  rw [show Tryz.f3.params.toList=[9,9]from by kernel_rfl]at h
  obtain⟨args⟩:=args
  match args,h with
  |[gW,v1],h=>
    have bO:=aaY eM
    obtain⟨dZ,dk,_⟩:=h
    obtain⟨aW,rfl⟩:=Nx Ts dZ
    obtain⟨⟨e3⟩⟩:=aW
    obtain⟨ep,rfl⟩:=Nx Ts dk
    obtain⟨⟨ek⟩⟩:=ep
    exact XI (XJ W) ((aft e3 ek bO (Y6 W)).mono fun _ _ h=>h.1)
set_option maxRecDepth 100000 in
theorem V0(os:Os)(started:os.Started)(H:Type)(a2:TypeId×Value→H):
    ReturnsInHanded {} Tryz.checked os 3 .any (fun w args=>(Rows.wholeSafeSpec.pre a2 Tryz.prog Tryz.f3 [] false w args∧laidMetH Tryz.prog A2 w)∧sizedMet a2 Tryz.prog Tryz.f3 (OpenSpec.ofChange Rows.wholeSafeSpec) false w args) (Rows.wholeSafeSpec.post a2 Tryz.prog Tryz.f3 false true false false):=
  Y4 (C:=Tryz.checked) (w0:=4) own started (by kernel_rfl) Tryz.func3 laidOut (by kernel_rfl) rfl
    (fun ao h=>by
      have h:ao.length=2:=h
      match ao,h with
      |[_,_],_=>exact⟨rfl,rfl,rfl⟩) (by kernel_rfl) (by kernel_rfl)
    (ChangeSpec.witness_shaped (enc:=a2) (C:=Tryz.checked) (os:=os) (X:=fun w _=>laidMetH Tryz.prog A2 w) false (World.doorLaid Tryz.prog 400 os) #[.string ByteArray.empty,.string ByteArray.empty] 8 rfl (World.shaped_of_RefB (by kernel_rfl) (by kernel_rfl)) (by kernel_rfl) (by kernel_rfl) (by kernel_rfl) (Y1 os _))
    (fun W args eM h=>V5 W args eM h)
theorem adi{a b:Bool}(a5:a=true)(aR:b=true):(a&&b)=true:=by rw [a5,aR];rfl
theorem R5:Tryz.checked.prog.funcNamed "remontoir/remontoirtop.WholeSafe"=some 3:=by kernel_rfl
set_option maxRecDepth 100000 in
set_option maxHeartbeats 4000000 in
theorem aaZ:joinedFacts Tryz.checked.prog 3 Tryz.f3 Rows.wholeSafeSpec Rows.wholeSafeRow=true:=by
  unfold joinedFacts
  repeat' with_reducible apply adi
  all_goals(as_aux_lemma=>kernel_rfl)
theorem V6:Rows.WholeSafeSaid:=
  OpenClaim.holds_of_wide 3 Tryz.f3 rfl rfl rfl rfl rfl rfl rfl ⟨rfl,rfl,rfl,rfl,rfl⟩ rfl rfl rfl rfl rfl R5 Tryz.func3 aaZ
    (of_decide_eq_true (by kernel_rfl)) (by unfold Func.isWrapper;first|(rw [if_pos (by decide+kernel)];kernel_rfl)|(rw [if_neg (by decide+kernel)];exact⟨rfl,rfl⟩))
    (fun os started H a2 _=>V0 os started H a2)
theorem provedWholeSafe:Rows.WholeSafeCardSaid:=
  Claim7.holds_tied_plain_at .later [] [.data] true (true,"fb9d97bdac140702ff715c475432bf0c7d4b2cbc618c5e23a6e49960582f2dff") false
    V6 (fun _ h=>by cases h) (by kernel_rfl) (fun _ h=>by cases h) wholeSafe_row_tie rfl ⟨rfl,rfl⟩ (by kernel_rfl) rfl
    (fun f fn bs L6=>by
      obtain rfl:f=3:=Option.some.inj (R5.symm.trans bs)|>.symm
      obtain rfl:fn=Tryz.f3:=(Option.some.inj (Tryz.func3.symm.trans L6)).symm
      exact⟨by kernel_rfl,fun j t aL=>by
        have aL:t∈Tryz.f3.params.toList:=by simpa using Array.mem_of_getElem? aL
        rw [show Tryz.f3.params.toList=[9,9]from by kernel_rfl]at aL
        have lu:([9,9].all fun u=>!Tryz.prog.wantsStandIn u)=true:=by kernel_rfl
        exact(show Tryz.prog.wantsStandIn t=false by simpa using List.all_eq_true.1 lu t aL)⟩)
    (by kernel_rfl)
#print axioms provedWholeSafe
end Go.Proofs.YtkpibibplbjciaaGreatDoor
end
