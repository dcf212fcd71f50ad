/- Of the proof of WholeSafe. -/
import Derived.Test.YtkpibibplbjciaaGreatDoorSQ2
import Derived.Test.YtkpibibplbjciaaGreatDoorProg
import Derived.WalkKit
import Derived.RangeFuncNested
import Derived.RangeFuncLeaves
import Derived.OrdersIn
import Derived.Shelf.Abstract
import Derived.DeepKeys
import Derived.ProofKit
import Derived.OpenShut
import Derived.ShutString
import Derived.ChangeOld
import Derived.Below
import Derived.Carry
import Derived.Deep.Slices
import Derived.LaidLaws
import Derived.LaidHandle
import Derived.MakeChecks
import Derived.FnData
import Derived.Stop.Joined
import Derived.Laws.OwnMore
import Derived.Laws.AppendOwn
import Derived.Laws.BytesArg
import Derived.Laws.MakeOwn
import Derived.MapKept
import Derived.LoopNIn
import Derived.Maps.RangeRun
import Derived.Laws.CopyRow
import Derived.KernelRfl
import Derived.Lib.Bytealg
import Derived.Lib.IndexLaws
set_option linter.unusedVariables false
set_option linter.unusedSectionVars false
set_option linter.unusedSimpArgs false
namespace Go.Proofs.YtkpibibplbjciaaGreatDoor
open Go Go.Sl
set_option maxRecDepth 4000
variable {B : Nat} {K : ar B}
theorem fF{P:Program}{f:FuncId}(h:Go.Proofs.Enters P f:=by exact qP (by kernel_rfl)):Go.Proofs.Enters P f:=h
abbrev ag(b:Nat):Value:= .pointer (some ⟨b,0,none⟩)
abbrev az{α:Type}(a:an α):Value:= .slice a.bn a.l.length a.c
abbrev aa(n:Int):Value:= .int .i64 n
abbrev ak:Value:= .int .i64 0
abbrev db:Value:= .int .u32 0
abbrev bw:Value:= .slice none 0 0
abbrev aQ(n:Int):Value:= .int .u32 n
abbrev eO{B:Nat}{α:Type}(a:an α)(e s:Nat)(f:α→List Value):ar B:=row (.slice a.bn a.l.length a.c) e s a.l.length (a.l.flatMap f)
abbrev a6(B:Nat):=di Tryz.prog B
abbrev zK:List Value:=[aa 0,aa 0,aa 0,aa 0]
abbrev ajE:List Value:=[aa 0,aa 0,aa 0,aa 0,aa 0]
abbrev ajF:List Value:=[aa 0,aa 0,aa 0,aa 0,aa 0,aa 0]
abbrev ajG:List Value:=[aa 0,aa 0,aa 0,aa 0,aa 0,aa 0,aa 0]
abbrev ahB:List Value:=[aa 0,aa 0,aa 0,aa 0,aa 0,aa 0,aa 0,aa 0]
abbrev wj:List Value:=[aa 0,aa 0,aa 0,aa 0,aa 0,aa 0,aa 0,aa 0,aa 0,aa 0,aa 0]
abbrev ai9:List Value:=[aa 0,aa 0,aa 0,aa 0,aa 0,aa 0,aa 0,aa 0,aa 0,aa 0,aa 0,aa 0,aa 0,aa 0,aa 0,aa 0,aa 0,aa 0,aa 0,aa 0,aa 0,aa 0]
abbrev wk:List Value:=[aa 0,aa 0,aa 0,aa 0,aa 0,aa 0,aa 0,aa 0,aa 0,aa 0,aa 0,aa 0,aa 0,aa 0,aa 0,aa 0,aa 0,aa 0,aa 0,aa 0,aa 0,aa 0,aa 0]
abbrev b1(a b c:Nat):Prop:=bS (rQ Tryz.prog a b) (some c)
abbrev ej(a:Nat)(b:Bool)(c:Nat):Prop:=bS (hA Tryz.prog a) (some (b,c))
instance:bS (hf Tryz.prog 364) (some ([db],[(0,1)])):=aM
instance:bS (hf Tryz.prog 403) (some ([db,db],[(0,1),(1,1)])):=aM
instance:bS (u0 Tryz.prog 42 5) (some .u8):=aM
instance:bS (u0 Tryz.prog 5 42) (some .u32):=aM
instance:bS (Tryz.prog.eqGuardType Tryz.prog.depth 403) (false):=aM
instance:bS (sC Tryz.prog 12 403) (some [some .u32,some .u32]):=aM
instance:b1 271 0 0:=aM
instance:b1 271 1 1:=aM
instance:b1 364 0 0:=aM
instance:b1 403 0 0:=aM
instance:b1 403 1 1:=aM
instance:bS (Tryz.prog.follows .mixedOrders) (true):=aM
instance:ej 3 false 1:=aM
instance:ej 364 true 1:=aM
instance:ej 403 true 2:=aM
instance:ej 42 false 1:=aM
instance:bS (zeroOf Tryz.prog 364) (some [db]):=aM
instance:bS (zeroOf Tryz.prog 403) (some [db,db]):=aM
instance:b1 196 0 0:=aM
instance:b1 196 1 1:=aM
instance:b1 196 3 3:=aM
instance:b1 196 4 4:=aM
instance:b1 196 5 5:=aM
instance:b1 196 6 6:=aM
instance:b1 196 7 8:=aM
instance:b1 52 0 0:=aM
instance:bS (iZ Tryz.prog 102) (some (3,1)):=aM
instance:ej 102 false 1:=aM
instance:ej 4 false 1:=aM
instance:ej 52 true 2:=aM
instance:b1 196 2 2:=aM
instance:b1 52 1 1:=aM
instance:bS (iZ Tryz.prog 46) (some (42,1)):=aM
instance:ej 46 false 1:=aM
instance:bS (jA Tryz.prog 46) (some (42,1,4,[db])):=aM
instance:bS (hf Tryz.prog 196) (some ([ak,ak,bw,bw,.bool false,.bool false,ak,db,ak],[(0,1),(1,1),(2,1),(3,1),(4,1),(5,1),(6,2),(8,1)])):=aM
instance:bS (jA Tryz.prog 102) (some (3,1,8,[ak])):=aM
instance:bS (hf Tryz.prog 276) (some ([db,db,db],[(0,1),(1,1),(2,1)])):=aM
instance:bS (hf Tryz.prog 278) (some ([db,db,db,.bool false,.bool false,ak],[(0,3),(3,1),(4,1),(5,1)])):=aM
instance:b1 278 0 0:=aM
instance:b1 278 1 3:=aM
instance:b1 278 2 4:=aM
instance:b1 278 3 5:=aM
instance:ej 276 true 3:=aM
instance:ej 278 true 6:=aM
instance:ej 401 false 1:=aM
instance:bS (zeroOf Tryz.prog 276) (some [db,db,db]):=aM
instance:bS (zeroOf Tryz.prog 278) (some [db,db,db,.bool false,.bool false,ak]):=aM
instance:bS (zeroOf Tryz.prog 401) (some [.nilFunc]):=aM
instance:bS (oW Tryz.prog 276) true:=aM
instance:bS (hf Tryz.prog 389) (some ([ak,db],[(0,1),(1,1)])):=aM
instance:b1 276 0 0:=aM
instance:b1 276 1 1:=aM
instance:b1 276 2 2:=aM
instance:bS (hf Tryz.prog 273) (some ([.pointer none,ak,ak,.bool false,ak,db,ak],[(0,1),(1,1),(2,1),(3,1),(4,1),(5,2)])):=aM
instance:b1 273 0 0:=aM
instance:b1 273 1 1:=aM
instance:b1 273 2 2:=aM
instance:b1 273 3 3:=aM
instance:b1 273 4 4:=aM
instance:bS (vP Tryz.prog 113) (true):=aM
instance:ej 113 false 1:=aM
instance:bS (u0 Tryz.prog 42 3) (some .i64):=aM
instance:ej 197 false 1:=aM
instance:bS (zeroOf Tryz.prog 4) (some [.bool false]):=aM
instance:ej 271 true 2:=aM
instance:bS (zeroOf Tryz.prog 271) (some [db,ak]):=aM
instance:bS (zeroOf Tryz.prog 46) (some [bw]):=aM
instance:bS (oW Tryz.prog 271) true:=aM
instance:b1 389 0 0:=aM
instance:b1 389 1 1:=aM
instance:ej 389 true 2:=aM
instance:ej 53 false 1:=aM
instance:bS (zeroOf Tryz.prog 389) (some [ak,db]):=aM
instance:bS (zeroOf Tryz.prog 53) (some [ak]):=aM
instance:b1 273 5 5:=aM
instance:bS (u0 Tryz.prog 3 42) (some .u32):=aM
instance:bS (p9 Tryz.prog 198) (some (2,1)):=aM
instance:bS (hf Tryz.prog 124) (some ([ak,db,.bool false,bw],[(0,1),(1,1),(2,1),(3,1)])):=aM
instance:b1 200 1 1:=aM
instance:ej 124 true 4:=aM
instance:bS (zeroOf Tryz.prog 124) (some [ak,db,.bool false,bw]):=aM
instance:bS (oW Tryz.prog 124) true:=aM
instance:bS (A4 Tryz.prog 278 2) (some 4):=aM
instance:b1 200 2 3:=aM
instance:b1 200 0 0:=aM
instance:b1 124 2 2:=aM
instance:bS (ze Tryz.prog 198) (some 2):=aM
instance:bS (A4 Tryz.prog 276 0) (some 0):=aM
instance:bS (Lr Tryz.prog 278 0) (some (0,3)):=aM
instance:ej 198 true 2:=aM
instance:bS (hf Tryz.prog 200) (some ([.pointer none,.pointer none,.pointer none,ak],[(0,1),(1,2),(3,1)])):=aM
instance:bS (p9 Tryz.prog 405) (some (32,1)):=aM
instance:bS (u0 Tryz.prog 5 3) (some .i64):=aM
instance:ej 158 false 1:=aM
instance:ej 5 false 1:=aM
instance:bS (Tryz.prog.underlying 9) (some .string):=aM
instance:b1 177 1 1:=aM
instance:b1 41 1 1:=aM
instance:b1 41 2 2:=aM
instance:b1 41 3 3:=aM
instance:bS (iZ Tryz.prog 175) (some (180,2)):=aM
instance:bS (iZ Tryz.prog 37) (some (173,11)):=aM
instance:bS (iZ Tryz.prog 38) (some (177,2)):=aM
instance:bS (iZ Tryz.prog 39) (some (184,23)):=aM
instance:ej 175 false 1:=aM
instance:ej 37 false 1:=aM
instance:ej 38 false 1:=aM
instance:ej 39 false 1:=aM
instance:bS (ze Tryz.prog 258) (some 8):=aM
instance:bS (ze Tryz.prog 99) (some 8):=aM
instance:bS (p9 Tryz.prog 258) (some (8,1)):=aM
instance:b1 173 3 3:=aM
instance:ej 173 true 11:=aM
instance:ej 258 true 8:=aM
instance:ej 99 true 8:=aM
instance:bS (zeroOf Tryz.prog 258) (some ahB):=aM
instance:bS (zeroOf Tryz.prog 3) (some [ak]):=aM
instance:bS (oW Tryz.prog 258) true:=aM
instance:bS (p9 Tryz.prog 99) (some (8,1)):=aM
instance:bS (hf Tryz.prog 253) (some ([ak,ak,ak,ak,ak,bw],[(0,1),(1,1),(2,1),(3,1),(4,1),(5,1)])):=aM
instance:b1 135 0 0:=aM
instance:b1 135 1 1:=aM
instance:b1 135 2 2:=aM
instance:b1 173 1 1:=aM
instance:b1 173 2 2:=aM
instance:b1 253 2 2:=aM
instance:b1 253 3 3:=aM
instance:b1 253 4 4:=aM
instance:b1 253 5 5:=aM
instance:bS (iZ Tryz.prog 61) (some (135,3)):=aM
instance:bS (jA Tryz.prog 61) (some (135,3,24,[ak,ak,ak])):=aM
instance:ej 135 true 3:=aM
instance:ej 253 true 6:=aM
instance:ej 61 false 1:=aM
instance:bS (zeroOf Tryz.prog 135) (some [ak,ak,ak]):=aM
instance:bS (zeroOf Tryz.prog 253) (some [ak,ak,ak,ak,ak,bw]):=aM
instance:bS (oW Tryz.prog 135) true:=aM
instance:bS (p9 Tryz.prog 255) (some (32,1)):=aM
instance:b1 257 0 0:=aM
instance:b1 257 1 1:=aM
instance:b1 257 2 33:=aM
instance:ej 423 false 1:=aM
instance:b1 253 0 0:=aM
instance:b1 260 2 97:=aM
instance:b1 260 3 131:=aM
instance:bS (p9 Tryz.prog 254) (some (16,6)):=aM
instance:bS (hf Tryz.prog 260) (some ([ak,ak,ak,ak,ak,bw,ak,ak,ak,ak,ak,bw,ak,ak,ak,ak,ak,bw,ak,ak,ak,ak,ak,bw,ak,ak,ak,ak,ak,bw,ak,ak,ak,ak,ak,bw,ak,ak,ak,ak,ak,bw,ak,ak,ak,ak,ak,bw,ak,ak,ak,ak,ak,bw,ak,ak,ak,ak,ak,bw,ak,ak,ak,ak,ak,bw,ak,ak,ak,ak,ak,bw,ak,ak,ak,ak,ak,bw,ak,ak,ak,ak,ak,bw,ak,ak,ak,ak,ak,bw,ak,ak,ak,ak,ak,bw,db,db,db,db,db,db,db,db,db,db,db,db,db,db,db,db,db,db,db,db,db,db,db,db,db,db,db,db,db,db,db,db,db,db,db,ak,ak,ak,ak,ak,ak,ak,ak,ak],[(0,96),(96,1),(97,34),(131,8),(139,1)])):=aM
instance:b1 260 0 0:=aM
instance:b1 260 1 96:=aM
instance:b1 260 4 139:=aM
instance:ej 157 false 1:=aM
instance:bS (hf Tryz.prog 300) (some ([ak,ak,ak,.bool false,ak,.bool false],[(0,1),(1,1),(2,1),(3,1),(4,1),(5,1)])):=aM
instance:b1 253 1 1:=aM
instance:b1 300 1 1:=aM
instance:b1 300 2 2:=aM
instance:b1 300 3 3:=aM
instance:b1 300 4 4:=aM
instance:b1 300 5 5:=aM
instance:ej 300 true 6:=aM
instance:bS (zeroOf Tryz.prog 300) (some [ak,ak,ak,.bool false,ak,.bool false]):=aM
instance:b1 173 0 0:=aM
instance:b1 177 0 0:=aM
instance:b1 180 0 0:=aM
instance:b1 180 1 1:=aM
instance:b1 184 0 0:=aM
instance:b1 184 1 1:=aM
instance:ej 178 false 1:=aM
instance:ej 180 true 2:=aM
instance:ej 184 true 23:=aM
instance:bS (zeroOf Tryz.prog 180) (some [ak,ak]):=aM
instance:bS (zeroOf Tryz.prog 184) (some wk):=aM
instance:bS (ze Tryz.prog 105) (some 16):=aM
instance:bS (ze Tryz.prog 33) (some 4):=aM
instance:b1 184 2 2:=aM
instance:b1 184 3 3:=aM
instance:ej 105 true 16:=aM
instance:ej 182 false 1:=aM
instance:ej 33 true 4:=aM
instance:b1 184 4 19:=aM
instance:ej 41 true 4:=aM
instance:b1 41 0 0:=aM
instance:ej 177 true 2:=aM
instance:bS (zeroOf Tryz.prog 173) (some wj):=aM
instance:bS (zeroOf Tryz.prog 177) (some [db,bw]):=aM
instance:bS (jA Tryz.prog 175) (some (180,2,16,[ak,ak])):=aM
instance:bS (jA Tryz.prog 37) (some (173,11,88,wj)):=aM
instance:bS (jA Tryz.prog 38) (some (177,2,32,[db,bw])):=aM
instance:bS (jA Tryz.prog 39) (some (184,23,184,wk)):=aM
instance:bS (zeroOf Tryz.prog 41) (some [ak,bw,bw,bw]):=aM
instance:b1 208 0 0:=aM
instance:b1 208 1 1:=aM
instance:b1 208 2 2:=aM
instance:bS (zeroOf Tryz.prog 158) (some [db]):=aM
instance:bS (hf Tryz.prog 173) (some (wj,[(0,1),(1,1),(2,1),(3,8)])):=aM
instance:bS (u0 Tryz.prog 3 158) (some .u32):=aM
instance:ej 206 false 1:=aM
instance:bS (hf Tryz.prog 177) (some ([db,bw],[(0,1),(1,1)])):=aM
instance:bS (hf Tryz.prog 180) (some ([ak,ak],[(0,1),(1,1)])):=aM
instance:bS (p9 Tryz.prog 105) (some (16,1)):=aM
instance:bS (p9 Tryz.prog 33) (some (4,1)):=aM
instance:bS (hf Tryz.prog 184) (some (wk,[(0,1),(1,1),(2,1),(3,16),(19,4)])):=aM
instance:bS (hf Tryz.prog 208) (some ([bw,ak,.bool false],[(0,1),(1,1),(2,1)])):=aM
instance:bS (hf Tryz.prog 41) (some ([ak,bw,bw,bw],[(0,1),(1,1),(2,1),(3,1)])):=aM
instance:bS (oW Tryz.prog 41) true:=aM
instance:bS (hf Tryz.prog 398) (some (zK,[(0,1),(1,1),(2,1),(3,1)])):=aM
instance:b1 398 0 0:=aM
instance:b1 398 1 1:=aM
instance:b1 398 2 2:=aM
instance:b1 398 3 3:=aM
instance:bS (iZ Tryz.prog 394) (some (398,4)):=aM
instance:ej 394 false 1:=aM
instance:ej 398 true 4:=aM
instance:bS (zeroOf Tryz.prog 398) (some zK):=aM
instance:bS (jA Tryz.prog 394) (some (398,4,32,zK)):=aM
instance:bS (zeroOf Tryz.prog 394) (some [bw]):=aM
instance:bS (hf Tryz.prog 334) (some ([ak,ak,ak],[(0,1),(1,1),(2,1)])):=aM
instance:b1 334 1 1:=aM
instance:b1 334 2 2:=aM
instance:ej 334 true 3:=aM
instance:bS (zeroOf Tryz.prog 334) (some [ak,ak,ak]):=aM
instance:bS (oW Tryz.prog 334) true:=aM
instance:bS (jA Tryz.prog 261) (some (334,3,24,[ak,ak,ak])):=aM
instance:ej 261 false 1:=aM
instance:bS (zeroOf Tryz.prog 261) (some [bw]):=aM
instance:bS (hf Tryz.prog 338) (some ([db,db,db],[(0,1),(1,1),(2,1)])):=aM
instance:b1 338 0 0:=aM
instance:b1 338 1 1:=aM
instance:b1 338 2 2:=aM
instance:ej 338 true 3:=aM
instance:bS (zeroOf Tryz.prog 338) (some [db,db,db]):=aM
instance:bS (hf Tryz.prog 343) (some ([ak,bw,bw,bw,db,db,db,ak,ak,ak,ak,ak,ak,ak,ak,ak,ak,ak,ak,ak,ak,ak,ak,ak,ak,ak,ak,ak,ak,ak,ak],[(0,4),(4,3),(7,8),(15,16)])):=aM
instance:b1 343 1 4:=aM
instance:b1 343 3 15:=aM
instance:ej 343 true 31:=aM
instance:bS (zeroOf Tryz.prog 343) (some [ak,bw,bw,bw,db,db,db,ak,ak,ak,ak,ak,ak,ak,ak,ak,ak,ak,ak,ak,ak,ak,ak,ak,ak,ak,ak,ak,ak,ak,ak]):=aM
instance:b1 343 0 0:=aM
instance:ej 438 false 1:=aM
instance:b1 343 2 7:=aM
instance:bS (hf Tryz.prog 190) (some ([ak,ak],[(0,1),(1,1)])):=aM
instance:ej 190 true 2:=aM
instance:bS (zeroOf Tryz.prog 190) (some [ak,ak]):=aM
instance:bS (oW Tryz.prog 190) true:=aM
instance:b1 164 0 0:=aM
instance:b1 164 1 1:=aM
instance:bS (jA Tryz.prog 161) (some (261,1,24,[bw])):=aM
instance:bS (jA Tryz.prog 162) (some (190,2,16,[ak,ak])):=aM
instance:ej 161 false 1:=aM
instance:ej 162 false 1:=aM
instance:ej 164 true 2:=aM
instance:bS (zeroOf Tryz.prog 164) (some [bw,bw]):=aM
instance:bS (oW Tryz.prog 164) true:=aM
instance:bS (hf Tryz.prog 356) (some ([ak,ak,bw,ak],[(0,2),(2,1),(3,1)])):=aM
instance:bS (jA Tryz.prog 168) (some (289,1,8,[.pointer none])):=aM
instance:bS (hf Tryz.prog 288) (some ([ak,bw,bw,bw,bw,bw,ak,ak,ak,ak,ak,ak,db,.pointer none,ak],[(0,4),(4,2),(6,1),(7,1),(8,1),(9,1),(10,1),(11,1),(12,1),(13,2)])):=aM
instance:b1 288 0 0:=aM
instance:b1 288 2 6:=aM
instance:b1 288 3 7:=aM
instance:b1 288 4 8:=aM
instance:ej 283 false 1:=aM
instance:b1 170 0 0:=aM
instance:b1 170 2 2:=aM
instance:b1 170 5 40:=aM
instance:b1 170 7 42:=aM
instance:ej 167 false 1:=aM
instance:bS (hf Tryz.prog 170) (some ([.pointer none,db,ak,bw,bw,bw,bw,bw,ak,ak,ak,ak,ak,ak,ak,ak,ak,ak,ak,ak,ak,ak,ak,ak,ak,ak,ak,ak,ak,ak,ak,ak,ak,ak,ak,ak,ak,ak,ak,ak,.pointer none,bw,db,ak,bw],[(0,1),(1,1),(2,4),(6,2),(8,32),(40,1),(41,1),(42,1),(43,1),(44,1)])):=aM
instance:b1 170 6 41:=aM
instance:ej 168 false 1:=aM
instance:b1 190 0 0:=aM
instance:b1 190 1 1:=aM
instance:bS (iZ Tryz.prog 162) (some (190,2)):=aM
instance:b1 124 1 1:=aM
instance:ej 114 false 1:=aM
instance:b1 116 0 0:=aM
instance:b1 116 1 1:=aM
instance:b1 116 2 2:=aM
instance:b1 116 3 3:=aM
instance:b1 116 4 4:=aM
instance:bS (vP Tryz.prog 84) (true):=aM
instance:ej 84 false 1:=aM
instance:bS (hf Tryz.prog 116) (some ([.pointer none,.pointer none,.pointer none,bw,db,ak],[(0,1),(1,1),(2,1),(3,1),(4,1),(5,1)])):=aM
instance:b1 81 0 0:=aM
instance:b1 81 1 1:=aM
instance:b1 81 2 2:=aM
instance:b1 116 5 5:=aM
instance:b1 124 0 0:=aM
instance:b1 124 3 3:=aM
instance:ej 49 false 1:=aM
instance:bS (zeroOf Tryz.prog 114) (some [.pointer none]):=aM
instance:b1 63 0 0:=aM
instance:b1 63 4 4:=aM
instance:ej 60 false 1:=aM
instance:bS (hf Tryz.prog 58) (some ([ak,ak],[(0,1),(1,1)])):=aM
instance:ej 58 true 2:=aM
instance:ej 63 true 5:=aM
instance:bS (zeroOf Tryz.prog 58) (some [ak,ak]):=aM
instance:bS (hf Tryz.prog 81) (some ([ak,ak,ak],[(0,1),(1,1),(2,1)])):=aM
instance:ej 81 true 3:=aM
instance:bS (zeroOf Tryz.prog 81) (some [ak,ak,ak]):=aM
instance:b1 58 0 0:=aM
instance:bS (iZ Tryz.prog 22) (some (63,5)):=aM
instance:bS (jA Tryz.prog 22) (some (63,5,72,[ak,ak,ak,bw,bw])):=aM
instance:bS (zeroOf Tryz.prog 63) (some [ak,ak,ak,bw,bw]):=aM
instance:bS (hf Tryz.prog 52) (some ([ak,db],[(0,1),(1,1)])):=aM
instance:b1 286 0 0:=aM
instance:bS (vP Tryz.prog 284) (true):=aM
instance:ej 284 false 1:=aM
instance:ej 424 false 1:=aM
instance:bS (hf Tryz.prog 426) (some ([ak,ak,.pointer none],[(0,1),(1,1),(2,1)])):=aM
instance:b1 286 1 1:=aM
instance:b1 426 2 2:=aM
instance:b1 426 0 0:=aM
instance:b1 426 1 1:=aM
instance:bS (hf Tryz.prog 375) (some ([.bool false,.bool false,.bool false,ak,ak,ak],[(0,1),(1,1),(2,1),(3,1),(4,1),(5,1)])):=aM
instance:b1 288 7 11:=aM
instance:b1 288 8 12:=aM
instance:bS (jA Tryz.prog 307) (some (375,6,32,[.bool false,.bool false,.bool false,ak,ak,ak])):=aM
instance:b1 288 1 4:=aM
instance:b1 288 5 9:=aM
instance:b1 288 6 10:=aM
instance:b1 288 9 13:=aM
instance:bS (A4 Tryz.prog 338 1) (some 1):=aM
instance:bS (zeroOf Tryz.prog 105) (some [ak,ak,ak,ak,ak,ak,ak,ak,ak,ak,ak,ak,ak,ak,ak,ak]):=aM
instance:bS (hf Tryz.prog 155) (some (zK,[(0,1),(1,1),(2,1),(3,1)])):=aM
instance:b1 170 8 43:=aM
instance:b1 170 9 44:=aM
instance:bS (jA Tryz.prog 87) (some (155,4,32,zK)):=aM
instance:ej 87 false 1:=aM
instance:bS (zf Tryz.prog 427) (true):=aM
instance:bS (iZ Tryz.prog 168) (some (289,1)):=aM
instance:ej 415 false 1:=aM
instance:ej 427 false 1:=aM
instance:bS (zeroOf Tryz.prog 168) (some [bw]):=aM
instance:bS (zeroOf Tryz.prog 415) (some [bw]):=aM
instance:bS (zeroOf Tryz.prog 427) (some [.map none]):=aM
instance:bS (iZ Tryz.prog 415) (some (419,2)):=aM
instance:b1 375 0 0:=aM
instance:b1 375 1 1:=aM
instance:b1 375 2 2:=aM
instance:b1 375 3 3:=aM
instance:b1 375 4 4:=aM
instance:bS (iZ Tryz.prog 307) (some (375,6)):=aM
instance:ej 375 true 6:=aM
instance:bS (zeroOf Tryz.prog 375) (some [.bool false,.bool false,.bool false,ak,ak,ak]):=aM
instance:b1 375 5 5:=aM
instance:b1 300 0 0:=aM
instance:b1 166 0 0:=aM
instance:bS (A4 Tryz.prog 338 2) (some 2):=aM
instance:b1 356 1 2:=aM
instance:b1 356 2 3:=aM
instance:ej 289 false 1:=aM
instance:b1 356 0 0:=aM
instance:bS (hf Tryz.prog 419) (some ([ak,ak],[(0,1),(1,1)])):=aM
instance:bS (jA Tryz.prog 415) (some (419,2,16,[ak,ak])):=aM
instance:bS (u0 Tryz.prog 158 3) (some .i64):=aM
instance:b1 160 0 0:=aM
instance:b1 170 1 1:=aM
instance:b1 166 1 16:=aM
instance:b1 419 0 0:=aM
instance:b1 419 1 1:=aM
instance:ej 419 true 2:=aM
instance:bS (zeroOf Tryz.prog 419) (some [ak,ak]):=aM
instance:b1 170 4 8:=aM
instance:b1 63 1 1:=aM
instance:b1 63 2 2:=aM
instance:b1 63 3 3:=aM
instance:bS (oW Tryz.prog 58) true:=aM
instance:bS (Lo Tryz.prog 249 9) (true):=aM
instance:bS (u0 Tryz.prog 3 5) (some .u8):=aM
instance:bS (iZ Tryz.prog 249) (some (5,1)):=aM
instance:bS (jA Tryz.prog 249) (some (5,1,1,[.int .u8 0])):=aM
instance:b1 155 0 0:=aM
instance:b1 155 1 1:=aM
instance:b1 155 2 2:=aM
instance:b1 155 3 3:=aM
instance:bS (iZ Tryz.prog 31) (some (9,1)):=aM
instance:bS (jA Tryz.prog 31) (some (9,1,16,[.string ByteArray.empty])):=aM
instance:ej 153 false 1:=aM
instance:ej 155 true 4:=aM
instance:ej 9 false 1:=aM
instance:bS (zeroOf Tryz.prog 33) (some zK):=aM
instance:bS (oW Tryz.prog 33) true:=aM
instance:b1 58 1 1:=aM
instance:bS (iZ Tryz.prog 87) (some (155,4)):=aM
instance:bS (zeroOf Tryz.prog 155) (some zK):=aM
instance:bS (hf Tryz.prog 77) (some ([.string ByteArray.empty,ak,ak],[(0,1),(1,1),(2,1)])):=aM
instance:bS (Da Tryz.prog 27) (true):=aM
instance:bS (Kq Tryz.prog 75) (true):=aM
instance:bS (hf Tryz.prog 135) (some ([ak,ak,ak],[(0,1),(1,1),(2,1)])):=aM
instance:bS (hf Tryz.prog 241) (some ([.string ByteArray.empty,.string ByteArray.empty],[(0,1),(1,1)])):=aM
instance:b1 241 0 0:=aM
instance:b1 241 1 1:=aM
instance:ej 241 true 2:=aM
instance:bS (zeroOf Tryz.prog 241) (some [.string ByteArray.empty,.string ByteArray.empty]):=aM
instance:bS (oW Tryz.prog 241) true:=aM
instance:bS (oW Tryz.prog 63) true:=aM
instance:ej 22 false 1:=aM
instance:bS (zeroOf Tryz.prog 22) (some [bw]):=aM
instance:b1 230 1 4:=aM
instance:ej 31 false 1:=aM
instance:b1 230 0 0:=aM
instance:bS (iZ Tryz.prog 381) (some (380,1)):=aM
instance:bS (jA Tryz.prog 381) (some (380,1,8,[.pointer none])):=aM
instance:ej 380 false 1:=aM
instance:bS (oW Tryz.prog 173) true:=aM
instance:bS (oW Tryz.prog 177) true:=aM
instance:bS (Tryz.prog.underlying 4) (some .bool):=aM
instance:ej 228 false 1:=aM
instance:bS (zeroOf Tryz.prog 228) (some [.pointer none]):=aM
instance:bS (zeroOf Tryz.prog 230) (some [ak,bw,bw,bw,bw]):=aM
instance:bS (oW Tryz.prog 230) true:=aM
instance:ej 302 false 1:=aM
theorem Ts:Tryz.prog.underlying 9=some .string:=by kernel_rfl
abbrev dh(u:BitVec 32):List Value:=[aQ u.toNat]
abbrev mc:BitVec 32:=4294967295#32
def KW(x:BitVec 32):BitVec 32:=((x^^^(x<<<13))^^^((x^^^(x<<<13))>>>17))^^^(((x^^^(x<<<13))^^^((x^^^(x<<<13))>>>17))<<<5)
def nV(s:BitVec 32):BitVec 32:=if s=0#32 then 1#32 else s
theorem Zf(s:BitVec 32):max (s.toNat:Int) 1=((nV s).toNat:Int):=by
  unfold nV
  by_cases h:s=0#32
  · rw [if_pos h,h];rfl
  · rw [if_neg h]
    have:s.toNat≠0:=fun q=>h (BitVec.eq_of_toNat_eq q)
    omega
abbrev Db(ahC target afJ:BitVec 32):BitVec 32:=ahC&&&(target|||afJ)
theorem G5{a b:BitVec 32}:((a.toNat:Int)==(b.toNat:Int))=decide (a=b):=by
  by_cases h:a=b
  · subst h;simp
  · rw [decide_eq_false h];have:a.toNat≠b.toNat:=fun q=>h (BitVec.eq_of_toNat_eq q)
    simp;omega
theorem Sf{b:Nat}(h:b<256):IntKind.u32.wrap (b:Int)=((BitVec.ofNat 32 b).toNat:Int):=by
  have e:(BitVec.ofNat 32 b).toNat=b:=by rw [BitVec.toNat_ofNat];omega
  have:=Gc (BitVec.ofNat 32 b)
  rw [e]at this⊢;exact this
theorem xB{a:BitVec 32}:(a.toNat:Int)=0↔a=0#32:=⟨fun h=>BitVec.eq_of_toNat_eq (by show a.toNat=0;omega),fun h=>by rw [h];rfl⟩
def Dc(x:BitVec 32):BitVec 32:=if x&&&1#32=0#32 then x>>>1 else(x>>>1)^^^3988292384#32
theorem OQ{x:BitVec 32}(h:¬((x&&&1#32).toNat:Int)=0):(x>>>1)^^^3988292384#32=Dc x:=by unfold Dc;rw [if_neg (fun q=>h (xB.2 q))]
theorem OR{x:BitVec 32}(h:((x&&&1#32).toNat:Int)=0):x>>>1=Dc x:=by unfold Dc;rw [if_pos (xB.1 h)]
def Gg(x:BitVec 32):Nat→BitVec 32
  |0=>x
  |n+1=>Dc (Gg x n)
def DR(t:BitVec 32)(b:Nat):BitVec 32:= ~~~(Gg (~~~t^^^BitVec.ofNat 32 b) 8)
def uK(w:BitVec 32)(i:Nat):Nat:=(w.toNat>>>(24-8*i))%256
def q4(t w:BitVec 32):Nat→BitVec 32
  |0=>t
  |n+1=>DR (q4 t w n) (uK w n)
theorem OS(w:BitVec 32)(i:Nat):uK w i<256:=Nat.mod_lt _ (by decide)
theorem P5(w:BitVec 32){i:Nat}(h:i<4):IntKind.u8.wrap ((w>>>(24-8*(i:Int)).toNat).toNat:Int)=(uK w i:Int):=by
  unfold uK
  rw [BitVec.toNat_ushiftRight,show(24-8*(i:Int)).toNat=24-8*i by omega]
  generalize w.toNat>>>(24-8*i)=m
  simp [IntKind.wrap,IntKind.bits,IntKind.signed]
abbrev A8(t w:BitVec 32):BitVec 32:=q4 t w 4
def qg(l:List (BitVec 32)):BitVec 32:=l.foldl A8 0#32
theorem Sg(x:BitVec 32):a6 B 208 [aQ x.toNat] [] (fun v S=>v= .agg #[aQ (nV x).toNat]∧S=[]):=by
 refine bM 6 Tryz.func208 fun ba bf=>?_
 refine fe fun ax=>?_
 refine e8 ?_
 refine cC ?_
 refine dz ?_
 refine ap (cj rfl) ?_
 refine ap (AL rfl rfl) ?_
 refine ap (yL [_] rfl ad (by rfl)) ?_
 refine fq (kG rfl rfl rfl au ad rfl rfl) ?_
 refine e8 ?_
 refine nv ?_
 refine g2 ?_
 exact⟨_,⟨by rw [←Zf],rfl⟩,_,aA⟩
theorem abb(a b c:BitVec 32):a6 B 209 [aQ a.toNat,aQ b.toNat,aQ c.toNat] [] (fun v S=>v=aQ (Db a b c).toNat∧S=[]):=by
 refine bM 12 Tryz.func209 fun ba bf=>?_
 refine ap (g6 rfl rfl (dM _) (dM _) rfl) ?_
 refine ap (g6 rfl rfl (dM _) (dM _) rfl) ?_
 exact oi
theorem abc(a c:BitVec 32):a6 B 233 [aQ a.toNat,aQ c.toNat] [] (fun v S=>v=aQ (a|||c).toNat∧S=[]):=by
 refine bM 8 Tryz.func233 fun ba bf=>?_
 refine ap (g6 rfl rfl (dM _) (dM _) rfl) ?_
 exact oi
theorem Sh(m:Nat)(x:BitVec 32):a6 B 210 [ag m] [U m [aQ (x:BitVec 32).toNat] 364] (fun v S=>v=aQ x.toNat∧S=[U m [aQ (KW x:BitVec 32).toNat] 364]):=by
 refine bM 45 Tryz.func210 fun ba bf=>?_
 refine cZ [U m [aQ (x:BitVec 32).toNat] 364] ad aA ?_
 refine aY [0,1,2,3,4,5,6,7] ?_
 refine bj 8 rfl (Ap rfl rfl (dM _) ah ah) ?_
 refine bj 9 rfl (g6 rfl rfl (dM _) (dM _) rfl) ?_
 refine bG 10 rfl (mz rfl) ?_
 refine bG 11 rfl (hn ad) ?_
 refine jx 12 ?_
 refine l4 rfl dy (js (k:=0) (ga:=[aQ ((x^^^(x<<<13)):BitVec 32).toNat]) rfl rfl rfl au ad rfl rfl) ?_
 refine df [99] ?_
 refine cZ [U m [aQ ((x^^^(x<<<13)):BitVec 32).toNat] 364] ad aA ?_
 refine aY [0,1,2,3,4,5,6,7] ?_
 refine bj 8 rfl (xq rfl rfl rfl ah ah) ?_
 refine bj 9 rfl (g6 rfl rfl (dM _) (dM _) rfl) ?_
 refine bG 10 rfl (mz rfl) ?_
 refine bG 11 rfl (hn ad) ?_
 refine jx 12 ?_
 refine l4 rfl dy (js (k:=0) (ga:=[aQ (((x^^^(x<<<13))^^^((x^^^(x<<<13))>>>17)):BitVec 32).toNat]) rfl rfl rfl au ad rfl rfl) ?_
 refine df [99] ?_
 refine cZ [U m [aQ (((x^^^(x<<<13))^^^((x^^^(x<<<13))>>>17)):BitVec 32).toNat] 364] ad aA ?_
 refine aY [0,1,2,3,4,5,6,7] ?_
 refine bj 8 rfl (Ap rfl rfl (dM _) ah ah) ?_
 refine bj 9 rfl (g6 rfl rfl (dM _) (dM _) rfl) ?_
 refine bG 10 rfl (mz rfl) ?_
 refine bG 11 rfl (hn ad) ?_
 refine jx 12 ?_
 refine l4 rfl dy (js (k:=0) (ga:=[aQ (KW x:BitVec 32).toNat]) rfl rfl rfl au ad rfl rfl) ?_
 refine df [99] ?_
 exact bJ
theorem UD(a:BitVec 32):a6 B 273 [aQ a.toNat] [] (fun v S=>v= .agg #[aQ (a).toNat,aQ (~~~a).toNat]∧S=[]):=by
 refine bM 7 Tryz.func273 fun ba bf=>?_
 refine de fun ax=>?_
 refine ap (Ar rfl (dM _)) ?_
 refine aj ?_
 refine g2 ?_
 exact bJ
theorem Kr(a b:BitVec 32):a6 B 250 [.agg #[aQ (a).toNat,aQ (b).toNat]] [] (fun v S=>v= .bool (decide (b= ~~~a))∧S=[]):=by
 refine bM 9 Tryz.func250 fun ba bf=>?_
 refine fX fun ax=>?_
 refine ap (Ar rfl (dM _)) ?_
 refine aj ?_
 exact aO ⟨congrArg Value.bool G5,rfl⟩
theorem UE(a b x:BitVec 32):a6 B 251 [.agg #[aQ (a).toNat,aQ (b).toNat],aQ x.toNat] [] (fun v S=>v= .bool (decide (a=x)&&decide (b= ~~~x))∧S=[]):=by
 refine bM 9 Tryz.func251 fun ba bf=>?_
 refine fX (aF:=[aQ a.toNat,aQ b.toNat]) fun ax=>?_
 refine cZ [U ax [aQ a.toNat,aQ b.toNat] 403] ad aA ?_
 refine bj 0 rfl (ed (bK:=[aQ a.toNat,aQ b.toNat]) rfl au ad rfl (by rfl)) ?_
 refine aY [1,102] ?_
 refine gU (UD x) ?_
 refine bj 3 rfl (adm rfl rfl ad ad rfl rfl rfl rfl) ?_
 refine df [4,99] ?_
 exact aO ⟨by show Value.bool ((((a.toNat:Nat):Int)==((x.toNat:Nat):Int))&&((((b.toNat:Nat):Int)==(((~~~x).toNat:Nat):Int))&&true))=_;rw [G5,G5,Bool.and_true],rfl⟩
theorem adz(q:Nat)(t:BitVec 32)(n:Int)(aP:0≤n∧n≤1000000000)(b:Nat)(aR:b<256):a6 B 234 [ag q,.int .u8 (b:Int)] [U q [aQ (t:BitVec 32).toNat,aa n] 271] (fun v S=>S=[U q [aQ (DR t b:BitVec 32).toNat,aa (n+1)] 271]):=by
 refine bM 37 Tryz.func234 fun ba bf=>?_
 refine ap (Ar rfl (dM _)) ?_
 refine aj ?_
 refine ap (ja (z:=((BitVec.ofNat 32 b).toNat:Int)) rfl ad (Sf aR)) ?_
 refine ap (g6 rfl rfl (dM _) (dM _) rfl) ?_
 refine aj ?_
 refine ds (α:=Nat) (fun i=>i≤8) (fun i=>[(14,aa (i:Int)),(4,aQ (Gg (~~~t^^^BitVec.ofNat 32 b) i).toNat),(0,ag q)]) (fun i=>[U q [aQ (t:BitVec 32).toNat,aa n] 271]) (fun i=>8-i) 0 ?_ dq aA ?_
 ·omega
 rintro i af
 refine bT ?_ ?_<;>intro ab
 ·refine ap (g6 rfl rfl (dM _) rfl rfl) ?_
  refine aj ?_
  refine ap (xq rfl rfl rfl ah ah) ?_
  refine bT ?_ ?_<;>intro ae
  ·refine ap (g6 rfl rfl (dM _) rfl rfl) ?_
   refine aj ?_
   refine k2 (i+1) ?_ ?_ ?_ ?_
   ·omega
   ·omega
   ·refine⟨?_,?_,?_,trivial⟩<;>first|rfl|(refine congrArg (fun z:BitVec 32=>some (Value.int .u32 z.toNat)) ?_;exact OQ ae)
   exact⟨_,aA⟩
  refine k2 (i+1) ?_ ?_ ?_ ?_
  ·omega
  ·omega
  ·refine⟨?_,?_,?_,trivial⟩<;>first|rfl|(refine congrArg (fun z:BitVec 32=>some (Value.int .u32 z.toNat)) ?_;exact OR ae)
  exact⟨_,aA⟩
 refine ap (Ar rfl (dM _)) ?_
 refine aj ?_
 obtain rfl:i=8:=by omega
 exact aO rfl
theorem adA(q:Nat)(t:BitVec 32)(n:Int)(aP:0≤n∧n≤100000000)(w:BitVec 32):a6 B 180 [ag q,aQ w.toNat] [U q [aQ (t:BitVec 32).toNat,aa n] 271] (fun v S=>S=[U q [aQ (A8 t w:BitVec 32).toNat,aa (n+4)] 271]):=by
 refine bM 17 Tryz.func180 fun ba bf=>?_
 rw [show(U q [aQ (t:BitVec 32).toNat,aa n] 271:ar B)=U q [aQ (q4 t w 0:BitVec 32).toNat,aa (n+((0:Nat):Int))] 271 from by simp [q4]]
 refine ds (α:=Nat) (fun i=>i≤4) (fun i=>[(5,aa (i:Int)),(0,ag q),(1,aQ w.toNat)]) (fun i=>[U q [aQ (q4 t w i:BitVec 32).toNat,aa (n+(i:Int))] 271]) (fun i=>4-i) 0 ?_ dq aA ?_
 ·omega
 rintro i af
 refine bT ?_ ?_<;>intro ab
 ·refine ap (pp (m:=8) (n:=(i:Int)) rfl rfl ah ah) ?_
  refine aj ?_
  refine ap (xq rfl rfl rfl ah ah) ?_
  refine ap (ja (z:=(uK w i:Int)) rfl ad (P5 w ah)) ?_
  refine cm (adz q (q4 t w i) (n+(i:Int)) (by omega) (uK w i) (OS w i)) ?_
  rintro _ _ rfl
  refine cx ?_
  rw [show n+(i:Int)+1=n+((i+1:Nat):Int)by omega,show DR (q4 t w i) (uK w i)=q4 t w (i+1)from rfl]
  refine cE (i+1) ?_
  omega
 obtain rfl:i=4:=by omega
 exact aO rfl
theorem abd(q:Nat)(t:BitVec 32)(n:Int):a6 B 181 [ag q] [U q [aQ (t:BitVec 32).toNat,aa n] 271] (fun v S=>v=aQ t.toNat∧S=[U q [aQ (t:BitVec 32).toNat,aa n] 271]):=by
 refine bM 7 Tryz.func181 fun ba bf=>?_
 exact bJ
structure br where
  words:Nat
  jz:Nat
  a:an (BitVec 32)
  g:Nat→BitVec 32
  b:an Int
  wr:Nat→Int
  on:Bool
  qa:Bool
  a8:Int
  kd:BitVec 32
  ops:Int
abbrev bH(d:br):List Value:=[aa (d.words:Int),aa (d.jz:Int),az d.a,az d.b,.bool d.on,.bool d.qa,aa d.a8,aQ d.kd.toNat,aa d.ops]
structure dB(d:br):Prop where
  s:1≤d.b.l.length∧d.b.l.length≤64
  w:1≤d.words∧d.words≤1024
  n:d.a.l.length=d.b.l.length*d.words
  rn:d.jz≤1048576
  oj:d.a.Own
  e1:d.b.Own
  ops:0≤d.ops∧d.ops≤1000000000
  a8:0≤d.a8∧d.a8≤9223372036854775807
  x6:∀k,0≤d.wr k∧d.wr k≤2000000
def cW{α:Type}(n:Nat)(g:Nat→α):List α:=(List.range n).map g
theorem m1{α:Type}(n:Nat)(g:Nat→α):(cW n g).length=n:=by unfold cW;simp
theorem xt{α:Type}{n i:Nat}{g:Nat→α}(h:i<n):(cW n g)[i]?=some (g i):=by unfold cW;simp [h]
theorem Zg{α:Type}{n:Nat}{g h:Nat→α}(e:∀j,j<n→g j=h j):cW n g=cW n h:=by
  unfold cW;apply List.map_congr_left;intro j aI;exact e j (List.mem_range.1 aI)
theorem As{α:Type}{n i:Nat}{g:Nat→α}{y:α}:(cW n g).set i y=cW n (bz g i y):=by
  apply List.ext_getElem
  · unfold cW;simp
  · intro j ab ae
    rw [List.getElem_set]
    by_cases e:i=j
    · subst e;simp [cW,bz]
    · rw [if_neg e];simp [cW,bz];exact fun h=>absurd h.symm e
theorem P6{α:Type}(n:Nat)(y:α):List.replicate n y=cW n (fun _=>y):=by
  apply List.ext_getElem
  · simp [cW]
  · intro j ab ae;simp [cW]
def mj(d:br)(s w:Int):Int:=if s<0∨s≥d.b.l.length∨w<0∨w≥d.words then-1 else s*d.words+w
theorem Q7{d:br}(h:dB d){s w:Int}(g:0≤mj d s w):mj d s w<d.a.l.length:=by
  unfold mj at g⊢
  split at g
  · omega
  · rename_i q
    rw [if_neg q,h.n]
    have ab:s*d.words≤((d.b.l.length:Int)-1)*d.words:=Int.mul_le_mul_of_nonneg_right (by omega) (by omega)
    rw [Int.sub_mul]at ab
    have ae:((d.b.l.length*d.words:Nat):Int)=(d.b.l.length:Int)*d.words:=Int.natCast_mul _ _
    omega
def o0(d:br):Bool:=d.qa&&decide (d.a8≤0)
abbrev nw(d:br):br:=⟨d.words,d.jz,d.a,d.g,d.b,d.wr,if o0 d=true then false else d.on,if o0 d=true then false else d.qa,if d.qa=true∧o0 d=false then d.a8-1 else d.a8,d.kd,d.ops+1⟩
theorem x7(p:Nat)(d:br):a6 B 43 [ag p] [U p (bH d) 196] (fun v S=>v= .bool d.on∧S=[U p (bH d) 196]):=by
 refine bM 7 Tryz.func43 fun ba bf=>?_
 exact bJ
theorem OT(p:Nat)(d:br):a6 B 77 [ag p] [U p (bH d) 196] (fun v S=>v=aa (d.b.l.length:Int)∧S=[U p (bH d) 196]):=by
 refine bM 8 Tryz.func77 fun ba bf=>?_
 exact bJ
theorem GJ(p:Nat)(d:br):a6 B 127 [ag p] [U p (bH d) 196] (fun v S=>v=aa (d.words:Int)∧S=[U p (bH d) 196]):=by
 refine bM 7 Tryz.func127 fun ba bf=>?_
 exact bJ
theorem abe(p:Nat)(d:br):a6 B 231 [ag p] [U p (bH d) 196] (fun v S=>v=aa (d.jz:Int)∧S=[U p (bH d) 196]):=by
 refine bM 7 Tryz.func231 fun ba bf=>?_
 exact bJ
theorem Ks(p:Nat)(d:br)(z:Bool):a6 B 42 [ag p,.bool z] [U p (bH d) 196] (fun v S=>S=[U p (bH ((⟨d.words,d.jz,d.a,d.g,d.b,d.wr,z,d.qa,d.a8,d.kd,d.ops⟩:br))) 196]):=by
 refine bM 8 Tryz.func42 fun ba bf=>?_
 exact aO rfl
theorem afK(p:Nat)(d:br)(n:Int)(x:BitVec 32):a6 B 41 [ag p,.agg #[aa n,aQ x.toNat]] [U p (bH d) 196] (fun v S=>S=[U p (bH ((⟨d.words,d.jz,d.a,d.g,d.b,d.wr,d.on,true,(max n 0),x,d.ops⟩:br))) 196]):=by
 refine bM 15 Tryz.func41 fun ba bf=>?_
 refine eD (aF:=[aa n,aQ x.toNat]) fun ax=>?_
 refine xS ?_
 refine du [aa (max n 0),aQ x.toNat] ?_
 refine aj ?_
 refine fq (AM rfl rfl (by simp [Value.oneCell']) au ad rfl (by rfl) (by rfl)) ?_
 refine aj ?_
 exact aO rfl
theorem UF(p:Nat)(d:br)(h:dB d)(x y:Int):a6 B 206 [ag p,aa x,aa y] [U p (bH d) 196] (fun v S=>v=aa (mj d x y)∧S=[U p (bH d) 196]):=by
 refine dN 38 Tryz.func206 fun ba bf=>?_
 have aH:=h.s
 have hw:=h.w
 refine aj ?_
 refine cc ?_ ?_<;>intro ab
 ·exact aO ⟨by unfold mj;rw [if_pos ah],rfl⟩
 refine cc ?_ ?_<;>intro ae
 ·exact aO ⟨by unfold mj;rw [if_pos ah],rfl⟩
 refine cc ?_ ?_<;>intro av
 ·exact aO ⟨by unfold mj;rw [if_pos ah],rfl⟩
 refine bD ?_ ?_<;>intro aV
 ·exact aO ⟨by unfold mj;rw [if_pos ah],rfl⟩
 have hm:0≤x*(d.words:Int):=Int.mul_nonneg ah ah
 have qA:x*(d.words:Int)≤64*1024:=Int.mul_le_mul ah ah ah ah
 refine aj ?_
 refine ap (pp (m:=x) (n:=(d.words:Int)) rfl rfl ah ah) ?_
 refine aj ?_
 exact aO ⟨by unfold mj;rw [if_neg ah],rfl⟩
theorem Si(p:Nat)(d:br)(h:dB d):a6 B 207 [ag p] [U p (bH d) 196] (fun v S=>v= .bool (o0 d)∧S=[U p (bH ((nw d))) 196]):=by
 refine dN 36 Tryz.func207 fun ba bf=>?_
 have aH:=h.ops
 have L3:=h.a8
 refine bT ?_ ?_<;>intro ab
 ·have bl:o0 d=false:=by unfold o0;rw [ab];rfl
  have cL:nw d=(⟨d.words,d.jz,d.a,d.g,d.b,d.wr,d.on,d.qa,d.a8,d.kd,d.ops+1⟩:br):=by unfold nw;rw [bl];simp [ab]
  rw [bl,cL]
  exact bJ
 refine bD ?_ ?_<;>intro ae
 ·have bl:o0 d=false:=by unfold o0;rw [ab,decide_eq_false ah];rfl
  have cL:nw d=(⟨d.words,d.jz,d.a,d.g,d.b,d.wr,d.on,d.qa,d.a8-1,d.kd,d.ops+1⟩:br):=by unfold nw;rw [bl];simp [ab]
  rw [bl,cL]
  exact bJ
 have bl:o0 d=true:=by unfold o0;rw [ab,decide_eq_true ah];rfl
 have cL:nw d=(⟨d.words,d.jz,d.a,d.g,d.b,d.wr,false,false,d.a8,d.kd,d.ops+1⟩:br):=by unfold nw;rw [bl];simp
 rw [bl,cL]
 exact bJ
abbrev cu{B:Nat}(d:br):ar B:=row (.slice d.a.bn d.a.l.length d.a.c) 42 1 d.a.l.length ((cW d.a.l.length d.g).flatMap dh)
abbrev fM{B:Nat}(d:br):ar B:=row (.slice d.b.bn d.b.l.length d.b.c) 3 1 d.b.l.length ((cW d.b.l.length d.wr).flatMap ea)
def AR(d:br)(s:Int):Int:=if s<0∨s≥d.b.l.length then 0 else d.wr s.toNat
def y4(d:br)(s w:Int):BitVec 32×Int:=if d.on=true then(if mj d s w<0 then(0#32,60)else(d.g (mj d s w).toNat,0))else(0#32,63)
def rc(d:br)(s:Int):List (BitVec 32):=if s<0∨s≥d.b.l.length then []else cW d.words fun i=>d.g (s.toNat*d.words+i)
abbrev br.v0(d:br)(g:Nat→BitVec 32):br:=⟨d.words,d.jz,d.a,g,d.b,d.wr,d.on,d.qa,d.a8,d.kd,d.ops⟩
def gZ(d:br)(s w:Int)(x:BitVec 32):br×Int:=
  if d.on=true then(if mj d s w<0 then(d,60)else if x&&&~~~(d.g (mj d s w).toNat)=0#32 then
    (if o0 d=true then((nw d).v0 (bz d.g (mj d s w).toNat (Db (d.g (mj d s w).toNat) x (nV d.kd))),63)else((nw d).v0 (bz d.g (mj d s w).toNat x),0))else(d,61))else(d,63)
theorem afL(d:br)(h:dB d):∃e:an (BitVec 32),e.l=cW d.a.l.length d.g∧e.Own∧d.a.bn=e.bn∧d.a.c=e.c∧d.a.l.length=e.l.length:=
  ⟨⟨d.a.bn,d.a.c,cW d.a.l.length d.g,fun q=>by rw [d.a.nil q];rfl,by rw [m1];exact d.a.small,by rw [m1];exact d.a.cap⟩,rfl,h.oj,rfl,rfl,by rw [m1]⟩
theorem Zh{n w s:Nat}{g:Nat→BitVec 32}(h:s*w+w≤n):((cW n g).drop (s*w)).take (s*w+w-s*w)=cW w fun i=>g (s*w+i):=by
  apply List.ext_getElem
  · simp [cW];omega
  · intro j ab ae;simp [cW]
theorem adB(p:Nat)(d:br)(h:dB d)(x:Int):a6 B 230 [ag p,aa x] [U p (bH d) 196,fM d] (fun v S=>v=aa (AR d x)∧S=[U p (bH d) 196,fM d]):=by
 refine bM 23 Tryz.func230 fun ba bf=>?_
 refine cc ?_ ?_<;>intro ab
 ·exact aO ⟨by unfold AR;rw [if_pos (by omega)],rfl⟩
 refine c2 ?_ ?_<;>intro ae
 ·refine aj ?_
  exact aO ⟨by unfold AR;rw [if_pos (by omega)],rfl⟩
 obtain⟨k,rfl⟩:=Int.eq_ofNat_of_zero_le (show 0≤x by omega)
 refine ic ?_
 refine fj ?_
 refine cC ?_
 refine dz ?_
 refine ap (cj rfl) ?_
 refine ap (ou rfl) ?_
 refine ap (ia ad) ?_
 refine ap (da ad) ?_
 refine ap (cj rfl) ?_
 refine ap (jS (j:=k) rfl rfl ad (d.b).fl rfl (by omega) rfl) ?_
 refine ap (eQ (a2:=ea) (aN:=1) (i:=k) (k:=0) (fun _=>rfl) rfl au (sD h.e1 rfl (m1 _ _)) ad (xt (by omega)) rfl) ?_
 refine aj ?_
 exact aO ⟨by unfold AR;rw [if_neg (by omega)];rfl,rfl⟩
theorem adC(p:Nat)(d:br)(h:dB d)(x y:Int):a6 B 247 [ag p,aa x,aa y] [U p (bH d) 196,cu d] (fun v S=>v= .tuple #[aQ (y4 d x y).1.toNat,aa (y4 d x y).2]∧S=[U p (bH d) 196,cu d]):=by
 refine bM 29 Tryz.func247 fun ba bf=>?_
 refine oZ (UF p d h x y) ?_
 refine bD ?_ ?_<;>intro ab
 ·exact aO ⟨by unfold y4;rw [if_neg (by rw [ab];decide)];rfl,rfl⟩
 refine c2 ?_ ?_<;>intro ae
 ·refine aj ?_
  exact aO ⟨by unfold y4;rw [if_pos ab,if_pos ae];rfl,rfl⟩
 obtain⟨k,ai⟩:=Int.eq_ofNat_of_zero_le (show 0≤mj d x y by omega)
 have ey:=Q7 h (show 0≤mj d x y by omega)
 rw [ai]at ey⊢
 refine cC ?_
 refine dz ?_
 refine ap (cj rfl) ?_
 refine ap (ou rfl) ?_
 refine ap (ia ad) ?_
 refine ap (da ad) ?_
 refine ap (cj rfl) ?_
 refine ap (jS (j:=k) rfl rfl ad (d.a).fl rfl (by omega) rfl) ?_
 refine ap (eQ (a2:=dh) (aN:=1) (i:=k) (k:=0) (fun _=>rfl) rfl au (sD h.oj rfl (m1 _ _)) ad (xt (by omega)) rfl) ?_
 refine aj ?_
 exact aO ⟨by unfold y4;rw [if_pos ab,if_neg (by omega),ai,Int.toNat_natCast],rfl⟩
theorem AS(p:Nat)(d:br)(h:dB d)(x y:Int)(z:BitVec 32):a6 B 139 [ag p,aa x,aa y,aQ z.toNat] [U p (bH d) 196,cu d] (fun v S=>v=aa (gZ d x y z).2∧S=[U p (bH ((gZ d x y z).1)) 196,cu (gZ d x y z).1]):=by
 refine bM 66 Tryz.func139 fun ba bf=>?_
 refine oZ (UF p d h x y) ?_
 refine bD ?_ ?_<;>intro ab
 ·rw [show gZ d x y z=(d,63)from by unfold gZ;rw [if_neg (by rw [ab];decide)]]
  exact bJ
 refine c2 ?_ ?_<;>intro ae
 ·refine aj ?_
  rw [show gZ d x y z=(d,60)from by unfold gZ;rw [if_pos ab,if_pos ae]]
  exact bJ
 obtain⟨k,ai⟩:=Int.eq_ofNat_of_zero_le (show 0≤mj d x y by omega)
 have ey:=Q7 h (show 0≤mj d x y by omega)
 rw [ai]at ey⊢
 refine cC ?_
 refine dz ?_
 refine ap (cj rfl) ?_
 refine ap (cj rfl) ?_
 refine ap (ou rfl) ?_
 refine ap (ia ad) ?_
 refine ap (da ad) ?_
 refine ap (cj rfl) ?_
 refine ap (jS (j:=k) rfl rfl ad (d.a).fl rfl (by show k<d.a.l.length;omega) rfl) ?_
 refine ap (eQ (a2:=dh) (aN:=1) (i:=k) (k:=0) (fun _=>rfl) rfl au (sD h.oj rfl (m1 _ _)) ad (xt (by show k<d.a.l.length;omega)) rfl) ?_
 refine ap (g6 rfl rfl (dM _) (dM _) rfl) ?_
 refine bT ?_ ?_<;>intro av
 ·rw [show gZ d x y z=(d,61)from by unfold gZ;rw [if_pos ab,if_neg ah,ai,Int.toNat_natCast,if_neg (fun q=>av (xB.2 q))]]
  exact bJ
 refine gH (Si p d h) ?_
 refine bD ?_ ?_<;>intro aV
 ·refine gj (Sg d.kd) ?_
  refine de fun ax=>?_
  refine cZ [U p (bH ((nw d))) 196,cu d] ad aA ?_
  refine aY [0,1,2,3,4,5,6,7,8,9] ?_
  refine bG 10 rfl (iW (j:=k) rfl rfl ad (d.a).fl rfl (by show k<d.a.l.length;omega) rfl) ?_
  refine bj 11 rfl (eQ (a2:=dh) (aN:=1) (i:=k) (k:=0) (fun _=>rfl) rfl au (sD h.oj rfl (m1 _ _)) ad (xt (by show k<d.a.l.length;omega)) rfl) ?_
  refine aY [12] ?_
  refine gb 13 (Sh ax (nV d.kd)) ?_
  refine aY [114] ?_
  refine gU (abb (d.g k) z (nV d.kd)) ?_
  refine bG 15 rfl (iW (j:=k) rfl rfl ad (d.a).fl rfl (by show k<d.a.l.length;omega) rfl) ?_
  refine aY [116] ?_
  refine l4 rfl dy (vZ (a2:=dh) (i:=k) (y:=(Db (d.g k) z (nV d.kd))) (qw:=cW d.a.l.length (bz d.g k (Db (d.g k) z (nV d.kd)))) h.oj rfl rfl (fun _=>rfl) rfl rfl au ad (by rw [m1];omega) As) ?_
  refine df [99] ?_
  rw [show gZ d x y z=((nw d).v0 (bz d.g k (Db (d.g k) z (nV d.kd))),63)from by unfold gZ;rw [if_pos ab,if_neg ah,ai,Int.toNat_natCast,if_pos (xB.1 av),if_pos aV]]
  exact bJ
 refine ap (jS (j:=k) rfl rfl ad (d.a).fl rfl (by show k<d.a.l.length;omega) rfl) ?_
 refine fq (vZ (a2:=dh) (i:=k) (y:=z) (qw:=cW d.a.l.length (bz d.g k z)) h.oj rfl rfl (fun _=>rfl) rfl rfl au ad (by rw [m1];omega) As) ?_
 refine aj ?_
 rw [show gZ d x y z=((nw d).v0 (bz d.g k z),0)from by unfold gZ;rw [if_pos ab,if_neg ah,ai,Int.toNat_natCast,if_pos (xB.1 av),if_neg (by rw [aV];decide)]]
 exact bJ
theorem Gh(p:Nat)(d:br)(h:dB d)(x:Int):di Tryz.prog B 138 [.pointer (some ⟨p,0,none⟩),.int .i64 x] [U p (bH d) 196,row (.slice d.a.bn d.a.l.length d.a.c) 42 1 d.a.l.length ((cW d.a.l.length d.g).flatMap dh)] (fun v S=>∃a:an (BitVec 32),(a.l=rc d x∧a.Own)∧v=a.v∧S=[row (.slice a.bn a.l.length a.c) 42 1 a.l.length (a.l.flatMap dh),U p (bH d) 196,row (.slice d.a.bn d.a.l.length d.a.c) 42 1 d.a.l.length ((cW d.a.l.length d.g).flatMap dh)]):=by
 refine dN 35 Tryz.func138 fun ba bf=>?_
 obtain⟨e,HS,Bu,HT,UG,UH⟩:=afL d h
 rw [show(U p (bH d) 196:ar B)=U p [.int .i64 (d.words:Int),.int .i64 (d.jz:Int),.slice e.bn e.l.length e.c,.slice d.b.bn d.b.l.length d.b.c,.bool d.on,.bool d.qa,.int .i64 d.a8,.int .u32 d.kd.toNat,.int .i64 d.ops] 196 from by show U p [.int .i64 (d.words:Int),.int .i64 (d.jz:Int),.slice d.a.bn d.a.l.length d.a.c,.slice d.b.bn d.b.l.length d.b.c,.bool d.on,.bool d.qa,.int .i64 d.a8,.int .u32 d.kd.toNat,.int .i64 d.ops] 196=_;rw [HT,UG,UH]]
 rw [show(row (.slice d.a.bn d.a.l.length d.a.c) 42 1 d.a.l.length ((cW d.a.l.length d.g).flatMap dh):ar B)=row (.slice e.bn e.l.length e.c) 42 1 e.l.length (e.l.flatMap dh)from by rw [←HS,HT,UG,UH]]
 refine gE dh 42 1 ?_
 have aH:=h.s
 have hw:=h.w
 have ahD:=h.n
 refine aj ?_
 refine cc ?_ ?_<;>intro ab
 ·exact aO ⟨an.bt,⟨by unfold rc;rw [if_pos ah];rfl,an.fk⟩,rfl,rfl⟩
 refine bD ?_ ?_<;>intro ae
 ·exact aO ⟨an.bt,⟨by unfold rc;rw [if_pos ah];rfl,an.fk⟩,rfl,rfl⟩
 obtain⟨k,rfl⟩:=Int.eq_ofNat_of_zero_le (show 0≤x by omega)
 have Me:(k+1)*d.words≤d.b.l.length*d.words:=Nat.mul_le_mul_right _ ah
 rw [Nat.succ_mul]at Me
 have hle:k*d.words+d.words≤e.l.length:=by omega
 have pA:k*d.words+d.words≤e.c:=Nat.le_trans hle e.cap
 have wN:(k:Int)*(d.words:Int)=((k*d.words:Nat):Int):=(Int.natCast_mul _ _).symm
 have qA:((k:Int)+1)*(d.words:Int)=((k*d.words+d.words:Nat):Int):=by rw [Int.add_mul,wN];omega
 have l3:=e.small
 refine aj ?_
 refine cZ [U p [.int .i64 (d.words:Int),.int .i64 (d.jz:Int),.slice e.bn e.l.length e.c,.slice d.b.bn d.b.l.length d.b.c,.bool d.on,.bool d.qa,.int .i64 d.a8,.int .u32 d.kd.toNat,.int .i64 d.ops] 196,row (.slice e.bn e.l.length e.c) 42 1 e.l.length (e.l.flatMap dh)] ad aA ?_
 refine aY [0,1,2,3,4,5,6,7,8] ?_
 refine bj 9 rfl (pp (m:=(k:Int)) (n:=(d.words:Int)) rfl rfl ah ah) ?_
 refine aY [10,11,12,13,14,15] ?_
 refine bj 16 rfl (pp (m:=(k:Int)+1) (n:=(d.words:Int)) rfl rfl ah ah) ?_
 refine bj 17 rfl (xm (a:=e) (aN:=1) (l:=k*d.words) (h:=k*d.words+d.words) (m:=e.c) rfl ad (by exact⟨_,congrArg (fun n:Int=>some (Value.int .i64 n)) wN⟩) (by exact⟨_,congrArg (fun n:Int=>some (Value.int .i64 n)) qA⟩) (by exact rfl) (by intro q;rfl) (Nat.le_add_right _ _) hle pA (Nat.le_refl _)) ?_
 refine aY [118] ?_
 refine p1 (a2:=dh) (c:=(an.bt:an (BitVec 32))) (b:=(e.cut 1 (k*d.words) (k*d.words+d.words) e.c (Nat.le_add_right _ _) hle pA)) rfl .no rfl rfl ad au dy au (C7 (fun _=>rfl) (dT Bu rfl)) (fun _=>rfl) (fun _=>rfl) (by show 0+((e.l.drop _).take _).length≤_;simp;omega) (by show(0+((e.l.drop _).take _).length)*_≤_;simp;omega) rfl (fun a a5 cO=>?_)
 refine df [19,99] ?_
 exact aO ⟨a,⟨by rw [a5];show(e.l.drop _).take _=_;rw [HS,Zh ah];unfold rc;rw [if_neg ah,Int.toNat_natCast],cO⟩,rfl,rfl⟩
abbrev pi(W L:Nat)(a:an (BitVec 32))(b:an Int):br:=⟨W,L,a,fun _=>mc,b,fun _=>0,true,false,0,0#32,0⟩
def uL(i:Nat):Nat→BitVec 32:=fun j=>if j<i then mc else 0#32
theorem Zi(i:Nat):bz (uL i) i mc=uL (i+1):=by
  funext j;unfold bz uL
  by_cases e:j=i
  · subst e;simp
  · rw [if_neg e]
    by_cases h:j<i
    · rw [if_pos h,if_pos (by omega)]
    · rw [if_neg h,if_neg (by omega)]
def uM(s:BitVec 32):Nat→BitVec 32
  |0=>s
  |n+1=>KW (uM s n)
def pr(g:Nat→BitVec 32)(f:Nat→BitVec 32→BitVec 32)(ec n:Nat):Nat→BitVec 32:=fun j=>if ec≤j∧j<ec+n then f (j-ec) (g j)else g j
theorem P7(g f ec):pr g f ec 0=g:=by funext j;unfold pr;rw [if_neg (by omega)]
theorem XZ(g f ec n):pr g f ec n (ec+n)=g (ec+n):=by unfold pr;rw [if_neg (by omega)]
theorem P8(g f ec n):bz (pr g f ec n) (ec+n) (f n (g (ec+n)))=pr g f ec (n+1):=by
  funext j;unfold bz pr
  by_cases e:j=ec+n
  · subst e;rw [if_pos rfl,if_pos (by omega),show ec+n-ec=n by omega]
  · rw [if_neg e]
    by_cases h:ec≤j∧j<ec+n
    · rw [if_pos h,if_pos (by omega)]
    · rw [if_neg h,if_neg (by omega)]
abbrev Q8(d:br)(k:Nat):Nat→BitVec 32:=pr d.g (fun j w=>w|||uM (nV d.kd) j) (k*d.words) d.words
abbrev Q9(d:br)(k:Nat):Nat→BitVec 32:=pr d.g (fun _ _=>mc) (k*d.words) d.words
abbrev br.k7(d:br)(k:Nat):br:=⟨d.words,d.jz,d.a,d.g,d.b,bz d.wr k (d.wr k+1),d.on,d.qa,d.a8,d.kd,d.ops⟩
def fm(d:br)(s:Int):br×Int:=
  if d.on=true then(if s<0∨s≥d.b.l.length then(d,60)else if d.wr s.toNat≥d.jz then(d,62)else
    if o0 d=true then((nw (d.k7 s.toNat)).v0 (Q8 d s.toNat),63)else((nw (d.k7 s.toNat)).v0 (Q9 d s.toNat),0))else(d,63)
theorem Kt{a:an (BitVec 32)}(aq:a.Own){l h m i:Nat}{ab:l≤h}{ae:h≤a.l.length}{av:h≤m}(aE:l<h):((a.cut 1 l h m ab ae av).bn.getD ⟨0,0,none⟩).add (i*1)=(a.bn.getD ⟨0,0,none⟩).add ((l+i)*1):=by
  have gr:a.bn≠none:=fun e=>by have:=a.nil e;rw [this]at ae;simp at ae;omega
  obtain⟨bu,tZ⟩:=Option.ne_none_iff_exists'.1 gr
  obtain⟨g,rfl⟩:=aq bu tZ
  have:(a.cut 1 l h m ab ae av).bn=some ((⟨g,0,none⟩:Addr).add (l*1)):=by simp [an.cut,tZ,show m≠l by omega]
  rw [this,tZ];simp only [Option.getD_some,nq]
  congr 1;omega
theorem afM(n W L:Nat)(aP:1≤n∧n≤64)(w1:1≤W∧W≤1024)(eM:L≤1048576):a6 B 60 [aa (n:Int),aa (W:Int),aa (L:Int)] [] (fun v S=>∃p a b,(a.l.length=n*W∧a.Own∧b.l.length=n∧b.Own)∧v= .tuple #[ag p,ak]∧S=[U p (bH (pi W L a b)) 196,cu (pi W L a b),fM (pi W L a b)]):=by
 refine dN 61 Tryz.func60 fun ba bf=>?_
 have sk:n*W≤64*1024:=Nat.mul_le_mul aP.2 w1.2
 have wN:(n:Int)*(W:Int)=((n*W:Nat):Int):=(Int.natCast_mul _ _).symm
 refine aj ?_
 refine cc ?_ ?_<;>intro ab
 ·omega
 refine cc ?_ ?_<;>intro ae
 ·omega
 refine cc ?_ ?_<;>intro av
 ·omega
 refine qW (t:=24) rfl (fun aV=>?_) (fun aV=>?_)
 ·replace aV:=gX aV
  omega
 replace aV:=gX aV
 refine hi ?_
 refine cc ?_ ?_<;>intro bN
 ·omega
 refine bD ?_ ?_<;>intro c0
 ·omega
 refine P0 ea 0 .no rfl rfl ad rfl (by omega) (by omega) rfl (fun c1 ob afN=>?_)
 have Tt:c1.l.length=n:=by rw [ob];simp
 have afO:c1.l.flatMap ea=(cW c1.l.length (fun _=>(0:Int))).flatMap ea:=by rw [←P6,Tt,ob]
 refine aj ?_
 refine fX (aF:=[aa (W:Int),aa (L:Int),bw,az c1,.bool true,.bool false,ak,db,ak]) fun ax=>?_
 refine ap (A6 (pp (m:=(n:Int)) (n:=(W:Int)) rfl rfl (by omega) (by omega)) (congrArg (fun z:Int=>Value.int .i64 z) wN)) ?_
 refine P0 dh 0#32 .no rfl rfl ad rfl (by omega) (by omega) rfl (fun bW rl Tu=>?_)
 have Tv:bW.l.length=n*W:=by rw [rl];simp
 have afP:bW.l.flatMap dh=(cW bW.l.length (uL 0)).flatMap dh:=by rw [show uL 0=fun _=>0#32 from by funext j;unfold uL;rw [if_neg (by omega)], ←P6,Tv,rl]
 refine wi ?_
 refine dn (az bW) ?_
 refine aj ?_
 rw [afP,afO]
 refine ds (α:=Nat) (fun i=>i≤bW.l.length) (fun i=>[(50,aa (i:Int)),(8,ag ax),(49,aa (bW.l.length:Int))]) (fun i=>[U ax [aa (W:Int),aa (L:Int),az bW,az c1,.bool true,.bool false,ak,db,ak] 196,row (az bW) 42 1 bW.l.length ((cW bW.l.length (uL i)).flatMap dh),row (az c1) 3 1 c1.l.length ((cW c1.l.length (fun _=>(0:Int))).flatMap ea)]) (fun i=>bW.l.length-i) 0 ?_ dq cd ?_
 ·exact Nat.zero_le _
 rintro i af
 have l3:=bW.small
 refine aj ?_
 refine c2 ?_ ?_<;>intro fO
 ·refine zi ?_
  refine dn (az bW) ?_
  refine cp ?_
  refine ap (jS (j:=i) rfl rfl ad (bW).fl rfl (by omega) rfl) ?_
  refine fq (vZ (a2:=dh) (i:=i) (y:=mc) (qw:=cW bW.l.length (uL (i+1))) Tu rfl rfl (fun _=>rfl) rfl rfl au ad (by rw [m1];omega) (by rw [As,Zi])) ?_
  refine aj ?_
  refine cE (i+1) ?_
  omega
 refine aj ?_
 obtain rfl:i=bW.l.length:=by omega
 rw [show cW bW.l.length (uL bW.l.length)=cW bW.l.length (fun _=>mc)from Zg fun j aI=>by unfold uL;rw [if_pos aI]]
 exact aO ⟨ax,bW,c1,⟨Tv,Tu,Tt,afN⟩,rfl,rfl⟩
theorem dB.k7{d:br}(h:dB d){k:Nat}(ai:d.wr k<d.jz):dB (d.k7 k):=
  ⟨h.s,h.w,h.n,h.rn,h.oj,h.e1,h.ops,h.a8,fun j=>by
    have:=h.x6 j;have:=h.x6 k;have:=h.rn
    show 0≤bz d.wr k (d.wr k+1) j∧bz d.wr k (d.wr k+1) j≤2000000
    unfold bz;split<;>omega⟩
theorem abf(p:Nat)(d:br)(h:dB d)(x:Int):di Tryz.prog B 177 [.pointer (some ⟨p,0,none⟩),.int .i64 x] [U p (bH d) 196,row (.slice d.a.bn d.a.l.length d.a.c) 42 1 d.a.l.length ((cW d.a.l.length d.g).flatMap dh),row (.slice d.b.bn d.b.l.length d.b.c) 3 1 d.b.l.length ((cW d.b.l.length d.wr).flatMap ea)] (fun v S=>v= .int .i64 (fm d x).2∧S=[U p (bH ((fm d x).1)) 196,row (.slice (fm d x).1.a.bn (fm d x).1.a.l.length (fm d x).1.a.c) 42 1 (fm d x).1.a.l.length ((cW (fm d x).1.a.l.length (fm d x).1.g).flatMap dh),row (.slice (fm d x).1.b.bn (fm d x).1.b.l.length (fm d x).1.b.c) 3 1 (fm d x).1.b.l.length ((cW (fm d x).1.b.l.length (fm d x).1.wr).flatMap ea)]):=by
 refine bM 99 Tryz.func177 fun ba bf=>?_
 refine bD ?_ ?_<;>intro ab
 ·rw [show fm d x=(d,63)from by unfold fm;rw [if_neg (by rw [ab];decide)]]
  exact bJ
 refine cc ?_ ?_<;>intro ae
 ·rw [show fm d x=(d,60)from by unfold fm;rw [if_pos ab,if_pos (by omega)]]
  exact bJ
 refine bD ?_ ?_<;>intro av
 ·rw [show fm d x=(d,60)from by unfold fm;rw [if_pos ab,if_pos (by omega)]]
  exact bJ
 obtain⟨k,rfl⟩:=Int.eq_ofNat_of_zero_le (show 0≤x by omega)
 have aH:=h.s
 have hw:=h.w
 have ahD:=h.n
 have Me:(k+1)*d.words≤d.b.l.length*d.words:=Nat.mul_le_mul_right _ (by omega)
 rw [Nat.succ_mul]at Me
 have hle:k*d.words+d.words≤d.a.l.length:=by omega
 have pA:k*d.words+d.words≤d.a.c:=Nat.le_trans hle d.a.cap
 have wN:(k:Int)*(d.words:Int)=((k*d.words:Nat):Int):=(Int.natCast_mul _ _).symm
 have qA:((k:Int)+1)*(d.words:Int)=((k*d.words+d.words:Nat):Int):=by rw [Int.add_mul,wN];omega
 have l3:=d.a.small
 have UI:=h.x6 k
 have ajH:=h.rn
 have jZ:(d.a.cut 1 (k*d.words) (k*d.words+d.words) d.a.c (Nat.le_add_right _ _) hle pA).l.length=d.words:=by simp [an.cut];omega
 refine aj ?_
 refine cZ [U p (bH d) 196,row (.slice d.b.bn d.b.l.length d.b.c) 3 1 d.b.l.length ((cW d.b.l.length d.wr).flatMap ea)] ad aA ?_
 refine aY [0,1,2,3,4] ?_
 refine bG 5 rfl (iW (j:=k) rfl rfl ad (d.b).fl rfl (by omega) rfl) ?_
 refine bj 6 rfl (eQ (a2:=ea) (aN:=1) (i:=k) (k:=0) (fun _=>rfl) rfl au (sD h.e1 rfl (m1 _ _)) ad (xt (by omega)) rfl) ?_
 refine df [7,8,9,10,11,12,99] ?_
 refine c2 ?_ ?_<;>intro aV
 ·refine aj ?_
  rw [show fm d (k:Int)=(d,62)from by unfold fm;rw [if_pos ab,if_neg (by omega),Int.toNat_natCast,if_pos aV]]
  exact bJ
 refine wi ?_
 refine ap (jS (j:=k) rfl rfl ad (d.b).fl rfl (by omega) rfl) ?_
 refine ap (eQ (a2:=ea) (aN:=1) (i:=k) (k:=0) (fun _=>rfl) rfl au (sD h.e1 rfl (m1 _ _)) ad (xt (by omega)) rfl) ?_
 refine ap (mE (m:=d.wr k) (n:=1) rfl rfl (by omega) (by omega)) ?_
 refine ap (jS (j:=k) rfl rfl ad (d.b).fl rfl (by omega) rfl) ?_
 refine fq (vZ (a2:=ea) (i:=k) (y:=d.wr k+1) (qw:=cW d.b.l.length (bz d.wr k (d.wr k+1))) h.e1 rfl rfl (fun _=>rfl) rfl rfl au ad (by rw [m1];omega) As) ?_
 refine aj ?_
 refine cZ [U p (bH d) 196] ad aA ?_
 refine aY [0,1,2,3,4,5,6,7,8] ?_
 refine bj 9 rfl (pp (m:=(k:Int)) (n:=(d.words:Int)) rfl rfl (by omega) (by omega)) ?_
 refine aY [10,11,12,13,14,15] ?_
 refine bj 16 rfl (pp (m:=(k:Int)+1) (n:=(d.words:Int)) rfl rfl (by omega) (by omega)) ?_
 refine bj 17 rfl (xm (a:=d.a) (aN:=1) (l:=k*d.words) (h:=k*d.words+d.words) (m:=d.a.c) rfl ad (by exact⟨_,congrArg (fun n:Int=>some (Value.int .i64 n)) wN⟩) (by exact⟨_,congrArg (fun n:Int=>some (Value.int .i64 n)) qA⟩) (by exact rfl) (by intro q;rfl) (Nat.le_add_right _ _) hle pA (Nat.le_refl _)) ?_
 refine df [18,99] ?_
 refine eR (Si p (d.k7 k) (h.k7 (by omega))) ?_
 rw [show o0 (d.k7 k)=o0 d from rfl]
 refine aj ?_
 refine c2 ?_ ?_<;>intro bN
 ·refine aj ?_
  refine gj (Sg d.kd) ?_
  refine fe fun ax=>?_
  refine ky ?_
  refine ap (A6 (Bt rfl ad) (congrArg (fun n:Nat=>Value.int .i64 (n:Int)) jZ)) ?_
  refine aj ?_
  rw [show cW d.a.l.length d.g=cW d.a.l.length (pr d.g (fun j w=>w|||uM (nV d.kd) j) (k*d.words) 0)from by rw [P7]]
  refine ds (α:=Nat) (fun i=>i≤d.words) (fun i=>[(77,.int .i64 (i:Int)),(0,.pointer (some ⟨p,0,none⟩)),(5,.slice (d.a.cut 1 (k*d.words) (k*d.words+d.words) d.a.c (Nat.le_add_right _ _) hle pA).bn (d.a.cut 1 (k*d.words) (k*d.words+d.words) d.a.c (Nat.le_add_right _ _) hle pA).l.length (d.a.cut 1 (k*d.words) (k*d.words+d.words) d.a.c (Nat.le_add_right _ _) hle pA).c),(76,.int .i64 (d.words:Int)),(6,.pointer (some ⟨ax,0,none⟩))]) (fun i=>[U p (bH ((nw (d.k7 k)))) 196,row (.slice d.a.bn d.a.l.length d.a.c) 42 1 d.a.l.length ((cW d.a.l.length (pr d.g (fun j w=>w|||uM (nV d.kd) j) (k*d.words) i)).flatMap dh),row (.slice (d.k7 k).b.bn (d.k7 k).b.l.length (d.k7 k).b.c) 3 1 (d.k7 k).b.l.length ((cW (d.k7 k).b.l.length (d.k7 k).wr).flatMap ea),U ax [.int .u32 (uM (nV d.kd) i).toNat] 364]) (fun i=>d.words-i) 0 ?_ dq cd ?_
  ·exact Nat.zero_le _
  rintro i af
  have ahE:=h.w
  refine bT ?_ ?_<;>intro c0
  ·refine cZ [row (.slice d.a.bn d.a.l.length d.a.c) 42 1 d.a.l.length ((cW d.a.l.length (pr d.g (fun j w=>w|||uM (nV d.kd) j) (k*d.words) i)).flatMap dh)] ad aA ?_
   refine aY [0,1,2,3] ?_
   refine bG 4 rfl (Sd (iW (j:=i) rfl rfl ad (d.a.cut 1 (k*d.words) (k*d.words+d.words) d.a.c (Nat.le_add_right _ _) hle pA).fl rfl (by omega) rfl) (congrArg (fun z=>Value.pointer (some z)) (Kt h.oj (by omega)))) ?_
   refine bj 5 rfl (eQ (a2:=dh) (aN:=1) (i:=k*d.words+i) (k:=0) (a:=(d.g (k*d.words+i))) (fun _=>rfl) rfl au (sD h.oj rfl (m1 _ _)) ad (by rw [xt (by omega),XZ]) rfl) ?_
   refine gb 6 (Sh ax (uM (nV d.kd) i)) ?_
   refine aY [107] ?_
   refine gU (abc (d.g (k*d.words+i)) (uM (nV d.kd) i)) ?_
   refine bG 8 rfl (Sd (iW (j:=i) rfl rfl ad (d.a.cut 1 (k*d.words) (k*d.words+d.words) d.a.c (Nat.le_add_right _ _) hle pA).fl rfl (by omega) rfl) (congrArg (fun z=>Value.pointer (some z)) (Kt h.oj (by omega)))) ?_
   refine aY [109] ?_
   refine l4 rfl dy (vZ (a2:=dh) (i:=k*d.words+i) (y:=(d.g (k*d.words+i))|||(uM (nV d.kd) i)) (qw:=cW d.a.l.length (pr d.g (fun j w=>w|||uM (nV d.kd) j) (k*d.words) (i+1))) h.oj rfl rfl (fun _=>rfl) rfl rfl au ad (by rw [m1];omega) (by rw [As, ←P8])) ?_
   refine df [99] ?_
   refine cE (i+1) ?_
   omega
  obtain rfl:i=d.words:=by omega
  rw [show fm d (k:Int)=((nw (d.k7 k)).v0 (Q8 d k),63)from by unfold fm;rw [if_pos ab,if_neg (by omega),Int.toNat_natCast,if_neg (by omega),if_pos bN]]
  exact bJ
 refine ky ?_
 refine ap (A6 (Bt rfl ad) (congrArg (fun n:Nat=>Value.int .i64 (n:Int)) jZ)) ?_
 refine aj ?_
 rw [show cW d.a.l.length d.g=cW d.a.l.length (pr d.g (fun _ _=>mc) (k*d.words) 0)from by rw [P7]]
 refine ds (α:=Nat) (fun i=>i≤d.words) (fun i=>[(92,.int .i64 (i:Int)),(0,.pointer (some ⟨p,0,none⟩)),(5,.slice (d.a.cut 1 (k*d.words) (k*d.words+d.words) d.a.c (Nat.le_add_right _ _) hle pA).bn (d.a.cut 1 (k*d.words) (k*d.words+d.words) d.a.c (Nat.le_add_right _ _) hle pA).l.length (d.a.cut 1 (k*d.words) (k*d.words+d.words) d.a.c (Nat.le_add_right _ _) hle pA).c),(91,.int .i64 (d.words:Int))]) (fun i=>[U p (bH ((nw (d.k7 k)))) 196,row (.slice d.a.bn d.a.l.length d.a.c) 42 1 d.a.l.length ((cW d.a.l.length (pr d.g (fun _ _=>mc) (k*d.words) i)).flatMap dh),row (.slice (d.k7 k).b.bn (d.k7 k).b.l.length (d.k7 k).b.c) 3 1 (d.k7 k).b.l.length ((cW (d.k7 k).b.l.length (d.k7 k).wr).flatMap ea)]) (fun i=>d.words-i) 0 ?_ dq cd ?_
 ·exact Nat.zero_le _
 rintro i af
 have ahE:=h.w
 refine aj ?_
 refine c2 ?_ ?_<;>intro fO
 ·refine xS ?_
  refine ap (A6 (jS (j:=i) rfl rfl ad (d.a.cut 1 (k*d.words) (k*d.words+d.words) d.a.c (Nat.le_add_right _ _) hle pA).fl rfl (by omega) rfl) (congrArg (fun z=>Value.pointer (some z)) (Kt h.oj (by omega)))) ?_
  refine fq (vZ (a2:=dh) (i:=k*d.words+i) (y:=mc) (qw:=cW d.a.l.length (pr d.g (fun _ _=>mc) (k*d.words) (i+1))) h.oj rfl rfl (fun _=>rfl) rfl rfl au ad (by rw [m1];omega) (by rw [As, ←P8])) ?_
  refine aj ?_
  refine cE (i+1) ?_
  omega
 refine aj ?_
 obtain rfl:i=d.words:=by omega
 rw [show fm d (k:Int)=((nw (d.k7 k)).v0 (Q9 d k),0)from by unfold fm;rw [if_pos ab,if_neg (by omega),Int.toNat_natCast,if_neg (by omega),if_neg (by rw [bN];decide)]]
 exact bJ
abbrev ff(l:List (BitVec 32))(i:Nat):BitVec 32:=(l[i]?).getD mc
structure IA where
  seq:BitVec 32
  n2:BitVec 32
  wO:BitVec 32
  valid:Bool
  pB:Bool
  yS:Int
abbrev xC(h:IA):List Value:=[aQ h.seq.toNat,aQ h.n2.toNat,aQ h.wO.toNat,.bool h.valid,.bool h.pB,aa h.yS]
abbrev sG(l:List (BitVec 32))(i:Nat):Bool:=decide (ff l (i+1)= ~~~(ff l i))
abbrev HU(l:List (BitVec 32))(i:Nat)(w:BitVec 32):Bool:=decide (ff l i=w)&&decide (ff l (i+1)= ~~~w)
def ka(l:List (BitVec 32)):Bool:=sG l 0&&sG l 2&&sG l 4&&HU l 6 1668246893#32
def nW(l:List (BitVec 32)):Bool:=ka l&&HU l 8 1668247142#32
def mB(l:List (BitVec 32)):Nat→Int
  |0=>0
  |n+1=>if ff l (10+n)=mc then mB l n else mB l n+1
theorem NA(l:List (BitVec 32)):∀n:Nat,0≤mB l n∧mB l n≤n
  |0=>by unfold mB;omega
  |n+1=>by have:=NA l n;unfold mB;split<;>omega
def ke(l:List (BitVec 32)):IA:=if ka l=true then⟨ff l 0,ff l 2,ff l 4,true,nW l,mB l 3⟩else⟨0#32,0#32,0#32,false,nW l,mB l 3⟩
theorem Ku{l:List (BitVec 32)}{i:Nat}{w:BitVec 32}(h:l[i]?=some w):ff l i=w:=by unfold ff;rw [h];rfl
theorem Ra{l:List (BitVec 32)}{i:Nat}(h:l.length≤i):ff l i=mc:=by unfold ff;rw [List.getElem?_eq_none_iff.2 h];rfl
def rY(l:List (BitVec 32)):Int×Bool:=match(List.range 3).find? (fun i=>decide (ff l (10+i)=mc))with
  |some i=>((10+i:Nat),true)
  |none=>(0,false)
theorem Sj{a b:BitVec 32}:((a.toNat:Int)=(b.toNat:Int))↔a=b:=⟨fun h=>BitVec.eq_of_toNat_eq (by omega),fun h=>by rw [h]⟩
theorem Mf(b:Nat)(l:an (BitVec 32))(aE:dI K l.bu (l.l.flatMap dh))(i:Nat)(af:i≤100):a6 B 248 [aa (i:Int),ag b] [U b [az l] 46,K] (fun v S=>v=aQ (ff l.l i).toNat∧S=[U b [az l] 46,K]):=by
 refine bM 12 Tryz.func248 fun ba bf=>?_
 refine bD ?_ ?_<;>intro ab
 ·obtain⟨w,bl⟩:=fp l.l i
  refine aj ?_
  refine ap (eQ (a2:=dh) (aN:=1) (i:=i) (k:=0) (fun _=>rfl) rfl au aE ad bl rfl) ?_
  refine aj ?_
  exact aO ⟨by rw [Ku bl],rfl⟩
 exact aO ⟨by rw [Ra ah];rfl,rfl⟩
theorem Ej(c:Nat)(b:Nat)(l:an (BitVec 32))(aE:dI K l.bu (l.l.flatMap dh))(i:Nat)(af:i≤90):a6 B 249 [aa (i:Int),ag c] [U c [.func (.func 248) #[] #[ag b]] 401,U b [az l] 46,K] (fun v S=>v= .agg #[aQ (ff l.l i).toNat,aQ (ff l.l (i+1)).toNat]∧S=[U c [.func (.func 248) #[] #[ag b]] 401,U b [az l] 46,K]):=by
 refine bM 12 Tryz.func249 fun ba bf=>?_
 refine de fun ax=>?_
 refine cZ [U c [.func (.func 248) #[] #[ag b]] 401] ad aA ?_
 refine aY [0,1,3,4,5,102] ?_
 refine OL rfl .no fF rfl rfl dy (Mf b l aE i ah) aA rfl ?_
 rintro _ _ ⟨rfl,rfl⟩
 refine bP ?_
 refine gv ?_
 refine aY [106] ?_
 refine OL rfl .no fF rfl rfl dy (Mf b l aE (i+1) ah) aA rfl ?_
 rintro _ _ ⟨rfl,rfl⟩
 refine bP ?_
 refine gv ?_
 refine df [7,108,99] ?_
 refine g2 ?_
 exact bJ
theorem AQ(l:an (BitVec 32))(aE:dI K l.bu (l.l.flatMap dh)):a6 B 198 [az l] [K] (fun v S=>v= .agg (xC (ke l.l)).toArray∧S=[K]):=by
 refine bM 69 Tryz.func198 fun ba bf=>?_
 refine eD fun ax=>?_
 refine de fun aK=>?_
 refine de fun bq=>?_
 refine Ao .no fF rfl rfl (Ej bq ax l aE 0 ah) aA rfl ?_
 rintro _ _ ⟨rfl,rfl⟩
 refine cx ?_
 refine Ao .no fF rfl rfl (Ej bq ax l aE 2 ah) aA rfl ?_
 rintro _ _ ⟨rfl,rfl⟩
 refine cx ?_
 refine Ao .no fF rfl rfl (Ej bq ax l aE 4 ah) aA rfl ?_
 rintro _ _ ⟨rfl,rfl⟩
 refine bP ?_
 refine fe fun bV=>?_
 refine fe fun dp=>?_
 refine de fun ln=>?_
 refine fe fun kX=>?_
 refine gI ?_
 refine jT (α:=Unit) (fun _=>True) (fun _=>[(1,ag ax),(2,ag aK),(3,ag bq),(4,.func (.func 249) #[] #[ag bq]),(5,ag bV),(6,ag dp),(7,ag ln),(8,ag kX)]) (fun _=>[U ax [az l] 46,U bq [.func (.func 248) #[] #[ag ax]] 401,U aK [db,db,db,.bool false,.bool false,ak] 278,U kX [aQ (ff l.l 0).toNat,aQ (ff l.l 2).toNat,aQ (ff l.l 4).toNat,.bool (ka l.l),.bool false,ak] 278,K]) ?_ ?_
 ·skip
  refine cp ?_
  refine du [aQ (ff l.l 0).toNat,aQ (ff l.l (0+1)).toNat] ?_
  refine gl (Kr (ff l.l 0) (ff l.l (0+1))) ?_
  refine pJ ?_ ?_<;>intro ab
  ·refine du [aQ (ff l.l 2).toNat,aQ (ff l.l (2+1)).toNat] ?_
   refine gl (Kr (ff l.l 2) (ff l.l (2+1))) ?_
   refine pJ ?_ ?_<;>intro ae
   ·refine du [aQ (ff l.l 4).toNat,aQ (ff l.l (4+1)).toNat] ?_
    refine gl (Kr (ff l.l 4) (ff l.l (4+1))) ?_
    refine qW (t:=36) rfl (fun av=>?_) (fun av=>?_)
    ·replace av:=gX av
     refine aj ?_
     refine Ao (.yes 36 rfl rfl rfl) fF rfl rfl (Ej bq ax l aE 6 ah) aA rfl ?_
     rintro _ _ ⟨rfl,rfl⟩
     refine bP ?_
     refine gj (UE (ff l.l 6) (ff l.l (6+1)) 1668246893#32) ?_
     refine gI ?_
     refine fq (js (k:=3) (ga:=[aQ (ff l.l 0).toNat,aQ (ff l.l 2).toNat,aQ (ff l.l 4).toNat,.bool (ka l.l),.bool false,ak]) rfl rfl rfl au ad rfl (by show [_,_,_,Value.bool _,_,_]=_;rw [show ka l.l=(HU l.l 6 1668246893#32)from by unfold ka;rw [show sG l.l 0=true from decide_eq_true ab,show sG l.l 2=true from decide_eq_true ae,show sG l.l 4=true from decide_eq_true av];rfl];try rfl)) ?_
     refine aj ?_
     exact ez () trivial
    replace av:=gX av
    refine gN ?_
    refine fq (js (k:=3) (ga:=[aQ (ff l.l 0).toNat,aQ (ff l.l 2).toNat,aQ (ff l.l 4).toNat,.bool (ka l.l),.bool false,ak]) rfl rfl rfl au ad rfl (by show [_,_,_,Value.bool _,_,_]=_;rw [show ka l.l=false from by unfold ka;rw [show sG l.l 0=true from decide_eq_true ab,show sG l.l 2=true from decide_eq_true ae,show sG l.l 4=false from decide_eq_false av];rfl];try rfl)) ?_
    refine aj ?_
    exact ez () trivial
   refine nH ?_
   refine fq (js (k:=3) (ga:=[aQ (ff l.l 0).toNat,aQ (ff l.l 2).toNat,aQ (ff l.l 4).toNat,.bool (ka l.l),.bool false,ak]) rfl rfl rfl au ad rfl (by show [_,_,_,Value.bool _,_,_]=_;rw [show ka l.l=false from by unfold ka;rw [show sG l.l 0=true from decide_eq_true ab,show sG l.l 2=false from decide_eq_false ae];rfl];try rfl)) ?_
   refine aj ?_
   exact ez () trivial
  refine zi ?_
  refine fq (js (k:=3) (ga:=[aQ (ff l.l 0).toNat,aQ (ff l.l 2).toNat,aQ (ff l.l 4).toNat,.bool (ka l.l),.bool false,ak]) rfl rfl rfl au ad rfl (by show [_,_,_,Value.bool _,_,_]=_;rw [show ka l.l=false from by unfold ka;rw [show sG l.l 0=false from decide_eq_false ab];rfl];try rfl)) ?_
  refine aj ?_
  exact ez () trivial
 rintro _ _
 refine jT (α:=Unit) (fun _=>True) (fun _=>[(1,ag ax),(2,ag aK),(3,ag bq),(4,.func (.func 249) #[] #[ag bq]),(8,ag kX)]) (fun _=>[U ax [az l] 46,U bq [.func (.func 248) #[] #[ag ax]] 401,U aK [db,db,db,.bool false,.bool false,ak] 278,U kX [aQ (ff l.l 0).toNat,aQ (ff l.l 2).toNat,aQ (ff l.l 4).toNat,.bool (ka l.l),.bool (nW l.l),ak] 278,K]) ?_ ?_
 ·skip
  refine gI ?_
  refine dn (.bool (ka l.l)) ?_
  refine aj ?_
  refine qW (t:=44) rfl (fun aV=>?_) (fun aV=>?_)
  ·replace aV:=gX aV
   refine aj ?_
   refine Ao (.yes 44 rfl rfl rfl) fF rfl rfl (Ej bq ax l aE 8 ah) aA rfl ?_
   rintro _ _ ⟨rfl,rfl⟩
   refine bP ?_
   refine gj (UE (ff l.l 8) (ff l.l (8+1)) 1668247142#32) ?_
   refine gI ?_
   refine fq (js (k:=4) (ga:=[aQ (ff l.l 0).toNat,aQ (ff l.l 2).toNat,aQ (ff l.l 4).toNat,.bool (ka l.l),.bool (nW l.l),ak]) rfl rfl rfl au ad rfl (by show [_,_,_,_,Value.bool _,_]=_;rw [show nW l.l=(HU l.l 8 1668247142#32)from by unfold nW;rw [aV];rfl];try rfl)) ?_
   refine aj ?_
   exact ez () trivial
  replace aV:=gX aV
  refine gN ?_
  refine fq (js (k:=4) (ga:=[aQ (ff l.l 0).toNat,aQ (ff l.l 2).toNat,aQ (ff l.l 4).toNat,.bool (ka l.l),.bool (nW l.l),ak]) rfl rfl rfl au ad rfl (by show [_,_,_,_,Value.bool _,_]=_;rw [show nW l.l=false from by unfold nW;rw [aV];rfl];try rfl)) ?_
  refine aj ?_
  exact ez () trivial
 rintro _ _
 refine jT (α:=Unit) (fun _=>True) (fun _=>[(1,ag ax),(2,ag aK),(3,ag bq),(4,.func (.func 249) #[] #[ag bq]),(8,ag kX)]) (fun _=>[U ax [az l] 46,U bq [.func (.func 248) #[] #[ag ax]] 401,U aK [db,db,db,.bool false,.bool false,ak] 278,U kX [aQ (ke l.l).seq.toNat,aQ (ke l.l).n2.toNat,aQ (ke l.l).wO.toNat,.bool (ka l.l),.bool (nW l.l),aa (mB l.l 0)] 278,K]) ?_ ?_
 ·skip
  refine iK ?_
  refine dn (.bool (ka l.l)) ?_
  refine bT ?_ ?_<;>intro bN
  ·refine fq (AM (ga:=[db,db,db,.bool (ka l.l),.bool (nW l.l),ak]) rfl rfl (by simp [Value.oneCell']) au ad rfl (by rfl) (by rfl)) ?_
   refine aj ?_
   rw [show(U kX [db,db,db,.bool (ka l.l),.bool (nW l.l),ak] 278:ar B)=U kX [aQ (ke l.l).seq.toNat,aQ (ke l.l).n2.toNat,aQ (ke l.l).wO.toNat,.bool (ka l.l),.bool (nW l.l),aa (mB l.l 0)] 278 from by unfold ke;rw [if_neg (by rw [bN];decide)];rfl]
   exact ez () trivial
  rw [show(U kX [aQ (ff l.l 0).toNat,aQ (ff l.l 2).toNat,aQ (ff l.l 4).toNat,.bool (ka l.l),.bool (nW l.l),ak] 278:ar B)=U kX [aQ (ke l.l).seq.toNat,aQ (ke l.l).n2.toNat,aQ (ke l.l).wO.toNat,.bool (ka l.l),.bool (nW l.l),aa (mB l.l 0)] 278 from by unfold ke;rw [if_pos bN];rfl]
  exact ez () trivial
 rintro _ _
 refine aj ?_
 refine ds (α:=Nat) (fun i=>i≤3) (fun i=>[(55,aa (i:Int)),(2,ag aK),(3,ag bq),(8,ag kX)]) (fun i=>[U ax [az l] 46,U bq [.func (.func 248) #[] #[ag ax]] 401,U aK [db,db,db,.bool false,.bool false,ak] 278,U kX [aQ (ke l.l).seq.toNat,aQ (ke l.l).n2.toNat,aQ (ke l.l).wO.toNat,.bool (ka l.l),.bool (nW l.l),aa (mB l.l i)] 278,K]) (fun i=>3-i) 0 ?_ dq aA ?_
 ·omega
 rintro i af
 have ajI:=NA l.l i
 refine aj ?_
 refine c2 ?_ ?_<;>intro c0
 ·refine DP ?_
  refine dn (.func (.func 248) #[] #[ag ax]) ?_
  refine aj ?_
  refine Ao .no fF rfl rfl (Mf ax l aE (10+i) ah) aA rfl ?_
  rintro _ _ ⟨rfl,rfl⟩
  refine cx ?_
  refine c2 ?_ ?_<;>intro fO
  ·refine gI ?_
   refine dn (aa (mB l.l i)) ?_
   refine aj ?_
   rw [show mB l.l i+1=mB l.l (i+1)from by rw [mB,if_neg (fun q=>fO (by rw [q];rfl))]]
   refine cE (i+1) ?_
   omega
  refine aj ?_
  rw [show mB l.l i=mB l.l (i+1)from by rw [mB,if_pos (Sj.1 fO)]]
  refine cE (i+1) ?_
  omega
 obtain rfl:i=3:=by omega
 refine l5 ?_
 refine du [aQ (ke l.l).seq.toNat,aQ (ke l.l).n2.toNat,aQ (ke l.l).wO.toNat,.bool (ka l.l),.bool (nW l.l),aa (mB l.l 3)] ?_
 refine aj ?_
 refine g2 ?_
 exact aO ⟨by show _=Value.agg (xC (ke l.l)).toArray;have cb:(ke l.l).valid=ka l.l:=by {unfold ke;split<;>rename_i q<;>simp [q]};have cq:(ke l.l).pB=nW l.l:=by {unfold ke;split<;>rfl};have fP:(ke l.l).yS=mB l.l 3:=by {unfold ke;split<;>rfl};unfold xC;rw [cb,cq,fP],rfl⟩
theorem P9{l:List (BitVec 32)}{i:Nat}(af:i<3)(cN:∀j,j<i→ff l (10+j)≠mc)(h:ff l (10+i)=mc):rY l=(((10+i:Nat):Int),true):=by
  have:(List.range 3).find? (fun i=>decide (ff l (10+i)=mc))=some i:=by
    rw [List.find?_range_eq_some]
    exact⟨by simpa using h,by simpa using af,fun j aI=>by simpa using cN j aI⟩
  unfold rY;rw [this]
theorem Zj{l:List (BitVec 32)}(cN:∀j,j<3→ff l (10+j)≠mc):rY l=(0,false):=by
  have:(List.range 3).find? (fun i=>decide (ff l (10+i)=mc))=none:=by
    rw [List.find?_eq_none];intro u hu;simpa using cN u (List.mem_range.1 hu)
  unfold rY;rw [this]
abbrev rp(p:Nat×BitVec 32):Value:= .agg #[aa (p.1:Int),aQ p.2.toNat]
abbrev lW(a:Nat)(w:BitVec 32):List (Nat×BitVec 32):=[(a,w),(a+1,~~~w)]
theorem adD(l:an (BitVec 32))(aE:dI K l.bu (l.l.flatMap dh)):a6 B 137 [az l] [K] (fun v S=>v= .tuple #[aa (rY l.l).1,.bool (rY l.l).2]∧S=[K]):=by
 refine bM 24 Tryz.func137 fun ba bf=>?_
 refine ds (α:=Nat) (fun i=>i≤3∧∀j,j<i→ff l.l (10+j)≠mc) (fun i=>[(5,aa (i:Int)),(0,az l)]) (fun i=>[K]) (fun i=>3-i) 0 ?_ dq aA ?_
 ·exact⟨by omega,fun j aI=>absurd aI ah⟩
 rintro i ⟨af,cN⟩
 refine bT ?_ ?_<;>intro ab
 ·refine cc ?_ ?_<;>intro ae
  ·exact aO ⟨by rw [P9 ah cN (Ra ah)];rfl,rfl⟩
  obtain⟨w,bl⟩:=fp l.l (10+i)
  refine aj ?_
  refine ap (jS (j:=(10+i)) rfl rfl ad (l).fl (by omega:(10:Int)+(i:Int)=((10+i:Nat):Int)) ah rfl) ?_
  refine ap (eQ (a2:=dh) (aN:=1) (i:=(10+i)) (k:=0) (fun _=>rfl) rfl au aE ad bl rfl) ?_
  refine bT ?_ ?_<;>intro av
  ·exact aO ⟨by rw [P9 ah cN (by rw [Ku bl];exact Sj.1 av)];rfl,rfl⟩
  exact cE (i+1) ⟨by omega,fun j aI=>by rcases Nat.lt_succ_iff_lt_or_eq.1 aI with q|rfl;exact cN j q;exact fun q=>av (by rw [Ku bl]at q;rw [q];rfl)⟩
 obtain rfl:i=3:=by omega
 refine aj ?_
 exact aO ⟨by rw [Zj cN],rfl⟩
theorem Dd(cr:Nat)(a:Nat)(a5:a≤100)(w:BitVec 32)(n:Nat)(J hc:Nat→List (ar B)→Prop)(cV:List (ar B))(bo:J n cV)(pK:∀S,J n S→oP Tryz.prog B cr [rp (a,w)] S (fun b bc=>(b=true∧J (n+1) bc)∨(b=false∧hc (n) bc)))(zy:∀S,J (n+1) S→oP Tryz.prog B cr [rp (a+1,~~~w)] S (fun b bc=>(b=true∧J (n+1+1) bc)∨(b=false∧hc (n+1) bc))):a6 B 236 [.func (.yield cr) #[] #[],aa (a:Int),aQ w.toNat] cV (fun v S=>∃b,v= .bool b∧((b=true∧J (n+2) S)∨(b=false∧∃j,n≤j∧j<n+2∧hc j S))):=by
 refine bM 25 Tryz.func236 fun ba bf=>?_
 refine gj (UD w) ?_
 refine de fun ax=>?_
 refine iq (own:=[U ax [aQ w.toNat,aQ (~~~w).toNat] 403]) (hM:=cV) .no rfl rfl (pK cV bo) rfl ?_
 rintro jP aU aC
 refine cx ?_
 refine cc ?_ ?_<;>intro ab
 ·obtain⟨_,aC⟩|⟨q,_⟩:=aC
  rotate_left
  ·rw [q]at ab;cases ab
  refine aj ?_
  refine iq (own:=[U ax [aQ w.toNat,aQ (~~~w).toNat] 403]) (hM:=aU) (.yes 16 rfl rfl rfl) rfl rfl (zy aU aC) rfl ?_
  rintro aK bh iy
  refine cx ?_
  exact⟨bh,⟨aK,rfl,iy.imp id (fun q=>⟨q.1,_,by omega,by omega,q.2⟩)⟩,_,aA⟩
 obtain⟨q,_⟩|⟨_,aC⟩:=aC
 ·rw [q]at ab;cases ab
 refine aj ?_
 exact⟨aU,⟨false,rfl,.inr ⟨rfl,_,by omega,by omega,aC⟩⟩,_,aA⟩
theorem Qa(x y z:BitVec 32):a6 B 183 [.agg #[aQ x.toNat,aQ y.toNat,aQ z.toNat]] [] (fun v S=>∃b,v= .func (.func 235) #[] #[ag b]∧S=[U b [aQ x.toNat,aQ y.toNat,aQ z.toNat] 276]):=by
 refine bM 4 Tryz.func183 fun ba bf=>?_
 refine fX (aF:=[aQ x.toNat,aQ y.toNat,aQ z.toNat]) fun ax=>?_
 exact aO ⟨ax,rfl,rfl⟩
theorem WX(b:Nat)(x y z:BitVec 32):n9 Tryz.prog B 235 [ag b] [U b [aQ x.toNat,aQ y.toNat,aQ z.toNat] 276] ((lW 0 x++lW 2 y++lW 4 z).map fun p=>[rp p]):=by
 intro cr J hc cV g7 aZ
 change di _ _ _ _ (U b [aQ x.toNat,aQ y.toNat,aQ z.toNat] 276::cV) _
 refine bM 19 Tryz.func235 fun ba bf=>?_
 refine cm (Dd cr 0 (by decide) x 0 J hc cV g7 (fun S q=>aZ 0 S (by simp [lW]) q) (fun S q=>aZ 1 S (by simp [lW]) q)) ?_
 rintro _ aU ⟨c6,rfl,Bv⟩
 try refine bP ?_
 refine aj ?_
 refine cc ?_ ?_<;>intro ab
 ·obtain⟨_,ml⟩|⟨q,_⟩:=Bv
  rotate_left
  ·rw [q]at ab;cases ab
  refine aj ?_
  refine cm (Dd cr 2 (by decide) y 2 J hc aU ml (fun S q=>aZ 2 S (by simp [lW]) q) (fun S q=>aZ 3 S (by simp [lW]) q)) ?_
  rintro _ bh ⟨bW,rfl,iy⟩
  try refine bP ?_
  refine aj ?_
  refine cc ?_ ?_<;>intro ae
  ·obtain⟨_,Ef⟩|⟨q,_⟩:=iy
   rotate_left
   ·rw [q]at ae;cases ae
   refine aj ?_
   refine cm (Dd cr 4 (by decide) z 4 J hc bh Ef (fun S q=>aZ 4 S (by simp [lW]) q) (fun S q=>aZ 5 S (by simp [lW]) q)) ?_
   rintro _ cS ⟨IB,rfl,ahF⟩
   try refine bP ?_
   refine aj ?_
   obtain⟨_,nI⟩|⟨_,j,cy,bR,gD⟩:=ahF
   ·exact⟨U b [aQ x.toNat,aQ y.toNat,aQ z.toNat] 276::cS,⟨cS,rfl,.inl nI⟩,_,aA⟩
   exact⟨U b [aQ x.toNat,aQ y.toNat,aQ z.toNat] 276::cS,⟨cS,rfl,.inr ⟨j,by show j<6;omega,gD⟩⟩,_,aA⟩
  obtain⟨q,_⟩|⟨_,j,cy,bR,gD⟩:=iy
  ·rw [q]at ae;cases ae
  refine aj ?_
  exact⟨U b [aQ x.toNat,aQ y.toNat,aQ z.toNat] 276::bh,⟨bh,rfl,.inr ⟨j,by show j<6;omega,gD⟩⟩,_,aA⟩
 obtain⟨q,_⟩|⟨_,j,cy,bR,gD⟩:=Bv
 ·rw [q]at ab;cases ab
 refine aj ?_
 exact⟨U b [aQ x.toNat,aQ y.toNat,aQ z.toNat] 276::aU,⟨aU,rfl,.inr ⟨j,by show j<6;omega,gD⟩⟩,_,aA⟩
theorem OU:a6 B 184 [] [] (fun v S=>v= .func (.func 237) #[] #[]∧S=[]):=by
 refine bM 1 Tryz.func184 fun ba bf=>?_
 exact bJ
theorem Wr:n9 Tryz.prog B 237 [] [] ((lW 6 1668246893#32).map fun p=>[rp p]):=by
 intro cr J hc cV g7 aZ
 change di _ _ _ _ cV _
 refine bM 4 Tryz.func237 fun ba bf=>?_
 refine cm (Dd cr 6 (by decide) 1668246893#32 0 J hc cV g7 (fun S q=>aZ 0 S (by simp [lW]) q) (fun S q=>aZ 1 S (by simp [lW]) q)) ?_
 rintro _ aU ⟨c6,rfl,Bv⟩
 try refine bP ?_
 refine aj ?_
 obtain⟨_,ml⟩|⟨_,j,cy,bR,gD⟩:=Bv
 ·exact⟨aU,⟨aU,rfl,.inl ml⟩,_,aA⟩
 exact⟨aU,⟨aU,rfl,.inr ⟨j,by show j<2;omega,gD⟩⟩,_,aA⟩
theorem WY:a6 B 185 [] [] (fun v S=>v= .func (.func 238) #[] #[]∧S=[]):=by
 refine bM 1 Tryz.func185 fun ba bf=>?_
 exact bJ
theorem We:n9 Tryz.prog B 238 [] [] ((lW 8 1668247142#32).map fun p=>[rp p]):=by
 intro cr J hc cV g7 aZ
 change di _ _ _ _ cV _
 refine bM 4 Tryz.func238 fun ba bf=>?_
 refine cm (Dd cr 8 (by decide) 1668247142#32 0 J hc cV g7 (fun S q=>aZ 0 S (by simp [lW]) q) (fun S q=>aZ 1 S (by simp [lW]) q)) ?_
 rintro _ aU ⟨c6,rfl,Bv⟩
 try refine bP ?_
 refine aj ?_
 obtain⟨_,ml⟩|⟨_,j,cy,bR,gD⟩:=Bv
 ·exact⟨aU,⟨aU,rfl,.inl ml⟩,_,aA⟩
 exact⟨aU,⟨aU,rfl,.inr ⟨j,by show j<2;omega,gD⟩⟩,_,aA⟩
structure b7 where
  base:Nat
  many:Nat
  qB:Bool
  put:Nat
  sum:BitVec 32
  lC:Int
abbrev bE(p:Nat)(k:b7):List Value:=[ag p,aa (k.base:Int),aa (k.many:Int),.bool k.qB,aa (k.put:Int),aQ k.sum.toNat,aa k.lC]
structure dK(d:br)(k:b7):Prop where
  m:3≤k.many∧k.base+k.many≤d.b.l.length
  w:13≤d.words
  put:k.put≤4096
  lC:0≤k.lC∧k.lC≤4*(k.put:Int)
theorem Qb{d:br}{s:Nat}(h:s<d.b.l.length):rc d (s:Int)=cW d.words fun i=>d.g (s*d.words+i):=by unfold rc;rw [if_neg (by omega),Int.toNat_natCast]
abbrev q5(d:br)(k:b7):Nat:=min ((k.many-2)*d.words) 4096
def KX(d:br)(k:b7):Bool:=!decide (d.g (k.base*d.words)=mc)
abbrev qh(d:br)(k:b7):IA:=ke (rc d ((k.base+1:Nat):Int))
def gP(d:br)(k:b7):IA:=if KX d k=true∨(qh d k).n2.toNat>q5 d k then⟨0#32,0#32,0#32,false,false,(qh d k).yS⟩else qh d k
theorem Rb{a b:BitVec 32}:((a.toNat:Int) !=(b.toNat:Int))=!decide (a=b):=by
  show(!((a.toNat:Int)==(b.toNat:Int)))=_;rw [G5]
theorem afQ(p:Nat)(d:br)(b m:Nat)(hm:3≤m∧b+m≤d.b.l.length)(qA:d.b.l.length≤64)(hw:13≤d.words):a6 B 78 [ag p,aa (b:Int),aa (m:Int)] [U p (bH d) 196] (fun v S=>∃q,v= .tuple #[ag q,ak]∧S=[U q (bE p ⟨b,m,false,0,0#32,0⟩) 273,U p (bH d) 196]):=by
 refine bM 40 Tryz.func78 fun ba bf=>?_
 refine cc ?_ ?_<;>intro ab
 ·omega
 refine cc ?_ ?_<;>intro ae
 ·omega
 refine cc ?_ ?_<;>intro av
 ·omega
 refine oZ (OT p d) ?_
 refine cc ?_ ?_<;>intro aV
 ·omega
 refine oZ (GJ p d) ?_
 refine bD ?_ ?_<;>intro bN
 ·omega
 refine fX fun ax=>?_
 exact aO ⟨ax,rfl,rfl⟩
theorem adE(p q:Nat)(k:b7):a6 B 223 [ag q] [U q (bE p k) 273] (fun v S=>v= .tuple #[aa (k.put:Int),.bool k.qB]∧S=[U q (bE p k) 273]):=by
 refine bM 12 Tryz.func223 fun ba bf=>?_
 refine cZ [U q (bE p k) 273] ad aA ?_
 refine df [0,1,2,3,4,5,6,7,8,9,99] ?_
 exact bJ
theorem Sk(p q:Nat)(d:br)(h:dB d)(k:b7)(ai:dK d k):a6 B 178 [ag q] [U q (bE p k) 273,U p (bH d) 196] (fun v S=>v=aa (q5 d k:Int)∧S=[U q (bE p k) 273,U p (bH d) 196]):=by
 refine dN 15 Tryz.func178 fun ba bf=>?_
 have hm:=ai.m
 have hw:=ai.w
 have aH:=h.s
 have ub:=h.w
 have vh:=ai.put
 have qA:((k.many:Int)-2)*(d.words:Int)=(((k.many-2)*d.words:Nat):Int):=by rw [Int.natCast_mul,show((k.many-2:Nat):Int)=(k.many:Int)-2 by omega]
 have ajJ:(k.many-2)*d.words≤62*1024:=Nat.mul_le_mul ah ub.2
 refine aj ?_
 refine cZ [U q (bE p k) 273] ad aA ?_
 refine aY [0,1,2,3,4,5,6,7,8] ?_
 refine lB 9 (GJ p d) ?_
 refine bj 10 rfl (pp (m:=(k.many:Int)-2) (n:=(d.words:Int)) rfl rfl ah ah) ?_
 refine df [11,12,99] ?_
 exact aO ⟨by rw [qA];show _=Value.int .i64 ((min _ _:Nat):Int);rw [show((min ((k.many-2)*d.words) 4096:Nat):Int)=min (((k.many-2)*d.words:Nat):Int) 4096 by omega],rfl⟩
theorem Sm(p q:Nat)(d:br)(h:dB d)(k:b7)(ai:dK d k)(i:Nat)(af:i≤100000):a6 B 179 [ag q,aa (i:Int)] [U q (bE p k) 273,U p (bH d) 196] (fun v S=>v= .tuple #[aa ((k.base+2+i/d.words:Nat):Int),aa ((i%d.words:Nat):Int)]∧S=[U q (bE p k) 273,U p (bH d) 196]):=by
 refine dN 26 Tryz.func179 fun ba bf=>?_
 have hm:=ai.m
 have hw:=ai.w
 have aH:=h.s
 have ub:=h.w
 have vh:=ai.put
 have bF:IntKind.i64.wrap (Int.tdiv (i:Int) (d.words:Int))=((i/d.words:Nat):Int):=by {have hle:=Nat.div_le_self i d.words;rw [show Int.tdiv (i:Int) (d.words:Int)=((i/d.words:Nat):Int)from rfl];generalize i/d.words=z at hle⊢;exact lP ah ah}
 obtain⟨z,aS⟩:∃z,i/d.words=z:=⟨_,rfl⟩
 have wF:z≤100000:=by rw [←aS];exact Nat.le_trans (Nat.div_le_self _ _) af
 rw [aS]at bF⊢
 refine aj ?_
 refine cZ [U q (bE p k) 273] ad aA ?_
 refine aY [0,1,2,3,4,5,6,7,8,9,13,14,15,16,17] ?_
 refine lB 10 (GJ p d) ?_
 refine bj 11 rfl (pX (z:=(z:Int)) rfl rfl ah bF) ?_
 refine aY [12] ?_
 refine lB 18 (GJ p d) ?_
 refine bj 19 rfl (pX (z:=((i%d.words:Nat):Int)) rfl rfl ah rfl) ?_
 refine df [20,21,99] ?_
 exact aO ⟨by rw [show((k.base+2+z:Nat):Int)=(k.base:Int)+2+(z:Int)by omega],rfl⟩
theorem adF(p q:Nat)(d:br)(h:dB d)(k:b7)(ai:dK d k):a6 B 199 [ag q] [U q (bE p k) 273,U p (bH d) 196,cu d] (fun v S=>v= .bool (KX d k)∧S=[U q (bE p k) 273,U p (bH d) 196,cu d]):=by
 refine dN 22 Tryz.func199 fun ba bf=>?_
 have hm:=ai.m
 have hw:=ai.w
 have aH:=h.s
 have ub:=h.w
 have vh:=ai.put
 refine aj ?_
 refine cZ [U q (bE p k) 273] ad aA ?_
 refine aY [0,1,2,3,4,5,6,7] ?_
 refine j0 8 (Gh p d h (k.base:Int)) ?_
 rintro _ _ ⟨a,⟨a5,cO⟩,rfl,rfl⟩
 refine bP ?_
 refine gv ?_
 refine aY [9,99] ?_
 refine hi ?_
 have fT:a.l.length=d.words:=by rw [a5,Qb ah,m1]
 refine cp ?_
 refine ap (cj (v:= .bool false) (congrArg (fun b=>some (Value.bool b)) (show((a.l.length:Int)==0)=false by rw [beq_eq_false_iff_ne];omega))) ?_
 refine aj ?_
 refine ap (jS (j:=0) rfl rfl ad (a).fl rfl ah rfl) ?_
 refine ap (eQ (a2:=dh) (aN:=1) (i:=0) (k:=0) (fun _=>rfl) rfl au (dT cO rfl) ad (show a.l[0]?=some (d.g (k.base*d.words+0))by rw [a5,Qb ah];exact xt ah) rfl) ?_
 refine aj ?_
 exact aO ⟨by unfold KX;exact congrArg Value.bool (Rb (a:=d.g (k.base*d.words)) (b:=mc)),rfl⟩
abbrev hg(k:b7):List Nat:=(List.range (k.many-1)).map (fun i=>k.base+1+i)++[k.base]
theorem Cj(k:b7)(h:1≤k.many):(hg k).length=k.many:=by simp [hg];omega
theorem WZ{k:b7}{i:Nat}(h:i+1<k.many):(hg k)[i]?=some (k.base+1+i):=by
  unfold hg;rw [List.getElem?_append_left (by simp;omega),List.getElem?_map,List.getElem?_range (by omega)];rfl
theorem Ws{k:b7}(h:1≤k.many):(hg k)[k.many-1]?=some k.base:=by
  unfold hg;rw [List.getElem?_append_right (by simp)];simp
abbrev v3(k:b7):List (List Value):=(hg k).map fun(n:Nat)=>[Value.int .i64 (n:Int)]
theorem FP{k:b7}{i n:Nat}(h:(hg k)[i]?=some n):(v3 k).getD i []=[aa (n:Int)]:=by simp only [v3,List.getD,List.getElem?_map,h];rfl
def uN(d:br)(k:b7):Bool:=(hg k).any fun s=>decide ((d.jz:Int)≤d.wr s)
theorem AE(p q:Nat)(d:br)(h:dB d)(k:b7)(ai:dK d k):a6 B 129 [ag q] [U q (bE p k) 273,U p (bH d) 196,cu d] (fun v S=>v= .agg (xC (gP d k)).toArray∧S=[U q (bE p k) 273,U p (bH d) 196,cu d]):=by
 refine dN 30 Tryz.func129 fun ba bf=>?_
 have hm:=ai.m
 have hw:=ai.w
 have aH:=h.s
 have ub:=h.w
 have vh:=ai.put
 refine aj ?_
 refine fe fun ax=>?_
 refine cp ?_
 refine jT (α:=Nat) (fun eF=>True) (fun eF=>[(3,ag eF),(0,ag q),(2,ag ax)]) (fun eF=>[U q (bE p k) 273,U eF (xC (qh d k)) 278,U ax [db,db,db,.bool false,.bool false,ak] 278,U p (bH d) 196,cu d]) ?_ ?_
 ·skip
  refine cZ [U q (bE p k) 273] ad aA ?_
  refine aY [0,1,2,3,4,5,6,7,8] ?_
  refine lq 9 11 en ?_ ?_
  ·skip
   refine nk (Gh p d h ((k.base:Int)+1)) ?_
   rintro _ _ ⟨a,⟨a5,cO⟩,rfl,rfl⟩
   refine bP ?_
   refine gv ?_
   refine lq 10 11 en ?_ ?_
   ·skip
    refine nk (AQ a (dT cO rfl)) ?_
    rintro _ _ ⟨rfl,rfl⟩
    refine bP ?_
    refine gv ?_
    have Ek:ke a.l=qh d k:=by rw [a5];rfl
    rw [Ek]
    refine aY [111] ?_
    refine lO rfl .no ad rfl (fun sl=>?_)
    refine aY [112,99] ?_
    exact ez sl trivial
   skip
   refine lO rfl .no ad rfl (fun sl=>?_)
   refine gb 10 (AQ a (dT cO rfl)) ?_
   have Ek:ke a.l=qh d k:=by rw [a5];rfl
   rw [Ek]
   refine aY [112,99] ?_
   exact ez sl trivial
  skip
  refine lO rfl .no ad rfl (fun sl=>?_)
  refine j0 9 (Gh p d h ((k.base:Int)+1)) ?_
  rintro _ _ ⟨a,⟨a5,cO⟩,rfl,rfl⟩
  refine bP ?_
  refine gv ?_
  refine gb 10 (AQ a (dT cO rfl)) ?_
  have Ek:ke a.l=qh d k:=by rw [a5];rfl
  rw [Ek]
  refine aY [112,99] ?_
  exact ez sl trivial
 rintro eF _
 refine aj ?_
 refine cZ [U eF (xC (qh d k)) 278] ad aA ?_
 refine aY [0] ?_
 refine lB 1 (adF p q d h k ai) ?_
 refine aY [2] ?_
 refine tt (t:=17) rfl (fun ab=>?_) (fun ab=>?_)
 ·replace ab:=gX ab
  refine aY [3,4,5,6,7,8,9,10,99] ?_
  refine gN ?_
  refine dn (aa (qh d k).yS) ?_
  refine aj ?_
  refine g2 ?_
  rw [show gP d k=_ from by unfold gP;exact if_pos (.inl ab)]
  exact bJ
 replace ab:=gX ab
 refine aY [3,4] ?_
 refine bj 5 rfl (da (v:=aQ (qh d k).n2.toNat) ad) ?_
 refine bj 6 rfl (ja (z:=((qh d k).n2.toNat:Int)) rfl ad (lP ah (by have:=(qh d k).n2.isLt;omega))) ?_
 refine aY [7] ?_
 refine lB 8 (Sk p q d h k ai) ?_
 refine df [9,10,99] ?_
 refine c2 ?_ ?_<;>intro ae
 ·refine iK ?_
  refine dn (aa (qh d k).yS) ?_
  refine aj ?_
  refine g2 ?_
  rw [show gP d k=_ from by unfold gP;exact if_pos (.inr ah)]
  exact bJ
 refine hi ?_
 refine du (xC (qh d k)) ?_
 refine aj ?_
 refine g2 ?_
 rw [show gP d k=_ from by unfold gP;exact if_neg (fun z=>by rcases z with z|z;rw [ab]at z;cases z;omega)]
 exact bJ
theorem OV(q:Nat):a6 B 176 [ag q] [] (fun v S=>∃c,v= .func (.func 232) #[] #[ag c]∧S=[U c [ag q] 197]):=by
 refine bM 4 Tryz.func176 fun ba bf=>?_
 refine fX fun ax=>?_
 exact aO ⟨ax,rfl,rfl⟩
theorem Rc(c p q:Nat)(d:br)(h:dB d)(k:b7)(ai:dK d k):S9 Tryz.prog B 232 [ag c] [U c [ag q] 197] (U q (bE p k) 273) (v3 k):=by
 intro cr J hc cV ahG g7 aZ
 change di _ _ _ _ (U c [ag q] 197::cV) _
 refine dN 27 Tryz.func232 fun ba bf=>?_
 have hm:=ai.m
 have aH:=h.s
 refine aj ?_
 refine ds (α:=Nat×List (ar B)) (fun⟨i,aU⟩=>i+1≤k.many∧J i aU) (fun⟨i,aU⟩=>[(3,aa ((i+1:Nat):Int)),(0,.func (.yield cr) #[] #[]),(1,ag c)]) (fun⟨i,aU⟩=>U c [ag q] 197::aU) (fun⟨i,aU⟩=>k.many-i) (0,cV) ?_ dq aA ?_
 ·exact⟨by omega,g7⟩
 rintro⟨i,aU⟩ ⟨af,bo⟩
 dsimp only
 obtain⟨aiK,uZ⟩:=ahG i aU bo
 refine l5 ?_
 refine ap (ft (v:=aa (k.many:Int)) rfl (by repeat first|exact uZ|with_reducible exact .here _ _|with_reducible apply Out.there|with_reducible apply Out.gi) ad (by rfl)) ?_
 refine gI ?_
 refine c2 ?_ ?_<;>intro ab
 ·have ey:i<(v3 k).length:=by rw [List.length_map,Cj k ah];omega
  have fa:=aZ i aU ey bo
  rw [FP (WZ ah),show((k.base+1+i:Nat):Int)=(k.base:Int)+((i+1:Nat):Int)by omega]at fa
  refine ic ?_
  refine fj ?_
  refine cC ?_
  refine mA ?_
  refine cC ?_
  refine dz ?_
  refine ap (cj rfl) ?_
  refine ap (da ad) ?_
  refine ap (ou rfl) ?_
  refine ap (ia ad) ?_
  refine ap (ft (v:=aa (k.base:Int)) rfl (by repeat first|exact uZ|with_reducible exact .here _ _|with_reducible apply Out.there|with_reducible apply Out.gi) ad (by rfl)) ?_
  refine aj ?_
  refine iq (own:=[U c [ag q] 197]) (hM:=aU) .no rfl rfl fa rfl ?_
  rintro jP bh aC
  refine cx ?_
  refine bD ?_ ?_<;>intro ae
  ·obtain⟨z,_⟩|⟨_,aC⟩:=aC
   ·rw [z]at ae;cases ae
   exact⟨U c [ag q] 197::bh,⟨bh,rfl,.inr ⟨_,ey,aC⟩⟩,_,aA⟩
  obtain⟨_,aC⟩|⟨z,_⟩:=aC
  rotate_left
  ·rw [z]at ae;cases ae
  refine aj ?_
  refine cE (i+1,bh) ?_
  (try dsimp only);exact⟨by omega,aC⟩
 have oN:i=k.many-1:=by omega
 have ey:i<(v3 k).length:=by rw [List.length_map,Cj k ah];omega
 have fa:=aZ i aU ey bo
 rw [FP (by rw [oN];exact Ws ah)]at fa
 refine tx ?_
 refine tn ?_
 refine tp ?_
 refine to ?_
 refine fj ?_
 refine dz ?_
 refine ap (cj rfl) ?_
 refine ap (da ad) ?_
 refine ap (ou rfl) ?_
 refine ap (ia ad) ?_
 refine ap (ft (v:=aa (k.base:Int)) rfl (by repeat first|exact uZ|with_reducible exact .here _ _|with_reducible apply Out.there|with_reducible apply Out.gi) ad (by rfl)) ?_
 refine iq (own:=[U c [ag q] 197]) (hM:=aU) .no rfl rfl fa rfl ?_
 rintro jP bh aC
 refine cx ?_
 obtain⟨_,aC⟩|⟨_,aC⟩:=aC
 ·exact⟨U c [ag q] 197::bh,⟨bh,rfl,.inl (by rw [List.length_map,Cj k ah,show k.many=i+1 by omega];exact aC)⟩,_,aA⟩
 exact⟨U c [ag q] 197::bh,⟨bh,rfl,.inr ⟨_,ey,aC⟩⟩,_,aA⟩
theorem X0{d:br}{n:Nat}(h:n<d.b.l.length):AR d (n:Int)=d.wr n:=by unfold AR;rw [if_neg (by omega),Int.toNat_natCast]
theorem X1{d:br}{k:b7}(ai:dK d k){n:Nat}(h:n∈hg k):n<d.b.l.length:=by
  have hm:=ai.m
  rcases List.mem_append.1 h with q|q
  · obtain⟨i,af,rfl⟩:=List.mem_map.1 q;have:=List.mem_range.1 af;omega
  · simp at q;omega
theorem Zk{d:br}{k:b7}{i n:Nat}(bl:(hg k)[i]?=some n)(h:(d.jz:Int)≤d.wr n):uN d k=true:=List.any_eq_true.2 ⟨n,List.mem_of_getElem? bl,by simpa using h⟩
theorem Zl{d:br}{k:b7}(h:∀i n,i<(hg k).length→(hg k)[i]?=some n→¬(d.jz:Int)≤d.wr n):uN d k=false:=by
  unfold uN;rw [List.any_eq_false]
  intro n aP
  obtain⟨i,af⟩:=List.getElem?_of_mem aP
  simpa using h i n (List.getElem?_eq_some_iff.1 af).1 af
abbrev uO(d:br)(k:b7)(i:Nat):BitVec 32:=d.g ((k.base+2)*d.words+i)
theorem W0{d:br}{k:b7}(ai:dK d k)(aq:d.on=true){i:Nat}(af:i<(k.many-2)*d.words):y4 d ((k.base+2+i/d.words:Nat):Int) ((i%d.words:Nat):Int)=(uO d k i,0):=by
  have hw:=ai.w;have hm:=ai.m
  have ab:i/d.words<k.many-2:=(Nat.div_lt_iff_lt_mul (by omega)).2 af
  have ae:=Nat.mod_lt i (show d.words>0 by omega)
  have av:=Nat.div_add_mod i d.words
  generalize i/d.words=z at ab av⊢
  generalize i%d.words=y at ae av⊢
  have a5:mj d ((k.base+2+z:Nat):Int) (y:Int)=(((k.base+2)*d.words+i:Nat):Int):=by
    unfold mj;rw [if_neg (by omega), ←Int.natCast_mul, ←Int.natCast_add]
    congr 1
    rw [Nat.add_mul (k.base+2) z,Nat.mul_comm z];omega
  unfold y4;rw [if_pos aq,a5,if_neg (by omega),Int.toNat_natCast]
abbrev yT(d:br)(k:b7)(n:Nat):List (List Value):=(List.range n).map fun i=>[Value.int .u32 (uO d k i).toNat]
theorem NB{d:br}{k:b7}{n i:Nat}(h:i<n):(yT d k n).getD i []=[Value.int .u32 (uO d k i).toNat]:=by simp [yT,List.getD,h]
theorem adG(p q:Nat)(d:br)(h:dB d)(k:b7)(ai:dK d k):a6 B 175 [ag q] [U q (bE p k) 273,U p (bH d) 196,fM d] (fun v S=>v= .bool (uN d k)∧S=[U q (bE p k) 273,U p (bH d) 196,fM d]):=by
 refine dN 19 Tryz.func175 fun ba bf=>?_
 have hm:=ai.m
 have hw:=ai.w
 have aH:=h.s
 have ub:=h.w
 have vh:=ai.put
 refine aj ?_
 refine eD fun ax=>?_
 refine de fun aK=>?_
 refine cm (OV q) ?_
 rintro _ _ ⟨c,rfl,rfl⟩
 refine cx ?_
 refine OM (own:=[U c [ag q] 197]) (aU:=[U q (bE p k) 273,U ax [ag q] 197,U p (bH d) 196,fM d,U aK [.bool false] 4]) rfl fF (Rc c p q d h k ai) (fun i S=>(∀j n,j<i→(hg k)[j]?=some n→¬(d.jz:Int)≤d.wr n)∧S=[U q (bE p k) 273,U ax [ag q] 197,U p (bH d) 196,fM d,U aK [.bool false] 4]) (fun c i S=>c= .ret∧uN d k=true∧S=[U q (bE p k) 273,U ax [ag q] 197,U p (bH d) 196,fM d,U aK [.bool true] 4]) (show Take ([U c [ag q] 197,U q (bE p k) 273,U ax [ag q] 197,U p (bH d) 196,fM d,U aK [.bool false] 4]) _ _ from aA) (⟨fun j n aI=>absurd aI ah,rfl⟩) (fun i S bo=>by obtain⟨_,rfl⟩:=bo;exact⟨_,.here _ _⟩) rfl (fun x al=>by obtain⟨y,_,rfl⟩:=List.mem_map.1 al;rfl) ?_ ?_ ?_
 ·intro cr rec j3 i bh af bo
  obtain⟨cN,rfl⟩:=bo
  rw [List.length_map]at af
  obtain⟨n,b0⟩:∃n,(hg k)[i]?=some n:=⟨_,List.getElem?_eq_getElem af⟩
  have D9:=X0 (X1 ai (List.mem_of_getElem? b0))
  rw [FP b0]
  refine aj ?_
  refine⟨rfl,_,_,.cons au (Take.self _),fun hz=>?_⟩
  refine aj ?_
  refine cZ [U ax [ag q] 197,U q (bE p k) 273] ad aA ?_
  refine aY [0,1,2,3,4,6,7,8,9] ?_
  refine lB 5 (adB p d h (n:Int)) ?_
  refine lB 10 (abe p d) ?_
  refine df [11,99] ?_
  refine bD ?_ ?_<;>intro ab
  ·exact⟨[U q (bE p k) 273,U ax [ag q] 197,U p (bH d) 196,fM d,U aK [.bool true] 4],_,aA,⟨rfl,Zk b0 (by rw [←D9];exact ab),rfl⟩⟩
  exact⟨[U q (bE p k) 273,U ax [ag q] 197,U p (bH d) 196,fM d,U aK [.bool false] 4],_,aA,⟨fun j m aI hm=>by rcases Nat.lt_succ_iff_lt_or_eq.1 aI with z|rfl;exact cN j m z hm;rw [b0]at hm;cases hm;rw [←D9];omega,rfl⟩⟩
 ·intro cG bh bo
  obtain⟨cN,rfl⟩:=bo
  rw [List.length_map]at cN
  refine cx ?_
  refine dA (show Take [dl cG] _ _ from aA) (my rfl rfl au ad) ?_
  exact aO ⟨by rw [Zl cN],rfl⟩
 intro cG c i bh af h
 obtain⟨rfl,UI,rfl⟩:=h
 refine cx ?_
 refine dA (show Take [dl cG] _ _ from aA) (my rfl rfl au ad) ?_
 exact aO ⟨by rw [UI],rfl⟩
theorem abg(q n:Nat):a6 B 197 [ag q,aa (n:Int)] [] (fun v S=>∃cK c,v= .func (.func 246) #[] #[ag cK,ag c]∧S=[U cK [aa (n:Int)] 3,U c [ag q] 197]):=by
 refine bM 6 Tryz.func197 fun ba bf=>?_
 refine eD fun ax=>?_
 refine fX fun aK=>?_
 exact aO ⟨aK,ax,rfl,rfl⟩
theorem Zm(cK c p q:Nat)(d:br)(h:dB d)(k:b7)(ai:dK d k)(vi:d.on=true)(n:Nat)(aP:n≤q5 d k):n9 Tryz.prog B 246 [ag cK,ag c] [U cK [aa (n:Int)] 3,U c [ag q] 197,U q (bE p k) 273,U p (bH d) 196,cu d] (yT d k n):=by
 intro cr J hc cV g7 aZ
 change di _ _ _ _ (U cK [aa (n:Int)] 3::U c [ag q] 197::U q (bE p k) 273::U p (bH d) 196::cu d::cV) _
 refine bM 38 Tryz.func246 fun ba bf=>?_
 refine ds (α:=Nat×List (ar B)) (fun⟨i,aU⟩=>i≤n∧J i aU) (fun⟨i,aU⟩=>[(10,aa (i:Int)),(0,.func (.yield cr) #[] #[]),(1,ag cK),(2,ag c),(9,aa (n:Int))]) (fun⟨i,aU⟩=>U cK [aa (n:Int)] 3::U c [ag q] 197::U q (bE p k) 273::U p (bH d) 196::cu d::aU) (fun⟨i,aU⟩=>n-i) (0,cV) ?_ dq aA ?_
 ·exact⟨Nat.zero_le _,g7⟩
 rintro⟨i,aU⟩ ⟨af,bo⟩
 dsimp only
 have ajK:n≤(k.many-2)*d.words∧n≤4096:=by unfold q5 at aP;omega
 refine bT ?_ ?_<;>intro ab
 ·have ey:i<(yT d k n).length:=by simp [yT];omega
  have fa:=aZ i aU ey bo
  rw [NB ah]at fa
  refine aj ?_
  refine vg (Sm p q d h k ai i ah) ?_
  refine cp ?_
  refine bp (aa ((k.base+2+i/d.words:Nat):Int)) ?_
  refine bp (aa ((i%d.words:Nat):Int)) ?_
  refine aj ?_
  refine vg ((by have b5:=adC (B:=B) p d h ((k.base+2+i/d.words:Nat):Int) ((i%d.words:Nat):Int);rw [W0 ai vi ah]at b5;exact b5)) ?_
  refine cp ?_
  refine bp (aQ (uO d k i).toNat) ?_
  refine bp (ak) ?_
  refine ky ?_
  refine bp (.bool false) ?_
  refine aj ?_
  refine iq (own:=[U cK [aa (n:Int)] 3,U c [ag q] 197,U q (bE p k) 273,U p (bH d) 196,cu d]) (hM:=aU) (.yes 31 rfl rfl rfl) rfl rfl fa rfl ?_
  rintro jP bh aC
  refine cx ?_
  refine bD ?_ ?_<;>intro ae
  ·obtain⟨z,_⟩|⟨_,aC⟩:=aC
   ·rw [z]at ae;cases ae
   exact⟨U cK [aa (n:Int)] 3::U c [ag q] 197::U q (bE p k) 273::U p (bH d) 196::cu d::bh,⟨bh,rfl,.inr ⟨_,ey,aC⟩⟩,_,aA⟩
  obtain⟨_,aC⟩|⟨z,_⟩:=aC
  rotate_left
  ·rw [z]at ae;cases ae
  refine aj ?_
  refine cE (i+1,bh) ?_
  (try dsimp only);exact⟨by omega,aC⟩
 obtain rfl:n=i:=by omega
 exact⟨U cK [aa (n:Int)] 3::U c [ag q] 197::U q (bE p k) 273::U p (bH d) 196::cu d::aU,⟨aU,rfl,.inl (by simpa [yT]using bo)⟩,_,aA⟩
theorem Nu{d:br}{k:b7}:(gP d k).n2.toNat≤q5 d k:=by
  unfold gP;split
  · exact Nat.zero_le _
  · rename_i h;omega
theorem afR{m n:Int}(h:m=n):some (Value.bool (m !=n))=some (.bool false):=by simp [h]
abbrev q6(d:br)(k:b7):Nat:=(gP d k).n2.toNat
abbrev yU(d:br)(k:b7)(n:Nat):List (BitVec 32):=cW n (uO d k)
theorem X2(d:br)(k:b7)(n:Nat):yU d k n++[uO d k n]=yU d k (n+1):=by simp [yU,cW,List.range_succ]
theorem abh(l:List (BitVec 32))(w:BitVec 32):qg (l++[w])=A8 (qg l) w:=by simp [qg,List.foldl_append]
def oy(d:br)(k:b7):List (BitVec 32)×Bool:=if(gP d k).valid=true∧d.on=true∧qg (yU d k (q6 d k))=(gP d k).wO then(yU d k (q6 d k),true)else([],false)
theorem abi(p q:Nat)(d:br)(h:dB d)(k:b7)(ai:dK d k):a6 B 128 [ag q] [U q (bE p k) 273,U p (bH d) 196,cu d] (fun v S=>∃a:an (BitVec 32),(a.l=(oy d k).1∧a.Own)∧v= .tuple #[a.v,.bool (oy d k).2]∧S=[eO a 42 1 dh,U q (bE p k) 273,U p (bH d) 196,cu d]):=by
 refine dN 50 Tryz.func128 fun ba bf=>?_
 have hm:=ai.m
 have hw:=ai.w
 have aH:=h.s
 have ub:=h.w
 have vh:=ai.put
 refine gE dh 42 1 ?_
 refine gE dh 42 1 ?_
 refine aj ?_
 refine eR (AE p q d h k ai) ?_
 refine fe fun ax=>?_
 refine ky ?_
 refine dn (.bool (gP d k).valid) ?_
 refine aj ?_
 refine cc ?_ ?_<;>intro ab
 ·have af:oy d k=([],false):=by unfold oy;exact if_neg (fun z=>by rw [ab]at z;cases z.1)
  exact aO ⟨an.bt,⟨by rw [af];rfl,an.fk⟩,by rw [af];rfl,rfl⟩
 refine oZ (x7 p d) ?_
 refine bD ?_ ?_<;>intro ae
 ·have af:oy d k=([],false):=by unfold oy;exact if_neg (fun z=>by rw [ae]at z;cases z.2.1)
  exact aO ⟨an.bt,⟨by rw [af];rfl,an.fk⟩,by rw [af];rfl,rfl⟩
 refine de fun aK=>?_
 refine fe fun bq=>?_
 refine rm ?_
 refine dn (aQ (gP d k).n2.toNat) ?_
 refine ap (ja (z:=((q6 d k):Int)) rfl ad (lP ah (by have:=(gP d k).n2.isLt;omega))) ?_
 refine cm (abg q (q6 d k)) ?_
 rintro _ _ ⟨cK,c,rfl,rfl⟩
 refine cx ?_
 rw [show(U bq [db,ak] 271:ar B)=U bq [aQ (qg ([]:List (BitVec 32))).toNat,aa (4*((0:Nat):Int))] 271 from rfl]
 refine kS (own:=[U cK [aa ((q6 d k):Int)] 3,U c [ag q] 197,U q (bE p k) 273,U p (bH d) 196,cu d]) (aU:=[U aK [bw] 46,eO (an.bt:an (BitVec 32)) 42 1 dh,U bq [aQ (qg ([]:List (BitVec 32))).toNat,aa (4*((0:Nat):Int))] 271]) rfl fF (Zm cK c p q d h k ai ae (q6 d k) Nu) (fun i S=>∃a:an (BitVec 32),(a.l=yU d k i∧a.Own)∧S=[U aK [a.v] 46,eO a 42 1 dh,U bq [aQ (qg a.l).toNat,aa (4*(i:Int))] 271]) (fun c i S=>False) (show Take ([U cK [aa ((q6 d k):Int)] 3,U c [ag q] 197,U q (bE p k) 273,U p (bH d) 196,cu d,U aK [bw] 46,eO (an.bt:an (BitVec 32)) 42 1 dh,U bq [aQ (qg ([]:List (BitVec 32))).toNat,aa (4*((0:Nat):Int))] 271]) _ _ from aA) (⟨an.bt,⟨rfl,an.fk⟩,rfl⟩) rfl (fun x al=>by obtain⟨y,_,rfl⟩:=List.mem_map.1 al;rfl) ?_ ?_ ?_
 ·intro cr rec j3 i bh af bo
  obtain⟨a,⟨a5,cO⟩,rfl⟩:=bo
  have af:i<(q6 d k):=by simpa [yT]using af
  have ajL:q6 d k≤q5 d k:=Nu
  have fT:a.l.length=i:=by rw [a5];exact m1 _ _
  have ajM:q5 d k≤4096:=by unfold q5;omega
  rw [NB af]
  refine aj ?_
  refine⟨rfl,_,_,.cons au (Take.self _),fun hz=>?_⟩
  refine aj ?_
  refine im (aF:=[aQ (uO d k i).toNat]) .no rfl ad b2 b2 (by rfl) (by rfl) rfl rfl (fun bV=>?_)
  refine xr (a2:=dh) (c:=a) (y:=(uO d k i)) (K:=_) .no rfl rfl ad au au (ir) rfl rfl ah ah rfl (fun cI fH iH=>?_)
  refine aj ?_
  refine cm (adA bq (qg a.l) (4*(i:Int)) (by omega) (uO d k i)) ?_
  rintro _ _ rfl
  refine bP ?_
  rw [show A8 (qg a.l) (uO d k i)=qg cI.l from by rw [fH,abh],show 4*(i:Int)+4=4*((i+1:Nat):Int)by omega]
  refine aj ?_
  exact⟨[U aK [cI.v] 46,eO cI 42 1 dh,U bq [aQ (qg cI.l).toNat,aa (4*(((i+1:Nat)):Int))] 271],_,aA,⟨cI,⟨by rw [fH,a5,X2],iH⟩,rfl⟩⟩
 ·intro cG bh bo
  obtain⟨a,⟨a5,cO⟩,rfl⟩:=bo
  rw [List.length_map,List.length_range]at a5⊢
  have fT:a.l.length=(q6 d k):=by rw [a5];exact m1 _ _
  refine cx ?_
  refine cZ [U aK [a.v] 46,U ax (xC (gP d k)) 278,U bq [aQ (qg a.l).toNat,aa (4*((q6 d k):Int))] 271] ad aA ?_
  refine aY [0,1,2,3] ?_
  refine bj 4 rfl (da (v:=aQ (gP d k).n2.toNat) ad) ?_
  refine bj 5 rfl (ja (z:=((q6 d k):Int)) rfl ad (lP ah (by have:=(gP d k).n2.isLt;omega))) ?_
  refine bG 6 rfl (dD (v:= .bool false) (afR ah)) ?_
  refine aY [7,9,10] ?_
  refine bj 11 rfl (da (v:=aQ (gP d k).wO.toNat) ad) ?_
  refine lB 8 (abd bq (qg a.l) (4*((q6 d k):Int))) ?_
  refine bG 12 rfl (dD (v:= .bool (!decide (qg a.l=(gP d k).wO))) (congrArg (fun b=>some (Value.bool b)) Rb)) ?_
  refine df [13,99] ?_
  refine bD ?_ ?_<;>intro av
  ·refine dA (show Take [dl cG] _ _ from aA) (Ak rfl rfl rfl) ?_
   have af:oy d k=([],false):=by unfold oy;exact if_neg (fun z=>av (by rw [a5];exact z.2.2))
   exact aO ⟨an.bt,⟨by rw [af];rfl,an.fk⟩,by rw [af];rfl,rfl⟩
  refine dA (show Take [dl cG] _ _ from aA) (Ak rfl rfl rfl) ?_
  have af:oy d k=(yU d k (q6 d k),true):=by unfold oy;exact if_pos ⟨ab,ae,by rw [←a5];exact av⟩
  exact aO ⟨a,⟨by rw [af];exact a5,cO⟩,by rw [af],rfl⟩
 intro cG c i bh af h
 exact h.elim
def ps(x y z:BitVec 32):List (Nat×BitVec 32):=lW 0 x++lW 2 y++lW 4 z
def lX:List (Nat×BitVec 32):=lW 6 1668246893#32
def lY:List (Nat×BitVec 32):=lW 8 1668247142#32
def eW(k:b7):br→List (Nat×BitVec 32)→br×Int
  |d,[]=>(d,0)
  |d,p::l=>if(gZ d ((k.base:Int)+1) p.1 p.2).2=0 then eW k (gZ d ((k.base:Int)+1) p.1 p.2).1 l else gZ d ((k.base:Int)+1) p.1 p.2
theorem Gi{d:br}(h:dB d)(aq:d.ops<1000000000)(g:Nat→BitVec 32):dB ((nw d).v0 g):=by
 refine⟨h.s,h.w,h.n,h.rn,h.oj,h.e1,?_,?_,h.x6⟩
 ·show 0≤d.ops+1∧d.ops+1≤_;have:=h.ops;omega
 show 0≤(if d.qa=true∧o0 d=false then d.a8-1 else d.a8)∧(if d.qa=true∧o0 d=false then d.a8-1 else d.a8)≤_
 have:=h.a8
 split
 ·rename_i q
  have:¬d.a8≤0:=fun z=>by have bR:=q.2;unfold o0 at bR;rw [q.1,decide_eq_true z]at bR;cases bR
  omega
 omega
theorem xu{d:br}(h:dB d)(aq:d.ops<1000000000)(s w:Int)(x:BitVec 32):dB (gZ d s w x).1∧(gZ d s w x).1.ops≤d.ops+1∧(gZ d s w x).1.words=d.words∧(gZ d s w x).1.b=d.b∧(gZ d s w x).1.a=d.a∧(gZ d s w x).1.jz=d.jz∧(gZ d s w x).1.wr=d.wr:=by
  have same:dB d∧d.ops≤d.ops+1∧d.words=d.words∧d.b=d.b∧d.a=d.a∧d.jz=d.jz∧d.wr=d.wr:=⟨h,by omega,rfl,rfl,rfl,rfl,rfl⟩
  unfold gZ
  split
  · split
    · exact same
    · split
      · split
        · exact⟨Gi h aq _,Int.le_refl _,rfl,rfl,rfl,rfl,rfl⟩
        · exact⟨Gi h aq _,Int.le_refl _,rfl,rfl,rfl,rfl,rfl⟩
      · exact same
  · exact same
theorem dK.same{d d2:br}{k:b7}(h:dK d k)(hw:d2.words=d.words)(aR:d2.b=d.b):dK d2 k:=⟨by rw [aR];exact h.m,by rw [hw];exact h.w,h.put,h.lC⟩
theorem At{α:Type}{l:List α}{i:Nat}{a:α}(h:l[i]?=some a):l.drop i=a::l.drop (i+1):=by
  have af:=(List.getElem?_eq_some_iff.1 h).1
  rw [List.drop_eq_getElem_cons af];congr 1;rw [List.getElem?_eq_getElem af]at h;exact Option.some.inj h
theorem Qc(p q:Nat)(d:br)(h:dB d)(k:b7)(ai:dK d k)(b:Nat)(x y z:BitVec 32)(kv:d.ops≤900000000):a6 B 182 [ag q,.func (.func 235) #[] #[ag b]] [U b [aQ x.toNat,aQ y.toNat,aQ z.toNat] 276,U q (bE p k) 273,U p (bH d) 196,cu d] (fun v S=>v=aa (eW k d (ps x y z)).2∧S=[U b [aQ x.toNat,aQ y.toNat,aQ z.toNat] 276,U q (bE p k) 273,U p (bH ((eW k d (ps x y z)).1)) 196,cu (eW k d (ps x y z)).1]):=by
 refine bM 26 Tryz.func182 fun ba bf=>?_
 refine eD fun ax=>?_
 refine de fun aK=>?_
 refine kS (own:=[U b [aQ x.toNat,aQ y.toNat,aQ z.toNat] 276]) (aU:=[U ax [ag q] 197,U aK [ak] 53,U q (bE p k) 273,U p (bH d) 196,cu d]) rfl fF ((show n9 _ _ _ _ _ ((ps x y z).map fun p=>[rp p])from WX b x y z)) (fun i S=>∃D:br,(dB D∧dK D k∧D.ops≤d.ops+i∧(eW k d (ps x y z))=eW k D ((ps x y z).drop i))∧S=[U ax [ag q] 197,U aK [ak] 53,U q (bE p k) 273,U p (bH D) 196,cu D]) (fun c i S=>c= .ret∧S=[U ax [ag q] 197,U aK [aa (eW k d (ps x y z)).2] 53,U q (bE p k) 273,U p (bH ((eW k d (ps x y z)).1)) 196,cu (eW k d (ps x y z)).1]) (show Take ([U b [aQ x.toNat,aQ y.toNat,aQ z.toNat] 276,U ax [ag q] 197,U aK [ak] 53,U q (bE p k) 273,U p (bH d) 196,cu d]) _ _ from aA) (⟨d,⟨h,ai,by simp,rfl⟩,rfl⟩) rfl (fun x al=>by obtain⟨y,_,rfl⟩:=List.mem_map.1 al;rfl) ?_ ?_ ?_
 ·intro cr rec j3 i bh af bo
  obtain⟨D,⟨bU,rq,x8,gV⟩,rfl⟩:=bo
  rw [List.length_map]at af
  obtain⟨fg,b0⟩:∃fg,(ps x y z)[i]?=some fg:=⟨_,List.getElem?_eq_getElem af⟩
  have UJ:i<6:=Nat.lt_of_lt_of_le af (by simp [ps,lX,lY,lW])
  have tc:=rq.m
  have UK:=bU.s
  obtain⟨a1,a3,bI,cv,_⟩:=xu bU ah ((k.base:Int)+1) (fg.1:Int) fg.2
  rw [At b0,eW]at gV
  rw [show((ps x y z).map fun p=>[rp p]).getD i []=[rp fg]from by simp only [List.getD,List.getElem?_map,b0];rfl]
  refine aj ?_
  refine de fun bq=>?_
  refine⟨rfl,_,_,.cons au (Take.self _),fun hz=>?_⟩
  refine aj ?_
  refine cZ [U ax [ag q] 197,U q (bE p k) 273,U bq [aa (fg.1:Int),aQ fg.2.toNat] 389] ad aA ?_
  refine aY [0,1,2,3,4,5,6,7,8,9] ?_
  refine bj 10 rfl (da (v:=aa (fg.1:Int)) ad) ?_
  refine aY [11] ?_
  refine bj 12 rfl (da (v:=aQ fg.2.toNat) ad) ?_
  refine gb 13 (AS p D bU ((k.base:Int)+1) (fg.1:Int) fg.2) ?_
  refine df [14,99] ?_
  refine bD ?_ ?_<;>intro ab
  ·rw [if_neg ab]at gV
   exact⟨[U ax [ag q] 197,U aK [aa (gZ D ((k.base:Int)+1) (fg.1:Int) fg.2).2] 53,U q (bE p k) 273,U p (bH ((gZ D ((k.base:Int)+1) (fg.1:Int) fg.2).1)) 196,cu (gZ D ((k.base:Int)+1) (fg.1:Int) fg.2).1],_,aA,⟨rfl,by rw [gV]⟩⟩
  rw [if_pos ab]at gV
  exact⟨[U ax [ag q] 197,U aK [ak] 53,U q (bE p k) 273,U p (bH ((gZ D ((k.base:Int)+1) (fg.1:Int) fg.2).1)) 196,cu (gZ D ((k.base:Int)+1) (fg.1:Int) fg.2).1],_,aA,⟨_,⟨a1,rq.same bI cv,by omega,gV⟩,rfl⟩⟩
 ·intro cG bh bo
  obtain⟨D,⟨bU,rq,x8,gV⟩,rfl⟩:=bo
  rw [List.length_map,List.drop_length]at gV
  have gV:(eW k d (ps x y z))=(D,0):=gV
  refine cx ?_
  refine dA (show Take [dl cG] _ _ from aA) (my rfl rfl au ad) ?_
  rw [gV]
  exact bJ
 intro cG c i bh af h
 obtain⟨rfl,rfl⟩:=h
 refine cx ?_
 refine dA (show Take [dl cG] _ _ from aA) (my rfl rfl au ad) ?_
 exact bJ
theorem Qd(p q:Nat)(d:br)(h:dB d)(k:b7)(ai:dK d k)(kv:d.ops≤900000000):a6 B 182 [ag q,.func (.func 237) #[] #[]] [U q (bE p k) 273,U p (bH d) 196,cu d] (fun v S=>v=aa (eW k d lX).2∧S=[U q (bE p k) 273,U p (bH ((eW k d lX).1)) 196,cu (eW k d lX).1]):=by
 refine bM 26 Tryz.func182 fun ba bf=>?_
 refine eD fun ax=>?_
 refine de fun aK=>?_
 refine kS (own:=[]) (aU:=[U ax [ag q] 197,U aK [ak] 53,U q (bE p k) 273,U p (bH d) 196,cu d]) rfl fF ((show n9 _ _ _ _ _ (lX.map fun p=>[rp p])from Wr)) (fun i S=>∃D:br,(dB D∧dK D k∧D.ops≤d.ops+i∧(eW k d lX)=eW k D (lX.drop i))∧S=[U ax [ag q] 197,U aK [ak] 53,U q (bE p k) 273,U p (bH D) 196,cu D]) (fun c i S=>c= .ret∧S=[U ax [ag q] 197,U aK [aa (eW k d lX).2] 53,U q (bE p k) 273,U p (bH ((eW k d lX).1)) 196,cu (eW k d lX).1]) (show Take ([U ax [ag q] 197,U aK [ak] 53,U q (bE p k) 273,U p (bH d) 196,cu d]) _ _ from aA) (⟨d,⟨h,ai,by simp,rfl⟩,rfl⟩) rfl (fun x al=>by obtain⟨y,_,rfl⟩:=List.mem_map.1 al;rfl) ?_ ?_ ?_
 ·intro cr rec j3 i bh af bo
  obtain⟨D,⟨bU,rq,x8,gV⟩,rfl⟩:=bo
  rw [List.length_map]at af
  obtain⟨fg,b0⟩:∃fg,lX[i]?=some fg:=⟨_,List.getElem?_eq_getElem af⟩
  have UJ:i<6:=Nat.lt_of_lt_of_le af (by simp [ps,lX,lY,lW])
  have tc:=rq.m
  have UK:=bU.s
  obtain⟨a1,a3,bI,cv,_⟩:=xu bU ah ((k.base:Int)+1) (fg.1:Int) fg.2
  rw [At b0,eW]at gV
  rw [show(lX.map fun p=>[rp p]).getD i []=[rp fg]from by simp only [List.getD,List.getElem?_map,b0];rfl]
  refine aj ?_
  refine de fun bq=>?_
  refine⟨rfl,_,_,.cons au (Take.self _),fun hz=>?_⟩
  refine aj ?_
  refine cZ [U ax [ag q] 197,U q (bE p k) 273,U bq [aa (fg.1:Int),aQ fg.2.toNat] 389] ad aA ?_
  refine aY [0,1,2,3,4,5,6,7,8,9] ?_
  refine bj 10 rfl (da (v:=aa (fg.1:Int)) ad) ?_
  refine aY [11] ?_
  refine bj 12 rfl (da (v:=aQ fg.2.toNat) ad) ?_
  refine gb 13 (AS p D bU ((k.base:Int)+1) (fg.1:Int) fg.2) ?_
  refine df [14,99] ?_
  refine bD ?_ ?_<;>intro ab
  ·rw [if_neg ab]at gV
   exact⟨[U ax [ag q] 197,U aK [aa (gZ D ((k.base:Int)+1) (fg.1:Int) fg.2).2] 53,U q (bE p k) 273,U p (bH ((gZ D ((k.base:Int)+1) (fg.1:Int) fg.2).1)) 196,cu (gZ D ((k.base:Int)+1) (fg.1:Int) fg.2).1],_,aA,⟨rfl,by rw [gV]⟩⟩
  rw [if_pos ab]at gV
  exact⟨[U ax [ag q] 197,U aK [ak] 53,U q (bE p k) 273,U p (bH ((gZ D ((k.base:Int)+1) (fg.1:Int) fg.2).1)) 196,cu (gZ D ((k.base:Int)+1) (fg.1:Int) fg.2).1],_,aA,⟨_,⟨a1,rq.same bI cv,by omega,gV⟩,rfl⟩⟩
 ·intro cG bh bo
  obtain⟨D,⟨bU,rq,x8,gV⟩,rfl⟩:=bo
  rw [List.length_map,List.drop_length]at gV
  have gV:(eW k d lX)=(D,0):=gV
  refine cx ?_
  refine dA (show Take [dl cG] _ _ from aA) (my rfl rfl au ad) ?_
  rw [gV]
  exact bJ
 intro cG c i bh af h
 obtain⟨rfl,rfl⟩:=h
 refine cx ?_
 refine dA (show Take [dl cG] _ _ from aA) (my rfl rfl au ad) ?_
 exact bJ
theorem Zn(p q:Nat)(d:br)(h:dB d)(k:b7)(ai:dK d k)(kv:d.ops≤900000000):a6 B 182 [ag q,.func (.func 238) #[] #[]] [U q (bE p k) 273,U p (bH d) 196,cu d] (fun v S=>v=aa (eW k d lY).2∧S=[U q (bE p k) 273,U p (bH ((eW k d lY).1)) 196,cu (eW k d lY).1]):=by
 refine bM 26 Tryz.func182 fun ba bf=>?_
 refine eD fun ax=>?_
 refine de fun aK=>?_
 refine kS (own:=[]) (aU:=[U ax [ag q] 197,U aK [ak] 53,U q (bE p k) 273,U p (bH d) 196,cu d]) rfl fF ((show n9 _ _ _ _ _ (lY.map fun p=>[rp p])from We)) (fun i S=>∃D:br,(dB D∧dK D k∧D.ops≤d.ops+i∧(eW k d lY)=eW k D (lY.drop i))∧S=[U ax [ag q] 197,U aK [ak] 53,U q (bE p k) 273,U p (bH D) 196,cu D]) (fun c i S=>c= .ret∧S=[U ax [ag q] 197,U aK [aa (eW k d lY).2] 53,U q (bE p k) 273,U p (bH ((eW k d lY).1)) 196,cu (eW k d lY).1]) (show Take ([U ax [ag q] 197,U aK [ak] 53,U q (bE p k) 273,U p (bH d) 196,cu d]) _ _ from aA) (⟨d,⟨h,ai,by simp,rfl⟩,rfl⟩) rfl (fun x al=>by obtain⟨y,_,rfl⟩:=List.mem_map.1 al;rfl) ?_ ?_ ?_
 ·intro cr rec j3 i bh af bo
  obtain⟨D,⟨bU,rq,x8,gV⟩,rfl⟩:=bo
  rw [List.length_map]at af
  obtain⟨fg,b0⟩:∃fg,lY[i]?=some fg:=⟨_,List.getElem?_eq_getElem af⟩
  have UJ:i<6:=Nat.lt_of_lt_of_le af (by simp [ps,lX,lY,lW])
  have tc:=rq.m
  have UK:=bU.s
  obtain⟨a1,a3,bI,cv,_⟩:=xu bU ah ((k.base:Int)+1) (fg.1:Int) fg.2
  rw [At b0,eW]at gV
  rw [show(lY.map fun p=>[rp p]).getD i []=[rp fg]from by simp only [List.getD,List.getElem?_map,b0];rfl]
  refine aj ?_
  refine de fun bq=>?_
  refine⟨rfl,_,_,.cons au (Take.self _),fun hz=>?_⟩
  refine aj ?_
  refine cZ [U ax [ag q] 197,U q (bE p k) 273,U bq [aa (fg.1:Int),aQ fg.2.toNat] 389] ad aA ?_
  refine aY [0,1,2,3,4,5,6,7,8,9] ?_
  refine bj 10 rfl (da (v:=aa (fg.1:Int)) ad) ?_
  refine aY [11] ?_
  refine bj 12 rfl (da (v:=aQ fg.2.toNat) ad) ?_
  refine gb 13 (AS p D bU ((k.base:Int)+1) (fg.1:Int) fg.2) ?_
  refine df [14,99] ?_
  refine bD ?_ ?_<;>intro ab
  ·rw [if_neg ab]at gV
   exact⟨[U ax [ag q] 197,U aK [aa (gZ D ((k.base:Int)+1) (fg.1:Int) fg.2).2] 53,U q (bE p k) 273,U p (bH ((gZ D ((k.base:Int)+1) (fg.1:Int) fg.2).1)) 196,cu (gZ D ((k.base:Int)+1) (fg.1:Int) fg.2).1],_,aA,⟨rfl,by rw [gV]⟩⟩
  rw [if_pos ab]at gV
  exact⟨[U ax [ag q] 197,U aK [ak] 53,U q (bE p k) 273,U p (bH ((gZ D ((k.base:Int)+1) (fg.1:Int) fg.2).1)) 196,cu (gZ D ((k.base:Int)+1) (fg.1:Int) fg.2).1],_,aA,⟨_,⟨a1,rq.same bI cv,by omega,gV⟩,rfl⟩⟩
 ·intro cG bh bo
  obtain⟨D,⟨bU,rq,x8,gV⟩,rfl⟩:=bo
  rw [List.length_map,List.drop_length]at gV
  have gV:(eW k d lY)=(D,0):=gV
  refine cx ?_
  refine dA (show Take [dl cG] _ _ from aA) (my rfl rfl au ad) ?_
  rw [gV]
  exact bJ
 intro cG c i bh af h
 obtain⟨rfl,rfl⟩:=h
 refine cx ?_
 refine dA (show Take [dl cG] _ _ from aA) (my rfl rfl au ad) ?_
 exact bJ
abbrev b7.shut(k:b7):b7:=⟨k.base,k.many,false,k.put,k.sum,k.lC⟩
abbrev b7.fresh(k:b7):b7:=⟨k.base,k.many,true,0,0#32,0⟩
abbrev b7.Lt(k:b7)(w:BitVec 32):b7:=⟨k.base,k.many,k.qB,k.put+1,A8 k.sum w,k.lC+4⟩
theorem dK.shut{d:br}{k:b7}(h:dK d k):dK d k.shut:=⟨h.m,h.w,h.put,h.lC⟩
theorem dK.fresh{d:br}{k:b7}(h:dK d k):dK d k.fresh:=⟨h.m,h.w,Nat.zero_le _,Int.le_refl _,Int.le_refl _⟩
theorem Rd{d:br}(h:dB d)(aq:d.ops<1000000000)(s:Int):dB (fm d s).1∧(fm d s).1.ops≤d.ops+1∧(fm d s).1.words=d.words∧(fm d s).1.b=d.b∧(fm d s).1.a=d.a∧(fm d s).1.jz=d.jz:=by
  have same:dB d∧d.ops≤d.ops+1∧d.words=d.words∧d.b=d.b∧d.a=d.a∧d.jz=d.jz:=⟨h,by omega,rfl,rfl,rfl,rfl⟩
  unfold fm
  split
  · split
    · exact same
    · split
      · exact same
      · rename_i q
        have ae:dB (d.k7 s.toNat):=h.k7 (by omega)
        split
        · exact⟨Gi ae aq _,Int.le_refl _,rfl,rfl,rfl,rfl⟩
        · exact⟨Gi ae aq _,Int.le_refl _,rfl,rfl,rfl,rfl⟩
  · exact same
def kt:br→List Nat→br×Int
  |d,[]=>(d,0)
  |d,n::l=>if(fm d (n:Int)).2=0 then kt (fm d (n:Int)).1 l else fm d (n:Int)
abbrev e5(d:br)(k:b7):br×Int:=gZ d (k.base:Int) 0 0#32
def dF(d:br)(k:b7):br×b7×Int:=
  if d.on=true then(if uN d k=true then(d,k.shut,62)else if(e5 d k).2=0 then
    (if(kt (e5 d k).1 (hg k)).2=0 then((kt (e5 d k).1 (hg k)).1,k.fresh,0)else((kt (e5 d k).1 (hg k)).1,k.shut,(kt (e5 d k).1 (hg k)).2))
    else((e5 d k).1,k.shut,(e5 d k).2))else(d,k.shut,63)
abbrev wm(d:br)(k:b7)(w:BitVec 32):br×Int:=gZ d ((k.base+2+k.put/d.words:Nat):Int) ((k.put%d.words:Nat):Int) w
def sb:br→b7→List (BitVec 32)→br×b7×Int
  |d,k,[]=>(d,k,0)
  |d,k,w::l=>if(wm d k w).2=0 then sb (wm d k w).1 (k.Lt w) l else((wm d k w).1,k.shut,(wm d k w).2)
def h0(d:br)(k:b7)(l:List (BitVec 32)):br×b7×Int:=
  if k.qB=true then(if(l.length:Int)>(q5 d k:Int)-(k.put:Int)then(d,k,81)else sb d k l)else(d,k,80)
abbrev m4(k:b7)(seq:BitVec 32):List (Nat×BitVec 32):=ps seq (BitVec.ofNat 32 k.put) k.sum
def eC(d:br)(k:b7)(seq:BitVec 32):br×b7×Int:=
  if k.qB=true∧k.put≠0 then(if(eW k.shut d (m4 k seq)).2=0 then((eW k.shut (eW k.shut d (m4 k seq)).1 lX).1,k.shut,(eW k.shut (eW k.shut d (m4 k seq)).1 lX).2)else((eW k.shut d (m4 k seq)).1,k.shut,(eW k.shut d (m4 k seq)).2))else(d,k,80)
def j5(d:br)(k:b7):br×Int:=
  if d.on=true then(if(gP d k).valid=true∧(gP d k).pB=false then(if(eW k d lY).2=61 then((eW k d lY).1,80)else eW k d lY)else(d,80))else(d,63)
def ld(d:br)(k:b7):br×Int:=
  if d.on=true then(if(gP d k).valid=true∧(gP d k).pB=false∧(rY (rc d ((k.base:Int)+1))).2=true then gZ d ((k.base:Int)+1) (rY (rc d ((k.base:Int)+1))).1 0#32 else(d,80))else(d,63)
theorem Re(p q:Nat)(d:br)(h:dB d)(k:b7)(ai:dK d k)(kv:d.ops≤900000000):di Tryz.prog B 114 [.pointer (some ⟨q,0,none⟩)] [U q (bE p k) 273,U p (bH d) 196,row (.slice d.a.bn d.a.l.length d.a.c) 42 1 d.a.l.length ((cW d.a.l.length d.g).flatMap dh),row (.slice d.b.bn d.b.l.length d.b.c) 3 1 d.b.l.length ((cW d.b.l.length d.wr).flatMap ea)] (fun v S=>v= .int .i64 (dF d k).2.2∧S=[U q (bE p (dF d k).2.1) 273,U p (bH ((dF d k).1)) 196,row (.slice (dF d k).1.a.bn (dF d k).1.a.l.length (dF d k).1.a.c) 42 1 (dF d k).1.a.l.length ((cW (dF d k).1.a.l.length (dF d k).1.g).flatMap dh),row (.slice (dF d k).1.b.bn (dF d k).1.b.l.length (dF d k).1.b.c) 3 1 (dF d k).1.b.l.length ((cW (dF d k).1.b.l.length (dF d k).1.wr).flatMap ea)]):=by
 refine dN 51 Tryz.func114 fun ba bf=>?_
 have hm:=ai.m
 have hw:=ai.w
 have aH:=h.s
 have ub:=h.w
 have vh:=ai.put
 refine aj ?_
 refine eD fun ax=>?_
 refine de fun aK=>?_
 refine oZ (x7 p d) ?_
 refine bD ?_ ?_<;>intro ab
 ·refine dA (.nil _) (my rfl rfl au ad) ?_
  rw [show dF d k=(d,k.shut,63)from by unfold dF;rw [if_neg (by rw [ab];decide)]]
  exact bJ
 refine oZ (adG p q d h (k.shut) ai.shut) ?_
 refine bD ?_ ?_<;>intro ae
 ·refine dA (.nil _) (my rfl rfl au ad) ?_
  rw [show dF d k=(d,k.shut,62)from by unfold dF;rw [if_pos ab,if_pos (show uN d k=true from ae)]]
  exact bJ
 refine cZ [U ax [.pointer (some ⟨q,0,none⟩)] 197,U q (bE p (k.shut)) 273] ad aA ?_
 refine aY [0,1,2,3,4,5,6,7] ?_
 refine gb 8 (AS p d h (k.base:Int) 0 0#32) ?_
 refine df [9,99] ?_
 refine bD ?_ ?_<;>intro av
 ·refine dA (.nil _) (my rfl rfl au ad) ?_
  obtain⟨cb,cq,fP,sx,_,_,IC⟩:=xu h ah (k.base:Int) 0 0#32
  rw [show(row (.slice d.b.bn d.b.l.length d.b.c) 3 1 d.b.l.length ((cW d.b.l.length d.wr).flatMap ea):ar B)=row (.slice (e5 d k).1.b.bn (e5 d k).1.b.l.length (e5 d k).1.b.c) 3 1 (e5 d k).1.b.l.length ((cW (e5 d k).1.b.l.length (e5 d k).1.wr).flatMap ea)from by rw [sx,IC]]
  rw [show dF d k=((e5 d k).1,k.shut,(e5 d k).2)from by unfold dF;rw [if_pos ab,if_neg (by rw [show uN d k=false from ae];decide),if_neg av]]
  exact bJ
 refine cm (OV q) ?_
 rintro _ _ ⟨c,rfl,rfl⟩
 refine cx ?_
 obtain⟨cb,cq,fP,sx,_,_,IC⟩:=xu h ah (k.base:Int) 0 0#32
 rw [show(row (.slice d.b.bn d.b.l.length d.b.c) 3 1 d.b.l.length ((cW d.b.l.length d.wr).flatMap ea):ar B)=row (.slice (e5 d k).1.b.bn (e5 d k).1.b.l.length (e5 d k).1.b.c) 3 1 (e5 d k).1.b.l.length ((cW (e5 d k).1.b.l.length (e5 d k).1.wr).flatMap ea)from by rw [sx,IC]]
 refine OM (own:=[U c [.pointer (some ⟨q,0,none⟩)] 197]) (aU:=[U q (bE p (k.shut)) 273,U ax [.pointer (some ⟨q,0,none⟩)] 197,U aK [.int .i64 0] 53,U p (bH ((e5 d k).1)) 196,row (.slice (e5 d k).1.a.bn (e5 d k).1.a.l.length (e5 d k).1.a.c) 42 1 (e5 d k).1.a.l.length ((cW (e5 d k).1.a.l.length (e5 d k).1.g).flatMap dh),row (.slice (e5 d k).1.b.bn (e5 d k).1.b.l.length (e5 d k).1.b.c) 3 1 (e5 d k).1.b.l.length ((cW (e5 d k).1.b.l.length (e5 d k).1.wr).flatMap ea)]) rfl fF (Rc c p q d h (k.shut) ai.shut) (fun i S=>∃D:br,(dB D∧dK D (k.shut)∧D.ops≤d.ops+1+i∧(kt (e5 d k).1 (hg k))=kt D ((hg k).drop i))∧S=[U q (bE p (k.shut)) 273,U ax [.pointer (some ⟨q,0,none⟩)] 197,U aK [.int .i64 0] 53,U p (bH D) 196,row (.slice D.a.bn D.a.l.length D.a.c) 42 1 D.a.l.length ((cW D.a.l.length D.g).flatMap dh),row (.slice D.b.bn D.b.l.length D.b.c) 3 1 D.b.l.length ((cW D.b.l.length D.wr).flatMap ea)]) (fun c i S=>c= .ret∧(kt (e5 d k).1 (hg k)).2≠0∧S=[U q (bE p (k.shut)) 273,U ax [.pointer (some ⟨q,0,none⟩)] 197,U aK [.int .i64 (kt (e5 d k).1 (hg k)).2] 53,U p (bH ((kt (e5 d k).1 (hg k)).1)) 196,row (.slice (kt (e5 d k).1 (hg k)).1.a.bn (kt (e5 d k).1 (hg k)).1.a.l.length (kt (e5 d k).1 (hg k)).1.a.c) 42 1 (kt (e5 d k).1 (hg k)).1.a.l.length ((cW (kt (e5 d k).1 (hg k)).1.a.l.length (kt (e5 d k).1 (hg k)).1.g).flatMap dh),row (.slice (kt (e5 d k).1 (hg k)).1.b.bn (kt (e5 d k).1 (hg k)).1.b.l.length (kt (e5 d k).1 (hg k)).1.b.c) 3 1 (kt (e5 d k).1 (hg k)).1.b.l.length ((cW (kt (e5 d k).1 (hg k)).1.b.l.length (kt (e5 d k).1 (hg k)).1.wr).flatMap ea)]) (show Take ([U c [.pointer (some ⟨q,0,none⟩)] 197,U q (bE p (k.shut)) 273,U ax [.pointer (some ⟨q,0,none⟩)] 197,U aK [.int .i64 0] 53,U p (bH ((e5 d k).1)) 196,row (.slice (e5 d k).1.a.bn (e5 d k).1.a.l.length (e5 d k).1.a.c) 42 1 (e5 d k).1.a.l.length ((cW (e5 d k).1.a.l.length (e5 d k).1.g).flatMap dh),row (.slice (e5 d k).1.b.bn (e5 d k).1.b.l.length (e5 d k).1.b.c) 3 1 (e5 d k).1.b.l.length ((cW (e5 d k).1.b.l.length (e5 d k).1.wr).flatMap ea)]) _ _ from aA) (⟨(e5 d k).1,⟨cb,ai.shut.same fP sx,by simpa using cq,rfl⟩,rfl⟩) (fun i S bo=>by obtain⟨_,_,rfl⟩:=bo;exact⟨_,.here _ _⟩) rfl (fun x al=>by obtain⟨y,_,rfl⟩:=List.mem_map.1 al;rfl) ?_ ?_ ?_
 ·intro cr rec j3 i bh af bo
  obtain⟨D,⟨bU,rq,x8,gV⟩,rfl⟩:=bo
  rw [List.length_map]at af
  obtain⟨n,b0⟩:∃n,(hg k)[i]?=some n:=⟨_,List.getElem?_eq_getElem af⟩
  have El:=Cj k ah
  have afS:(hg k.shut).length=(hg k).length:=rfl
  obtain⟨a1,a3,bI,cv,_⟩:=Rd bU ah (n:Int)
  rw [At b0,kt]at gV
  rw [show v3 (k.shut)=v3 k from rfl,FP b0]
  refine aj ?_
  refine⟨rfl,_,_,.cons au (Take.self _),fun hz=>?_⟩
  refine aj ?_
  refine gH (abf p D bU (n:Int)) ?_
  refine bD ?_ ?_<;>intro aV
  ·rw [if_neg aV]at gV
   exact⟨[U q (bE p (k.shut)) 273,U ax [.pointer (some ⟨q,0,none⟩)] 197,U aK [.int .i64 (fm D (n:Int)).2] 53,U p (bH ((fm D (n:Int)).1)) 196,row (.slice (fm D (n:Int)).1.a.bn (fm D (n:Int)).1.a.l.length (fm D (n:Int)).1.a.c) 42 1 (fm D (n:Int)).1.a.l.length ((cW (fm D (n:Int)).1.a.l.length (fm D (n:Int)).1.g).flatMap dh),row (.slice (fm D (n:Int)).1.b.bn (fm D (n:Int)).1.b.l.length (fm D (n:Int)).1.b.c) 3 1 (fm D (n:Int)).1.b.l.length ((cW (fm D (n:Int)).1.b.l.length (fm D (n:Int)).1.wr).flatMap ea)],_,aA,⟨rfl,by rw [gV];exact aV,by rw [gV]⟩⟩
  rw [if_pos aV]at gV
  exact⟨[U q (bE p (k.shut)) 273,U ax [.pointer (some ⟨q,0,none⟩)] 197,U aK [.int .i64 0] 53,U p (bH ((fm D (n:Int)).1)) 196,row (.slice (fm D (n:Int)).1.a.bn (fm D (n:Int)).1.a.l.length (fm D (n:Int)).1.a.c) 42 1 (fm D (n:Int)).1.a.l.length ((cW (fm D (n:Int)).1.a.l.length (fm D (n:Int)).1.g).flatMap dh),row (.slice (fm D (n:Int)).1.b.bn (fm D (n:Int)).1.b.l.length (fm D (n:Int)).1.b.c) 3 1 (fm D (n:Int)).1.b.l.length ((cW (fm D (n:Int)).1.b.l.length (fm D (n:Int)).1.wr).flatMap ea)],_,aA,⟨_,⟨a1,rq.same bI cv,by omega,gV⟩,rfl⟩⟩
 ·intro cG bh bo
  obtain⟨D,⟨bU,rq,x8,gV⟩,rfl⟩:=bo
  rw [show v3 (k.shut)=v3 k from rfl,List.length_map,List.drop_length]at gV
  have gV:(kt (e5 d k).1 (hg k))=(D,0):=gV
  refine cx ?_
  refine k3 [U ax [.pointer (some ⟨q,0,none⟩)] 197] ad aA ?_
  refine aY [0,1,2,3,4,5,106] ?_
  refine mC rfl .no dy (jr rfl rfl rfl au ad kC) aA ?_
  refine aY [7,8,109] ?_
  refine mC rfl .no dy (jr rfl rfl rfl au ad kC) aA ?_
  refine aY [10,11,112] ?_
  refine mC rfl .no dy (AM (ga:=[.pointer (some ⟨p,0,none⟩),.int .i64 (k.base:Int),.int .i64 (k.many:Int),.bool true,.int .i64 0,.int .u32 0,.int .i64 0]) rfl rfl (by simp [Value.oneCell']) au ad rfl (by rfl) (by rfl)) aA ?_
  refine df [99] ?_
  refine dA (show Take [dl cG] _ _ from aA) (my rfl rfl au ad) ?_
  rw [show dF d k=(D,k.fresh,0)from by unfold dF;rw [if_pos ab,if_neg (by rw [show uN d k=false from ae];decide),if_pos av,gV];rfl]
  exact bJ
 intro cG c i bh af h
 obtain⟨rfl,gr,rfl⟩:=h
 refine cx ?_
 refine dA (show Take [dl cG] _ _ from aA) (my rfl rfl au ad) ?_
 rw [show dF d k=((kt (e5 d k).1 (hg k)).1,k.shut,(kt (e5 d k).1 (hg k)).2)from by unfold dF;rw [if_pos ab,if_neg (by rw [show uN d k=false from ae];decide),if_pos av,if_neg gr]]
 exact bJ
abbrev cX(d:br)(k:b7)(l:an (BitVec 32)):=h0 (dF d k).1 (dF d k).2.1 l.l
theorem adH(p q:Nat)(k:b7)(t:BitVec 32)(n:Int)(aP:0≤n∧n≤1000000000)(b:Nat)(aR:b<256):a6 B 234 [.pointer (some ⟨q,5,none⟩),.int .u8 (b:Int)] [U q [ag p,aa (k.base:Int),aa (k.many:Int),.bool k.qB,aa (k.put:Int),aQ (t:BitVec 32).toNat,aa n] 273] (fun v S=>S=[U q [ag p,aa (k.base:Int),aa (k.many:Int),.bool k.qB,aa (k.put:Int),aQ (DR t b:BitVec 32).toNat,aa (n+1)] 273]):=by
 refine bM 37 Tryz.func234 fun ba bf=>?_
 refine ap (Ar rfl (dM _)) ?_
 refine aj ?_
 refine ap (ja (z:=((BitVec.ofNat 32 b).toNat:Int)) rfl ad (Sf aR)) ?_
 refine ap (g6 rfl rfl (dM _) (dM _) rfl) ?_
 refine aj ?_
 refine ds (α:=Nat) (fun i=>i≤8) (fun i=>[(14,aa (i:Int)),(4,aQ (Gg (~~~t^^^BitVec.ofNat 32 b) i).toNat),(0,.pointer (some ⟨q,5,none⟩))]) (fun i=>[U q [ag p,aa (k.base:Int),aa (k.many:Int),.bool k.qB,aa (k.put:Int),aQ (t:BitVec 32).toNat,aa n] 273]) (fun i=>8-i) 0 ?_ dq aA ?_
 ·omega
 rintro i af
 refine bT ?_ ?_<;>intro ab
 ·refine ap (g6 rfl rfl (dM _) rfl rfl) ?_
  refine aj ?_
  refine ap (xq rfl rfl rfl ah ah) ?_
  refine bT ?_ ?_<;>intro ae
  ·refine ap (g6 rfl rfl (dM _) rfl rfl) ?_
   refine aj ?_
   refine k2 (i+1) ?_ ?_ ?_ ?_
   ·omega
   ·omega
   ·refine⟨?_,?_,?_,trivial⟩<;>first|rfl|(refine congrArg (fun z:BitVec 32=>some (Value.int .u32 z.toNat)) ?_;exact OQ ae)
   exact⟨_,aA⟩
  refine k2 (i+1) ?_ ?_ ?_ ?_
  ·omega
  ·omega
  ·refine⟨?_,?_,?_,trivial⟩<;>first|rfl|(refine congrArg (fun z:BitVec 32=>some (Value.int .u32 z.toNat)) ?_;exact OR ae)
  exact⟨_,aA⟩
 refine ap (Ar rfl (dM _)) ?_
 refine aj ?_
 obtain rfl:i=8:=by omega
 exact aO rfl
theorem adI(p q:Nat)(k:b7)(t:BitVec 32)(n:Int)(aP:0≤n∧n≤100000000)(w:BitVec 32):a6 B 180 [.pointer (some ⟨q,5,none⟩),aQ w.toNat] [U q [ag p,aa (k.base:Int),aa (k.many:Int),.bool k.qB,aa (k.put:Int),aQ (t:BitVec 32).toNat,aa n] 273] (fun v S=>S=[U q [ag p,aa (k.base:Int),aa (k.many:Int),.bool k.qB,aa (k.put:Int),aQ (A8 t w:BitVec 32).toNat,aa (n+4)] 273]):=by
 refine bM 17 Tryz.func180 fun ba bf=>?_
 rw [show(U q [ag p,aa (k.base:Int),aa (k.many:Int),.bool k.qB,aa (k.put:Int),aQ (t:BitVec 32).toNat,aa n] 273:ar B)=U q [ag p,aa (k.base:Int),aa (k.many:Int),.bool k.qB,aa (k.put:Int),aQ (q4 t w 0:BitVec 32).toNat,aa (n+((0:Nat):Int))] 273 from by simp [q4]]
 refine ds (α:=Nat) (fun i=>i≤4) (fun i=>[(5,aa (i:Int)),(0,.pointer (some ⟨q,5,none⟩)),(1,aQ w.toNat)]) (fun i=>[U q [ag p,aa (k.base:Int),aa (k.many:Int),.bool k.qB,aa (k.put:Int),aQ (q4 t w i:BitVec 32).toNat,aa (n+(i:Int))] 273]) (fun i=>4-i) 0 ?_ dq aA ?_
 ·omega
 rintro i af
 refine bT ?_ ?_<;>intro ab
 ·refine ap (pp (m:=8) (n:=(i:Int)) rfl rfl ah ah) ?_
  refine aj ?_
  refine ap (xq rfl rfl rfl ah ah) ?_
  refine ap (ja (z:=(uK w i:Int)) rfl ad (P5 w ah)) ?_
  refine cm (adH p q k (q4 t w i) (n+(i:Int)) (by omega) (uK w i) (OS w i)) ?_
  rintro _ _ rfl
  refine cx ?_
  rw [show n+(i:Int)+1=n+((i+1:Nat):Int)by omega,show DR (q4 t w i) (uK w i)=q4 t w (i+1)from rfl]
  refine cE (i+1) ?_
  omega
 obtain rfl:i=4:=by omega
 exact aO rfl
theorem Rf(p q:Nat)(k:b7):a6 B 181 [.pointer (some ⟨q,5,none⟩)] [U q (bE p k) 273] (fun v S=>v=aQ k.sum.toNat∧S=[U q (bE p k) 273]):=by
 refine bM 7 Tryz.func181 fun ba bf=>?_
 exact bJ
theorem OW{k:b7}:∀(l:List (Nat×BitVec 32)) {d:br},dB d→dK d k→d.ops+l.length≤1000000000→dB (eW k d l).1∧dK (eW k d l).1 k∧(eW k d l).1.ops≤d.ops+l.length∧(eW k d l).1.b=d.b∧(eW k d l).1.wr=d.wr
  |[],d,h,ai,_=>⟨h,ai,by simp [eW],rfl,rfl⟩
  |p::l,d,h,ai,aq=>by
    have aE:(p::l).length=l.length+1:=rfl
    obtain⟨a1,a3,bI,cv,_,_,mY⟩:=xu h (by omega) ((k.base:Int)+1) p.1 p.2
    rw [eW];split
    · obtain⟨dk,cI,rG,yA,E9⟩:=OW l a1 (ai.same bI cv) (by omega)
      exact⟨dk,cI,by omega,by rw [yA,cv],by rw [E9,mY]⟩
    · exact⟨a1,ai.same bI cv,by omega,cv,mY⟩
theorem adJ{n:Nat}(h:n≤4096):IntKind.u32.wrap (n:Int)=((BitVec.ofNat 32 n).toNat:Int):=by
  have e:(BitVec.ofNat 32 n).toNat=n:=by rw [BitVec.toNat_ofNat];omega
  have:=Gc (BitVec.ofNat 32 n)
  rw [e]at this⊢;exact this
theorem Tw(p q:Nat)(d:br)(h:dB d)(k:b7)(ai:dK d k)(kv:d.ops≤900000000)(l:an (BitVec 32))(aE:dI K l.bu (l.l.flatMap dh)):a6 B 115 [ag q,az l] [U q (bE p k) 273,U p (bH d) 196,cu d,K] (fun v S=>v=aa (h0 d k l.l).2.2∧S=[U q (bE p (h0 d k l.l).2.1) 273,U p (bH ((h0 d k l.l).1)) 196,cu (h0 d k l.l).1,K]):=by
 refine dN 67 Tryz.func115 fun ba bf=>?_
 have hm:=ai.m
 have hw:=ai.w
 have aH:=h.s
 have ub:=h.w
 have vh:=ai.put
 have aja:q5 d k≤4096:=Nat.min_le_right _ _
 refine bT ?_ ?_<;>intro ab
 ·rw [show h0 d k l.l=(d,k,80)from by unfold h0;rw [if_neg (by rw [ab];decide)]]
  exact bJ
 refine cZ [U q (bE p k) 273] ad aA ?_
 refine aY [0,1,2,4,5,6,7] ?_
 refine lB 3 (Sk p q d h k ai) ?_
 refine df [8,9,99] ?_
 refine bD ?_ ?_<;>intro ae
 ·rw [show h0 d k l.l=(d,k,81)from by unfold h0;rw [if_pos ab,if_pos ah]]
  exact bJ
 refine ds (α:=Nat×br×b7) (fun⟨i,D,cD⟩=>i≤l.l.length∧dB D∧dK D cD∧D.ops≤d.ops+i∧cD.put=k.put+i∧sb d k l.l=sb D cD (l.l.drop i)) (fun⟨i,D,cD⟩=>[(27,aa (i:Int)),(0,ag q),(25,az l),(26,aa (l.l.length:Int))]) (fun⟨i,D,cD⟩=>[U q (bE p cD) 273,U p (bH D) 196,cu D,K]) (fun⟨i,D,cD⟩=>l.l.length-i) (0,d,k) ?_ dq aA ?_
 ·exact⟨Nat.zero_le _,h,ai,by simp,rfl,rfl⟩
 rintro⟨i,D,cD⟩ ⟨af,bU,h7,x8,iy,gV⟩
 dsimp only
 have ajb:=h7.put
 have ajc:=h7.lC
 have ajN:q5 d k≤4096:=Nat.min_le_right _ _
 refine bT ?_ ?_<;>intro av
 ·obtain⟨w,bl⟩:=fp l.l i
  obtain⟨a1,a3,bI,cv,_⟩:=xu bU ah ((cD.base+2+cD.put/D.words:Nat):Int) ((cD.put%D.words:Nat):Int) w
  refine aj ?_
  refine ap (eQ (a2:=dh) (aN:=1) (i:=i) (k:=0) (fun _=>rfl) rfl au aE ad bl rfl) ?_
  refine aj ?_
  refine vg (Sm p q D bU cD h7 cD.put ah) ?_
  refine cp ?_
  refine bp (aa ((cD.base+2+cD.put/D.words:Nat):Int)) ?_
  refine bp (aa ((cD.put%D.words:Nat):Int)) ?_
  refine aj ?_
  refine gH (AS p D bU ((cD.base+2+cD.put/D.words:Nat):Int) ((cD.put%D.words:Nat):Int) w) ?_
  refine bD ?_ ?_<;>intro aV
  ·rw [show h0 d k l.l=((wm D cD w).1,cD.shut,(wm D cD w).2)from by unfold h0;rw [if_pos ab,if_neg ah,gV,At bl,sb,if_neg aV]]
   exact bJ
  refine cm (adI p q cD cD.sum cD.lC (by omega) w) ?_
  rintro _ _ rfl
  refine cx ?_
  rw [show(cD.put:Int)+1=((cD.put+1:Nat):Int)by omega]
  refine cE (i+1,(wm D cD w).1,cD.Lt w) ?_
  (try dsimp only);exact⟨by omega,a1,⟨(h7.same bI cv).m,(h7.same bI cv).w,by show cD.put+1≤4096;omega,by show 0≤cD.lC+4∧cD.lC+4≤4*((cD.put+1:Nat):Int);omega⟩,by have eX:(wm D cD w).1.ops≤D.ops+1:=a3;omega,by show cD.put+1=_;omega,by rw [gV,At bl,sb,if_pos aV]⟩
 obtain rfl:i=l.l.length:=by omega
 rw [show h0 d k l.l=(D,cD,0)from by unfold h0;rw [if_pos ab,if_neg ah,gV,List.drop_length,sb]]
 exact bJ
theorem Qe(p q:Nat)(d:br)(h:dB d)(k:b7)(ai:dK d k)(kv:d.ops≤800000000)(seq:BitVec 32):a6 B 116 [ag q,aQ seq.toNat] [U q (bE p k) 273,U p (bH d) 196,cu d] (fun v S=>v=aa (eC d k seq).2.2∧S=[U q (bE p (eC d k seq).2.1) 273,U p (bH ((eC d k seq).1)) 196,cu (eC d k seq).1]):=by
 refine dN 43 Tryz.func116 fun ba bf=>?_
 have hm:=ai.m
 have hw:=ai.w
 have aH:=h.s
 have ub:=h.w
 have vh:=ai.put
 obtain⟨dk,cI,rG,_,_⟩:=OW (m4 k seq) h ai.shut (by have:(m4 k seq).length=6:=rfl;omega)
 have yA:(m4 k seq).length=6:=rfl
 refine aj ?_
 refine cc ?_ ?_<;>intro ab
 ·rw [show eC d k seq=(d,k,80)from by unfold eC;exact if_neg (fun z=>by simp_all)]
  exact bJ
 refine bD ?_ ?_<;>intro ae
 ·rw [show eC d k seq=(d,k,80)from by unfold eC;exact if_neg (fun z=>by simp_all)]
  exact bJ
 refine k3 [U q (bE p (k.shut)) 273] ad aA ?_
 refine aY [0,1,2,3,4] ?_
 refine bj 5 rfl (ja (z:=((BitVec.ofNat 32 k.put).toNat:Int)) rfl ad (adJ ai.put)) ?_
 refine aY [6,7,8] ?_
 refine lq 9 11 en ?_ ?_
 ·skip
  refine ahA (Rf p q k.shut) ?_
  refine aY [10,111] ?_
  refine lO rfl .no ad rfl (fun wP=>?_)
  refine aY [112] ?_
  refine mC rfl .no dy (kG rfl rfl rfl au ad rfl rfl) aA ?_
  refine aY [99] ?_
  refine gN ?_
  refine du [aQ seq.toNat,aQ (BitVec.ofNat 32 k.put).toNat,aQ k.sum.toNat] ?_
  refine cm (Qa seq (BitVec.ofNat 32 k.put) k.sum) ?_
  rintro _ _ ⟨b,rfl,rfl⟩
  refine bP ?_
  refine gH (Qc p q d h k.shut ai.shut b seq (BitVec.ofNat 32 k.put) k.sum (by omega)) ?_
  refine bD ?_ ?_<;>intro av
  ·rw [show eC d k seq=((eW k.shut d (m4 k seq)).1,k.shut,(eW k.shut d (m4 k seq)).2)from by unfold eC;rw [if_pos ⟨ab,by omega⟩,if_neg ch]]
   exact bJ
  refine gj (OU) ?_
  refine gH (Qd p q (eW k.shut d (m4 k seq)).1 dk k.shut cI (by omega)) ?_
  rw [show eC d k seq=((eW k.shut (eW k.shut d (m4 k seq)).1 lX).1,k.shut,(eW k.shut (eW k.shut d (m4 k seq)).1 lX).2)from by unfold eC;rw [if_pos ⟨ab,by omega⟩,if_pos ch]]
  exact bJ
 skip
 refine lO rfl .no ad rfl (fun wP=>?_)
 refine lB 9 (Rf p q k.shut) ?_
 refine aY [10,112] ?_
 refine mC rfl .no dy (kG rfl rfl rfl au ad rfl rfl) aA ?_
 refine aY [99] ?_
 refine gN ?_
 refine du [aQ seq.toNat,aQ (BitVec.ofNat 32 k.put).toNat,aQ k.sum.toNat] ?_
 refine cm (Qa seq (BitVec.ofNat 32 k.put) k.sum) ?_
 rintro _ _ ⟨b,rfl,rfl⟩
 refine bP ?_
 refine gH (Qc p q d h k.shut ai.shut b seq (BitVec.ofNat 32 k.put) k.sum (by omega)) ?_
 refine bD ?_ ?_<;>intro aV
 ·rw [show eC d k seq=((eW k.shut d (m4 k seq)).1,k.shut,(eW k.shut d (m4 k seq)).2)from by unfold eC;rw [if_pos ⟨ab,by omega⟩,if_neg ch]]
  exact bJ
 refine gj (OU) ?_
 refine gH (Qd p q (eW k.shut d (m4 k seq)).1 dk k.shut cI (by omega)) ?_
 rw [show eC d k seq=((eW k.shut (eW k.shut d (m4 k seq)).1 lX).1,k.shut,(eW k.shut (eW k.shut d (m4 k seq)).1 lX).2)from by unfold eC;rw [if_pos ⟨ab,by omega⟩,if_pos ch]]
 exact bJ
theorem OX(p q:Nat)(d:br)(h:dB d)(k:b7)(ai:dK d k)(kv:d.ops≤900000000):a6 B 117 [ag q] [U q (bE p k) 273,U p (bH d) 196,cu d] (fun v S=>v=aa (j5 d k).2∧S=[U q (bE p k) 273,U p (bH ((j5 d k).1)) 196,cu (j5 d k).1]):=by
 refine dN 28 Tryz.func117 fun ba bf=>?_
 have hm:=ai.m
 have hw:=ai.w
 have aH:=h.s
 have ub:=h.w
 have vh:=ai.put
 refine aj ?_
 refine eR (AE p q d h k ai) ?_
 refine de fun ax=>?_
 refine oZ (x7 p d) ?_
 refine c2 ?_ ?_<;>intro ab
 ·refine aj ?_
  rw [show j5 d k=(d,63)from by unfold j5;rw [if_neg (by simp_all)]]
  exact bJ
 refine iK ?_
 refine dn (.bool (gP d k).valid) ?_
 refine aj ?_
 refine pJ ?_ ?_<;>intro ae
 ·refine aj ?_
  rw [show j5 d k=(d,80)from by unfold j5;rw [if_pos (by simp_all),if_neg (by simp_all)]]
  exact bJ
 refine cp ?_
 refine dn (.bool (gP d k).pB) ?_
 refine bT ?_ ?_<;>intro av
 ·rw [show j5 d k=(d,80)from by unfold j5;rw [if_pos (by simp_all),if_neg (by simp_all)]]
  exact bJ
 refine gj (WY) ?_
 refine gH (Zn p q d h k ai kv) ?_
 refine bD ?_ ?_<;>intro aV
 ·rw [show j5 d k=((eW k d lY).1,(eW k d lY).2)from by unfold j5;rw [if_pos (by simp_all),if_pos (by simp_all),if_neg (by simp_all)]]
  exact bJ
 rw [show j5 d k=((eW k d lY).1,80)from by unfold j5;rw [if_pos (by simp_all),if_pos (by simp_all),if_pos (by simp_all)]]
 exact bJ
theorem afT(p q:Nat)(d:br)(h:dB d)(k:b7)(ai:dK d k):a6 B 90 [ag q] [U q (bE p k) 273,U p (bH d) 196,cu d] (fun v S=>v=aa (ld d k).2∧S=[U q (bE p k) 273,U p (bH ((ld d k).1)) 196,cu (ld d k).1]):=by
 refine dN 50 Tryz.func90 fun ba bf=>?_
 have hm:=ai.m
 have hw:=ai.w
 have aH:=h.s
 have ub:=h.w
 have vh:=ai.put
 refine aj ?_
 refine eR (AE p q d h k ai) ?_
 refine de fun ax=>?_
 refine oZ (x7 p d) ?_
 refine bD ?_ ?_<;>intro ab
 ·rw [show ld d k=(d,63)from by unfold ld;rw [if_neg (by simp_all)]]
  exact bJ
 refine cZ [U q (bE p k) 273] ad aA ?_
 refine aY [0,1,2,3,4,5,6,7,8] ?_
 refine j0 9 (Gh p d h ((k.base:Int)+1)) ?_
 rintro _ _ ⟨a,⟨a5,cO⟩,rfl,rfl⟩
 refine bP ?_
 refine gv ?_
 refine gb 10 (adD a (dT cO rfl)) ?_
 rw [a5]
 refine aY [11] ?_
 refine bG 12 rfl (dD (v:=aa (rY (rc d ((k.base:Int)+1))).1) rfl) ?_
 refine bG 13 rfl (dD (v:= .bool (rY (rc d ((k.base:Int)+1))).2) rfl) ?_
 refine aY [14,15,99] ?_
 refine gN ?_
 refine dn (.bool (gP d k).valid) ?_
 refine aj ?_
 refine pJ ?_ ?_<;>intro ae
 ·refine aj ?_
  rw [show ld d k=(d,80)from by unfold ld;rw [if_pos (by simp_all),if_neg (by simp_all)]]
  exact bJ
 refine cp ?_
 refine dn (.bool (gP d k).pB) ?_
 refine aj ?_
 refine cc ?_ ?_<;>intro av
 ·rw [show ld d k=(d,80)from by unfold ld;rw [if_pos (by simp_all),if_neg (by simp_all)]]
  exact bJ
 refine bD ?_ ?_<;>intro aV
 ·rw [show ld d k=(d,80)from by unfold ld;rw [if_pos (by simp_all),if_neg (by simp_all)]]
  exact bJ
 refine cZ [U q (bE p k) 273] ad aA ?_
 refine aY [0,1,2,3,4,5,6,7,8,9] ?_
 refine gb 10 (AS p d h ((k.base:Int)+1) (rY (rc d ((k.base:Int)+1))).1 0#32) ?_
 refine df [11,99] ?_
 rw [show ld d k=((gZ d ((k.base:Int)+1) (rY (rc d ((k.base:Int)+1))).1 0#32).1,(gZ d ((k.base:Int)+1) (rY (rc d ((k.base:Int)+1))).1 0#32).2)from by unfold ld;rw [if_pos (by simp_all),if_pos (by simp_all)]]
 exact bJ
def hQ(d:br)(k:b7):Bool:=(oy d k).2&&((gP d k).pB||decide ((gP d k).yS<3))
structure Lu where
  i:Nat
  seq:BitVec 32
  Dv:Bool
  l:List (BitVec 32)
def ev(d:br)(k:b7)(i:Nat):Lu:=if hQ d k=true then⟨i,(gP d k).seq,!(gP d k).pB,(oy d k).1⟩else⟨0,0#32,false,[]⟩
abbrev g0(c:Lu)(a:an (BitVec 32)):List Value:=[aa (c.i:Int),aQ c.seq.toNat,.bool c.Dv,az a]
def AT(d:br)(z:Int)(k:b7):Bool:=if 0≤z then(gP d k).pB else false
def lR(d:br)(z:Int)(k:b7):Int:=if d.on=true then(if AT d z k=true then 0 else 80)else 63
def dJ(d:br)(k:b7):br×Int×Bool:=
  if d.on=true then(if hQ d k=true then(if(gP d k).pB=true then(d,0,true)else if(ld d k).2=0 then((ld d k).1,0,true)else((ld d k).1,(ld d k).2,false))else(d,80,false))else(d,63,false)
theorem vQ(bi p:Nat)(Q:Nat→Nat)(d:br)(h:dB d)(ay:Nat→b7)(i:Nat)(af:i<2)(ai:dK d (ay i))(z:Int):a6 B 80 [ag bi,aa (i:Int)] [U bi [ag p,ag (Q 0),ag (Q 1),aa z] 200,U (Q i) (bE p (ay i)) 273,U p (bH d) 196,cu d] (fun v S=>∃a:an (BitVec 32),(a.l=(ev d (ay i) i).l∧a.Own)∧v= .tuple #[.agg #[aa ((ev d (ay i) i).i:Int),aQ (ev d (ay i) i).seq.toNat,.bool (ev d (ay i) i).Dv,az a],.bool (hQ d (ay i))]∧S=[eO a 42 1 dh,U bi [ag p,ag (Q 0),ag (Q 1),aa z] 200,U (Q i) (bE p (ay i)) 273,U p (bH d) 196,cu d]):=by
 refine dN 45 Tryz.func80 fun ba bf=>?_
 refine gE dh 42 1 ?_
 refine aj ?_
 refine fe fun ax=>?_
 refine nH ?_
 refine ap (ft (v:=ag (Q i)) rfl au ad (by rcases(show i=0∨i=1 by omega)with rfl|rfl<;>rfl)) ?_
 refine aj ?_
 refine cm (abi p (Q i) d h (ay i) ai) ?_
 rintro _ _ ⟨a,⟨a5,cO⟩,rfl,rfl⟩
 refine bP ?_
 refine cp ?_
 refine bp (az a) ?_
 refine bp (.bool (oy d (ay i)).2) ?_
 refine aj ?_
 refine eR (AE p (Q i) d h (ay i) ai) ?_
 refine de fun aK=>?_
 refine pJ ?_ ?_<;>intro ab
 ·refine aj ?_
  refine fS ?_
  have jg:hQ d (ay i)=false:=by unfold hQ;simp_all
  have qC:ev d (ay i) i=⟨0,0#32,false,[]⟩:=by unfold ev;rw [jg];rfl
  exact aO ⟨an.bt,⟨by rw [qC];rfl,an.fk⟩,by rw [qC,jg];rfl,rfl⟩
 refine cp ?_
 refine ap (ft (v:= .bool (gP d (ay i)).pB) rfl au ad (by rfl)) ?_
 refine aj ?_
 refine pJ ?_ ?_<;>intro ae
 ·refine cp ?_
  refine ap (ft (v:=aa (gP d (ay i)).yS) rfl au ad (by rfl)) ?_
  refine aj ?_
  refine c2 ?_ ?_<;>intro av
  ·refine aj ?_
   refine fS ?_
   have jg:hQ d (ay i)=false:=by unfold hQ;simp_all
   have qC:ev d (ay i) i=⟨0,0#32,false,[]⟩:=by unfold ev;rw [jg];rfl
   exact aO ⟨an.bt,⟨by rw [qC];rfl,an.fk⟩,by rw [qC,jg];rfl,rfl⟩
  refine l5 ?_
  refine ap (ft (v:=aQ (gP d (ay i)).seq.toNat) rfl au ad (by rfl)) ?_
  refine cp ?_
  refine ap (ft (v:= .bool (gP d (ay i)).pB) rfl au ad (by rfl)) ?_
  refine ap (cj rfl) ?_
  refine ap (cj rfl) ?_
  refine ap (yL [_,_,_,_] rfl ad (by rfl)) ?_
  refine fq (kG rfl rfl rfl au ad rfl rfl) ?_
  refine ap (cj rfl) ?_
  refine e8 ?_
  refine nv ?_
  refine fS ?_
  have jg:hQ d (ay i)=true:=by unfold hQ;simp_all
  have qC:ev d (ay i) i=⟨i,(gP d (ay i)).seq,!(gP d (ay i)).pB,(oy d (ay i)).1⟩:=by unfold ev;rw [jg];rfl
  exact⟨_,⟨a,⟨by rw [qC];exact a5,cO⟩,by rw [qC,jg],rfl⟩,_,cd⟩
 refine DQ ?_
 refine ap (ft (v:=aQ (gP d (ay i)).seq.toNat) rfl au ad (by rfl)) ?_
 refine cp ?_
 refine ap (ft (v:= .bool (gP d (ay i)).pB) rfl au ad (by rfl)) ?_
 refine ap (cj rfl) ?_
 refine ap (cj rfl) ?_
 refine ap (yL [_,_,_,_] rfl ad (by rfl)) ?_
 refine fq (kG rfl rfl rfl au ad rfl rfl) ?_
 refine ap (cj rfl) ?_
 refine e8 ?_
 refine nv ?_
 refine fS ?_
 have jg:hQ d (ay i)=true:=by unfold hQ;simp_all
 have qC:ev d (ay i) i=⟨i,(gP d (ay i)).seq,!(gP d (ay i)).pB,(oy d (ay i)).1⟩:=by unfold ev;rw [jg];rfl
 exact⟨_,⟨a,⟨by rw [qC];exact a5,cO⟩,by rw [qC,jg],rfl⟩,_,cd⟩
theorem Wf(bi p:Nat)(Q:Nat→Nat)(d:br)(h:dB d)(ay:Nat→b7)(a:Nat)(a5:a<2)(z:Int)(aS:z= -1∨z=(a:Int))(ai:dK d (ay a)):a6 B 271 [ag bi] [U bi [ag p,ag (Q 0),ag (Q 1),aa z] 200,U (Q a) (bE p (ay a)) 273,U p (bH d) 196,cu d] (fun v S=>v= .bool (AT d z (ay a))∧S=[U bi [ag p,ag (Q 0),ag (Q 1),aa z] 200,U (Q a) (bE p (ay a)) 273,U p (bH d) 196,cu d]):=by
 refine bM 21 Tryz.func271 fun ba bf=>?_
 refine cZ [U bi [ag p,ag (Q 0),ag (Q 1),aa z] 200] ad aA ?_
 refine aY [0,1,2,3,4,5] ?_
 refine tt (t:=8) rfl (fun ab=>?_) (fun ab=>?_)
 ·replace ab:=gX ab
  obtain rfl:z=(a:Int):=by omega
  refine aY [6,7,8,9,10,11,12] ?_
  refine bG 13 rfl (ns rfl rfl ad rfl ah rfl) ?_
  refine bj 14 rfl (ft (v:=ag (Q a)) rfl au ad (by rcases(show a=0∨a=1 by omega)with rfl|rfl<;>rfl)) ?_
  refine gb 15 (AE p (Q a) d h (ay a) ai) ?_
  refine bj 16 rfl (Cu rfl ad rfl) ?_
  refine df [17,18,99] ?_
  exact aO ⟨by unfold AT;first|rw [if_pos ah]|rw [if_neg ah],rfl⟩
 replace ab:=gX ab
 refine df [6,7,8,9,10,11,12,13,14,15,16,17,18,99] ?_
 exact aO ⟨by unfold AT;first|rw [if_pos ah]|rw [if_neg ah],rfl⟩
theorem Zo{d:br}{z:Int}{a:Nat}{k:b7}(aS:z= -1∨z=(a:Int))(h:AT d z k=true):z=(a:Int):=by
  rcases aS with rfl|aS
  · unfold AT at h;simp at h
  · exact aS
def pj(d:br)(z:Int)(z8 rD:b7):br×b7×Int:=if lR d z z8=0 then dF d rD else(d,rD,lR d z z8)
def nC(d:br)(z:Int)(z8 rD:b7)(l:List (BitVec 32)):br×b7×Int:=if lR d z z8=0 then h0 d rD l else(d,rD,lR d z z8)
theorem JK(bi p:Nat)(Q:Nat→Nat)(d:br)(h:dB d)(ay:Nat→b7)(a:Nat)(a5:a<2)(z:Int)(aS:z= -1∨z=(a:Int))(ai:dK d (ay a)):a6 B 222 [ag bi] [U bi [ag p,ag (Q 0),ag (Q 1),aa z] 200,U (Q a) (bE p (ay a)) 273,U p (bH d) 196,cu d] (fun v S=>v= .tuple #[(if(lR d z (ay a))=0 then Value.pointer (some ⟨(Q (1-a)),0,none⟩)else .pointer none),aa (lR d z (ay a))]∧S=[U bi [ag p,ag (Q 0),ag (Q 1),aa z] 200,U (Q a) (bE p (ay a)) 273,U p (bH d) 196,cu d]):=by
 refine bM 25 Tryz.func222 fun ba bf=>?_
 refine oZ (x7 p d) ?_
 refine bD ?_ ?_<;>intro ab
 ·have aq:lR d z (ay a)=63:=by unfold lR;rw [if_neg (by simp_all)]
  rw [aq]
  exact bJ
 refine oZ (Wf bi p Q d h ay a a5 z aS ai) ?_
 refine bD ?_ ?_<;>intro ae
 ·have aq:lR d z (ay a)=80:=by unfold lR;rw [if_pos (by simp_all),if_neg (by simp_all)]
  rw [aq]
  exact bJ
 have Ea:=Zo aS ae
 subst Ea
 refine aj ?_
 refine cZ [U bi [ag p,ag (Q 0),ag (Q 1),aa (a:Int)] 200] ad aA ?_
 refine aY [0,1,2,3,4,5,6,7] ?_
 refine bG 8 rfl (ns rfl rfl ad (by omega:(1:Int)-(a:Int)=((1-a:Nat):Int)) ah rfl) ?_
 refine bj 9 rfl (ft (v:=ag (Q (1-a))) rfl au ad (by rcases(show a=0∨a=1 by omega)with rfl|rfl<;>rfl)) ?_
 refine df [10,11,99] ?_
 have aq:lR d (a:Int) (ay a)=0:=by unfold lR;rw [if_pos (by simp_all),if_pos ae]
 rw [aq]
 exact bJ
theorem Zp(bi p:Nat)(Q:Nat→Nat)(d:br)(h:dB d)(ay:Nat→b7)(a:Nat)(a5:a<2)(z:Int)(aS:z= -1∨z=(a:Int))(ai:dK d (ay a))(h7:dK d (ay (1-a)))(kv:d.ops≤900000000):a6 B 154 [ag bi] [U bi [ag p,ag (Q 0),ag (Q 1),aa z] 200,U (Q a) (bE p (ay a)) 273,U (Q (1-a)) (bE p (ay (1-a))) 273,U p (bH d) 196,cu d,fM d] (fun v S=>v=aa (pj d z (ay a) (ay (1-a))).2.2∧S=[U bi [ag p,ag (Q 0),ag (Q 1),aa z] 200,U (Q a) (bE p (ay a)) 273,U (Q (1-a)) (bE p (pj d z (ay a) (ay (1-a))).2.1) 273,U p (bH ((pj d z (ay a) (ay (1-a))).1)) 196,cu (pj d z (ay a) (ay (1-a))).1,fM (pj d z (ay a) (ay (1-a))).1]):=by
 refine bM 15 Tryz.func154 fun ba bf=>?_
 refine eR (JK bi p Q d h ay a a5 z aS ai) ?_
 refine cp ?_
 refine bp (if(lR d z (ay a))=0 then Value.pointer (some ⟨(Q (1-a)),0,none⟩)else .pointer none) ?_
 refine bp (aa (lR d z (ay a))) ?_
 refine bT ?_ ?_<;>intro ab
 ·rw [show(pj d z (ay a) (ay (1-a)))=(d,ay (1-a),(lR d z (ay a)))from by unfold pj;rw [if_neg ab]]
  exact bJ
 rw [if_pos ab]
 refine aj ?_
 refine gH (Re p (Q (1-a)) d h (ay (1-a)) h7 kv) ?_
 rw [show(pj d z (ay a) (ay (1-a)))=(dF d (ay (1-a)))from by unfold pj;rw [if_pos ab]]
 exact bJ
theorem adK(bi p:Nat)(Q:Nat→Nat)(d:br)(h:dB d)(ay:Nat→b7)(a:Nat)(a5:a<2)(z:Int)(aS:z= -1∨z=(a:Int))(ai:dK d (ay a))(h7:dK d (ay (1-a)))(kv:d.ops≤900000000)(l:an (BitVec 32))(aE:dI K l.bu (l.l.flatMap dh)):a6 B 155 [ag bi,az l] [U bi [ag p,ag (Q 0),ag (Q 1),aa z] 200,U (Q a) (bE p (ay a)) 273,U (Q (1-a)) (bE p (ay (1-a))) 273,U p (bH d) 196,cu d,K] (fun v S=>v=aa (nC d z (ay a) (ay (1-a)) l.l).2.2∧S=[U bi [ag p,ag (Q 0),ag (Q 1),aa z] 200,U (Q a) (bE p (ay a)) 273,U (Q (1-a)) (bE p (nC d z (ay a) (ay (1-a)) l.l).2.1) 273,U p (bH ((nC d z (ay a) (ay (1-a)) l.l).1)) 196,cu (nC d z (ay a) (ay (1-a)) l.l).1,K]):=by
 refine bM 18 Tryz.func155 fun ba bf=>?_
 refine eR (JK bi p Q d h ay a a5 z aS ai) ?_
 refine cp ?_
 refine bp (if(lR d z (ay a))=0 then Value.pointer (some ⟨(Q (1-a)),0,none⟩)else .pointer none) ?_
 refine bp (aa (lR d z (ay a))) ?_
 refine bT ?_ ?_<;>intro ab
 ·rw [show(nC d z (ay a) (ay (1-a)) l.l)=(d,ay (1-a),(lR d z (ay a)))from by unfold nC;rw [if_neg ab]]
  exact bJ
 rw [if_pos ab]
 refine aj ?_
 refine gH (Tw p (Q (1-a)) d h (ay (1-a)) h7 kv l aE) ?_
 rw [show(nC d z (ay a) (ay (1-a)) l.l)=(h0 d (ay (1-a)) l.l)from by unfold nC;rw [if_pos ab]]
 exact bJ
theorem Qf(bi p:Nat)(Q:Nat→Nat)(d:br)(h:dB d)(ay:Nat→b7)(i:Nat)(af:i<2)(ai:dK d (ay i))(z:Int):a6 B 48 [ag bi,aa (i:Int)] [U bi [ag p,ag (Q 0),ag (Q 1),aa z] 200,U (Q i) (bE p (ay i)) 273,U p (bH d) 196,cu d] (fun v S=>v=aa (dJ d (ay i)).2.1∧S=[U bi [ag p,ag (Q 0),ag (Q 1),aa (if(dJ d (ay i)).2.2=true then(i:Int)else z)] 200,U (Q i) (bE p (ay i)) 273,U p (bH ((dJ d (ay i)).1)) 196,cu (dJ d (ay i)).1]):=by
 refine dN 44 Tryz.func48 fun ba bf=>?_
 refine wi ?_
 refine cc ?_ ?_<;>intro ab
 ·omega
 refine bD ?_ ?_<;>intro ae
 ·omega
 refine cm (vQ bi p Q d h ay i af ai z) ?_
 rintro _ _ ⟨a,⟨a5,cO⟩,rfl,rfl⟩
 refine bP ?_
 refine cp ?_
 refine bp (.agg #[aa ((ev d (ay i) i).i:Int),aQ (ev d (ay i) i).seq.toNat,.bool (ev d (ay i) i).Dv,az a]) ?_
 refine bp (.bool (hQ d (ay i))) ?_
 refine de fun ax=>?_
 refine oZ (x7 p d) ?_
 refine bD ?_ ?_<;>intro av
 ·rw [show dJ d (ay i)=(d,63,false)from by unfold dJ;rw [if_neg (by simp_all)]]
  exact bJ
 refine c2 ?_ ?_<;>intro aV
 ·refine aj ?_
  rw [show dJ d (ay i)=(d,80,false)from by unfold dJ;rw [if_pos (by simp_all),if_neg (by simp_all)]]
  exact bJ
 have qC:(ev d (ay i) i).Dv=!(gP d (ay i)).pB:=by unfold ev;rw [if_pos (by simpa using aV)]
 refine ic ?_
 refine fj ?_
 refine cC ?_
 refine cC ?_
 refine dz ?_
 refine ap (ia ad) ?_
 refine ap (ft (v:= .bool (ev d (ay i) i).Dv) rfl au ad (by rfl)) ?_
 rw [qC]
 refine aj ?_
 refine c2 ?_ ?_<;>intro bN
 ·refine l5 ?_
  refine ap (ft (v:=ag (Q i)) rfl au ad (by rcases(show i=0∨i=1 by omega)with rfl|rfl<;>rfl)) ?_
  refine gH (afT p (Q i) d h (ay i) ai) ?_
  refine bD ?_ ?_<;>intro c0
  ·rw [show dJ d (ay i)=((ld d (ay i)).1,(ld d (ay i)).2,false)from by unfold dJ;rw [if_pos (by simp_all),if_pos (by simp_all),if_neg (by simp_all),if_neg ch]]
   exact bJ
  rw [show dJ d (ay i)=((ld d (ay i)).1,0,true)from by unfold dJ;rw [if_pos (by simp_all),if_pos (by simp_all),if_neg (by simp_all),if_pos ch]]
  exact bJ
 refine aj ?_
 rw [show dJ d (ay i)=(d,0,true)from by unfold dJ;rw [if_pos (by simp_all),if_pos (by simp_all),if_pos (by simp_all)]]
 exact bJ
structure eA(n:Nat)(d d2:br):Prop where
  ok:dB d2
  ops:d2.ops≤d.ops+n
  w:d2.words=d.words
  b:d2.b=d.b
  a:d2.a=d.a
  rn:d2.jz=d.jz
theorem eA.rfl'{n:Nat}{d:br}(h:dB d):eA n d d:=⟨h,by omega,rfl,rfl,rfl,rfl⟩
theorem eA.trans{n m:Nat}{d d2 d3:br}(h:eA n d d2)(g:eA m d2 d3):eA (n+m) d d3:=⟨g.ok,by have:=h.ops;have:=g.ops;omega,by rw [g.w,h.w],by rw [g.b,h.b],by rw [g.a,h.a],by rw [g.rn,h.rn]⟩
theorem eA.mono{n m:Nat}{d d2:br}(h:eA n d d2)(q:n≤m):eA m d d2:=⟨h.ok,by have:=h.ops;omega,h.w,h.b,h.a,h.rn⟩
theorem eA.lK{n:Nat}{d d2:br}{k:b7}(h:eA n d d2)(ai:dK d k):dK d2 k:=ai.same h.w h.b
theorem Gj{d:br}(h:dB d)(aq:d.ops<1000000000)(s w:Int)(x:BitVec 32):eA 1 d (gZ d s w x).1:=by
  obtain⟨dk,cI,rG,yA,E9,M1,_⟩:=xu h aq s w x;exact⟨dk,cI,rG,yA,E9,M1⟩
theorem abj{d:br}(h:dB d)(aq:d.ops<1000000000)(s:Int):eA 1 d (fm d s).1:=by
  obtain⟨dk,cI,rG,yA,E9,M1⟩:=Rd h aq s;exact⟨dk,cI,rG,yA,E9,M1⟩
theorem N3:∀(l:List Nat) {d:br},dB d→d.ops+l.length≤1000000000→eA l.length d (kt d l).1
  |[],d,h,_=>eA.rfl' h
  |n::l,d,h,aq=>by
    have aE:(n::l).length=l.length+1:=rfl
    have g:=abj h (by omega) (n:Int)
    have go:=g.ops
    rw [kt];split
    · exact(g.trans (N3 l g.ok (by omega))).mono (by omega)
    · exact g.mono (by omega)
theorem FY{k:b7}:∀(l:List (Nat×BitVec 32)) {d:br},dB d→d.ops+l.length≤1000000000→eA l.length d (eW k d l).1
  |[],d,h,_=>eA.rfl' h
  |p::l,d,h,aq=>by
    have aE:(p::l).length=l.length+1:=rfl
    have g:=Gj h (by omega) ((k.base:Int)+1) p.1 p.2
    have go:=g.ops
    rw [eW];split
    · exact(g.trans (FY l g.ok (by omega))).mono (by omega)
    · exact g.mono (by omega)
theorem Jm{d:br}{k:b7}(h:dB d)(ai:dK d k)(aq:d.ops≤900000000):eA 65 d (dF d k).1∧dK (dF d k).1 (dF d k).2.1:=by
  have aH:=h.s;have hm:=ai.m
  have g:=Gj h (by omega) (k.base:Int) 0 0#32
  have go:=g.ops
  have aE:=Cj k (by omega)
  have a3:=g.trans (N3 (hg k) g.ok (by omega))
  have a3:=a3.mono (show 1+(hg k).length≤65 by omega)
  unfold dF
  split
  · split
    · exact⟨eA.rfl' h,ai.shut⟩
    · split
      · split
        · exact⟨a3,a3.lK ai.fresh⟩
        · exact⟨a3,a3.lK ai.shut⟩
      · exact⟨g.mono (by omega),g.lK ai.shut⟩
  · exact⟨eA.rfl' h,ai.shut⟩
theorem Qg:∀(l:List (BitVec 32)) {d:br} {k:b7},dB d→dK d k→d.ops+l.length≤1000000000→k.put+l.length≤4096→eA l.length d (sb d k l).1∧dK (sb d k l).1 (sb d k l).2.1
  |[],d,k,h,ai,_,_=>⟨eA.rfl' h,ai⟩
  |w::l,d,k,h,ai,aq,aC=>by
    have aE:(w::l).length=l.length+1:=rfl
    have g:=Gj h (by omega) ((k.base+2+k.put/d.words:Nat):Int) ((k.put%d.words:Nat):Int) w
    have go:=g.ops
    have a7:=ai.lC
    rw [sb];split
    · have h7:dK (wm d k w).1 (k.Lt w):=⟨(g.lK ai).m,(g.lK ai).w,by show k.put+1≤4096;omega,by show 0≤k.lC+4∧k.lC+4≤4*((k.put+1:Nat):Int);omega⟩
      obtain⟨dk,cI⟩:=Qg l g.ok h7 (by omega) (by show k.put+1+_≤_;omega)
      exact⟨(g.trans dk).mono (by omega),cI⟩
    · exact⟨g.mono (by omega),g.lK ai.shut⟩
theorem GK{d:br}{k:b7}(h:dB d)(ai:dK d k)(aq:d.ops≤900000000)(l:List (BitVec 32)):eA 4096 d (h0 d k l).1∧dK (h0 d k l).1 (h0 d k l).2.1:=by
  have a4:q5 d k≤4096:=Nat.min_le_right _ _
  unfold h0
  split
  · split
    · exact⟨eA.rfl' h,ai⟩
    · obtain⟨dk,cI⟩:=Qg l h ai (by omega) (by omega)
      exact⟨dk.mono (by omega),cI⟩
  · exact⟨eA.rfl' h,ai⟩
theorem N4(k:b7)(seq:BitVec 32):(m4 k seq).length=6:=rfl
theorem OY:lX.length=2:=rfl
theorem OZ:lY.length=2:=rfl
theorem FQ{d:br}{k:b7}(h:dB d)(ai:dK d k)(aq:d.ops≤900000000)(seq:BitVec 32):eA 8 d (eC d k seq).1∧dK (eC d k seq).1 (eC d k seq).2.1:=by
  have g:=FY (k:=k.shut) (m4 k seq) h (by rw [N4];omega)
  have go:=g.ops
  rw [N4]at g go
  have a3:=(g.trans (FY (k:=k.shut) lX g.ok (by rw [OY];omega)))
  rw [OY]at a3
  unfold eC
  split
  · split
    · exact⟨a3,a3.lK ai.shut⟩
    · exact⟨g.mono (by omega),g.lK ai.shut⟩
  · exact⟨eA.rfl' h,ai⟩
theorem FI{d:br}{k:b7}(h:dB d)(aq:d.ops≤900000000):eA 2 d (j5 d k).1:=by
  have g:=FY (k:=k) lY h (by rw [OZ];omega)
  rw [OZ]at g
  unfold j5
  split
  · split
    · split<;>exact g
    · exact eA.rfl' h
  · exact eA.rfl' h
theorem Kv{d:br}{k:b7}(h:dB d)(aq:d.ops≤900000000):eA 1 d (ld d k).1:=by
  unfold ld
  split
  · split
    · exact Gj h (by omega) _ _ _
    · exact eA.rfl' h
  · exact eA.rfl' h
theorem CL(d:br)(s w:Int)(x:BitVec 32):(gZ d s w x).1.wr=d.wr:=by
  unfold gZ
  split
  · split
    · rfl
    · split
      · split<;>rfl
      · rfl
  · rfl
theorem Cw{k:b7}:∀(l:List (Nat×BitVec 32)) (d:br),(eW k d l).1.wr=d.wr
  |[],d=>rfl
  |p::l,d=>by
    rw [eW];split
    · rw [Cw l,CL]
    · rw [CL]
theorem Qh:∀(l:List (BitVec 32)) (d:br) (k:b7),(sb d k l).1.wr=d.wr
  |[],d,k=>rfl
  |w::l,d,k=>by
    rw [sb];split
    · rw [Qh l,CL]
    · exact CL _ _ _ _
theorem GL(d:br)(k:b7)(l:List (BitVec 32)):(h0 d k l).1.wr=d.wr:=by
  unfold h0
  split
  · split
    · rfl
    · exact Qh _ _ _
  · rfl
theorem I2(d:br)(k:b7)(seq:BitVec 32):(eC d k seq).1.wr=d.wr:=by
  unfold eC
  split
  · split
    · exact(Cw _ _).trans (Cw _ _)
    · exact Cw _ _
  · rfl
theorem NC(d:br)(k:b7):(j5 d k).1.wr=d.wr:=by
  unfold j5
  split
  · split
    · split<;>exact Cw _ _
    · rfl
  · rfl
theorem Rg(d:br)(k:b7):(ld d k).1.wr=d.wr:=by
  unfold ld
  split
  · split
    · exact CL _ _ _ _
    · rfl
  · rfl
def Lv(a b:BitVec 32):BitVec 32:=if a.toNat<b.toNat then b else a
theorem abk(a b:BitVec 32):max (a.toNat:Int) (b.toNat:Int)=((Lv a b).toNat:Int):=by unfold Lv;split<;>omega
def Em(dW:Nat→BitVec 32):Nat→BitVec 32
  |0=>0#32
  |n+1=>Lv (Em dW n) (dW n)
def adL(m:BitVec 32):BitVec 32×Int:=if(m.toNat:Int)≥2147483648 then(0#32,82)else(m+1#32,0)
abbrev Hp(d:br)(ay:Nat→b7):Nat→BitVec 32:=fun i=>(gP d (ay i)).seq
abbrev pt(d:br)(ay:Nat→b7):BitVec 32×Int:=adL (Em (Hp d ay) 2)
def k4(d:br)(z:Int)(ay:Nat→b7)(a:Nat):br×b7×Int:=
  if lR d z (ay a)=0 then(if(ay (1-a)).qB=true∧(ay (1-a)).put≠0 then(if(pt d ay).2=0 then eC d (ay (1-a)) (pt d ay).1 else(d,ay (1-a),(pt d ay).2))else(d,ay (1-a),80))else(d,ay (1-a),lR d z (ay a))
def rN(d:br)(z:Int)(k:b7):br×Int:=if z<0 then(d,80)else j5 d k
def jb(d:br)(k:b7)(l:List (BitVec 32)):br×b7×Int:=
  if(dF d k).2.2=0 then
    (if(h0 (dF d k).1 (dF d k).2.1 l).2.2=0 then
      (if(eC (h0 (dF d k).1 (dF d k).2.1 l).1 (h0 (dF d k).1 (dF d k).2.1 l).2.1 1#32).2.2=0 then
        ((j5 (eC (h0 (dF d k).1 (dF d k).2.1 l).1 (h0 (dF d k).1 (dF d k).2.1 l).2.1 1#32).1 (eC (h0 (dF d k).1 (dF d k).2.1 l).1 (h0 (dF d k).1 (dF d k).2.1 l).2.1 1#32).2.1).1,(eC (h0 (dF d k).1 (dF d k).2.1 l).1 (h0 (dF d k).1 (dF d k).2.1 l).2.1 1#32).2.1,(j5 (eC (h0 (dF d k).1 (dF d k).2.1 l).1 (h0 (dF d k).1 (dF d k).2.1 l).2.1 1#32).1 (eC (h0 (dF d k).1 (dF d k).2.1 l).1 (h0 (dF d k).1 (dF d k).2.1 l).2.1 1#32).2.1).2)
        else eC (h0 (dF d k).1 (dF d k).2.1 l).1 (h0 (dF d k).1 (dF d k).2.1 l).2.1 1#32)
      else h0 (dF d k).1 (dF d k).2.1 l)
    else dF d k
theorem abl(bi p:Nat)(Q:Nat→Nat)(d:br)(h:dB d)(ay:Nat→b7)(a:Nat)(a5:a<2)(z:Int)(ai:∀i,i<2→dK d (ay i)):a6 B 224 [ag bi] [U bi [ag p,ag (Q 0),ag (Q 1),aa z] 200,U (Q a) (bE p (ay a)) 273,U (Q (1-a)) (bE p (ay (1-a))) 273,U p (bH d) 196,cu d] (fun v S=>v= .tuple #[aQ (pt d ay).1.toNat,aa (pt d ay).2]∧S=[U bi [ag p,ag (Q 0),ag (Q 1),aa z] 200,U (Q a) (bE p (ay a)) 273,U (Q (1-a)) (bE p (ay (1-a))) 273,U p (bH d) 196,cu d]):=by
 refine dN 25 Tryz.func224 fun ba bf=>?_
 refine Ls ?_
 refine du [ag (Q 0),ag (Q 1)] ?_
 refine aj ?_
 refine ds (α:=Nat×Nat) (fun⟨i,e⟩=>i≤2∧e<2) (fun⟨i,e⟩=>[(4,aQ (Em (Hp d ay) i).toNat),(11,aa (i:Int)),(10,.agg #[ag (Q 0),ag (Q 1)]),(0,ag bi)]) (fun⟨i,e⟩=>[U bi [ag p,ag (Q 0),ag (Q 1),aa z] 200,U (Q e) (bE p (ay e)) 273,U (Q (1-e)) (bE p (ay (1-e))) 273,U p (bH d) 196,cu d]) (fun⟨i,e⟩=>2-i) (0,a) ?_ dq aA ?_
 ·exact⟨by decide,a5⟩
 rintro⟨i,e⟩ ⟨af,he⟩
 dsimp only
 refine aj ?_
 refine c2 ?_ ?_<;>intro ab
 ·refine AP (fun i=>U (Q i) (bE p (ay i)) 273) (show i<2 by omega) he aA ?_
  refine aj ?_
  refine ap (xl rfl rfl ad rfl ah (show [Value.pointer (some ⟨(Q 0),0,none⟩),Value.pointer (some ⟨(Q 1),0,none⟩)][i]?=some (Value.pointer (some ⟨(Q i),0,none⟩))from by rcases(show i=0∨i=1 by omega)with rfl|rfl<;>rfl)) ?_
  refine aj ?_
  refine eR (AE p (Q i) d h (ay i) (ai i (by omega))) ?_
  refine ap (XS rfl ad rfl) ?_
  refine ap (Cu rfl ad rfl) ?_
  refine ap (A6 (AL rfl rfl) (congrArg (fun z:Int=>Value.int .u32 z) (abk _ _))) ?_
  refine aj ?_
  refine cE (i+1,i) ?_
  (try dsimp only);exact⟨by omega,by omega⟩
 refine AP (fun i=>U (Q i) (bE p (ay i)) 273) a5 he aA ?_
 refine bT ?_ ?_<;>intro ae
 ·obtain rfl:i=2:=by omega
  first|rw [show pt d ay=(0#32,82)from if_pos ah]|rw [show pt d ay=(Em (Hp d ay) 2+1#32,0)from if_neg ah]
  exact bJ
 refine ap (g6 rfl rfl (dM _) rfl rfl) ?_
 refine aj ?_
 obtain rfl:i=2:=by omega
 first|rw [show pt d ay=(0#32,82)from if_pos ah]|rw [show pt d ay=(Em (Hp d ay) 2+1#32,0)from if_neg ah]
 exact bJ
theorem X3(bi p:Nat)(Q:Nat→Nat)(d:br)(h:dB d)(ay:Nat→b7)(a:Nat)(a5:a<2)(z:Int)(aS:z= -1∨z=(a:Int))(ai:∀i,i<2→dK d (ay i))(kv:d.ops≤800000000):a6 B 156 [ag bi] [U bi [ag p,ag (Q 0),ag (Q 1),aa z] 200,U (Q a) (bE p (ay a)) 273,U (Q (1-a)) (bE p (ay (1-a))) 273,U p (bH d) 196,cu d] (fun v S=>v=aa (k4 d z ay a).2.2∧S=[U bi [ag p,ag (Q 0),ag (Q 1),aa z] 200,U (Q a) (bE p (ay a)) 273,U (Q (1-a)) (bE p (k4 d z ay a).2.1) 273,U p (bH ((k4 d z ay a).1)) 196,cu (k4 d z ay a).1]):=by
 refine bM 38 Tryz.func156 fun ba bf=>?_
 refine eR (JK bi p Q d h ay a a5 z aS (ai a a5)) ?_
 refine cp ?_
 refine bp (if(lR d z (ay a))=0 then Value.pointer (some ⟨(Q (1-a)),0,none⟩)else .pointer none) ?_
 refine bp (aa (lR d z (ay a))) ?_
 refine bT ?_ ?_<;>intro ab
 ·rw [show k4 d z ay a=(d,(ay (1-a)),(lR d z (ay a)))from by unfold k4;rw [if_neg ab]]
  exact bJ
 rw [if_pos ab]
 refine aj ?_
 refine eR (adE p (Q (1-a)) (ay (1-a))) ?_
 refine cp ?_
 refine bp (aa ((ay (1-a)).put:Int)) ?_
 refine bp (.bool (ay (1-a)).qB) ?_
 refine aj ?_
 refine cc ?_ ?_<;>intro ae
 ·rw [show k4 d z ay a=(d,(ay (1-a)),80)from by unfold k4;rw [if_pos ab,if_neg (by simp_all)]]
  exact bJ
 refine bD ?_ ?_<;>intro av
 ·rw [show k4 d z ay a=(d,(ay (1-a)),80)from by unfold k4;rw [if_pos ab,if_neg (by simp_all)]]
  exact bJ
 refine eR (abl bi p Q d h ay a a5 z ai) ?_
 refine cp ?_
 refine bp (aQ (pt d ay).1.toNat) ?_
 refine bp (aa (pt d ay).2) ?_
 refine bT ?_ ?_<;>intro aV
 ·rw [show k4 d z ay a=(d,(ay (1-a)),(pt d ay).2)from by unfold k4;rw [if_pos ab,if_pos ⟨by simp_all,by omega⟩,if_neg ch]]
  exact bJ
 refine gH (Qe p (Q (1-a)) d h (ay (1-a)) (ai _ (by omega)) kv (pt d ay).1) ?_
 rw [show k4 d z ay a=((eC d (ay (1-a)) (pt d ay).1).1,(eC d (ay (1-a)) (pt d ay).1).2.1,(eC d (ay (1-a)) (pt d ay).1).2.2)from by unfold k4;rw [if_pos ab,if_pos ⟨by simp_all,by omega⟩,if_pos ch]]
 exact bJ
theorem W1(bi p:Nat)(Q:Nat→Nat)(d:br)(h:dB d)(ay:Nat→b7)(a:Nat)(a5:a<2)(z:Int)(aS:z= -1∨z=(a:Int))(ai:dK d (ay a))(kv:d.ops≤900000000):a6 B 157 [ag bi] [U bi [ag p,ag (Q 0),ag (Q 1),aa z] 200,U (Q a) (bE p (ay a)) 273,U p (bH d) 196,cu d] (fun v S=>v=aa (rN d z (ay a)).2∧S=[U bi [ag p,ag (Q 0),ag (Q 1),aa z] 200,U (Q a) (bE p (ay a)) 273,U p (bH ((rN d z (ay a)).1)) 196,cu (rN d z (ay a)).1]):=by
 refine bM 18 Tryz.func157 fun ba bf=>?_
 refine bD ?_ ?_<;>intro ab
 ·rw [show rN d z (ay a)=(d,80)from if_pos ah]
  exact bJ
 obtain rfl:z=(a:Int):=by omega
 refine aj ?_
 refine cZ [U bi [ag p,ag (Q 0),ag (Q 1),aa (a:Int)] 200] ad aA ?_
 refine aY [0,1,2,3,4,5,6] ?_
 refine bG 7 rfl (ns rfl rfl ad rfl ah rfl) ?_
 refine bj 8 rfl (ft (v:=ag (Q a)) rfl au ad (by rcases(show a=0∨a=1 by omega)with rfl|rfl<;>rfl)) ?_
 refine gb 9 (OX p (Q a) d h (ay a) ai kv) ?_
 refine df [10,99] ?_
 rw [show rN d (a:Int) (ay a)=j5 d (ay a)from if_neg ah]
 exact bJ
theorem stinstall (bi p : Nat) (Q : Nat → Nat) (d : br) (h : dB d) (ay : Nat → b7) (ai : dK d (ay 0)) (kv : d.ops ≤ 700000000) (l : an (BitVec 32)) (aE : dI K l.bu (l.l.flatMap dh)) : di Tryz.prog B 62 [.pointer (some ⟨bi, 0, none⟩), .slice l.bn l.l.length l.c] [U bi [.pointer (some ⟨p, 0, none⟩), .pointer (some ⟨(Q 0), 0, none⟩), .pointer (some ⟨(Q 1), 0, none⟩), .int .i64 (-1)] 200, U (Q 0) (bE p (ay 0)) 273, U p (bH d) 196, row (.slice d.a.bn d.a.l.length d.a.c) 42 1 d.a.l.length ((cW d.a.l.length d.g).flatMap dh), row (.slice d.b.bn d.b.l.length d.b.c) 3 1 d.b.l.length ((cW d.b.l.length d.wr).flatMap ea), K] (fun v S => v = .int .i64 (jb d (ay 0) l.l).2.2 ∧ S = [U bi [.pointer (some ⟨p, 0, none⟩), .pointer (some ⟨(Q 0), 0, none⟩), .pointer (some ⟨(Q 1), 0, none⟩), .int .i64 (-1)] 200, U (Q 0) (bE p (jb d (ay 0) l.l).2.1) 273, U p (bH ((jb d (ay 0) l.l).1)) 196, row (.slice (jb d (ay 0) l.l).1.a.bn (jb d (ay 0) l.l).1.a.l.length (jb d (ay 0) l.l).1.a.c) 42 1 (jb d (ay 0) l.l).1.a.l.length ((cW (jb d (ay 0) l.l).1.a.l.length (jb d (ay 0) l.l).1.g).flatMap dh), row (.slice (jb d (ay 0) l.l).1.b.bn (jb d (ay 0) l.l).1.b.l.length (jb d (ay 0) l.l).1.b.c) 3 1 (jb d (ay 0) l.l).1.b.l.length ((cW (jb d (ay 0) l.l).1.b.l.length (jb d (ay 0) l.l).1.wr).flatMap ea), K]) := by
 refine dN 37 Tryz.func62 fun ba bf => ?_
 obtain ⟨a1, a3⟩ := Jm h ai ah
 have ajO := a1.ops
 obtain ⟨bI, cv⟩ := GK a1.ok a3 ah l.l
 have ajP := bI.ops
 obtain ⟨eX, fJ⟩ := FQ bI.ok cv ah 1#32
 have ajQ := eX.ops
 have mY := FI (k := (eC (h0 (dF d (ay 0)).1 (dF d (ay 0)).2.1 l.l).1 (h0 (dF d (ay 0)).1 (dF d (ay 0)).2.1 l.l).2.1 1#32).2.1) eX.ok ah
 refine zi ?_
 refine c2 ?_ ?_<;>intro ab
 ·omega
 refine l5 ?_
 refine ap (p3 rfl rfl ad (rfl : (0 : Int) = ((0 : Nat) : Int)) b2 rfl) ?_
 refine ap (ft (v := .pointer (some ⟨(Q 0), 0, none⟩)) rfl au ad (by rfl)) ?_
 refine aj ?_
 refine gH (Re p (Q 0) d h (ay 0) ai (by omega)) ?_
 refine bD ?_ ?_<;>intro ae
 ·rw [show jb d (ay 0) l.l = ((dF d (ay 0)).1, (dF d (ay 0)).2.1, (dF d (ay 0)).2.2) from by unfold jb; rw [if_neg ch]]
  exact bJ
 refine gH (Tw p (Q 0) (dF d (ay 0)).1 a1.ok (dF d (ay 0)).2.1 a3 (by omega) l aE) ?_
 refine bD ?_ ?_<;>intro av
 ·rw [show (row (.slice ((dF d (ay 0)).1).b.bn ((dF d (ay 0)).1).b.l.length ((dF d (ay 0)).1).b.c) 3 1 ((dF d (ay 0)).1).b.l.length ((cW ((dF d (ay 0)).1).b.l.length ((dF d (ay 0)).1).wr).flatMap ea) : ar B) = row (.slice ((cX d (ay 0) l).1).b.bn ((cX d (ay 0) l).1).b.l.length ((cX d (ay 0) l).1).b.c) 3 1 ((cX d (ay 0) l).1).b.l.length ((cW ((cX d (ay 0) l).1).b.l.length ((cX d (ay 0) l).1).wr).flatMap ea) from by rw [bI.b, GL]]
  rw [show jb d (ay 0) l.l = ((cX d (ay 0) l).1, (cX d (ay 0) l).2.1, (cX d (ay 0) l).2.2) from by unfold jb; rw [if_pos ch, if_neg ch]]
  exact bJ
 refine gH (Qe p (Q 0) (h0 (dF d (ay 0)).1 (dF d (ay 0)).2.1 l.l).1 bI.ok (h0 (dF d (ay 0)).1 (dF d (ay 0)).2.1 l.l).2.1 cv (by omega) 1#32) ?_
 refine bD ?_ ?_<;>intro aV
 ·rw [show (row (.slice ((dF d (ay 0)).1).b.bn ((dF d (ay 0)).1).b.l.length ((dF d (ay 0)).1).b.c) 3 1 ((dF d (ay 0)).1).b.l.length ((cW ((dF d (ay 0)).1).b.l.length ((dF d (ay 0)).1).wr).flatMap ea) : ar B) = row (.slice ((cX d (ay 0) l).1).b.bn ((cX d (ay 0) l).1).b.l.length ((cX d (ay 0) l).1).b.c) 3 1 ((cX d (ay 0) l).1).b.l.length ((cW ((cX d (ay 0) l).1).b.l.length ((cX d (ay 0) l).1).wr).flatMap ea) from by rw [bI.b, GL]]
  rw [show (row (.slice ((cX d (ay 0) l).1).b.bn ((cX d (ay 0) l).1).b.l.length ((cX d (ay 0) l).1).b.c) 3 1 ((cX d (ay 0) l).1).b.l.length ((cW ((cX d (ay 0) l).1).b.l.length ((cX d (ay 0) l).1).wr).flatMap ea) : ar B) = row (.slice ((eC (cX d (ay 0) l).1 (cX d (ay 0) l).2.1 1#32).1).b.bn ((eC (cX d (ay 0) l).1 (cX d (ay 0) l).2.1 1#32).1).b.l.length ((eC (cX d (ay 0) l).1 (cX d (ay 0) l).2.1 1#32).1).b.c) 3 1 ((eC (cX d (ay 0) l).1 (cX d (ay 0) l).2.1 1#32).1).b.l.length ((cW ((eC (cX d (ay 0) l).1 (cX d (ay 0) l).2.1 1#32).1).b.l.length ((eC (cX d (ay 0) l).1 (cX d (ay 0) l).2.1 1#32).1).wr).flatMap ea) from by rw [eX.b, I2]]
  rw [show jb d (ay 0) l.l = ((eC (cX d (ay 0) l).1 (cX d (ay 0) l).2.1 1#32).1, (eC (cX d (ay 0) l).1 (cX d (ay 0) l).2.1 1#32).2.1, (eC (cX d (ay 0) l).1 (cX d (ay 0) l).2.1 1#32).2.2) from by unfold jb; rw [if_pos ch, if_pos ch, if_neg ch]]
  exact bJ
 refine gH (OX p (Q 0) (eC (h0 (dF d (ay 0)).1 (dF d (ay 0)).2.1 l.l).1 (h0 (dF d (ay 0)).1 (dF d (ay 0)).2.1 l.l).2.1 1#32).1 eX.ok (eC (h0 (dF d (ay 0)).1 (dF d (ay 0)).2.1 l.l).1 (h0 (dF d (ay 0)).1 (dF d (ay 0)).2.1 l.l).2.1 1#32).2.1 fJ (by omega)) ?_
 rw [show (row (.slice ((dF d (ay 0)).1).b.bn ((dF d (ay 0)).1).b.l.length ((dF d (ay 0)).1).b.c) 3 1 ((dF d (ay 0)).1).b.l.length ((cW ((dF d (ay 0)).1).b.l.length ((dF d (ay 0)).1).wr).flatMap ea) : ar B) = row (.slice ((cX d (ay 0) l).1).b.bn ((cX d (ay 0) l).1).b.l.length ((cX d (ay 0) l).1).b.c) 3 1 ((cX d (ay 0) l).1).b.l.length ((cW ((cX d (ay 0) l).1).b.l.length ((cX d (ay 0) l).1).wr).flatMap ea) from by rw [bI.b, GL]]
 rw [show (row (.slice ((cX d (ay 0) l).1).b.bn ((cX d (ay 0) l).1).b.l.length ((cX d (ay 0) l).1).b.c) 3 1 ((cX d (ay 0) l).1).b.l.length ((cW ((cX d (ay 0) l).1).b.l.length ((cX d (ay 0) l).1).wr).flatMap ea) : ar B) = row (.slice ((eC (cX d (ay 0) l).1 (cX d (ay 0) l).2.1 1#32).1).b.bn ((eC (cX d (ay 0) l).1 (cX d (ay 0) l).2.1 1#32).1).b.l.length ((eC (cX d (ay 0) l).1 (cX d (ay 0) l).2.1 1#32).1).b.c) 3 1 ((eC (cX d (ay 0) l).1 (cX d (ay 0) l).2.1 1#32).1).b.l.length ((cW ((eC (cX d (ay 0) l).1 (cX d (ay 0) l).2.1 1#32).1).b.l.length ((eC (cX d (ay 0) l).1 (cX d (ay 0) l).2.1 1#32).1).wr).flatMap ea) from by rw [eX.b, I2]]
 rw [show (row (.slice ((eC (cX d (ay 0) l).1 (cX d (ay 0) l).2.1 1#32).1).b.bn ((eC (cX d (ay 0) l).1 (cX d (ay 0) l).2.1 1#32).1).b.l.length ((eC (cX d (ay 0) l).1 (cX d (ay 0) l).2.1 1#32).1).b.c) 3 1 ((eC (cX d (ay 0) l).1 (cX d (ay 0) l).2.1 1#32).1).b.l.length ((cW ((eC (cX d (ay 0) l).1 (cX d (ay 0) l).2.1 1#32).1).b.l.length ((eC (cX d (ay 0) l).1 (cX d (ay 0) l).2.1 1#32).1).wr).flatMap ea) : ar B) = row (.slice ((j5 (eC (cX d (ay 0) l).1 (cX d (ay 0) l).2.1 1#32).1 (eC (cX d (ay 0) l).1 (cX d (ay 0) l).2.1 1#32).2.1).1).b.bn ((j5 (eC (cX d (ay 0) l).1 (cX d (ay 0) l).2.1 1#32).1 (eC (cX d (ay 0) l).1 (cX d (ay 0) l).2.1 1#32).2.1).1).b.l.length ((j5 (eC (cX d (ay 0) l).1 (cX d (ay 0) l).2.1 1#32).1 (eC (cX d (ay 0) l).1 (cX d (ay 0) l).2.1 1#32).2.1).1).b.c) 3 1 ((j5 (eC (cX d (ay 0) l).1 (cX d (ay 0) l).2.1 1#32).1 (eC (cX d (ay 0) l).1 (cX d (ay 0) l).2.1 1#32).2.1).1).b.l.length ((cW ((j5 (eC (cX d (ay 0) l).1 (cX d (ay 0) l).2.1 1#32).1 (eC (cX d (ay 0) l).1 (cX d (ay 0) l).2.1 1#32).2.1).1).b.l.length ((j5 (eC (cX d (ay 0) l).1 (cX d (ay 0) l).2.1 1#32).1 (eC (cX d (ay 0) l).1 (cX d (ay 0) l).2.1 1#32).2.1).1).wr).flatMap ea) from by rw [mY.b, NC]]
 rw [show jb d (ay 0) l.l = ((j5 (eC (cX d (ay 0) l).1 (cX d (ay 0) l).2.1 1#32).1 (eC (cX d (ay 0) l).1 (cX d (ay 0) l).2.1 1#32).2.1).1, (eC (cX d (ay 0) l).1 (cX d (ay 0) l).2.1 1#32).2.1, (j5 (eC (cX d (ay 0) l).1 (cX d (ay 0) l).2.1 1#32).1 (eC (cX d (ay 0) l).1 (cX d (ay 0) l).2.1 1#32).2.1).2) from by unfold jb; rw [if_pos ch, if_pos ch, if_pos ch]]
 exact bJ
def tN(T p:Nat)(Q:Nat→Nat)(ay:Nat→b7):Nat→List (ar B)
  |0=>[]
  |n+1=>U (Q n) (bE p (ay n)) T::tN T p Q ay n
theorem O0(T p:Nat)(Q:Nat→Nat)(ay:Nat→b7)(m x:Nat):∀n,n≤m→(tN T p (bz Q m x) ay n:List (ar B))=tN T p Q ay n
  |0,_=>rfl
  |n+1,h=>by rw [tN,tN,O0 T p Q ay m x n (by omega),fG _ _ (by omega)]
abbrev zL(Q:Nat→Nat)(i j:Nat):Value:=if j<i then ag (Q j)else .pointer none
abbrev lZ(m:Nat)(i:Nat):b7:=⟨i*m,m,false,0,0#32,0⟩
theorem KY(p:Nat)(d:br)(h:dB d)(c0:6≤d.b.l.length)(hw:13≤d.words):a6 B 44 [ag p] [U p (bH d) 196] (fun v S=>∃(bi:Nat) (Q:Nat→Nat),v= .tuple #[ag bi,ak]∧S=[U bi [ag p,ag (Q 0),ag (Q 1),aa (-1)] 200,U (Q 0) (bE p (lZ (d.b.l.length/2) (0))) 273,U (Q 1) (bE p (lZ (d.b.l.length/2) (1))) 273,U p (bH d) 196]):=by
 refine dN 40 Tryz.func44 fun ba bf=>?_
 have aH:=h.s
 refine aj ?_
 refine fX (aF:=[ag p,.pointer none,.pointer none,aa (-1)]) fun ax=>?_
 refine eR (OT p d) ?_
 refine ap (pX (z:=(((d.b.l.length/2):Nat):Int)) rfl rfl ah (by rw [show Int.tdiv (d.b.l.length:Int) 2=((d.b.l.length/2:Nat):Int)from rfl];exact lP ah ah)) ?_
 refine aj ?_
 rw [show([U p (bH d) 196,U ax [ag p,.pointer none,.pointer none,aa (-1)] 200]:List (ar B))=U p (bH d) 196::U ax [ag p,zL (fun _=>0) (0) 0,zL (fun _=>0) (0) 1,aa (-1)] 200::tN 273 p (fun _=>0) (lZ (d.b.l.length/2)) 0 from rfl]
 refine ds (α:=Nat×(Nat→Nat)) (fun⟨i,Q⟩=>i≤2) (fun⟨i,Q⟩=>[(17,aa (i:Int)),(0,ag p),(4,ag ax),(5,aa (((d.b.l.length/2):Nat):Int))]) (fun⟨i,Q⟩=>U ax [ag p,zL Q (i) 0,zL Q (i) 1,aa (-1)] 200::U p (bH d) 196::tN 273 p Q (lZ (d.b.l.length/2)) i) (fun⟨i,Q⟩=>2-i) (0,fun _=>0) ?_ dq aA ?_
 ·exact Nat.zero_le _
 rintro⟨i,Q⟩ af
 dsimp only
 refine bT ?_ ?_<;>intro ab
 ·have ahH:i*(d.b.l.length/2)≤64:=Nat.le_trans (Nat.mul_le_mul_right _ (show i≤1 by omega)) ah
  have ajR:i*(d.b.l.length/2)+(d.b.l.length/2)≤d.b.l.length:=by rcases(show i=0∨i=1 by omega)with rfl|rfl<;>omega
  have tc:(i:Int)*(((d.b.l.length/2):Nat):Int)=((i*(d.b.l.length/2):Nat):Int):=(Int.natCast_mul _ _).symm
  refine aj ?_
  refine ap (A6 (pp (m:=(i:Int)) (n:=(((d.b.l.length/2):Nat):Int)) rfl rfl ah ah) (congrArg (fun z:Int=>Value.int .i64 z) tc)) ?_
  refine aj ?_
  refine cm (afQ p d (i*(d.b.l.length/2)) (d.b.l.length/2) (by omega) aH.2 hw) ?_
  rintro _ _ ⟨q,rfl,rfl⟩
  refine bP ?_
  refine cp ?_
  refine bp (ag q) ?_
  refine bp (ak) ?_
  refine nH ?_
  refine bD ?_ ?_<;>intro ae
  ·first|omega|simp at ae
  refine fq (js (k:=1+i*1) (ga:=[ag p,zL (bz Q i q) (i+1) 0,zL (bz Q i q) (i+1) 1,aa (-1)]) rfl rfl rfl au ad (by rcases(show i=0∨i=1 by omega)with rfl|rfl<;>rfl) (by rcases(show i=0∨i=1 by omega)with rfl|rfl<;>simp [zL,bz])) ?_
  refine aj ?_
  have sm:(tN 273 p (bz Q i q) (lZ (d.b.l.length/2)) (i+1):List (ar B))=U (q) (bE p (lZ (d.b.l.length/2) (i))) 273::tN 273 p Q (lZ (d.b.l.length/2)) i:=by rw [tN,O0 _ _ _ _ _ _ _ (Nat.le_refl _),e4]
  refine k2 (i+1,bz Q i q) ?_ ?_ ?_ ?_
  ·(try dsimp only);omega
  ·(try dsimp only);omega
  ·refine⟨?_,?_,?_,?_,trivial⟩<;>rfl
  (try dsimp only);rw [sm];exact⟨_,cd⟩
 obtain rfl:i=2:=by omega
 rw [show(tN 273 p Q (lZ (d.b.l.length/2)) 2:List (ar B))=[U (Q 1) (bE p (lZ (d.b.l.length/2) (1))) 273,U (Q 0) (bE p (lZ (d.b.l.length/2) (0))) 273]from rfl]
 exact aO ⟨ax,Q,rfl,rfl⟩
def hasB(s:BitVec 32)(i:Int):Bool:=if 0≤i∧i<32 then s.getLsbD i.toNat else false
theorem Cx(s:BitVec 32)(i:Int)(h:¬(0≤i∧i<32)):hasB s i=false:=by simp [hasB,h]
theorem ph(s:BitVec 32)(i:Nat):hasB s i=s.getLsbD i:=by
  by_cases h:i<32
  · simp only [hasB];rw [if_pos (by omega)];rfl
  · rw [Cx _ _ (by omega),BitVec.getLsbD_of_ge _ _ (by omega)]
theorem uB(s t:BitVec 32)(i:Int):hasB (s&&&t) i=(hasB s i&&hasB t i):=by
  unfold hasB;split<;>simp
theorem ow(s t:BitVec 32)(i:Int):hasB (s|||t) i=(hasB s i||hasB t i):=by
  unfold hasB;split<;>simp
theorem qU(s t:BitVec 32)(i:Int):hasB (s&&&~~~t) i=(hasB s i&&!hasB t i):=by
  unfold hasB;split
  · rename_i h;simp [show i.toNat<32 by omega]
  · simp
theorem xn{s t:BitVec 32}(h:∀i:Nat,i<32→hasB s i=hasB t i):s=t:=by
  apply BitVec.eq_of_getLsbD_eq
  intro i af
  rw [←ph, ←ph];exact h i af
def dL(n:Int):BitVec 32:=if n<0∨n>31 then 0#32 else 1#32<<<n.toNat
theorem JL{n:Int}(b5:0≤n)(ab:n≤31):dL n=1#32<<<n.toNat:=by unfold dL;rw [if_neg (by omega)]
theorem Jn{n:Int}(h:n<0∨n>31):dL n=0#32:=by unfold dL;rw [if_pos h]
theorem pW(n i:Int):hasB (dL n) i=decide (n=i∧0≤i∧i<32):=by
  by_cases h:n<0∨n>31
  · rw [Jn h];simp [hasB];omega
  · rw [JL (by omega) (by omega)]
    by_cases af:0≤i∧i<32
    · obtain⟨k,rfl⟩:=Int.eq_ofNat_of_zero_le af.1
      obtain⟨m,rfl⟩:=Int.eq_ofNat_of_zero_le (show 0≤n by omega)
      rw [ph,Int.toNat_natCast]
      by_cases e:m=k
      · subst e;simp;omega
      · rw [BitVec.getLsbD_shiftLeft,BitVec.getLsbD_one,Bool.eq_iff_iff]
        simp only [Bool.and_eq_true,decide_eq_true_eq,Bool.not_eq_true',decide_eq_false_iff_not]
        omega
    · rw [Cx _ _ af];simp;omega
theorem Zq(s:BitVec 32)(n:Int):(((s&&&dL n).toNat:Int) !=0)=hasB s n:=by
  rw [Bool.eq_iff_iff]
  simp only [bne_iff_ne,ne_eq]
  constructor
  · intro h
    cases aR:hasB s n with
    |true=>rfl
    |false=>
      exfalso;apply h
      have:s&&&dL n=0#32:=xn fun i af=>by
        rw [uB,pW]
        by_cases e:n=(i:Int)
        · subst e;rw [aR];simp [ph]
        · simp [e,ph]
      rw [this];rfl
  · intro aR h
    have b5:s&&&dL n=0#32:=BitVec.eq_of_toNat_eq (by rw [show(0#32).toNat=0 from rfl];omega)
    have ab:hasB (s&&&dL n) n=true:=by
      have rr:0≤n∧n<32:=by
        by_cases af:0≤n∧n<32
        · exact af
        · rw [Cx _ _ af]at aR;cases aR
      rw [uB,aR,pW];simp [rr]
    rw [b5]at ab;simp [hasB]at ab
def lS(s:BitVec 32)(n:Int):BitVec 32:=if n≤0 then 0#32 else if n>31 then s else s&&&(1#32<<<n.toNat-1#32)
theorem Cf(s:BitVec 32)(n:Int)(i:Nat)(af:i<32):hasB (lS s n) i=(hasB s i&&decide ((i:Int)<n)):=by
  unfold lS
  split
  · simp [hasB];intros;omega
  · split
    · simp;intros;omega
    · obtain⟨k,rfl⟩:=Int.eq_ofNat_of_zero_le (show 0≤n by omega)
      rw [uB,Int.toNat_natCast]
      have e:hasB (1#32<<<k-1#32) i=decide ((i:Int)<k):=by
        rw [ph,BitVec.getLsbD,BitVec.toNat_sub,BitVec.toNat_shiftLeft]
        have ai:2^k<2^32:=Nat.pow_lt_pow_right (by omega) (by omega)
        have ab:(1#32).toNat=1:=rfl
        rw [ab,Nat.shiftLeft_eq,Nat.one_mul,Nat.mod_eq_of_lt ai]
        rw [show(2^32-1+2^k)%2^32=2^k-1 from by have:=Nat.two_pow_pos k;omega]
        rw [Nat.testBit_two_pow_sub_one];simp
      rw [e]
def kb(s:BitVec 32)(n:Int):BitVec 32:=if n<0 then s else s&&&~~~(lS s n|||dL n)
theorem ND(s:BitVec 32)(n:Int)(i:Nat)(af:i<32):hasB (kb s n) i=(hasB s i&&decide (n<(i:Int))):=by
  unfold kb
  split
  · simp;intros;omega
  · rw [qU,ow,Cf _ _ _ af,pW]
    cases hasB s i<;>simp
    rw [Bool.eq_iff_iff];simp;omega
def lV(s:BitVec 32)(n:Nat):List Int:=((List.range n).filter fun(i:Nat)=>hasB s (i:Int)).map fun(i:Nat)=>(i:Int)
def bb(s:BitVec 32):List Int:=lV s 32
theorem Qi(s:BitVec 32)(n:Nat):lV s (n+1)=lV s n++(if hasB s n then [(n:Int)]else []):=by
  unfold lV;rw [List.range_succ,List.filter_append,List.map_append];cases h:hasB s n<;>simp [h]
theorem iV{s:BitVec 32}{n:Nat}{x:Int}:x∈lV s n↔0≤x∧x<n∧hasB s x=true:=by
  unfold lV;simp only [List.mem_map,List.mem_filter,List.mem_range]
  constructor
  · rintro⟨i,⟨ab,ae⟩,rfl⟩;exact⟨by omega,by omega,ae⟩
  · rintro⟨b5,ab,ae⟩;obtain⟨k,rfl⟩:=Int.eq_ofNat_of_zero_le b5;exact⟨k,⟨by omega,ae⟩,rfl⟩
theorem W3(s:BitVec 32)(n:Nat):(lV s n).length≤n:=by
  unfold lV;rw [List.length_map];exact Nat.le_trans (List.length_filter_le _ _) (by simp)
theorem Lw(n:Int):a6 B 214 [aa n] [] (fun v S=>v=aQ (dL n).toNat∧S=[]):=by
 refine bM 11 Tryz.func214 fun ba bf=>?_
 refine cc ?_ ?_<;>intro ab
 ·exact aO ⟨by rw [Jn ah];rfl,rfl⟩
 refine bD ?_ ?_<;>intro ae
 ·exact aO ⟨by rw [Jn ah];rfl,rfl⟩
 refine ap (Ap rfl rfl rfl ah ah) ?_
 refine aj ?_
 exact aO ⟨by rw [JL ah ah];rfl,rfl⟩
theorem tO(s:BitVec 32)(n:Int):a6 B 142 [aQ s.toNat,aa n] [] (fun v S=>v= .bool (hasB s n)∧S=[]):=by
 refine bM 10 Tryz.func142 fun ba bf=>?_
 refine gj (Lw _) ?_
 refine ap (g6 rfl rfl (dM _) (dM _) rfl) ?_
 refine aj ?_
 exact aO ⟨by rw [←Zq],rfl⟩
theorem tE(s:BitVec 32)(n:Int):a6 B 163 [aQ s.toNat,aa n] [] (fun v S=>v=aQ (s|||dL n).toNat∧S=[]):=by
 refine bM 9 Tryz.func163 fun ba bf=>?_
 refine gj (Lw _) ?_
 refine ap (g6 rfl rfl (dM _) (dM _) rfl) ?_
 exact oi
theorem FZ(s:BitVec 32)(n:Int):a6 B 260 [aQ s.toNat,aa n] [] (fun v S=>v=aQ (s&&&~~~(dL n)).toNat∧S=[]):=by
 refine bM 9 Tryz.func260 fun ba bf=>?_
 refine gj (Lw _) ?_
 refine ap (g6 rfl rfl (dM _) (dM _) rfl) ?_
 exact oi
theorem Kw(s:BitVec 32)(n:Int):a6 B 242 [aQ s.toNat,aa n] [] (fun v S=>v=aQ (lS s n).toNat∧S=[]):=by
 refine bM 15 Tryz.func242 fun ba bf=>?_
 refine bD ?_ ?_<;>intro ab
 ·exact aO ⟨by rw [lS,if_pos ah];rfl,rfl⟩
 refine bD ?_ ?_<;>intro ae
 ·exact aO ⟨by rw [lS,if_neg ah,if_pos ah],rfl⟩
 refine ap (Ap rfl rfl rfl ah ah) ?_
 refine ap (g6 rfl rfl (dM _) rfl rfl) ?_
 refine ap (g6 rfl rfl (dM _) (dM _) rfl) ?_
 refine aj ?_
 exact aO ⟨by rw [lS,if_neg ah,if_neg ah];rfl,rfl⟩
theorem abm(s:BitVec 32)(n:Int):a6 B 275 [aQ s.toNat,aa n] [] (fun v S=>v=aQ (kb s n).toNat∧S=[]):=by
 refine bM 15 Tryz.func275 fun ba bf=>?_
 refine bD ?_ ?_<;>intro ab
 ·exact aO ⟨by rw [kb,if_pos ah],rfl⟩
 refine gl (Kw _ _) ?_
 refine gj (tE _ _) ?_
 refine ap (g6 rfl rfl (dM _) (dM _) rfl) ?_
 refine aj ?_
 exact aO ⟨by rw [kb,if_neg ah],rfl⟩
def rZ:List Int:=[0,1,28,2,29,14,24,3,30,22,20,15,25,17,4,8,31,27,13,23,21,19,16,7,26,12,18,6,11,5,10,9]
def hR(s:BitVec 32):Nat:=((List.range 32).find? fun(i:Nat)=>hasB s (i:Int)).getD 32
theorem vD{s:BitVec 32}(h:s≠0#32):hR s<32∧hasB s (hR s)=true∧∀j:Nat,j<hR s→hasB s j=false:=by
 unfold hR
 cases bs:(List.range 32).find? fun(i:Nat)=>hasB s (i:Int)with
 |none=>
  exfalso;apply h
  refine xn fun i af=>?_
  have:=List.find?_eq_none.1 bs i (List.mem_range.2 af)
  simp at this;rw [this];simp [hasB]
 |some k=>
  have ab:=List.find?_some bs
  obtain⟨ae,xs,cP,av,aV⟩:=List.find?_eq_some_iff_append.1 bs
  have bN:=List.mem_range.1 (List.mem_of_find?_eq_some bs)
  refine⟨by simpa using bN,by simpa using ab,fun j aI=>?_⟩
  simp at aI
  have hlen:xs.length=k:=by
   have bl:(List.range 32)[xs.length]?=some k:=by rw [av];simp
   have ey:xs.length<32:=by
    have:=congrArg List.length av;simp at this;omega
   rw [List.getElem?_range ey]at bl
   exact Option.some.inj bl
  have Mg:j∈xs:=by
   have bl:(List.range 32)[j]?=some j:=List.getElem?_range ah
   rw [av,List.getElem?_append_left ah]at bl
   exact List.mem_of_getElem? bl
  simpa using aV j Mg
theorem Zr{s:BitVec 32}(h:s≠0#32):s&&&-s=1#32<<<hR s:=by
 obtain⟨ab,ae,av⟩:=vD h
 refine xn fun i af=>?_
 have aR:hasB (1#32<<<hR s) i=decide (hR s=i):=by
  have:=pW (hR s) i
  rw [JL ah ah,Int.toNat_natCast]at this
  rw [this,Bool.eq_iff_iff];simp;omega
 rw [aR,uB,ph,ph,BitVec.getLsbD_neg]
 simp only [af,decide_true,Bool.true_and]
 simp only [ph]at ae av
 by_cases e:hR s=i
 ·subst e
  have:¬∃j,j<hR s∧s.getLsbD j=true:=by rintro⟨j,aI,al⟩;rw [av j aI]at al;cases al
  simp [ae,this]
 rcases Nat.lt_or_gt_of_ne e with ey|Bw
 ·have:∃j,j<i∧s.getLsbD j=true:=⟨_,ey,ae⟩
  simp [this,e]
 simp [av i Bw,e]
theorem abn:∀k:Nat,k<32→rZ[(((1#32<<<k)*125613361#32)>>>27).toNat]?=some (k:Int):=by decide
theorem abo{s:BitVec 32}(h:s≠0#32):rZ[(((s&&&-s)*125613361#32)>>>27).toNat]?=some (hR s:Int):=by
  rw [Zr h];exact abn _ (vD h).1
theorem W4{s:BitVec 32}(h:s≠0#32):∃l,bb s=(hR s:Int)::l:=by
  obtain⟨ab,ae,av⟩:=vD h
  unfold bb lV
  have e:List.range 32=List.range (hR s)++(hR s)::(List.range' (hR s+1) (31-hR s)):=by
    rw [List.range_eq_range',show 32=hR s+(1+(31-hR s))by omega, ←List.range'_append_1,List.range_eq_range', ←List.range'_append_1]
    simp
  rw [e,List.filter_append,List.filter_cons,if_pos ae,List.filter_eq_nil_iff.2 (fun j aI=>by rw [av j (List.mem_range.1 aI)];simp)]
  exact⟨_,rfl⟩
theorem VF(s:BitVec 32)(bO:dI K ⟨0,0,none⟩ (rZ.map fun m=> .int .u8 m)):a6 B 201 [aQ s.toNat] [K] (fun v S=>v=aa (if s=0#32 then 32 else(hR s:Int))∧S=[K]):=by
 refine bM 14 Tryz.func201 fun ba bf=>?_
 refine bD ?_ ?_<;>intro ab
 ·exact aO ⟨by rw [if_pos (BitVec.eq_of_toNat_eq (by rw [show(0#32).toNat=0 from rfl];omega))],rfl⟩
 have aH:s≠0#32:=by rintro rfl;exact ab rfl
 have ey:=(vD aH).1
 have Hq:=abo aH
 have En:=(List.getElem?_eq_some_iff.1 Hq).1
 refine aj ?_
 refine ap (Y5 rfl (dM _)) ?_
 refine ap (g6 rfl rfl (dM _) (dM _) rfl) ?_
 refine ap (g6 rfl rfl (dM _) rfl rfl) ?_
 refine ap (xq rfl rfl rfl ah ah) ?_
 refine ap (p3 rfl rfl ad (rfl:(_:Int)=(((((s&&&-s)*125613361#32)>>>27).toNat:Nat):Int)) En rfl) ?_
 refine ap (Sc rfl au bO ad (v:= .int .u8 (hR s:Int)) (by rw [Nat.zero_add,Nat.mul_one,List.getElem?_map,Hq];rfl)) ?_
 refine ap (ja rfl ad (lP ah ah)) ?_
 refine aj ?_
 exact aO ⟨by rw [if_neg aH],rfl⟩
theorem Rh(s:BitVec 32)(bO:dI K ⟨0,0,none⟩ (rZ.map fun m=> .int .u8 m)):a6 B 282 [aQ s.toNat] [K] (fun v S=>v= .tuple #[aa (if s=0#32 then 0 else(hR s:Int)),.bool (decide (s≠0#32))]∧S=[K]):=by
 refine bM 8 Tryz.func282 fun ba bf=>?_
 refine bD ?_ ?_<;>intro ab
 ·have aH:s=0#32:=BitVec.eq_of_toNat_eq (by rw [show(0#32).toNat=0 from rfl];omega)
  refine aj ?_
  exact aO ⟨by rw [if_pos aH,decide_eq_false (by simp [aH])],rfl⟩
 have aH:s≠0#32:=by rintro rfl;exact ab rfl
 refine aj ?_
 refine oZ (VF s bO) ?_
 exact aO ⟨by rw [if_neg aH,if_neg aH,decide_eq_true aH],rfl⟩
theorem X4{l:List Int}{i:Nat}{x:Int}(h:l[i]?=some x):l.take (i+1)=l.take i++[x]:=by rw [List.take_add_one,h];rfl
theorem I3{t:BitVec 32}(h:t≠0#32){i:Nat}(af:i<32):hasB (t&&&(t-1#32)) i=(hasB t i&&decide (hR t<i)):=by
  obtain⟨ab,ae,av⟩:=vD h
  have e:t-1#32= ~~~(-t):=by
    apply BitVec.eq_of_toNat_eq
    simp [BitVec.toNat_sub,BitVec.toNat_neg,BitVec.toNat_not];omega
  rw [uB,e]
  have aP:hasB (~~~(-t)) i=!hasB (-t) i:=by rw [ph,ph];simp [af]
  rw [aP,ph (-t),BitVec.getLsbD_neg]
  simp only [af,decide_true,Bool.true_and]
  simp only [ph]at ae av⊢
  cases aR:t.getLsbD i with
  |false=>simp
  |true=>
    by_cases ey:hR t<i
    · have:∃j,j<i∧t.getLsbD j=true:=⟨_,ey,ae⟩
      simp [this,ey]
    · have:¬∃j,j<i∧t.getLsbD j=true:=by rintro⟨j,aI,al⟩;rw [av j (by omega)]at al;cases al
      simp [this,ey]
theorem I4{t:BitVec 32}(h:t≠0#32):bb t=(hR t:Int)::bb (t&&&(t-1#32)):=by
  obtain⟨ab,ae,av⟩:=vD h
  have e:List.range 32=List.range (hR t)++(hR t)::(List.range' (hR t+1) (31-hR t)):=by
    rw [List.range_eq_range',show 32=hR t+(1+(31-hR t))by omega, ←List.range'_append_1,List.range_eq_range', ←List.range'_append_1]
    simp
  unfold bb lV
  rw [e]
  simp only [List.filter_append]
  have lL:(List.range (hR t)).filter (fun(i:Nat)=>hasB t (i:Int))=[]:=List.filter_eq_nil_iff.2 (fun j aI=>by rw [av j (List.mem_range.1 aI)];simp)
  have c3:(List.range (hR t)).filter (fun(i:Nat)=>hasB (t&&&(t-1#32)) (i:Int))=[]:=List.filter_eq_nil_iff.2 (fun j aI=>by
    have:=List.mem_range.1 aI
    rw [I3 h (by omega),av j this];simp)
  have l8:hasB (t&&&(t-1#32)) (hR t)=false:=by rw [I3 h ab];simp
  rw [lL,c3,List.filter_cons,if_pos ae,List.filter_cons,if_neg (by rw [l8];simp)]
  simp only [List.nil_append,List.map_cons,List.cons.injEq,true_and]
  congr 1
  apply List.filter_congr
  intro j aI
  obtain⟨k,ai,rfl⟩:=List.mem_range'.1 aI
  rw [I3 h (by omega)]
  simp;intros;omega
theorem I5:bb 0#32=[]:=by
  unfold bb lV
  rw [List.filter_eq_nil_iff.2 (fun j aI=>by simp [hasB])];rfl
theorem xo(s:BitVec 32):(bb s).length≤32:=W3 s 32
theorem X5{l:List Int}{i:Nat}{x:Int}{r:List Int}(h:l.drop i=x::r):i<l.length∧l[i]?=some x∧l.drop (i+1)=r:=by
  have ab:i<l.length:=by
    rcases Nat.lt_or_ge i l.length with eE|eE
    · exact eE
    · rw [List.drop_of_length_le eE]at h;cases h
  rw [List.drop_eq_getElem_cons ab]at h
  injection h with ae av
  exact⟨ab,by rw [List.getElem?_eq_getElem ab,ae],av⟩
theorem lp{α:Type}{f:α→List Value}{l:List α}{i:Nat}{x:α}(h:l[i]?=some x):(l.map f).getD i []=f x:=by simp [List.getD,h]
theorem NE{t:BitVec 32}(h:(t.toNat:Int)=0):t=0#32:=BitVec.eq_of_toNat_eq (by rw [show(0#32).toNat=0 from rfl];omega)
theorem NF{t:BitVec 32}(h:¬(t.toNat:Int)=0):t≠0#32:=by rintro rfl;exact h rfl
theorem ahI{t:BitVec 32}(bO:dI K ⟨0,0,none⟩ (rZ.map fun m=> .int .u8 m))(h:t≠0#32):a6 B 201 [aQ t.toNat] [K] (fun v S=>v=aa (hR t:Int)∧S=[K]):=
  (VF t bO).mono fun v S ⟨ab,ae⟩=>⟨by rw [ab,if_neg h],ae⟩
theorem re(s:BitVec 32):a6 B 130 [aQ s.toNat] [] (fun v S=>∃b,v= .func (.func 200) #[] #[ag b]∧S=[U b [aQ s.toNat] 158]):=by
 refine bM 4 Tryz.func130 fun ba bf=>?_
 refine fX fun ax=>?_
 exact aO ⟨ax,rfl,rfl⟩
theorem q1(b:Nat)(s:BitVec 32)(bO:dI K ⟨0,0,none⟩ (rZ.map fun m=> .int .u8 m)):
  n9 Tryz.prog B 200 [ag b] [U b [aQ s.toNat] 158,K] ((bb s).map fun n=>[.int .i64 n]):=by
 intro cr J hc cV g7 aZ
 change di _ _ _ _ (U b [aQ s.toNat] 158::K::cV) _
 refine bM 16 Tryz.func200 fun ba bf=>?_
 refine ds (α:=BitVec 32×Nat×List (ar B)) (fun⟨t,i,aU⟩=>i≤(bb s).length∧(bb s).drop i=bb t∧J i aU) (fun⟨t,i,aU⟩=>[(3,aQ t.toNat),(0,.func (.yield cr) #[] #[]),(1,ag b)]) (fun⟨t,i,aU⟩=>U b [aQ s.toNat] 158::K::aU) (fun⟨t,i,aU⟩=>(bb s).length-i) (s,0,cV) ?_ dq aA ?_
 ·exact⟨Nat.zero_le _,rfl,g7⟩
 rintro⟨t,i,aU⟩ ⟨af,HV,bo⟩
 dsimp only
 refine bT ?_ ?_<;>intro ab
 ·have aL:=NF ab
  rw [I4 aL]at HV
  obtain⟨ey,b0,Lx⟩:=X5 HV
  have fa:=aZ i aU (by rw [List.length_map];exact ey) bo
  rw [lp b0]at fa
  refine aj ?_
  refine vg (ahI bO aL) ?_
  refine iq (own:=[U b [aQ s.toNat] 158,K]) (hM:=aU) .no rfl rfl fa rfl ?_
  rintro jP bh aC
  refine cx ?_
  refine bD ?_ ?_<;>intro ae
  ·obtain⟨h,_⟩|⟨_,aC⟩:=aC
   ·rw [h]at ae;cases ae
   exact⟨U b [aQ s.toNat] 158::K::bh,⟨bh,rfl,.inr ⟨i,by rw [List.length_map];exact ey,aC⟩⟩,_,aA⟩
  obtain⟨_,aC⟩|⟨h,_⟩:=aC
  rotate_left
  ·rw [h]at ae;cases ae
  refine aj ?_
  refine ap (g6 rfl rfl (dM _) rfl rfl) ?_
  refine ap (g6 rfl rfl (dM _) (dM _) rfl) ?_
  refine aj ?_
  refine cE (t&&&(t-1#32),i+1,bh) ?_
  (try dsimp only);exact⟨ey,Lx,aC⟩
 have aL:=NE ab
 rw [aL,I5]at HV
 have oN:i=(bb s).length:=by have:=List.drop_eq_nil_iff.1 HV;omega
 subst oN
 exact⟨U b [aQ s.toNat] 158::K::aU,⟨aU,rfl,.inl (by rw [List.length_map];exact bo)⟩,_,aA⟩
abbrev dd(e:Nat→Int):List Value:=[aa (e 0),aa (e 1),aa (e 2),aa (e 3),aa (e 4),aa (e 5),aa (e 6),aa (e 7),aa (e 8),aa (e 9),aa (e 10)]
abbrev dP(e:Nat→Int):List Value:=[aa (e 0),aa (e 1),aa (e 2),aa (e 3),aa (e 4),aa (e 5),aa (e 6),aa (e 7),aa (e 8),aa (e 9),aa (e 10),aa (e 11),aa (e 12),aa (e 13),aa (e 14),aa (e 15),aa (e 16),aa (e 17),aa (e 18),aa (e 19),aa (e 20),aa (e 21),aa (e 22)]
abbrev jX(e:Nat→Int):List Value:=[aa (e 0),aa (e 1)]
structure Mode where
  aw:BitVec 32
  q:an (Nat→Int)
abbrev gg(m:Mode):List Value:=[aQ m.aw.toNat,az m.q]
structure bZ where
  cA:Int
  aw:an (Nat→Int)
  a9:an Mode
  bd:an (Nat→Int)
abbrev bZ.v(x:bZ):Value:= .agg #[.int .i64 x.cA,.slice x.aw.bn x.aw.l.length x.aw.c,.slice x.a9.bn x.a9.l.length x.a9.c,.slice x.bd.bn x.bd.l.length x.bd.c]
structure bZ.In(K:ar B)(x:bZ):Prop where
  aw:dI K x.aw.bu (x.aw.l.flatMap dd)
  a9:dI K x.a9.bu (x.a9.l.flatMap gg)
  bd:dI K x.bd.bu (x.bd.l.flatMap dP)
  rR:∀m∈x.a9.l,dI K m.q.bu (m.q.l.flatMap jX)
def mF(e:Nat→Int)(r:Nat):Bool:=decide (0<e (3+r))
def h5(e:Nat→Int)(n:Nat):List (Nat×Int):=((List.range n).filter (mF e)).map fun r=>(r,e (3+r))
theorem CM(e:Nat→Int)(n:Nat):h5 e (n+1)=h5 e n++(if mF e n then [(n,e (3+n))]else []):=by
  unfold h5;rw [List.range_succ,List.filter_append,List.map_append];cases h:mF e n<;>simp [h]
theorem W5(e:Nat→Int)(n:Nat):(h5 e n).length≤n:=by
  unfold h5;rw [List.length_map];exact Nat.le_trans (List.length_filter_le _ _) (by simp)
theorem W6{e:Nat→Int}{n:Nat}{p:Nat×Int}(h:p∈h5 e n):p.1<n∧p.2=e (3+p.1)∧0<p.2:=by
  unfold h5 at h
  simp only [List.mem_map,List.mem_filter,List.mem_range]at h
  obtain⟨r,⟨ab,ae⟩,rfl⟩:=h
  exact⟨ab,rfl,by simpa [mF]using ae⟩
theorem N5(e:Nat→Int):∀{n m:Nat},n≤m→∃r,h5 e m=h5 e n++r
  | n, 0, h => ⟨[], by have : n = 0 := by omega
                       subst this;simp⟩
  |n,m+1,h=>by
    by_cases eE:n=m+1
    · exact⟨[],by rw [eE];simp⟩
    · obtain⟨r,a4⟩:=N5 e (n:=n) (m:=m) (by omega)
      exact⟨r++(if mF e m then [(m,e (3+m))]else []),by rw [CM,a4,List.append_assoc]⟩
theorem W7{e:Nat→Int}{n m:Nat}(h:n<m)(bs:mF e n=true):(h5 e n).length<(h5 e m).length∧(h5 e m)[(h5 e n).length]?=some (n,e (3+n)):=by
  obtain⟨r,a4⟩:=N5 e (n:=n+1) (m:=m) h
  rw [CM,bs]at a4
  rw [a4];simp
theorem F0{e:Nat→Int}{j:Nat}(h:j<8):(dd e)[3+j*1]?=some (aa (e (3+j))):=by
  rcases(by omega:j=0∨j=1∨j=2∨j=3∨j=4∨j=5∨j=6∨j=7)with rfl|rfl|rfl|rfl|rfl|rfl|rfl|rfl<;>rfl
abbrev G6(e:Nat→Int):List Value:=e6 8 fun r=>e (3+r)
abbrev sU(t:Nat→Int):Value:= .agg (e6 8 t).toArray
theorem O1{f:Nat→Int}{j:Nat}(h:j<8):(e6 8 f)[0+j*1]?=some (aa (f j)):=by rw [Nat.zero_add,Nat.mul_one];exact yF h
theorem I6{f:Nat→Int}{j:Nat}(h:j<8):(e6 8 f)[j]?=some (aa (f j)):=yF h
theorem O2{f:Nat→Int}{j:Nat}{v:Int}:(e6 8 f).set (0+j*1) (aa v)=e6 8 (bz f j v):=by rw [Nat.zero_add,Nat.mul_one];exact OH (c:=fun m=>Value.int .i64 m) (v:=v)
theorem Qj{f:Nat→Int}{k:Nat}(h:k<8):Nat.blt k (e6 8 f).length=true:=by simp [vG];omega
theorem Jo{f g:Nat→Int}(h:∀k,k<8→f k=g k):sU f=sU g:=by unfold sU;rw [show e6 8 f=e6 8 g from Jk h]
def wo(aG:List (Nat→Int))(s:BitVec 32)(r i:Nat):Bool:=match aG[i]? with
  |some e=>hasB s i&&mF e r
  |none=>false
def xD(aG:List (Nat→Int))(s:BitVec 32)(r:Nat):Int:=(((List.range 16).find? (wo aG s r)).map fun(i:Nat)=>(i:Int)).getD 16
structure xv(p:Nat→Bool)(v:Int):Prop where
  le:∀i:Nat,i<16→p i=true→v≤i
  at_:v=16∨∃i:Nat,i<16∧p i=true∧v=i
theorem xv.afU{p:Nat→Bool}{v w:Int}(h:xv p v)(g:xv p w):v=w:=by
  rcases h.at_ with rfl|⟨i,ab,ae,rfl⟩
  · rcases g.at_ with rfl|⟨j,a1,a3,rfl⟩
    · rfl
    · have:=h.le j a1 a3;omega
  · have av:=g.le i ab ae
    rcases g.at_ with rfl|⟨j,a1,a3,rfl⟩
    · omega
    · have:=h.le j a1 a3;omega
theorem xv.range{p:Nat→Bool}{v:Int}(h:xv p v):0≤v∧v≤16:=by
  rcases h.at_ with rfl|⟨i,ab,ae,rfl⟩<;>omega
theorem Wt{p:Nat→Bool}:xv p ((((List.range 16).find? p).map fun(i:Nat)=>(i:Int)).getD 16):=by
 cases bs:(List.range 16).find? p with
 |none=>
  refine⟨fun i af aC=>?_,.inl rfl⟩
  have:=List.find?_eq_none.1 bs i (List.mem_range.2 af)
  rw [aC]at this;simp at this
 |some k=>
  have ab:=List.find?_some bs
  have ae:=List.mem_range.1 (List.mem_of_find?_eq_some bs)
  refine⟨fun i af aC=>?_,.inr ⟨k,ae,by simpa using ab,rfl⟩⟩
  show(k:Int)≤i
  rcases Nat.lt_or_ge i k with ey|HI
  ·exfalso
   obtain⟨_,xs,cP,av,aV⟩:=List.find?_eq_some_iff_append.1 bs
   have hlen:xs.length=k:=by
    have bl:(List.range 16)[xs.length]?=some k:=by rw [av];simp
    have ey:xs.length<16:=by
     have:=congrArg List.length av;simp at this;omega
    rw [List.getElem?_range ey]at bl
    exact Option.some.inj bl
   have Mg:i∈xs:=by
    have bl:(List.range 16)[i]?=some i:=List.getElem?_range af
    rw [av,List.getElem?_append_left ah]at bl
    exact List.mem_of_getElem? bl
   have:=aV i Mg
   rw [aC]at this;simp at this
  omega
theorem Ag(aG:List (Nat→Int))(s:BitVec 32)(r:Nat):xv (wo aG s r) (xD aG s r):=Wt
def stepT(t:Nat→Int)(n:Int)(e:Nat→Int):Nat→Int:=fun r=>if r<8∧mF e r=true then min (t r) n else t r
def nX(aG:List (Nat→Int))(t:Nat→Int)(n:Int):Nat→Int:=match aG[n.toNat]? with
  |some e=>stepT t n e
  |none=>t
def mm(aG:List (Nat→Int))(l:List Int):Nat→Int:=l.foldl (nX aG) fun _=>16
theorem adM{aG:List (Nat→Int)}{l:List Int}{i:Nat}{n:Int}(h:l[i]?=some n):mm aG (l.take (i+1))=nX aG (mm aG (l.take i)) n:=by
  rw [X4 h];simp [mm]
def q7(t:Nat→Int)(n:Int)(l:List (Nat×Int)):Nat→Int:=l.foldl (fun t p=>bz t p.1 (min (t p.1) n)) t
theorem Zs{t:Nat→Int}{n:Int}{l:List (Nat×Int)}{i:Nat}{p:Nat×Int}(h:l[i]?=some p):q7 t n (l.take (i+1))=bz (q7 t n (l.take i)) p.1 (min (q7 t n (l.take i) p.1) n):=by
  rw [List.take_add_one,h];simp [q7]
theorem NG(t:Nat→Int)(n:Int)(e:Nat→Int):∀m,q7 t n (h5 e m)=fun r=>if r<m∧mF e r=true then min (t r) n else t r
  |0=>by funext r;simp [h5,q7]
  |m+1=>by
    rw [CM]
    have ih:=NG t n e m
    unfold q7 at ih⊢
    rw [List.foldl_append,ih]
    funext r
    cases hu:mF e m
    · simp only [Bool.false_eq_true,if_false,List.foldl_nil]
      by_cases a4:r=m
      · subst a4;rw [if_neg (by simp),if_neg (by simp [hu])]
      · by_cases h:r<m∧mF e r=true
        · rw [if_pos h,if_pos ⟨by omega,h.2⟩]
        · rw [if_neg h,if_neg (fun eE=>h ⟨by omega,eE.2⟩)]
    · simp only [if_true,List.foldl_cons,List.foldl_nil]
      by_cases a4:r=m
      · subst a4;rw [e4,if_neg (by simp),if_pos ⟨by omega,hu⟩]
      · rw [fG _ _ a4]
        by_cases h:r<m∧mF e r=true
        · rw [if_pos h,if_pos ⟨by omega,h.2⟩]
        · rw [if_neg h,if_neg (fun eE=>h ⟨by omega,eE.2⟩)]
theorem Wu{aG:List (Nat→Int)}{t:Nat→Int}{n:Int}{e:Nat→Int}(h:aG[n.toNat]?=some e):q7 t n (h5 e 8)=nX aG t n:=by
  rw [NG,nX,h];rfl
def Tx(aG:List (Nat→Int))(l:List Int)(r:Nat)(n:Int):Prop:=n∈l∧∃e,aG[n.toNat]?=some e∧mF e r=true
theorem O3(aG:List (Nat→Int)){r:Nat}(a4:r<8):∀(l:List Int) (t:Nat→Int),(l.foldl (nX aG) t r≤t r)∧(∀n,Tx aG l r n→l.foldl (nX aG) t r≤n)∧(l.foldl (nX aG) t r=t r∨∃n,Tx aG l r n∧l.foldl (nX aG) t r=n)
 |[],t=>⟨Int.le_refl _,fun n h=>(by cases h.1),.inl rfl⟩
 |x::l,t=>by
  obtain⟨ab,ae,av⟩:=O3 aG a4 l (nX aG t x)
  rw [List.foldl_cons]
  have al:nX aG t x r=t r∨(nX aG t x r=min (t r) x∧∃e,aG[x.toNat]?=some e∧mF e r=true):=by
   unfold nX
   cases he:aG[x.toNat]? with
   |some e=>
    show stepT t x e r=t r∨(stepT t x e r=_∧_)
    unfold stepT
    by_cases h:r<8∧mF e r=true
    ·rw [if_pos h];exact .inr ⟨rfl,e,rfl,h.2⟩
    rw [if_neg h];exact .inl rfl
   |none=>exact .inl rfl
  have afV:(∃e,aG[x.toNat]?=some e∧mF e r=true)→nX aG t x r=min (t r) x:=by
   rintro⟨e,he,hu⟩
   unfold nX;rw [he];show stepT t x e r=_;unfold stepT;rw [if_pos ⟨a4,hu⟩]
  have hle:nX aG t x r≤t r:=by rcases al with h|⟨h,_⟩<;>omega
  refine⟨by omega,fun n aP=>?_,?_⟩
  ·obtain⟨hm,he⟩:=aP
   rcases List.mem_cons.1 hm with rfl|hm
   ·have:=afV he;omega
   exact ae n ⟨hm,he⟩
  rcases av with av|⟨n,aP,av⟩
  ·rcases al with h|⟨h,he⟩
   ·exact .inl (by rw [av,h])
   rw [av,h]
   rcases Int.le_total (t r) x with eE|eE
   ·exact .inl ah
   exact .inr ⟨x,⟨List.mem_cons_self ..,he⟩,by omega⟩
  exact .inr ⟨n,⟨List.mem_cons_of_mem _ aP.1,aP.2⟩,av⟩
theorem O4(aG:List (Nat→Int))(s:BitVec 32){r:Nat}(a4:r<8):mm aG (bb s) r=xD aG s r:=by
 obtain⟨ab,ae,av⟩:=O3 aG a4 (bb s) fun _=>16
 refine xv.afU (p:=wo aG s r) ⟨fun i af aC=>?_,?_⟩ (Ag aG s r)
 ·refine ae i ?_
  unfold wo at aC
  split at aC
  ·rename_i e he
   simp at aC
   exact⟨iV.2 ⟨by omega,by omega,aC.1⟩,e,by simpa using he,aC.2⟩
  cases aC
 rcases av with av|⟨n,⟨hm,e,he,hu⟩,av⟩
 ·exact .inl av
 obtain⟨a1,a3,bI⟩:=iV.1 hm
 obtain⟨k,rfl⟩:=Int.eq_ofNat_of_zero_le a1
 rcases Nat.lt_or_ge k 16 with ai|ai
 ·refine .inr ⟨k,ai,?_,av⟩
  unfold wo
  rw [Int.toNat_natCast]at he
  rw [he];simp [bI,hu]
 have Bk:mm aG (bb s) r≤16:=ab
 exact .inl (by
  have ajS:mm aG (bb s) r=(k:Int):=av
  omega)
theorem Nv(s:BitVec 32):∀n,(lV s n).Pairwise (· < ·)
 |0=>List.Pairwise.nil
 |n+1=>by
  rw [Qi]
  refine List.pairwise_append.2 ⟨Nv s n,?_,fun a a5 b aR=>?_⟩
  ·split<;>simp
  have:=(iV.1 a5).2.1
  split at aR
  ·simp at aR;omega
  cases aR
theorem Zt{aG:List (Nat→Int)}{s:BitVec 32}{i:Nat}{n:Int}(h:(bb s)[i]?=some n)(aP:(aG.length:Int)≤n):mm aG ((bb s).take i)=mm aG (bb s):=by
  have e:bb s=(bb s).take i++(bb s).drop i:=(List.take_append_drop ..).symm
  unfold mm
  conv=>rhs;rw [e,List.foldl_append]
  have aH:=Nv s 32
  have af:=(List.getElem?_eq_some_iff.1 h).1
  have lu:∀x∈(bb s).drop i,n≤x:=by
    intro x al
    have hJ:((bb s).drop i).Pairwise (· < ·):=aH.drop
    rw [List.drop_eq_getElem_cons af]at al hJ
    have bl:(bb s)[i]=n:=by rw [List.getElem?_eq_getElem af]at h;exact Option.some.inj h
    rcases List.mem_cons.1 al with rfl|al
    · omega
    · have:=(List.pairwise_cons.1 hJ).1 x al;omega
  generalize List.foldl (nX aG) (fun _=>16) ((bb s).take i)=t
  generalize (bb s).drop i=l at lu
  induction l with
  |nil=>rfl
  |cons x l ih=>
    have al:=lu x (List.mem_cons_self ..)
    have:nX aG t x=t:=by
      unfold nX
      rw [List.getElem?_eq_none (by omega)]
    rw [List.foldl_cons,this]
    exact ih fun y aZ=>lu y (List.mem_cons_of_mem _ aZ)
abbrev fb(aG:List (Nat→Int))(s:BitVec 32):Nat→Int:=fun r=>xD aG s r
def wQ(t:Nat→Int)(r:Int):Int:=if 0≤r∧r<8 then t r.toNat else 16
def q2(t:Nat→Int)(i r:Int):Int:=if r<0 then i else min i (wQ t r)
def iu(t:Nat→Int)(i:Int):Nat→BitVec 32
  |0=>0#32
  |n+1=>if t n≤i∧t n<16 then iu t i n|||dL n else iu t i n
abbrev hd{B:Nat}(K:ar B):Prop:=dI K ⟨0,0,none⟩ (rZ.map fun m=> .int .u8 m)
abbrev b9(x:bZ):List Value:=[aa x.cA,az x.aw,az x.a9,az x.bd]
theorem KZ(e:Nat→Int):a6 B 205 [.agg (dd e).toArray] [] (fun v S=>∃b,v= .func (.func 254) #[] #[ag b]∧S=[U b (dd e) 173]):=by
 refine bM 4 Tryz.func205 fun ba bf=>?_
 refine fX (aF:=dd e) fun ax=>?_
 exact aO ⟨ax,rfl,rfl⟩
theorem JM(b:Nat)(e:Nat→Int):
  n9 Tryz.prog B 254 [ag b] [U b (dd e) 173] ((h5 e 8).map fun p=>[.int .i64 (p.1:Int),aa p.2]):=by
 intro cr J hc cV g7 aZ
 change di _ _ _ _ (U b (dd e) 173::cV) _
 refine dN 21 Tryz.func254 fun ba bf=>?_
 refine iK ?_
 refine du (G6 e) ?_
 refine aj ?_
 refine ds (α:=Nat×List (ar B)) (fun⟨r,aU⟩=>r≤8∧J (h5 e r).length aU) (fun⟨r,aU⟩=>[(7,aa (r:Int)),(6,.agg (G6 e).toArray),(0,.func (.yield cr) #[] #[]),(1,ag b)]) (fun⟨r,aU⟩=>U b (dd e) 173::aU) (fun⟨r,aU⟩=>8-r) (0,cV) ?_ dq aA ?_
 ·exact⟨Nat.zero_le _,g7⟩
 rintro⟨r,aU⟩ ⟨a4,bo⟩
 dsimp only
 refine bT ?_ ?_<;>intro ab
 ·refine ap (xl rfl rfl ad rfl ah (I6 ah)) ?_
  refine aj ?_
  refine cc ?_ ?_<;>intro ae
  ·have hu:mF e r=true:=by unfold mF;simpa using ae
   obtain⟨ey,b0⟩:=W7 (m:=8) ah hu
   have fa:=aZ _ aU (by rw [List.length_map];exact ey) bo
   rw [show((h5 e 8).map fun p=>[Value.int .i64 (p.1:Int),Value.int .i64 p.2]).getD (h5 e r).length []=[aa (r:Int),aa (e (3+r))]from by simp [List.getD,b0]]at fa
   refine aj ?_
   refine iq (own:=[U b (dd e) 173]) (hM:=aU) (.yes 13 rfl rfl rfl) rfl rfl fa rfl ?_
   rintro jP bh aC
   refine cx ?_
   refine bD ?_ ?_<;>intro av
   ·obtain⟨h,_⟩|⟨_,aC⟩:=aC
    ·rw [h]at av;cases av
    exact⟨U b (dd e) 173::bh,⟨bh,rfl,.inr ⟨_,by rw [List.length_map];exact ey,aC⟩⟩,_,aA⟩
   obtain⟨_,aC⟩|⟨h,_⟩:=aC
   rotate_left
   ·rw [h]at av;cases av
   refine aj ?_
   refine cE (r+1,bh) ?_
   (try dsimp only);exact⟨by omega,by rw [CM,if_pos hu,List.length_append];exact aC⟩
  have hu:¬mF e r=true:=by unfold mF;simp;omega
  refine aj ?_
  refine cE (r+1,aU) ?_
  (try dsimp only);exact⟨by omega,by rw [CM,if_neg hu];simpa using bo⟩
 obtain rfl:r=8:=by omega
 exact⟨U b (dd e) 173::aU,⟨aU,rfl,.inl (by rw [List.length_map];exact bo)⟩,_,aA⟩
theorem Zu(r k:Nat):bz (fun k=>if k<r then(16:Int)else 0) r 16 k=if k<r+1 then 16 else 0:=by
  by_cases h:k=r
  · subst h;rw [e4,if_pos (by omega)]
  · rw [fG _ _ h]
    by_cases eE:k<r
    · rw [if_pos eE,if_pos (by omega)]
    · rw [if_neg eE,if_neg (by omega)]
theorem Ri:a6 B 132 [] [] (fun v S=>v=sU (fun _=>16)∧S=[]):=by
 refine bM 11 Tryz.func132 fun ba bf=>?_
 refine xi (aF:=e6 8 (fun _=>0)) .no ad rfl (fun ax=>?_)
 refine aj ?_
 refine xi (aF:=e6 8 (fun _=>0)) .no ad rfl (fun aK=>?_)
 refine aj ?_
 refine ds (α:=Nat) (fun r=>r≤8) (fun r=>[(4,aa (r:Int)),(0,ag ax),(1,ag aK)]) (fun r=>[U ax (e6 8 (fun _=>0)) 258,U aK (e6 8 (fun k=>if k<r then 16 else 0)) 258]) (fun r=>8-r) 0 ?_ dq cd ?_
 ·exact Nat.zero_le _
 intro r a4
 refine aj ?_
 refine c2 ?_ ?_<;>intro ab
 ·refine aj ?_
  refine fq (js (ga:=e6 8 (fun k=>if k<r+1 then 16 else 0)) rfl rfl rfl au ad (Qj ah) (by rw [O2];exact Jk fun k _=>Zu r k)) ?_
  refine aj ?_
  refine cE (r+1) ?_
  omega
 refine l5 ?_
 refine du (e6 8 (fun k=>if k<r then 16 else 0)) ?_
 refine aj ?_
 refine g2 ?_
 exact aO ⟨Jo fun k ai=>if_pos ah,rfl⟩
theorem cat(t:Nat→Int)(r:Int):a6 B 292 [sU t,aa r] [] (fun v S=>v=aa (wQ t r)∧S=[]):=by
 refine bM 14 Tryz.func292 fun ba bf=>?_
 refine fX (aF:=e6 8 t) fun ax=>?_
 refine cc ?_ ?_<;>intro ab
 ·exact aO ⟨by rw [wQ,if_neg (by omega)],rfl⟩
 refine c2 ?_ ?_<;>intro ae
 ·refine aj ?_
  exact aO ⟨by rw [wQ,if_neg (by omega)],rfl⟩
 obtain⟨j,aI⟩:=Int.eq_ofNat_of_zero_le (a:=r) (by omega)
 refine ic ?_
 refine fj ?_
 refine cC ?_
 refine dz ?_
 refine ap (cj rfl) ?_
 refine ap (p3 rfl rfl ad aI (by omega) rfl) ?_
 refine ap (ft rfl au ad (O1 (by omega))) ?_
 refine aj ?_
 exact aO ⟨by rw [wQ,if_pos (by omega),show r.toNat=j by omega],rfl⟩
theorem cover(t:Nat→Int)(i:Int):a6 B 274 [sU t,aa i] [] (fun v S=>v=aQ (iu t i 8).toNat∧S=[]):=by
 refine bM 25 Tryz.func274 fun ba bf=>?_
 refine eD (aF:=e6 8 t) fun ax=>?_
 refine nH ?_
 refine du (e6 8 t) ?_
 refine aj ?_
 refine ds (α:=Nat×BitVec 32) (fun⟨r,o⟩=>r≤8∧o=iu t i r) (fun⟨r,o⟩=>[(9,aa (r:Int)),(5,aQ o.toNat),(8,sU t),(1,aa i)]) (fun⟨r,o⟩=>[U ax (e6 8 t) 258]) (fun⟨r,o⟩=>8-r) (0,0#32) ?_ dq aA ?_
 ·exact⟨Nat.zero_le _,rfl⟩
 rintro⟨r,o⟩ ⟨a4,aq⟩
 dsimp only
 refine bT ?_ ?_<;>intro ab
 ·refine ap (xl rfl rfl ad rfl ah (I6 ah)) ?_
  refine aj ?_
  refine cc ?_ ?_<;>intro ae
  ·refine bD ?_ ?_<;>intro av
   ·refine gl (tE _ _) ?_
    refine cE (r+1,o|||dL r) ?_
    (try dsimp only);exact⟨by omega,by rw [aq,iu,if_pos ⟨ae,av⟩]⟩
   refine cE (r+1,o) ?_
   (try dsimp only);exact⟨by omega,by rw [aq,iu,if_neg ah]⟩
  refine cE (r+1,o) ?_
  (try dsimp only);exact⟨by omega,by rw [aq,iu,if_neg ah]⟩
 exact aO ⟨by rw [aq,show r=8 by omega],rfl⟩
theorem abp(t:Nat→Int)(i r:Int):a6 B 281 [sU t,aa i,aa r] [] (fun v S=>v=aa (q2 t i r)∧S=[]):=by
 refine bM 15 Tryz.func281 fun ba bf=>?_
 refine fX (aF:=e6 8 t) fun ax=>?_
 refine c2 ?_ ?_<;>intro ab
 ·refine aj ?_
  exact aO ⟨by rw [q2,if_pos ab],rfl⟩
 refine gN ?_
 refine du (e6 8 t) ?_
 refine aj ?_
 refine gl (cat t r) ?_
 exact aO ⟨by rw [q2,if_neg ah],rfl⟩
theorem HW{lo:ar B}(x:bZ)(al:x.In lo)(s:BitVec 32)(bO:hd K):a6 B 136 [x.v,aQ s.toNat] [K,lo] (fun v S=>v=sU (fb x.aw.l s)∧S=[K,lo]):=by
 refine bM 33 Tryz.func136 fun ba bf=>?_
 refine eD fun ax=>?_
 refine xi (aF:=e6 8 (fun _=>0)) .no ad rfl (fun aK=>?_)
 refine aj ?_
 refine gj (Ri) ?_
 refine xi (aF:=e6 8 (fun _=>0)) .no ad rfl (fun bq=>?_)
 refine aj ?_
 refine cm (re s) ?_
 rintro _ _ ⟨kD,rfl,rfl⟩
 refine cx ?_
 refine kS (own:=[U kD [aQ s.toNat] 158,K]) (aU:=[U ax (b9 x) 41,U bq (e6 8 (fun _=>16)) 258,lo]) rfl fF (q1 kD s bO) (fun i S=>S=[U ax (b9 x) 41,U bq (e6 8 (mm x.aw.l ((bb s).take i))) 258,lo]) (fun c i S=>c= .exit 0∧S=[U ax (b9 x) 41,U bq (e6 8 (mm x.aw.l (bb s))) 258,lo]) (show Take ([U kD [aQ s.toNat] 158,K,U ax (b9 x) 41,U bq (e6 8 (fun _=>16)) 258,lo]) _ _ from aA) (rfl) rfl (fun x al=>by obtain⟨y,_,rfl⟩:=List.mem_map.1 al;rfl) ?_ ?_ ?_
 ·intro cr rec j3 i bh af bo
  subst bo
  rw [List.length_map]at af
  obtain⟨n,b0⟩:∃n,(bb s)[i]?=some n:=⟨_,List.getElem?_eq_getElem af⟩
  rw [lp b0]
  refine aj ?_
  refine de fun bV=>?_
  refine⟨rfl,_,_,.cons au (Take.self _),fun hz=>?_⟩
  refine bT ?_ ?_<;>intro ab
  ·exact⟨[U ax (b9 x) 41,U bq (e6 8 (mm x.aw.l ((bb s).take i))) 258,lo],_,aA,⟨rfl,by rw [Zt b0 ah]⟩⟩
  obtain⟨k,ai⟩:=Int.eq_ofNat_of_zero_le (iV.1 (List.mem_of_getElem? b0)).1
  obtain⟨e,he⟩:=fp x.aw.l k
  refine aj ?_
  refine ap (jS (j:=k) rfl rfl ad (x.aw).fl ai (List.getElem?_eq_some_iff.1 he).1 rfl) ?_
  refine ap (jV (a2:=dd) (aN:=11) (i:=k) (fun _=>rfl) rfl au al.aw ad he) ?_
  refine cm (KZ e) ?_
  rintro _ _ ⟨M2,rfl,rfl⟩
  refine cx ?_
  refine FX (own:=[U M2 (dd e) 173]) (aU:=[U bq (e6 8 (mm x.aw.l ((bb s).take i))) 258,U bV [aa n] 3]) au rfl fF (JM M2 e) (fun j S=>S=[U bq (e6 8 (q7 (mm x.aw.l ((bb s).take i)) n ((h5 e 8).take j))) 258,U bV [aa n] 3]) (fun c j S=>False) (show Take ([U M2 (dd e) 173,U bq (e6 8 (mm x.aw.l ((bb s).take i))) 258,U bV [aa n] 3]) _ _ from aA) (rfl) rfl (fun x al=>by obtain⟨y,_,rfl⟩:=List.mem_map.1 al;rfl) ?_ ?_ ?_
  ·intro x9 DS Fa j cS aI ki
   subst ki
   rw [List.length_map]at aI
   obtain⟨p,xE⟩:∃p,(h5 e 8)[j]?=some p:=⟨_,List.getElem?_eq_getElem aI⟩
   have ajT:=(W6 (List.mem_of_getElem? xE)).1
   rw [show((h5 e 8).map fun p=>[Value.int .i64 (p.1:Int),Value.int .i64 p.2]).getD j []=[aa (p.1:Int),aa p.2]from by simp [List.getD,xE]]
   refine aj ?_
   refine⟨rfl,_,_,.cons au (Take.self _),fun hz=>?_⟩
   refine aj ?_
   refine cZ _ ad (Take.self _) ?_
   refine aY [0,1] ?_
   refine bG 2 rfl (ns rfl rfl ad rfl ah rfl) ?_
   refine bj 3 rfl (ft rfl au ad (O1 ah)) ?_
   refine aY [4,5] ?_
   refine bG 6 rfl (ns rfl rfl ad rfl ah rfl) ?_
   refine aY [107] ?_
   refine l4 rfl dy (js (ga:=e6 8 (bz (q7 (mm x.aw.l ((bb s).take i)) n ((h5 e 8).take j)) p.1 (min ((q7 (mm x.aw.l ((bb s).take i)) n ((h5 e 8).take j)) p.1) n))) rfl rfl rfl au ad (Qj (by omega)) O2) ?_
   refine df [99] ?_
   exact⟨[U bq (e6 8 (bz (q7 (mm x.aw.l ((bb s).take i)) n ((h5 e 8).take j)) p.1 (min ((q7 (mm x.aw.l ((bb s).take i)) n ((h5 e 8).take j)) p.1) n))) 258,U bV [aa n] 3],_,aA,by dsimp only;rw [Zs xE]⟩
  ·intro cS ki
   subst ki
   refine cx ?_
   exact⟨[U ax (b9 x) 41,U bq (e6 8 (q7 (mm x.aw.l ((bb s).take i)) n ((h5 e 8).take ((h5 e 8).map fun p=>[Value.int .i64 (p.1:Int),Value.int .i64 p.2]).length))) 258,lo],_,aA,by dsimp only;rw [List.length_map,List.take_length,Wu (by rw [ai,Int.toNat_natCast];exact he), ←adM b0]⟩
  intro c i bh af h
  exact h.elim
 ·intro cG bh bo
  subst bo
  refine bP ?_
  refine hi ?_
  refine du (e6 8 (mm x.aw.l ((bb s).take ((bb s).map fun n=>[Value.int .i64 n]).length))) ?_
  refine aj ?_
  refine dA (show Take [dl cG] _ _ from aA) (Al rfl rfl au ad (by rfl)) ?_
  exact aO ⟨Jo fun r a4=>by rw [List.length_map,List.take_length,O4 _ _ a4],rfl⟩
 intro cG c i bh af h
 obtain⟨rfl,rfl⟩:=h
 refine bP ?_
 refine gN ?_
 refine du (e6 8 (mm x.aw.l (bb s))) ?_
 refine aj ?_
 refine dA (show Take [dl cG] _ _ from aA) (Al rfl rfl au ad (by rfl)) ?_
 exact aO ⟨Jo fun r a4=>by rw [O4 _ _ a4],rfl⟩
abbrev dt:=Int×Int×Int
abbrev gq(s:dt):List Value:=[aa s.1,aa s.2.1,aa s.2.2]
abbrev xT(s:dt):Value:= .agg #[aa s.1,aa s.2.1,aa s.2.2]
abbrev M3(e:Nat→Int):Value:= .agg #[aa (e 0),aa (e 1),aa (e 2),aa (e 3),aa (e 4),aa (e 5),aa (e 6),aa (e 7),aa (e 8),aa (e 9),aa (e 10)]
def oF(T:Nat→Int)(cost from_:Int)(s:dt):Option dt:=
  if s.1<0∨s.1≥8∨T (3+s.1.toNat)=0∨s.2.1<from_∨s.2.1≥cost∨s.2.2≤s.2.1 then none
  else some (s.1,s.2.1,if min s.2.2 cost-s.2.1>T (3+s.1.toNat)then s.2.1+T (3+s.1.toNat)else min s.2.2 cost)
abbrev afW(o:Option dt):Value:= .tuple #[xT (o.getD (0,0,0)),.bool o.isSome]
theorem Rj{T:Nat→Int}{cost from_:Int}{s:dt}(h:s.1<0∨s.1≥8):oF T cost from_ s=none:=by unfold oF;rw [if_pos (by omega)]
theorem GM{T:Nat→Int}{cost from_:Int}{s:dt}{j:Nat}(aI:s.1=(j:Int))(h:T (3+j)=0∨s.2.1<from_∨s.2.1≥cost∨s.2.2≤s.2.1):oF T cost from_ s=none:=by
  unfold oF;rw [aI,Int.toNat_natCast,if_pos (by omega)]
theorem Rk{T:Nat→Int}{cost from_:Int}{s:dt}{j:Nat}(aI:s.1=(j:Int))(gk:j<8)(h:¬(T (3+j)=0∨s.2.1<from_∨s.2.1≥cost∨s.2.2≤s.2.1)):
    oF T cost from_ s=some (s.1,s.2.1,if min s.2.2 cost-s.2.1>T (3+j)then s.2.1+T (3+j)else min s.2.2 cost):=by
  unfold oF;rw [if_neg (by rw [aI,Int.toNat_natCast];omega),aI,Int.toNat_natCast]
def cz(T:Nat→Int)(cost:Int):Int→Nat→List dt→List dt
  |_,_,[]=>[]
  |from_,many,s::l=>if many=8 then []else match oF T cost from_ s with
    |none=>cz T cost from_ many l
    |some c=>c::cz T cost c.2.2 (many+1) l
theorem abq{T:Nat→Int}{cost from_:Int}:∀(l:List dt),cz T cost from_ 8 l=[]
  |[]=>rfl
  |_::_=>rfl
theorem abr{T:Nat→Int}{cost from_:Int}{many:Nat}{l:List dt}{i:Nat}{s:dt}(h:l[i]?=some s)(hm:many≠8)(a7:oF T cost from_ s=none):cz T cost from_ many (l.drop i)=cz T cost from_ many (l.drop (i+1)):=by
  have af:=(List.getElem?_eq_some_iff.1 h).1
  rw [List.drop_eq_getElem_cons af,show l[i]=s from by rw [List.getElem?_eq_getElem af]at h;exact Option.some.inj h]
  rw [cz,if_neg hm,a7]
theorem Rl{T:Nat→Int}{cost from_:Int}{many:Nat}{l:List dt}{i:Nat}{s c:dt}(h:l[i]?=some s)(hm:many≠8)(a7:oF T cost from_ s=some c):cz T cost from_ many (l.drop i)=c::cz T cost c.2.2 (many+1) (l.drop (i+1)):=by
  have af:=(List.getElem?_eq_some_iff.1 h).1
  rw [List.drop_eq_getElem_cons af,show l[i]=s from by rw [List.getElem?_eq_getElem af]at h;exact Option.some.inj h]
  rw [cz,if_neg hm,a7]
theorem abt{T:Nat→Int}{cost from_:Int}{s c:dt}(c9:∀j,j<8→0≤T (3+j))(h:oF T cost from_ s=some c)(bs:0≤from_):0≤c.2.2∧c.2.2≤cost:=by
  unfold oF at h
  split at h
  · cases h
  · simp at h;subst h
    simp only [not_or]at*
    have:=c9 s.1.toNat (by omega)
    split<;>omega
theorem afX(T:Nat→Int)(cost from_:Int)(s:dt)(c9:∀j,j<8→0≤T (3+j))(bs:0≤from_)(a7:cost≤9223372036854775807):a6 B 266 [M3 T,aa cost,aa from_,xT s] [] (fun v S=>v=afW (oF T cost from_ s)∧S=[]):=by
 refine bM 72 Tryz.func266 fun ba bf=>?_
 refine eD fun ax=>?_
 refine eD fun aK=>?_
 refine de fun bq=>?_
 refine cc ?_ ?_<;>intro ab
 ·refine fS ?_
  exact aO ⟨by rw [Rj (by omega)];rfl,rfl⟩
 refine qW (t:=18) rfl (fun ae=>?_) (fun ae=>?_)
 ·replace ae:=gX ae
  refine aj ?_
  refine fS ?_
  exact aO ⟨by rw [Rj (by omega)];rfl,rfl⟩
 replace ae:=gX ae
 obtain⟨j,aI⟩:=Int.eq_ofNat_of_zero_le (a:=s.1) (by omega)
 have c9:=c9 j (by omega)
 refine ap (ia ad) ?_
 refine ap (da ad) ?_
 refine ap (ia ad) ?_
 refine ap (p3 rfl rfl ad aI (by omega) rfl) ?_
 refine ap (ft rfl au ad (F0 (by omega))) ?_
 refine aj ?_
 refine cc ?_ ?_<;>intro av
 ·refine fS ?_
  exact aO ⟨by rw [GM aI (by omega)];rfl,rfl⟩
 refine cc ?_ ?_<;>intro aV
 ·refine fS ?_
  exact aO ⟨by rw [GM aI (by omega)];rfl,rfl⟩
 refine cc ?_ ?_<;>intro bN
 ·refine fS ?_
  exact aO ⟨by rw [GM aI (by omega)];rfl,rfl⟩
 refine bD ?_ ?_<;>intro c0
 ·refine fS ?_
  exact aO ⟨by rw [GM aI (by omega)];rfl,rfl⟩
 refine cZ _ ad (Take.self _) ?_
 refine aY [0,1,2,3,4,5,6,7] ?_
 refine bG 8 rfl (ns rfl rfl ad aI (by omega) rfl) ?_
 refine bj 9 rfl (ft rfl au ad (F0 (by omega))) ?_
 refine df [10,99] ?_
 refine bD ?_ ?_<;>intro fO
 ·refine cZ _ ad (Take.self _) ?_
  refine aY [0,1,2,3,4] ?_
  refine bG 5 rfl (ns rfl rfl ad aI (by omega) rfl) ?_
  refine bj 6 rfl (ft rfl au ad (F0 (by omega))) ?_
  refine df [7,8,109,99] ?_
  refine fS ?_
  exact aO ⟨by rw [Rk aI (by omega) (by omega),if_pos (by omega)];rfl,rfl⟩
 refine fS ?_
 exact aO ⟨by rw [Rk aI (by omega) (by omega),if_neg (by omega)];rfl,rfl⟩
theorem X6{L pre rest:List dt}{c:dt}{many:Nat}(h:L=pre++c::rest)(aC:pre.length=many):many<(L.map fun s=>[xT s]).length∧(L.map fun s=>[xT s]).getD many []=[xT c]:=by
  subst h aC;simp [List.getD]
theorem afY(kD pT nQ:Nat)(T:Nat→Int)(cost:Int)(l:an dt)(aE:dI K l.bu (l.l.flatMap gq))(c9:∀j,j<8→0≤T (3+j))(a7:cost≤9223372036854775807):
  n9 Tryz.prog B 265 [ag kD,ag pT,ag nQ] [U kD [az l] 61,U pT (dd T) 173,U nQ [aa cost] 3,K] ((cz T cost 0 0 l.l).map fun s=>[xT s]):=by
 intro cr J hc cV g7 aZ
 change di _ _ _ _ (U kD [az l] 61::U pT (dd T) 173::U nQ [aa cost] 3::K::cV) _
 refine bM 38 Tryz.func265 fun ba bf=>?_
 refine ds (α:=Nat×Int×Nat×List (ar B)) (fun⟨i,hN,many,aU⟩=>i≤l.l.length∧0≤hN∧J many aU∧many≤8∧∃pre,cz T cost 0 0 l.l=pre++cz T cost hN many (l.l.drop i)∧pre.length=many) (fun⟨i,hN,many,aU⟩=>[(5,aa hN),(6,aa (many:Int)),(13,aa (i:Int)),(0,.func (.yield cr) #[] #[]),(1,ag kD),(2,ag pT),(3,ag nQ),(11,az l),(12,aa (l.l.length:Int))]) (fun⟨i,hN,many,aU⟩=>U kD [az l] 61::U pT (dd T) 173::U nQ [aa cost] 3::K::aU) (fun⟨i,hN,many,aU⟩=>l.l.length-i) (0,0,0,cV) ?_ dq aA ?_
 ·exact⟨Nat.zero_le _,by decide,g7,by decide,[],rfl,rfl⟩
 rintro⟨i,hN,many,aU⟩ ⟨af,uc,bo,hm,pre,iG,hlen⟩
 dsimp only
 have l3:=l.small
 refine bT ?_ ?_<;>intro ab
 ·obtain⟨s,b0⟩:=fp l.l i
  refine aj ?_
  refine ap (jV (a2:=gq) (aN:=3) (i:=i) (fun _=>rfl) rfl au aE ad b0) ?_
  refine de fun ax=>?_
  refine bD ?_ ?_<;>intro ae
  ·have BV:many=8:=by omega
   subst BV
   exact⟨U kD [az l] 61::U pT (dd T) 173::U nQ [aa cost] 3::K::aU,⟨aU,rfl,.inl (by rw [List.length_map,iG,abq,List.append_nil,hlen];exact bo)⟩,_,aA⟩
  refine gl (afX T cost hN s c9 uc a7) ?_
  refine de fun aK=>?_
  refine bD ?_ ?_<;>intro av
  ·refine cE (i+1,hN,many,aU) ?_
   (try dsimp only);refine⟨by omega,uc,bo,hm,pre,?_,hlen⟩;rw [iG,abr b0 ah (by simpa using av)]
  obtain⟨c,vb⟩:=Option.isSome_iff_exists.1 (by simpa using av:(oF T cost hN s).isSome=true)
  obtain⟨zF,ya⟩:=X6 (L:=cz T cost 0 0 l.l) (by rw [iG,Rl b0 ah vb]) hlen
  have fa:=aZ many aU zF bo
  rw [ya]at fa
  simp only [vb,Option.getD_some]
  refine aj ?_
  refine iq (own:=[U aK (gq c) 135,U ax (gq s) 135,U kD [az l] 61,U pT (dd T) 173,U nQ [aa cost] 3,K]) (hM:=aU) .no rfl rfl fa rfl ?_
  rintro jP bh aC
  refine cx ?_
  refine bD ?_ ?_<;>intro aV
  ·obtain⟨h,_⟩|⟨_,aC⟩:=aC
   ·rw [h]at aV;cases aV
   exact⟨U kD [az l] 61::U pT (dd T) 173::U nQ [aa cost] 3::K::bh,⟨bh,rfl,.inr ⟨many,zF,aC⟩⟩,_,aA⟩
  obtain⟨_,aC⟩|⟨h,_⟩:=aC
  rotate_left
  ·rw [h]at aV;cases aV
  refine aj ?_
  refine cE (i+1,c.2.2,many+1,bh) ?_
  (try dsimp only);refine⟨by omega,(abt c9 vb uc).1,aC,by omega,pre++[c],?_,by simp [hlen]⟩;rw [iG,Rl b0 ah vb,List.append_assoc];rfl
 exact⟨U kD [az l] 61::U pT (dd T) 173::U nQ [aa cost] 3::K::aU,⟨aU,rfl,.inl (by rw [List.length_map,iG,List.drop_of_length_le ah,cz,List.append_nil,hlen];exact bo)⟩,_,aA⟩
theorem F1{T:Nat→Int}{cost:Int}:∀(l:List dt) (from_:Int) (many:Nat),many≤8→(cz T cost from_ many l).length≤8-many
  |[],_,_,_=>by simp [cz]
  |s::l,from_,many,h=>by
    rw [cz]
    split
    · simp
    · cases a7:oF T cost from_ s with
      |none=>exact F1 l from_ many h
      |some c=>have:=F1 (T:=T) (cost:=cost) l c.2.2 (many+1) (by omega);simp only [List.length_cons];omega
theorem W8(T:Nat→Int)(cost:Int)(l:an dt):a6 B 216 [M3 T,aa cost,az l] [] (fun v S=>∃kD pT nQ,v= .func (.func 265) #[] #[ag kD,ag pT,ag nQ]∧S=[U kD [az l] 61,U pT (dd T) 173,U nQ [aa cost] 3]):=by
 refine bM 8 Tryz.func216 fun ba bf=>?_
 refine eD fun ax=>?_
 refine eD fun aK=>?_
 refine fX fun bq=>?_
 exact aO ⟨bq,ax,aK,rfl,rfl⟩
theorem Ly(id now:Int)(T:Nat→Int)(cost:Int)(l:an dt)(aE:dI K l.bu (l.l.flatMap gq))(c9:∀j,j<8→0≤T (3+j))(yb: -9223372036854775808≤now+T 1)(mn:now+T 1≤9223372036854775807)(a7:(min (max cost 1) (T 2))≤9223372036854775807):a6 B 145 [aa id,M3 T,aa now,aa cost,az l] [K] (fun v S=>∃x:an dt,(x.l=cz T (min (max cost 1) (T 2)) 0 0 l.l∧x.Own)∧v= .agg #[aa id,aa now,aa (now+T 1),aa (min (max cost 1) (T 2)),ak,az x]∧S=[eO x 135 3 gq]++[K]):=by
 refine BU 38 Tryz.func145 fun ba bf=>?_
 refine cC ?_
 refine dz ?_
 refine Ei fun ax=>?_
 refine ve ad fun aK=>?_
 refine e8 ?_
 refine cC ?_
 refine dz ?_
 refine ap (cj rfl) ?_
 refine ap (cj rfl) ?_
 refine ap (cj rfl) ?_
 refine ap (ia ad) ?_
 refine ap (da ad) ?_
 refine ap (mE rfl rfl ah ah) ?_
 refine ap (cj rfl) ?_
 refine ap (AL rfl rfl) ?_
 refine ap (ia ad) ?_
 refine ap (da ad) ?_
 refine ap (Ds rfl rfl) ?_
 refine ap (yL [_,_,_,_,_,_] rfl ad (by rfl)) ?_
 refine ve ad fun bq=>?_
 refine fq (kG rfl rfl rfl au ad rfl rfl) ?_
 refine e8 ?_
 refine cC ?_
 refine cC ?_
 refine dz ?_
 refine ap (ed rfl au ad rfl (by rfl)) ?_
 refine ap (ia ad) ?_
 refine ap (da ad) ?_
 refine ap (cj rfl) ?_
 refine E7 (W8 T (min (max cost 1) (T 2)) l) ?_
 rintro _ _ ⟨kD,pT,nQ,rfl,rfl⟩
 simp only [List.cons_append,List.nil_append]
 refine e8 ?_
 refine mA ?_
 refine OE 135 3 ?_
 refine kS (own:=[U kD [az l] 61,U pT (dd T) 173,U nQ [aa (min (max cost 1) (T 2))] 3,K]) (aU:=[U bq [aa id,aa now,aa (now+T 1),aa (min (max cost 1) (T 2)),ak,bw] 253,row (bw) 135 3 0 []]) rfl fF (afY kD pT nQ T _ l aE c9 a7) (fun i S=>∃a:an dt,a.l=(cz T (min (max cost 1) (T 2)) 0 0 l.l).take i∧a.Own∧S=[U bq [aa id,aa now,aa (now+T 1),aa (min (max cost 1) (T 2)),ak,az a] 253,eO a 135 3 gq]) (fun c i S=>False) (show Take ([U kD [az l] 61,U pT (dd T) 173,U nQ [aa (min (max cost 1) (T 2))] 3,K,U bq [aa id,aa now,aa (now+T 1),aa (min (max cost 1) (T 2)),ak,bw] 253,row (bw) 135 3 0 []]) _ _ from aA) (⟨an.bt,rfl,an.fk,rfl⟩) rfl (fun x al=>by obtain⟨y,_,rfl⟩:=List.mem_map.1 al;rfl) ?_ ?_ ?_
 ·intro cr rec j3 i bh af bo
  obtain⟨a,a5,jW,rfl⟩:=bo
  rw [List.length_map]at af
  obtain⟨c,b0⟩:∃c,(cz T (min (max cost 1) (T 2)) 0 0 l.l)[i]?=some c:=⟨_,List.getElem?_eq_getElem af⟩
  have gk:=F1 (T:=T) (cost:=(min (max cost 1) (T 2))) l.l 0 0 b2
  have fT:a.l.length=i:=by rw [a5,List.length_take];omega
  rw [show((cz T (min (max cost 1) (T 2)) 0 0 l.l).map fun s=>[xT s]).getD i []=[xT c]from by simp [List.getD,b0]]
  refine dz ?_
  refine ve ad fun bV=>?_
  refine fq (kG rfl rfl rfl au ad rfl rfl) ?_
  refine uF ?_
  refine⟨rfl,_,_,.cons au (Take.self _),fun hz=>?_⟩
  refine mA ?_
  refine dz ?_
  refine ap (ia ad) ?_
  refine ap (da ad) ?_
  refine ap (ed rfl au ad rfl (by rfl)) ?_
  refine im (aF:=gq c) .no rfl ad b2 b2 (by rfl) (by rfl) rfl rfl (fun dp=>?_)
  refine IX (K:=U dp (gq c) 135) (news:=gq c) .no rfl rfl ad au au (ir) (by rfl) (by simp [Value.oneCell']) (by unfold maxLen;omega) ah rfl (fun v2 pH=>?_)
  rw [OI]
  refine Ji (fun w h=>Gd (l:=a.l++[c]) (a2:=gq) h au (by simp)) ?_
  rintro⟨cI,fH,adN,rfl⟩
  rw [show a.l.length+1=cI.l.length from by rw [fH];simp, ←fH]
  refine ap (ia ad) ?_
  refine fq (jr rfl rfl rfl au ad kC) ?_
  refine uF ?_
  refine tm ?_
  exact⟨[U bq [aa id,aa now,aa (now+T 1),aa (min (max cost 1) (T 2)),ak,az cI] 253,eO cI 135 3 gq],_,aA,⟨cI,by rw [fH,a5,List.take_add_one,b0];rfl,adN,rfl⟩⟩
 ·intro cG bh bo
  obtain⟨a,a5,jW,rfl⟩:=bo
  rw [List.length_map,List.take_length]at a5
  simp only [List.cons_append,List.nil_append]
  refine tm ?_
  refine fj ?_
  refine cC ?_
  refine dz ?_
  refine ap (ed rfl au ad rfl (by rfl)) ?_
  refine fq (kG rfl rfl rfl au ad rfl rfl) ?_
  refine e8 ?_
  refine nv ?_
  refine dA (show Take [dl cG] _ _ from aA) (Al rfl rfl au ad (by rfl)) ?_
  exact⟨[eO a 135 3 gq,K],⟨a,⟨a5,jW⟩,rfl,rfl⟩,_,aA⟩
 ·intro cG c i bh af h
  exact h.elim
def tA(d:Int)(c:dt):Bool:=decide (c.2.1≤d)&&decide (d<c.2.2)
def pk(d:Int)(c:dt):Bool:=decide (c.2.1<d)&&decide (d<c.2.2)
def y5:Option dt→Int
  |some c=>c.1
  |none=> -1
theorem Rm{l:List dt}{p:dt→Bool}{i:Nat}{s:dt}(h:l[i]?=some s)(aL:(l.take i).find? p=none)(aC:p s=true):l.find? p=some s:=by
  have af:=(List.getElem?_eq_some_iff.1 h).1
  have e:l=l.take i++s::l.drop (i+1):=by
    rw [←show l[i]=s from by rw [List.getElem?_eq_getElem af]at h;exact Option.some.inj h, ←List.drop_eq_getElem_cons af,List.take_append_drop]
  rw [e,List.find?_append,aL,List.find?_cons,aC];rfl
theorem GN{l:List dt}{p:dt→Bool}{i:Nat}{s:dt}(h:l[i]?=some s)(aL:(l.take i).find? p=none)(aC:p s=false):(l.take (i+1)).find? p=none:=by
  rw [List.take_add_one,h,List.find?_append,aL];simp [aC]
theorem Rn{l:List dt}{p:dt→Bool}{i:Nat}(af:l.length≤i)(aL:(l.take i).find? p=none):l.find? p=none:=by
  rwa [List.take_of_length_le af]at aL
abbrev DT(id now hO cost done:Int)(a:an dt):Value:= .agg #[aa id,aa now,aa hO,aa cost,aa done,az a]
theorem abu(id now hO cost done:Int)(a:an dt)(a5:dI K a.bu (a.l.flatMap gq)):a6 B 257 [DT id now hO cost done a] [K] (fun v S=>v=aa (y5 (a.l.find? (tA done)))∧S=[K]):=by
 refine bM 27 Tryz.func257 fun ba bf=>?_
 refine fX fun ax=>?_
 refine ds (α:=Nat) (fun i=>i≤a.l.length∧(a.l.take i).find? (tA done)=none) (fun i=>[(8,aa (i:Int)),(1,ag ax),(6,az a),(7,aa (a.l.length:Int))]) (fun i=>[U ax [aa id,aa now,aa hO,aa cost,aa done,az a] 253,K]) (fun i=>a.l.length-i) 0 ?_ dq aA ?_
 ·exact⟨Nat.zero_le _,rfl⟩
 rintro i ⟨af,bF⟩
 have l3:=a.small
 refine bT ?_ ?_<;>intro ab
 ·obtain⟨x,al⟩:=fp a.l i
  refine aj ?_
  refine ap (jV (a2:=gq) (aN:=3) (i:=i) (fun _=>rfl) rfl au a5 ad al) ?_
  refine de fun aK=>?_
  refine cc ?_ ?_<;>intro ae
  ·refine bD ?_ ?_<;>intro av
   ·exact aO ⟨by rw [Rm al bF (by simp [tA];omega)];rfl,rfl⟩
   exact cE (i+1) ⟨by omega,GN al bF (by simp [tA,ae];omega)⟩
  exact cE (i+1) ⟨by omega,GN al bF (by simp [tA];omega)⟩
 exact aO ⟨by rw [Rn ah bF];rfl,rfl⟩
theorem abv(id now hO cost done:Int)(a:an dt)(a5:dI K a.bu (a.l.flatMap gq)):a6 B 256 [DT id now hO cost done a] [K] (fun v S=>v=aa (y5 (a.l.find? (pk done)))∧S=[K]):=by
 refine bM 27 Tryz.func256 fun ba bf=>?_
 refine fX fun ax=>?_
 refine ds (α:=Nat) (fun i=>i≤a.l.length∧(a.l.take i).find? (pk done)=none) (fun i=>[(8,aa (i:Int)),(1,ag ax),(6,az a),(7,aa (a.l.length:Int))]) (fun i=>[U ax [aa id,aa now,aa hO,aa cost,aa done,az a] 253,K]) (fun i=>a.l.length-i) 0 ?_ dq aA ?_
 ·exact⟨Nat.zero_le _,rfl⟩
 rintro i ⟨af,bF⟩
 have l3:=a.small
 refine bT ?_ ?_<;>intro ab
 ·obtain⟨x,al⟩:=fp a.l i
  refine aj ?_
  refine ap (jV (a2:=gq) (aN:=3) (i:=i) (fun _=>rfl) rfl au a5 ad al) ?_
  refine de fun aK=>?_
  refine cc ?_ ?_<;>intro ae
  ·refine bD ?_ ?_<;>intro av
   ·exact aO ⟨by rw [Rm al bF (by simp [pk];omega)];rfl,rfl⟩
   exact cE (i+1) ⟨by omega,GN al bF (by simp [pk,ae];omega)⟩
  exact cE (i+1) ⟨by omega,GN al bF (by simp [pk];omega)⟩
 exact aO ⟨by rw [Rn ah bF];rfl,rfl⟩
theorem Sn(id now hO cost done:Int)(a:an dt):a6 B 217 [DT id now hO cost done a] [] (fun v S=>v= .bool (decide (done≥cost))∧S=[]):=by
 refine bM 8 Tryz.func217 fun ba bf=>?_
 refine fX fun ax=>?_
 exact bJ
theorem adO(id now hO cost done:Int)(a:an dt)(t:Int):a6 B 259 [DT id now hO cost done a,aa t] [] (fun v S=>v= .bool (decide (t>hO))∧S=[]):=by
 refine bM 9 Tryz.func259 fun ba bf=>?_
 refine fX fun ax=>?_
 exact bJ
def pL(T:Nat→Int)(cost:Int):Int→List dt→Prop
  |_,[]=>True
  |ec,c::l=>ec≤c.2.1∧c.2.1<c.2.2∧c.2.2≤cost∧(∃j:Nat,c.1=(j:Int)∧j<8∧c.2.2-c.2.1≤T (3+j))∧pL T cost c.2.2 l
theorem abw{T:Nat→Int}{cost from_:Int}{s c:dt}(c9:∀j,j<8→0≤T (3+j))(h:oF T cost from_ s=some c):from_≤c.2.1∧c.2.1<c.2.2∧c.2.2≤cost∧(∃j:Nat,c.1=(j:Int)∧j<8∧c.2.2-c.2.1≤T (3+j)):=by
 unfold oF at h
 split at h
 ·cases h
 rename_i aP
 obtain⟨j,aI⟩:=Int.eq_ofNat_of_zero_le (a:=s.1) ah
 have gk:j<8:=by omega
 have:=c9 j gk
 rw [aI,Int.toNat_natCast]at h aP
 simp only [Option.some.injEq]at h
 rcases Int.lt_or_le (T (3+j)) (min s.2.2 cost-s.2.1)with bl|bl
 ·rw [if_pos bl]at h;subst h
  refine⟨?_,?_,?_,j,rfl,gk,?_⟩<;>dsimp only<;>omega
 rw [if_neg ah]at h;subst h
 refine⟨?_,?_,?_,j,rfl,gk,?_⟩<;>dsimp only<;>omega
theorem JN{T:Nat→Int}{cost:Int}(c9:∀j,j<8→0≤T (3+j)):∀(l:List dt) (from_:Int) (many:Nat),pL T cost from_ (cz T cost from_ many l)
  |[],_,_=>trivial
  |s::l,from_,many=>by
    rw [cz]
    split
    · trivial
    · cases a7:oF T cost from_ s with
      |none=>exact JN c9 l from_ many
      |some c=>
        obtain⟨ab,ae,av,aV⟩:=abw c9 a7
        exact⟨ab,ae,av,aV,JN c9 l _ _⟩
theorem De{T:Nat→Int}{cost:Int}:∀{l:List dt} {ec:Int},pL T cost ec l→∀c∈l,ec≤c.2.1∧c.2.1<c.2.2∧c.2.2≤cost∧(∃j:Nat,c.1=(j:Int)∧j<8∧c.2.2-c.2.1≤T (3+j))
  |[],_,_,_,h=>by cases h
  |d::l,ec,⟨ab,ae,av,aV,bN⟩,c,a7=>by
    rcases List.mem_cons.1 a7 with rfl|a7
    · exact⟨ab,ae,av,aV⟩
    · obtain⟨a1,a3⟩:=De bN c a7;exact⟨by omega,a3⟩
theorem F2{T:Nat→Int}{cost:Int}:∀{l:List dt} {ec:Int} {c:dt} {d:Int},pL T cost ec l→c∈l→c.2.1≤d→d<c.2.2→l.find? (tA d)=some c
  |[],_,_,_,_,h,_,_=>by cases h
  |e::l,ec,c,d,⟨ab,ae,av,aV,bN⟩,a7,a1,a3=>by
    rcases List.mem_cons.1 a7 with rfl|a7
    · rw [List.find?_cons];simp [tA,a1,a3]
    · have:=(De bN c a7).1
      rw [List.find?_cons,show tA d e=false from by simp [tA];omega]
      exact F2 bN a7 a1 a3
theorem Wv{l:List dt}{d:Int}(h:0≤y5 (l.find? (pk d))):∃c,l.find? (pk d)=some c∧c∈l∧c.2.1<d∧d<c.2.2:=by
  cases bs:l.find? (pk d)with
  |none=>rw [bs]at h;simp [y5]at h
  |some c=>
    have:=List.find?_some bs
    simp [pk]at this
    exact⟨c,rfl,List.mem_of_find?_eq_some bs,this.1,this.2⟩
section
def A9(p:Nat→Bool):Nat→BitVec 32
  |0=>0#32
  |n+1=>if p n then A9 p n|||dL n else A9 p n
def sV(p:Nat→Bool):BitVec 32:=A9 p 32
theorem I7(p:Nat→Bool):∀(n:Nat) (i:Nat),i<32→hasB (A9 p n) i=(decide (i<n)&&p i)
  |0,i,_=>by simp [A9,hasB]
  |n+1,i,af=>by
    rw [A9]
    by_cases e:i=n
    · subst e
      split
      · rename_i h;rw [ow,pW,h];simp;omega
      · rename_i h;rw [I7 p i i af];simp at h;rw [h];simp
    · have ih:=I7 p n i af
      split
      · rw [ow,pW,ih,decide_eq_false (show¬((n:Int)=(i:Int)∧0≤(i:Int)∧(i:Int)<32)by omega),Bool.or_false]
        congr 1;rw [Bool.eq_iff_iff];simp;omega
      · rw [ih];congr 1;rw [Bool.eq_iff_iff];simp;omega
theorem ts(p:Nat→Bool)(i:Nat)(af:i<32):hasB (sV p) i=p i:=by
  rw [sV,I7 p 32 i af,decide_eq_true af,Bool.true_and]
theorem vI{p q:Nat→Bool}(h:∀i,i<32→p i=q i):sV p=sV q:=xn fun i af=>by rw [ts _ _ af,ts _ _ af,h i af]
theorem I8{p:Nat→Bool}{b:Nat}(aR:b<32):sV p|||dL b=sV fun i=>p i||decide (i=b):=xn fun i af=>by
  rw [ow,pW,ts _ _ af,ts _ _ af];congr 1;rw [Bool.eq_iff_iff];simp;omega
theorem IK{p:Nat→Bool}{b:Nat}(aR:b<32):sV p&&&~~~(dL b)=sV fun i=>p i&&!decide (i=b):=xn fun i af=>by
  rw [qU,pW,ts _ _ af,ts _ _ af];congr 2;rw [Bool.eq_iff_iff];simp;omega
theorem Ck{p:Nat→Bool}:sV p=0#32↔∀i,i<32→p i=false:=by
  constructor
  · intro h i af
    have:=ts p i af
    rw [h]at this;rw [←this];simp [hasB]
  · intro h
    exact xn fun i af=>by rw [ts _ _ af,h i af];simp [hasB]
def atR(r:Nat→Int)(l:Nat):BitVec 32:=sV fun n=>r n==(l:Int)+1
def sM(r:Nat→Int)(l:Nat):Bool:=(List.range 32).any fun n=>r n==(l:Int)+1
def g1(r:Nat→Int):BitVec 32:=sV (sM r)
def lv(r:Nat→Int):BitVec 32:=sV fun n=>r n !=0
def pM(r:Nat→Int):Prop:=∀n,0≤r n∧r n≤32
abbrev Lz(n:Nat)(f:Nat→BitVec 32):List Value:=ra (fun m=>aQ m.toNat) n f
abbrev iD(s:BitVec 32)(a:Nat→BitVec 32)(ho:BitVec 32):List Value:=[aQ s.toNat]++Lz 32 a++[aQ ho.toNat]
abbrev lM(r:Nat→Int):List Value:=iD (g1 r) (atR r) (lv r)
theorem ahJ{s ho:BitVec 32}{a:Nat→BitVec 32}{j:Nat}(h:j<32):(iD s a ho)[1+j*1]?=some (aQ (a j).toNat):=by
  rw [Nat.mul_one];exact yG (vH (n:=1) rfl (yF h))
theorem afZ{s ho v:BitVec 32}{a:Nat→BitVec 32}{j:Nat}(h:j<32):(iD s a ho).set (1+j*1) (aQ v.toNat)=iD s (bz a j v) ho:=by
  rw [Nat.mul_one,Am (by simp [vG];omega),xk (n:=1) rfl];exact congrArg (· ++_) (congrArg (_++ ·) (OH (c:=fun m:BitVec 32=>Value.int .u32 m.toNat) (v:=v)))
theorem Kx{s eZ ho UL:BitVec 32}{a jl:Nat→BitVec 32}(ab:s=eZ)(ae:∀j,j<32→a j=jl j)(av:ho=UL):iD s a ho=iD eZ jl UL:=by
  subst ab av;unfold iD;rw [show Lz 32 a=Lz 32 jl from Jk ae]
theorem uy{r:Nat→Int}{l:Nat}:sM r l=true↔∃n,n<32∧r n=(l:Int)+1:=by
  unfold sM;simp [List.any_eq_true]
theorem JO{r:Nat→Int}{l n:Nat}(h:n<32):hasB (atR r l) n=(r n==(l:Int)+1):=ts _ _ h
theorem O5{r:Nat→Int}{n:Nat}(h:n<32):hasB (lv r) n=(r n !=0):=ts _ _ h
theorem I9{r:Nat→Int}{l:Nat}(h:l<32):hasB (g1 r) l=sM r l:=ts _ _ h
def o1(r:Nat→Int)(n:Int):Int×Bool:=if 0≤n∧n<32∧r n.toNat≠0 then(r n.toNat-1,true)else(0,false)
def sN(r:Nat→Int)(n:Int):Nat→Int:=if 0≤n∧n<32 then bz r n.toNat 0 else r
def u1(n l:Int):Bool:=decide (0≤n∧n<32∧0≤l∧l<32)
def l0(r:Nat→Int)(n l:Int):Nat→Int:=if u1 n l then bz r n.toNat (l+1)else r
theorem X7{r:Nat→Int}{n:Int}(h:pM r):pM (sN r n):=by
  unfold sN;split
  · intro k;by_cases e:k=n.toNat
    · subst e;rw [e4];omega
    · rw [fG _ _ e];exact h k
  · exact h
theorem JP{r:Nat→Int}{n l:Int}(h:pM r):pM (l0 r n l):=by
  unfold l0;split
  · rename_i aC
    simp [u1]at aC
    intro k;by_cases e:k=n.toNat
    · subst e;rw [e4];omega
    · rw [fG _ _ e];exact h k
  · exact h
theorem Ro{r:Nat→Int}{n:Nat}(h:n<32)(b5:r n≠0):o1 r n=(r n-1,true):=by
  unfold o1;rw [if_pos (by rw [Int.toNat_natCast];omega),Int.toNat_natCast]
theorem Zv{r:Nat→Int}{n:Int}(h:¬(0≤n∧n<32)):o1 r n=(0,false):=by unfold o1;rw [if_neg (by omega)]
theorem Zw{r:Nat→Int}{n:Nat}(b5:r n=0):o1 r n=(0,false):=by unfold o1;rw [if_neg (by rw [Int.toNat_natCast];omega)]
theorem O6{r:Nat→Int}{n l:Nat}(aP:n<32)(a4:r n=(l:Int)+1)(j:Nat):atR (bz r n 0) j=bz (atR r) l (atR r l&&&~~~(dL n)) j:=by
 by_cases e:j=l
 ·subst e
  rw [e4,atR,atR,IK aP]
  refine vI fun i af=>?_
  by_cases h:i=n
  ·subst h;rw [e4];simp;omega
  rw [fG _ _ h];simp [h]
 rw [fG _ _ e,atR,atR]
 refine vI fun i af=>?_
 by_cases h:i=n
 ·subst h;rw [e4,a4,Bool.eq_iff_iff];simp;omega
 rw [fG _ _ h]
theorem W9{r:Nat→Int}{n:Nat}(aP:n<32):lv (bz r n 0)=lv r&&&~~~(dL n):=by
 rw [lv,lv,IK aP]
 refine vI fun i af=>?_
 by_cases h:i=n
 ·subst h;rw [e4];simp
 rw [fG _ _ h];simp [h]
theorem NH{r:Nat→Int}{n l:Nat}(aP:n<32)(a4:r n=(l:Int)+1)(j:Nat):sM (bz r n 0) j=if j=l then !(atR r l&&&~~~(dL n)==0#32)else sM r j:=by
 have key:sM (bz r n 0) l=!(atR r l&&&~~~(dL n)==0#32):=by
  have e:=O6 aP a4 l
  rw [e4]at e
  rw [←e,Bool.eq_iff_iff]
  simp only [Bool.not_eq_true',beq_eq_false_iff_ne,ne_eq]
  rw [uy,atR,Ck]
  constructor
  ·rintro⟨k,ab,ae⟩ h
   have:=h k ab
   rw [ae]at this;simp at this
  intro h
  apply Classical.byContradiction
  intro eE
  apply h
  intro i af
  rw [beq_eq_false_iff_ne]
  intro ae;exact eE ⟨i,af,ae⟩
 split
 ·rename_i e;rw [e];exact key
 rename_i e
 rw [Bool.eq_iff_iff,uy,uy]
 constructor
 ·rintro⟨k,ab,ae⟩
  by_cases h:k=n
  ·subst h;rw [e4]at ae;omega
  rw [fG _ _ h]at ae;exact⟨k,ab,ae⟩
 rintro⟨k,ab,ae⟩
 refine⟨k,ab,?_⟩
 by_cases h:k=n
 ·subst h;omega
 rw [fG _ _ h];exact ae
theorem NI{r:Nat→Int}{n l:Nat}(aP:n<32)(aE:l<32)(a4:r n=(l:Int)+1):g1 (bz r n 0)=if atR r l&&&~~~(dL n)=0#32 then g1 r&&&~~~(dL l)else g1 r:=by
 have jK:sM r l=true:=uy.2 ⟨n,aP,a4⟩
 split
 ·rename_i h
  rw [g1,g1,IK aE]
  refine vI fun i af=>?_
  rw [NH aP a4,h]
  by_cases e:i=l
  ·simp [e]
  simp [e]
 rename_i h
 refine vI fun i af=>?_
 rw [NH aP a4]
 by_cases e:i=l
 ·rw [if_pos e,e,jK];simpa using h
 rw [if_neg e]
theorem Zx{r:Nat→Int}{n l:Nat}(aP:n<32)(a4:r n=0)(j:Nat):atR (bz r n ((l:Int)+1)) j=bz (atR r) l (atR r l|||dL n) j:=by
 by_cases e:j=l
 ·subst e
  rw [e4,atR,atR,I8 aP]
  refine vI fun i af=>?_
  by_cases h:i=n
  ·subst h;rw [e4];simp
  rw [fG _ _ h];simp [h]
 rw [fG _ _ e,atR,atR]
 refine vI fun i af=>?_
 by_cases h:i=n
 ·subst h;rw [e4,a4,Bool.eq_iff_iff];simp;omega
 rw [fG _ _ h]
theorem X8{r:Nat→Int}{n:Nat}{l:Int}(aP:n<32)(aE:0≤l):lv (bz r n (l+1))=lv r|||dL n:=by
 rw [lv,lv,I8 aP]
 refine vI fun i af=>?_
 by_cases h:i=n
 ·subst h;rw [e4];simp;omega
 rw [fG _ _ h];simp [h]
theorem Xa{r:Nat→Int}{n l:Nat}(aP:n<32)(aE:l<32)(a4:r n=0):g1 (bz r n ((l:Int)+1))=g1 r|||dL l:=by
 rw [g1,g1,I8 aE]
 refine vI fun j aI=>?_
 rw [Bool.eq_iff_iff]
 simp only [Bool.or_eq_true,decide_eq_true_eq]
 rw [uy,uy]
 constructor
 ·rintro⟨k,ab,ae⟩
  by_cases h:k=n
  ·subst h;rw [e4]at ae;exact .inr ah
  rw [fG _ _ h]at ae;exact .inl ⟨k,ab,ae⟩
 rintro(⟨k,ab,ae⟩|h)
 ·refine⟨k,ab,?_⟩
  by_cases h:k=n
  ·subst h;omega
  rw [fG _ _ h];exact ae
 exact⟨n,aP,by rw [e4,h]⟩
theorem abx{r:Nat→Int}{n:Int}(a4:pM r)(h:hasB (lv r) n=false):o1 r n=(0,false):=by
  by_cases aP:0≤n∧n<32
  · obtain⟨k,rfl⟩:=Int.eq_ofNat_of_zero_le aP.1
    rw [O5 (by omega)]at h
    exact Zw (by simpa using h)
  · exact Zv aP
theorem Xb{r:Nat→Int}{k:Nat}(a4:pM r)(ai:k<32)(b5:r k≠0)(h:∀j l:Nat,j<(bb (g1 r)).length→(bb (g1 r))[j]?=some (l:Int)→r k≠(l:Int)+1):False:=by
  have ab:=a4 k
  obtain⟨l,aE⟩:=Int.eq_ofNat_of_zero_le (a:=r k-1) (by omega)
  have hm:(l:Int)∈bb (g1 r):=iV.2 ⟨by omega,by omega,by rw [I9 (by omega)];exact uy.2 ⟨k,ai,by omega⟩⟩
  obtain⟨j,aI,e⟩:=List.getElem_of_mem hm
  exact h j l aI (by rw [List.getElem?_eq_getElem aI,e]) (by omega)
theorem Zy{r:Nat→Int}{n:Int}(a4:pM r)(h:(o1 r n).2=true):∃k l:Nat,n=(k:Int)∧k<32∧l<32∧r k=(l:Int)+1∧(o1 r n).1=(l:Int):=by
  unfold o1 at h⊢
  split at h
  · rename_i a7
    obtain⟨k,rfl⟩:=Int.eq_ofNat_of_zero_le a7.1
    rw [Int.toNat_natCast]at a7
    have:=a4 k
    obtain⟨l,aE⟩:=Int.eq_ofNat_of_zero_le (a:=r k-1) (by omega)
    exact⟨k,l,rfl,by omega,by omega,by omega,by rw [if_pos (by rw [Int.toNat_natCast];exact a7),Int.toNat_natCast];omega⟩
  · cases h
theorem aby{r:Nat→Int}{k:Nat}{v:Int}(h:r k=v):bz r k v=r:=by
  funext j;by_cases e:j=k
  · subst e;rw [e4,h]
  · rw [fG _ _ e]
theorem P1{r:Nat→Int}{k:Nat}{v w:Int}:bz (bz r k v) k w=bz r k w:=by
  funext j;by_cases e:j=k
  · subst e;rw [e4,e4]
  · rw [fG _ _ e,fG _ _ e,fG _ _ e]
theorem Zz{r:Nat→Int}{n:Int}(h:(o1 r n).2=false):sN r n=r:=by
 unfold sN
 split
 ·rename_i aP
  obtain⟨k,rfl⟩:=Int.eq_ofNat_of_zero_le aP.1
  rw [Int.toNat_natCast]
  refine aby ?_
  apply Classical.byContradiction
  intro b5
  rw [Ro ah b5]at h;cases h
 rfl
theorem JQ{r:Nat→Int}{k:Nat}(h:k<32):sN r k=bz r k 0:=by unfold sN;rw [if_pos (by omega),Int.toNat_natCast]
theorem xy{r:Nat→Int}{n l:Int}(h:¬(0≤n∧n<32∧0≤l∧l<32)):u1 n l=false∧l0 r n l=r:=by
  have:u1 n l=false:=by simp [u1];omega
  exact⟨this,by unfold l0;rw [this];rfl⟩
theorem Rp{r:Nat→Int}{k j:Nat}(ai:k<32)(aI:j<32):u1 k j=true∧l0 r k j=bz r k ((j:Int)+1):=by
  have:u1 k j=true:=by simp [u1];omega
  exact⟨this,by unfold l0;rw [this,Int.toNat_natCast];rfl⟩
theorem ZA{r:Nat→Int}{k l:Nat}(ai:k<32)(aE:l<32)(a4:r k=(l:Int)+1):lM (sN r k)=iD (g1 (bz r k 0)) (bz (atR r) l (atR r l&&&~~~(dL k))) (lv r&&&~~~(dL k)):=by
  rw [JQ ai];exact Kx rfl (fun j _=>O6 ai a4 j) (W9 ai)
theorem abz{r:Nat→Int}{k j:Nat}(ai:k<32)(aI:j<32):lM (l0 r k j)=iD (g1 (bz r k 0)|||dL j) (bz (atR (bz r k 0)) j (atR (bz r k 0) j|||dL k)) (lv (bz r k 0)|||dL k):=by
  rw [(Rp ai aI).2, ←P1 (v:=0)]
  exact Kx (Xa ai aI (e4 _ _ _)) (fun i _=>Zx ai (e4 _ _ _) i) (X8 ai (by omega))
theorem ZB:lM (fun _=>0)=iD 0#32 (fun _=>0#32) 0#32:=
  Kx (Ck.2 fun i _=>by cases h:sM (fun _=>0) i with
    |false=>rfl
    |true=>obtain⟨n,_,ae⟩:=uy.1 h;have av:(0:Int)=(i:Int)+1:=ae;omega) (fun j _=>Ck.2 fun i _=>by rw [beq_eq_false_iff_ne];show(0:Int)≠(j:Int)+1;omega) (Ck.2 fun i _=>by simp)
def sO(r:Nat→Int)(l n:Nat):List (Int×Int):=((List.range n).filter fun k=>r k==(l:Int)+1).map fun(k:Nat)=>((k:Int),(l:Int))
def xF(r:Nat→Int)(m:Nat):List (Int×Int):=(List.range m).flatMap fun l=>sO r l 32
abbrev goes(r:Nat→Int):List (Int×Int):=xF r 32
theorem ZC(r:Nat→Int)(l n:Nat):sO r l (n+1)=sO r l n++(if r n=(l:Int)+1 then [((n:Int),(l:Int))]else []):=by
  unfold sO;rw [List.range_succ,List.filter_append,List.map_append]
  by_cases h:r n=(l:Int)+1
  · rw [if_pos h];simp [h]
  · rw [if_neg h];simp [h]
theorem ZD(r:Nat→Int)(m:Nat):xF r (m+1)=xF r m++sO r m 32:=by
  unfold xF;rw [List.range_succ,List.flatMap_append];simp
theorem FR{r:Nat→Int}{l n:Nat}{p:Int×Int}:p∈sO r l n↔∃k:Nat,k<n∧r k=(l:Int)+1∧p=((k:Int),(l:Int)):=by
  unfold sO;simp only [List.mem_map,List.mem_filter,List.mem_range,beq_iff_eq]
  constructor
  · rintro⟨k,⟨ab,ae⟩,rfl⟩;exact⟨k,ab,ae,rfl⟩
  · rintro⟨k,ab,ae,rfl⟩;exact⟨k,⟨ab,ae⟩,rfl⟩
theorem Jp{r:Nat→Int}(a4:pM r){p:Int×Int}:p∈goes r↔∃k:Nat,k<32∧r k≠0∧p=((k:Int),r k-1):=by
  unfold goes xF
  simp only [List.mem_flatMap,List.mem_range,FR]
  constructor
  · rintro⟨l,ab,k,ae,av,rfl⟩;exact⟨k,ae,by omega,by rw [av];simp⟩
  · rintro⟨k,ab,ae,rfl⟩
    have:=a4 k
    obtain⟨l,aE⟩:=Int.eq_ofNat_of_zero_le (a:=r k-1) (by omega)
    exact⟨l,by omega,k,ab,by omega,by rw [aE]⟩
theorem V1{α β:Type}{l:List α}{p:α→Bool}{g:α→List β}(h:∀x∈l,p x=false→g x=[]):(l.filter p).flatMap g=l.flatMap g:=by
  induction l with
  |nil=>rfl
  |cons x l ih=>
    rw [List.flatMap_cons,List.filter_cons]
    have ih:=ih fun y aZ=>h y (List.mem_cons_of_mem _ aZ)
    cases aC:p x with
    |true=>simp [ih]
    |false=>rw [h x (List.mem_cons_self ..) aC];simpa using ih
abbrev rowOf(r:Nat→Int)(l:Int):List (Int×Int):=(bb (atR r l.toNat)).map fun n=>(n,l)
theorem Wg(r:Nat→Int)(l:Nat):rowOf r l=sO r l 32:=by
  unfold rowOf bb lV sO
  rw [List.map_map,Int.toNat_natCast]
  rw [List.filter_congr (p:=fun(i:Nat)=>hasB (atR r l) (i:Int)) (q:=fun k=>r k==(l:Int)+1) (fun k ai=>JO (List.mem_range.1 ai))]
  rfl
theorem N6(r:Nat→Int):(bb (g1 r)).flatMap (rowOf r)=goes r:=by
 unfold goes xF
 have e:bb (g1 r)=((List.range 32).filter fun l=>sM r l).map fun(l:Nat)=>(l:Int):=by
  unfold bb lV
  rw [List.filter_congr (q:=fun l=>sM r l) (fun k ai=>I9 (List.mem_range.1 ai))]
 rw [e,List.flatMap_map]
 rw [show(fun(l:Nat)=>rowOf r (l:Int))=fun l=>sO r l 32 from funext fun l=>Wg r l]
 refine V1 fun l _ bs=>?_
 unfold sO
 rw [List.filter_eq_nil_iff.2 fun k ai=>?_]
 ·rfl
 intro h
 have:sM r l=true:=uy.2 ⟨k,List.mem_range.1 ai,by simpa using h⟩
 rw [bs]at this;cases this
def iX(r:Nat→Int):Int×Bool:=match goes r with
  |[]=>(0,false)
  |p::_=>(p.1,true)
theorem Xc{r:Nat→Int}(h:g1 r=0#32):goes r=[]:=by rw [←N6,h,I5];rfl
theorem So{r:Nat→Int}{l:Nat}(aE:l<32)(h:hasB (g1 r) l=true):atR r l≠0#32:=by
  rw [I9 aE]at h
  obtain⟨n,ab,ae⟩:=uy.1 h
  intro b5
  have:=Ck.1 b5 n ab
  rw [ae]at this;simp at this
theorem Xd{r:Nat→Int}(h:g1 r≠0#32):∃t,goes r=((hR (atR r (hR (g1 r))):Int),(hR (g1 r):Int))::t:=by
  have ab:=So (vD h).1 (vD h).2.1
  rw [←N6,I4 h,List.flatMap_cons]
  unfold rowOf
  rw [Int.toNat_natCast,I4 ab]
  exact⟨_,rfl⟩
section
variable{gY hD:List Value}{s ho:BitVec 32}{a:Nat→BitVec 32}
theorem vR(s ho:BitVec 32)(a:Nat→BitVec 32):(iD s a ho).length=34:=by simp [vG]
theorem Gk(eM:gY.length=97):(gY++(iD s a ho++hD))[97]?=some (aQ s.toNat):=by
  have:=vH (k:=0) eM (yG (cP:=hD) (show(iD s a ho)[0]?=some (aQ s.toNat)from rfl));simpa using this
theorem Dw(eM:gY.length=97){j:Nat}(h:j<32):(gY++(iD s a ho++hD))[98+j*1]?=some (aQ (a j).toNat):=by
  have:=vH eM (yG (cP:=hD) (ahJ (s:=s) (ho:=ho) (a:=a) h))
  rwa [show 97+(1+j*1)=98+j*1 by omega]at this
theorem adP:(iD s a ho)[33]?=some (aQ ho.toNat):=by
  unfold iD;exact vH (n:=33) (k:=0) (by simp [vG]) rfl
theorem Ky(eM:gY.length=97):(gY++(iD s a ho++hD))[130]?=some (aQ ho.toNat):=
  vH (k:=33) eM (yG adP)
theorem Qk(eM:gY.length=97)(v:BitVec 32):(gY++(iD s a ho++hD)).set 97 (aQ v.toNat)=gY++(iD v a ho++hD):=by
  have:=xk (k:=0) (v:=aQ v.toNat) (cP:=iD s a ho++hD) eM
  rw [Nat.add_zero]at this;rw [this];rfl
theorem Ql(eM:gY.length=97){j:Nat}(h:j<32)(v:BitVec 32):(gY++(iD s a ho++hD)).set (98+j*1) (aQ v.toNat)=gY++(iD s (bz a j v) ho++hD):=by
  have:=xk (k:=1+j*1) (v:=aQ v.toNat) (cP:=iD s a ho++hD) eM
  rw [show 97+(1+j*1)=98+j*1 by omega]at this
  rw [this,Am (by rw [vR];omega),afZ h]
theorem Qm(eM:gY.length=97)(v:BitVec 32):(gY++(iD s a ho++hD)).set 130 (aQ v.toNat)=gY++(iD s a v++hD):=by
  have:=xk (k:=33) (v:=aQ v.toNat) (cP:=iD s a ho++hD) eM
  rw [show 97+33=130 from rfl]at this
  rw [this,Am (by rw [vR];omega)]
  congr 2
theorem AU(eM:gY.length=97){k:Nat}(h:k<131):Nat.blt k (gY++(iD s a ho++hD)).length=true:=by
  rw [List.length_append,List.length_append,vR,eM];simp;omega
end
theorem abA(q dv:Nat)(gY hD:List Value)(eM:gY.length=97)(r:Nat→Int)(a4:pM r)(n:Int)(bO:hd K):a6 B 283 [.pointer (some ⟨q,97,none⟩),aa n] [U q (gY++(lM r++hD)) dv,K] (fun v S=>v= .tuple #[aa (o1 r n).1,.bool (o1 r n).2]∧S=[U q (gY++(lM r++hD)) dv,K]):=by
 refine bM 29 Tryz.func283 fun ba bf=>?_
 refine eD fun ax=>?_
 refine eD fun aK=>?_
 refine fe fun bq=>?_
 refine de fun bV=>?_
 refine cZ _ ad (Take.self _) ?_
 refine aY [0,1,2] ?_
 refine bj 3 rfl (ft rfl au ad (Ky eM)) ?_
 refine aY [4,105] ?_
 refine gU (tO (lv r) n) ?_
 refine df [6,99] ?_
 refine c2 ?_ ?_<;>intro ab
 ·refine aj ?_
  refine dA (.nil _) (AB rfl rfl rfl au au ad ad) ?_
  exact aO ⟨by rw [show o1 r n=(0,false)from abx a4 ab],rfl⟩
 have af0:0≤n∧n<32:=by
  apply Classical.byContradiction;intro fv;rw [Cx _ _ fv]at ab;cases ab
 obtain⟨k,rfl⟩:=Int.eq_ofNat_of_zero_le af0.1
 have ai:k<32:=by omega
 have HX:=a4 k
 have Eo:r k≠0:=by rw [O5 ai]at ab;simpa using ab
 refine ic ?_
 refine fj ?_
 refine cC ?_
 refine cC ?_
 refine dz ?_
 refine ap (da ad) ?_
 refine ap (ou rfl) ?_
 refine ap (ia ad) ?_
 refine ap (ft rfl au ad (Gk eM)) ?_
 refine cm (re (g1 r)) ?_
 rintro _ _ ⟨kD,rfl,rfl⟩
 refine cx ?_
 refine kS (own:=[U kD [aQ (g1 r).toNat] 158,K]) (aU:=[U ax [.pointer (some ⟨q,97,none⟩)] 423,U aK [aa (k:Int)] 3,U bq [ak] 3,U bV [.bool false] 4,U q (gY++(lM r++hD)) dv]) rfl fF (q1 kD (g1 r) bO) (fun i S=>(∀j l:Nat,j<i→(bb (g1 r))[j]?=some (l:Int)→r k≠(l:Int)+1)∧S=[U ax [.pointer (some ⟨q,97,none⟩)] 423,U aK [aa (k:Int)] 3,U bq [ak] 3,U bV [.bool false] 4,U q (gY++(lM r++hD)) dv]) (fun c i S=>c= .ret∧S=[U ax [.pointer (some ⟨q,97,none⟩)] 423,U aK [aa (k:Int)] 3,U bq [aa (r k-1)] 3,U bV [.bool true] 4,U q (gY++(lM r++hD)) dv]) (show Take ([U kD [aQ (g1 r).toNat] 158,K,U ax [.pointer (some ⟨q,97,none⟩)] 423,U aK [aa (k:Int)] 3,U bq [ak] 3,U bV [.bool false] 4,U q (gY++(lM r++hD)) dv]) _ _ from aA) (⟨fun j l h=>by omega,rfl⟩) rfl (fun x al=>by obtain⟨y,_,rfl⟩:=List.mem_map.1 al;rfl) ?_ ?_ ?_
 ·intro cr rec j3 i bh af bo
  obtain⟨bF,rfl⟩:=bo
  rw [List.length_map]at af
  obtain⟨m,b0⟩:∃m,(bb (g1 r))[i]?=some m:=⟨_,List.getElem?_eq_getElem af⟩
  have hm:=iV.1 (List.mem_of_getElem? b0)
  obtain⟨l,aE⟩:=Int.eq_ofNat_of_zero_le hm.1
  rw [lp b0]
  refine aj ?_
  refine⟨rfl,_,_,.cons au (Take.self _),fun hz=>?_⟩
  refine aj ?_
  refine cZ _ ad (Take.self _) ?_
  refine aY [0,1,2,3] ?_
  refine bG 4 rfl (ns rfl rfl ad aE ah rfl) ?_
  refine bj 5 rfl (ft rfl au ad (Dw eM ah)) ?_
  refine aY [6,107] ?_
  refine gU (tO (atR r l) k) ?_
  refine df [99] ?_
  refine bD ?_ ?_<;>intro ae
  ·exact⟨[U ax [.pointer (some ⟨q,97,none⟩)] 423,U aK [aa (k:Int)] 3,U bq [aa m] 3,U bV [.bool true] 4,U q (gY++(lM r++hD)) dv],_,aA,⟨rfl,by rw [JO ai]at ae;simp at ae;rw [show m=r k-1 by omega]⟩⟩
  exact⟨[U ax [.pointer (some ⟨q,97,none⟩)] 423,U aK [aa (k:Int)] 3,U bq [ak] 3,U bV [.bool false] 4,U q (gY++(lM r++hD)) dv],_,aA,⟨fun j cQ aI bl=>by rcases Nat.lt_succ_iff_lt_or_eq.1 aI with h|rfl;exact bF j cQ h bl;rw [b0]at bl;have:=Option.some.inj bl;rw [JO ai]at ae;simp at ae;omega,rfl⟩⟩
 ·intro cG bh bo
  obtain⟨bF,rfl⟩:=bo
  refine cx ?_
  refine dA (show Take [dl cG] _ _ from aA) (AB rfl rfl rfl au au ad ad) ?_
  exfalso
  exact Xb a4 ai Eo (by rw [List.length_map]at bF;exact bF)
 intro cG c i bh af h
 obtain⟨rfl,rfl⟩:=h
 refine cx ?_
 refine dA (show Take [dl cG] _ _ from aA) (AB rfl rfl rfl au au ad ad) ?_
 exact aO ⟨by rw [Ro ai Eo],rfl⟩
theorem Sp(q dv:Nat)(gY hD:List Value)(eM:gY.length=97)(r:Nat→Int)(a4:pM r)(n:Int)(bO:hd K):a6 B 261 [.pointer (some ⟨q,97,none⟩),aa n] [U q (gY++(lM r++hD)) dv,K] (fun v S=>v= .bool (o1 r n).2∧S=[U q (gY++(lM (sN r n)++hD)) dv,K]):=by
 refine bM 53 Tryz.func261 fun ba bf=>?_
 refine vg (abA q dv gY hD eM r a4 n bO) ?_
 refine cp ?_
 refine bp (aa (o1 r n).1) ?_
 refine bp (.bool (o1 r n).2) ?_
 refine bT ?_ ?_<;>intro ab
 ·exact aO ⟨by rw [ab],by rw [Zz ab]⟩
 obtain⟨k,l,rfl,ai,aE,HX,pN⟩:=Zy a4 ab
 rw [pN]
 refine aj ?_
 refine cZ _ ad (Take.self _) ?_
 refine aY [0,1,2,3,4,5] ?_
 refine bG 6 rfl (ns rfl rfl ad rfl ah rfl) ?_
 refine bj 7 rfl (ft rfl au ad (Dw eM ah)) ?_
 refine aY [8,10,11,109] ?_
 refine gU (FZ (atR r l) k) ?_
 refine bG 12 rfl (ns rfl rfl ad rfl ah rfl) ?_
 refine aY [113] ?_
 refine l4 rfl dy (js (k:=98+l*1) (ga:=gY++(iD (g1 r) (bz (atR r) l (atR r l&&&~~~(dL k))) (lv r)++hD)) rfl rfl rfl au ad (AU eM (by omega)) (Ql eM (by omega) _)) ?_
 refine aY [99] ?_
 refine cp ?_
 refine jT (α:=BitVec 32) (fun BW=>BW=g1 (bz r k 0)) (fun BW=>[(0,.pointer (some ⟨q,97,none⟩)),(1,aa (k:Int))]) (fun BW=>[U q (gY++(iD BW (bz (atR r) l (atR r l&&&~~~(dL k))) (lv r)++hD)) dv,K]) ?_ ?_
 ·skip
  refine l5 ?_
  refine ap (ft rfl au ad ((Dw eM ah).trans (by rw [e4]))) ?_
  refine aj ?_
  refine c2 ?_ ?_<;>intro ae
  ·refine gN ?_
   refine ap (ft rfl au ad (Gk eM)) ?_
   refine aj ?_
   refine gl (FZ (g1 r) l) ?_
   refine fq (js (k:=97) (ga:=gY++(iD (g1 r&&&~~~(dL l)) (bz (atR r) l (atR r l&&&~~~(dL k))) (lv r)++hD)) rfl rfl rfl au ad (AU eM ah) (Qk eM _)) ?_
   refine aj ?_
   refine ez (g1 r&&&~~~(dL l)) ?_
   rw [NI ai aE HX,if_pos (NE ae)]
  refine aj ?_
  refine ez (g1 r) ?_
  rw [NI ai aE HX,if_neg (NF ae)]
 intro BW l3
 refine ky ?_
 refine ap (ft rfl au ad (Ky eM)) ?_
 refine aj ?_
 refine gl (FZ (lv r) k) ?_
 refine fq (js (k:=130) (ga:=gY++(iD BW (bz (atR r) l (atR r l&&&~~~(dL k))) (lv r&&&~~~(dL k))++hD)) rfl rfl rfl au ad (AU eM ah) (Qm eM _)) ?_
 refine aj ?_
 rw [l3, ←ZA ai aE HX]
 exact aO ⟨by rw [ab],rfl⟩
theorem af1(q dv:Nat)(gY hD:List Value)(eM:gY.length=97)(r:Nat→Int)(a4:pM r)(n l:Int)(bO:hd K):a6 B 252 [.pointer (some ⟨q,97,none⟩),aa n,aa l] [U q (gY++(lM r++hD)) dv,K] (fun v S=>v= .bool (u1 n l)∧S=[U q (gY++(lM (l0 r n l)++hD)) dv,K]):=by
 refine bM 55 Tryz.func252 fun ba bf=>?_
 refine cc ?_ ?_<;>intro ab
 ·exact aO ⟨by rw [(xy (r:=r) ah).1],by rw [(xy (r:=r) ah).2]⟩
 refine cc ?_ ?_<;>intro ae
 ·exact aO ⟨by rw [(xy (r:=r) ah).1],by rw [(xy (r:=r) ah).2]⟩
 refine cc ?_ ?_<;>intro av
 ·exact aO ⟨by rw [(xy (r:=r) ah).1],by rw [(xy (r:=r) ah).2]⟩
 refine bD ?_ ?_<;>intro aV
 ·exact aO ⟨by rw [(xy (r:=r) ah).1],by rw [(xy (r:=r) ah).2]⟩
 obtain⟨k,rfl⟩:=Int.eq_ofNat_of_zero_le (a:=n) ah
 obtain⟨j,rfl⟩:=Int.eq_ofNat_of_zero_le (a:=l) ah
 have ai:k<32:=by omega
 have aI:j<32:=by omega
 refine aj ?_
 refine eR (Sp q dv gY hD eM r a4 k bO) ?_
 rw [JQ ai]
 refine aj ?_
 refine cZ _ ad (Take.self _) ?_
 refine aY [0,1,2,3,4,5] ?_
 refine bG 6 rfl (ns rfl rfl ad rfl ah rfl) ?_
 refine bj 7 rfl (ft rfl au ad (Dw eM ah)) ?_
 refine aY [8,10,11,109] ?_
 refine gU (tE (atR (bz r k 0) j) k) ?_
 refine bG 12 rfl (ns rfl rfl ad rfl ah rfl) ?_
 refine aY [113] ?_
 refine l4 rfl dy (js (k:=98+j*1) (ga:=gY++(iD (g1 (bz r k 0)) (bz (atR (bz r k 0)) j (atR (bz r k 0) j|||dL k)) (lv (bz r k 0))++hD)) rfl rfl rfl au ad (AU eM (by omega)) (Ql eM (by omega) _)) ?_
 refine aY [99] ?_
 refine l5 ?_
 refine ap (ft rfl au ad (Gk eM)) ?_
 refine aj ?_
 refine gl (tE (g1 (bz r k 0)) j) ?_
 refine fq (js (k:=97) (ga:=gY++(iD (g1 (bz r k 0)|||dL j) (bz (atR (bz r k 0)) j (atR (bz r k 0) j|||dL k)) (lv (bz r k 0))++hD)) rfl rfl rfl au ad (AU eM ah) (Qk eM _)) ?_
 refine l5 ?_
 refine ap (ft rfl au ad (Ky eM)) ?_
 refine aj ?_
 refine gl (tE (lv (bz r k 0)) k) ?_
 refine fq (js (k:=130) (ga:=gY++(iD (g1 (bz r k 0)|||dL j) (bz (atR (bz r k 0)) j (atR (bz r k 0) j|||dL k)) (lv (bz r k 0)|||dL k)++hD)) rfl rfl rfl au ad (AU eM ah) (Qm eM _)) ?_
 refine aj ?_
 rw [←abz ai aI]
 exact aO ⟨by rw [(Rp (r:=r) ai aI).1],rfl⟩
theorem Rq(q dv:Nat)(gY hD:List Value)(eM:gY.length=97)(r:Nat→Int)(a4:pM r)(bO:hd K):a6 B 255 [.pointer (some ⟨q,97,none⟩)] [U q (gY++(lM r++hD)) dv,K] (fun v S=>v= .tuple #[aa (iX r).1,.bool (iX r).2]∧S=[U q (gY++(lM r++hD)) dv,K]):=by
 refine dN 25 Tryz.func255 fun ba bf=>?_
 refine wi ?_
 refine ap (ft rfl au ad (Gk eM)) ?_
 refine vg (Rh (g1 r) bO) ?_
 refine cp ?_
 refine bp (aa (if g1 r=0#32 then 0 else(hR (g1 r):Int))) ?_
 refine bp (.bool (decide (g1 r≠0#32))) ?_
 refine aj ?_
 refine c2 ?_ ?_<;>intro ab
 ·have aH:g1 r=0#32:=by simpa using ab
  refine aj ?_
  exact aO ⟨by rw [iX,Xc aH],rfl⟩
 have aH:g1 r≠0#32:=by simpa using ab
 obtain⟨oa,qy,Mh⟩:=vD aH
 have mR:=So oa qy
 obtain⟨a0,bl⟩:=Xd aH
 rw [if_neg aH]
 refine ic ?_
 refine fj ?_
 refine cC ?_
 refine dz ?_
 refine ap (cj rfl) ?_
 refine ap (cj rfl) ?_
 refine ap (ou rfl) ?_
 refine ap (ia ad) ?_
 refine ap (p3 rfl rfl ad rfl ah rfl) ?_
 refine ap (ft rfl au ad (Dw eM ah)) ?_
 refine vg (Rh (atR r (hR (g1 r))) bO) ?_
 rw [if_neg mR,decide_eq_true mR]
 refine aj ?_
 exact aO ⟨by rw [iX,bl];rfl,rfl⟩
end
theorem N7{α:Type}{a2:α→List Value}{aN:Nat}(he:∀a,(a2 a).length=aN):∀(l:List α) (i k:Nat) (a b:α) (v:Value),l[i]?=some a→k<aN→(a2 a).set k v=a2 b→(l.flatMap a2).set (i*aN+k) v=(l.set i b).flatMap a2
  |[],_,_,_,_,_,h,_,_=>by simp at h
  |c::l,0,k,a,b,v,h,ai,aH=>by
    simp at h;subst h
    rw [List.flatMap_cons,Nat.zero_mul,Nat.zero_add,List.set_append_left _ _ (by rw [he];exact ai),aH];rfl
  |c::l,i+1,k,a,b,v,h,ai,aH=>by
    rw [List.flatMap_cons,List.set_append_right _ _ (by rw [he,Nat.succ_mul];omega),he,show(i+1)*aN+k-aN=i*aN+k by rw [Nat.succ_mul];omega,N7 he l i k a b v (by simpa using h) ai aH];rfl
theorem N8{α:Type}{a2:α→List Value}{aN:Nat}(he:∀a,(a2 a).length=aN):∀(l:List α) (i:Nat) (a b:α),l[i]?=some a→(l.flatMap a2).take (i*aN)++a2 b++(l.flatMap a2).drop (i*aN+aN)=(l.set i b).flatMap a2
  |[],_,_,_,h=>by simp at h
  |c::l,0,a,b,h=>by
    rw [List.flatMap_cons,Nat.zero_mul,Nat.zero_add,List.take_zero,List.nil_append]
    conv=>lhs;rw [←he c,List.drop_left]
    rfl
  |c::l,i+1,a,b,h=>by
    have af:(i+1)*aN=(a2 c).length+i*aN:=by rw [he,Nat.succ_mul,Nat.add_comm]
    rw [List.flatMap_cons,af,List.take_length_add_append,show(a2 c).length+i*aN+aN=(a2 c).length+(i*aN+aN)by omega,List.drop_length_add_append,List.append_assoc,List.append_assoc, ←List.append_assoc ((l.flatMap a2).take (i*aN)),N8 he l i a b (by simpa using h)];rfl
theorem Cy{α:Type}{n i:Nat}{f:Nat→α}(h:i<n):((List.range n).map f)[i]?=some (f i):=by simp [h]
theorem O7{α:Type}{n i:Nat}{f:Nat→α}{b:α}:((List.range n).map f).set i b=(List.range n).map (bz f i b):=by
  apply List.ext_getElem?;intro j
  by_cases aI:j<n
  · by_cases e:i=j
    · subst e;simp [aI,bz]
    · rw [List.getElem?_set_ne e,Cy aI,Cy aI,fG _ _ (Ne.symm e)]
  · rw [List.getElem?_eq_none (by simp;omega),List.getElem?_eq_none (by simp;omega)]
structure fN where
  id:Int
  rel:Int
  hO:Int
  cost:Int
  done:Int
  cz:an dt
abbrev kw(j:fN):List Value:=[aa j.id,aa j.rel,aa j.hO,aa j.cost,aa j.done,az j.cz]
abbrev fN.v(j:fN):Value:=DT j.id j.rel j.hO j.cost j.done j.cz
abbrev Dx(aD:Nat→fN):List Value:=((List.range 16).map aD).flatMap kw
theorem F3:∀j:fN,(kw j).length=6:=fun _=>rfl
theorem Cz(aD:Nat→fN):(Dx aD).length=96:=by rw [rM F3];simp
structure cf where
  aD:Nat→fN
  live:BitVec 32
  r:Nat→Int
  cl:Nat→Int
  now:Int
abbrev sc(s:cf):List Value:=Dx s.aD++[aQ s.live.toNat]
abbrev sP(s:cf):List Value:=e6 8 s.cl++[aa s.now]
abbrev c5(s:cf):List Value:=sc s++(lM s.r++sP s)
theorem sE(s:cf):(sc s).length=97:=by rw [List.length_append,Cz];rfl
theorem JR(xs cP:List Value):(xs++cP).length=xs.length+cP.length:=List.length_append
theorem tB(s:cf):(c5 s).length=140:=by
  rw [JR (sc s),sE,JR (lM s.r),vR,JR (e6 8 s.cl),vG];rfl
theorem CN(s:cf):(c5 s)[96]?=some (aQ s.live.toNat):=yG (vH (n:=96) (k:=0) (Cz _) rfl)
theorem GO(s:cf):(c5 s)[139]?=some (aa s.now):=vH (n:=97) (k:=42) (sE s) (vH (n:=34) (k:=8) (vR _ _ _) (vH (n:=8) (k:=0) (vG _ _ _) rfl))
theorem CA{xs cP:List Value}{n k:Nat}(h:xs.length=n):(xs++cP).drop (n+k)=cP.drop k:=by subst h;rw [←List.drop_drop,List.drop_left]
theorem abB(s:cf):((c5 s).drop 131).take 8=e6 8 s.cl:=by
  rw [show 131=97+(34+0)from rfl,CA (sE s),CA (vR _ _ _),List.drop_zero,List.take_left' (vG _ _ _)]
theorem GP(s:cf){i k:Nat}{v:Value}(af:i<16)(h:(kw (s.aD i))[k]?=some v):(c5 s)[0+i*6+k]?=some v:=by
  have ai:k<6:=(List.getElem?_eq_some_iff.1 h).1
  rw [Nat.zero_add]
  exact yG (yG (by rw [Jj F3 _ i k (s.aD i) (Cy af) ai];exact h))
theorem yV(s:cf){i:Nat}(af:i<16):((c5 s).drop (0+i*6)).take 6=kw (s.aD i):=by
  apply List.ext_getElem?;intro k
  rcases Nat.lt_or_ge k 6 with ai|ai
  · rw [List.getElem?_take_of_lt ai,List.getElem?_drop]
    obtain⟨v,cL⟩:∃v,(kw (s.aD i))[k]?=some v:=⟨_,List.getElem?_eq_getElem ai⟩
    rw [cL];exact GP s af cL
  · rw [List.getElem?_eq_none (by rw [List.length_take];omega),List.getElem?_eq_none (by show 6≤k;exact ai)]
theorem NJ(s:cf)(v:BitVec 32):(c5 s).set 96 (aQ v.toNat)=c5 {s with live:=v}:=by
  rw [Am (by rw [sE];omega)]
  have:=xk (k:=0) (v:=aQ v.toNat) (cP:=[aQ s.live.toNat]) (Cz s.aD)
  rw [Nat.add_zero]at this;rw [this];rfl
theorem Xe(s:cf)(v:Int):(c5 s).set 139 (aa v)=c5 {s with now:=v}:=by
  have ab:=xk (k:=42) (v:=aa v) (cP:=lM s.r++sP s) (sE s)
  rw [show 97+42=139 from rfl]at ab;rw [ab]
  have ae:=xk (k:=8) (v:=aa v) (cP:=sP s) (vR (g1 s.r) (lv s.r) (atR s.r))
  rw [show 34+8=42 from rfl]at ae;rw [ae]
  have av:=xk (k:=0) (v:=aa v) (cP:=[aa s.now]) (vG (fun m=>aa m) 8 s.cl)
  rw [show 8+0=8 from rfl]at av;rw [av];rfl
theorem Xf(s:cf)(t:Nat→Int):(c5 s).take 131++e6 8 t++(c5 s).drop (131+8)=c5 {s with cl:=t}:=by
  have ab:(c5 s).drop (131+8)=[aa s.now]:=by
    rw [show 131+8=97+(34+(8+0))from rfl,CA (sE s),CA (vR _ _ _),CA (vG _ _ _)];rfl
  have ae:(c5 s).take 131=sc s++lM s.r:=by
    have e:c5 s=(sc s++lM s.r)++sP s:=(List.append_assoc (sc s) _ _).symm
    rw [e];exact List.take_left' (by rw [List.length_append,sE,vR])
  rw [ab,ae];simp only [List.append_assoc]
theorem Xg(s:cf){i:Nat}(af:i<16)(j:fN):(c5 s).take (0+i*6)++kw j++(c5 s).drop (0+i*6+6)=c5 {s with aD:=bz s.aD i j}:=by
  have aE:=Cz s.aD
  have e:c5 s=Dx s.aD++([aQ s.live.toNat]++(lM s.r++sP s)):=List.append_assoc (Dx s.aD) _ _
  have hle:i*6+6≤96:=by omega
  rw [Nat.zero_add,e,List.take_append_of_le_length (by omega),List.drop_append_of_le_length (by omega)]
  have:=N8 F3 _ i (s.aD i) j (Cy (n:=16) af)
  rw [O7]at this
  rw [←List.append_assoc,this]
  exact(List.append_assoc (Dx (bz s.aD i j)) _ _).symm
theorem Ww(s:cf){i:Nat}(af:i<16)(d:Int):(c5 s).set (0+i*6+4) (aa d)=c5 {s with aD:=bz s.aD i {s.aD i with done:=d}}:=by
  have aE:=Cz s.aD
  rw [Nat.zero_add,Am (by rw [sE];omega),Am (by rw [aE];omega),N7 F3 _ i 4 (s.aD i) {s.aD i with done:=d} _ (Cy (n:=16) af) (by omega) rfl,O7]
theorem G7(s:cf){k:Nat}(h:k<140):Nat.blt k (c5 s).length=true:=by rw [tB];simp;omega
def hold(l:List dt)(d:Int):Int:=y5 (l.find? (pk d))
def mG(l:List dt)(d:Int):Int:=y5 (l.find? (tA d))
def mK(cl:Nat→Int)(id d:Int)(l:List dt):Int:=if hold l d<0 then 2*id+1 else 2*q2 cl id (hold l d)
abbrev fN.nJ(cl:Nat→Int)(j:fN):Int:=mK cl j.id j.done j.cz.l
theorem adQ{cl:Nat→Int}(aL:∀r:Nat,r<8→0≤cl r∧cl r≤16)(r:Int):0≤wQ cl r∧wQ cl r≤16:=by
  unfold wQ;split
  · exact aL _ (by omega)
  · omega
theorem Kz{cl:Nat→Int}{id r:Int}(aL:∀r:Nat,r<8→0≤cl r∧cl r≤16)(gA:0≤id∧id<16):0≤q2 cl id r∧q2 cl id r≤id:=by
  unfold q2;have:=adQ aL r;split<;>omega
theorem Gl{cl:Nat→Int}{id d:Int}{l:List dt}(aL:∀r:Nat,r<8→0≤cl r∧cl r≤16)(gA:0≤id∧id<16):0≤mK cl id d l∧mK cl id d l≤2*id+1:=by
  unfold mK;have:=Kz (r:=hold l d) aL gA;split<;>omega
abbrev K0(j:fN):ar B:=eO j.cz 135 3 gq
abbrev eK(aD:Nat→fN)(i:Nat):ar B:=K0 (aD i)
theorem X9(aD:Nat→fN)(i:Nat)(j:fN):bz (eK (B:=B) aD) i (K0 j)=eK (bz aD i j):=by
  funext k;by_cases e:k=i
  · subst e;rw [e4];unfold eK;rw [e4]
  · rw [fG _ _ e];unfold eK;rw [fG _ _ e]
theorem N9(aD:Nat→fN)(i:Nat)(d:Int):eK (B:=B) (bz aD i {aD i with done:=d})=eK aD:=by
  funext k;by_cases e:k=i
  · subst e;unfold eK;rw [e4]
  · unfold eK;rw [fG _ _ e]
structure jt(s:cf):Prop where
  r:pM s.r
  own:∀i,i<16→(s.aD i).cz.Own
  cl:∀r:Nat,r<8→0≤s.cl r∧s.cl r≤16
  live:∀i:Nat,hasB s.live (i:Int)=true→i<16∧(s.aD i).id=i∧0≤(s.aD i).done∧(s.aD i).done≤100000000∧0≤(s.aD i).cost∧(s.aD i).cost≤100000000∧-1000000000≤(s.aD i).rel∧(s.aD i).rel≤1000000000
  now:0≤s.now∧s.now≤1000000000
  w3:∀n:Nat,n<32→s.r n=if hasB s.live (n:Int)then(s.aD n).nJ s.cl+1 else 0
theorem K1{kY:ar B}(j:fN)(aI:dI kY j.cz.bu (j.cz.l.flatMap gq)):a6 B 256 [j.v] [kY] (fun v S=>v=aa (hold j.cz.l j.done)∧S=[kY]):=abv _ _ _ _ j.done j.cz aI
theorem adR{kY:ar B}(j:fN)(aI:dI kY j.cz.bu (j.cz.l.flatMap gq)):a6 B 257 [j.v] [kY] (fun v S=>v=aa (mG j.cz.l j.done)∧S=[kY]):=abu _ _ _ _ j.done j.cz aI
theorem abC(c:Nat)(s:cf){kY:ar B}(j:fN)(aI:dI kY j.cz.bu (j.cz.l.flatMap gq))(aL:∀r:Nat,r<8→0≤s.cl r∧s.cl r≤16)(gA:0≤j.id∧j.id<16):a6 B 253 [ag c,j.v] [U c (c5 s) 260,kY] (fun v S=>v=aa (j.nJ s.cl)∧S=[U c (c5 s) 260,kY]):=by
 refine bM 23 Tryz.func253 fun ba bf=>?_
 refine eD (aF:=kw j) fun ax=>?_
 refine hi ?_
 refine du (kw j) ?_
 refine oZ (K1 j aI) ?_
 refine bD ?_ ?_<;>intro ab
 ·refine ap (pp rfl rfl ah ah) ?_
  refine aj ?_
  exact aO ⟨by unfold fN.nJ mK;rw [if_pos ah],rfl⟩
 have pN:=Kz (r:=hold j.cz.l j.done) aL gA
 refine aj ?_
 refine cZ [U ax (kw j) 253,U c (c5 s) 260] ad aA ?_
 refine aY [0,1,2] ?_
 refine bj 3 rfl (ed (bK:=e6 8 s.cl) rfl (by with_reducible repeat first|exact .here _ _|apply Out.there|apply Out.gi) ad (by rw [tB];rfl) (abB _)) ?_
 refine aY [4,5,6,107] ?_
 refine gU (abp s.cl j.id (hold j.cz.l j.done)) ?_
 refine bj 8 rfl (pp rfl rfl ah ah) ?_
 refine df [9,99] ?_
 exact aO ⟨by unfold fN.nJ mK;rw [if_neg ah],rfl⟩
theorem LA(c:Nat)(s:cf){kY:ar B}(j:fN)(aI:dI kY j.cz.bu (j.cz.l.flatMap gq))(aL:∀r:Nat,r<8→0≤s.cl r∧s.cl r≤16)(a4:pM s.r)(gA:0≤j.id∧j.id<16)(bO:hd K):a6 B 204 [ag c,j.v] [U c (c5 s) 260,kY,K] (fun v S=>v= .tuple #[]∧S=[U c (c5 ({s with r:=l0 s.r j.id (j.nJ s.cl)}:cf)) 260,kY,K]):=by
 refine bM 13 Tryz.func204 fun ba bf=>?_
 refine fX (aF:=kw j) fun ax=>?_
 refine cZ [U ax (kw j) 253] ad aA ?_
 refine aY [0,1,2,3,4,5] ?_
 refine bj 6 rfl (ed (bK:=kw j) rfl au ad rfl (by rfl)) ?_
 refine lB 7 (abC c s j aI aL gA) ?_
 refine gb 8 (af1 c 260 (sc s) (sP s) (sE s) s.r a4 j.id (j.nJ s.cl) bO) ?_
 refine df [99] ?_
 exact bJ
theorem Wx{s:cf}(h:jt s)(bs:(iX s.r).2=true):∃k:Nat,k<16∧hasB s.live (k:Int)=true∧(iX s.r).1=k:=by
  unfold iX at bs⊢
  cases bl:goes s.r with
  |nil=>rw [bl]at bs;cases bs
  |cons p l=>
    have hm:p∈goes s.r:=by rw [bl];exact List.mem_cons_self ..
    obtain⟨k,ab,ae,rfl⟩:=(Jp h.r).1 hm
    have av:=h.w3 k ab
    have aE:hasB s.live (k:Int)=true:=by
      cases aR:hasB s.live (k:Int)with
      |true=>rfl
      |false=>rw [aR]at av;exact absurd av ae
    exact⟨k,(h.live k aE).1,aE,rfl⟩
structure HY where
  mL:Int
  Ba:Int
  Hr:Int
  over:Bool
  within:Int
  late:Bool
abbrev u2(x:HY):List Value:=[aa x.mL,aa x.Ba,aa x.Hr,.bool x.over,aa x.within,.bool x.late]
def k8(j:fN):Int:=if mG j.cz.l j.done≥0∧hold j.cz.l j.done<0 then mG j.cz.l j.done else-1
def oA(j:fN):Int:=if mG j.cz.l j.done≥0∧hold j.cz.l (min (j.done+1) j.cost)<0 then mG j.cz.l j.done else-1
abbrev gF(j:fN):fN:={j with done:=min (j.done+1) j.cost}
def b4(s:cf):cf×HY:=
  if(iX s.r).2=true then
    let k:=(iX s.r).1.toNat
    if min ((s.aD k).done+1) (s.aD k).cost≥(s.aD k).cost then
      (⟨bz s.aD k (gF (s.aD k)),s.live&&&~~~(dL k),sN s.r k,s.cl,s.now+1⟩,⟨k,k8 (s.aD k),oA (s.aD k),true,s.now+1-(s.aD k).rel,decide (s.now+1>(s.aD k).hO)⟩)
    else(⟨bz s.aD k (gF (s.aD k)),s.live,l0 s.r (s.aD k).id ((gF (s.aD k)).nJ s.cl),s.cl,s.now+1⟩,⟨k,k8 (s.aD k),oA (s.aD k),false,0,false⟩)
  else({s with now:=s.now+1},⟨-1,-1,-1,false,0,false⟩)
theorem Gm{s:cf}(h:(iX s.r).2=false):b4 s=({s with now:=s.now+1},⟨-1,-1,-1,false,0,false⟩):=by unfold b4;rw [if_neg (by rw [h];decide)]
theorem Cl{s:cf}{k:Nat}(h:(iX s.r).2=true)(ai:(iX s.r).1=k)(aq:min ((s.aD k).done+1) (s.aD k).cost≥(s.aD k).cost):
    b4 s=(⟨bz s.aD k (gF (s.aD k)),s.live&&&~~~(dL k),sN s.r k,s.cl,s.now+1⟩,⟨k,k8 (s.aD k),oA (s.aD k),true,s.now+1-(s.aD k).rel,decide (s.now+1>(s.aD k).hO)⟩):=by
  unfold b4;rw [if_pos h,ai,Int.toNat_natCast,if_pos aq]
theorem CO{s:cf}{k:Nat}(h:(iX s.r).2=true)(ai:(iX s.r).1=k)(aq:¬min ((s.aD k).done+1) (s.aD k).cost≥(s.aD k).cost):
    b4 s=(⟨bz s.aD k (gF (s.aD k)),s.live,l0 s.r (s.aD k).id ((gF (s.aD k)).nJ s.cl),s.cl,s.now+1⟩,⟨k,k8 (s.aD k),oA (s.aD k),false,0,false⟩):=by
  unfold b4;rw [if_pos h,ai,Int.toNat_natCast,if_neg aq]
def mH(cl:Nat→Int)(aD:Nat→fN)(r:Nat→Int)(l:List Int):Nat→Int:=l.foldl (fun r i=>l0 r (aD i.toNat).id ((aD i.toNat).nJ cl)) r
def sQ(s:cf)(t:Nat→Int):cf:={s with cl:=t,r:=mH t s.aD s.r (bb s.live)}
theorem ZE{cl:Nat→Int}{aD:Nat→fN}{r:Nat→Int}{l:List Int}{i:Nat}{n:Int}(h:l[i]?=some n):mH cl aD r (l.take (i+1))=l0 (mH cl aD r (l.take i)) (aD n.toNat).id ((aD n.toNat).nJ cl):=by
  unfold mH;rw [List.take_add_one,h,List.foldl_append];rfl
theorem O8{cl:Nat→Int}{aD:Nat→fN}{l:List Int}:∀{r:Nat→Int},pM r→pM (mH cl aD r l):=by
  unfold mH
  induction l with
  |nil=>exact fun h=>h
  |cons a l ih=>intro r h;rw [List.foldl_cons];exact ih (JP h)
def pn(s:cf)(j:fN):Int:=if j.id<0∨j.id≥16∨j.done≥j.cost then 100 else if hasB s.live j.id then 242 else 0
def sd(s:cf)(j:fN)(a:an dt):cf:=if pn s j=0 then⟨bz s.aD j.id.toNat {j with cz:=a},s.live|||dL j.id,l0 s.r j.id (mK s.cl j.id j.done a.l),s.cl,s.now⟩else s
abbrev iL:cf:=⟨fun _=>⟨0,0,0,0,0,an.bt⟩,0#32,fun _=>0,fun _=>16,0⟩
theorem abD:c5 iL=sc iL++(iD 0#32 (fun _=>0#32) 0#32++sP iL):=by show sc iL++(lM (fun _=>0)++sP iL)=_;rw [ZB]
theorem af2:a6 B 85 [] [] (fun v S=>∃c,v=ag c∧S=[U c (c5 (iL)) 260,many 16 (eK iL.aD)]):=by
 refine dN 4 Tryz.func85 fun ba bf=>?_
 refine Wo (n:=16) (e:=135) (aN:=3) ?_
 refine aj ?_
 refine gl (Ri) ?_
 refine fX (aF:=(sc iL++(iD 0#32 (fun _=>0#32) 0#32++sP iL))) fun ax=>?_
 rw [←abD]
 exact aO ⟨ax,rfl,rfl⟩
theorem zj(c:Nat)(s:cf):a6 B 65 [ag c] [U c (c5 s) 260] (fun v S=>v=aa s.now∧S=[U c (c5 s) 260]):=by
 refine dN 7 Tryz.func65 fun ba bf=>?_
 refine nH ?_
 refine ap (ft rfl au ad (GO _)) ?_
 exact oi
theorem Dy(c:Nat)(s:cf):a6 B 143 [ag c] [U c (c5 s) 260] (fun v S=>v=aQ s.live.toNat∧S=[U c (c5 s) 260]):=by
 refine dN 7 Tryz.func143 fun ba bf=>?_
 refine nH ?_
 refine ap (ft rfl au ad (CN _)) ?_
 exact oi
theorem adS(c:Nat)(s:cf)(a7:jt s)(bO:hd K):a6 B 211 [ag c] [U c (c5 s) 260,K] (fun v S=>v= .tuple #[aa (iX s.r).1,.bool (iX s.r).2]∧S=[U c (c5 s) 260,K]):=by
 refine bM 10 Tryz.func211 fun ba bf=>?_
 refine vg (Rq c 260 (sc s) (sP s) (sE s) s.r a7.r bO) ?_
 refine bp (aa (iX s.r).1) ?_
 refine bp (.bool (iX s.r).2) ?_
 exact oi
theorem adT(c:Nat)(s:cf)(i:Nat)(af:i<16)(b5:0≤(s.aD i).done)(ab:(s.aD i).done≤100000000):a6 B 258 [.pointer (some ⟨c,0+i*6,none⟩)] [U c (c5 s) 260] (fun v S=>v= .bool (decide (min ((s.aD i).done+1) (s.aD i).cost≥(s.aD i).cost))∧S=[U c (c5 ({s with aD:=bz s.aD i (gF (s.aD i))}:cf)) 260]):=by
 refine bM 20 Tryz.func258 fun ba bf=>?_
 refine cZ _ ad (Take.self _) ?_
 refine bG 0 rfl (dD rfl) ?_
 refine bG 1 rfl (dD rfl) ?_
 refine bG 2 rfl (mz rfl) ?_
 refine bG 3 rfl (AD rfl ad (gC:=0+i*6+4) rfl) ?_
 refine bj 4 rfl (ft rfl au ad (GP _ af rfl)) ?_
 refine bj 5 rfl (mE rfl rfl ah ah) ?_
 refine bG 6 rfl (dD rfl) ?_
 refine bG 7 rfl (mz rfl) ?_
 refine bG 8 rfl (AD rfl ad (gC:=0+i*6+3) rfl) ?_
 refine bj 9 rfl (ft rfl au ad (GP _ af rfl)) ?_
 refine bj 10 rfl (Ds rfl rfl) ?_
 refine bG 11 rfl (mz rfl) ?_
 refine bG 12 rfl (AD rfl ad (gC:=0+i*6+4) rfl) ?_
 refine jx 13 ?_
 refine l4 rfl dy (js (k:=0+i*6+4) (ga:=c5 {s with aD:=bz s.aD i (gF (s.aD i))}) rfl rfl rfl au ad (G7 s (by omega)) (Ww s af _)) ?_
 refine aY [99] ?_
 refine gN ?_
 refine ap (ed (bK:=kw (gF (s.aD i))) rfl (by with_reducible repeat first|exact .here _ _|apply Out.there|apply Out.gi) ad (by rw [tB];exact Nat.ble_eq_true_of_le ah) ((yV {s with aD:=bz s.aD i (gF (s.aD i))} af).trans (by show kw (bz s.aD i (gF (s.aD i)) i)=_;rw [e4]))) ?_
 refine gl (Sn (s.aD i).id (s.aD i).rel (s.aD i).hO (s.aD i).cost (min ((s.aD i).done+1) (s.aD i).cost) (s.aD i).cz) ?_
 exact bJ
theorem Sq(c:Nat)(s:cf)(t:Nat→Int)(a7:jt s)(aL:∀r:Nat,r<8→0≤t r∧t r≤16)(bO:hd K)(aJ:hK K):a6 B 135 [ag c,sU t] [U c (c5 s) 260,many 16 (eK s.aD),K] (fun v S=>v= .tuple #[]∧S=[U c (c5 (sQ s t)) 260,many 16 (eK s.aD),K]):=by
 refine bM 23 Tryz.func135 fun ba bf=>?_
 refine eD fun ax=>?_
 refine eD (aF:=e6 8 t) fun aK=>?_
 refine hi ?_
 refine du (e6 8 t) ?_
 refine aj ?_
 refine fq (AM (k:=131) (n:=8) (ga:=c5 {s with cl:=t}) rfl rfl (by intro u hu;obtain⟨z,_,rfl⟩:=List.mem_map.1 hu;rfl) (by with_reducible repeat first|exact .here _ _|apply Out.there|apply Out.gi) ad rfl (by rw [tB];rfl) (Xf s t)) ?_
 refine ky ?_
 refine ap (ft rfl au ad (CN _)) ?_
 refine cm (re s.live) ?_
 rintro _ _ ⟨kD,rfl,rfl⟩
 refine bP ?_
 refine gI ?_
 refine AO aJ au ?_
 rw [show c5 {s with cl:=t}=c5 (⟨s.aD,s.live,mH t s.aD s.r ((bb s.live).take 0),t,s.now⟩)from rfl]
 refine kS (own:=[U kD [aQ s.live.toNat] 158,K]) (aU:=[U ax [ag c] 157,U c (c5 (⟨s.aD,s.live,mH t s.aD s.r ((bb s.live).take 0),t,s.now⟩:cf)) 260,many 16 (eK s.aD),K]) rfl fF (q1 kD s.live bO) (fun i S=>S=[U ax [ag c] 157,U c (c5 (⟨s.aD,s.live,mH t s.aD s.r ((bb s.live).take i),t,s.now⟩:cf)) 260,many 16 (eK s.aD),K]) (fun c i S=>False) (show Take ([U kD [aQ s.live.toNat] 158,K,U ax [ag c] 157,U c (c5 (⟨s.aD,s.live,mH t s.aD s.r ((bb s.live).take 0),t,s.now⟩:cf)) 260,many 16 (eK s.aD),K]) _ _ from aA) (rfl) rfl (fun x al=>by obtain⟨y,_,rfl⟩:=List.mem_map.1 al;rfl) ?_ ?_ ?_
 ·intro cr rec j3 i bh af bo
  subst bo
  rw [List.length_map]at af
  obtain⟨m,b0⟩:∃m,(bb s.live)[i]?=some m:=⟨_,List.getElem?_eq_getElem af⟩
  have hm:=iV.1 (List.mem_of_getElem? b0)
  have mh:=a7.live m.toNat (by rw [show((m.toNat:Nat):Int)=m by omega];exact hm.2.2)
  have LB:m.toNat<16:=mh.1
  rw [lp b0]
  refine aj ?_
  refine⟨rfl,_,_,.cons au (Take.self _),fun hz=>?_⟩
  refine aj ?_
  refine cZ [U ax [ag c] 157] ad aA ?_
  refine aY [0,1,2,3,4] ?_
  refine bG 5 rfl (ns rfl rfl ad (show m=((m.toNat:Nat):Int)by omega) ah rfl) ?_
  refine aY [106] ?_
  refine p5 rfl .no dy (ed (bK:=kw (s.aD m.toNat)) rfl (by with_reducible repeat first|exact .here _ _|apply Out.there|apply Out.gi) ad (by rw [tB];exact Nat.ble_eq_true_of_le ah) (yV (⟨s.aD,s.live,mH t s.aD s.r ((bb s.live).take i),t,s.now⟩) LB)) rfl ?_
  refine gb 7 (LA c (⟨s.aD,s.live,mH t s.aD s.r ((bb s.live).take i),t,s.now⟩) (kY:=many 16 (eK s.aD)) (s.aD m.toNat) (CJ LB (dT (a7.own _ LB) rfl)) aL (O8 a7.r) (by rw [mh.2.1];omega) bO) ?_
  refine df [99] ?_
  exact⟨[U ax [ag c] 157,U c (c5 (⟨s.aD,s.live,l0 (mH t s.aD s.r ((bb s.live).take i)) (s.aD m.toNat).id ((s.aD m.toNat).nJ t),t,s.now⟩:cf)) 260,many 16 (eK s.aD),K],_,aA,by dsimp only;rw [ZE b0]⟩
 ·intro cG bh bo
  subst bo
  rw [List.length_map,List.take_length]
  refine cx ?_
  refine CI (show Take [dl cG] _ _ from aA) (uA rfl) ?_
  exact bJ
 intro cG c i bh af h
 exact h.elim
theorem CP{s:cf}{j:fN}(h:j.id<0∨j.id≥16∨j.done≥j.cost):pn s j=100:=by unfold pn;rw [if_pos h]
theorem JS{s:cf}{j:fN}(h:¬(j.id<0∨j.id≥16∨j.done≥j.cost))(aE:hasB s.live j.id=true):pn s j=242:=by unfold pn;rw [if_neg h,if_pos aE]
theorem Sr{s:cf}{j:fN}(h:¬(j.id<0∨j.id≥16∨j.done≥j.cost))(aE:hasB s.live j.id=false):pn s j=0:=by unfold pn;rw [if_neg h,if_neg (by rw [aE];decide)]
theorem Df{s:cf}{j:fN}{a:an dt}(h:pn s j≠0):sd s j a=s:=by unfold sd;rw [if_neg h]
theorem AF{s:cf}{j:fN}{a:an dt}(h:pn s j=0):sd s j a=⟨bz s.aD j.id.toNat {j with cz:=a},s.live|||dL j.id,l0 s.r j.id (mK s.cl j.id j.done a.l),s.cl,s.now⟩:=by unfold sd;rw [if_pos h]
theorem abE{j:fN}(ab:0≤mG j.cz.l j.done)(ae:hold j.cz.l j.done<0):mG j.cz.l j.done=k8 j:=by unfold k8;rw [if_pos ⟨ab,ae⟩]
theorem Rr{j:fN}(h:¬(0≤mG j.cz.l j.done∧hold j.cz.l j.done<0)): -1=k8 j:=by unfold k8;rw [if_neg h]
theorem abF{j:fN}(ab:0≤mG j.cz.l j.done)(ae:hold j.cz.l (min (j.done+1) j.cost)<0):mG j.cz.l j.done=oA j:=by unfold oA;rw [if_pos ⟨ab,ae⟩]
theorem Rs{j:fN}(h:¬(0≤mG j.cz.l j.done∧hold j.cz.l (min (j.done+1) j.cost)<0)): -1=oA j:=by unfold oA;rw [if_neg h]
theorem Ya(c:Nat)(s:cf){kY:ar B}(j:fN)(aI:dI kY j.cz.bu (j.cz.l.flatMap gq))(vj:j.cz.Own)(jK:j.cz.l.length≤1000)(a7:jt s)(bO:hd K):a6 B 147 [ag c,j.v] [U c (c5 s) 260,many 16 (eK s.aD),kY,K] (fun v S=>∃a:an dt,(a.l=j.cz.l∧a.Own∧v=aa (pn s j))∧S=[U c (c5 (sd s j a)) 260,many 16 (eK (sd s j a).aD),kY,K]):=by
 refine dN 50 Tryz.func147 fun ba bf=>?_
 refine gE gq 135 3 ?_
 refine aj ?_
 refine fX (aF:=kw j) fun ax=>?_
 refine cc ?_ ?_<;>intro ab
 ·have he:=CP (s:=s) (j:=j) ah
  exact aO ⟨j.cz,⟨rfl,vj,by rw [he]⟩,by rw [Df ah]⟩
 refine pJ ?_ ?_<;>intro ae
 ·refine aj ?_
  have he:=CP (s:=s) (j:=j) ah
  exact aO ⟨j.cz,⟨rfl,vj,by rw [he]⟩,by rw [Df ah]⟩
 refine du (kw j) ?_
 refine gl (Sn j.id j.rel j.hO j.cost j.done j.cz) ?_
 refine bD ?_ ?_<;>intro av
 ·have he:=CP (s:=s) (j:=j) ah
  exact aO ⟨j.cz,⟨rfl,vj,by rw [he]⟩,by rw [Df ah]⟩
 refine cZ _ ad (Take.self _) ?_
 refine aY [0,1,2] ?_
 refine bj 3 rfl (ft rfl au ad (CN _)) ?_
 refine aY [4,5,106] ?_
 refine gU (tO s.live j.id) ?_
 refine df [7,99] ?_
 refine bD ?_ ?_<;>intro aV
 ·have he:=JS (s:=s) (j:=j) ah aV
  exact aO ⟨j.cz,⟨rfl,vj,by rw [he]⟩,by rw [Df ah]⟩
 obtain⟨k,ai⟩:=Int.eq_ofNat_of_zero_le (a:=j.id) ah
 have jH:k<16:=by omega
 have he:pn s j=0:=Sr ah aV
 refine aj ?_
 refine j7 (a2:=gq) (c:=(an.bt:an dt)) (b:=j.cz) .no rfl rfl ad au au (aI) (fun _=>rfl) (fun _=>rfl) (by show 0+j.cz.l.length≤_;omega) (by show(0+j.cz.l.length)*_≤_;omega) rfl (fun a a5 cO=>?_)
 replace a5:a.l=j.cz.l:=a5
 refine aj ?_
 refine cZ _ ad (Take.self _) ?_
 refine aY [0,1,2] ?_
 refine bj 3 rfl (ed (bK:=kw {j with cz:=a}) rfl au ad rfl (by rfl)) ?_
 refine aY [4,5] ?_
 refine bG 6 rfl (ns rfl rfl ad ai ah rfl) ?_
 refine aY [107] ?_
 refine l4 rfl dy (AM (k:=0+k*6) (n:=6) (ga:=c5 ⟨bz s.aD k {j with cz:=a},s.live,s.r,s.cl,s.now⟩) rfl rfl (by intro u hu;simp at hu;rcases hu with rfl|rfl|rfl|rfl|rfl|rfl<;>rfl) (by with_reducible repeat first|exact .here _ _|apply Out.there|apply Out.gi) ad rfl (by rw [tB];exact Nat.ble_eq_true_of_le (by omega)) (Xg s jH {j with cz:=a})) ?_
 refine df [99] ?_
 refine cZ _ ad (Take.self _) ?_
 refine aY [0,1,2,3] ?_
 refine bj 4 rfl (ft rfl au ad (CN _)) ?_
 refine aY [5,6,107] ?_
 refine gU (tE s.live j.id) ?_
 refine bG 8 rfl (mz rfl) ?_
 refine bG 9 rfl (hn ad) ?_
 refine jx 10 ?_
 refine l4 rfl dy (js (k:=96) (ga:=c5 ⟨bz s.aD k {j with cz:=a},s.live|||dL j.id,s.r,s.cl,s.now⟩) rfl rfl rfl au ad (G7 _ (by omega)) (NJ ⟨bz s.aD k {j with cz:=a},s.live,s.r,s.cl,s.now⟩ _)) ?_
 refine aY [99] ?_
 refine hi ?_
 refine du (kw {j with cz:=a}) ?_
 refine eR (LA c ⟨bz s.aD k {j with cz:=a},s.live|||dL j.id,s.r,s.cl,s.now⟩ (kY:=eO a 135 3 gq) {j with cz:=a} (dT cO rfl) a7.cl a7.r (by show 0≤j.id∧j.id<16;omega) bO) ?_
 refine Wd (d:=k) jH aA ?_
 refine Wn (G:=K0 {j with cz:=a}) jH aA ?_
 rw [X9]
 refine aj ?_
 exact aO ⟨a,⟨a5,cO,by rw [he]⟩,by rw [AF he,show j.id.toNat=k by omega]⟩
theorem adU(c:Nat)(s:cf)(a7:jt s)(bO:hd K):a6 B 212 [ag c] [U c (c5 s) 260,many 16 (eK s.aD),K] (fun v S=>v= .agg (u2 (b4 s).2).toArray∧S=[U c (c5 ((b4 s).1)) 260,many 16 (eK (b4 s).1.aD),K]):=by
 refine dN 106 Tryz.func212 fun ba bf=>?_
 have kJ:=a7.now
 refine aj ?_
 refine de fun ax=>?_
 refine vg (Rq c 260 (sc s) (sP s) (sE s) s.r a7.r bO) ?_
 refine cp ?_
 refine bp (aa (iX s.r).1) ?_
 refine bp (.bool (iX s.r).2) ?_
 refine rm ?_
 refine ap (ft rfl au ad (GO _)) ?_
 refine iK ?_
 refine fq (js (k:=139) (ga:=c5 ⟨s.aD,s.live,s.r,s.cl,s.now+1⟩) rfl rfl rfl au ad (G7 s ah) (Xe s _)) ?_
 refine bT ?_ ?_<;>intro ab
 ·have x2:=Gm ab
  refine aj ?_
  refine g2 ?_
  exact aO ⟨by rw [x2],by rw [x2]⟩
 obtain⟨k,jH,Bo,ai⟩:=Wx a7 ab
 obtain⟨ajd,gA,HZ,UM,aje,ajf,ajg,ajh⟩:=a7.live k Bo
 rw [ai]
 refine aj ?_
 refine de fun aK=>?_
 refine cZ [U c (c5 (⟨s.aD,s.live,s.r,s.cl,s.now+1⟩:cf)) 260,many 16 (eK s.aD)] ad aA ?_
 refine aY [0,1] ?_
 refine bj 2 rfl (ed (bK:=kw (s.aD k)) rfl (by with_reducible repeat first|exact .here _ _|apply Out.there|apply Out.gi) ad (by rw [tB];exact Nat.ble_eq_true_of_le ah) (yV ⟨s.aD,s.live,s.r,s.cl,s.now+1⟩ jH)) ?_
 refine aY [4,5] ?_
 refine bj 6 rfl (ed (bK:=kw (s.aD k)) rfl (by with_reducible repeat first|exact .here _ _|apply Out.there|apply Out.gi) ad (by rw [tB];exact Nat.ble_eq_true_of_le ah) (yV ⟨s.aD,s.live,s.r,s.cl,s.now+1⟩ jH)) ?_
 refine lB 3 (K1 (kY:=many 16 (eK s.aD)) (s.aD k) (CJ jH (dT (a7.own k jH) rfl))) ?_
 refine lB 7 (adR (kY:=many 16 (eK s.aD)) (s.aD k) (CJ jH (dT (a7.own k jH) rfl))) ?_
 refine aY [8,9,99] ?_
 refine cp ?_
 refine jT (α:=Unit) (fun _=>True) (fun _=>[(0,ag c),(2,ag ax),(3,aa (k:Int)),(5,.pointer (some ⟨c,0+k*6,none⟩)),(6,ag aK),(7,aa (hold (s.aD k).cz.l (s.aD k).done)),(8,aa (mG (s.aD k).cz.l (s.aD k).done))]) (fun _=>[U ax [ak,ak,ak,.bool false,ak,.bool false] 300,U aK [aa (k:Int),aa (k8 (s.aD k)),aa (-1),.bool false,ak,.bool false] 300,U c (c5 (⟨s.aD,s.live,s.r,s.cl,s.now+1⟩:cf)) 260,many 16 (eK s.aD),K]) ?_ ?_
 ·skip
  refine aj ?_
  refine cc ?_ ?_<;>intro ae
  ·refine bD ?_ ?_<;>intro av
   ·rw [show(U aK [aa (k:Int),aa (mG (s.aD k).cz.l (s.aD k).done),aa (-1),.bool false,ak,.bool false] 300:ar B)=U aK [aa (k:Int),aa (k8 (s.aD k)),aa (-1),.bool false,ak,.bool false] 300 from by rw [abE ah ah]]
    exact ez () trivial
   rw [show(U aK [aa (k:Int),aa (-1),aa (-1),.bool false,ak,.bool false] 300:ar B)=U aK [aa (k:Int),aa (k8 (s.aD k)),aa (-1),.bool false,ak,.bool false] 300 from by rw [show k8 (s.aD k)= -1 from(Rr ah).symm]]
   exact ez () trivial
  rw [show(U aK [aa (k:Int),aa (-1),aa (-1),.bool false,ak,.bool false] 300:ar B)=U aK [aa (k:Int),aa (k8 (s.aD k)),aa (-1),.bool false,ak,.bool false] 300 from by rw [show k8 (s.aD k)= -1 from(Rr ah).symm]]
  exact ez () trivial
 rintro _ _
 refine aj ?_
 refine eR (adT c ⟨s.aD,s.live,s.r,s.cl,s.now+1⟩ k jH HZ UM) ?_
 refine iK ?_
 refine jT (α:=Unit) (fun _=>True) (fun _=>[(0,ag c),(2,ag ax),(3,aa (k:Int)),(5,.pointer (some ⟨c,0+k*6,none⟩)),(6,ag aK)]) (fun _=>[U ax [ak,ak,ak,.bool false,ak,.bool false] 300,U aK [aa (k:Int),aa (k8 (s.aD k)),aa (oA (s.aD k)),.bool (decide (min ((s.aD k).done+1) (s.aD k).cost≥(s.aD k).cost)),ak,.bool false] 300,U c (c5 (⟨bz s.aD k (gF (s.aD k)),s.live,s.r,s.cl,s.now+1⟩:cf)) 260,many 16 (eK s.aD),K]) ?_ ?_
 ·skip
  refine aj ?_
  refine pJ ?_ ?_<;>intro aV
  ·refine gI ?_
   refine ap (ed (bK:=kw (gF (s.aD k))) rfl (by with_reducible repeat first|exact .here _ _|apply Out.there|apply Out.gi) ad (by rw [tB];exact Nat.ble_eq_true_of_le ah) ((yV ⟨bz s.aD k (gF (s.aD k)),s.live,s.r,s.cl,s.now+1⟩ jH).trans (by show kw (bz s.aD k (gF (s.aD k)) k)=_;rw [e4]))) ?_
   refine oZ (K1 (kY:=many 16 (eK s.aD)) (gF (s.aD k)) (CJ jH (dT (a7.own k jH) rfl))) ?_
   refine bD ?_ ?_<;>intro bN
   ·rw [show(U aK [aa (k:Int),aa (k8 (s.aD k)),aa (mG (s.aD k).cz.l (s.aD k).done),.bool (decide (min ((s.aD k).done+1) (s.aD k).cost≥(s.aD k).cost)),ak,.bool false] 300:ar B)=U aK [aa (k:Int),aa (k8 (s.aD k)),aa (oA (s.aD k)),.bool (decide (min ((s.aD k).done+1) (s.aD k).cost≥(s.aD k).cost)),ak,.bool false] 300 from by rw [abF ah bN]]
    exact ez () trivial
   rw [show(U aK [aa (k:Int),aa (k8 (s.aD k)),aa (-1),.bool (decide (min ((s.aD k).done+1) (s.aD k).cost≥(s.aD k).cost)),ak,.bool false] 300:ar B)=U aK [aa (k:Int),aa (k8 (s.aD k)),aa (oA (s.aD k)),.bool (decide (min ((s.aD k).done+1) (s.aD k).cost≥(s.aD k).cost)),ak,.bool false] 300 from by rw [show oA (s.aD k)= -1 from(Rs (fun g=>absurd g.2 (Int.not_lt.2 bN))).symm]]
   exact ez () trivial
  refine aj ?_
  rw [show(U aK [aa (k:Int),aa (k8 (s.aD k)),aa (-1),.bool (decide (min ((s.aD k).done+1) (s.aD k).cost≥(s.aD k).cost)),ak,.bool false] 300:ar B)=U aK [aa (k:Int),aa (k8 (s.aD k)),aa (oA (s.aD k)),.bool (decide (min ((s.aD k).done+1) (s.aD k).cost≥(s.aD k).cost)),ak,.bool false] 300 from by rw [show oA (s.aD k)= -1 from(Rs ah).symm]]
  exact ez () trivial
 rintro _ _
 refine aj ?_
 refine c2 ?_ ?_<;>intro c0
 ·have ud:decide (min ((s.aD k).done+1) (s.aD k).cost≥(s.aD k).cost)=false:=by rw [decide_eq_false_iff_not];omega
  rw [ud]
  refine cC ?_
  refine dz ?_
  refine ap (cj rfl) ?_
  refine ap (cj rfl) ?_
  refine ap (ou rfl) ?_
  refine ap (ed (bK:=kw (gF (s.aD k))) rfl (by with_reducible repeat first|exact .here _ _|apply Out.there|apply Out.gi) ad (by rw [tB];exact Nat.ble_eq_true_of_le ah) ((yV ⟨bz s.aD k (gF (s.aD k)),s.live,s.r,s.cl,s.now+1⟩ jH).trans (by show kw (bz s.aD k (gF (s.aD k)) k)=_;rw [e4]))) ?_
  refine eR (LA c ⟨bz s.aD k (gF (s.aD k)),s.live,s.r,s.cl,s.now+1⟩ (kY:=many 16 (eK s.aD)) (gF (s.aD k)) (CJ jH (dT (a7.own k jH) rfl)) a7.cl a7.r (by show 0≤(s.aD k).id∧(s.aD k).id<16;omega) bO) ?_
  rw [←N9 s.aD k (min ((s.aD k).done+1) (s.aD k).cost)]
  refine iK ?_
  refine du (u2 ⟨(k:Int),k8 (s.aD k),oA (s.aD k),false,0,false⟩) ?_
  refine aj ?_
  refine g2 ?_
  exact aO ⟨by rw [CO ab ai ah],by rw [CO ab ai ah]⟩
 have ud:decide (min ((s.aD k).done+1) (s.aD k).cost≥(s.aD k).cost)=true:=by rw [decide_eq_true_eq];omega
 rw [ud]
 refine ic ?_
 refine fj ?_
 refine jT (α:=Unit) (fun _=>True) (fun _=>[(0,ag c),(2,ag ax),(3,aa (k:Int)),(5,.pointer (some ⟨c,0+k*6,none⟩)),(6,ag aK)]) (fun _=>[U ax [ak,ak,ak,.bool false,ak,.bool false] 300,U aK [aa (k:Int),aa (k8 (s.aD k)),aa (oA (s.aD k)),.bool true,aa (s.now+1-(s.aD k).rel),.bool (decide (s.now+1>(s.aD k).hO))] 300,U c (c5 (⟨bz s.aD k (gF (s.aD k)),s.live,s.r,s.cl,s.now+1⟩:cf)) 260,many 16 (eK s.aD),K]) ?_ ?_
 ·skip
  refine k3 [U c (c5 (⟨bz s.aD k (gF (s.aD k)),s.live,s.r,s.cl,s.now+1⟩:cf)) 260,many 16 (eK s.aD)] ad aA ?_
  refine aY [0,1,2] ?_
  refine bj 3 rfl (ft (v:=aa (s.now+1)) rfl au ad (GO ⟨bz s.aD k (gF (s.aD k)),s.live,s.r,s.cl,s.now+1⟩)) ?_
  refine aY [4,5] ?_
  refine bG 6 rfl (AD rfl ad (gC:=0+k*6+1) rfl) ?_
  refine bj 7 rfl (ft rfl au ad ((GP ⟨bz s.aD k (gF (s.aD k)),s.live,s.r,s.cl,s.now+1⟩ jH (k:=1) (v:=aa (s.aD k).rel) (by show(kw (bz s.aD k (gF (s.aD k)) k))[1]?=_;rw [e4];rfl)))) ?_
  refine aY [8,9,10] ?_
  refine bj 11 rfl (ed (bK:=kw (gF (s.aD k))) rfl (by with_reducible repeat first|exact .here _ _|apply Out.there|apply Out.gi) ad (by rw [tB];exact Nat.ble_eq_true_of_le ah) ((yV ⟨bz s.aD k (gF (s.aD k)),s.live,s.r,s.cl,s.now+1⟩ jH).trans (by show kw (bz s.aD k (gF (s.aD k)) k)=_;rw [e4]))) ?_
  refine aY [12,13,14] ?_
  refine bj 15 rfl (ft (v:=aa (s.now+1)) rfl au ad (GO ⟨bz s.aD k (gF (s.aD k)),s.live,s.r,s.cl,s.now+1⟩)) ?_
  refine aY [17,116] ?_
  refine gU (adO _ _ (s.aD k).hO _ _ _ (s.now+1)) ?_
  refine aY [118] ?_
  refine mC rfl .no dy (jr rfl rfl rfl au ad kC) aA ?_
  refine aY [19,120] ?_
  refine mC rfl .no dy (jr rfl rfl rfl au ad kC) aA ?_
  refine aY [99] ?_
  exact ez () trivial
 rintro _ _
 refine ky ?_
 refine ap (ft (v:=aQ s.live.toNat) rfl au ad (CN ⟨bz s.aD k (gF (s.aD k)),s.live,s.r,s.cl,s.now+1⟩)) ?_
 refine aj ?_
 refine gj (FZ s.live k) ?_
 refine gI ?_
 refine fq (js (k:=96) (ga:=c5 ⟨bz s.aD k (gF (s.aD k)),s.live&&&~~~(dL (k:Int)),s.r,s.cl,s.now+1⟩) rfl rfl rfl au ad (G7 _ ah) (NJ ⟨bz s.aD k (gF (s.aD k)),s.live,s.r,s.cl,s.now+1⟩ _)) ?_
 refine aj ?_
 refine eR (Sp c 260 (sc ⟨bz s.aD k (gF (s.aD k)),s.live&&&~~~(dL (k:Int)),s.r,s.cl,s.now+1⟩) (sP ⟨bz s.aD k (gF (s.aD k)),s.live&&&~~~(dL (k:Int)),s.r,s.cl,s.now+1⟩) (sE _) s.r a7.r (k:Int) bO) ?_
 rw [←N9 s.aD k (min ((s.aD k).done+1) (s.aD k).cost)]
 refine iK ?_
 refine du (u2 ⟨(k:Int),k8 (s.aD k),oA (s.aD k),true,s.now+1-(s.aD k).rel,decide (s.now+1>(s.aD k).hO)⟩) ?_
 refine aj ?_
 refine g2 ?_
 exact aO ⟨by rw [Cl ab ai ah],by rw [Cl ab ai ah]⟩
structure ck where
  cA:Int
  aw:List (Nat→Int)
  a9:List (BitVec 32×List (Nat→Int))
  bd:List (Nat→Int)
abbrev bZ.c(x:bZ):ck:=⟨x.cA,x.aw.l,x.a9.l.map fun m=>(m.aw,m.q.l),x.bd.l⟩
abbrev oG(e:Nat→Int)(cA:Int)(r:Nat):Prop:=0≤e (3+r)∧e (3+r)≤e 2∧((r:Int)<cA∨e (3+r)=0)
abbrev y6(e:Nat→Int)(cA:Int):Prop:=(1≤e 0∧e 0≤4096∧1≤e 1∧e 1≤e 0∧1≤e 2∧e 2≤e 1)∧∀r,r<8→oG e cA r
def allM:Nat→BitVec 32
  |0=>0#32
  |n+1=>allM n|||dL n
abbrev se(q:List (Nat→Int)):Prop:=q.length≤4∧∀y∈q,1≤y 0∧y 0≤16∧1≤y 1∧y 1≤3
def b6(c:ck)(m:Int):BitVec 32:=if m<0 then 0#32 else match c.a9[m.toNat]? with
  |some p=>p.1
  |none=>0#32
def jc(l:List (Nat→Int))(a b:Int):Int×Bool:=match l.findIdx? (fun e=>decide (e 0=a)&&decide (e 1=b))with
  |some i=>((i:Int),true)
  |none=>(0,false)
theorem IR{α:Type}{l:List α}{i:Nat}{y:α}{P:α→Prop}(h:l[i]?=some y)(aZ:P y)(aE:∀z∈l.take i,P z):∀z∈l.take (i+1),P z:=by
  intro z aS
  rw [List.take_add_one,h]at aS
  rcases List.mem_append.1 aS with q|q
  · exact aE z q
  · simp at q;subst q;exact aZ
theorem ZF{l:List (Nat→Int)}{a b:Int}{i:Nat}{e:Nat→Int}(h:l[i]?=some e)(b5:e 0=a)(ab:e 1=b)(cN:∀z∈l.take i,¬(z 0=a∧z 1=b)):jc l a b=((i:Int),true):=by
 obtain⟨af,bl⟩:=List.getElem?_eq_some_iff.1 h
 have:l.findIdx? (fun e=>decide (e 0=a)&&decide (e 1=b))=some i:=by
  rw [List.findIdx?_eq_some_iff_getElem]
  refine⟨af,by simp [bl,b5,ab],fun j aI=>?_⟩
  have:=cN l[j] (by rw [List.mem_take_iff_getElem];exact⟨j,by omega,rfl⟩)
  simp;exact fun q r=>this ⟨q,r⟩
 unfold jc;rw [this]
theorem ZG{l:List (Nat→Int)}{a b:Int}(cN:∀z∈l,¬(z 0=a∧z 1=b)):jc l a b=(0,false):=by
  have:l.findIdx? (fun e=>decide (e 0=a)&&decide (e 1=b))=none:=by
    rw [List.findIdx?_eq_none_iff]
    intro z aS
    have:=cN z aS
    simp;exact fun q r=>this ⟨q,r⟩
  unfold jc;rw [this]
theorem adV(e:Nat→Int)(cA:Int):a6 B 103 [.agg (dd e).toArray,aa cA] [] (fun v S=>v= .bool (decide (y6 e cA))∧S=[]):=by
 refine bM 63 Tryz.func103 fun ba bf=>?_
 refine fX (aF:=dd e) fun ax=>?_
 refine cc ?_ ?_<;>intro ab
 ·exact aO ⟨by first|rw [decide_eq_false (fun z=>by have:=z.1;omega)]|rw [decide_eq_false (fun z=>by have:=z.2 r ah;unfold oG at this;omega)]|rw [decide_eq_true ⟨by omega,fun j aI=>aE j ah⟩],rfl⟩
 refine cc ?_ ?_<;>intro ae
 ·exact aO ⟨by first|rw [decide_eq_false (fun z=>by have:=z.1;omega)]|rw [decide_eq_false (fun z=>by have:=z.2 r ah;unfold oG at this;omega)]|rw [decide_eq_true ⟨by omega,fun j aI=>aE j ah⟩],rfl⟩
 refine cc ?_ ?_<;>intro av
 ·exact aO ⟨by first|rw [decide_eq_false (fun z=>by have:=z.1;omega)]|rw [decide_eq_false (fun z=>by have:=z.2 r ah;unfold oG at this;omega)]|rw [decide_eq_true ⟨by omega,fun j aI=>aE j ah⟩],rfl⟩
 refine cc ?_ ?_<;>intro aV
 ·exact aO ⟨by first|rw [decide_eq_false (fun z=>by have:=z.1;omega)]|rw [decide_eq_false (fun z=>by have:=z.2 r ah;unfold oG at this;omega)]|rw [decide_eq_true ⟨by omega,fun j aI=>aE j ah⟩],rfl⟩
 refine cc ?_ ?_<;>intro bN
 ·exact aO ⟨by first|rw [decide_eq_false (fun z=>by have:=z.1;omega)]|rw [decide_eq_false (fun z=>by have:=z.2 r ah;unfold oG at this;omega)]|rw [decide_eq_true ⟨by omega,fun j aI=>aE j ah⟩],rfl⟩
 refine c2 ?_ ?_<;>intro c0
 ·refine aj ?_
  exact aO ⟨by first|rw [decide_eq_false (fun z=>by have:=z.1;omega)]|rw [decide_eq_false (fun z=>by have:=z.2 r ah;unfold oG at this;omega)]|rw [decide_eq_true ⟨by omega,fun j aI=>aE j ah⟩],rfl⟩
 refine ky ?_
 refine du (G6 e) ?_
 refine aj ?_
 refine ds (α:=Nat) (fun r=>r≤8∧∀j,j<r→oG e cA j) (fun r=>[(41,aa (r:Int)),(40,.agg (G6 e).toArray),(1,aa cA),(2,ag ax)]) (fun r=>[U ax (dd e) 173]) (fun r=>8-r) 0 ?_ dq aA ?_
 ·exact⟨by omega,fun j h=>by omega⟩
 rintro r ⟨a4,aE⟩
 refine bT ?_ ?_<;>intro fO
 ·refine ap (xl rfl rfl ad rfl ah (I6 ah)) ?_
  refine aj ?_
  refine cc ?_ ?_<;>intro gk
  ·exact aO ⟨by first|rw [decide_eq_false (fun z=>by have:=z.1;omega)]|rw [decide_eq_false (fun z=>by have:=z.2 r ah;unfold oG at this;omega)]|rw [decide_eq_true ⟨by omega,fun j aI=>aE j ah⟩],rfl⟩
  refine cc ?_ ?_<;>intro hW
  ·exact aO ⟨by first|rw [decide_eq_false (fun z=>by have:=z.1;omega)]|rw [decide_eq_false (fun z=>by have:=z.2 r ah;unfold oG at this;omega)]|rw [decide_eq_true ⟨by omega,fun j aI=>aE j ah⟩],rfl⟩
  refine cc ?_ ?_<;>intro na
  ·refine bD ?_ ?_<;>intro zM
   ·exact aO ⟨by first|rw [decide_eq_false (fun z=>by have:=z.1;omega)]|rw [decide_eq_false (fun z=>by have:=z.2 r ah;unfold oG at this;omega)]|rw [decide_eq_true ⟨by omega,fun j aI=>aE j ah⟩],rfl⟩
   exact cE (r+1) ⟨by omega,fun j aI=>by rcases Nat.lt_succ_iff_lt_or_eq.1 aI with q|rfl;exact aE j q;unfold oG;omega⟩
  exact cE (r+1) ⟨by omega,fun j aI=>by rcases Nat.lt_succ_iff_lt_or_eq.1 aI with q|rfl;exact aE j q;unfold oG;omega⟩
 exact aO ⟨by first|rw [decide_eq_false (fun z=>by have:=z.1;omega)]|rw [decide_eq_false (fun z=>by have:=z.2 r ah;unfold oG at this;omega)]|rw [decide_eq_true ⟨by omega,fun j aI=>aE j ah⟩],rfl⟩
theorem af3(x:bZ)(al:x.In K):a6 B 104 [x.v] [K] (fun v S=>v=aQ (allM x.aw.l.length).toNat∧S=[K]):=by
 refine bM 16 Tryz.func104 fun ba bf=>?_
 refine fX (aF:=(b9 x)) fun ax=>?_
 refine ds (α:=Nat) (fun i=>i≤x.aw.l.length) (fun i=>[(8,aa (i:Int)),(3,aQ (allM i).toNat),(7,aa (x.aw.l.length:Int))]) (fun i=>[K]) (fun i=>x.aw.l.length-i) 0 ?_ dq aA ?_
 ·omega
 rintro i af
 have l3:=x.aw.small
 refine bT ?_ ?_<;>intro ab
 ·refine gl (tE (allM i) (i:Int)) ?_
  refine cE (i+1) ?_
  omega
 obtain rfl:i=x.aw.l.length:=by omega
 exact bJ
theorem ZH(q:an (Nat→Int))(bF:dI K q.bu (q.l.flatMap jX)):a6 B 105 [az q] [K] (fun v S=>v= .bool (decide (se q.l))∧S=[K]):=by
 refine bM 33 Tryz.func105 fun ba bf=>?_
 refine bD ?_ ?_<;>intro ab
 ·exact aO ⟨by first|rw [decide_eq_false (fun z=>by have:=z.1;omega)]|rw [decide_eq_false (fun z=>by have:=z.2 y (List.mem_of_getElem? bl);omega)]|rw [decide_eq_true ⟨by omega,by rwa [List.take_of_length_le ah]at aE⟩],rfl⟩
 refine ds (α:=Nat) (fun i=>i≤q.l.length∧∀y∈q.l.take i,1≤y 0∧y 0≤16∧1≤y 1∧y 1≤3) (fun i=>[(10,aa (i:Int)),(8,az q),(9,aa (q.l.length:Int))]) (fun i=>[K]) (fun i=>q.l.length-i) 0 ?_ dq aA ?_
 ·exact⟨Nat.zero_le _,by simp⟩
 rintro i ⟨af,aE⟩
 have H0:=q.small
 refine bT ?_ ?_<;>intro ae
 ·obtain⟨y,bl⟩:=fp q.l i
  refine aj ?_
  refine ap (jV (a2:=jX) (aN:=2) (i:=i) (fun _=>rfl) rfl au bF ad bl) ?_
  refine de fun ax=>?_
  refine cc ?_ ?_<;>intro av
  ·exact aO ⟨by first|rw [decide_eq_false (fun z=>by have:=z.1;omega)]|rw [decide_eq_false (fun z=>by have:=z.2 y (List.mem_of_getElem? bl);omega)]|rw [decide_eq_true ⟨by omega,by rwa [List.take_of_length_le ah]at aE⟩],rfl⟩
  refine cc ?_ ?_<;>intro aV
  ·exact aO ⟨by first|rw [decide_eq_false (fun z=>by have:=z.1;omega)]|rw [decide_eq_false (fun z=>by have:=z.2 y (List.mem_of_getElem? bl);omega)]|rw [decide_eq_true ⟨by omega,by rwa [List.take_of_length_le ah]at aE⟩],rfl⟩
  refine cc ?_ ?_<;>intro bN
  ·exact aO ⟨by first|rw [decide_eq_false (fun z=>by have:=z.1;omega)]|rw [decide_eq_false (fun z=>by have:=z.2 y (List.mem_of_getElem? bl);omega)]|rw [decide_eq_true ⟨by omega,by rwa [List.take_of_length_le ah]at aE⟩],rfl⟩
  refine bD ?_ ?_<;>intro c0
  ·exact aO ⟨by first|rw [decide_eq_false (fun z=>by have:=z.1;omega)]|rw [decide_eq_false (fun z=>by have:=z.2 y (List.mem_of_getElem? bl);omega)]|rw [decide_eq_true ⟨by omega,by rwa [List.take_of_length_le ah]at aE⟩],rfl⟩
  exact cE (i+1) ⟨by omega,IR bl ⟨by omega,by omega,by omega,by omega⟩ aE⟩
 exact aO ⟨by first|rw [decide_eq_false (fun z=>by have:=z.1;omega)]|rw [decide_eq_false (fun z=>by have:=z.2 y (List.mem_of_getElem? bl);omega)]|rw [decide_eq_true ⟨by omega,by rwa [List.take_of_length_le ah]at aE⟩],rfl⟩
theorem vS(x:bZ)(al:x.In K)(n:Int):a6 B 122 [x.v,aa n] [K] (fun v S=>v=aQ (b6 x.c n).toNat∧S=[K]):=by
 refine bM 20 Tryz.func122 fun ba bf=>?_
 refine fX (aF:=(b9 x)) fun ax=>?_
 refine cc ?_ ?_<;>intro ab
 ·exact aO ⟨by unfold b6;rw [if_pos ah];rfl,rfl⟩
 refine bD ?_ ?_<;>intro ae
 ·exact aO ⟨by unfold b6;rw [if_neg ah,List.getElem?_eq_none_iff.2 (by simp;omega)];rfl,rfl⟩
 obtain⟨i,rfl⟩:=Int.eq_ofNat_of_zero_le (show 0≤n by omega)
 obtain⟨m,hm⟩:=fp x.a9.l i
 refine aj ?_
 refine ap (eQ (a2:=gg) (aN:=2) (i:=i) (k:=0) (fun _=>rfl) rfl au al.a9 ad hm rfl) ?_
 refine aj ?_
 exact aO ⟨by unfold b6;rw [if_neg ah,Int.toNat_natCast,List.getElem?_map,hm];rfl,rfl⟩
theorem KA(x:bZ)(al:x.In K)(a b:Int):a6 B 164 [x.v,aa a,aa b] [K] (fun v S=>v= .tuple #[aa (jc x.bd.l a b).1,.bool (jc x.bd.l a b).2]∧S=[K]):=by
 refine bM 30 Tryz.func164 fun ba bf=>?_
 refine fX (aF:=(b9 x)) fun ax=>?_
 refine ds (α:=Nat) (fun i=>i≤x.bd.l.length∧∀z∈x.bd.l.take i,¬(z 0=a∧z 1=b)) (fun i=>[(13,aa (i:Int)),(1,aa a),(2,aa b),(11,az x.bd),(12,aa (x.bd.l.length:Int))]) (fun i=>[K]) (fun i=>x.bd.l.length-i) 0 ?_ dq aA ?_
 ·exact⟨Nat.zero_le _,by simp⟩
 rintro i ⟨af,aE⟩
 have l3:=x.bd.small
 refine bT ?_ ?_<;>intro ab
 ·obtain⟨e,bl⟩:=fp x.bd.l i
  refine aj ?_
  refine ap (jV (a2:=dP) (aN:=23) (i:=i) (fun _=>rfl) rfl au al.bd ad bl) ?_
  refine de fun aK=>?_
  refine cc ?_ ?_<;>intro ae
  ·refine bD ?_ ?_<;>intro av
   ·exact aO ⟨by rw [ZF bl ae av aE],rfl⟩
   exact cE (i+1) ⟨by omega,IR bl ah aE⟩
  exact cE (i+1) ⟨by omega,IR bl ah aE⟩
 exact aO ⟨by rw [ZG (by rwa [List.take_of_length_le ah]at aE)],rfl⟩
def pu(f:Nat→Int)(a b:Int):Nat→Option (BitVec 32)
  |0=>some 0#32
  |n+1=>match pu f a b n with
    |none=>none
    |some s=>if f n=0 then some s else if f n<0∨f n>b∨(n:Int)≥a∨hasB s (f n)=true then none else some (s|||dL (f n))
theorem NK{f:Nat→Int}{a b:Int}{n:Nat}(h:pu f a b n=none):∀k,pu f a b (n+k)=none
  |0=>h
  |k+1=>by show pu f a b (n+k+1)=none;rw [pu,NK h k]
theorem Cm{f:Nat→Int}{a b:Int}{n:Nat}{s:BitVec 32}(h:pu f a b n=some s)(b5:f n≠0)(aR:f n<0∨f n>b∨(n:Int)≥a∨hasB s (f n)=true)(aP:n<4):(pu f a b 4).isSome=false:=by
  have ab:pu f a b (n+1)=none:=by rw [pu,h];simp only;rw [if_neg b5,if_pos aR]
  have:=NK ab (3-n)
  rw [show n+1+(3-n)=4 by omega]at this
  rw [this];rfl
abbrev Ty(e:Nat→Int):List Value:=e6 16 fun r=>e (3+r)
abbrev G8(e:Nat→Int):Nat→Int:=fun r=>e (19+r)
abbrev DU(e:Nat→Int)(hN:BitVec 32)(i:Nat):Prop:=0≤e (3+i)∧e (3+i)≤16384∧(0<e (3+i)→e 2=3∧hasB hN (i:Int)=true)
abbrev LC(e:Nat→Int)(hN:BitVec 32):Prop:=∀i,i<16→DU e hN i
def AV(c:ck)(m:Int):Int:=match c.a9[m.toNat]? with
  |some p=>(p.2.length:Int)
  |none=>0
abbrev fs(c:ck)(e:Nat→Int):BitVec 32:=b6 c (e 1)&&&~~~(b6 c (e 0))
abbrev sH(c:ck)(e:Nat→Int):Prop:=0≤e 0∧e 0<c.a9.length∧0≤e 1∧e 1<c.a9.length∧e 0≠e 1∧1≤e 2∧e 2≤3
def mI(c:ck)(i:Nat)(e:Nat→Int):Bool:=decide (sH c e)&&decide ((jc c.bd (e 0) (e 1)).1=(i:Int))&&(pu (G8 e) (AV c (e 0)) (AV c (e 1)) 4).isSome&&decide (LC e (fs c e))
theorem O9{x:bZ}{m:Mode}{n:Int}(b5:0≤n)(h:x.a9.l[n.toNat]?=some m):AV x.c n=(m.q.l.length:Int):=by unfold AV;rw [List.getElem?_map,h];rfl
theorem uC{c:ck}{i:Nat}{e:Nat→Int}(h:¬sH c e):mI c i e=false:=by unfold mI;rw [decide_eq_false h];rfl
theorem uD{c:ck}{i:Nat}{e:Nat→Int}(h:¬(jc c.bd (e 0) (e 1)).1=(i:Int)):mI c i e=false:=by unfold mI;rw [decide_eq_false h];simp
theorem adW(f:Nat→Int)(a b:Int):a6 B 165 [.agg (e6 4 f).toArray,aa a,aa b] [] (fun v S=>v= .bool (pu f a b 4).isSome∧S=[]):=by
 refine bM 40 Tryz.func165 fun ba bf=>?_
 refine eD (aF:=e6 4 f) fun ax=>?_
 refine nH ?_
 refine du (e6 4 f) ?_
 refine aj ?_
 refine ds (α:=Nat×BitVec 32) (fun⟨i,cs⟩=>i≤4∧pu f a b i=some cs) (fun⟨i,cs⟩=>[(11,aa (i:Int)),(7,aQ cs.toNat),(10,.agg (e6 4 f).toArray),(1,aa a),(2,aa b)]) (fun⟨i,cs⟩=>[]) (fun⟨i,cs⟩=>4-i) (0,0#32) ?_ dq aA ?_
 ·exact⟨by omega,rfl⟩
 rintro⟨i,cs⟩ ⟨af,hm⟩
 dsimp only
 refine bT ?_ ?_<;>intro ab
 ·refine ap (xl rfl rfl ad rfl ah (yF ah)) ?_
  refine bT ?_ ?_<;>intro ae
  ·refine cE (i+1,cs) ?_
   (try dsimp only);exact⟨by omega,by rw [pu,hm];simp only;rw [if_pos ae]⟩
  refine cc ?_ ?_<;>intro av
  ·exact aO ⟨by first|(rw [show(4:Nat)=i by omega,hm];rfl)|(rw [Cm hm ae (by first|exact .inl ah|exact .inr (.inl ah)|exact .inr (.inr (.inl ah))|exact .inr (.inr (.inr ch))) ah]),rfl⟩
  refine cc ?_ ?_<;>intro aV
  ·exact aO ⟨by first|(rw [show(4:Nat)=i by omega,hm];rfl)|(rw [Cm hm ae (by first|exact .inl ah|exact .inr (.inl ah)|exact .inr (.inr (.inl ah))|exact .inr (.inr (.inr ch))) ah]),rfl⟩
  refine cc ?_ ?_<;>intro bN
  ·exact aO ⟨by first|(rw [show(4:Nat)=i by omega,hm];rfl)|(rw [Cm hm ae (by first|exact .inl ah|exact .inr (.inl ah)|exact .inr (.inr (.inl ah))|exact .inr (.inr (.inr ch))) ah]),rfl⟩
  refine gl (tO cs (f i)) ?_
  refine bD ?_ ?_<;>intro c0
  ·exact aO ⟨by first|(rw [show(4:Nat)=i by omega,hm];rfl)|(rw [Cm hm ae (by first|exact .inl ah|exact .inr (.inl ah)|exact .inr (.inr (.inl ah))|exact .inr (.inr (.inr ch))) ah]),rfl⟩
  refine gl (tE cs (f i)) ?_
  refine cE (i+1,cs|||dL (f i)) ?_
  (try dsimp only);exact⟨by omega,by rw [pu,hm];simp only;rw [if_neg ae,if_neg (fun z=>by rcases z with z|z|z|z;omega;omega;omega;simp_all)]⟩
 exact aO ⟨by first|(rw [show(4:Nat)=i by omega,hm];rfl)|(rw [Cm hm ae (by first|exact .inl ah|exact .inr (.inl ah)|exact .inr (.inr (.inl ah))|exact .inr (.inr (.inr ch))) ah]),rfl⟩
theorem adX(e:Nat→Int)(hN:BitVec 32):a6 B 166 [.agg (dP e).toArray,aQ hN.toNat] [] (fun v S=>v= .bool (decide (LC e hN))∧S=[]):=by
 refine bM 35 Tryz.func166 fun ba bf=>?_
 refine eD (aF:=dP e) fun ax=>?_
 refine ky ?_
 refine du (Ty e) ?_
 refine aj ?_
 refine ds (α:=Nat) (fun i=>i≤16∧∀j,j<i→DU e hN j) (fun i=>[(9,aa (i:Int)),(8,.agg (Ty e).toArray),(1,aQ hN.toNat),(2,ag ax)]) (fun i=>[U ax (dP e) 184]) (fun i=>16-i) 0 ?_ dq aA ?_
 ·exact⟨by omega,fun j h=>by omega⟩
 rintro i ⟨af,aE⟩
 refine bT ?_ ?_<;>intro ab
 ·refine ap (xl rfl rfl ad rfl ah (yF ah)) ?_
  refine aj ?_
  refine cc ?_ ?_<;>intro ae
  ·exact aO ⟨by first|rw [decide_eq_true (fun j aI=>aE j ah)]|rw [decide_eq_false (fun z=>by have q:=z i ah;have cy:=q.1;have bR:=q.2.1;omega)]|rw [decide_eq_false (fun z=>by have q:=((z i ah).2.2 ch);have cy:=q.1;omega)]|rw [decide_eq_false (fun z=>by have q:=((z i ah).2.2 ch);have cy:=q.2;simp_all)],rfl⟩
  refine cc ?_ ?_<;>intro av
  ·exact aO ⟨by first|rw [decide_eq_true (fun j aI=>aE j ah)]|rw [decide_eq_false (fun z=>by have q:=z i ah;have cy:=q.1;have bR:=q.2.1;omega)]|rw [decide_eq_false (fun z=>by have q:=((z i ah).2.2 ch);have cy:=q.1;omega)]|rw [decide_eq_false (fun z=>by have q:=((z i ah).2.2 ch);have cy:=q.2;simp_all)],rfl⟩
  refine cc ?_ ?_<;>intro aV
  ·refine cc ?_ ?_<;>intro bN
   ·exact aO ⟨by first|rw [decide_eq_true (fun j aI=>aE j ah)]|rw [decide_eq_false (fun z=>by have q:=z i ah;have cy:=q.1;have bR:=q.2.1;omega)]|rw [decide_eq_false (fun z=>by have q:=((z i ah).2.2 ch);have cy:=q.1;omega)]|rw [decide_eq_false (fun z=>by have q:=((z i ah).2.2 ch);have cy:=q.2;simp_all)],rfl⟩
   refine gl (tO hN (i:Int)) ?_
   refine bD ?_ ?_<;>intro c0
   ·exact aO ⟨by first|rw [decide_eq_true (fun j aI=>aE j ah)]|rw [decide_eq_false (fun z=>by have q:=z i ah;have cy:=q.1;have bR:=q.2.1;omega)]|rw [decide_eq_false (fun z=>by have q:=((z i ah).2.2 ch);have cy:=q.1;omega)]|rw [decide_eq_false (fun z=>by have q:=((z i ah).2.2 ch);have cy:=q.2;simp_all)],rfl⟩
   exact cE (i+1) ⟨by omega,fun j aI=>by rcases Nat.lt_succ_iff_lt_or_eq.1 aI with q|rfl;exact aE j q;exact⟨by omega,by omega,fun q=>by first|(exfalso;omega)|exact⟨by assumption,by assumption⟩⟩⟩
  exact cE (i+1) ⟨by omega,fun j aI=>by rcases Nat.lt_succ_iff_lt_or_eq.1 aI with q|rfl;exact aE j q;exact⟨by omega,by omega,fun q=>by first|(exfalso;omega)|exact⟨by assumption,by assumption⟩⟩⟩
 exact aO ⟨by first|rw [decide_eq_true (fun j aI=>aE j ah)]|rw [decide_eq_false (fun z=>by have q:=z i ah;have cy:=q.1;have bR:=q.2.1;omega)]|rw [decide_eq_false (fun z=>by have q:=((z i ah).2.2 ch);have cy:=q.1;omega)]|rw [decide_eq_false (fun z=>by have q:=((z i ah).2.2 ch);have cy:=q.2;simp_all)],rfl⟩
end Go.Proofs.YtkpibibplbjciaaGreatDoor
