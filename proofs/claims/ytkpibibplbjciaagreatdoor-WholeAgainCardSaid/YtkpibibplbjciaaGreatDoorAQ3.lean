/- A part of the proof of WholeAgain: it hangs on nothing beside the given files. -/
import Derived.Test.YtkpibibplbjciaaGreatDoorAQ2
import Derived.Test.YtkpibibplbjciaaGreatDoorProg
import Derived.WalkKit
import Derived.RangeFuncNested
import Derived.RangeFuncLeaves
import Derived.OrdersIn
import Derived.Shelf.Abstract
import Derived.DeepKeys
import Derived.ProofKit
import Derived.OpenShut
import Derived.ShutString
import Derived.ChangeOld
import Derived.Below
import Derived.Carry
import Derived.Deep.Slices
import Derived.LaidLaws
import Derived.LaidHandle
import Derived.MakeChecks
import Derived.FnData
import Derived.Stop.Joined
import Derived.Laws.OwnMore
import Derived.Laws.AppendOwn
import Derived.Laws.BytesArg
import Derived.Laws.MakeOwn
import Derived.MapKept
import Derived.LoopNIn
import Derived.KernelRfl
import Derived.Lib.Bytealg
set_option linter.unusedVariables false
set_option linter.unusedSectionVars false
set_option linter.unusedSimpArgs false
namespace Go.Proofs.YtkpibibplbjciaaGreatDoor
open Go Go.Sl
set_option maxRecDepth 4000
variable {B : Nat} {K : ao B}
theorem e2{P:Program}{f:FuncId}(h:Go.Proofs.Enters P f:=by exact pa (by kernel_rfl)):Go.Proofs.Enters P f:=h
instance:aK (gH Tryz.prog 364) (some ([.int .u32 0],[(0,1)])):=aL
instance:aK (gH Tryz.prog 403) (some ([.int .u32 0,.int .u32 0],[(0,1),(1,1)])):=aL
instance:aK (q6 Tryz.prog 42 5) (some .u8):=aL
instance:aK (q6 Tryz.prog 5 42) (some .u32):=aL
instance:aK (Tryz.prog.eqGuardType Tryz.prog.depth 403) (false):=aL
instance:aK (kR Tryz.prog 12 403) (some [some .u32,some .u32]):=aL
instance:aK (bU Tryz.prog 271 0) (some 0):=aL
instance:aK (bU Tryz.prog 271 1) (some 1):=aL
instance:aK (bU Tryz.prog 364 0) (some 0):=aL
instance:aK (bU Tryz.prog 403 0) (some 0):=aL
instance:aK (bU Tryz.prog 403 1) (some 1):=aL
instance:aK (Tryz.prog.follows .mixedOrders) (true):=aL
instance:aK (cx Tryz.prog 3) (some (false,1)):=aL
instance:aK (cx Tryz.prog 364) (some (true,1)):=aL
instance:aK (cx Tryz.prog 403) (some (true,2)):=aL
instance:aK (cx Tryz.prog 42) (some (false,1)):=aL
instance:aK (zeroOf Tryz.prog 364) (some [.int .u32 0]):=aL
instance:aK (zeroOf Tryz.prog 403) (some [.int .u32 0,.int .u32 0]):=aL
instance:aK (bU Tryz.prog 196 0) (some 0):=aL
instance:aK (bU Tryz.prog 196 1) (some 1):=aL
instance:aK (bU Tryz.prog 196 3) (some 3):=aL
instance:aK (bU Tryz.prog 196 4) (some 4):=aL
instance:aK (bU Tryz.prog 196 5) (some 5):=aL
instance:aK (bU Tryz.prog 196 6) (some 6):=aL
instance:aK (bU Tryz.prog 196 7) (some 8):=aL
instance:aK (bU Tryz.prog 52 0) (some 0):=aL
instance:aK (hz Tryz.prog 102) (some (3,1)):=aL
instance:aK (cx Tryz.prog 102) (some (false,1)):=aL
instance:aK (cx Tryz.prog 4) (some (false,1)):=aL
instance:aK (cx Tryz.prog 52) (some (true,2)):=aL
instance:aK (bU Tryz.prog 196 2) (some 2):=aL
instance:aK (bU Tryz.prog 52 1) (some 1):=aL
instance:aK (hz Tryz.prog 46) (some (42,1)):=aL
instance:aK (cx Tryz.prog 46) (some (false,1)):=aL
instance:aK (iK Tryz.prog 46) (some (42,1,4,[.int .u32 0])):=aL
instance:aK (gH Tryz.prog 196) (some ([.int .i64 0,.int .i64 0,.slice none 0 0,.slice none 0 0,.bool false,.bool false,.int .i64 0,.int .u32 0,.int .i64 0],[(0,1),(1,1),(2,1),(3,1),(4,1),(5,1),(6,2),(8,1)])):=aL
instance:aK (iK Tryz.prog 102) (some (3,1,8,[.int .i64 0])):=aL
instance:aK (gH Tryz.prog 276) (some ([.int .u32 0,.int .u32 0,.int .u32 0],[(0,1),(1,1),(2,1)])):=aL
instance:aK (gH Tryz.prog 278) (some ([.int .u32 0,.int .u32 0,.int .u32 0,.bool false,.bool false,.int .i64 0],[(0,3),(3,1),(4,1),(5,1)])):=aL
instance:aK (bU Tryz.prog 278 0) (some 0):=aL
instance:aK (bU Tryz.prog 278 1) (some 3):=aL
instance:aK (bU Tryz.prog 278 2) (some 4):=aL
instance:aK (bU Tryz.prog 278 3) (some 5):=aL
instance:aK (cx Tryz.prog 276) (some (true,3)):=aL
instance:aK (cx Tryz.prog 278) (some (true,6)):=aL
instance:aK (cx Tryz.prog 401) (some (false,1)):=aL
instance:aK (zeroOf Tryz.prog 276) (some [.int .u32 0,.int .u32 0,.int .u32 0]):=aL
instance:aK (zeroOf Tryz.prog 278) (some [.int .u32 0,.int .u32 0,.int .u32 0,.bool false,.bool false,.int .i64 0]):=aL
instance:aK (zeroOf Tryz.prog 401) (some [.nilFunc]):=aL
instance:aK (ny Tryz.prog 276) true:=aL
instance:aK (gH Tryz.prog 389) (some ([.int .i64 0,.int .u32 0],[(0,1),(1,1)])):=aL
instance:aK (bU Tryz.prog 276 0) (some 0):=aL
instance:aK (bU Tryz.prog 276 1) (some 1):=aL
instance:aK (bU Tryz.prog 276 2) (some 2):=aL
instance:aK (gH Tryz.prog 273) (some ([.pointer none,.int .i64 0,.int .i64 0,.bool false,.int .i64 0,.int .u32 0,.int .i64 0],[(0,1),(1,1),(2,1),(3,1),(4,1),(5,2)])):=aL
instance:aK (bU Tryz.prog 273 0) (some 0):=aL
instance:aK (bU Tryz.prog 273 1) (some 1):=aL
instance:aK (bU Tryz.prog 273 2) (some 2):=aL
instance:aK (bU Tryz.prog 273 3) (some 3):=aL
instance:aK (bU Tryz.prog 273 4) (some 4):=aL
instance:aK (uk Tryz.prog 113) (true):=aL
instance:aK (cx Tryz.prog 113) (some (false,1)):=aL
instance:aK (q6 Tryz.prog 42 3) (some .i64):=aL
instance:aK (cx Tryz.prog 197) (some (false,1)):=aL
instance:aK (zeroOf Tryz.prog 4) (some [.bool false]):=aL
instance:aK (cx Tryz.prog 271) (some (true,2)):=aL
instance:aK (zeroOf Tryz.prog 271) (some [.int .u32 0,.int .i64 0]):=aL
instance:aK (zeroOf Tryz.prog 46) (some [.slice none 0 0]):=aL
instance:aK (ny Tryz.prog 271) true:=aL
instance:aK (bU Tryz.prog 389 0) (some 0):=aL
instance:aK (bU Tryz.prog 389 1) (some 1):=aL
instance:aK (cx Tryz.prog 389) (some (true,2)):=aL
instance:aK (cx Tryz.prog 53) (some (false,1)):=aL
instance:aK (zeroOf Tryz.prog 389) (some [.int .i64 0,.int .u32 0]):=aL
instance:aK (zeroOf Tryz.prog 53) (some [.int .i64 0]):=aL
instance:aK (bU Tryz.prog 273 5) (some 5):=aL
instance:aK (q6 Tryz.prog 3 42) (some .u32):=aL
instance:aK (nS Tryz.prog 198) (some (2,1)):=aL
instance:aK (gH Tryz.prog 124) (some ([.int .i64 0,.int .u32 0,.bool false,.slice none 0 0],[(0,1),(1,1),(2,1),(3,1)])):=aL
instance:aK (bU Tryz.prog 200 1) (some 1):=aL
instance:aK (cx Tryz.prog 124) (some (true,4)):=aL
instance:aK (zeroOf Tryz.prog 124) (some [.int .i64 0,.int .u32 0,.bool false,.slice none 0 0]):=aL
instance:aK (ny Tryz.prog 124) true:=aL
instance:aK (ya Tryz.prog 278 2) (some 4):=aL
instance:aK (bU Tryz.prog 200 2) (some 3):=aL
instance:aK (bU Tryz.prog 200 0) (some 0):=aL
instance:aK (bU Tryz.prog 124 2) (some 2):=aL
instance:aK (v9 Tryz.prog 198) (some 2):=aL
instance:aK (ya Tryz.prog 276 0) (some 0):=aL
instance:aK (Hc Tryz.prog 278 0) (some (0,3)):=aL
instance:aK (cx Tryz.prog 198) (some (true,2)):=aL
instance:aK (gH Tryz.prog 200) (some ([.pointer none,.pointer none,.pointer none,.int .i64 0],[(0,1),(1,2),(3,1)])):=aL
instance:aK (nS Tryz.prog 405) (some (32,1)):=aL
instance:aK (q6 Tryz.prog 5 3) (some .i64):=aL
instance:aK (cx Tryz.prog 158) (some (false,1)):=aL
instance:aK (cx Tryz.prog 5) (some (false,1)):=aL
instance:aK (Tryz.prog.underlying 9) (some .string):=aL
instance:aK (q6 Tryz.prog 3 193) (some .u64):=aL
instance:aK (bU Tryz.prog 177 1) (some 1):=aL
instance:aK (bU Tryz.prog 41 1) (some 1):=aL
instance:aK (bU Tryz.prog 41 2) (some 2):=aL
instance:aK (bU Tryz.prog 41 3) (some 3):=aL
instance:aK (hz Tryz.prog 175) (some (180,2)):=aL
instance:aK (hz Tryz.prog 37) (some (173,11)):=aL
instance:aK (hz Tryz.prog 38) (some (177,2)):=aL
instance:aK (hz Tryz.prog 39) (some (184,23)):=aL
instance:aK (cx Tryz.prog 175) (some (false,1)):=aL
instance:aK (cx Tryz.prog 37) (some (false,1)):=aL
instance:aK (cx Tryz.prog 38) (some (false,1)):=aL
instance:aK (cx Tryz.prog 39) (some (false,1)):=aL
instance:aK (v9 Tryz.prog 258) (some 8):=aL
instance:aK (v9 Tryz.prog 99) (some 8):=aL
instance:aK (nS Tryz.prog 258) (some (8,1)):=aL
instance:aK (bU Tryz.prog 173 3) (some 3):=aL
instance:aK (cx Tryz.prog 173) (some (true,11)):=aL
instance:aK (cx Tryz.prog 258) (some (true,8)):=aL
instance:aK (cx Tryz.prog 99) (some (true,8)):=aL
instance:aK (zeroOf Tryz.prog 258) (some [.int .i64 0,.int .i64 0,.int .i64 0,.int .i64 0,.int .i64 0,.int .i64 0,.int .i64 0,.int .i64 0]):=aL
instance:aK (zeroOf Tryz.prog 3) (some [.int .i64 0]):=aL
instance:aK (ny Tryz.prog 258) true:=aL
instance:aK (nS Tryz.prog 99) (some (8,1)):=aL
instance:aK (gH Tryz.prog 253) (some ([.int .i64 0,.int .i64 0,.int .i64 0,.int .i64 0,.int .i64 0,.slice none 0 0],[(0,1),(1,1),(2,1),(3,1),(4,1),(5,1)])):=aL
instance:aK (bU Tryz.prog 135 0) (some 0):=aL
instance:aK (bU Tryz.prog 135 1) (some 1):=aL
instance:aK (bU Tryz.prog 135 2) (some 2):=aL
instance:aK (bU Tryz.prog 173 1) (some 1):=aL
instance:aK (bU Tryz.prog 173 2) (some 2):=aL
instance:aK (bU Tryz.prog 253 2) (some 2):=aL
instance:aK (bU Tryz.prog 253 3) (some 3):=aL
instance:aK (bU Tryz.prog 253 4) (some 4):=aL
instance:aK (bU Tryz.prog 253 5) (some 5):=aL
instance:aK (hz Tryz.prog 61) (some (135,3)):=aL
instance:aK (iK Tryz.prog 61) (some (135,3,24,[.int .i64 0,.int .i64 0,.int .i64 0])):=aL
instance:aK (cx Tryz.prog 135) (some (true,3)):=aL
instance:aK (cx Tryz.prog 253) (some (true,6)):=aL
instance:aK (cx Tryz.prog 61) (some (false,1)):=aL
instance:aK (zeroOf Tryz.prog 135) (some [.int .i64 0,.int .i64 0,.int .i64 0]):=aL
instance:aK (zeroOf Tryz.prog 253) (some [.int .i64 0,.int .i64 0,.int .i64 0,.int .i64 0,.int .i64 0,.slice none 0 0]):=aL
instance:aK (ny Tryz.prog 135) true:=aL
instance:aK (nS Tryz.prog 255) (some (32,1)):=aL
instance:aK (bU Tryz.prog 257 0) (some 0):=aL
instance:aK (bU Tryz.prog 257 1) (some 1):=aL
instance:aK (bU Tryz.prog 257 2) (some 33):=aL
instance:aK (cx Tryz.prog 423) (some (false,1)):=aL
instance:aK (bU Tryz.prog 253 0) (some 0):=aL
instance:aK (bU Tryz.prog 260 2) (some 97):=aL
instance:aK (bU Tryz.prog 260 3) (some 131):=aL
instance:aK (nS Tryz.prog 254) (some (16,6)):=aL
instance:aK (gH Tryz.prog 260) (some ([.int .i64 0,.int .i64 0,.int .i64 0,.int .i64 0,.int .i64 0,.slice none 0 0,.int .i64 0,.int .i64 0,.int .i64 0,.int .i64 0,.int .i64 0,.slice none 0 0,.int .i64 0,.int .i64 0,.int .i64 0,.int .i64 0,.int .i64 0,.slice none 0 0,.int .i64 0,.int .i64 0,.int .i64 0,.int .i64 0,.int .i64 0,.slice none 0 0,.int .i64 0,.int .i64 0,.int .i64 0,.int .i64 0,.int .i64 0,.slice none 0 0,.int .i64 0,.int .i64 0,.int .i64 0,.int .i64 0,.int .i64 0,.slice none 0 0,.int .i64 0,.int .i64 0,.int .i64 0,.int .i64 0,.int .i64 0,.slice none 0 0,.int .i64 0,.int .i64 0,.int .i64 0,.int .i64 0,.int .i64 0,.slice none 0 0,.int .i64 0,.int .i64 0,.int .i64 0,.int .i64 0,.int .i64 0,.slice none 0 0,.int .i64 0,.int .i64 0,.int .i64 0,.int .i64 0,.int .i64 0,.slice none 0 0,.int .i64 0,.int .i64 0,.int .i64 0,.int .i64 0,.int .i64 0,.slice none 0 0,.int .i64 0,.int .i64 0,.int .i64 0,.int .i64 0,.int .i64 0,.slice none 0 0,.int .i64 0,.int .i64 0,.int .i64 0,.int .i64 0,.int .i64 0,.slice none 0 0,.int .i64 0,.int .i64 0,.int .i64 0,.int .i64 0,.int .i64 0,.slice none 0 0,.int .i64 0,.int .i64 0,.int .i64 0,.int .i64 0,.int .i64 0,.slice none 0 0,.int .i64 0,.int .i64 0,.int .i64 0,.int .i64 0,.int .i64 0,.slice none 0 0,.int .u32 0,.int .u32 0,.int .u32 0,.int .u32 0,.int .u32 0,.int .u32 0,.int .u32 0,.int .u32 0,.int .u32 0,.int .u32 0,.int .u32 0,.int .u32 0,.int .u32 0,.int .u32 0,.int .u32 0,.int .u32 0,.int .u32 0,.int .u32 0,.int .u32 0,.int .u32 0,.int .u32 0,.int .u32 0,.int .u32 0,.int .u32 0,.int .u32 0,.int .u32 0,.int .u32 0,.int .u32 0,.int .u32 0,.int .u32 0,.int .u32 0,.int .u32 0,.int .u32 0,.int .u32 0,.int .u32 0,.int .i64 0,.int .i64 0,.int .i64 0,.int .i64 0,.int .i64 0,.int .i64 0,.int .i64 0,.int .i64 0,.int .i64 0],[(0,96),(96,1),(97,34),(131,8),(139,1)])):=aL
instance:aK (bU Tryz.prog 260 0) (some 0):=aL
instance:aK (bU Tryz.prog 260 1) (some 96):=aL
instance:aK (bU Tryz.prog 260 4) (some 139):=aL
instance:aK (cx Tryz.prog 157) (some (false,1)):=aL
instance:aK (gH Tryz.prog 300) (some ([.int .i64 0,.int .i64 0,.int .i64 0,.bool false,.int .i64 0,.bool false],[(0,1),(1,1),(2,1),(3,1),(4,1),(5,1)])):=aL
instance:aK (bU Tryz.prog 253 1) (some 1):=aL
instance:aK (bU Tryz.prog 300 1) (some 1):=aL
instance:aK (bU Tryz.prog 300 2) (some 2):=aL
instance:aK (bU Tryz.prog 300 3) (some 3):=aL
instance:aK (bU Tryz.prog 300 4) (some 4):=aL
instance:aK (bU Tryz.prog 300 5) (some 5):=aL
instance:aK (cx Tryz.prog 300) (some (true,6)):=aL
instance:aK (zeroOf Tryz.prog 300) (some [.int .i64 0,.int .i64 0,.int .i64 0,.bool false,.int .i64 0,.bool false]):=aL
instance:aK (bU Tryz.prog 173 0) (some 0):=aL
instance:aK (bU Tryz.prog 177 0) (some 0):=aL
instance:aK (bU Tryz.prog 180 0) (some 0):=aL
instance:aK (bU Tryz.prog 180 1) (some 1):=aL
instance:aK (bU Tryz.prog 184 0) (some 0):=aL
instance:aK (bU Tryz.prog 184 1) (some 1):=aL
instance:aK (cx Tryz.prog 178) (some (false,1)):=aL
instance:aK (cx Tryz.prog 180) (some (true,2)):=aL
instance:aK (cx Tryz.prog 184) (some (true,23)):=aL
instance:aK (zeroOf Tryz.prog 180) (some [.int .i64 0,.int .i64 0]):=aL
instance:aK (zeroOf Tryz.prog 184) (some [.int .i64 0,.int .i64 0,.int .i64 0,.int .i64 0,.int .i64 0,.int .i64 0,.int .i64 0,.int .i64 0,.int .i64 0,.int .i64 0,.int .i64 0,.int .i64 0,.int .i64 0,.int .i64 0,.int .i64 0,.int .i64 0,.int .i64 0,.int .i64 0,.int .i64 0,.int .i64 0,.int .i64 0,.int .i64 0,.int .i64 0]):=aL
instance:aK (v9 Tryz.prog 105) (some 16):=aL
instance:aK (v9 Tryz.prog 33) (some 4):=aL
instance:aK (bU Tryz.prog 184 2) (some 2):=aL
instance:aK (bU Tryz.prog 184 3) (some 3):=aL
instance:aK (cx Tryz.prog 105) (some (true,16)):=aL
instance:aK (cx Tryz.prog 182) (some (false,1)):=aL
instance:aK (cx Tryz.prog 33) (some (true,4)):=aL
instance:aK (bU Tryz.prog 184 4) (some 19):=aL
instance:aK (cx Tryz.prog 41) (some (true,4)):=aL
instance:aK (bU Tryz.prog 41 0) (some 0):=aL
instance:aK (cx Tryz.prog 177) (some (true,2)):=aL
instance:aK (zeroOf Tryz.prog 173) (some [.int .i64 0,.int .i64 0,.int .i64 0,.int .i64 0,.int .i64 0,.int .i64 0,.int .i64 0,.int .i64 0,.int .i64 0,.int .i64 0,.int .i64 0]):=aL
instance:aK (zeroOf Tryz.prog 177) (some [.int .u32 0,.slice none 0 0]):=aL
instance:aK (iK Tryz.prog 175) (some (180,2,16,[.int .i64 0,.int .i64 0])):=aL
instance:aK (iK Tryz.prog 37) (some (173,11,88,[.int .i64 0,.int .i64 0,.int .i64 0,.int .i64 0,.int .i64 0,.int .i64 0,.int .i64 0,.int .i64 0,.int .i64 0,.int .i64 0,.int .i64 0])):=aL
instance:aK (iK Tryz.prog 38) (some (177,2,32,[.int .u32 0,.slice none 0 0])):=aL
instance:aK (iK Tryz.prog 39) (some (184,23,184,[.int .i64 0,.int .i64 0,.int .i64 0,.int .i64 0,.int .i64 0,.int .i64 0,.int .i64 0,.int .i64 0,.int .i64 0,.int .i64 0,.int .i64 0,.int .i64 0,.int .i64 0,.int .i64 0,.int .i64 0,.int .i64 0,.int .i64 0,.int .i64 0,.int .i64 0,.int .i64 0,.int .i64 0,.int .i64 0,.int .i64 0])):=aL
instance:aK (zeroOf Tryz.prog 41) (some [.int .i64 0,.slice none 0 0,.slice none 0 0,.slice none 0 0]):=aL
instance:aK (bU Tryz.prog 208 0) (some 0):=aL
instance:aK (bU Tryz.prog 208 1) (some 1):=aL
instance:aK (bU Tryz.prog 208 2) (some 2):=aL
instance:aK (zeroOf Tryz.prog 158) (some [.int .u32 0]):=aL
instance:aK (gH Tryz.prog 173) (some ([.int .i64 0,.int .i64 0,.int .i64 0,.int .i64 0,.int .i64 0,.int .i64 0,.int .i64 0,.int .i64 0,.int .i64 0,.int .i64 0,.int .i64 0],[(0,1),(1,1),(2,1),(3,8)])):=aL
instance:aK (q6 Tryz.prog 3 158) (some .u32):=aL
instance:aK (cx Tryz.prog 206) (some (false,1)):=aL
instance:aK (gH Tryz.prog 177) (some ([.int .u32 0,.slice none 0 0],[(0,1),(1,1)])):=aL
instance:aK (gH Tryz.prog 180) (some ([.int .i64 0,.int .i64 0],[(0,1),(1,1)])):=aL
instance:aK (nS Tryz.prog 105) (some (16,1)):=aL
instance:aK (nS Tryz.prog 33) (some (4,1)):=aL
instance:aK (gH Tryz.prog 184) (some ([.int .i64 0,.int .i64 0,.int .i64 0,.int .i64 0,.int .i64 0,.int .i64 0,.int .i64 0,.int .i64 0,.int .i64 0,.int .i64 0,.int .i64 0,.int .i64 0,.int .i64 0,.int .i64 0,.int .i64 0,.int .i64 0,.int .i64 0,.int .i64 0,.int .i64 0,.int .i64 0,.int .i64 0,.int .i64 0,.int .i64 0],[(0,1),(1,1),(2,1),(3,16),(19,4)])):=aL
instance:aK (gH Tryz.prog 208) (some ([.slice none 0 0,.int .i64 0,.bool false],[(0,1),(1,1),(2,1)])):=aL
instance:aK (gH Tryz.prog 41) (some ([.int .i64 0,.slice none 0 0,.slice none 0 0,.slice none 0 0],[(0,1),(1,1),(2,1),(3,1)])):=aL
instance:aK (ny Tryz.prog 41) true:=aL
instance:aK (gH Tryz.prog 398) (some ([.int .i64 0,.int .i64 0,.int .i64 0,.int .i64 0],[(0,1),(1,1),(2,1),(3,1)])):=aL
instance:aK (bU Tryz.prog 398 0) (some 0):=aL
instance:aK (bU Tryz.prog 398 1) (some 1):=aL
instance:aK (bU Tryz.prog 398 2) (some 2):=aL
instance:aK (bU Tryz.prog 398 3) (some 3):=aL
instance:aK (hz Tryz.prog 394) (some (398,4)):=aL
instance:aK (cx Tryz.prog 394) (some (false,1)):=aL
instance:aK (cx Tryz.prog 398) (some (true,4)):=aL
instance:aK (zeroOf Tryz.prog 398) (some [.int .i64 0,.int .i64 0,.int .i64 0,.int .i64 0]):=aL
instance:aK (iK Tryz.prog 394) (some (398,4,32,[.int .i64 0,.int .i64 0,.int .i64 0,.int .i64 0])):=aL
instance:aK (zeroOf Tryz.prog 394) (some [.slice none 0 0]):=aL
instance:aK (gH Tryz.prog 334) (some ([.int .i64 0,.int .i64 0,.int .i64 0],[(0,1),(1,1),(2,1)])):=aL
instance:aK (bU Tryz.prog 334 1) (some 1):=aL
instance:aK (bU Tryz.prog 334 2) (some 2):=aL
instance:aK (cx Tryz.prog 334) (some (true,3)):=aL
instance:aK (zeroOf Tryz.prog 334) (some [.int .i64 0,.int .i64 0,.int .i64 0]):=aL
instance:aK (ny Tryz.prog 334) true:=aL
instance:aK (iK Tryz.prog 261) (some (334,3,24,[.int .i64 0,.int .i64 0,.int .i64 0])):=aL
instance:aK (cx Tryz.prog 261) (some (false,1)):=aL
instance:aK (zeroOf Tryz.prog 261) (some [.slice none 0 0]):=aL
instance:aK (gH Tryz.prog 338) (some ([.int .u32 0,.int .u32 0,.int .u32 0],[(0,1),(1,1),(2,1)])):=aL
instance:aK (bU Tryz.prog 338 0) (some 0):=aL
instance:aK (bU Tryz.prog 338 1) (some 1):=aL
instance:aK (bU Tryz.prog 338 2) (some 2):=aL
instance:aK (cx Tryz.prog 338) (some (true,3)):=aL
instance:aK (zeroOf Tryz.prog 338) (some [.int .u32 0,.int .u32 0,.int .u32 0]):=aL
instance:aK (gH Tryz.prog 343) (some ([.int .i64 0,.slice none 0 0,.slice none 0 0,.slice none 0 0,.int .u32 0,.int .u32 0,.int .u32 0,.int .i64 0,.int .i64 0,.int .i64 0,.int .i64 0,.int .i64 0,.int .i64 0,.int .i64 0,.int .i64 0,.int .i64 0,.int .i64 0,.int .i64 0,.int .i64 0,.int .i64 0,.int .i64 0,.int .i64 0,.int .i64 0,.int .i64 0,.int .i64 0,.int .i64 0,.int .i64 0,.int .i64 0,.int .i64 0,.int .i64 0,.int .i64 0],[(0,4),(4,3),(7,8),(15,16)])):=aL
instance:aK (bU Tryz.prog 343 1) (some 4):=aL
instance:aK (bU Tryz.prog 343 3) (some 15):=aL
instance:aK (cx Tryz.prog 343) (some (true,31)):=aL
instance:aK (zeroOf Tryz.prog 343) (some [.int .i64 0,.slice none 0 0,.slice none 0 0,.slice none 0 0,.int .u32 0,.int .u32 0,.int .u32 0,.int .i64 0,.int .i64 0,.int .i64 0,.int .i64 0,.int .i64 0,.int .i64 0,.int .i64 0,.int .i64 0,.int .i64 0,.int .i64 0,.int .i64 0,.int .i64 0,.int .i64 0,.int .i64 0,.int .i64 0,.int .i64 0,.int .i64 0,.int .i64 0,.int .i64 0,.int .i64 0,.int .i64 0,.int .i64 0,.int .i64 0,.int .i64 0]):=aL
instance:aK (bU Tryz.prog 343 0) (some 0):=aL
instance:aK (cx Tryz.prog 438) (some (false,1)):=aL
instance:aK (bU Tryz.prog 343 2) (some 7):=aL
instance:aK (gH Tryz.prog 190) (some ([.int .i64 0,.int .i64 0],[(0,1),(1,1)])):=aL
instance:aK (cx Tryz.prog 190) (some (true,2)):=aL
instance:aK (zeroOf Tryz.prog 190) (some [.int .i64 0,.int .i64 0]):=aL
instance:aK (ny Tryz.prog 190) true:=aL
instance:aK (bU Tryz.prog 164 0) (some 0):=aL
instance:aK (bU Tryz.prog 164 1) (some 1):=aL
instance:aK (iK Tryz.prog 161) (some (261,1,24,[.slice none 0 0])):=aL
instance:aK (iK Tryz.prog 162) (some (190,2,16,[.int .i64 0,.int .i64 0])):=aL
instance:aK (cx Tryz.prog 161) (some (false,1)):=aL
instance:aK (cx Tryz.prog 162) (some (false,1)):=aL
instance:aK (cx Tryz.prog 164) (some (true,2)):=aL
instance:aK (zeroOf Tryz.prog 164) (some [.slice none 0 0,.slice none 0 0]):=aL
instance:aK (ny Tryz.prog 164) true:=aL
instance:aK (gH Tryz.prog 356) (some ([.int .i64 0,.int .i64 0,.slice none 0 0,.int .i64 0],[(0,2),(2,1),(3,1)])):=aL
instance:aK (iK Tryz.prog 168) (some (289,1,8,[.pointer none])):=aL
instance:aK (gH Tryz.prog 288) (some ([.int .i64 0,.slice none 0 0,.slice none 0 0,.slice none 0 0,.slice none 0 0,.slice none 0 0,.int .i64 0,.int .i64 0,.int .i64 0,.int .i64 0,.int .i64 0,.int .i64 0,.int .u32 0,.pointer none,.int .i64 0],[(0,4),(4,2),(6,1),(7,1),(8,1),(9,1),(10,1),(11,1),(12,1),(13,2)])):=aL
instance:aK (bU Tryz.prog 288 0) (some 0):=aL
instance:aK (bU Tryz.prog 288 2) (some 6):=aL
instance:aK (bU Tryz.prog 288 3) (some 7):=aL
instance:aK (bU Tryz.prog 288 4) (some 8):=aL
instance:aK (cx Tryz.prog 283) (some (false,1)):=aL
instance:aK (bU Tryz.prog 170 0) (some 0):=aL
instance:aK (bU Tryz.prog 170 2) (some 2):=aL
instance:aK (bU Tryz.prog 170 5) (some 40):=aL
instance:aK (bU Tryz.prog 170 7) (some 42):=aL
instance:aK (cx Tryz.prog 167) (some (false,1)):=aL
instance:aK (gH Tryz.prog 170) (some ([.pointer none,.int .u32 0,.int .i64 0,.slice none 0 0,.slice none 0 0,.slice none 0 0,.slice none 0 0,.slice none 0 0,.int .i64 0,.int .i64 0,.int .i64 0,.int .i64 0,.int .i64 0,.int .i64 0,.int .i64 0,.int .i64 0,.int .i64 0,.int .i64 0,.int .i64 0,.int .i64 0,.int .i64 0,.int .i64 0,.int .i64 0,.int .i64 0,.int .i64 0,.int .i64 0,.int .i64 0,.int .i64 0,.int .i64 0,.int .i64 0,.int .i64 0,.int .i64 0,.int .i64 0,.int .i64 0,.int .i64 0,.int .i64 0,.int .i64 0,.int .i64 0,.int .i64 0,.int .i64 0,.pointer none,.slice none 0 0,.int .u32 0,.int .i64 0,.slice none 0 0],[(0,1),(1,1),(2,4),(6,2),(8,32),(40,1),(41,1),(42,1),(43,1),(44,1)])):=aL
instance:aK (bU Tryz.prog 170 6) (some 41):=aL
instance:aK (cx Tryz.prog 168) (some (false,1)):=aL
instance:aK (gH Tryz.prog 104) (some ([.int .i64 0,.slice none 0 0,.slice none 0 0,.slice none 0 0,.slice none 0 0,.slice none 0 0,.int .i64 0,.int .i64 0,.int .i64 0,.int .i64 0,.int .i64 0,.int .i64 0,.int .i64 0],[(0,4),(4,1),(5,1),(6,1),(7,1),(8,1),(9,1),(10,1),(11,1),(12,1)])):=aL
instance:aK (bU Tryz.prog 101 1) (some 96):=aL
instance:aK (bU Tryz.prog 104 0) (some 0):=aL
instance:aK (bU Tryz.prog 104 3) (some 6):=aL
instance:aK (bU Tryz.prog 104 5) (some 8):=aL
instance:aK (bU Tryz.prog 109 0) (some 0):=aL
instance:aK (bU Tryz.prog 109 1) (some 4):=aL
instance:aK (bU Tryz.prog 109 2) (some 109):=aL
instance:aK (cx Tryz.prog 101) (some (true,105)):=aL
instance:aK (cx Tryz.prog 104) (some (true,13)):=aL
instance:aK (cx Tryz.prog 109) (some (true,141)):=aL
instance:aK (zeroOf Tryz.prog 101) (some [.bool false,.int .i64 0,.int .i64 0,.int .i64 0,.int .i64 0,.slice none 0 0,.bool false,.int .i64 0,.int .i64 0,.int .i64 0,.int .i64 0,.slice none 0 0,.bool false,.int .i64 0,.int .i64 0,.int .i64 0,.int .i64 0,.slice none 0 0,.bool false,.int .i64 0,.int .i64 0,.int .i64 0,.int .i64 0,.slice none 0 0,.bool false,.int .i64 0,.int .i64 0,.int .i64 0,.int .i64 0,.slice none 0 0,.bool false,.int .i64 0,.int .i64 0,.int .i64 0,.int .i64 0,.slice none 0 0,.bool false,.int .i64 0,.int .i64 0,.int .i64 0,.int .i64 0,.slice none 0 0,.bool false,.int .i64 0,.int .i64 0,.int .i64 0,.int .i64 0,.slice none 0 0,.bool false,.int .i64 0,.int .i64 0,.int .i64 0,.int .i64 0,.slice none 0 0,.bool false,.int .i64 0,.int .i64 0,.int .i64 0,.int .i64 0,.slice none 0 0,.bool false,.int .i64 0,.int .i64 0,.int .i64 0,.int .i64 0,.slice none 0 0,.bool false,.int .i64 0,.int .i64 0,.int .i64 0,.int .i64 0,.slice none 0 0,.bool false,.int .i64 0,.int .i64 0,.int .i64 0,.int .i64 0,.slice none 0 0,.bool false,.int .i64 0,.int .i64 0,.int .i64 0,.int .i64 0,.slice none 0 0,.bool false,.int .i64 0,.int .i64 0,.int .i64 0,.int .i64 0,.slice none 0 0,.bool false,.int .i64 0,.int .i64 0,.int .i64 0,.int .i64 0,.slice none 0 0,.int .i64 0,.int .i64 0,.int .i64 0,.int .i64 0,.int .i64 0,.int .i64 0,.int .i64 0,.int .i64 0,.int .i64 0]):=aL
instance:aK (zeroOf Tryz.prog 104) (some [.int .i64 0,.slice none 0 0,.slice none 0 0,.slice none 0 0,.slice none 0 0,.slice none 0 0,.int .i64 0,.int .i64 0,.int .i64 0,.int .i64 0,.int .i64 0,.int .i64 0,.int .i64 0]):=aL
instance:aK (zeroOf Tryz.prog 109) (some [.int .i64 0,.slice none 0 0,.slice none 0 0,.slice none 0 0,.bool false,.int .i64 0,.int .i64 0,.int .i64 0,.int .i64 0,.slice none 0 0,.bool false,.int .i64 0,.int .i64 0,.int .i64 0,.int .i64 0,.slice none 0 0,.bool false,.int .i64 0,.int .i64 0,.int .i64 0,.int .i64 0,.slice none 0 0,.bool false,.int .i64 0,.int .i64 0,.int .i64 0,.int .i64 0,.slice none 0 0,.bool false,.int .i64 0,.int .i64 0,.int .i64 0,.int .i64 0,.slice none 0 0,.bool false,.int .i64 0,.int .i64 0,.int .i64 0,.int .i64 0,.slice none 0 0,.bool false,.int .i64 0,.int .i64 0,.int .i64 0,.int .i64 0,.slice none 0 0,.bool false,.int .i64 0,.int .i64 0,.int .i64 0,.int .i64 0,.slice none 0 0,.bool false,.int .i64 0,.int .i64 0,.int .i64 0,.int .i64 0,.slice none 0 0,.bool false,.int .i64 0,.int .i64 0,.int .i64 0,.int .i64 0,.slice none 0 0,.bool false,.int .i64 0,.int .i64 0,.int .i64 0,.int .i64 0,.slice none 0 0,.bool false,.int .i64 0,.int .i64 0,.int .i64 0,.int .i64 0,.slice none 0 0,.bool false,.int .i64 0,.int .i64 0,.int .i64 0,.int .i64 0,.slice none 0 0,.bool false,.int .i64 0,.int .i64 0,.int .i64 0,.int .i64 0,.slice none 0 0,.bool false,.int .i64 0,.int .i64 0,.int .i64 0,.int .i64 0,.slice none 0 0,.bool false,.int .i64 0,.int .i64 0,.int .i64 0,.int .i64 0,.slice none 0 0,.int .i64 0,.int .i64 0,.int .i64 0,.int .i64 0,.int .i64 0,.int .i64 0,.int .i64 0,.int .i64 0,.int .i64 0,.int .i64 0,.slice none 0 0,.slice none 0 0,.slice none 0 0,.slice none 0 0,.slice none 0 0,.int .i64 0,.int .i64 0,.int .i64 0,.int .i64 0,.int .i64 0,.int .i64 0,.int .i64 0,.int .i64 0,.int .i64 0,.int .i64 0,.int .i64 0,.int .i64 0,.int .i64 0,.int .i64 0,.int .i64 0,.int .i64 0,.int .i64 0,.int .i64 0,.int .i64 0,.int .i64 0,.int .i64 0,.int .i64 0,.int .i64 0,.slice none 0 0,.int .i64 0,.slice none 0 0]):=aL
instance:aK (ny Tryz.prog 101) true:=aL
instance:aK (gH Tryz.prog 109) (some ([.int .i64 0,.slice none 0 0,.slice none 0 0,.slice none 0 0,.bool false,.int .i64 0,.int .i64 0,.int .i64 0,.int .i64 0,.slice none 0 0,.bool false,.int .i64 0,.int .i64 0,.int .i64 0,.int .i64 0,.slice none 0 0,.bool false,.int .i64 0,.int .i64 0,.int .i64 0,.int .i64 0,.slice none 0 0,.bool false,.int .i64 0,.int .i64 0,.int .i64 0,.int .i64 0,.slice none 0 0,.bool false,.int .i64 0,.int .i64 0,.int .i64 0,.int .i64 0,.slice none 0 0,.bool false,.int .i64 0,.int .i64 0,.int .i64 0,.int .i64 0,.slice none 0 0,.bool false,.int .i64 0,.int .i64 0,.int .i64 0,.int .i64 0,.slice none 0 0,.bool false,.int .i64 0,.int .i64 0,.int .i64 0,.int .i64 0,.slice none 0 0,.bool false,.int .i64 0,.int .i64 0,.int .i64 0,.int .i64 0,.slice none 0 0,.bool false,.int .i64 0,.int .i64 0,.int .i64 0,.int .i64 0,.slice none 0 0,.bool false,.int .i64 0,.int .i64 0,.int .i64 0,.int .i64 0,.slice none 0 0,.bool false,.int .i64 0,.int .i64 0,.int .i64 0,.int .i64 0,.slice none 0 0,.bool false,.int .i64 0,.int .i64 0,.int .i64 0,.int .i64 0,.slice none 0 0,.bool false,.int .i64 0,.int .i64 0,.int .i64 0,.int .i64 0,.slice none 0 0,.bool false,.int .i64 0,.int .i64 0,.int .i64 0,.int .i64 0,.slice none 0 0,.bool false,.int .i64 0,.int .i64 0,.int .i64 0,.int .i64 0,.slice none 0 0,.int .i64 0,.int .i64 0,.int .i64 0,.int .i64 0,.int .i64 0,.int .i64 0,.int .i64 0,.int .i64 0,.int .i64 0,.int .i64 0,.slice none 0 0,.slice none 0 0,.slice none 0 0,.slice none 0 0,.slice none 0 0,.int .i64 0,.int .i64 0,.int .i64 0,.int .i64 0,.int .i64 0,.int .i64 0,.int .i64 0,.int .i64 0,.int .i64 0,.int .i64 0,.int .i64 0,.int .i64 0,.int .i64 0,.int .i64 0,.int .i64 0,.int .i64 0,.int .i64 0,.int .i64 0,.int .i64 0,.int .i64 0,.int .i64 0,.int .i64 0,.int .i64 0,.slice none 0 0,.int .i64 0,.slice none 0 0],[(0,4),(4,105),(109,13),(122,16),(138,1),(139,1),(140,1)])):=aL
instance:aK (bU Tryz.prog 109 4) (some 138):=aL
instance:aK (iK Tryz.prog 106) (some (102,1,24,[.slice none 0 0])):=aL
instance:aK (cx Tryz.prog 106) (some (false,1)):=aL
instance:aK (bU Tryz.prog 190 0) (some 0):=aL
instance:aK (bU Tryz.prog 190 1) (some 1):=aL
instance:aK (hz Tryz.prog 162) (some (190,2)):=aL
instance:aK (ny Tryz.prog 109) true:=aL
instance:aK (bU Tryz.prog 124 1) (some 1):=aL
instance:aK (cx Tryz.prog 114) (some (false,1)):=aL
instance:aK (bU Tryz.prog 116 0) (some 0):=aL
instance:aK (bU Tryz.prog 116 1) (some 1):=aL
instance:aK (bU Tryz.prog 116 2) (some 2):=aL
instance:aK (bU Tryz.prog 116 3) (some 3):=aL
instance:aK (bU Tryz.prog 116 4) (some 4):=aL
instance:aK (uk Tryz.prog 84) (true):=aL
instance:aK (cx Tryz.prog 84) (some (false,1)):=aL
instance:aK (gH Tryz.prog 116) (some ([.pointer none,.pointer none,.pointer none,.slice none 0 0,.int .u32 0,.int .i64 0],[(0,1),(1,1),(2,1),(3,1),(4,1),(5,1)])):=aL
instance:aK (bU Tryz.prog 81 0) (some 0):=aL
instance:aK (bU Tryz.prog 81 1) (some 1):=aL
instance:aK (bU Tryz.prog 81 2) (some 2):=aL
instance:aK (bU Tryz.prog 116 5) (some 5):=aL
instance:aK (bU Tryz.prog 124 0) (some 0):=aL
instance:aK (bU Tryz.prog 124 3) (some 3):=aL
instance:aK (cx Tryz.prog 49) (some (false,1)):=aL
instance:aK (zeroOf Tryz.prog 114) (some [.pointer none]):=aL
instance:aK (bU Tryz.prog 63 0) (some 0):=aL
instance:aK (bU Tryz.prog 63 4) (some 4):=aL
instance:aK (cx Tryz.prog 60) (some (false,1)):=aL
instance:aK (gH Tryz.prog 58) (some ([.int .i64 0,.int .i64 0],[(0,1),(1,1)])):=aL
instance:aK (cx Tryz.prog 58) (some (true,2)):=aL
instance:aK (cx Tryz.prog 63) (some (true,5)):=aL
instance:aK (zeroOf Tryz.prog 58) (some [.int .i64 0,.int .i64 0]):=aL
instance:aK (gH Tryz.prog 81) (some ([.int .i64 0,.int .i64 0,.int .i64 0],[(0,1),(1,1),(2,1)])):=aL
instance:aK (cx Tryz.prog 81) (some (true,3)):=aL
instance:aK (zeroOf Tryz.prog 81) (some [.int .i64 0,.int .i64 0,.int .i64 0]):=aL
instance:aK (uk Tryz.prog 49) (true):=aL
instance:aK (gH Tryz.prog 63) (some ([.int .i64 0,.int .i64 0,.int .i64 0,.slice none 0 0,.slice none 0 0],[(0,1),(1,1),(2,1),(3,1),(4,1)])):=aL
instance:aK (bU Tryz.prog 58 0) (some 0):=aL
instance:aK (hz Tryz.prog 22) (some (63,5)):=aL
instance:aK (iK Tryz.prog 22) (some (63,5,72,[.int .i64 0,.int .i64 0,.int .i64 0,.slice none 0 0,.slice none 0 0])):=aL
instance:aK (zeroOf Tryz.prog 63) (some [.int .i64 0,.int .i64 0,.int .i64 0,.slice none 0 0,.slice none 0 0]):=aL
instance:aK (ya Tryz.prog 58 0) (some 0):=aL
instance:aK (nS Tryz.prog 45) (some (2,2)):=aL
instance:aK (gH Tryz.prog 52) (some ([.int .i64 0,.int .u32 0],[(0,1),(1,1)])):=aL
instance:aK (bU Tryz.prog 44 0) (some 0):=aL
instance:aK (bU Tryz.prog 44 1) (some 1):=aL
instance:aK (bU Tryz.prog 286 0) (some 0):=aL
instance:aK (uk Tryz.prog 284) (true):=aL
instance:aK (cx Tryz.prog 284) (some (false,1)):=aL
instance:aK (cx Tryz.prog 424) (some (false,1)):=aL
instance:aK (gH Tryz.prog 426) (some ([.int .i64 0,.int .i64 0,.pointer none],[(0,1),(1,1),(2,1)])):=aL
instance:aK (bU Tryz.prog 286 1) (some 1):=aL
instance:aK (bU Tryz.prog 426 2) (some 2):=aL
instance:aK (bU Tryz.prog 426 0) (some 0):=aL
instance:aK (bU Tryz.prog 426 1) (some 1):=aL
instance:aK (gH Tryz.prog 375) (some ([.bool false,.bool false,.bool false,.int .i64 0,.int .i64 0,.int .i64 0],[(0,1),(1,1),(2,1),(3,1),(4,1),(5,1)])):=aL
instance:aK (bU Tryz.prog 288 7) (some 11):=aL
instance:aK (bU Tryz.prog 288 8) (some 12):=aL
instance:aK (iK Tryz.prog 307) (some (375,6,32,[.bool false,.bool false,.bool false,.int .i64 0,.int .i64 0,.int .i64 0])):=aL
instance:aK (bU Tryz.prog 288 1) (some 4):=aL
instance:aK (bU Tryz.prog 288 5) (some 9):=aL
instance:aK (bU Tryz.prog 288 6) (some 10):=aL
instance:aK (bU Tryz.prog 288 9) (some 13):=aL
instance:aK (ya Tryz.prog 338 1) (some 1):=aL
instance:aK (zeroOf Tryz.prog 105) (some [.int .i64 0,.int .i64 0,.int .i64 0,.int .i64 0,.int .i64 0,.int .i64 0,.int .i64 0,.int .i64 0,.int .i64 0,.int .i64 0,.int .i64 0,.int .i64 0,.int .i64 0,.int .i64 0,.int .i64 0,.int .i64 0]):=aL
instance:aK (gH Tryz.prog 155) (some ([.int .i64 0,.int .i64 0,.int .i64 0,.int .i64 0],[(0,1),(1,1),(2,1),(3,1)])):=aL
instance:aK (bU Tryz.prog 170 8) (some 43):=aL
instance:aK (bU Tryz.prog 170 9) (some 44):=aL
instance:aK (iK Tryz.prog 87) (some (155,4,32,[.int .i64 0,.int .i64 0,.int .i64 0,.int .i64 0])):=aL
instance:aK (cx Tryz.prog 87) (some (false,1)):=aL
instance:aK (hz Tryz.prog 168) (some (289,1)):=aL
instance:aK (cx Tryz.prog 415) (some (false,1)):=aL
instance:aK (cx Tryz.prog 427) (some (false,1)):=aL
instance:aK (zeroOf Tryz.prog 168) (some [.slice none 0 0]):=aL
instance:aK (zeroOf Tryz.prog 415) (some [.slice none 0 0]):=aL
instance:aK (zeroOf Tryz.prog 427) (some [.map none]):=aL
instance:aK (hz Tryz.prog 415) (some (419,2)):=aL
instance:aK (bU Tryz.prog 375 0) (some 0):=aL
instance:aK (bU Tryz.prog 375 1) (some 1):=aL
instance:aK (bU Tryz.prog 375 2) (some 2):=aL
instance:aK (bU Tryz.prog 375 3) (some 3):=aL
instance:aK (bU Tryz.prog 375 4) (some 4):=aL
instance:aK (hz Tryz.prog 307) (some (375,6)):=aL
instance:aK (cx Tryz.prog 375) (some (true,6)):=aL
instance:aK (zeroOf Tryz.prog 375) (some [.bool false,.bool false,.bool false,.int .i64 0,.int .i64 0,.int .i64 0]):=aL
instance:aK (bU Tryz.prog 375 5) (some 5):=aL
instance:aK (bU Tryz.prog 300 0) (some 0):=aL
instance:aK (bU Tryz.prog 166 0) (some 0):=aL
instance:aK (bU Tryz.prog 170 4) (some 8):=aL
instance:aK (bU Tryz.prog 63 1) (some 1):=aL
instance:aK (bU Tryz.prog 63 2) (some 2):=aL
instance:aK (bU Tryz.prog 63 3) (some 3):=aL
instance:aK (G9 Tryz.prog 249 9) (true):=aL
instance:aK (q6 Tryz.prog 3 5) (some .u8):=aL
instance:aK (hz Tryz.prog 249) (some (5,1)):=aL
instance:aK (iK Tryz.prog 249) (some (5,1,1,[.int .u8 0])):=aL
instance:aK (bU Tryz.prog 155 0) (some 0):=aL
instance:aK (bU Tryz.prog 155 1) (some 1):=aL
instance:aK (bU Tryz.prog 155 2) (some 2):=aL
instance:aK (bU Tryz.prog 155 3) (some 3):=aL
instance:aK (cx Tryz.prog 153) (some (false,1)):=aL
instance:aK (cx Tryz.prog 155) (some (true,4)):=aL
instance:aK (bU Tryz.prog 58 1) (some 1):=aL
instance:aK (hz Tryz.prog 87) (some (155,4)):=aL
instance:aK (zeroOf Tryz.prog 155) (some [.int .i64 0,.int .i64 0,.int .i64 0,.int .i64 0]):=aL
instance:aK (cx Tryz.prog 9) (some (false,1)):=aL
instance:aK (bU Tryz.prog 230 1) (some 4):=aL
instance:aK (hz Tryz.prog 31) (some (9,1)):=aL
instance:aK (cx Tryz.prog 31) (some (false,1)):=aL
instance:aK (bU Tryz.prog 230 0) (some 0):=aL
instance:aK (hz Tryz.prog 381) (some (380,1)):=aL
instance:aK (iK Tryz.prog 381) (some (380,1,8,[.pointer none])):=aL
instance:aK (cx Tryz.prog 380) (some (false,1)):=aL
instance:aK (ny Tryz.prog 173) true:=aL
instance:aK (ny Tryz.prog 177) true:=aL
instance:aK (Tryz.prog.underlying 4) (some .bool):=aL
instance:aK (iK Tryz.prog 31) (some (9,1,16,[.string ByteArray.empty])):=aL
instance:aK (cx Tryz.prog 228) (some (false,1)):=aL
instance:aK (zeroOf Tryz.prog 228) (some [.pointer none]):=aL
instance:aK (zeroOf Tryz.prog 230) (some [.int .i64 0,.slice none 0 0,.slice none 0 0,.slice none 0 0,.slice none 0 0]):=aL
instance:aK (ny Tryz.prog 230) true:=aL
instance:aK (q6 Tryz.prog 158 3) (some .i64):=aL
instance:aK (cx Tryz.prog 302) (some (false,1)):=aL
instance:aK (gH Tryz.prog 241) (some ([.string ByteArray.empty,.string ByteArray.empty],[(0,1),(1,1)])):=aL
instance:aK (bU Tryz.prog 241 0) (some 0):=aL
instance:aK (bU Tryz.prog 241 1) (some 1):=aL
instance:aK (cx Tryz.prog 241) (some (true,2)):=aL
instance:aK (zeroOf Tryz.prog 241) (some [.string ByteArray.empty,.string ByteArray.empty]):=aL
instance:aK (ny Tryz.prog 241) true:=aL
instance:aK (ny Tryz.prog 63) true:=aL
instance:aK (cx Tryz.prog 22) (some (false,1)):=aL
instance:aK (zeroOf Tryz.prog 22) (some [.slice none 0 0]):=aL
abbrev ag(b:Nat):Value:= .pointer (some ⟨b,0,none⟩)
abbrev aw{α:Type}(a:ai α):Value:= .slice a.b1 a.l.length a.c
abbrev U(n:Int):Value:= .int .i64 n
abbrev aI(n:Int):Value:= .int .u32 n
abbrev cr{B:Nat}{α:Type}(a:ai α)(e s:Nat)(f:α→List Value):ao B:=row (.slice a.b1 a.l.length a.c) e s a.l.length (a.l.flatMap f)
abbrev aS(B:Nat):=dQ Tryz.prog B
abbrev aeB:List Value:=[U 0,U 0,U 0,U 0]
abbrev aeC:List Value:=[U 0,U 0,U 0,U 0,U 0]
abbrev aeD:List Value:=[U 0,U 0,U 0,U 0,U 0,U 0]
abbrev aeE:List Value:=[U 0,U 0,U 0,U 0,U 0,U 0,U 0]
abbrev aeF:List Value:=[U 0,U 0,U 0,U 0,U 0,U 0,U 0,U 0]
abbrev ye:List Value:=[U 0,U 0,U 0,U 0,U 0,U 0,U 0,U 0,U 0,U 0,U 0]
abbrev ad7:List Value:=[U 0,U 0,U 0,U 0,U 0,U 0,U 0,U 0,U 0,U 0,U 0,U 0,U 0,U 0,U 0,U 0,U 0,U 0,U 0,U 0,U 0,U 0]
abbrev yf:List Value:=[U 0,U 0,U 0,U 0,U 0,U 0,U 0,U 0,U 0,U 0,U 0,U 0,U 0,U 0,U 0,U 0,U 0,U 0,U 0,U 0,U 0,U 0,U 0]
abbrev de(u:BitVec 32):List Value:=[aI u.toNat]
abbrev fq:BitVec 32:=4294967295#32
def GJ(x:BitVec 32):BitVec 32:=((x^^^(x<<<13))^^^((x^^^(x<<<13))>>>17))^^^(((x^^^(x<<<13))^^^((x^^^(x<<<13))>>>17))<<<5)
def k7(s:BitVec 32):BitVec 32:=if s=0#32 then 1#32 else s
theorem TA(s:BitVec 32):max (s.toNat:Int) 1=((k7 s).toNat:Int):=by
  unfold k7
  by_cases h:s=0#32
  · rw [if_pos h,h];rfl
  · rw [if_neg h]
    have:s.toNat≠0:=fun q=>h (BitVec.eq_of_toNat_eq q)
    omega
abbrev vM(ab0 target ZS:BitVec 32):BitVec 32:=ab0&&&(target|||ZS)
theorem Dh{a b:BitVec 32}:((a.toNat:Int)==(b.toNat:Int))=decide (a=b):=by
  by_cases h:a=b
  · subst h;simp
  · rw [decide_eq_false h];have:a.toNat≠b.toNat:=fun q=>h (BitVec.eq_of_toNat_eq q)
    simp;omega
theorem M4{b:Nat}(h:b<256):IntKind.u32.wrap (b:Int)=((BitVec.ofNat 32 b).toNat:Int):=by
  have e:(BitVec.ofNat 32 b).toNat=b:=by rw [BitVec.toNat_ofNat];omega
  have:=Cn (BitVec.ofNat 32 b)
  rw [e]at this⊢;exact this
theorem uw{a:BitVec 32}:(a.toNat:Int)=0↔a=0#32:=⟨fun h=>BitVec.eq_of_toNat_eq (by show a.toNat=0;omega),fun h=>by rw [h];rfl⟩
def zD(x:BitVec 32):BitVec 32:=if x&&&1#32=0#32 then x>>>1 else(x>>>1)^^^3988292384#32
theorem Kq{x:BitVec 32}(h:¬((x&&&1#32).toNat:Int)=0):(x>>>1)^^^3988292384#32=zD x:=by unfold zD;rw [if_neg (fun q=>h (uw.2 q))]
theorem Kr{x:BitVec 32}(h:((x&&&1#32).toNat:Int)=0):x>>>1=zD x:=by unfold zD;rw [if_pos (uw.1 h)]
def Ct(x:BitVec 32):Nat→BitVec 32
  |0=>x
  |n+1=>zD (Ct x n)
def Ae(t:BitVec 32)(b:Nat):BitVec 32:= ~~~(Ct (~~~t^^^BitVec.ofNat 32 b) 8)
def rT(w:BitVec 32)(i:Nat):Nat:=(w.toNat>>>(24-8*i))%256
def pk(t w:BitVec 32):Nat→BitVec 32
  |0=>t
  |n+1=>Ae (pk t w n) (rT w n)
theorem Ks(w:BitVec 32)(i:Nat):rT w i<256:=Nat.mod_lt _ (by decide)
theorem Lg(w:BitVec 32){i:Nat}(h:i<4):IntKind.u8.wrap ((w>>>(24-8*(i:Int)).toNat).toNat:Int)=(rT w i:Int):=by
  unfold rT
  rw [BitVec.toNat_ushiftRight,show(24-8*(i:Int)).toNat=24-8*i by omega]
  generalize w.toNat>>>(24-8*i)=m
  simp [IntKind.wrap,IntKind.bits,IntKind.signed]
abbrev wh(t w:BitVec 32):BitVec 32:=pk t w 4
def jP(l:List (BitVec 32)):BitVec 32:=l.foldl wh 0#32
theorem M5(x:BitVec 32):aS B 208 [aI x.toNat] [] (fun v S=>v= .agg #[aI (k7 x).toNat]∧S=[]):=by
 refine bD 6 Tryz.func208 fun a4 ax=>?_
 refine ds fun ay=>?_
 refine hd ?_
 refine dZ ?_
 refine fl ?_
 refine aA (dh rfl) ?_
 refine aA (xY rfl rfl) ?_
 refine aA (qj [_] rfl ae (by rfl)) ?_
 refine fw (hA rfl rfl rfl ar ae rfl rfl) ?_
 refine hd ?_
 refine rS ?_
 refine cc (.nil _) (gA rfl rfl ar ae (by rfl)) ?_
 exact⟨_,⟨by rw [←TA],rfl⟩,_,aC⟩
theorem Vv(a b c:BitVec 32):aS B 209 [aI a.toNat,aI b.toNat,aI c.toNat] [] (fun v S=>v=aI (vM a b c).toNat∧S=[]):=by
 refine bD 12 Tryz.func209 fun a4 ax=>?_
 refine aA (hH rfl rfl (ej _) (ej _) rfl) ?_
 refine aA (hH rfl rfl (ej _) (ej _) rfl) ?_
 exact mz
theorem Vw(a c:BitVec 32):aS B 233 [aI a.toNat,aI c.toNat] [] (fun v S=>v=aI (a|||c).toNat∧S=[]):=by
 refine bD 8 Tryz.func233 fun a4 ax=>?_
 refine aA (hH rfl rfl (ej _) (ej _) rfl) ?_
 exact mz
theorem M6(m:Nat)(x:BitVec 32):aS B 210 [ag m] [aa m [aI (x:BitVec 32).toNat] 364] (fun v S=>v=aI x.toNat∧S=[aa m [aI (GJ x:BitVec 32).toNat] 364]):=by
 refine bD 45 Tryz.func210 fun a4 ax=>?_
 refine c8 [aa m [aI (x:BitVec 32).toNat] 364] ae aC ?_
 refine aN [0,1,2,3,4,5,6,7] ?_
 refine bs 8 rfl (zm rfl rfl (ej _) al al) ?_
 refine bs 9 rfl (hH rfl rfl (ej _) (ej _) rfl) ?_
 refine cy 10 rfl (qh rfl) ?_
 refine cy 11 rfl (sB ae) ?_
 refine rC 12 ?_
 refine lC rfl dr (iG (k:=0) (fN:=[aI ((x^^^(x<<<13)):BitVec 32).toNat]) rfl rfl rfl ar ae rfl rfl) ?_
 refine c7 [99] ?_
 refine c8 [aa m [aI ((x^^^(x<<<13)):BitVec 32).toNat] 364] ae aC ?_
 refine aN [0,1,2,3,4,5,6,7] ?_
 refine bs 8 rfl (sM rfl rfl rfl al al) ?_
 refine bs 9 rfl (hH rfl rfl (ej _) (ej _) rfl) ?_
 refine cy 10 rfl (qh rfl) ?_
 refine cy 11 rfl (sB ae) ?_
 refine rC 12 ?_
 refine lC rfl dr (iG (k:=0) (fN:=[aI (((x^^^(x<<<13))^^^((x^^^(x<<<13))>>>17)):BitVec 32).toNat]) rfl rfl rfl ar ae rfl rfl) ?_
 refine c7 [99] ?_
 refine c8 [aa m [aI (((x^^^(x<<<13))^^^((x^^^(x<<<13))>>>17)):BitVec 32).toNat] 364] ae aC ?_
 refine aN [0,1,2,3,4,5,6,7] ?_
 refine bs 8 rfl (zm rfl rfl (ej _) al al) ?_
 refine bs 9 rfl (hH rfl rfl (ej _) (ej _) rfl) ?_
 refine cy 10 rfl (qh rfl) ?_
 refine cy 11 rfl (sB ae) ?_
 refine rC 12 ?_
 refine lC rfl dr (iG (k:=0) (fN:=[aI (GJ x:BitVec 32).toNat]) rfl rfl rfl ar ae rfl rfl) ?_
 refine c7 [99] ?_
 exact bA
theorem Pl(a:BitVec 32):aS B 273 [aI a.toNat] [] (fun v S=>v= .agg #[aI (a).toNat,aI (~~~a).toNat]∧S=[]):=by
 refine bD 7 Tryz.func273 fun a4 ax=>?_
 refine da fun ay=>?_
 refine aA (xB rfl (ej _)) ?_
 refine ah ?_
 refine cc (.nil _) (gA rfl rfl ar ae (by rfl)) ?_
 exact bA
theorem Gi(a b:BitVec 32):aS B 250 [.agg #[aI (a).toNat,aI (b).toNat]] [] (fun v S=>v= .bool (decide (b= ~~~a))∧S=[]):=by
 refine bD 9 Tryz.func250 fun a4 ax=>?_
 refine fe fun ay=>?_
 refine aA (xB rfl (ej _)) ?_
 refine ah ?_
 exact bI ⟨congrArg Value.bool Dh,rfl⟩
theorem Pm(a b x:BitVec 32):aS B 251 [.agg #[aI (a).toNat,aI (b).toNat],aI x.toNat] [] (fun v S=>v= .bool (decide (a=x)&&decide (b= ~~~x))∧S=[]):=by
 refine bD 9 Tryz.func251 fun a4 ax=>?_
 refine fe (au:=[aI a.toNat,aI b.toNat]) fun ay=>?_
 refine c8 [aa ay [aI a.toNat,aI b.toNat] 403] ae aC ?_
 refine bs 0 rfl (dw (bx:=[aI a.toNat,aI b.toNat]) rfl ar ae rfl (by rfl)) ?_
 refine aN [1,102] ?_
 refine gu (Pl x) ?_
 refine bs 3 rfl (Xy rfl rfl ae ae rfl rfl rfl rfl) ?_
 refine c7 [4,99] ?_
 exact bI ⟨by show Value.bool ((((a.toNat:Nat):Int)==((x.toNat:Nat):Int))&&((((b.toNat:Nat):Int)==(((~~~x).toNat:Nat):Int))&&true))=_;rw [Dh,Dh,Bool.and_true],rfl⟩
theorem XM(q:Nat)(t:BitVec 32)(n:Int)(a7:0≤n∧n≤1000000000)(b:Nat)(bb:b<256):aS B 234 [ag q,.int .u8 (b:Int)] [aa q [aI (t:BitVec 32).toNat,U n] 271] (fun v S=>S=[aa q [aI (Ae t b:BitVec 32).toNat,U (n+1)] 271]):=by
 refine bD 37 Tryz.func234 fun a4 ax=>?_
 refine aA (xB rfl (ej _)) ?_
 refine ah ?_
 refine aA (kn (z:=((BitVec.ofNat 32 b).toNat:Int)) rfl ae (M4 bb)) ?_
 refine aA (hH rfl rfl (ej _) (ej _) rfl) ?_
 refine ah ?_
 refine dH (α:=Nat) (fun i=>i≤8) (fun i=>[(14,U (i:Int)),(4,aI (Ct (~~~t^^^BitVec.ofNat 32 b) i).toNat),(0,ag q)]) (fun i=>[aa q [aI (t:BitVec 32).toNat,U n] 271]) (fun i=>8-i) 0 ?_ dD aC ?_
 ·omega
 rintro i ak
 refine ah ?_
 refine aT ?_ ?_<;>intro ab
 ·refine aA (hH rfl rfl (ej _) rfl rfl) ?_
  refine ah ?_
  refine aA (sM rfl rfl rfl al al) ?_
  refine ah ?_
  refine aT ?_ ?_<;>intro af
  ·refine aA (hH rfl rfl (ej _) rfl rfl) ?_
   refine ah ?_
   refine eg (i+1) ?_ ?_ ?_ ?_
   ·omega
   ·omega
   ·refine⟨?_,?_,?_,trivial⟩<;>first|rfl|(refine congrArg (fun z:BitVec 32=>some (Value.int .u32 z.toNat)) ?_;exact Kq af)
   exact⟨_,aC⟩
  refine eg (i+1) ?_ ?_ ?_ ?_
  ·omega
  ·omega
  ·refine⟨?_,?_,?_,trivial⟩<;>first|rfl|(refine congrArg (fun z:BitVec 32=>some (Value.int .u32 z.toNat)) ?_;exact Kr af)
  exact⟨_,aC⟩
 refine aA (xB rfl (ej _)) ?_
 refine ah ?_
 obtain rfl:i=8:=by omega
 exact bI rfl
theorem XN(q:Nat)(t:BitVec 32)(n:Int)(a7:0≤n∧n≤100000000)(w:BitVec 32):aS B 180 [ag q,aI w.toNat] [aa q [aI (t:BitVec 32).toNat,U n] 271] (fun v S=>S=[aa q [aI (wh t w:BitVec 32).toNat,U (n+4)] 271]):=by
 refine bD 17 Tryz.func180 fun a4 ax=>?_
 rw [show(aa q [aI (t:BitVec 32).toNat,U n] 271:ao B)=aa q [aI (pk t w 0:BitVec 32).toNat,U (n+((0:Nat):Int))] 271 from by simp [pk]]
 refine dH (α:=Nat) (fun i=>i≤4) (fun i=>[(5,U (i:Int)),(0,ag q),(1,aI w.toNat)]) (fun i=>[aa q [aI (pk t w i:BitVec 32).toNat,U (n+(i:Int))] 271]) (fun i=>4-i) 0 ?_ dD aC ?_
 ·omega
 rintro i ak
 refine ah ?_
 refine aT ?_ ?_<;>intro ab
 ·refine aA (oz (m:=8) (n:=(i:Int)) rfl rfl al al) ?_
  refine ah ?_
  refine aA (sM rfl rfl rfl al al) ?_
  refine aA (kn (z:=(rT w i:Int)) rfl ae (Lg w al)) ?_
  refine cA (XM q (pk t w i) (n+(i:Int)) (by omega) (rT w i) (Ks w i)) ?_
  rintro _ _ rfl
  refine cU ?_
  rw [show n+(i:Int)+1=n+((i+1:Nat):Int)by omega,show Ae (pk t w i) (rT w i)=pk t w (i+1)from rfl]
  refine fX (i+1) ?_
  omega
 obtain rfl:i=4:=by omega
 exact bI rfl
theorem Vx(q:Nat)(t:BitVec 32)(n:Int):aS B 181 [ag q] [aa q [aI (t:BitVec 32).toNat,U n] 271] (fun v S=>v=aI t.toNat∧S=[aa q [aI (t:BitVec 32).toNat,U n] 271]):=by
 refine bD 7 Tryz.func181 fun a4 ax=>?_
 exact bA
structure a2 where
  words:Nat
  il:Nat
  a:ai (BitVec 32)
  g:Nat→BitVec 32
  b:ai Int
  wr:Nat→Int
  on:Bool
  ew:Bool
  a3:Int
  hP:BitVec 32
  ops:Int
abbrev bE(d:a2):List Value:=[U (d.words:Int),U (d.il:Int),aw d.a,aw d.b,.bool d.on,.bool d.ew,U d.a3,aI d.hP.toNat,U d.ops]
structure cZ(d:a2):Prop where
  s:1≤d.b.l.length∧d.b.l.length≤64
  w:1≤d.words∧d.words≤1024
  n:d.a.l.length=d.b.l.length*d.words
  lj:d.il≤1048576
  pb:d.a.Own
  gd:d.b.Own
  ops:0≤d.ops∧d.ops≤1000000000
  a3:0≤d.a3∧d.a3≤9223372036854775807
  AK:∀k,0≤d.wr k∧d.wr k≤2000000
def df{α:Type}(n:Nat)(g:Nat→α):List α:=(List.range n).map g
theorem mc{α:Type}(n:Nat)(g:Nat→α):(df n g).length=n:=by unfold df;simp
theorem uh{α:Type}{n i:Nat}{g:Nat→α}(h:i<n):(df n g)[i]?=some (g i):=by unfold df;simp [h]
theorem TB{α:Type}{n:Nat}{g h:Nat→α}(e:∀j,j<n→g j=h j):df n g=df n h:=by
  unfold df;apply List.map_congr_left;intro j aY;exact e j (List.mem_range.1 aY)
theorem xC{α:Type}{n i:Nat}{g:Nat→α}{y:α}:(df n g).set i y=df n (bF g i y):=by
  apply List.ext_getElem
  · unfold df;simp
  · intro j ab af
    rw [List.getElem_set]
    by_cases e:i=j
    · subst e;simp [df,bF]
    · rw [if_neg e];simp [df,bF];exact fun h=>absurd h.symm e
theorem Lh{α:Type}(n:Nat)(y:α):List.replicate n y=df n (fun _=>y):=by
  apply List.ext_getElem
  · simp [df]
  · intro j ab af;simp [df]
def kz(d:a2)(s w:Int):Int:=if s<0∨s≥d.b.l.length∨w<0∨w≥d.words then-1 else s*d.words+w
theorem L5{d:a2}(h:cZ d){s w:Int}(g:0≤kz d s w):kz d s w<d.a.l.length:=by
  unfold kz at g⊢
  split at g
  · omega
  · rename_i q
    rw [if_neg q,h.n]
    have ab:s*d.words≤((d.b.l.length:Int)-1)*d.words:=Int.mul_le_mul_of_nonneg_right (by omega) (by omega)
    rw [Int.sub_mul]at ab
    have af:((d.b.l.length*d.words:Nat):Int)=(d.b.l.length:Int)*d.words:=Int.natCast_mul _ _
    omega
def g5(d:a2):Bool:=d.ew&&decide (d.a3≤0)
abbrev kU(d:a2):a2:=⟨d.words,d.il,d.a,d.g,d.b,d.wr,if g5 d=true then false else d.on,if g5 d=true then false else d.ew,if d.ew=true∧g5 d=false then d.a3-1 else d.a3,d.hP,d.ops+1⟩
theorem wK(p:Nat)(d:a2):aS B 43 [ag p] [aa p (bE d) 196] (fun v S=>v= .bool d.on∧S=[aa p (bE d) 196]):=by
 refine bD 7 Tryz.func43 fun a4 ax=>?_
 exact bA
theorem Kt(p:Nat)(d:a2):aS B 77 [ag p] [aa p (bE d) 196] (fun v S=>v=U (d.b.l.length:Int)∧S=[aa p (bE d) 196]):=by
 refine bD 8 Tryz.func77 fun a4 ax=>?_
 exact bA
theorem CU(p:Nat)(d:a2):aS B 127 [ag p] [aa p (bE d) 196] (fun v S=>v=U (d.words:Int)∧S=[aa p (bE d) 196]):=by
 refine bD 7 Tryz.func127 fun a4 ax=>?_
 exact bA
theorem Vy(p:Nat)(d:a2):aS B 231 [ag p] [aa p (bE d) 196] (fun v S=>v=U (d.il:Int)∧S=[aa p (bE d) 196]):=by
 refine bD 7 Tryz.func231 fun a4 ax=>?_
 exact bA
theorem Gj(p:Nat)(d:a2)(z:Bool):aS B 42 [ag p,.bool z] [aa p (bE d) 196] (fun v S=>S=[aa p (bE ((⟨d.words,d.il,d.a,d.g,d.b,d.wr,z,d.ew,d.a3,d.hP,d.ops⟩:a2))) 196]):=by
 refine bD 8 Tryz.func42 fun a4 ax=>?_
 exact bI rfl
theorem agE(p:Nat)(d:a2)(n:Int)(x:BitVec 32):aS B 41 [ag p,.agg #[U n,aI x.toNat]] [aa p (bE d) 196] (fun v S=>S=[aa p (bE ((⟨d.words,d.il,d.a,d.g,d.b,d.wr,d.on,true,(max n 0),x,d.ops⟩:a2))) 196]):=by
 refine bD 15 Tryz.func41 fun a4 ax=>?_
 refine dt (au:=[U n,aI x.toNat]) fun ay=>?_
 refine mn ?_
 refine cM [U (max n 0),aI x.toNat] ?_
 refine ah ?_
 refine fw (zR rfl rfl (by simp [Value.oneCell']) ar ae rfl (by rfl) (by rfl)) ?_
 refine ah ?_
 exact bI rfl
theorem Pn(p:Nat)(d:a2)(h:cZ d)(x y:Int):aS B 206 [ag p,U x,U y] [aa p (bE d) 196] (fun v S=>v=U (kz d x y)∧S=[aa p (bE d) 196]):=by
 refine dn 38 Tryz.func206 fun a4 ax=>?_
 have aB:=h.s
 have hw:=h.w
 refine ah ?_
 refine cC ?_ ?_<;>intro ab
 ·exact bI ⟨by unfold kz;rw [if_pos al],rfl⟩
 refine cC ?_ ?_<;>intro af
 ·exact bI ⟨by unfold kz;rw [if_pos al],rfl⟩
 refine cC ?_ ?_<;>intro az
 ·exact bI ⟨by unfold kz;rw [if_pos al],rfl⟩
 refine aT ?_ ?_<;>intro a5
 ·exact bI ⟨by unfold kz;rw [if_pos al],rfl⟩
 have hm:0≤x*(d.words:Int):=Int.mul_nonneg al al
 have nC:x*(d.words:Int)≤64*1024:=Int.mul_le_mul al al al al
 refine ah ?_
 refine aA (oz (m:=x) (n:=(d.words:Int)) rfl rfl al al) ?_
 refine ah ?_
 exact bI ⟨by unfold kz;rw [if_neg al],rfl⟩
theorem M7(p:Nat)(d:a2)(h:cZ d):aS B 207 [ag p] [aa p (bE d) 196] (fun v S=>v= .bool (g5 d)∧S=[aa p (bE ((kU d))) 196]):=by
 refine dn 36 Tryz.func207 fun a4 ax=>?_
 have aB:=h.ops
 have HJ:=h.a3
 refine ah ?_
 refine aT ?_ ?_<;>intro ab
 ·have bh:g5 d=false:=by unfold g5;rw [ab];rfl
  have ck:kU d=(⟨d.words,d.il,d.a,d.g,d.b,d.wr,d.on,d.ew,d.a3,d.hP,d.ops+1⟩:a2):=by unfold kU;rw [bh];simp [ab]
  rw [bh,ck]
  exact bA
 refine aT ?_ ?_<;>intro af
 ·have bh:g5 d=false:=by unfold g5;rw [ab,decide_eq_false al];rfl
  have ck:kU d=(⟨d.words,d.il,d.a,d.g,d.b,d.wr,d.on,d.ew,d.a3-1,d.hP,d.ops+1⟩:a2):=by unfold kU;rw [bh];simp [ab]
  rw [bh,ck]
  exact bA
 have bh:g5 d=true:=by unfold g5;rw [ab,decide_eq_true al];rfl
 have ck:kU d=(⟨d.words,d.il,d.a,d.g,d.b,d.wr,false,false,d.a3,d.hP,d.ops+1⟩:a2):=by unfold kU;rw [bh];simp
 rw [bh,ck]
 exact bA
abbrev b5{B:Nat}(d:a2):ao B:=row (.slice d.a.b1 d.a.l.length d.a.c) 42 1 d.a.l.length ((df d.a.l.length d.g).flatMap de)
abbrev dT{B:Nat}(d:a2):ao B:=row (.slice d.b.b1 d.b.l.length d.b.c) 3 1 d.b.l.length ((df d.b.l.length d.wr).flatMap ei)
def xZ(d:a2)(s:Int):Int:=if s<0∨s≥d.b.l.length then 0 else d.wr s.toNat
def vU(d:a2)(s w:Int):BitVec 32×Int:=if d.on=true then(if kz d s w<0 then(0#32,60)else(d.g (kz d s w).toNat,0))else(0#32,63)
def nZ(d:a2)(s:Int):List (BitVec 32):=if s<0∨s≥d.b.l.length then []else df d.words fun i=>d.g (s.toNat*d.words+i)
abbrev a2.pR(d:a2)(g:Nat→BitVec 32):a2:=⟨d.words,d.il,d.a,g,d.b,d.wr,d.on,d.ew,d.a3,d.hP,d.ops⟩
def fG(d:a2)(s w:Int)(x:BitVec 32):a2×Int:=
  if d.on=true then(if kz d s w<0 then(d,60)else if x&&&~~~(d.g (kz d s w).toNat)=0#32 then
    (if g5 d=true then((kU d).pR (bF d.g (kz d s w).toNat (vM (d.g (kz d s w).toNat) x (k7 d.hP))),63)else((kU d).pR (bF d.g (kz d s w).toNat x),0))else(d,61))else(d,63)
theorem ZT(d:a2)(h:cZ d):∃e:ai (BitVec 32),e.l=df d.a.l.length d.g∧e.Own∧d.a.b1=e.b1∧d.a.c=e.c∧d.a.l.length=e.l.length:=
  ⟨⟨d.a.b1,d.a.c,df d.a.l.length d.g,fun q=>by rw [d.a.nil q];rfl,by rw [mc];exact d.a.small,by rw [mc];exact d.a.cap⟩,rfl,h.pb,rfl,rfl,by rw [mc]⟩
theorem TC{n w s:Nat}{g:Nat→BitVec 32}(h:s*w+w≤n):((df n g).drop (s*w)).take (s*w+w-s*w)=df w fun i=>g (s*w+i):=by
  apply List.ext_getElem
  · simp [df];omega
  · intro j ab af;simp [df]
theorem XO(p:Nat)(d:a2)(h:cZ d)(x:Int):aS B 230 [ag p,U x] [aa p (bE d) 196,dT d] (fun v S=>v=U (xZ d x)∧S=[aa p (bE d) 196,dT d]):=by
 refine bD 23 Tryz.func230 fun a4 ax=>?_
 refine cC ?_ ?_<;>intro ab
 ·exact bI ⟨by unfold xZ;rw [if_pos (by omega)],rfl⟩
 refine bX ?_ ?_<;>intro af
 ·refine ah ?_
  exact bI ⟨by unfold xZ;rw [if_pos (by omega)],rfl⟩
 obtain⟨k,rfl⟩:=Int.eq_ofNat_of_zero_le (show 0≤x by omega)
 refine kk ?_
 refine ik ?_
 refine dZ ?_
 refine fl ?_
 refine aA (dh rfl) ?_
 refine aA (rO rfl) ?_
 refine aA (kf ae) ?_
 refine aA (ed ae) ?_
 refine aA (dh rfl) ?_
 refine aA (hx (j:=k) rfl rfl ae (d.b).en rfl (by omega) rfl) ?_
 refine aA (eO (aW:=ei) (aH:=1) (i:=k) (k:=0) (fun _=>rfl) rfl ar (qk h.gd rfl (mc _ _)) ae (uh (by omega)) rfl) ?_
 refine ah ?_
 exact bI ⟨by unfold xZ;rw [if_neg (by omega)];rfl,rfl⟩
theorem XP(p:Nat)(d:a2)(h:cZ d)(x y:Int):aS B 247 [ag p,U x,U y] [aa p (bE d) 196,b5 d] (fun v S=>v= .tuple #[aI (vU d x y).1.toNat,U (vU d x y).2]∧S=[aa p (bE d) 196,b5 d]):=by
 refine bD 29 Tryz.func247 fun a4 ax=>?_
 refine nB (Pn p d h x y) ?_
 refine aT ?_ ?_<;>intro ab
 ·exact bI ⟨by unfold vU;rw [if_neg (by rw [ab];decide)];rfl,rfl⟩
 refine bX ?_ ?_<;>intro af
 ·refine ah ?_
  exact bI ⟨by unfold vU;rw [if_pos ab,if_pos af];rfl,rfl⟩
 obtain⟨k,aj⟩:=Int.eq_ofNat_of_zero_le (show 0≤kz d x y by omega)
 have er:=L5 h (show 0≤kz d x y by omega)
 rw [aj]at er⊢
 refine dZ ?_
 refine fl ?_
 refine aA (dh rfl) ?_
 refine aA (rO rfl) ?_
 refine aA (kf ae) ?_
 refine aA (ed ae) ?_
 refine aA (dh rfl) ?_
 refine aA (hx (j:=k) rfl rfl ae (d.a).en rfl (by omega) rfl) ?_
 refine aA (eO (aW:=de) (aH:=1) (i:=k) (k:=0) (fun _=>rfl) rfl ar (qk h.pb rfl (mc _ _)) ae (uh (by omega)) rfl) ?_
 refine ah ?_
 exact bI ⟨by unfold vU;rw [if_pos ab,if_neg (by omega),aj,Int.toNat_natCast],rfl⟩
theorem x0(p:Nat)(d:a2)(h:cZ d)(x y:Int)(z:BitVec 32):aS B 139 [ag p,U x,U y,aI z.toNat] [aa p (bE d) 196,b5 d] (fun v S=>v=U (fG d x y z).2∧S=[aa p (bE ((fG d x y z).1)) 196,b5 (fG d x y z).1]):=by
 refine bD 66 Tryz.func139 fun a4 ax=>?_
 refine nB (Pn p d h x y) ?_
 refine aT ?_ ?_<;>intro ab
 ·rw [show fG d x y z=(d,63)from by unfold fG;rw [if_neg (by rw [ab];decide)]]
  exact bA
 refine bX ?_ ?_<;>intro af
 ·refine ah ?_
  rw [show fG d x y z=(d,60)from by unfold fG;rw [if_pos ab,if_pos af]]
  exact bA
 obtain⟨k,aj⟩:=Int.eq_ofNat_of_zero_le (show 0≤kz d x y by omega)
 have er:=L5 h (show 0≤kz d x y by omega)
 rw [aj]at er⊢
 refine dZ ?_
 refine fl ?_
 refine aA (dh rfl) ?_
 refine aA (dh rfl) ?_
 refine aA (rO rfl) ?_
 refine aA (kf ae) ?_
 refine aA (ed ae) ?_
 refine aA (dh rfl) ?_
 refine aA (hx (j:=k) rfl rfl ae (d.a).en rfl (by show k<d.a.l.length;omega) rfl) ?_
 refine aA (eO (aW:=de) (aH:=1) (i:=k) (k:=0) (fun _=>rfl) rfl ar (qk h.pb rfl (mc _ _)) ae (uh (by show k<d.a.l.length;omega)) rfl) ?_
 refine aA (hH rfl rfl (ej _) (ej _) rfl) ?_
 refine ah ?_
 refine aT ?_ ?_<;>intro az
 ·rw [show fG d x y z=(d,61)from by unfold fG;rw [if_pos ab,if_neg al,aj,Int.toNat_natCast,if_neg (fun q=>az (uw.2 q))]]
  exact bA
 refine e1 (M7 p d h) ?_
 refine aT ?_ ?_<;>intro a5
 ·refine hD (M5 d.hP) ?_
  refine da fun ay=>?_
  refine c8 [aa p (bE ((kU d))) 196,b5 d] ae aC ?_
  refine aN [0,1,2,3,4,5,6,7,8,9] ?_
  refine cy 10 rfl (h7 (j:=k) rfl rfl ae (d.a).en rfl (by show k<d.a.l.length;omega) rfl) ?_
  refine bs 11 rfl (eO (aW:=de) (aH:=1) (i:=k) (k:=0) (fun _=>rfl) rfl ar (qk h.pb rfl (mc _ _)) ae (uh (by show k<d.a.l.length;omega)) rfl) ?_
  refine aN [12] ?_
  refine e6 13 (M6 ay (k7 d.hP)) ?_
  refine aN [114] ?_
  refine gu (Vv (d.g k) z (k7 d.hP)) ?_
  refine cy 15 rfl (h7 (j:=k) rfl rfl ae (d.a).en rfl (by show k<d.a.l.length;omega) rfl) ?_
  refine aN [116] ?_
  refine lC rfl dr (uv (aW:=de) (i:=k) (y:=(vM (d.g k) z (k7 d.hP))) (p4:=df d.a.l.length (bF d.g k (vM (d.g k) z (k7 d.hP)))) h.pb rfl rfl (fun _=>rfl) rfl rfl ar ae (by rw [mc];omega) xC) ?_
  refine c7 [99] ?_
  rw [show fG d x y z=((kU d).pR (bF d.g k (vM (d.g k) z (k7 d.hP))),63)from by unfold fG;rw [if_pos ab,if_neg al,aj,Int.toNat_natCast,if_pos (uw.1 az),if_pos a5]]
  exact bA
 refine aA (hx (j:=k) rfl rfl ae (d.a).en rfl (by show k<d.a.l.length;omega) rfl) ?_
 refine fw (uv (aW:=de) (i:=k) (y:=z) (p4:=df d.a.l.length (bF d.g k z)) h.pb rfl rfl (fun _=>rfl) rfl rfl ar ae (by rw [mc];omega) xC) ?_
 refine ah ?_
 rw [show fG d x y z=((kU d).pR (bF d.g k z),0)from by unfold fG;rw [if_pos ab,if_neg al,aj,Int.toNat_natCast,if_pos (uw.1 az),if_neg (by rw [a5];decide)]]
 exact bA
theorem Cu(p:Nat)(d:a2)(h:cZ d)(x:Int):dQ Tryz.prog B 138 [.pointer (some ⟨p,0,none⟩),.int .i64 x] [aa p (bE d) 196,row (.slice d.a.b1 d.a.l.length d.a.c) 42 1 d.a.l.length ((df d.a.l.length d.g).flatMap de)] (fun v S=>∃a:ai (BitVec 32),(a.l=nZ d x∧a.Own)∧v=a.v∧S=[row (.slice a.b1 a.l.length a.c) 42 1 a.l.length (a.l.flatMap de),aa p (bE d) 196,row (.slice d.a.b1 d.a.l.length d.a.c) 42 1 d.a.l.length ((df d.a.l.length d.g).flatMap de)]):=by
 refine dn 35 Tryz.func138 fun a4 ax=>?_
 obtain⟨e,D2,ab1,D3,Po,Pp⟩:=ZT d h
 rw [show(aa p (bE d) 196:ao B)=aa p [.int .i64 (d.words:Int),.int .i64 (d.il:Int),.slice e.b1 e.l.length e.c,.slice d.b.b1 d.b.l.length d.b.c,.bool d.on,.bool d.ew,.int .i64 d.a3,.int .u32 d.hP.toNat,.int .i64 d.ops] 196 from by show aa p [.int .i64 (d.words:Int),.int .i64 (d.il:Int),.slice d.a.b1 d.a.l.length d.a.c,.slice d.b.b1 d.b.l.length d.b.c,.bool d.on,.bool d.ew,.int .i64 d.a3,.int .u32 d.hP.toNat,.int .i64 d.ops] 196=_;rw [D3,Po,Pp]]
 rw [show(row (.slice d.a.b1 d.a.l.length d.a.c) 42 1 d.a.l.length ((df d.a.l.length d.g).flatMap de):ao B)=row (.slice e.b1 e.l.length e.c) 42 1 e.l.length (e.l.flatMap de)from by rw [←D2,D3,Po,Pp]]
 refine hy de 42 1 ?_
 have aB:=h.s
 have hw:=h.w
 have ab2:=h.n
 refine ah ?_
 refine cC ?_ ?_<;>intro ab
 ·exact bI ⟨ai.bG,⟨by unfold nZ;rw [if_pos al];rfl,ai.fY⟩,rfl,rfl⟩
 refine aT ?_ ?_<;>intro af
 ·exact bI ⟨ai.bG,⟨by unfold nZ;rw [if_pos al];rfl,ai.fY⟩,rfl,rfl⟩
 obtain⟨k,rfl⟩:=Int.eq_ofNat_of_zero_le (show 0≤x by omega)
 have HS:(k+1)*d.words≤d.b.l.length*d.words:=Nat.mul_le_mul_right _ al
 rw [Nat.succ_mul]at HS
 have hle:k*d.words+d.words≤e.l.length:=by omega
 have pq:k*d.words+d.words≤e.c:=Nat.le_trans hle e.cap
 have oZ:(k:Int)*(d.words:Int)=((k*d.words:Nat):Int):=(Int.natCast_mul _ _).symm
 have nC:((k:Int)+1)*(d.words:Int)=((k*d.words+d.words:Nat):Int):=by rw [Int.add_mul,oZ];omega
 have j9:=e.small
 refine ah ?_
 refine c8 [aa p [.int .i64 (d.words:Int),.int .i64 (d.il:Int),.slice e.b1 e.l.length e.c,.slice d.b.b1 d.b.l.length d.b.c,.bool d.on,.bool d.ew,.int .i64 d.a3,.int .u32 d.hP.toNat,.int .i64 d.ops] 196,row (.slice e.b1 e.l.length e.c) 42 1 e.l.length (e.l.flatMap de)] ae aC ?_
 refine aN [0,1,2,3,4,5,6,7,8] ?_
 refine bs 9 rfl (oz (m:=(k:Int)) (n:=(d.words:Int)) rfl rfl al al) ?_
 refine aN [10,11,12,13,14,15] ?_
 refine bs 16 rfl (oz (m:=(k:Int)+1) (n:=(d.words:Int)) rfl rfl al al) ?_
 refine bs 17 rfl (xu (a:=e) (aH:=1) (l:=k*d.words) (h:=k*d.words+d.words) (m:=e.c) rfl ae (by exact⟨_,congrArg (fun n:Int=>some (Value.int .i64 n)) oZ⟩) (by exact⟨_,congrArg (fun n:Int=>some (Value.int .i64 n)) nC⟩) (by exact rfl) (by intro q;rfl) (Nat.le_add_right _ _) hle pq (Nat.le_refl _)) ?_
 refine aN [118] ?_
 refine mb (aW:=de) (c:=(ai.bG:ai (BitVec 32))) (b:=(e.cut 1 (k*d.words) (k*d.words+d.words) e.c (Nat.le_add_right _ _) hle pq)) rfl .no rfl rfl ae ar dr ar (L2 (fun _=>rfl) (eh ab1 rfl)) (fun _=>rfl) (fun _=>rfl) (by show 0+((e.l.drop _).take _).length≤_;simp;omega) (by show(0+((e.l.drop _).take _).length)*_≤_;simp;omega) rfl (fun a aO bT=>?_)
 refine c7 [19,99] ?_
 exact bI ⟨a,⟨by rw [aO];show(e.l.drop _).take _=_;rw [D2,TC al];unfold nZ;rw [if_neg al,Int.toNat_natCast],bT⟩,rfl,rfl⟩
abbrev lR(W L:Nat)(a:ai (BitVec 32))(b:ai Int):a2:=⟨W,L,a,fun _=>fq,b,fun _=>0,true,false,0,0#32,0⟩
def rU(i:Nat):Nat→BitVec 32:=fun j=>if j<i then fq else 0#32
theorem TD(i:Nat):bF (rU i) i fq=rU (i+1):=by
  funext j;unfold bF rU
  by_cases e:j=i
  · subst e;simp
  · rw [if_neg e]
    by_cases h:j<i
    · rw [if_pos h,if_pos (by omega)]
    · rw [if_neg h,if_neg (by omega)]
def qp(s:BitVec 32):Nat→BitVec 32
  |0=>s
  |n+1=>GJ (qp s n)
def k8(g:Nat→BitVec 32)(f:Nat→BitVec 32→BitVec 32)(gY n:Nat):Nat→BitVec 32:=fun j=>if gY≤j∧j<gY+n then f (j-gY) (g j)else g j
theorem Li(g f gY):k8 g f gY 0=g:=by funext j;unfold k8;rw [if_neg (by omega)]
theorem Sq(g f gY n):k8 g f gY n (gY+n)=g (gY+n):=by unfold k8;rw [if_neg (by omega)]
theorem Lj(g f gY n):bF (k8 g f gY n) (gY+n) (f n (g (gY+n)))=k8 g f gY (n+1):=by
  funext j;unfold bF k8
  by_cases e:j=gY+n
  · subst e;rw [if_pos rfl,if_pos (by omega),show gY+n-gY=n by omega]
  · rw [if_neg e]
    by_cases h:gY≤j∧j<gY+n
    · rw [if_pos h,if_pos (by omega)]
    · rw [if_neg h,if_neg (by omega)]
abbrev Gk(d:a2)(k:Nat):Nat→BitVec 32:=k8 d.g (fun j w=>w|||qp (k7 d.hP) j) (k*d.words) d.words
abbrev Gl(d:a2)(k:Nat):Nat→BitVec 32:=k8 d.g (fun _ _=>fq) (k*d.words) d.words
abbrev a2.h9(d:a2)(k:Nat):a2:=⟨d.words,d.il,d.a,d.g,d.b,bF d.wr k (d.wr k+1),d.on,d.ew,d.a3,d.hP,d.ops⟩
def eH(d:a2)(s:Int):a2×Int:=
  if d.on=true then(if s<0∨s≥d.b.l.length then(d,60)else if d.wr s.toNat≥d.il then(d,62)else
    if g5 d=true then((kU (d.h9 s.toNat)).pR (Gk d s.toNat),63)else((kU (d.h9 s.toNat)).pR (Gl d s.toNat),0))else(d,63)
theorem Gm{a:ai (BitVec 32)}(ap:a.Own){l h m i:Nat}{ab:l≤h}{af:h≤a.l.length}{az:h≤m}(aJ:l<h):((a.cut 1 l h m ab af az).b1.getD ⟨0,0,none⟩).add (i*1)=(a.b1.getD ⟨0,0,none⟩).add ((l+i)*1):=by
  have kI:a.b1≠none:=fun e=>by have:=a.nil e;rw [this]at af;simp at af;omega
  obtain⟨bl,rl⟩:=Option.ne_none_iff_exists'.1 kI
  obtain⟨g,rfl⟩:=ap bl rl
  have:(a.cut 1 l h m ab af az).b1=some ((⟨g,0,none⟩:Addr).add (l*1)):=by simp [ai.cut,rl,show m≠l by omega]
  rw [this,rl];simp only [Option.getD_some,mG]
  congr 1;omega
theorem ZU(n W L:Nat)(a7:1≤n∧n≤64)(rB:1≤W∧W≤1024)(eL:L≤1048576):aS B 60 [U (n:Int),U (W:Int),U (L:Int)] [] (fun v S=>∃p a b,(a.l.length=n*W∧a.Own∧b.l.length=n∧b.Own)∧v= .tuple #[ag p,U 0]∧S=[aa p (bE (lR W L a b)) 196,b5 (lR W L a b),dT (lR W L a b)]):=by
 refine dn 61 Tryz.func60 fun a4 ax=>?_
 have aeG:n*W≤64*1024:=Nat.mul_le_mul a7.2 rB.2
 have oZ:(n:Int)*(W:Int)=((n*W:Nat):Int):=(Int.natCast_mul _ _).symm
 refine ah ?_
 refine cC ?_ ?_<;>intro ab
 ·omega
 refine cC ?_ ?_<;>intro af
 ·omega
 refine cC ?_ ?_<;>intro az
 ·omega
 refine kg (t:=24) rfl (fun a5=>?_) (fun a5=>?_)
 ·replace a5:=fb a5
  omega
 replace a5:=fb a5
 refine gK ?_
 refine cC ?_ ?_<;>intro cd
 ·omega
 refine aT ?_ ?_<;>intro c5
 ·omega
 refine FF ei 0 .no rfl rfl ae rfl (by omega) (by omega) rfl (fun dg jn pX=>?_)
 have N2:dg.l.length=n:=by rw [jn];simp
 have ZV:dg.l.flatMap ei=(df dg.l.length (fun _=>(0:Int))).flatMap ei:=by rw [←Lh,N2,jn]
 refine ah ?_
 refine fe (au:=[U (W:Int),U (L:Int),.slice none 0 0,aw dg,.bool true,.bool false,U 0,aI 0,U 0]) fun ay=>?_
 refine aA (wa (oz (m:=(n:Int)) (n:=(W:Int)) rfl rfl (by omega) (by omega)) (congrArg (fun z:Int=>Value.int .i64 z) oZ)) ?_
 refine FF de 0#32 .no rfl rfl ae rfl (by omega) (by omega) rfl (fun bC iq pr=>?_)
 have N3:bC.l.length=n*W:=by rw [iq];simp
 have ZW:bC.l.flatMap de=(df bC.l.length (rU 0)).flatMap de:=by rw [show rU 0=fun _=>0#32 from by funext j;unfold rU;rw [if_neg (by omega)], ←Lh,N3,iq]
 refine uM ?_
 refine cv (aw bC) ?_
 refine ah ?_
 rw [ZW,ZV]
 refine dH (α:=Nat) (fun i=>i≤bC.l.length) (fun i=>[(50,U (i:Int)),(8,ag ay),(49,U (bC.l.length:Int))]) (fun i=>[aa ay [U (W:Int),U (L:Int),aw bC,aw dg,.bool true,.bool false,U 0,aI 0,U 0] 196,row (aw bC) 42 1 bC.l.length ((df bC.l.length (rU i)).flatMap de),row (aw dg) 3 1 dg.l.length ((df dg.l.length (fun _=>(0:Int))).flatMap ei)]) (fun i=>bC.l.length-i) 0 ?_ dD bq ?_
 ·exact Nat.zero_le _
 rintro i ak
 have j9:=bC.small
 refine ah ?_
 refine bX ?_ ?_<;>intro fo
 ·refine te ?_
  refine cv (aw bC) ?_
  refine ct ?_
  refine aA (hx (j:=i) rfl rfl ae (bC).en rfl (by omega) rfl) ?_
  refine fw (uv (aW:=de) (i:=i) (y:=fq) (p4:=df bC.l.length (rU (i+1))) pr rfl rfl (fun _=>rfl) rfl rfl ar ae (by rw [mc];omega) (by rw [xC,TD])) ?_
  refine ah ?_
  refine fX (i+1) ?_
  omega
 refine ah ?_
 obtain rfl:i=bC.l.length:=by omega
 rw [show df bC.l.length (rU bC.l.length)=df bC.l.length (fun _=>fq)from TB fun j aY=>by unfold rU;rw [if_pos aY]]
 exact bI ⟨ay,bC,dg,⟨N3,pr,N2,pX⟩,rfl,rfl⟩
theorem cZ.h9{d:a2}(h:cZ d){k:Nat}(aj:d.wr k<d.il):cZ (d.h9 k):=
  ⟨h.s,h.w,h.n,h.lj,h.pb,h.gd,h.ops,h.a3,fun j=>by
    have:=h.AK j;have:=h.AK k;have:=h.lj
    show 0≤bF d.wr k (d.wr k+1) j∧bF d.wr k (d.wr k+1) j≤2000000
    unfold bF;split<;>omega⟩
theorem Vz(p:Nat)(d:a2)(h:cZ d)(x:Int):dQ Tryz.prog B 177 [.pointer (some ⟨p,0,none⟩),.int .i64 x] [aa p (bE d) 196,row (.slice d.a.b1 d.a.l.length d.a.c) 42 1 d.a.l.length ((df d.a.l.length d.g).flatMap de),row (.slice d.b.b1 d.b.l.length d.b.c) 3 1 d.b.l.length ((df d.b.l.length d.wr).flatMap ei)] (fun v S=>v= .int .i64 (eH d x).2∧S=[aa p (bE ((eH d x).1)) 196,row (.slice (eH d x).1.a.b1 (eH d x).1.a.l.length (eH d x).1.a.c) 42 1 (eH d x).1.a.l.length ((df (eH d x).1.a.l.length (eH d x).1.g).flatMap de),row (.slice (eH d x).1.b.b1 (eH d x).1.b.l.length (eH d x).1.b.c) 3 1 (eH d x).1.b.l.length ((df (eH d x).1.b.l.length (eH d x).1.wr).flatMap ei)]):=by
 refine bD 99 Tryz.func177 fun a4 ax=>?_
 refine aT ?_ ?_<;>intro ab
 ·rw [show eH d x=(d,63)from by unfold eH;rw [if_neg (by rw [ab];decide)]]
  exact bA
 refine cC ?_ ?_<;>intro af
 ·rw [show eH d x=(d,60)from by unfold eH;rw [if_pos ab,if_pos (by omega)]]
  exact bA
 refine aT ?_ ?_<;>intro az
 ·rw [show eH d x=(d,60)from by unfold eH;rw [if_pos ab,if_pos (by omega)]]
  exact bA
 obtain⟨k,rfl⟩:=Int.eq_ofNat_of_zero_le (show 0≤x by omega)
 have aB:=h.s
 have hw:=h.w
 have ab2:=h.n
 have HS:(k+1)*d.words≤d.b.l.length*d.words:=Nat.mul_le_mul_right _ (by omega)
 rw [Nat.succ_mul]at HS
 have hle:k*d.words+d.words≤d.a.l.length:=by omega
 have pq:k*d.words+d.words≤d.a.c:=Nat.le_trans hle d.a.cap
 have oZ:(k:Int)*(d.words:Int)=((k*d.words:Nat):Int):=(Int.natCast_mul _ _).symm
 have nC:((k:Int)+1)*(d.words:Int)=((k*d.words+d.words:Nat):Int):=by rw [Int.add_mul,oZ];omega
 have j9:=d.a.small
 have Pq:=h.AK k
 have aeH:=h.lj
 have hh:(d.a.cut 1 (k*d.words) (k*d.words+d.words) d.a.c (Nat.le_add_right _ _) hle pq).l.length=d.words:=by simp [ai.cut];omega
 refine ah ?_
 refine c8 [aa p (bE d) 196,row (.slice d.b.b1 d.b.l.length d.b.c) 3 1 d.b.l.length ((df d.b.l.length d.wr).flatMap ei)] ae aC ?_
 refine aN [0,1,2,3,4] ?_
 refine cy 5 rfl (h7 (j:=k) rfl rfl ae (d.b).en rfl (by omega) rfl) ?_
 refine bs 6 rfl (eO (aW:=ei) (aH:=1) (i:=k) (k:=0) (fun _=>rfl) rfl ar (qk h.gd rfl (mc _ _)) ae (uh (by omega)) rfl) ?_
 refine c7 [7,8,9,10,11,12,99] ?_
 refine bX ?_ ?_<;>intro a5
 ·refine ah ?_
  rw [show eH d (k:Int)=(d,62)from by unfold eH;rw [if_pos ab,if_neg (by omega),Int.toNat_natCast,if_pos a5]]
  exact bA
 refine uM ?_
 refine aA (hx (j:=k) rfl rfl ae (d.b).en rfl (by omega) rfl) ?_
 refine aA (eO (aW:=ei) (aH:=1) (i:=k) (k:=0) (fun _=>rfl) rfl ar (qk h.gd rfl (mc _ _)) ae (uh (by omega)) rfl) ?_
 refine aA (pO (m:=d.wr k) (n:=1) rfl rfl (by omega) (by omega)) ?_
 refine aA (hx (j:=k) rfl rfl ae (d.b).en rfl (by omega) rfl) ?_
 refine fw (uv (aW:=ei) (i:=k) (y:=d.wr k+1) (p4:=df d.b.l.length (bF d.wr k (d.wr k+1))) h.gd rfl rfl (fun _=>rfl) rfl rfl ar ae (by rw [mc];omega) xC) ?_
 refine ah ?_
 refine c8 [aa p (bE d) 196] ae aC ?_
 refine aN [0,1,2,3,4,5,6,7,8] ?_
 refine bs 9 rfl (oz (m:=(k:Int)) (n:=(d.words:Int)) rfl rfl (by omega) (by omega)) ?_
 refine aN [10,11,12,13,14,15] ?_
 refine bs 16 rfl (oz (m:=(k:Int)+1) (n:=(d.words:Int)) rfl rfl (by omega) (by omega)) ?_
 refine bs 17 rfl (xu (a:=d.a) (aH:=1) (l:=k*d.words) (h:=k*d.words+d.words) (m:=d.a.c) rfl ae (by exact⟨_,congrArg (fun n:Int=>some (Value.int .i64 n)) oZ⟩) (by exact⟨_,congrArg (fun n:Int=>some (Value.int .i64 n)) nC⟩) (by exact rfl) (by intro q;rfl) (Nat.le_add_right _ _) hle pq (Nat.le_refl _)) ?_
 refine c7 [18,99] ?_
 refine dA (M7 p (d.h9 k) (h.h9 (by omega))) ?_
 rw [show g5 (d.h9 k)=g5 d from rfl]
 refine ah ?_
 refine bX ?_ ?_<;>intro cd
 ·refine ah ?_
  refine hD (M5 d.hP) ?_
  refine ds fun ay=>?_
  refine ho ?_
  refine aA (wa (D1 rfl ae) (congrArg (fun n:Nat=>Value.int .i64 (n:Int)) hh)) ?_
  refine ah ?_
  rw [show df d.a.l.length d.g=df d.a.l.length (k8 d.g (fun j w=>w|||qp (k7 d.hP) j) (k*d.words) 0)from by rw [Li]]
  refine dH (α:=Nat) (fun i=>i≤d.words) (fun i=>[(77,.int .i64 (i:Int)),(0,.pointer (some ⟨p,0,none⟩)),(5,.slice (d.a.cut 1 (k*d.words) (k*d.words+d.words) d.a.c (Nat.le_add_right _ _) hle pq).b1 (d.a.cut 1 (k*d.words) (k*d.words+d.words) d.a.c (Nat.le_add_right _ _) hle pq).l.length (d.a.cut 1 (k*d.words) (k*d.words+d.words) d.a.c (Nat.le_add_right _ _) hle pq).c),(76,.int .i64 (d.words:Int)),(6,.pointer (some ⟨ay,0,none⟩))]) (fun i=>[aa p (bE ((kU (d.h9 k)))) 196,row (.slice d.a.b1 d.a.l.length d.a.c) 42 1 d.a.l.length ((df d.a.l.length (k8 d.g (fun j w=>w|||qp (k7 d.hP) j) (k*d.words) i)).flatMap de),row (.slice (d.h9 k).b.b1 (d.h9 k).b.l.length (d.h9 k).b.c) 3 1 (d.h9 k).b.l.length ((df (d.h9 k).b.l.length (d.h9 k).wr).flatMap ei),aa ay [.int .u32 (qp (k7 d.hP) i).toNat] 364]) (fun i=>d.words-i) 0 ?_ dD bq ?_
  ·exact Nat.zero_le _
  rintro i ak
  have ab3:=h.w
  refine ah ?_
  refine aT ?_ ?_<;>intro c5
  ·refine c8 [row (.slice d.a.b1 d.a.l.length d.a.c) 42 1 d.a.l.length ((df d.a.l.length (k8 d.g (fun j w=>w|||qp (k7 d.hP) j) (k*d.words) i)).flatMap de)] ae aC ?_
   refine aN [0,1,2,3] ?_
   refine cy 4 rfl (M2 (h7 (j:=i) rfl rfl ae (d.a.cut 1 (k*d.words) (k*d.words+d.words) d.a.c (Nat.le_add_right _ _) hle pq).en rfl (by omega) rfl) (congrArg (fun z=>Value.pointer (some z)) (Gm h.pb (by omega)))) ?_
   refine bs 5 rfl (eO (aW:=de) (aH:=1) (i:=k*d.words+i) (k:=0) (a:=(d.g (k*d.words+i))) (fun _=>rfl) rfl ar (qk h.pb rfl (mc _ _)) ae (by rw [uh (by omega),Sq]) rfl) ?_
   refine e6 6 (M6 ay (qp (k7 d.hP) i)) ?_
   refine aN [107] ?_
   refine gu (Vw (d.g (k*d.words+i)) (qp (k7 d.hP) i)) ?_
   refine cy 8 rfl (M2 (h7 (j:=i) rfl rfl ae (d.a.cut 1 (k*d.words) (k*d.words+d.words) d.a.c (Nat.le_add_right _ _) hle pq).en rfl (by omega) rfl) (congrArg (fun z=>Value.pointer (some z)) (Gm h.pb (by omega)))) ?_
   refine aN [109] ?_
   refine lC rfl dr (uv (aW:=de) (i:=k*d.words+i) (y:=(d.g (k*d.words+i))|||(qp (k7 d.hP) i)) (p4:=df d.a.l.length (k8 d.g (fun j w=>w|||qp (k7 d.hP) j) (k*d.words) (i+1))) h.pb rfl rfl (fun _=>rfl) rfl rfl ar ae (by rw [mc];omega) (by rw [xC, ←Lj])) ?_
   refine c7 [99] ?_
   refine fX (i+1) ?_
   omega
  obtain rfl:i=d.words:=by omega
  rw [show eH d (k:Int)=((kU (d.h9 k)).pR (Gk d k),63)from by unfold eH;rw [if_pos ab,if_neg (by omega),Int.toNat_natCast,if_neg (by omega),if_pos cd]]
  exact bA
 refine ho ?_
 refine aA (wa (D1 rfl ae) (congrArg (fun n:Nat=>Value.int .i64 (n:Int)) hh)) ?_
 refine ah ?_
 rw [show df d.a.l.length d.g=df d.a.l.length (k8 d.g (fun _ _=>fq) (k*d.words) 0)from by rw [Li]]
 refine dH (α:=Nat) (fun i=>i≤d.words) (fun i=>[(92,.int .i64 (i:Int)),(0,.pointer (some ⟨p,0,none⟩)),(5,.slice (d.a.cut 1 (k*d.words) (k*d.words+d.words) d.a.c (Nat.le_add_right _ _) hle pq).b1 (d.a.cut 1 (k*d.words) (k*d.words+d.words) d.a.c (Nat.le_add_right _ _) hle pq).l.length (d.a.cut 1 (k*d.words) (k*d.words+d.words) d.a.c (Nat.le_add_right _ _) hle pq).c),(91,.int .i64 (d.words:Int))]) (fun i=>[aa p (bE ((kU (d.h9 k)))) 196,row (.slice d.a.b1 d.a.l.length d.a.c) 42 1 d.a.l.length ((df d.a.l.length (k8 d.g (fun _ _=>fq) (k*d.words) i)).flatMap de),row (.slice (d.h9 k).b.b1 (d.h9 k).b.l.length (d.h9 k).b.c) 3 1 (d.h9 k).b.l.length ((df (d.h9 k).b.l.length (d.h9 k).wr).flatMap ei)]) (fun i=>d.words-i) 0 ?_ dD bq ?_
 ·exact Nat.zero_le _
 rintro i ak
 have ab3:=h.w
 refine ah ?_
 refine bX ?_ ?_<;>intro fo
 ·refine mn ?_
  refine aA (wa (hx (j:=i) rfl rfl ae (d.a.cut 1 (k*d.words) (k*d.words+d.words) d.a.c (Nat.le_add_right _ _) hle pq).en rfl (by omega) rfl) (congrArg (fun z=>Value.pointer (some z)) (Gm h.pb (by omega)))) ?_
  refine fw (uv (aW:=de) (i:=k*d.words+i) (y:=fq) (p4:=df d.a.l.length (k8 d.g (fun _ _=>fq) (k*d.words) (i+1))) h.pb rfl rfl (fun _=>rfl) rfl rfl ar ae (by rw [mc];omega) (by rw [xC, ←Lj])) ?_
  refine ah ?_
  refine fX (i+1) ?_
  omega
 refine ah ?_
 obtain rfl:i=d.words:=by omega
 rw [show eH d (k:Int)=((kU (d.h9 k)).pR (Gl d k),0)from by unfold eH;rw [if_pos ab,if_neg (by omega),Int.toNat_natCast,if_neg (by omega),if_neg (by rw [cd];decide)]]
 exact bA
abbrev ef(l:List (BitVec 32))(i:Nat):BitVec 32:=(l[i]?).getD fq
structure Bv where
  seq:BitVec 32
  mR:BitVec 32
  tw:BitVec 32
  valid:Bool
  kr:Bool
  uo:Int
abbrev ux(h:Bv):List Value:=[aI h.seq.toNat,aI h.mR.toNat,aI h.tw.toNat,.bool h.valid,.bool h.kr,U h.uo]
abbrev pM(l:List (BitVec 32))(i:Nat):Bool:=decide (ef l (i+1)= ~~~(ef l i))
abbrev yu(l:List (BitVec 32))(i:Nat)(w:BitVec 32):Bool:=decide (ef l i=w)&&decide (ef l (i+1)= ~~~w)
def h8(l:List (BitVec 32)):Bool:=pM l 0&&pM l 2&&pM l 4&&yu l 6 1668246893#32
def ls(l:List (BitVec 32)):Bool:=h8 l&&yu l 8 1668247142#32
def kj(l:List (BitVec 32)):Nat→Int
  |0=>0
  |n+1=>if ef l (10+n)=fq then kj l n else kj l n+1
theorem Jv(l:List (BitVec 32)):∀n:Nat,0≤kj l n∧kj l n≤n
  |0=>by unfold kj;omega
  |n+1=>by have:=Jv l n;unfold kj;split<;>omega
def hC(l:List (BitVec 32)):Bv:=if h8 l=true then⟨ef l 0,ef l 2,ef l 4,true,ls l,kj l 3⟩else⟨0#32,0#32,0#32,false,ls l,kj l 3⟩
theorem Gn{l:List (BitVec 32)}{i:Nat}{w:BitVec 32}(h:l[i]?=some w):ef l i=w:=by unfold ef;rw [h];rfl
theorem L6{l:List (BitVec 32)}{i:Nat}(h:l.length≤i):ef l i=fq:=by unfold ef;rw [List.getElem?_eq_none_iff.2 h];rfl
def na(l:List (BitVec 32)):Int×Bool:=match(List.range 3).find? (fun i=>decide (ef l (10+i)=fq))with
  |some i=>((10+i:Nat),true)
  |none=>(0,false)
theorem M8{a b:BitVec 32}:((a.toNat:Int)=(b.toNat:Int))↔a=b:=⟨fun h=>BitVec.eq_of_toNat_eq (by omega),fun h=>by rw [h]⟩
theorem HT(b:Nat)(l:ai (BitVec 32))(aJ:c1 K l.bl (l.l.flatMap de))(i:Nat)(ak:i≤100):aS B 248 [U (i:Int),ag b] [aa b [aw l] 46,K] (fun v S=>v=aI (ef l.l i).toNat∧S=[aa b [aw l] 46,K]):=by
 refine bD 12 Tryz.func248 fun a4 ax=>?_
 refine aT ?_ ?_<;>intro ab
 ·obtain⟨w,bh⟩:∃w,l.l[i]?=some w:=⟨_,List.getElem?_eq_getElem al⟩
  refine ah ?_
  refine aA (eO (aW:=de) (aH:=1) (i:=i) (k:=0) (fun _=>rfl) rfl ar aJ ae bh rfl) ?_
  refine ah ?_
  exact bI ⟨by rw [Gn bh],rfl⟩
 exact bI ⟨by rw [L6 al];rfl,rfl⟩
theorem AL(c:Nat)(b:Nat)(l:ai (BitVec 32))(aJ:c1 K l.bl (l.l.flatMap de))(i:Nat)(ak:i≤90):aS B 249 [U (i:Int),ag c] [aa c [.func (.func 248) #[] #[ag b]] 401,aa b [aw l] 46,K] (fun v S=>v= .agg #[aI (ef l.l i).toNat,aI (ef l.l (i+1)).toNat]∧S=[aa c [.func (.func 248) #[] #[ag b]] 401,aa b [aw l] 46,K]):=by
 refine bD 12 Tryz.func249 fun a4 ax=>?_
 refine da fun ay=>?_
 refine c8 [aa c [.func (.func 248) #[] #[ag b]] 401] ae aC ?_
 refine aN [0,1,3,4,5,102] ?_
 refine Km rfl .no e2 rfl rfl dr (HT b l aJ i al) aC rfl ?_
 rintro _ _ ⟨rfl,rfl⟩
 simp only [List.cons_append,List.nil_append]
 refine fV ?_
 refine aN [106] ?_
 refine Km rfl .no e2 rfl rfl dr (HT b l aJ (i+1) al) aC rfl ?_
 rintro _ _ ⟨rfl,rfl⟩
 simp only [List.cons_append,List.nil_append]
 refine fV ?_
 refine c7 [7,108,99] ?_
 refine cc (.nil _) (gA rfl rfl ar ae (by rfl)) ?_
 exact bA
theorem GK(l:ai (BitVec 32))(aJ:c1 K l.bl (l.l.flatMap de)):aS B 198 [aw l] [K] (fun v S=>v= .agg (ux (hC l.l)).toArray∧S=[K]):=by
 refine bD 69 Tryz.func198 fun a4 ax=>?_
 refine dt fun ay=>?_
 refine da fun aM=>?_
 refine da fun bw=>?_
 refine xw .no e2 rfl rfl (AL bw ay l aJ 0 al) aC rfl ?_
 rintro _ _ ⟨rfl,rfl⟩
 refine cU ?_
 refine xw .no e2 rfl rfl (AL bw ay l aJ 2 al) aC rfl ?_
 rintro _ _ ⟨rfl,rfl⟩
 refine cU ?_
 refine xw .no e2 rfl rfl (AL bw ay l aJ 4 al) aC rfl ?_
 rintro _ _ ⟨rfl,rfl⟩
 simp only [List.cons_append,List.nil_append]
 refine ds fun b9=>?_
 refine ds fun dK=>?_
 refine da fun jE=>?_
 refine ds fun jr=>?_
 refine dW ?_
 refine k5 (α:=Unit) (fun _=>True) (fun _=>[(1,ag ay),(2,ag aM),(3,ag bw),(4,.func (.func 249) #[] #[ag bw]),(5,ag b9),(6,ag dK),(7,ag jE),(8,ag jr)]) (fun _=>[aa ay [aw l] 46,aa bw [.func (.func 248) #[] #[ag ay]] 401,aa aM [aI 0,aI 0,aI 0,.bool false,.bool false,U 0] 278,aa jr [aI (ef l.l 0).toNat,aI (ef l.l 2).toNat,aI (ef l.l 4).toNat,.bool (h8 l.l),.bool false,U 0] 278,K]) ?_ ?_
 ·skip
  refine ct ?_
  refine cM [aI (ef l.l 0).toNat,aI (ef l.l (0+1)).toNat] ?_
  refine fL (Gi (ef l.l 0) (ef l.l (0+1))) ?_
  refine li ?_ ?_<;>intro ab
  ·refine cM [aI (ef l.l 2).toNat,aI (ef l.l (2+1)).toNat] ?_
   refine fL (Gi (ef l.l 2) (ef l.l (2+1))) ?_
   refine li ?_ ?_<;>intro af
   ·refine cM [aI (ef l.l 4).toNat,aI (ef l.l (4+1)).toNat] ?_
    refine fL (Gi (ef l.l 4) (ef l.l (4+1))) ?_
    refine kg (t:=36) rfl (fun az=>?_) (fun az=>?_)
    ·replace az:=fb az
     refine ah ?_
     refine xw (.yes 36 rfl rfl rfl) e2 rfl rfl (AL bw ay l aJ 6 al) aC rfl ?_
     rintro _ _ ⟨rfl,rfl⟩
     simp only [List.cons_append,List.nil_append]
     refine hD (Pm (ef l.l 6) (ef l.l (6+1)) 1668246893#32) ?_
     refine dW ?_
     refine fw (iG (k:=3) (fN:=[aI (ef l.l 0).toNat,aI (ef l.l 2).toNat,aI (ef l.l 4).toNat,.bool (h8 l.l),.bool false,U 0]) rfl rfl rfl ar ae rfl (by show [_,_,_,Value.bool _,_,_]=_;rw [show h8 l.l=(yu l.l 6 1668246893#32)from by unfold h8;rw [show pM l.l 0=true from decide_eq_true ab,show pM l.l 2=true from decide_eq_true af,show pM l.l 4=true from decide_eq_true az];rfl];try rfl)) ?_
     refine ah ?_
     exact fj () trivial
    replace az:=fb az
    refine cW ?_
    refine fw (iG (k:=3) (fN:=[aI (ef l.l 0).toNat,aI (ef l.l 2).toNat,aI (ef l.l 4).toNat,.bool (h8 l.l),.bool false,U 0]) rfl rfl rfl ar ae rfl (by show [_,_,_,Value.bool _,_,_]=_;rw [show h8 l.l=false from by unfold h8;rw [show pM l.l 0=true from decide_eq_true ab,show pM l.l 2=true from decide_eq_true af,show pM l.l 4=false from decide_eq_false az];rfl];try rfl)) ?_
    refine ah ?_
    exact fj () trivial
   refine jT ?_
   refine fw (iG (k:=3) (fN:=[aI (ef l.l 0).toNat,aI (ef l.l 2).toNat,aI (ef l.l 4).toNat,.bool (h8 l.l),.bool false,U 0]) rfl rfl rfl ar ae rfl (by show [_,_,_,Value.bool _,_,_]=_;rw [show h8 l.l=false from by unfold h8;rw [show pM l.l 0=true from decide_eq_true ab,show pM l.l 2=false from decide_eq_false af];rfl];try rfl)) ?_
   refine ah ?_
   exact fj () trivial
  refine te ?_
  refine fw (iG (k:=3) (fN:=[aI (ef l.l 0).toNat,aI (ef l.l 2).toNat,aI (ef l.l 4).toNat,.bool (h8 l.l),.bool false,U 0]) rfl rfl rfl ar ae rfl (by show [_,_,_,Value.bool _,_,_]=_;rw [show h8 l.l=false from by unfold h8;rw [show pM l.l 0=false from decide_eq_false ab];rfl];try rfl)) ?_
  refine ah ?_
  exact fj () trivial
 rintro _ _
 refine k5 (α:=Unit) (fun _=>True) (fun _=>[(1,ag ay),(2,ag aM),(3,ag bw),(4,.func (.func 249) #[] #[ag bw]),(8,ag jr)]) (fun _=>[aa ay [aw l] 46,aa bw [.func (.func 248) #[] #[ag ay]] 401,aa aM [aI 0,aI 0,aI 0,.bool false,.bool false,U 0] 278,aa jr [aI (ef l.l 0).toNat,aI (ef l.l 2).toNat,aI (ef l.l 4).toNat,.bool (h8 l.l),.bool (ls l.l),U 0] 278,K]) ?_ ?_
 ·skip
  refine dW ?_
  refine cv (.bool (h8 l.l)) ?_
  refine ah ?_
  refine kg (t:=44) rfl (fun a5=>?_) (fun a5=>?_)
  ·replace a5:=fb a5
   refine ah ?_
   refine xw (.yes 44 rfl rfl rfl) e2 rfl rfl (AL bw ay l aJ 8 al) aC rfl ?_
   rintro _ _ ⟨rfl,rfl⟩
   simp only [List.cons_append,List.nil_append]
   refine hD (Pm (ef l.l 8) (ef l.l (8+1)) 1668247142#32) ?_
   refine dW ?_
   refine fw (iG (k:=4) (fN:=[aI (ef l.l 0).toNat,aI (ef l.l 2).toNat,aI (ef l.l 4).toNat,.bool (h8 l.l),.bool (ls l.l),U 0]) rfl rfl rfl ar ae rfl (by show [_,_,_,_,Value.bool _,_]=_;rw [show ls l.l=(yu l.l 8 1668247142#32)from by unfold ls;rw [a5];rfl];try rfl)) ?_
   refine ah ?_
   exact fj () trivial
  replace a5:=fb a5
  refine cW ?_
  refine fw (iG (k:=4) (fN:=[aI (ef l.l 0).toNat,aI (ef l.l 2).toNat,aI (ef l.l 4).toNat,.bool (h8 l.l),.bool (ls l.l),U 0]) rfl rfl rfl ar ae rfl (by show [_,_,_,_,Value.bool _,_]=_;rw [show ls l.l=false from by unfold ls;rw [a5];rfl];try rfl)) ?_
  refine ah ?_
  exact fj () trivial
 rintro _ _
 refine k5 (α:=Unit) (fun _=>True) (fun _=>[(1,ag ay),(2,ag aM),(3,ag bw),(4,.func (.func 249) #[] #[ag bw]),(8,ag jr)]) (fun _=>[aa ay [aw l] 46,aa bw [.func (.func 248) #[] #[ag ay]] 401,aa aM [aI 0,aI 0,aI 0,.bool false,.bool false,U 0] 278,aa jr [aI (hC l.l).seq.toNat,aI (hC l.l).mR.toNat,aI (hC l.l).tw.toNat,.bool (h8 l.l),.bool (ls l.l),U (kj l.l 0)] 278,K]) ?_ ?_
 ·skip
  refine gD ?_
  refine cv (.bool (h8 l.l)) ?_
  refine ah ?_
  refine aT ?_ ?_<;>intro cd
  ·refine fw (zR (fN:=[aI 0,aI 0,aI 0,.bool (h8 l.l),.bool (ls l.l),U 0]) rfl rfl (by simp [Value.oneCell']) ar ae rfl (by rfl) (by rfl)) ?_
   refine ah ?_
   rw [show(aa jr [aI 0,aI 0,aI 0,.bool (h8 l.l),.bool (ls l.l),U 0] 278:ao B)=aa jr [aI (hC l.l).seq.toNat,aI (hC l.l).mR.toNat,aI (hC l.l).tw.toNat,.bool (h8 l.l),.bool (ls l.l),U (kj l.l 0)] 278 from by unfold hC;rw [if_neg (by rw [cd];decide)];rfl]
   exact fj () trivial
  rw [show(aa jr [aI (ef l.l 0).toNat,aI (ef l.l 2).toNat,aI (ef l.l 4).toNat,.bool (h8 l.l),.bool (ls l.l),U 0] 278:ao B)=aa jr [aI (hC l.l).seq.toNat,aI (hC l.l).mR.toNat,aI (hC l.l).tw.toNat,.bool (h8 l.l),.bool (ls l.l),U (kj l.l 0)] 278 from by unfold hC;rw [if_pos cd];rfl]
  exact fj () trivial
 rintro _ _
 refine ah ?_
 refine dH (α:=Nat) (fun i=>i≤3) (fun i=>[(55,U (i:Int)),(2,ag aM),(3,ag bw),(8,ag jr)]) (fun i=>[aa ay [aw l] 46,aa bw [.func (.func 248) #[] #[ag ay]] 401,aa aM [aI 0,aI 0,aI 0,.bool false,.bool false,U 0] 278,aa jr [aI (hC l.l).seq.toNat,aI (hC l.l).mR.toNat,aI (hC l.l).tw.toNat,.bool (h8 l.l),.bool (ls l.l),U (kj l.l i)] 278,K]) (fun i=>3-i) 0 ?_ dD aC ?_
 ·omega
 rintro i ak
 have HU:=Jv l.l i
 refine ah ?_
 refine bX ?_ ?_<;>intro c5
 ·refine wc ?_
  refine cv (.func (.func 248) #[] #[ag ay]) ?_
  refine ah ?_
  refine xw .no e2 rfl rfl (HT ay l aJ (10+i) al) aC rfl ?_
  rintro _ _ ⟨rfl,rfl⟩
  refine cU ?_
  refine bX ?_ ?_<;>intro fo
  ·refine dW ?_
   refine cv (U (kj l.l i)) ?_
   refine ah ?_
   rw [show kj l.l i+1=kj l.l (i+1)from by rw [kj,if_neg (fun q=>fo (by rw [q];rfl))]]
   refine fX (i+1) ?_
   omega
  refine ah ?_
  rw [show kj l.l i=kj l.l (i+1)from by rw [kj,if_pos (M8.1 fo)]]
  refine fX (i+1) ?_
  omega
 obtain rfl:i=3:=by omega
 refine iW ?_
 refine cM [aI (hC l.l).seq.toNat,aI (hC l.l).mR.toNat,aI (hC l.l).tw.toNat,.bool (h8 l.l),.bool (ls l.l),U (kj l.l 3)] ?_
 refine ah ?_
 refine cc (.nil _) (gA rfl rfl ar ae (by rfl)) ?_
 exact bI ⟨by show _=Value.agg (ux (hC l.l)).toArray;have dc:(hC l.l).valid=h8 l.l:=by {unfold hC;split<;>rename_i q<;>simp [q]};have dd:(hC l.l).kr=ls l.l:=by {unfold hC;split<;>rfl};have fD:(hC l.l).uo=kj l.l 3:=by {unfold hC;split<;>rfl};unfold ux;rw [dc,dd,fD],rfl⟩
theorem Lk{l:List (BitVec 32)}{i:Nat}(ak:i<3)(cR:∀j,j<i→ef l (10+j)≠fq)(h:ef l (10+i)=fq):na l=(((10+i:Nat):Int),true):=by
  have:(List.range 3).find? (fun i=>decide (ef l (10+i)=fq))=some i:=by
    rw [List.find?_range_eq_some]
    exact⟨by simpa using h,by simpa using ak,fun j aY=>by simpa using cR j aY⟩
  unfold na;rw [this]
theorem TE{l:List (BitVec 32)}(cR:∀j,j<3→ef l (10+j)≠fq):na l=(0,false):=by
  have:(List.range 3).find? (fun i=>decide (ef l (10+i)=fq))=none:=by
    rw [List.find?_eq_none];intro u hu;simpa using cR u (List.mem_range.1 hu)
  unfold na;rw [this]
abbrev pB(p:Nat×BitVec 32):Value:= .agg #[U (p.1:Int),aI p.2.toNat]
abbrev jx(a:Nat)(w:BitVec 32):List (Nat×BitVec 32):=[(a,w),(a+1,~~~w)]
theorem XQ(l:ai (BitVec 32))(aJ:c1 K l.bl (l.l.flatMap de)):aS B 137 [aw l] [K] (fun v S=>v= .tuple #[U (na l.l).1,.bool (na l.l).2]∧S=[K]):=by
 refine bD 24 Tryz.func137 fun a4 ax=>?_
 refine dH (α:=Nat) (fun i=>i≤3∧∀j,j<i→ef l.l (10+j)≠fq) (fun i=>[(5,U (i:Int)),(0,aw l)]) (fun i=>[K]) (fun i=>3-i) 0 ?_ dD aC ?_
 ·exact⟨by omega,fun j aY=>absurd aY al⟩
 rintro i ⟨ak,cR⟩
 refine ah ?_
 refine aT ?_ ?_<;>intro ab
 ·refine cC ?_ ?_<;>intro af
  ·exact bI ⟨by rw [Lk al cR (L6 al)];rfl,rfl⟩
  obtain⟨w,bh⟩:∃w,l.l[10+i]?=some w:=⟨_,List.getElem?_eq_getElem al⟩
  refine ah ?_
  refine aA (hx (j:=(10+i)) rfl rfl ae (l).en (by omega:(10:Int)+(i:Int)=((10+i:Nat):Int)) al rfl) (hw:=(.yes 13 rfl rfl rfl)) ?_
  refine aA (eO (aW:=de) (aH:=1) (i:=(10+i)) (k:=0) (fun _=>rfl) rfl ar aJ ae bh rfl) (hw:=(.yes 13 rfl rfl rfl)) ?_
  refine ah ?_
  refine aT ?_ ?_<;>intro az
  ·exact bI ⟨by rw [Lk al cR (by rw [Gn bh];exact M8.1 az)];rfl,rfl⟩
  exact fX (i+1) ⟨by omega,fun j aY=>by rcases Nat.lt_succ_iff_lt_or_eq.1 aY with q|rfl;exact cR j q;exact fun q=>az (by rw [Gn bh]at q;rw [q];rfl)⟩
 obtain rfl:i=3:=by omega
 refine ah ?_
 exact bI ⟨by rw [TE cR],rfl⟩
theorem zE(cu:Nat)(a:Nat)(aO:a≤100)(w:BitVec 32)(n:Nat)(J gN:Nat→List (ao B)→Prop)(cb:List (ao B))(bt:J n cb)(rm:∀S,J n S→nu Tryz.prog B cu [pB (a,w)] S (fun b a8=>(b=true∧J (n+1) a8)∨(b=false∧gN (n) a8)))(wA:∀S,J (n+1) S→nu Tryz.prog B cu [pB (a+1,~~~w)] S (fun b a8=>(b=true∧J (n+1+1) a8)∨(b=false∧gN (n+1) a8))):aS B 236 [.func (.yield cu) #[] #[],U (a:Int),aI w.toNat] cb (fun v S=>∃b,v= .bool b∧((b=true∧J (n+2) S)∨(b=false∧∃j,n≤j∧j<n+2∧gN j S))):=by
 refine bD 25 Tryz.func236 fun a4 ax=>?_
 refine hD (Pl w) ?_
 refine da fun ay=>?_
 refine iB (own:=[aa ay [aI w.toNat,aI (~~~w).toNat] 403]) (hU:=cb) .no rfl rfl (rm cb bt) rfl ?_
 rintro og aP aE
 refine cU ?_
 refine cC ?_ ?_<;>intro ab
 ·obtain⟨_,aE⟩|⟨q,_⟩:=aE
  rotate_left
  ·rw [q]at ab;cases ab
  refine ah ?_
  refine iB (own:=[aa ay [aI w.toNat,aI (~~~w).toNat] 403]) (hU:=aP) (.yes 16 rfl rfl rfl) rfl rfl (wA aP aE) rfl ?_
  rintro aM aQ n9
  refine cU ?_
  exact⟨aQ,⟨aM,rfl,n9.imp id (fun q=>⟨q.1,_,by omega,by omega,q.2⟩)⟩,_,aC⟩
 obtain⟨q,_⟩|⟨_,aE⟩:=aE
 ·rw [q]at ab;cases ab
 refine ah ?_
 exact⟨aP,⟨false,rfl,.inr ⟨rfl,_,by omega,by omega,aE⟩⟩,_,aC⟩
theorem Ll(x y z:BitVec 32):aS B 183 [.agg #[aI x.toNat,aI y.toNat,aI z.toNat]] [] (fun v S=>∃b,v= .func (.func 235) #[] #[ag b]∧S=[aa b [aI x.toNat,aI y.toNat,aI z.toNat] 276]):=by
 refine bD 4 Tryz.func183 fun a4 ax=>?_
 refine fe (au:=[aI x.toNat,aI y.toNat,aI z.toNat]) fun ay=>?_
 exact⟨[aa ay [aI x.toNat,aI y.toNat,aI z.toNat] 276],⟨ay,rfl,rfl⟩,_,bq⟩
theorem Rw(b:Nat)(x y z:BitVec 32):mW Tryz.prog B 235 [ag b] [aa b [aI x.toNat,aI y.toNat,aI z.toNat] 276] ((jx 0 x++jx 2 y++jx 4 z).map fun p=>[pB p]):=by
 intro cu J gN cb gv aZ
 change dQ _ _ _ _ (aa b [aI x.toNat,aI y.toNat,aI z.toNat] 276::cb) _
 refine bD 19 Tryz.func235 fun a4 ax=>?_
 refine cA (zE cu 0 (by decide) x 0 J gN cb gv (fun S q=>aZ 0 S (by simp [jx]) q) (fun S q=>aZ 1 S (by simp [jx]) q)) ?_
 rintro _ aP ⟨cj,rfl,yv⟩
 try simp only [List.cons_append,List.nil_append]
 refine ah ?_
 refine cC ?_ ?_<;>intro ab
 ·obtain⟨_,lk⟩|⟨q,_⟩:=yv
  rotate_left
  ·rw [q]at ab;cases ab
  refine ah ?_
  refine cA (zE cu 2 (by decide) y 2 J gN aP lk (fun S q=>aZ 2 S (by simp [jx]) q) (fun S q=>aZ 3 S (by simp [jx]) q)) ?_
  rintro _ aQ ⟨bC,rfl,n9⟩
  try simp only [List.cons_append,List.nil_append]
  refine ah ?_
  refine cC ?_ ?_<;>intro af
  ·obtain⟨_,tu⟩|⟨q,_⟩:=n9
   rotate_left
   ·rw [q]at af;cases af
   refine ah ?_
   refine cA (zE cu 4 (by decide) z 4 J gN aQ tu (fun S q=>aZ 4 S (by simp [jx]) q) (fun S q=>aZ 5 S (by simp [jx]) q)) ?_
   rintro _ cF ⟨EC,rfl,ab4⟩
   try simp only [List.cons_append,List.nil_append]
   refine ah ?_
   obtain⟨_,yw⟩|⟨_,j,bY,bK,eu⟩:=ab4
   ·exact⟨aa b [aI x.toNat,aI y.toNat,aI z.toNat] 276::cF,⟨cF,rfl,.inl yw⟩,_,aC⟩
   exact⟨aa b [aI x.toNat,aI y.toNat,aI z.toNat] 276::cF,⟨cF,rfl,.inr ⟨j,by show j<6;omega,eu⟩⟩,_,aC⟩
  obtain⟨q,_⟩|⟨_,j,bY,bK,eu⟩:=n9
  ·rw [q]at af;cases af
  refine ah ?_
  exact⟨aa b [aI x.toNat,aI y.toNat,aI z.toNat] 276::aQ,⟨aQ,rfl,.inr ⟨j,by show j<6;omega,eu⟩⟩,_,aC⟩
 obtain⟨q,_⟩|⟨_,j,bY,bK,eu⟩:=yv
 ·rw [q]at ab;cases ab
 refine ah ?_
 exact⟨aa b [aI x.toNat,aI y.toNat,aI z.toNat] 276::aP,⟨aP,rfl,.inr ⟨j,by show j<6;omega,eu⟩⟩,_,aC⟩
theorem Ku:aS B 184 [] [] (fun v S=>v= .func (.func 237) #[] #[]∧S=[]):=by
 refine bD 1 Tryz.func184 fun a4 ax=>?_
 exact bA
theorem Q4:mW Tryz.prog B 237 [] [] ((jx 6 1668246893#32).map fun p=>[pB p]):=by
 intro cu J gN cb gv aZ
 change dQ _ _ _ _ cb _
 refine bD 4 Tryz.func237 fun a4 ax=>?_
 refine cA (zE cu 6 (by decide) 1668246893#32 0 J gN cb gv (fun S q=>aZ 0 S (by simp [jx]) q) (fun S q=>aZ 1 S (by simp [jx]) q)) ?_
 rintro _ aP ⟨cj,rfl,yv⟩
 try simp only [List.cons_append,List.nil_append]
 refine ah ?_
 obtain⟨_,lk⟩|⟨_,j,bY,bK,eu⟩:=yv
 ·exact⟨aP,⟨aP,rfl,.inl lk⟩,_,aC⟩
 exact⟨aP,⟨aP,rfl,.inr ⟨j,by show j<2;omega,eu⟩⟩,_,aC⟩
theorem Rx:aS B 185 [] [] (fun v S=>v= .func (.func 238) #[] #[]∧S=[]):=by
 refine bD 1 Tryz.func185 fun a4 ax=>?_
 exact bA
theorem QP:mW Tryz.prog B 238 [] [] ((jx 8 1668247142#32).map fun p=>[pB p]):=by
 intro cu J gN cb gv aZ
 change dQ _ _ _ _ cb _
 refine bD 4 Tryz.func238 fun a4 ax=>?_
 refine cA (zE cu 8 (by decide) 1668247142#32 0 J gN cb gv (fun S q=>aZ 0 S (by simp [jx]) q) (fun S q=>aZ 1 S (by simp [jx]) q)) ?_
 rintro _ aP ⟨cj,rfl,yv⟩
 try simp only [List.cons_append,List.nil_append]
 refine ah ?_
 obtain⟨_,lk⟩|⟨_,j,bY,bK,eu⟩:=yv
 ·exact⟨aP,⟨aP,rfl,.inl lk⟩,_,aC⟩
 exact⟨aP,⟨aP,rfl,.inr ⟨j,by show j<2;omega,eu⟩⟩,_,aC⟩
structure bL where
  base:Nat
  many:Nat
  lZ:Bool
  put:Nat
  sum:BitVec 32
  oa:Int
abbrev bp(p:Nat)(k:bL):List Value:=[ag p,U (k.base:Int),U (k.many:Int),.bool k.lZ,U (k.put:Int),aI k.sum.toNat,U k.oa]
structure dj(d:a2)(k:bL):Prop where
  m:3≤k.many∧k.base+k.many≤d.b.l.length
  w:13≤d.words
  put:k.put≤4096
  oa:0≤k.oa∧k.oa≤4*(k.put:Int)
theorem FK{d:a2}{s:Nat}(h:s<d.b.l.length):nZ d (s:Int)=df d.words fun i=>d.g (s*d.words+i):=by unfold nZ;rw [if_neg (by omega),Int.toNat_natCast]
abbrev nT(d:a2)(k:bL):Nat:=min ((k.many-2)*d.words) 4096
def zW(d:a2)(k:bL):Bool:=!decide (d.g (k.base*d.words)=fq)
abbrev n0(d:a2)(k:bL):Bv:=hC (nZ d ((k.base+1:Nat):Int))
def fM(d:a2)(k:bL):Bv:=if zW d k=true∨(n0 d k).mR.toNat>nT d k then⟨0#32,0#32,0#32,false,false,(n0 d k).uo⟩else n0 d k
theorem L7{a b:BitVec 32}:((a.toNat:Int) !=(b.toNat:Int))=!decide (a=b):=by
  show(!((a.toNat:Int)==(b.toNat:Int)))=_;rw [Dh]
theorem ZX(p:Nat)(d:a2)(b m:Nat)(hm:3≤m∧b+m≤d.b.l.length)(nC:d.b.l.length≤64)(hw:13≤d.words):aS B 78 [ag p,U (b:Int),U (m:Int)] [aa p (bE d) 196] (fun v S=>∃q,v= .tuple #[ag q,U 0]∧S=[aa q (bp p ⟨b,m,false,0,0#32,0⟩) 273,aa p (bE d) 196]):=by
 refine bD 40 Tryz.func78 fun a4 ax=>?_
 refine cC ?_ ?_<;>intro ab
 ·omega
 refine cC ?_ ?_<;>intro af
 ·omega
 refine cC ?_ ?_<;>intro az
 ·omega
 refine nB (Kt p d) ?_
 refine cC ?_ ?_<;>intro a5
 ·omega
 refine nB (CU p d) ?_
 refine aT ?_ ?_<;>intro cd
 ·omega
 refine fe fun ay=>?_
 exact bI ⟨ay,rfl,rfl⟩
theorem XR(p q:Nat)(k:bL):aS B 223 [ag q] [aa q (bp p k) 273] (fun v S=>v= .tuple #[U (k.put:Int),.bool k.lZ]∧S=[aa q (bp p k) 273]):=by
 refine bD 12 Tryz.func223 fun a4 ax=>?_
 refine c8 [aa q (bp p k) 273] ae aC ?_
 refine c7 [0,1,2,3,4,5,6,7,8,9,99] ?_
 exact bA
theorem M9(p q:Nat)(d:a2)(h:cZ d)(k:bL)(aj:dj d k):aS B 178 [ag q] [aa q (bp p k) 273,aa p (bE d) 196] (fun v S=>v=U (nT d k:Int)∧S=[aa q (bp p k) 273,aa p (bE d) 196]):=by
 refine dn 15 Tryz.func178 fun a4 ax=>?_
 have hm:=aj.m
 have hw:=aj.w
 have aB:=h.s
 have rn:=h.w
 have sk:=aj.put
 have nC:((k.many:Int)-2)*(d.words:Int)=(((k.many-2)*d.words:Nat):Int):=by rw [Int.natCast_mul,show((k.many-2:Nat):Int)=(k.many:Int)-2 by omega]
 have aeI:(k.many-2)*d.words≤62*1024:=Nat.mul_le_mul al rn.2
 refine ah ?_
 refine c8 [aa q (bp p k) 273] ae aC ?_
 refine aN [0,1,2,3,4,5,6,7,8] ?_
 refine ky 9 (CU p d) ?_
 refine bs 10 rfl (oz (m:=(k.many:Int)-2) (n:=(d.words:Int)) rfl rfl al al) ?_
 refine c7 [11,12,99] ?_
 exact bI ⟨by rw [nC];show _=Value.int .i64 ((min _ _:Nat):Int);rw [show((min ((k.many-2)*d.words) 4096:Nat):Int)=min (((k.many-2)*d.words:Nat):Int) 4096 by omega],rfl⟩
theorem Na(p q:Nat)(d:a2)(h:cZ d)(k:bL)(aj:dj d k)(i:Nat)(ak:i≤100000):aS B 179 [ag q,U (i:Int)] [aa q (bp p k) 273,aa p (bE d) 196] (fun v S=>v= .tuple #[U ((k.base+2+i/d.words:Nat):Int),U ((i%d.words:Nat):Int)]∧S=[aa q (bp p k) 273,aa p (bE d) 196]):=by
 refine dn 26 Tryz.func179 fun a4 ax=>?_
 have hm:=aj.m
 have hw:=aj.w
 have aB:=h.s
 have rn:=h.w
 have sk:=aj.put
 have bP:IntKind.i64.wrap (Int.tdiv (i:Int) (d.words:Int))=((i/d.words:Nat):Int):=by {have hle:=Nat.div_le_self i d.words;rw [show Int.tdiv (i:Int) (d.words:Int)=((i/d.words:Nat):Int)from rfl];generalize i/d.words=z at hle⊢;exact nQ al al}
 obtain⟨z,cq⟩:∃z,i/d.words=z:=⟨_,rfl⟩
 have uZ:z≤100000:=by rw [←cq];exact Nat.le_trans (Nat.div_le_self _ _) ak
 rw [cq]at bP⊢
 refine ah ?_
 refine c8 [aa q (bp p k) 273] ae aC ?_
 refine aN [0,1,2,3,4,5,6,7,8,9,13,14,15,16,17] ?_
 refine ky 10 (CU p d) ?_
 refine bs 11 rfl (rK (z:=(z:Int)) rfl rfl al bP) ?_
 refine aN [12] ?_
 refine ky 18 (CU p d) ?_
 refine bs 19 rfl (rK (z:=((i%d.words:Nat):Int)) rfl rfl al rfl) ?_
 refine c7 [20,21,99] ?_
 exact bI ⟨by rw [show((k.base+2+z:Nat):Int)=(k.base:Int)+2+(z:Int)by omega],rfl⟩
theorem XS(p q:Nat)(d:a2)(h:cZ d)(k:bL)(aj:dj d k):aS B 199 [ag q] [aa q (bp p k) 273,aa p (bE d) 196,b5 d] (fun v S=>v= .bool (zW d k)∧S=[aa q (bp p k) 273,aa p (bE d) 196,b5 d]):=by
 refine dn 22 Tryz.func199 fun a4 ax=>?_
 have hm:=aj.m
 have hw:=aj.w
 have aB:=h.s
 have rn:=h.w
 have sk:=aj.put
 refine ah ?_
 refine c8 [aa q (bp p k) 273] ae aC ?_
 refine aN [0,1,2,3,4,5,6,7] ?_
 refine jU 8 (Cu p d h (k.base:Int)) ?_
 rintro _ _ ⟨a,⟨aO,bT⟩,rfl,rfl⟩
 simp only [List.cons_append,List.nil_append]
 refine fV ?_
 refine aN [9,99] ?_
 refine gK ?_
 have dB:a.l.length=d.words:=by rw [aO,FK al,mc]
 refine ct ?_
 refine aA (dh (v:= .bool false) (congrArg (fun b=>some (Value.bool b)) (show((a.l.length:Int)==0)=false by rw [beq_eq_false_iff_ne];omega))) ?_
 refine ah ?_
 refine aA (hx (j:=0) rfl rfl ae (a).en rfl al rfl) (hw:=(.yes 16 rfl rfl rfl)) ?_
 refine aA (eO (aW:=de) (aH:=1) (i:=0) (k:=0) (fun _=>rfl) rfl ar (eh bT rfl) ae (show a.l[0]?=some (d.g (k.base*d.words+0))by rw [aO,FK al];exact uh al) rfl) (hw:=(.yes 16 rfl rfl rfl)) ?_
 refine ah ?_
 exact bI ⟨by unfold zW;exact congrArg Value.bool (L7 (a:=d.g (k.base*d.words)) (b:=fq)),rfl⟩
abbrev gh(k:bL):List Nat:=(List.range (k.many-1)).map (fun i=>k.base+1+i)++[k.base]
theorem y8(k:bL)(h:1≤k.many):(gh k).length=k.many:=by simp [gh];omega
theorem Ry{k:bL}{i:Nat}(h:i+1<k.many):(gh k)[i]?=some (k.base+1+i):=by
  unfold gh;rw [List.getElem?_append_left (by simp;omega),List.getElem?_map,List.getElem?_range (by omega)];rfl
theorem Q5{k:bL}(h:1≤k.many):(gh k)[k.many-1]?=some k.base:=by
  unfold gh;rw [List.getElem?_append_right (by simp)];simp
abbrev sZ(k:bL):List (List Value):=(gh k).map fun(n:Nat)=>[Value.int .i64 (n:Int)]
theorem B4{k:bL}{i n:Nat}(h:(gh k)[i]?=some n):(sZ k).getD i []=[U (n:Int)]:=by simp only [sZ,List.getD,List.getElem?_map,h];rfl
def qq(d:a2)(k:bL):Bool:=(gh k).any fun s=>decide ((d.il:Int)≤d.wr s)
theorem xQ(p q:Nat)(d:a2)(h:cZ d)(k:bL)(aj:dj d k):aS B 129 [ag q] [aa q (bp p k) 273,aa p (bE d) 196,b5 d] (fun v S=>v= .agg (ux (fM d k)).toArray∧S=[aa q (bp p k) 273,aa p (bE d) 196,b5 d]):=by
 refine dn 30 Tryz.func129 fun a4 ax=>?_
 have hm:=aj.m
 have hw:=aj.w
 have aB:=h.s
 have rn:=h.w
 have sk:=aj.put
 refine ah ?_
 refine ds fun ay=>?_
 refine ct ?_
 refine k5 (α:=Nat) (fun dP=>True) (fun dP=>[(3,ag dP),(0,ag q),(2,ag ay)]) (fun dP=>[aa q (bp p k) 273,aa dP (ux (n0 d k)) 278,aa ay [aI 0,aI 0,aI 0,.bool false,.bool false,U 0] 278,aa p (bE d) 196,b5 d]) ?_ ?_
 ·skip
  refine c8 [aa q (bp p k) 273] ae aC ?_
  refine aN [0,1,2,3,4,5,6,7,8] ?_
  refine ju 9 11 jZ ?_ ?_
  ·skip
   refine lK (Cu p d h ((k.base:Int)+1)) ?_
   rintro _ _ ⟨a,⟨aO,bT⟩,rfl,rfl⟩
   simp only [List.cons_append,List.nil_append]
   refine fV ?_
   refine ju 10 11 jZ ?_ ?_
   ·skip
    refine lK (GK a (eh bT rfl)) ?_
    rintro _ _ ⟨rfl,rfl⟩
    simp only [List.cons_append,List.nil_append]
    refine fV ?_
    have AM:hC a.l=n0 d k:=by rw [aO];rfl
    rw [AM]
    refine aN [111] ?_
    refine jt rfl .no ae rfl (fun p5=>?_)
    refine aN [112,99] ?_
    exact fj p5 trivial
   skip
   refine jt rfl .no ae rfl (fun p5=>?_)
   refine e6 10 (GK a (eh bT rfl)) ?_
   have AM:hC a.l=n0 d k:=by rw [aO];rfl
   rw [AM]
   refine aN [112,99] ?_
   exact fj p5 trivial
  skip
  refine jt rfl .no ae rfl (fun p5=>?_)
  refine jU 9 (Cu p d h ((k.base:Int)+1)) ?_
  rintro _ _ ⟨a,⟨aO,bT⟩,rfl,rfl⟩
  simp only [List.cons_append,List.nil_append]
  refine fV ?_
  refine e6 10 (GK a (eh bT rfl)) ?_
  have AM:hC a.l=n0 d k:=by rw [aO];rfl
  rw [AM]
  refine aN [112,99] ?_
  exact fj p5 trivial
 rintro dP _
 refine ah ?_
 refine c8 [aa dP (ux (n0 d k)) 278] ae aC ?_
 refine aN [0] ?_
 refine ky 1 (XS p q d h k aj) ?_
 refine aN [2] ?_
 refine vB (t:=17) rfl (fun ab=>?_) (fun ab=>?_)
 ·replace ab:=fb ab
  refine aN [3,4,5,6,7,8,9,10,99] ?_
  refine cW ?_
  refine cv (U (n0 d k).uo) ?_
  refine ah ?_
  refine cc (.nil _) (gA rfl rfl ar ae (by rfl)) ?_
  rw [show fM d k=_ from by unfold fM;exact if_pos (.inl ab)]
  exact bA
 replace ab:=fb ab
 refine aN [3,4] ?_
 refine bs 5 rfl (ed (v:=aI (n0 d k).mR.toNat) ae) (hw:=(.yes 17 rfl rfl rfl)) ?_
 refine bs 6 rfl (kn (z:=((n0 d k).mR.toNat:Int)) rfl ae (nQ al (by have:=(n0 d k).mR.isLt;omega))) (hw:=(.yes 17 rfl rfl rfl)) ?_
 refine aN [7] ?_
 refine ky 8 (M9 p q d h k aj) ?_
 refine c7 [9,10,99] ?_
 refine bX ?_ ?_<;>intro af
 ·refine gD ?_
  refine cv (U (n0 d k).uo) ?_
  refine ah ?_
  refine cc (.nil _) (gA rfl rfl ar ae (by rfl)) ?_
  rw [show fM d k=_ from by unfold fM;exact if_pos (.inr al)]
  exact bA
 refine gK ?_
 refine cM (ux (n0 d k)) ?_
 refine ah ?_
 refine cc (.nil _) (gA rfl rfl ar ae (by rfl)) ?_
 rw [show fM d k=_ from by unfold fM;exact if_neg (fun z=>by rcases z with z|z;rw [ab]at z;cases z;omega)]
 exact bA
theorem Kv(q:Nat):aS B 176 [ag q] [] (fun v S=>∃c,v= .func (.func 232) #[] #[ag c]∧S=[aa c [ag q] 197]):=by
 refine bD 4 Tryz.func176 fun a4 ax=>?_
 refine fe fun ay=>?_
 exact⟨[aa ay [ag q] 197],⟨ay,rfl,rfl⟩,_,bq⟩
theorem L8(c p q:Nat)(d:a2)(h:cZ d)(k:bL)(aj:dj d k):NL Tryz.prog B 232 [ag c] [aa c [ag q] 197] (aa q (bp p k) 273) (sZ k):=by
 intro cu J gN cb ab5 gv aZ
 change dQ _ _ _ _ (aa c [ag q] 197::cb) _
 refine dn 27 Tryz.func232 fun a4 ax=>?_
 have hm:=aj.m
 have aB:=h.s
 refine ah ?_
 refine dH (α:=Nat×List (ao B)) (fun⟨i,aP⟩=>i+1≤k.many∧J i aP) (fun⟨i,aP⟩=>[(3,U ((i+1:Nat):Int)),(0,.func (.yield cu) #[] #[]),(1,ag c)]) (fun⟨i,aP⟩=>aa c [ag q] 197::aP) (fun⟨i,aP⟩=>k.many-i) (0,cb) ?_ dD aC ?_
 ·exact⟨by omega,gv⟩
 rintro⟨i,aP⟩ ⟨ak,bt⟩
 dsimp only
 obtain⟨adx,v3⟩:=ab5 i aP bt
 refine iW ?_
 refine aA (fm (v:=U (k.many:Int)) rfl (by repeat first|exact v3|with_reducible exact .here _ _|with_reducible apply Out.there|with_reducible apply Out.fu) ae (by rfl)) ?_
 refine dW ?_
 refine bX ?_ ?_<;>intro ab
 ·have er:i<(sZ k).length:=by rw [List.length_map,y8 k al];omega
  have fI:=aZ i aP er bt
  rw [B4 (Ry al),show((k.base+1+i:Nat):Int)=(k.base:Int)+((i+1:Nat):Int)by omega]at fI
  refine kk ?_
  refine ik ?_
  refine dZ ?_
  refine qY ?_
  refine dZ ?_
  refine fl ?_
  refine aA (dh rfl) ?_
  refine aA (ed ae) ?_
  refine aA (rO rfl) ?_
  refine aA (kf ae) ?_
  refine aA (fm (v:=U (k.base:Int)) rfl (by repeat first|exact v3|with_reducible exact .here _ _|with_reducible apply Out.there|with_reducible apply Out.fu) ae (by rfl)) ?_
  refine ah ?_
  refine iB (own:=[aa c [ag q] 197]) (hU:=aP) .no rfl rfl fI rfl ?_
  rintro og aQ aE
  refine cU ?_
  refine aT ?_ ?_<;>intro af
  ·obtain⟨z,_⟩|⟨_,aE⟩:=aE
   ·rw [z]at af;cases af
   exact⟨aa c [ag q] 197::aQ,⟨aQ,rfl,.inr ⟨_,er,aE⟩⟩,_,aC⟩
  obtain⟨_,aE⟩|⟨z,_⟩:=aE
  rotate_left
  ·rw [z]at af;cases af
  refine ah ?_
  refine eg (i+1,aQ) ?_ ?_ ?_ ?_
  ·(try dsimp only);exact⟨by omega,aE⟩
  ·(try dsimp only);omega
  ·refine⟨?_,?_,?_,trivial⟩<;>rfl
  (try dsimp only);exact⟨_,aC⟩
 have uY:i=k.many-1:=by omega
 have er:i<(sZ k).length:=by rw [List.length_map,y8 k al];omega
 have fI:=aZ i aP er bt
 rw [B4 (by rw [uY];exact Q5 al)]at fI
 refine uj ?_
 refine tS ?_
 refine tU ?_
 refine tT ?_
 refine ik ?_
 refine fl ?_
 refine aA (dh rfl) ?_
 refine aA (ed ae) ?_
 refine aA (rO rfl) ?_
 refine aA (kf ae) ?_
 refine aA (fm (v:=U (k.base:Int)) rfl (by repeat first|exact v3|with_reducible exact .here _ _|with_reducible apply Out.there|with_reducible apply Out.fu) ae (by rfl)) ?_
 refine iB (own:=[aa c [ag q] 197]) (hU:=aP) .no rfl rfl fI rfl ?_
 rintro og aQ aE
 refine cU ?_
 obtain⟨_,aE⟩|⟨_,aE⟩:=aE
 ·exact⟨aa c [ag q] 197::aQ,⟨aQ,rfl,.inl (by rw [List.length_map,y8 k al,show k.many=i+1 by omega];exact aE)⟩,_,aC⟩
 exact⟨aa c [ag q] 197::aQ,⟨aQ,rfl,.inr ⟨_,er,aE⟩⟩,_,aC⟩
theorem Sr{d:a2}{n:Nat}(h:n<d.b.l.length):xZ d (n:Int)=d.wr n:=by unfold xZ;rw [if_neg (by omega),Int.toNat_natCast]
theorem Ss{d:a2}{k:bL}(aj:dj d k){n:Nat}(h:n∈gh k):n<d.b.l.length:=by
  have hm:=aj.m
  rcases List.mem_append.1 h with q|q
  · obtain⟨i,ak,rfl⟩:=List.mem_map.1 q;have:=List.mem_range.1 ak;omega
  · simp at q;omega
theorem TF{d:a2}{k:bL}{i n:Nat}(bh:(gh k)[i]?=some n)(h:(d.il:Int)≤d.wr n):qq d k=true:=List.any_eq_true.2 ⟨n,List.mem_of_getElem? bh,by simpa using h⟩
theorem TG{d:a2}{k:bL}(h:∀i n,i<(gh k).length→(gh k)[i]?=some n→¬(d.il:Int)≤d.wr n):qq d k=false:=by
  unfold qq;rw [List.any_eq_false]
  intro n a7
  obtain⟨i,ak⟩:=List.getElem?_of_mem a7
  simpa using h i n (List.getElem?_eq_some_iff.1 ak).1 ak
abbrev q1(d:a2)(k:bL)(i:Nat):BitVec 32:=d.g ((k.base+2)*d.words+i)
theorem Rz{d:a2}{k:bL}(aj:dj d k)(ap:d.on=true){i:Nat}(ak:i<(k.many-2)*d.words):vU d ((k.base+2+i/d.words:Nat):Int) ((i%d.words:Nat):Int)=(q1 d k i,0):=by
  have hw:=aj.w;have hm:=aj.m
  have ab:i/d.words<k.many-2:=(Nat.div_lt_iff_lt_mul (by omega)).2 ak
  have af:=Nat.mod_lt i (show d.words>0 by omega)
  have az:=Nat.div_add_mod i d.words
  generalize i/d.words=z at ab az⊢
  generalize i%d.words=y at af az⊢
  have aO:kz d ((k.base+2+z:Nat):Int) (y:Int)=(((k.base+2)*d.words+i:Nat):Int):=by
    unfold kz;rw [if_neg (by omega), ←Int.natCast_mul, ←Int.natCast_add]
    congr 1
    rw [Nat.add_mul (k.base+2) z,Nat.mul_comm z];omega
  unfold vU;rw [if_pos ap,aO,if_neg (by omega),Int.toNat_natCast]
abbrev vN(d:a2)(k:bL)(n:Nat):List (List Value):=(List.range n).map fun i=>[Value.int .u32 (q1 d k i).toNat]
theorem Jw{d:a2}{k:bL}{n i:Nat}(h:i<n):(vN d k n).getD i []=[Value.int .u32 (q1 d k i).toNat]:=by simp [vN,List.getD,h]
theorem XT(p q:Nat)(d:a2)(h:cZ d)(k:bL)(aj:dj d k):aS B 175 [ag q] [aa q (bp p k) 273,aa p (bE d) 196,dT d] (fun v S=>v= .bool (qq d k)∧S=[aa q (bp p k) 273,aa p (bE d) 196,dT d]):=by
 refine dn 19 Tryz.func175 fun a4 ax=>?_
 have hm:=aj.m
 have hw:=aj.w
 have aB:=h.s
 have rn:=h.w
 have sk:=aj.put
 refine ah ?_
 refine dt fun ay=>?_
 refine da fun aM=>?_
 refine cA (Kv q) ?_
 rintro _ _ ⟨c,rfl,rfl⟩
 refine cU ?_
 refine Kn (own:=[aa c [ag q] 197]) (aP:=[aa q (bp p k) 273,aa ay [ag q] 197,aa p (bE d) 196,dT d,aa aM [.bool false] 4]) rfl e2 (L8 c p q d h k aj) (fun i S=>(∀j n,j<i→(gh k)[j]?=some n→¬(d.il:Int)≤d.wr n)∧S=[aa q (bp p k) 273,aa ay [ag q] 197,aa p (bE d) 196,dT d,aa aM [.bool false] 4]) (fun c i S=>c= .ret∧qq d k=true∧S=[aa q (bp p k) 273,aa ay [ag q] 197,aa p (bE d) 196,dT d,aa aM [.bool true] 4]) (show Take ([aa c [ag q] 197,aa q (bp p k) 273,aa ay [ag q] 197,aa p (bE d) 196,dT d,aa aM [.bool false] 4]) _ _ from aC) (⟨fun j n aY=>absurd aY al,rfl⟩) (fun i S bt=>by obtain⟨_,rfl⟩:=bt;exact⟨_,.here _ _⟩) rfl (fun x av=>by obtain⟨y,_,rfl⟩:=List.mem_map.1 av;rfl) ?_ ?_ ?_
 ·intro cu rec jF i aQ ak bt
  obtain⟨cR,rfl⟩:=bt
  rw [List.length_map]at ak
  obtain⟨n,cN⟩:∃n,(gh k)[i]?=some n:=⟨_,List.getElem?_eq_getElem ak⟩
  have DN:=Sr (Ss aj (List.mem_of_getElem? cN))
  rw [B4 cN]
  refine ah ?_
  refine⟨rfl,_,_,.cons ar (Take.self _),fun h1=>?_⟩
  refine ah ?_
  refine c8 [aa ay [ag q] 197,aa q (bp p k) 273] ae aC ?_
  refine aN [0,1,2,3,4,6,7,8,9] ?_
  refine ky 5 (XO p d h (n:Int)) ?_
  refine ky 10 (Vy p d) ?_
  refine c7 [11,99] ?_
  refine aT ?_ ?_<;>intro ab
  ·exact⟨[aa q (bp p k) 273,aa ay [ag q] 197,aa p (bE d) 196,dT d,aa aM [.bool true] 4],_,aC,⟨rfl,TF cN (by rw [←DN];exact ab),rfl⟩⟩
  exact⟨[aa q (bp p k) 273,aa ay [ag q] 197,aa p (bE d) 196,dT d,aa aM [.bool false] 4],_,aC,⟨fun j m aY hm=>by rcases Nat.lt_succ_iff_lt_or_eq.1 aY with z|rfl;exact cR j m z hm;rw [cN]at hm;cases hm;rw [←DN];omega,rfl⟩⟩
 ·intro c0 aQ bt
  obtain⟨cR,rfl⟩:=bt
  rw [List.length_map]at cR
  refine cU ?_
  refine cc (show Take [du c0] _ _ from aC) (mF rfl rfl ar ae) ?_
  exact bI ⟨by rw [TG cR],rfl⟩
 intro c0 c i aQ ak h
 obtain⟨rfl,Pq,rfl⟩:=h
 refine cU ?_
 refine cc (show Take [du c0] _ _ from aC) (mF rfl rfl ar ae) ?_
 exact bI ⟨by rw [Pq],rfl⟩
theorem VA(q n:Nat):aS B 197 [ag q,U (n:Int)] [] (fun v S=>∃cI c,v= .func (.func 246) #[] #[ag cI,ag c]∧S=[aa cI [U (n:Int)] 3,aa c [ag q] 197]):=by
 refine bD 6 Tryz.func197 fun a4 ax=>?_
 refine dt fun ay=>?_
 refine fe fun aM=>?_
 exact⟨[aa aM [U (n:Int)] 3,aa ay [ag q] 197],⟨aM,ay,rfl,rfl⟩,_,bq⟩
theorem TH(cI c p q:Nat)(d:a2)(h:cZ d)(k:bL)(aj:dj d k)(g6:d.on=true)(n:Nat)(a7:n≤nT d k):mW Tryz.prog B 246 [ag cI,ag c] [aa cI [U (n:Int)] 3,aa c [ag q] 197,aa q (bp p k) 273,aa p (bE d) 196,b5 d] (vN d k n):=by
 intro cu J gN cb gv aZ
 change dQ _ _ _ _ (aa cI [U (n:Int)] 3::aa c [ag q] 197::aa q (bp p k) 273::aa p (bE d) 196::b5 d::cb) _
 refine bD 38 Tryz.func246 fun a4 ax=>?_
 refine dH (α:=Nat×List (ao B)) (fun⟨i,aP⟩=>i≤n∧J i aP) (fun⟨i,aP⟩=>[(10,U (i:Int)),(0,.func (.yield cu) #[] #[]),(1,ag cI),(2,ag c),(9,U (n:Int))]) (fun⟨i,aP⟩=>aa cI [U (n:Int)] 3::aa c [ag q] 197::aa q (bp p k) 273::aa p (bE d) 196::b5 d::aP) (fun⟨i,aP⟩=>n-i) (0,cb) ?_ dD aC ?_
 ·exact⟨Nat.zero_le _,gv⟩
 rintro⟨i,aP⟩ ⟨ak,bt⟩
 dsimp only
 have aeJ:n≤(k.many-2)*d.words∧n≤4096:=by unfold nT at a7;omega
 refine ah ?_
 refine aT ?_ ?_<;>intro ab
 ·have er:i<(vN d k n).length:=by simp [vN];omega
  have fI:=aZ i aP er bt
  rw [Jw al]at fI
  refine ah ?_
  refine sj (Na p q d h k aj i al) ?_
  refine ct ?_
  refine bH (U ((k.base+2+i/d.words:Nat):Int)) ?_
  refine bH (U ((i%d.words:Nat):Int)) ?_
  refine ah ?_
  refine sj ((by have b0:=XP (B:=B) p d h ((k.base+2+i/d.words:Nat):Int) ((i%d.words:Nat):Int);rw [Rz aj g6 al]at b0;exact b0)) ?_
  refine ct ?_
  refine bH (aI (q1 d k i).toNat) ?_
  refine bH (U 0) ?_
  refine ho ?_
  refine bH (.bool false) ?_
  refine ah ?_
  refine iB (own:=[aa cI [U (n:Int)] 3,aa c [ag q] 197,aa q (bp p k) 273,aa p (bE d) 196,b5 d]) (hU:=aP) (.yes 31 rfl rfl rfl) rfl rfl fI rfl ?_
  rintro og aQ aE
  refine cU ?_
  refine aT ?_ ?_<;>intro af
  ·obtain⟨z,_⟩|⟨_,aE⟩:=aE
   ·rw [z]at af;cases af
   exact⟨aa cI [U (n:Int)] 3::aa c [ag q] 197::aa q (bp p k) 273::aa p (bE d) 196::b5 d::aQ,⟨aQ,rfl,.inr ⟨_,er,aE⟩⟩,_,aC⟩
  obtain⟨_,aE⟩|⟨z,_⟩:=aE
  rotate_left
  ·rw [z]at af;cases af
  refine ah ?_
  refine eg (i+1,aQ) ?_ ?_ ?_ ?_
  ·(try dsimp only);exact⟨by omega,aE⟩
  ·(try dsimp only);omega
  ·refine⟨?_,?_,?_,?_,?_,trivial⟩<;>rfl
  (try dsimp only);exact⟨_,aC⟩
 obtain rfl:n=i:=by omega
 exact⟨aa cI [U (n:Int)] 3::aa c [ag q] 197::aa q (bp p k) 273::aa p (bE d) 196::b5 d::aP,⟨aP,rfl,.inl (by simpa [vN]using bt)⟩,_,aC⟩
theorem Jp{d:a2}{k:bL}:(fM d k).mR.toNat≤nT d k:=by
  unfold fM;split
  · exact Nat.zero_le _
  · rename_i h;omega
theorem ZY{m n:Int}(h:m=n):some (Value.bool (m !=n))=some (.bool false):=by simp [h]
abbrev nb(d:a2)(k:bL):Nat:=(fM d k).mR.toNat
abbrev rQ(d:a2)(k:bL)(n:Nat):List (BitVec 32):=df n (q1 d k)
theorem St(d:a2)(k:bL)(n:Nat):rQ d k n++[q1 d k n]=rQ d k (n+1):=by simp [rQ,df,List.range_succ]
theorem VB(l:List (BitVec 32))(w:BitVec 32):jP (l++[w])=wh (jP l) w:=by simp [jP,List.foldl_append]
def mI(d:a2)(k:bL):List (BitVec 32)×Bool:=if(fM d k).valid=true∧d.on=true∧jP (rQ d k (nb d k))=(fM d k).tw then(rQ d k (nb d k),true)else([],false)
theorem VC(p q:Nat)(d:a2)(h:cZ d)(k:bL)(aj:dj d k):aS B 128 [ag q] [aa q (bp p k) 273,aa p (bE d) 196,b5 d] (fun v S=>∃a:ai (BitVec 32),(a.l=(mI d k).1∧a.Own)∧v= .tuple #[a.v,.bool (mI d k).2]∧S=[cr a 42 1 de,aa q (bp p k) 273,aa p (bE d) 196,b5 d]):=by
 refine dn 50 Tryz.func128 fun a4 ax=>?_
 have hm:=aj.m
 have hw:=aj.w
 have aB:=h.s
 have rn:=h.w
 have sk:=aj.put
 refine hy de 42 1 ?_
 refine hy de 42 1 ?_
 refine ah ?_
 refine dA (xQ p q d h k aj) ?_
 refine ds fun ay=>?_
 refine ho ?_
 refine cv (.bool (fM d k).valid) ?_
 refine ah ?_
 refine cC ?_ ?_<;>intro ab
 ·have ak:mI d k=([],false):=by unfold mI;exact if_neg (fun z=>by rw [ab]at z;cases z.1)
  exact bI ⟨ai.bG,⟨by rw [ak];rfl,ai.fY⟩,by rw [ak];rfl,rfl⟩
 refine nB (wK p d) ?_
 refine aT ?_ ?_<;>intro af
 ·have ak:mI d k=([],false):=by unfold mI;exact if_neg (fun z=>by rw [af]at z;cases z.2.1)
  exact bI ⟨ai.bG,⟨by rw [ak];rfl,ai.fY⟩,by rw [ak];rfl,rfl⟩
 refine da fun aM=>?_
 refine ds fun bw=>?_
 refine kZ ?_
 refine cv (aI (fM d k).mR.toNat) ?_
 refine aA (kn (z:=((nb d k):Int)) rfl ae (nQ al (by have:=(fM d k).mR.isLt;omega))) ?_
 refine cA (VA q (nb d k)) ?_
 rintro _ _ ⟨cI,c,rfl,rfl⟩
 refine cU ?_
 rw [show(aa bw [aI 0,U 0] 271:ao B)=aa bw [aI (jP ([]:List (BitVec 32))).toNat,U (4*((0:Nat):Int))] 271 from rfl]
 refine kh (own:=[aa cI [U ((nb d k):Int)] 3,aa c [ag q] 197,aa q (bp p k) 273,aa p (bE d) 196,b5 d]) (aP:=[aa aM [.slice none 0 0] 46,cr (ai.bG:ai (BitVec 32)) 42 1 de,aa bw [aI (jP ([]:List (BitVec 32))).toNat,U (4*((0:Nat):Int))] 271]) rfl e2 (TH cI c p q d h k aj af (nb d k) Jp) (fun i S=>∃a:ai (BitVec 32),(a.l=rQ d k i∧a.Own)∧S=[aa aM [a.v] 46,cr a 42 1 de,aa bw [aI (jP a.l).toNat,U (4*(i:Int))] 271]) (fun c i S=>False) (show Take ([aa cI [U ((nb d k):Int)] 3,aa c [ag q] 197,aa q (bp p k) 273,aa p (bE d) 196,b5 d,aa aM [.slice none 0 0] 46,cr (ai.bG:ai (BitVec 32)) 42 1 de,aa bw [aI (jP ([]:List (BitVec 32))).toNat,U (4*((0:Nat):Int))] 271]) _ _ from aC) (⟨ai.bG,⟨rfl,ai.fY⟩,rfl⟩) rfl (fun x av=>by obtain⟨y,_,rfl⟩:=List.mem_map.1 av;rfl) ?_ ?_ ?_
 ·intro cu rec jF i aQ ak bt
  obtain⟨a,⟨aO,bT⟩,rfl⟩:=bt
  have ak:i<(nb d k):=by simpa [vN]using ak
  have ab6:nb d k≤nT d k:=Jp
  have dB:a.l.length=i:=by rw [aO];exact mc _ _
  have aeK:nT d k≤4096:=by unfold nT;omega
  rw [Jw ak]
  refine ah ?_
  refine⟨rfl,_,_,.cons ar (Take.self _),fun h1=>?_⟩
  refine ah ?_
  refine js (au:=[aI (q1 d k i).toNat]) .no rfl ae bu bu (by rfl) (by rfl) rfl rfl (fun b9=>?_)
  refine vH (aW:=de) (c:=a) (y:=(q1 d k i)) (K:=_) .no rfl rfl ae ar ar (hF) rfl rfl al al rfl (fun c2 gL jQ=>?_)
  refine ah ?_
  refine cA (XN bw (jP a.l) (4*(i:Int)) (by omega) (q1 d k i)) ?_
  rintro _ _ rfl
  simp only [List.cons_append,List.nil_append]
  rw [show wh (jP a.l) (q1 d k i)=jP c2.l from by rw [gL,VB],show 4*(i:Int)+4=4*((i+1:Nat):Int)by omega]
  refine ah ?_
  exact⟨[aa aM [c2.v] 46,cr c2 42 1 de,aa bw [aI (jP c2.l).toNat,U (4*(((i+1:Nat)):Int))] 271],_,aC,⟨c2,⟨by rw [gL,aO,St],jQ⟩,rfl⟩⟩
 ·intro c0 aQ bt
  obtain⟨a,⟨aO,bT⟩,rfl⟩:=bt
  rw [List.length_map,List.length_range]at aO⊢
  have dB:a.l.length=(nb d k):=by rw [aO];exact mc _ _
  refine cU ?_
  refine c8 [aa aM [a.v] 46,aa ay (ux (fM d k)) 278,aa bw [aI (jP a.l).toNat,U (4*((nb d k):Int))] 271] ae aC ?_
  refine aN [0,1,2,3] ?_
  refine bs 4 rfl (ed (v:=aI (fM d k).mR.toNat) ae) ?_
  refine bs 5 rfl (kn (z:=((nb d k):Int)) rfl ae (nQ al (by have:=(fM d k).mR.isLt;omega))) ?_
  refine cy 6 rfl (fx (v:= .bool false) (ZY al)) ?_
  refine aN [7,9,10] ?_
  refine bs 11 rfl (ed (v:=aI (fM d k).tw.toNat) ae) (hw:=(.yes 42 rfl rfl rfl)) ?_
  refine ky 8 (Vx bw (jP a.l) (4*((nb d k):Int))) ?_
  refine cy 12 rfl (fx (v:= .bool (!decide (jP a.l=(fM d k).tw))) (congrArg (fun b=>some (Value.bool b)) L7)) (hw:=(.yes 42 rfl rfl rfl)) ?_
  refine c7 [13,99] ?_
  refine aT ?_ ?_<;>intro az
  ·refine cc (show Take [du c0] _ _ from aC) (zd rfl rfl rfl) ?_
   have ak:mI d k=([],false):=by unfold mI;exact if_neg (fun z=>az (by rw [aO];exact z.2.2))
   exact bI ⟨ai.bG,⟨by rw [ak];rfl,ai.fY⟩,by rw [ak];rfl,rfl⟩
  refine cc (show Take [du c0] _ _ from aC) (zd rfl rfl rfl) ?_
  have ak:mI d k=(rQ d k (nb d k),true):=by unfold mI;exact if_pos ⟨ab,af,by rw [←aO];exact az⟩
  exact bI ⟨a,⟨by rw [ak];exact aO,bT⟩,by rw [ak],rfl⟩
 intro c0 c i aQ ak h
 exact h.elim
def k9(x y z:BitVec 32):List (Nat×BitVec 32):=jx 0 x++jx 2 y++jx 4 z
def iH:List (Nat×BitVec 32):=jx 6 1668246893#32
def fZ:List (Nat×BitVec 32):=jx 8 1668247142#32
def eo(k:bL):a2→List (Nat×BitVec 32)→a2×Int
  |d,[]=>(d,0)
  |d,p::l=>if(fG d ((k.base:Int)+1) p.1 p.2).2=0 then eo k (fG d ((k.base:Int)+1) p.1 p.2).1 l else fG d ((k.base:Int)+1) p.1 p.2
theorem Cv{d:a2}(h:cZ d)(ap:d.ops<1000000000)(g:Nat→BitVec 32):cZ ((kU d).pR g):=by
 refine⟨h.s,h.w,h.n,h.lj,h.pb,h.gd,?_,?_,h.AK⟩
 ·show 0≤d.ops+1∧d.ops+1≤_;have:=h.ops;omega
 show 0≤(if d.ew=true∧g5 d=false then d.a3-1 else d.a3)∧(if d.ew=true∧g5 d=false then d.a3-1 else d.a3)≤_
 have:=h.a3
 split
 ·rename_i q
  have:¬d.a3≤0:=fun z=>by have bK:=q.2;unfold g5 at bK;rw [q.1,decide_eq_true z]at bK;cases bK
  omega
 omega
theorem ui{d:a2}(h:cZ d)(ap:d.ops<1000000000)(s w:Int)(x:BitVec 32):cZ (fG d s w x).1∧(fG d s w x).1.ops≤d.ops+1∧(fG d s w x).1.words=d.words∧(fG d s w x).1.b=d.b∧(fG d s w x).1.a=d.a∧(fG d s w x).1.il=d.il∧(fG d s w x).1.wr=d.wr:=by
  have same:cZ d∧d.ops≤d.ops+1∧d.words=d.words∧d.b=d.b∧d.a=d.a∧d.il=d.il∧d.wr=d.wr:=⟨h,by omega,rfl,rfl,rfl,rfl,rfl⟩
  unfold fG
  split
  · split
    · exact same
    · split
      · split
        · exact⟨Cv h ap _,Int.le_refl _,rfl,rfl,rfl,rfl,rfl⟩
        · exact⟨Cv h ap _,Int.le_refl _,rfl,rfl,rfl,rfl,rfl⟩
      · exact same
  · exact same
theorem dj.same{d d2:a2}{k:bL}(h:dj d k)(hw:d2.words=d.words)(bb:d2.b=d.b):dj d2 k:=⟨by rw [bb];exact h.m,by rw [hw];exact h.w,h.put,h.oa⟩
theorem xD{α:Type}{l:List α}{i:Nat}{a:α}(h:l[i]?=some a):l.drop i=a::l.drop (i+1):=by
  have ak:=(List.getElem?_eq_some_iff.1 h).1
  rw [List.drop_eq_getElem_cons ak];congr 1;rw [List.getElem?_eq_getElem ak]at h;exact Option.some.inj h
theorem Lm(p q:Nat)(d:a2)(h:cZ d)(k:bL)(aj:dj d k)(b:Nat)(x y z:BitVec 32)(fA:d.ops≤900000000):aS B 182 [ag q,.func (.func 235) #[] #[ag b]] [aa b [aI x.toNat,aI y.toNat,aI z.toNat] 276,aa q (bp p k) 273,aa p (bE d) 196,b5 d] (fun v S=>v=U (eo k d (k9 x y z)).2∧S=[aa b [aI x.toNat,aI y.toNat,aI z.toNat] 276,aa q (bp p k) 273,aa p (bE ((eo k d (k9 x y z)).1)) 196,b5 (eo k d (k9 x y z)).1]):=by
 refine bD 26 Tryz.func182 fun a4 ax=>?_
 refine dt fun ay=>?_
 refine da fun aM=>?_
 refine kh (own:=[aa b [aI x.toNat,aI y.toNat,aI z.toNat] 276]) (aP:=[aa ay [ag q] 197,aa aM [U 0] 53,aa q (bp p k) 273,aa p (bE d) 196,b5 d]) rfl e2 ((show mW _ _ _ _ _ ((k9 x y z).map fun p=>[pB p])from Rw b x y z)) (fun i S=>∃D:a2,(cZ D∧dj D k∧D.ops≤d.ops+i∧(eo k d (k9 x y z))=eo k D ((k9 x y z).drop i))∧S=[aa ay [ag q] 197,aa aM [U 0] 53,aa q (bp p k) 273,aa p (bE D) 196,b5 D]) (fun c i S=>c= .ret∧S=[aa ay [ag q] 197,aa aM [U (eo k d (k9 x y z)).2] 53,aa q (bp p k) 273,aa p (bE ((eo k d (k9 x y z)).1)) 196,b5 (eo k d (k9 x y z)).1]) (show Take ([aa b [aI x.toNat,aI y.toNat,aI z.toNat] 276,aa ay [ag q] 197,aa aM [U 0] 53,aa q (bp p k) 273,aa p (bE d) 196,b5 d]) _ _ from aC) (⟨d,⟨h,aj,by simp,rfl⟩,rfl⟩) rfl (fun x av=>by obtain⟨y,_,rfl⟩:=List.mem_map.1 av;rfl) ?_ ?_ ?_
 ·intro cu rec jF i aQ ak bt
  obtain⟨D,⟨bZ,pC,u1,gb⟩,rfl⟩:=bt
  rw [List.length_map]at ak
  obtain⟨eS,cN⟩:∃eS,(k9 x y z)[i]?=some eS:=⟨_,List.getElem?_eq_getElem ak⟩
  have Pr:i<6:=Nat.lt_of_lt_of_le ak (by simp [k9,iH,fZ,jx])
  have pz:=pC.m
  have Ps:=bZ.s
  obtain⟨bM,bS,cD,cV,_⟩:=ui bZ al ((k.base:Int)+1) (eS.1:Int) eS.2
  rw [xD cN,eo]at gb
  rw [show((k9 x y z).map fun p=>[pB p]).getD i []=[pB eS]from by simp only [List.getD,List.getElem?_map,cN];rfl]
  refine ah ?_
  refine da fun bw=>?_
  refine⟨rfl,_,_,.cons ar (Take.self _),fun h1=>?_⟩
  refine ah ?_
  refine c8 [aa ay [ag q] 197,aa q (bp p k) 273,aa bw [U (eS.1:Int),aI eS.2.toNat] 389] ae aC ?_
  refine aN [0,1,2,3,4,5,6,7,8,9] ?_
  refine bs 10 rfl (ed (v:=U (eS.1:Int)) ae) ?_
  refine aN [11] ?_
  refine bs 12 rfl (ed (v:=aI eS.2.toNat) ae) ?_
  refine e6 13 (x0 p D bZ ((k.base:Int)+1) (eS.1:Int) eS.2) ?_
  refine c7 [14,99] ?_
  refine aT ?_ ?_<;>intro ab
  ·rw [if_neg ab]at gb
   exact⟨[aa ay [ag q] 197,aa aM [U (fG D ((k.base:Int)+1) (eS.1:Int) eS.2).2] 53,aa q (bp p k) 273,aa p (bE ((fG D ((k.base:Int)+1) (eS.1:Int) eS.2).1)) 196,b5 (fG D ((k.base:Int)+1) (eS.1:Int) eS.2).1],_,aC,⟨rfl,by rw [gb]⟩⟩
  rw [if_pos ab]at gb
  exact⟨[aa ay [ag q] 197,aa aM [U 0] 53,aa q (bp p k) 273,aa p (bE ((fG D ((k.base:Int)+1) (eS.1:Int) eS.2).1)) 196,b5 (fG D ((k.base:Int)+1) (eS.1:Int) eS.2).1],_,aC,⟨_,⟨bM,pC.same cD cV,by omega,gb⟩,rfl⟩⟩
 ·intro c0 aQ bt
  obtain⟨D,⟨bZ,pC,u1,gb⟩,rfl⟩:=bt
  rw [List.length_map,List.drop_length]at gb
  have gb:(eo k d (k9 x y z))=(D,0):=gb
  refine cU ?_
  refine cc (show Take [du c0] _ _ from aC) (mF rfl rfl ar ae) ?_
  rw [gb]
  exact bA
 intro c0 c i aQ ak h
 obtain⟨rfl,rfl⟩:=h
 refine cU ?_
 refine cc (show Take [du c0] _ _ from aC) (mF rfl rfl ar ae) ?_
 exact bA
theorem Ln(p q:Nat)(d:a2)(h:cZ d)(k:bL)(aj:dj d k)(fA:d.ops≤900000000):aS B 182 [ag q,.func (.func 237) #[] #[]] [aa q (bp p k) 273,aa p (bE d) 196,b5 d] (fun v S=>v=U (eo k d iH).2∧S=[aa q (bp p k) 273,aa p (bE ((eo k d iH).1)) 196,b5 (eo k d iH).1]):=by
 refine bD 26 Tryz.func182 fun a4 ax=>?_
 refine dt fun ay=>?_
 refine da fun aM=>?_
 refine kh (own:=[]) (aP:=[aa ay [ag q] 197,aa aM [U 0] 53,aa q (bp p k) 273,aa p (bE d) 196,b5 d]) rfl e2 ((show mW _ _ _ _ _ (iH.map fun p=>[pB p])from Q4)) (fun i S=>∃D:a2,(cZ D∧dj D k∧D.ops≤d.ops+i∧(eo k d iH)=eo k D (iH.drop i))∧S=[aa ay [ag q] 197,aa aM [U 0] 53,aa q (bp p k) 273,aa p (bE D) 196,b5 D]) (fun c i S=>c= .ret∧S=[aa ay [ag q] 197,aa aM [U (eo k d iH).2] 53,aa q (bp p k) 273,aa p (bE ((eo k d iH).1)) 196,b5 (eo k d iH).1]) (show Take ([aa ay [ag q] 197,aa aM [U 0] 53,aa q (bp p k) 273,aa p (bE d) 196,b5 d]) _ _ from aC) (⟨d,⟨h,aj,by simp,rfl⟩,rfl⟩) rfl (fun x av=>by obtain⟨y,_,rfl⟩:=List.mem_map.1 av;rfl) ?_ ?_ ?_
 ·intro cu rec jF i aQ ak bt
  obtain⟨D,⟨bZ,pC,u1,gb⟩,rfl⟩:=bt
  rw [List.length_map]at ak
  obtain⟨eS,cN⟩:∃eS,iH[i]?=some eS:=⟨_,List.getElem?_eq_getElem ak⟩
  have Pr:i<6:=Nat.lt_of_lt_of_le ak (by simp [k9,iH,fZ,jx])
  have pz:=pC.m
  have Ps:=bZ.s
  obtain⟨bM,bS,cD,cV,_⟩:=ui bZ al ((k.base:Int)+1) (eS.1:Int) eS.2
  rw [xD cN,eo]at gb
  rw [show(iH.map fun p=>[pB p]).getD i []=[pB eS]from by simp only [List.getD,List.getElem?_map,cN];rfl]
  refine ah ?_
  refine da fun bw=>?_
  refine⟨rfl,_,_,.cons ar (Take.self _),fun h1=>?_⟩
  refine ah ?_
  refine c8 [aa ay [ag q] 197,aa q (bp p k) 273,aa bw [U (eS.1:Int),aI eS.2.toNat] 389] ae aC ?_
  refine aN [0,1,2,3,4,5,6,7,8,9] ?_
  refine bs 10 rfl (ed (v:=U (eS.1:Int)) ae) ?_
  refine aN [11] ?_
  refine bs 12 rfl (ed (v:=aI eS.2.toNat) ae) ?_
  refine e6 13 (x0 p D bZ ((k.base:Int)+1) (eS.1:Int) eS.2) ?_
  refine c7 [14,99] ?_
  refine aT ?_ ?_<;>intro ab
  ·rw [if_neg ab]at gb
   exact⟨[aa ay [ag q] 197,aa aM [U (fG D ((k.base:Int)+1) (eS.1:Int) eS.2).2] 53,aa q (bp p k) 273,aa p (bE ((fG D ((k.base:Int)+1) (eS.1:Int) eS.2).1)) 196,b5 (fG D ((k.base:Int)+1) (eS.1:Int) eS.2).1],_,aC,⟨rfl,by rw [gb]⟩⟩
  rw [if_pos ab]at gb
  exact⟨[aa ay [ag q] 197,aa aM [U 0] 53,aa q (bp p k) 273,aa p (bE ((fG D ((k.base:Int)+1) (eS.1:Int) eS.2).1)) 196,b5 (fG D ((k.base:Int)+1) (eS.1:Int) eS.2).1],_,aC,⟨_,⟨bM,pC.same cD cV,by omega,gb⟩,rfl⟩⟩
 ·intro c0 aQ bt
  obtain⟨D,⟨bZ,pC,u1,gb⟩,rfl⟩:=bt
  rw [List.length_map,List.drop_length]at gb
  have gb:(eo k d iH)=(D,0):=gb
  refine cU ?_
  refine cc (show Take [du c0] _ _ from aC) (mF rfl rfl ar ae) ?_
  rw [gb]
  exact bA
 intro c0 c i aQ ak h
 obtain⟨rfl,rfl⟩:=h
 refine cU ?_
 refine cc (show Take [du c0] _ _ from aC) (mF rfl rfl ar ae) ?_
 exact bA
theorem TI(p q:Nat)(d:a2)(h:cZ d)(k:bL)(aj:dj d k)(fA:d.ops≤900000000):aS B 182 [ag q,.func (.func 238) #[] #[]] [aa q (bp p k) 273,aa p (bE d) 196,b5 d] (fun v S=>v=U (eo k d fZ).2∧S=[aa q (bp p k) 273,aa p (bE ((eo k d fZ).1)) 196,b5 (eo k d fZ).1]):=by
 refine bD 26 Tryz.func182 fun a4 ax=>?_
 refine dt fun ay=>?_
 refine da fun aM=>?_
 refine kh (own:=[]) (aP:=[aa ay [ag q] 197,aa aM [U 0] 53,aa q (bp p k) 273,aa p (bE d) 196,b5 d]) rfl e2 ((show mW _ _ _ _ _ (fZ.map fun p=>[pB p])from QP)) (fun i S=>∃D:a2,(cZ D∧dj D k∧D.ops≤d.ops+i∧(eo k d fZ)=eo k D (fZ.drop i))∧S=[aa ay [ag q] 197,aa aM [U 0] 53,aa q (bp p k) 273,aa p (bE D) 196,b5 D]) (fun c i S=>c= .ret∧S=[aa ay [ag q] 197,aa aM [U (eo k d fZ).2] 53,aa q (bp p k) 273,aa p (bE ((eo k d fZ).1)) 196,b5 (eo k d fZ).1]) (show Take ([aa ay [ag q] 197,aa aM [U 0] 53,aa q (bp p k) 273,aa p (bE d) 196,b5 d]) _ _ from aC) (⟨d,⟨h,aj,by simp,rfl⟩,rfl⟩) rfl (fun x av=>by obtain⟨y,_,rfl⟩:=List.mem_map.1 av;rfl) ?_ ?_ ?_
 ·intro cu rec jF i aQ ak bt
  obtain⟨D,⟨bZ,pC,u1,gb⟩,rfl⟩:=bt
  rw [List.length_map]at ak
  obtain⟨eS,cN⟩:∃eS,fZ[i]?=some eS:=⟨_,List.getElem?_eq_getElem ak⟩
  have Pr:i<6:=Nat.lt_of_lt_of_le ak (by simp [k9,iH,fZ,jx])
  have pz:=pC.m
  have Ps:=bZ.s
  obtain⟨bM,bS,cD,cV,_⟩:=ui bZ al ((k.base:Int)+1) (eS.1:Int) eS.2
  rw [xD cN,eo]at gb
  rw [show(fZ.map fun p=>[pB p]).getD i []=[pB eS]from by simp only [List.getD,List.getElem?_map,cN];rfl]
  refine ah ?_
  refine da fun bw=>?_
  refine⟨rfl,_,_,.cons ar (Take.self _),fun h1=>?_⟩
  refine ah ?_
  refine c8 [aa ay [ag q] 197,aa q (bp p k) 273,aa bw [U (eS.1:Int),aI eS.2.toNat] 389] ae aC ?_
  refine aN [0,1,2,3,4,5,6,7,8,9] ?_
  refine bs 10 rfl (ed (v:=U (eS.1:Int)) ae) ?_
  refine aN [11] ?_
  refine bs 12 rfl (ed (v:=aI eS.2.toNat) ae) ?_
  refine e6 13 (x0 p D bZ ((k.base:Int)+1) (eS.1:Int) eS.2) ?_
  refine c7 [14,99] ?_
  refine aT ?_ ?_<;>intro ab
  ·rw [if_neg ab]at gb
   exact⟨[aa ay [ag q] 197,aa aM [U (fG D ((k.base:Int)+1) (eS.1:Int) eS.2).2] 53,aa q (bp p k) 273,aa p (bE ((fG D ((k.base:Int)+1) (eS.1:Int) eS.2).1)) 196,b5 (fG D ((k.base:Int)+1) (eS.1:Int) eS.2).1],_,aC,⟨rfl,by rw [gb]⟩⟩
  rw [if_pos ab]at gb
  exact⟨[aa ay [ag q] 197,aa aM [U 0] 53,aa q (bp p k) 273,aa p (bE ((fG D ((k.base:Int)+1) (eS.1:Int) eS.2).1)) 196,b5 (fG D ((k.base:Int)+1) (eS.1:Int) eS.2).1],_,aC,⟨_,⟨bM,pC.same cD cV,by omega,gb⟩,rfl⟩⟩
 ·intro c0 aQ bt
  obtain⟨D,⟨bZ,pC,u1,gb⟩,rfl⟩:=bt
  rw [List.length_map,List.drop_length]at gb
  have gb:(eo k d fZ)=(D,0):=gb
  refine cU ?_
  refine cc (show Take [du c0] _ _ from aC) (mF rfl rfl ar ae) ?_
  rw [gb]
  exact bA
 intro c0 c i aQ ak h
 obtain⟨rfl,rfl⟩:=h
 refine cU ?_
 refine cc (show Take [du c0] _ _ from aC) (mF rfl rfl ar ae) ?_
 exact bA
abbrev bL.shut(k:bL):bL:=⟨k.base,k.many,false,k.put,k.sum,k.oa⟩
abbrev bL.fresh(k:bL):bL:=⟨k.base,k.many,true,0,0#32,0⟩
abbrev bL.Af(k:bL)(w:BitVec 32):bL:=⟨k.base,k.many,k.lZ,k.put+1,wh k.sum w,k.oa+4⟩
theorem dj.shut{d:a2}{k:bL}(h:dj d k):dj d k.shut:=⟨h.m,h.w,h.put,h.oa⟩
theorem dj.fresh{d:a2}{k:bL}(h:dj d k):dj d k.fresh:=⟨h.m,h.w,Nat.zero_le _,Int.le_refl _,Int.le_refl _⟩
theorem L9{d:a2}(h:cZ d)(ap:d.ops<1000000000)(s:Int):cZ (eH d s).1∧(eH d s).1.ops≤d.ops+1∧(eH d s).1.words=d.words∧(eH d s).1.b=d.b∧(eH d s).1.a=d.a∧(eH d s).1.il=d.il:=by
  have same:cZ d∧d.ops≤d.ops+1∧d.words=d.words∧d.b=d.b∧d.a=d.a∧d.il=d.il:=⟨h,by omega,rfl,rfl,rfl,rfl⟩
  unfold eH
  split
  · split
    · exact same
    · split
      · exact same
      · rename_i q
        have af:cZ (d.h9 s.toNat):=h.h9 (by omega)
        split
        · exact⟨Cv af ap _,Int.le_refl _,rfl,rfl,rfl,rfl⟩
        · exact⟨Cv af ap _,Int.le_refl _,rfl,rfl,rfl,rfl⟩
  · exact same
def iR:a2→List Nat→a2×Int
  |d,[]=>(d,0)
  |d,n::l=>if(eH d (n:Int)).2=0 then iR (eH d (n:Int)).1 l else eH d (n:Int)
abbrev ev(d:a2)(k:bL):a2×Int:=fG d (k.base:Int) 0 0#32
def a1(d:a2)(k:bL):a2×bL×Int:=
  if d.on=true then(if qq d k=true then(d,k.shut,62)else if(ev d k).2=0 then
    (if(iR (ev d k).1 (gh k)).2=0 then((iR (ev d k).1 (gh k)).1,k.fresh,0)else((iR (ev d k).1 (gh k)).1,k.shut,(iR (ev d k).1 (gh k)).2))
    else((ev d k).1,k.shut,(ev d k).2))else(d,k.shut,63)
abbrev rb(d:a2)(k:bL)(w:BitVec 32):a2×Int:=fG d ((k.base+2+k.put/d.words:Nat):Int) ((k.put%d.words:Nat):Int) w
def ks:a2→bL→List (BitVec 32)→a2×bL×Int
  |d,k,[]=>(d,k,0)
  |d,k,w::l=>if(rb d k w).2=0 then ks (rb d k w).1 (k.Af w) l else((rb d k w).1,k.shut,(rb d k w).2)
def b2(d:a2)(k:bL)(l:List (BitVec 32)):a2×bL×Int:=
  if k.lZ=true then(if(l.length:Int)>(nT d k:Int)-(k.put:Int)then(d,k,81)else ks d k l)else(d,k,80)
abbrev j3(k:bL)(seq:BitVec 32):List (Nat×BitVec 32):=k9 seq (BitVec.ofNat 32 k.put) k.sum
def dU(d:a2)(k:bL)(seq:BitVec 32):a2×bL×Int:=
  if k.lZ=true∧k.put≠0 then(if(eo k.shut d (j3 k seq)).2=0 then((eo k.shut (eo k.shut d (j3 k seq)).1 iH).1,k.shut,(eo k.shut (eo k.shut d (j3 k seq)).1 iH).2)else((eo k.shut d (j3 k seq)).1,k.shut,(eo k.shut d (j3 k seq)).2))else(d,k,80)
def hl(d:a2)(k:bL):a2×Int:=
  if d.on=true then(if(fM d k).valid=true∧(fM d k).kr=false then(if(eo k d fZ).2=61 then((eo k d fZ).1,80)else eo k d fZ)else(d,80))else(d,63)
def jR(d:a2)(k:bL):a2×Int:=
  if d.on=true then(if(fM d k).valid=true∧(fM d k).kr=false∧(na (nZ d ((k.base:Int)+1))).2=true then fG d ((k.base:Int)+1) (na (nZ d ((k.base:Int)+1))).1 0#32 else(d,80))else(d,63)
theorem Ma(p q:Nat)(d:a2)(h:cZ d)(k:bL)(aj:dj d k)(fA:d.ops≤900000000):dQ Tryz.prog B 114 [.pointer (some ⟨q,0,none⟩)] [aa q (bp p k) 273,aa p (bE d) 196,row (.slice d.a.b1 d.a.l.length d.a.c) 42 1 d.a.l.length ((df d.a.l.length d.g).flatMap de),row (.slice d.b.b1 d.b.l.length d.b.c) 3 1 d.b.l.length ((df d.b.l.length d.wr).flatMap ei)] (fun v S=>v= .int .i64 (a1 d k).2.2∧S=[aa q (bp p (a1 d k).2.1) 273,aa p (bE ((a1 d k).1)) 196,row (.slice (a1 d k).1.a.b1 (a1 d k).1.a.l.length (a1 d k).1.a.c) 42 1 (a1 d k).1.a.l.length ((df (a1 d k).1.a.l.length (a1 d k).1.g).flatMap de),row (.slice (a1 d k).1.b.b1 (a1 d k).1.b.l.length (a1 d k).1.b.c) 3 1 (a1 d k).1.b.l.length ((df (a1 d k).1.b.l.length (a1 d k).1.wr).flatMap ei)]):=by
 refine dn 51 Tryz.func114 fun a4 ax=>?_
 have hm:=aj.m
 have hw:=aj.w
 have aB:=h.s
 have rn:=h.w
 have sk:=aj.put
 refine ah ?_
 refine dt fun ay=>?_
 refine da fun aM=>?_
 refine nB (wK p d) ?_
 refine aT ?_ ?_<;>intro ab
 ·refine cc (.nil _) (mF rfl rfl ar ae) ?_
  rw [show a1 d k=(d,k.shut,63)from by unfold a1;rw [if_neg (by rw [ab];decide)]]
  exact bA
 refine nB (XT p q d h (k.shut) aj.shut) ?_
 refine aT ?_ ?_<;>intro af
 ·refine cc (.nil _) (mF rfl rfl ar ae) ?_
  rw [show a1 d k=(d,k.shut,62)from by unfold a1;rw [if_pos ab,if_pos (show qq d k=true from af)]]
  exact bA
 refine c8 [aa ay [.pointer (some ⟨q,0,none⟩)] 197,aa q (bp p (k.shut)) 273] ae aC ?_
 refine aN [0,1,2,3,4,5,6,7] ?_
 refine e6 8 (x0 p d h (k.base:Int) 0 0#32) ?_
 refine c7 [9,99] ?_
 refine aT ?_ ?_<;>intro az
 ·refine cc (.nil _) (mF rfl rfl ar ae) ?_
  obtain⟨dc,dd,fD,yT,_,_,IR⟩:=ui h al (k.base:Int) 0 0#32
  rw [show(row (.slice d.b.b1 d.b.l.length d.b.c) 3 1 d.b.l.length ((df d.b.l.length d.wr).flatMap ei):ao B)=row (.slice (ev d k).1.b.b1 (ev d k).1.b.l.length (ev d k).1.b.c) 3 1 (ev d k).1.b.l.length ((df (ev d k).1.b.l.length (ev d k).1.wr).flatMap ei)from by rw [yT,IR]]
  rw [show a1 d k=((ev d k).1,k.shut,(ev d k).2)from by unfold a1;rw [if_pos ab,if_neg (by rw [show qq d k=false from af];decide),if_neg az]]
  exact bA
 refine cA (Kv q) ?_
 rintro _ _ ⟨c,rfl,rfl⟩
 refine cU ?_
 obtain⟨dc,dd,fD,yT,_,_,IR⟩:=ui h al (k.base:Int) 0 0#32
 rw [show(row (.slice d.b.b1 d.b.l.length d.b.c) 3 1 d.b.l.length ((df d.b.l.length d.wr).flatMap ei):ao B)=row (.slice (ev d k).1.b.b1 (ev d k).1.b.l.length (ev d k).1.b.c) 3 1 (ev d k).1.b.l.length ((df (ev d k).1.b.l.length (ev d k).1.wr).flatMap ei)from by rw [yT,IR]]
 refine Kn (own:=[aa c [.pointer (some ⟨q,0,none⟩)] 197]) (aP:=[aa q (bp p (k.shut)) 273,aa ay [.pointer (some ⟨q,0,none⟩)] 197,aa aM [.int .i64 0] 53,aa p (bE ((ev d k).1)) 196,row (.slice (ev d k).1.a.b1 (ev d k).1.a.l.length (ev d k).1.a.c) 42 1 (ev d k).1.a.l.length ((df (ev d k).1.a.l.length (ev d k).1.g).flatMap de),row (.slice (ev d k).1.b.b1 (ev d k).1.b.l.length (ev d k).1.b.c) 3 1 (ev d k).1.b.l.length ((df (ev d k).1.b.l.length (ev d k).1.wr).flatMap ei)]) rfl e2 (L8 c p q d h (k.shut) aj.shut) (fun i S=>∃D:a2,(cZ D∧dj D (k.shut)∧D.ops≤d.ops+1+i∧(iR (ev d k).1 (gh k))=iR D ((gh k).drop i))∧S=[aa q (bp p (k.shut)) 273,aa ay [.pointer (some ⟨q,0,none⟩)] 197,aa aM [.int .i64 0] 53,aa p (bE D) 196,row (.slice D.a.b1 D.a.l.length D.a.c) 42 1 D.a.l.length ((df D.a.l.length D.g).flatMap de),row (.slice D.b.b1 D.b.l.length D.b.c) 3 1 D.b.l.length ((df D.b.l.length D.wr).flatMap ei)]) (fun c i S=>c= .ret∧(iR (ev d k).1 (gh k)).2≠0∧S=[aa q (bp p (k.shut)) 273,aa ay [.pointer (some ⟨q,0,none⟩)] 197,aa aM [.int .i64 (iR (ev d k).1 (gh k)).2] 53,aa p (bE ((iR (ev d k).1 (gh k)).1)) 196,row (.slice (iR (ev d k).1 (gh k)).1.a.b1 (iR (ev d k).1 (gh k)).1.a.l.length (iR (ev d k).1 (gh k)).1.a.c) 42 1 (iR (ev d k).1 (gh k)).1.a.l.length ((df (iR (ev d k).1 (gh k)).1.a.l.length (iR (ev d k).1 (gh k)).1.g).flatMap de),row (.slice (iR (ev d k).1 (gh k)).1.b.b1 (iR (ev d k).1 (gh k)).1.b.l.length (iR (ev d k).1 (gh k)).1.b.c) 3 1 (iR (ev d k).1 (gh k)).1.b.l.length ((df (iR (ev d k).1 (gh k)).1.b.l.length (iR (ev d k).1 (gh k)).1.wr).flatMap ei)]) (show Take ([aa c [.pointer (some ⟨q,0,none⟩)] 197,aa q (bp p (k.shut)) 273,aa ay [.pointer (some ⟨q,0,none⟩)] 197,aa aM [.int .i64 0] 53,aa p (bE ((ev d k).1)) 196,row (.slice (ev d k).1.a.b1 (ev d k).1.a.l.length (ev d k).1.a.c) 42 1 (ev d k).1.a.l.length ((df (ev d k).1.a.l.length (ev d k).1.g).flatMap de),row (.slice (ev d k).1.b.b1 (ev d k).1.b.l.length (ev d k).1.b.c) 3 1 (ev d k).1.b.l.length ((df (ev d k).1.b.l.length (ev d k).1.wr).flatMap ei)]) _ _ from aC) (⟨(ev d k).1,⟨dc,aj.shut.same fD yT,by simpa using dd,rfl⟩,rfl⟩) (fun i S bt=>by obtain⟨_,_,rfl⟩:=bt;exact⟨_,.here _ _⟩) rfl (fun x av=>by obtain⟨y,_,rfl⟩:=List.mem_map.1 av;rfl) ?_ ?_ ?_
 ·intro cu rec jF i aQ ak bt
  obtain⟨D,⟨bZ,pC,u1,gb⟩,rfl⟩:=bt
  rw [List.length_map]at ak
  obtain⟨n,cN⟩:∃n,(gh k)[i]?=some n:=⟨_,List.getElem?_eq_getElem ak⟩
  have aeL:=y8 k al
  have ad8:(gh k.shut).length=(gh k).length:=rfl
  obtain⟨bM,bS,cD,cV,_⟩:=L9 bZ al (n:Int)
  rw [xD cN,iR]at gb
  rw [show sZ (k.shut)=sZ k from rfl,B4 cN]
  refine ah ?_
  refine⟨rfl,_,_,.cons ar (Take.self _),fun h1=>?_⟩
  refine ah ?_
  refine e1 (Vz p D bZ (n:Int)) ?_
  refine aT ?_ ?_<;>intro a5
  ·rw [if_neg a5]at gb
   exact⟨[aa q (bp p (k.shut)) 273,aa ay [.pointer (some ⟨q,0,none⟩)] 197,aa aM [.int .i64 (eH D (n:Int)).2] 53,aa p (bE ((eH D (n:Int)).1)) 196,row (.slice (eH D (n:Int)).1.a.b1 (eH D (n:Int)).1.a.l.length (eH D (n:Int)).1.a.c) 42 1 (eH D (n:Int)).1.a.l.length ((df (eH D (n:Int)).1.a.l.length (eH D (n:Int)).1.g).flatMap de),row (.slice (eH D (n:Int)).1.b.b1 (eH D (n:Int)).1.b.l.length (eH D (n:Int)).1.b.c) 3 1 (eH D (n:Int)).1.b.l.length ((df (eH D (n:Int)).1.b.l.length (eH D (n:Int)).1.wr).flatMap ei)],_,aC,⟨rfl,by rw [gb];exact a5,by rw [gb]⟩⟩
  rw [if_pos a5]at gb
  exact⟨[aa q (bp p (k.shut)) 273,aa ay [.pointer (some ⟨q,0,none⟩)] 197,aa aM [.int .i64 0] 53,aa p (bE ((eH D (n:Int)).1)) 196,row (.slice (eH D (n:Int)).1.a.b1 (eH D (n:Int)).1.a.l.length (eH D (n:Int)).1.a.c) 42 1 (eH D (n:Int)).1.a.l.length ((df (eH D (n:Int)).1.a.l.length (eH D (n:Int)).1.g).flatMap de),row (.slice (eH D (n:Int)).1.b.b1 (eH D (n:Int)).1.b.l.length (eH D (n:Int)).1.b.c) 3 1 (eH D (n:Int)).1.b.l.length ((df (eH D (n:Int)).1.b.l.length (eH D (n:Int)).1.wr).flatMap ei)],_,aC,⟨_,⟨bM,pC.same cD cV,by omega,gb⟩,rfl⟩⟩
 ·intro c0 aQ bt
  obtain⟨D,⟨bZ,pC,u1,gb⟩,rfl⟩:=bt
  rw [show sZ (k.shut)=sZ k from rfl,List.length_map,List.drop_length]at gb
  have gb:(iR (ev d k).1 (gh k))=(D,0):=gb
  refine cU ?_
  refine ki [aa ay [.pointer (some ⟨q,0,none⟩)] 197] ae aC ?_
  refine aN [0,1,2,3,4,5,106] ?_
  refine mg rfl .no dr (oB rfl rfl rfl ar ae pH) aC ?_
  refine aN [7,8,109] ?_
  refine mg rfl .no dr (oB rfl rfl rfl ar ae pH) aC ?_
  refine aN [10,11,112] ?_
  refine mg rfl .no dr (zR (fN:=[.pointer (some ⟨p,0,none⟩),.int .i64 (k.base:Int),.int .i64 (k.many:Int),.bool true,.int .i64 0,.int .u32 0,.int .i64 0]) rfl rfl (by simp [Value.oneCell']) ar ae rfl (by rfl) (by rfl)) aC ?_
  refine c7 [99] ?_
  refine cc (show Take [du c0] _ _ from aC) (mF rfl rfl ar ae) ?_
  rw [show a1 d k=(D,k.fresh,0)from by unfold a1;rw [if_pos ab,if_neg (by rw [show qq d k=false from af];decide),if_pos az,gb];rfl]
  exact bA
 intro c0 c i aQ ak h
 obtain⟨rfl,kI,rfl⟩:=h
 refine cU ?_
 refine cc (show Take [du c0] _ _ from aC) (mF rfl rfl ar ae) ?_
 rw [show a1 d k=((iR (ev d k).1 (gh k)).1,k.shut,(iR (ev d k).1 (gh k)).2)from by unfold a1;rw [if_pos ab,if_neg (by rw [show qq d k=false from af];decide),if_pos az,if_neg kI]]
 exact bA
theorem XU(p q:Nat)(k:bL)(t:BitVec 32)(n:Int)(a7:0≤n∧n≤1000000000)(b:Nat)(bb:b<256):aS B 234 [.pointer (some ⟨q,5,none⟩),.int .u8 (b:Int)] [aa q [ag p,U (k.base:Int),U (k.many:Int),.bool k.lZ,U (k.put:Int),aI (t:BitVec 32).toNat,U n] 273] (fun v S=>S=[aa q [ag p,U (k.base:Int),U (k.many:Int),.bool k.lZ,U (k.put:Int),aI (Ae t b:BitVec 32).toNat,U (n+1)] 273]):=by
 refine bD 37 Tryz.func234 fun a4 ax=>?_
 refine aA (xB rfl (ej _)) ?_
 refine ah ?_
 refine aA (kn (z:=((BitVec.ofNat 32 b).toNat:Int)) rfl ae (M4 bb)) ?_
 refine aA (hH rfl rfl (ej _) (ej _) rfl) ?_
 refine ah ?_
 refine dH (α:=Nat) (fun i=>i≤8) (fun i=>[(14,U (i:Int)),(4,aI (Ct (~~~t^^^BitVec.ofNat 32 b) i).toNat),(0,.pointer (some ⟨q,5,none⟩))]) (fun i=>[aa q [ag p,U (k.base:Int),U (k.many:Int),.bool k.lZ,U (k.put:Int),aI (t:BitVec 32).toNat,U n] 273]) (fun i=>8-i) 0 ?_ dD aC ?_
 ·omega
 rintro i ak
 refine ah ?_
 refine aT ?_ ?_<;>intro ab
 ·refine aA (hH rfl rfl (ej _) rfl rfl) ?_
  refine ah ?_
  refine aA (sM rfl rfl rfl al al) ?_
  refine ah ?_
  refine aT ?_ ?_<;>intro af
  ·refine aA (hH rfl rfl (ej _) rfl rfl) ?_
   refine ah ?_
   refine eg (i+1) ?_ ?_ ?_ ?_
   ·omega
   ·omega
   ·refine⟨?_,?_,?_,trivial⟩<;>first|rfl|(refine congrArg (fun z:BitVec 32=>some (Value.int .u32 z.toNat)) ?_;exact Kq af)
   exact⟨_,aC⟩
  refine eg (i+1) ?_ ?_ ?_ ?_
  ·omega
  ·omega
  ·refine⟨?_,?_,?_,trivial⟩<;>first|rfl|(refine congrArg (fun z:BitVec 32=>some (Value.int .u32 z.toNat)) ?_;exact Kr af)
  exact⟨_,aC⟩
 refine aA (xB rfl (ej _)) ?_
 refine ah ?_
 obtain rfl:i=8:=by omega
 exact bI rfl
theorem XV(p q:Nat)(k:bL)(t:BitVec 32)(n:Int)(a7:0≤n∧n≤100000000)(w:BitVec 32):aS B 180 [.pointer (some ⟨q,5,none⟩),aI w.toNat] [aa q [ag p,U (k.base:Int),U (k.many:Int),.bool k.lZ,U (k.put:Int),aI (t:BitVec 32).toNat,U n] 273] (fun v S=>S=[aa q [ag p,U (k.base:Int),U (k.many:Int),.bool k.lZ,U (k.put:Int),aI (wh t w:BitVec 32).toNat,U (n+4)] 273]):=by
 refine bD 17 Tryz.func180 fun a4 ax=>?_
 rw [show(aa q [ag p,U (k.base:Int),U (k.many:Int),.bool k.lZ,U (k.put:Int),aI (t:BitVec 32).toNat,U n] 273:ao B)=aa q [ag p,U (k.base:Int),U (k.many:Int),.bool k.lZ,U (k.put:Int),aI (pk t w 0:BitVec 32).toNat,U (n+((0:Nat):Int))] 273 from by simp [pk]]
 refine dH (α:=Nat) (fun i=>i≤4) (fun i=>[(5,U (i:Int)),(0,.pointer (some ⟨q,5,none⟩)),(1,aI w.toNat)]) (fun i=>[aa q [ag p,U (k.base:Int),U (k.many:Int),.bool k.lZ,U (k.put:Int),aI (pk t w i:BitVec 32).toNat,U (n+(i:Int))] 273]) (fun i=>4-i) 0 ?_ dD aC ?_
 ·omega
 rintro i ak
 refine ah ?_
 refine aT ?_ ?_<;>intro ab
 ·refine aA (oz (m:=8) (n:=(i:Int)) rfl rfl al al) ?_
  refine ah ?_
  refine aA (sM rfl rfl rfl al al) ?_
  refine aA (kn (z:=(rT w i:Int)) rfl ae (Lg w al)) ?_
  refine cA (XU p q k (pk t w i) (n+(i:Int)) (by omega) (rT w i) (Ks w i)) ?_
  rintro _ _ rfl
  refine cU ?_
  rw [show n+(i:Int)+1=n+((i+1:Nat):Int)by omega,show Ae (pk t w i) (rT w i)=pk t w (i+1)from rfl]
  refine fX (i+1) ?_
  omega
 obtain rfl:i=4:=by omega
 exact bI rfl
theorem Mb(p q:Nat)(k:bL):aS B 181 [.pointer (some ⟨q,5,none⟩)] [aa q (bp p k) 273] (fun v S=>v=aI k.sum.toNat∧S=[aa q (bp p k) 273]):=by
 refine bD 7 Tryz.func181 fun a4 ax=>?_
 exact bA
theorem Kw{k:bL}:∀(l:List (Nat×BitVec 32)) {d:a2},cZ d→dj d k→d.ops+l.length≤1000000000→cZ (eo k d l).1∧dj (eo k d l).1 k∧(eo k d l).1.ops≤d.ops+l.length∧(eo k d l).1.b=d.b∧(eo k d l).1.wr=d.wr
  |[],d,h,aj,_=>⟨h,aj,by simp [eo],rfl,rfl⟩
  |p::l,d,h,aj,ap=>by
    have aJ:(p::l).length=l.length+1:=rfl
    obtain⟨bM,bS,cD,cV,_,_,rD⟩:=ui h (by omega) ((k.base:Int)+1) p.1 p.2
    rw [eo];split
    · obtain⟨cE,c2,m2,vo,Bw⟩:=Kw l bM (aj.same cD cV) (by omega)
      exact⟨cE,c2,by omega,by rw [vo,cV],by rw [Bw,rD]⟩
    · exact⟨bM,aj.same cD cV,by omega,cV,rD⟩
theorem XW{n:Nat}(h:n≤4096):IntKind.u32.wrap (n:Int)=((BitVec.ofNat 32 n).toNat:Int):=by
  have e:(BitVec.ofNat 32 n).toNat=n:=by rw [BitVec.toNat_ofNat];omega
  have:=Cn (BitVec.ofNat 32 n)
  rw [e]at this⊢;exact this
theorem N4(p q:Nat)(d:a2)(h:cZ d)(k:bL)(aj:dj d k)(fA:d.ops≤900000000)(l:ai (BitVec 32))(aJ:c1 K l.bl (l.l.flatMap de)):aS B 115 [ag q,aw l] [aa q (bp p k) 273,aa p (bE d) 196,b5 d,K] (fun v S=>v=U (b2 d k l.l).2.2∧S=[aa q (bp p (b2 d k l.l).2.1) 273,aa p (bE ((b2 d k l.l).1)) 196,b5 (b2 d k l.l).1,K]):=by
 refine dn 67 Tryz.func115 fun a4 ax=>?_
 have hm:=aj.m
 have hw:=aj.w
 have aB:=h.s
 have rn:=h.w
 have sk:=aj.put
 have ad9:nT d k≤4096:=Nat.min_le_right _ _
 refine ah ?_
 refine aT ?_ ?_<;>intro ab
 ·rw [show b2 d k l.l=(d,k,80)from by unfold b2;rw [if_neg (by rw [ab];decide)]]
  exact bA
 refine c8 [aa q (bp p k) 273] ae aC ?_
 refine aN [0,1,2,4,5,6,7] ?_
 refine ky 3 (M9 p q d h k aj) ?_
 refine c7 [8,9,99] ?_
 refine aT ?_ ?_<;>intro af
 ·rw [show b2 d k l.l=(d,k,81)from by unfold b2;rw [if_pos ab,if_pos al]]
  exact bA
 refine dH (α:=Nat×a2×bL) (fun⟨i,D,cB⟩=>i≤l.l.length∧cZ D∧dj D cB∧D.ops≤d.ops+i∧cB.put=k.put+i∧ks d k l.l=ks D cB (l.l.drop i)) (fun⟨i,D,cB⟩=>[(27,U (i:Int)),(0,ag q),(25,aw l),(26,U (l.l.length:Int))]) (fun⟨i,D,cB⟩=>[aa q (bp p cB) 273,aa p (bE D) 196,b5 D,K]) (fun⟨i,D,cB⟩=>l.l.length-i) (0,d,k) ?_ dD aC ?_
 ·exact⟨Nat.zero_le _,h,aj,by simp,rfl,rfl⟩
 rintro⟨i,D,cB⟩ ⟨ak,bZ,jm,u1,n9,gb⟩
 dsimp only
 have aea:=jm.put
 have aeb:=jm.oa
 have aeM:nT d k≤4096:=Nat.min_le_right _ _
 refine ah ?_
 refine aT ?_ ?_<;>intro az
 ·obtain⟨w,bh⟩:∃w,l.l[i]?=some w:=⟨_,List.getElem?_eq_getElem al⟩
  obtain⟨bM,bS,cD,cV,_⟩:=ui bZ al ((cB.base+2+cB.put/D.words:Nat):Int) ((cB.put%D.words:Nat):Int) w
  refine ah ?_
  refine aA (eO (aW:=de) (aH:=1) (i:=i) (k:=0) (fun _=>rfl) rfl ar aJ ae bh rfl) ?_
  refine ah ?_
  refine sj (Na p q D bZ cB jm cB.put al) ?_
  refine ct ?_
  refine bH (U ((cB.base+2+cB.put/D.words:Nat):Int)) ?_
  refine bH (U ((cB.put%D.words:Nat):Int)) ?_
  refine ah ?_
  refine e1 (x0 p D bZ ((cB.base+2+cB.put/D.words:Nat):Int) ((cB.put%D.words:Nat):Int) w) ?_
  refine aT ?_ ?_<;>intro a5
  ·rw [show b2 d k l.l=((rb D cB w).1,cB.shut,(rb D cB w).2)from by unfold b2;rw [if_pos ab,if_neg al,gb,xD bh,ks,if_neg a5]]
   exact bA
  refine cA (XV p q cB cB.sum cB.oa (by omega) w) ?_
  rintro _ _ rfl
  refine cU ?_
  rw [show(cB.put:Int)+1=((cB.put+1:Nat):Int)by omega]
  refine eg (i+1,(rb D cB w).1,cB.Af w) ?_ ?_ ?_ ?_
  ·(try dsimp only);exact⟨by omega,bM,⟨(jm.same cD cV).m,(jm.same cD cV).w,by show cB.put+1≤4096;omega,by show 0≤cB.oa+4∧cB.oa+4≤4*((cB.put+1:Nat):Int);omega⟩,by have ff:(rb D cB w).1.ops≤D.ops+1:=bS;omega,by show cB.put+1=_;omega,by rw [gb,xD bh,ks,if_pos a5]⟩
  ·(try dsimp only);omega
  ·refine⟨?_,?_,?_,?_,trivial⟩<;>rfl
  (try dsimp only);exact⟨_,aC⟩
 obtain rfl:i=l.l.length:=by omega
 rw [show b2 d k l.l=(D,cB,0)from by unfold b2;rw [if_pos ab,if_neg al,gb,List.drop_length,ks]]
 exact bA
theorem Lo(p q:Nat)(d:a2)(h:cZ d)(k:bL)(aj:dj d k)(fA:d.ops≤800000000)(seq:BitVec 32):aS B 116 [ag q,aI seq.toNat] [aa q (bp p k) 273,aa p (bE d) 196,b5 d] (fun v S=>v=U (dU d k seq).2.2∧S=[aa q (bp p (dU d k seq).2.1) 273,aa p (bE ((dU d k seq).1)) 196,b5 (dU d k seq).1]):=by
 refine dn 43 Tryz.func116 fun a4 ax=>?_
 have hm:=aj.m
 have hw:=aj.w
 have aB:=h.s
 have rn:=h.w
 have sk:=aj.put
 obtain⟨cE,c2,m2,_,_⟩:=Kw (j3 k seq) h aj.shut (by have:(j3 k seq).length=6:=rfl;omega)
 have vo:(j3 k seq).length=6:=rfl
 refine ah ?_
 refine cC ?_ ?_<;>intro ab
 ·rw [show dU d k seq=(d,k,80)from by unfold dU;exact if_neg (fun z=>by simp_all)]
  exact bA
 refine aT ?_ ?_<;>intro af
 ·rw [show dU d k seq=(d,k,80)from by unfold dU;exact if_neg (fun z=>by simp_all)]
  exact bA
 refine ki [aa q (bp p (k.shut)) 273] ae aC ?_
 refine aN [0,1,2,3,4] ?_
 refine bs 5 rfl (kn (z:=((BitVec.ofNat 32 k.put).toNat:Int)) rfl ae (XW aj.put)) ?_
 refine aN [6,7,8] ?_
 refine ju 9 11 jZ ?_ ?_
 ·skip
  refine abZ (Mb p q k.shut) ?_
  refine aN [10,111] ?_
  refine jt rfl .no ae rfl (fun tx=>?_)
  refine aN [112] ?_
  refine mg rfl .no dr (hA rfl rfl rfl ar ae rfl rfl) aC ?_
  refine aN [99] ?_
  refine cW ?_
  refine cM [aI seq.toNat,aI (BitVec.ofNat 32 k.put).toNat,aI k.sum.toNat] ?_
  refine cA (Ll seq (BitVec.ofNat 32 k.put) k.sum) ?_
  rintro _ _ ⟨b,rfl,rfl⟩
  simp only [List.cons_append,List.nil_append]
  refine e1 (Lm p q d h k.shut aj.shut b seq (BitVec.ofNat 32 k.put) k.sum (by omega)) ?_
  refine aT ?_ ?_<;>intro az
  ·rw [show dU d k seq=((eo k.shut d (j3 k seq)).1,k.shut,(eo k.shut d (j3 k seq)).2)from by unfold dU;rw [if_pos ⟨ab,by omega⟩,if_neg cl]]
   exact bA
  refine hD (Ku) ?_
  refine e1 (Ln p q (eo k.shut d (j3 k seq)).1 cE k.shut c2 (by omega)) ?_
  rw [show dU d k seq=((eo k.shut (eo k.shut d (j3 k seq)).1 iH).1,k.shut,(eo k.shut (eo k.shut d (j3 k seq)).1 iH).2)from by unfold dU;rw [if_pos ⟨ab,by omega⟩,if_pos cl]]
  exact bA
 skip
 refine jt rfl .no ae rfl (fun tx=>?_)
 refine ky 9 (Mb p q k.shut) ?_
 refine aN [10,112] ?_
 refine mg rfl .no dr (hA rfl rfl rfl ar ae rfl rfl) aC ?_
 refine aN [99] ?_
 refine cW ?_
 refine cM [aI seq.toNat,aI (BitVec.ofNat 32 k.put).toNat,aI k.sum.toNat] ?_
 refine cA (Ll seq (BitVec.ofNat 32 k.put) k.sum) ?_
 rintro _ _ ⟨b,rfl,rfl⟩
 simp only [List.cons_append,List.nil_append]
 refine e1 (Lm p q d h k.shut aj.shut b seq (BitVec.ofNat 32 k.put) k.sum (by omega)) ?_
 refine aT ?_ ?_<;>intro a5
 ·rw [show dU d k seq=((eo k.shut d (j3 k seq)).1,k.shut,(eo k.shut d (j3 k seq)).2)from by unfold dU;rw [if_pos ⟨ab,by omega⟩,if_neg cl]]
  exact bA
 refine hD (Ku) ?_
 refine e1 (Ln p q (eo k.shut d (j3 k seq)).1 cE k.shut c2 (by omega)) ?_
 rw [show dU d k seq=((eo k.shut (eo k.shut d (j3 k seq)).1 iH).1,k.shut,(eo k.shut (eo k.shut d (j3 k seq)).1 iH).2)from by unfold dU;rw [if_pos ⟨ab,by omega⟩,if_pos cl]]
 exact bA
theorem Kx(p q:Nat)(d:a2)(h:cZ d)(k:bL)(aj:dj d k)(fA:d.ops≤900000000):aS B 117 [ag q] [aa q (bp p k) 273,aa p (bE d) 196,b5 d] (fun v S=>v=U (hl d k).2∧S=[aa q (bp p k) 273,aa p (bE ((hl d k).1)) 196,b5 (hl d k).1]):=by
 refine dn 28 Tryz.func117 fun a4 ax=>?_
 have hm:=aj.m
 have hw:=aj.w
 have aB:=h.s
 have rn:=h.w
 have sk:=aj.put
 refine ah ?_
 refine dA (xQ p q d h k aj) ?_
 refine da fun ay=>?_
 refine nB (wK p d) ?_
 refine bX ?_ ?_<;>intro ab
 ·refine ah ?_
  rw [show hl d k=(d,63)from by unfold hl;rw [if_neg (by simp_all)]]
  exact bA
 refine gD ?_
 refine cv (.bool (fM d k).valid) ?_
 refine ah ?_
 refine li ?_ ?_<;>intro af
 ·refine ah ?_
  rw [show hl d k=(d,80)from by unfold hl;rw [if_pos (by simp_all),if_neg (by simp_all)]]
  exact bA
 refine ct ?_
 refine cv (.bool (fM d k).kr) ?_
 refine ah ?_
 refine aT ?_ ?_<;>intro az
 ·rw [show hl d k=(d,80)from by unfold hl;rw [if_pos (by simp_all),if_neg (by simp_all)]]
  exact bA
 refine hD (Rx) ?_
 refine e1 (TI p q d h k aj fA) ?_
 refine aT ?_ ?_<;>intro a5
 ·rw [show hl d k=((eo k d fZ).1,(eo k d fZ).2)from by unfold hl;rw [if_pos (by simp_all),if_pos (by simp_all),if_neg (by simp_all)]]
  exact bA
 rw [show hl d k=((eo k d fZ).1,80)from by unfold hl;rw [if_pos (by simp_all),if_pos (by simp_all),if_pos (by simp_all)]]
 exact bA
theorem ZZ(p q:Nat)(d:a2)(h:cZ d)(k:bL)(aj:dj d k):aS B 90 [ag q] [aa q (bp p k) 273,aa p (bE d) 196,b5 d] (fun v S=>v=U (jR d k).2∧S=[aa q (bp p k) 273,aa p (bE ((jR d k).1)) 196,b5 (jR d k).1]):=by
 refine dn 50 Tryz.func90 fun a4 ax=>?_
 have hm:=aj.m
 have hw:=aj.w
 have aB:=h.s
 have rn:=h.w
 have sk:=aj.put
 refine ah ?_
 refine dA (xQ p q d h k aj) ?_
 refine da fun ay=>?_
 refine nB (wK p d) ?_
 refine aT ?_ ?_<;>intro ab
 ·rw [show jR d k=(d,63)from by unfold jR;rw [if_neg (by simp_all)]]
  exact bA
 refine c8 [aa q (bp p k) 273] ae aC ?_
 refine aN [0,1,2,3,4,5,6,7,8] ?_
 refine jU 9 (Cu p d h ((k.base:Int)+1)) ?_
 rintro _ _ ⟨a,⟨aO,bT⟩,rfl,rfl⟩
 simp only [List.cons_append,List.nil_append]
 refine fV ?_
 refine e6 10 (XQ a (eh bT rfl)) ?_
 rw [aO]
 refine aN [11] ?_
 refine cy 12 rfl (fx (v:=U (na (nZ d ((k.base:Int)+1))).1) rfl) ?_
 refine cy 13 rfl (fx (v:= .bool (na (nZ d ((k.base:Int)+1))).2) rfl) ?_
 refine aN [14,15,99] ?_
 refine cW ?_
 refine cv (.bool (fM d k).valid) ?_
 refine ah ?_
 refine li ?_ ?_<;>intro af
 ·refine ah ?_
  rw [show jR d k=(d,80)from by unfold jR;rw [if_pos (by simp_all),if_neg (by simp_all)]]
  exact bA
 refine ct ?_
 refine cv (.bool (fM d k).kr) ?_
 refine ah ?_
 refine cC ?_ ?_<;>intro az
 ·rw [show jR d k=(d,80)from by unfold jR;rw [if_pos (by simp_all),if_neg (by simp_all)]]
  exact bA
 refine aT ?_ ?_<;>intro a5
 ·rw [show jR d k=(d,80)from by unfold jR;rw [if_pos (by simp_all),if_neg (by simp_all)]]
  exact bA
 refine c8 [aa q (bp p k) 273] ae aC ?_
 refine aN [0,1,2,3,4,5,6,7,8,9] ?_
 refine e6 10 (x0 p d h ((k.base:Int)+1) (na (nZ d ((k.base:Int)+1))).1 0#32) ?_
 refine c7 [11,99] ?_
 rw [show jR d k=((fG d ((k.base:Int)+1) (na (nZ d ((k.base:Int)+1))).1 0#32).1,(fG d ((k.base:Int)+1) (na (nZ d ((k.base:Int)+1))).1 0#32).2)from by unfold jR;rw [if_pos (by simp_all),if_pos (by simp_all)]]
 exact bA
def fF(d:a2)(k:bL):Bool:=(mI d k).2&&((fM d k).kr||decide ((fM d k).uo<3))
structure Hd where
  i:Nat
  seq:BitVec 32
  zX:Bool
  l:List (BitVec 32)
def dV(d:a2)(k:bL)(i:Nat):Hd:=if fF d k=true then⟨i,(fM d k).seq,!(fM d k).kr,(mI d k).1⟩else⟨0,0#32,false,[]⟩
abbrev gq(c:Hd)(a:ai (BitVec 32)):List Value:=[U (c.i:Int),aI c.seq.toNat,.bool c.zX,aw a]
def vV(d:a2)(z:Int)(k:bL):Bool:=if 0≤z then(fM d k).kr else false
def kl(d:a2)(z:Int)(k:bL):Int:=if d.on=true then(if vV d z k=true then 0 else 80)else 63
def e9(d:a2)(k:bL):a2×Int×Bool:=
  if d.on=true then(if fF d k=true then(if(fM d k).kr=true then(d,0,true)else if(jR d k).2=0 then((jR d k).1,0,true)else((jR d k).1,(jR d k).2,false))else(d,80,false))else(d,63,false)
theorem sT(a6 p:Nat)(Q:Nat→Nat)(d:a2)(h:cZ d)(ad:Nat→bL)(i:Nat)(ak:i<2)(aj:dj d (ad i))(z:Int):aS B 80 [ag a6,U (i:Int)] [aa a6 [ag p,ag (Q 0),ag (Q 1),U z] 200,aa (Q i) (bp p (ad i)) 273,aa p (bE d) 196,b5 d] (fun v S=>∃a:ai (BitVec 32),(a.l=(dV d (ad i) i).l∧a.Own)∧v= .tuple #[.agg #[U ((dV d (ad i) i).i:Int),aI (dV d (ad i) i).seq.toNat,.bool (dV d (ad i) i).zX,aw a],.bool (fF d (ad i))]∧S=[cr a 42 1 de,aa a6 [ag p,ag (Q 0),ag (Q 1),U z] 200,aa (Q i) (bp p (ad i)) 273,aa p (bE d) 196,b5 d]):=by
 refine dn 45 Tryz.func80 fun a4 ax=>?_
 refine hy de 42 1 ?_
 refine ah ?_
 refine ds fun ay=>?_
 refine jT ?_
 refine aA (fm (v:=ag (Q i)) rfl ar ae (by rcases(show i=0∨i=1 by omega)with rfl|rfl<;>rfl)) ?_
 refine ah ?_
 refine cA (VC p (Q i) d h (ad i) aj) ?_
 rintro _ _ ⟨a,⟨aO,bT⟩,rfl,rfl⟩
 simp only [List.cons_append,List.nil_append]
 refine ct ?_
 refine bH (aw a) ?_
 refine bH (.bool (mI d (ad i)).2) ?_
 refine ah ?_
 refine dA (xQ p (Q i) d h (ad i) aj) ?_
 refine da fun aM=>?_
 refine li ?_ ?_<;>intro ab
 ·refine ah ?_
  refine cc (.nil _) (hc rfl rfl ar ae (by rfl) rfl) ?_
  have ka:fF d (ad i)=false:=by unfold fF;simp_all
  have ll:dV d (ad i) i=⟨0,0#32,false,[]⟩:=by unfold dV;rw [ka];rfl
  exact bI ⟨ai.bG,⟨by rw [ll];rfl,ai.fY⟩,by rw [ll,ka];rfl,rfl⟩
 refine ct ?_
 refine aA (fm (v:= .bool (fM d (ad i)).kr) rfl ar ae (by rfl)) (hw:=(.yes 25 rfl rfl rfl)) ?_
 refine ah ?_
 refine li ?_ ?_<;>intro af
 ·refine ct ?_
  refine aA (fm (v:=U (fM d (ad i)).uo) rfl ar ae (by rfl)) (hw:=(.yes 29 rfl rfl rfl)) ?_
  refine ah ?_
  refine bX ?_ ?_<;>intro az
  ·refine ah ?_
   refine cc (.nil _) (hc rfl rfl ar ae (by rfl) rfl) ?_
   have ka:fF d (ad i)=false:=by unfold fF;simp_all
   have ll:dV d (ad i) i=⟨0,0#32,false,[]⟩:=by unfold dV;rw [ka];rfl
   exact bI ⟨ai.bG,⟨by rw [ll];rfl,ai.fY⟩,by rw [ll,ka];rfl,rfl⟩
  refine iW ?_
  refine aA (fm (v:=aI (fM d (ad i)).seq.toNat) rfl ar ae (by rfl)) ?_
  refine ct ?_
  refine aA (fm (v:= .bool (fM d (ad i)).kr) rfl ar ae (by rfl)) ?_
  refine aA (dh rfl) ?_
  refine aA (dh rfl) ?_
  refine aA (qj [_,_,_,_] rfl ae (by rfl)) ?_
  refine fw (hA rfl rfl rfl ar ae rfl rfl) ?_
  refine aA (dh rfl) ?_
  refine hd ?_
  refine rS ?_
  refine cc (.nil _) (hc rfl rfl ar ae (by rfl) rfl) ?_
  have ka:fF d (ad i)=true:=by unfold fF;simp_all
  have ll:dV d (ad i) i=⟨i,(fM d (ad i)).seq,!(fM d (ad i)).kr,(mI d (ad i)).1⟩:=by unfold dV;rw [ka];rfl
  exact⟨_,⟨a,⟨by rw [ll];exact aO,bT⟩,by rw [ll,ka],rfl⟩,_,bq⟩
 refine ra ?_
 refine aA (fm (v:=aI (fM d (ad i)).seq.toNat) rfl ar ae (by rfl)) ?_
 refine ct ?_
 refine aA (fm (v:= .bool (fM d (ad i)).kr) rfl ar ae (by rfl)) ?_
 refine aA (dh rfl) ?_
 refine aA (dh rfl) ?_
 refine aA (qj [_,_,_,_] rfl ae (by rfl)) ?_
 refine fw (hA rfl rfl rfl ar ae rfl rfl) ?_
 refine aA (dh rfl) ?_
 refine hd ?_
 refine rS ?_
 refine cc (.nil _) (hc rfl rfl ar ae (by rfl) rfl) ?_
 have ka:fF d (ad i)=true:=by unfold fF;simp_all
 have ll:dV d (ad i) i=⟨i,(fM d (ad i)).seq,!(fM d (ad i)).kr,(mI d (ad i)).1⟩:=by unfold dV;rw [ka];rfl
 exact⟨_,⟨a,⟨by rw [ll];exact aO,bT⟩,by rw [ll,ka],rfl⟩,_,bq⟩
theorem QQ(a6 p:Nat)(Q:Nat→Nat)(d:a2)(h:cZ d)(ad:Nat→bL)(a:Nat)(aO:a<2)(z:Int)(cq:z= -1∨z=(a:Int))(aj:dj d (ad a)):aS B 271 [ag a6] [aa a6 [ag p,ag (Q 0),ag (Q 1),U z] 200,aa (Q a) (bp p (ad a)) 273,aa p (bE d) 196,b5 d] (fun v S=>v= .bool (vV d z (ad a))∧S=[aa a6 [ag p,ag (Q 0),ag (Q 1),U z] 200,aa (Q a) (bp p (ad a)) 273,aa p (bE d) 196,b5 d]):=by
 refine bD 21 Tryz.func271 fun a4 ax=>?_
 refine c8 [aa a6 [ag p,ag (Q 0),ag (Q 1),U z] 200] ae aC ?_
 refine aN [0,1,2,3,4,5] ?_
 refine vB (t:=8) rfl (fun ab=>?_) (fun ab=>?_)
 ·replace ab:=fb ab
  obtain rfl:z=(a:Int):=by omega
  refine aN [6,7,8,9,10,11,12] ?_
  refine cy 13 rfl (m5 rfl rfl ae rfl al rfl) (hw:=(.yes 8 rfl rfl rfl)) ?_
  refine bs 14 rfl (fm (v:=ag (Q a)) rfl ar ae (by rcases(show a=0∨a=1 by omega)with rfl|rfl<;>rfl)) (hw:=(.yes 8 rfl rfl rfl)) ?_
  refine e6 15 (xQ p (Q a) d h (ad a) aj) ?_
  refine bs 16 rfl (ud rfl ae rfl) (hw:=(.yes 8 rfl rfl rfl)) ?_
  refine c7 [17,18,99] ?_
  exact bI ⟨by unfold vV;first|rw [if_pos al]|rw [if_neg al],rfl⟩
 replace ab:=fb ab
 refine c7 [6,7,8,9,10,11,12,13,14,15,16,17,18,99] ?_
 exact bI ⟨by unfold vV;first|rw [if_pos al]|rw [if_neg al],rfl⟩
theorem TJ{d:a2}{z:Int}{a:Nat}{k:bL}(cq:z= -1∨z=(a:Int))(h:vV d z k=true):z=(a:Int):=by
  rcases cq with rfl|cq
  · unfold vV at h;simp at h
  · exact cq
def e3(d:a2)(z:Int)(w6 tI:bL):a2×bL×Int:=if kl d z w6=0 then a1 d tI else(d,tI,kl d z w6)
def e4(d:a2)(z:Int)(w6 tI:bL)(l:List (BitVec 32)):a2×bL×Int:=if kl d z w6=0 then b2 d tI l else(d,tI,kl d z w6)
theorem FL(a6 p:Nat)(Q:Nat→Nat)(d:a2)(h:cZ d)(ad:Nat→bL)(a:Nat)(aO:a<2)(z:Int)(cq:z= -1∨z=(a:Int))(aj:dj d (ad a)):aS B 222 [ag a6] [aa a6 [ag p,ag (Q 0),ag (Q 1),U z] 200,aa (Q a) (bp p (ad a)) 273,aa p (bE d) 196,b5 d] (fun v S=>v= .tuple #[(if(kl d z (ad a))=0 then Value.pointer (some ⟨(Q (1-a)),0,none⟩)else .pointer none),U (kl d z (ad a))]∧S=[aa a6 [ag p,ag (Q 0),ag (Q 1),U z] 200,aa (Q a) (bp p (ad a)) 273,aa p (bE d) 196,b5 d]):=by
 refine bD 25 Tryz.func222 fun a4 ax=>?_
 refine nB (wK p d) ?_
 refine aT ?_ ?_<;>intro ab
 ·have ap:kl d z (ad a)=63:=by unfold kl;rw [if_neg (by simp_all)]
  rw [ap]
  exact bA
 refine nB (QQ a6 p Q d h ad a aO z cq aj) ?_
 refine aT ?_ ?_<;>intro af
 ·have ap:kl d z (ad a)=80:=by unfold kl;rw [if_pos (by simp_all),if_neg (by simp_all)]
  rw [ap]
  exact bA
 have Az:=TJ cq af
 subst Az
 refine ah ?_
 refine c8 [aa a6 [ag p,ag (Q 0),ag (Q 1),U (a:Int)] 200] ae aC ?_
 refine aN [0,1,2,3,4,5,6,7] ?_
 refine cy 8 rfl (m5 rfl rfl ae (by omega:(1:Int)-(a:Int)=((1-a:Nat):Int)) al rfl) ?_
 refine bs 9 rfl (fm (v:=ag (Q (1-a))) rfl ar ae (by rcases(show a=0∨a=1 by omega)with rfl|rfl<;>rfl)) ?_
 refine c7 [10,11,99] ?_
 have ap:kl d (a:Int) (ad a)=0:=by unfold kl;rw [if_pos (by simp_all),if_pos af]
 rw [ap]
 exact bA
theorem TK(a6 p:Nat)(Q:Nat→Nat)(d:a2)(h:cZ d)(ad:Nat→bL)(a:Nat)(aO:a<2)(z:Int)(cq:z= -1∨z=(a:Int))(aj:dj d (ad a))(jm:dj d (ad (1-a)))(fA:d.ops≤900000000):aS B 154 [ag a6] [aa a6 [ag p,ag (Q 0),ag (Q 1),U z] 200,aa (Q a) (bp p (ad a)) 273,aa (Q (1-a)) (bp p (ad (1-a))) 273,aa p (bE d) 196,b5 d,dT d] (fun v S=>v=U (e3 d z (ad a) (ad (1-a))).2.2∧S=[aa a6 [ag p,ag (Q 0),ag (Q 1),U z] 200,aa (Q a) (bp p (ad a)) 273,aa (Q (1-a)) (bp p (e3 d z (ad a) (ad (1-a))).2.1) 273,aa p (bE ((e3 d z (ad a) (ad (1-a))).1)) 196,b5 (e3 d z (ad a) (ad (1-a))).1,dT (e3 d z (ad a) (ad (1-a))).1]):=by
 refine bD 15 Tryz.func154 fun a4 ax=>?_
 refine dA (FL a6 p Q d h ad a aO z cq aj) ?_
 refine ct ?_
 refine bH (if(kl d z (ad a))=0 then Value.pointer (some ⟨(Q (1-a)),0,none⟩)else .pointer none) ?_
 refine bH (U (kl d z (ad a))) ?_
 refine ah ?_
 refine aT ?_ ?_<;>intro ab
 ·rw [show(e3 d z (ad a) (ad (1-a)))=(d,ad (1-a),(kl d z (ad a)))from by unfold e3;rw [if_neg ab]]
  exact bA
 rw [if_pos ab]
 refine ah ?_
 refine e1 (Ma p (Q (1-a)) d h (ad (1-a)) jm fA) ?_
 rw [show(e3 d z (ad a) (ad (1-a)))=(a1 d (ad (1-a)))from by unfold e3;rw [if_pos ab]]
 exact bA
theorem XX(a6 p:Nat)(Q:Nat→Nat)(d:a2)(h:cZ d)(ad:Nat→bL)(a:Nat)(aO:a<2)(z:Int)(cq:z= -1∨z=(a:Int))(aj:dj d (ad a))(jm:dj d (ad (1-a)))(fA:d.ops≤900000000)(l:ai (BitVec 32))(aJ:c1 K l.bl (l.l.flatMap de)):aS B 155 [ag a6,aw l] [aa a6 [ag p,ag (Q 0),ag (Q 1),U z] 200,aa (Q a) (bp p (ad a)) 273,aa (Q (1-a)) (bp p (ad (1-a))) 273,aa p (bE d) 196,b5 d,K] (fun v S=>v=U (e4 d z (ad a) (ad (1-a)) l.l).2.2∧S=[aa a6 [ag p,ag (Q 0),ag (Q 1),U z] 200,aa (Q a) (bp p (ad a)) 273,aa (Q (1-a)) (bp p (e4 d z (ad a) (ad (1-a)) l.l).2.1) 273,aa p (bE ((e4 d z (ad a) (ad (1-a)) l.l).1)) 196,b5 (e4 d z (ad a) (ad (1-a)) l.l).1,K]):=by
 refine bD 18 Tryz.func155 fun a4 ax=>?_
 refine dA (FL a6 p Q d h ad a aO z cq aj) ?_
 refine ct ?_
 refine bH (if(kl d z (ad a))=0 then Value.pointer (some ⟨(Q (1-a)),0,none⟩)else .pointer none) ?_
 refine bH (U (kl d z (ad a))) ?_
 refine ah ?_
 refine aT ?_ ?_<;>intro ab
 ·rw [show(e4 d z (ad a) (ad (1-a)) l.l)=(d,ad (1-a),(kl d z (ad a)))from by unfold e4;rw [if_neg ab]]
  exact bA
 rw [if_pos ab]
 refine ah ?_
 refine e1 (N4 p (Q (1-a)) d h (ad (1-a)) jm fA l aJ) ?_
 rw [show(e4 d z (ad a) (ad (1-a)) l.l)=(b2 d (ad (1-a)) l.l)from by unfold e4;rw [if_pos ab]]
 exact bA
theorem TL(a6 p:Nat)(Q:Nat→Nat)(d:a2)(h:cZ d)(ad:Nat→bL)(i:Nat)(ak:i<2)(aj:dj d (ad i))(z:Int):aS B 48 [ag a6,U (i:Int)] [aa a6 [ag p,ag (Q 0),ag (Q 1),U z] 200,aa (Q i) (bp p (ad i)) 273,aa p (bE d) 196,b5 d] (fun v S=>v=U (e9 d (ad i)).2.1∧S=[aa a6 [ag p,ag (Q 0),ag (Q 1),U (if(e9 d (ad i)).2.2=true then(i:Int)else z)] 200,aa (Q i) (bp p (ad i)) 273,aa p (bE ((e9 d (ad i)).1)) 196,b5 (e9 d (ad i)).1]):=by
 refine dn 44 Tryz.func48 fun a4 ax=>?_
 refine uM ?_
 refine cC ?_ ?_<;>intro ab
 ·omega
 refine aT ?_ ?_<;>intro af
 ·omega
 refine cA (sT a6 p Q d h ad i ak aj z) ?_
 rintro _ _ ⟨a,⟨aO,bT⟩,rfl,rfl⟩
 simp only [List.cons_append,List.nil_append]
 refine ct ?_
 refine bH (.agg #[U ((dV d (ad i) i).i:Int),aI (dV d (ad i) i).seq.toNat,.bool (dV d (ad i) i).zX,aw a]) ?_
 refine bH (.bool (fF d (ad i))) ?_
 refine da fun ay=>?_
 refine nB (wK p d) ?_
 refine aT ?_ ?_<;>intro az
 ·rw [show e9 d (ad i)=(d,63,false)from by unfold e9;rw [if_neg (by simp_all)]]
  exact bA
 refine bX ?_ ?_<;>intro a5
 ·refine ah ?_
  rw [show e9 d (ad i)=(d,80,false)from by unfold e9;rw [if_pos (by simp_all),if_neg (by simp_all)]]
  exact bA
 have ll:(dV d (ad i) i).zX=!(fM d (ad i)).kr:=by unfold dV;rw [if_pos (by simpa using a5)]
 refine kk ?_
 refine ik ?_
 refine dZ ?_
 refine dZ ?_
 refine fl ?_
 refine aA (kf ae) ?_
 refine aA (fm (v:= .bool (dV d (ad i) i).zX) rfl ar ae (by rfl)) ?_
 rw [ll]
 refine ah ?_
 refine bX ?_ ?_<;>intro cd
 ·refine iW ?_
  refine aA (fm (v:=ag (Q i)) rfl ar ae (by rcases(show i=0∨i=1 by omega)with rfl|rfl<;>rfl)) ?_
  refine e1 (ZZ p (Q i) d h (ad i) aj) ?_
  refine aT ?_ ?_<;>intro c5
  ·rw [show e9 d (ad i)=((jR d (ad i)).1,(jR d (ad i)).2,false)from by unfold e9;rw [if_pos (by simp_all),if_pos (by simp_all),if_neg (by simp_all),if_neg cl]]
   exact bA
  rw [show e9 d (ad i)=((jR d (ad i)).1,0,true)from by unfold e9;rw [if_pos (by simp_all),if_pos (by simp_all),if_neg (by simp_all),if_pos cl]]
  exact bA
 refine ah ?_
 rw [show e9 d (ad i)=(d,0,true)from by unfold e9;rw [if_pos (by simp_all),if_pos (by simp_all),if_pos (by simp_all)]]
 exact bA
structure fE(n:Nat)(d d2:a2):Prop where
  ok:cZ d2
  ops:d2.ops≤d.ops+n
  w:d2.words=d.words
  b:d2.b=d.b
  a:d2.a=d.a
  lj:d2.il=d.il
theorem fE.rfl'{n:Nat}{d:a2}(h:cZ d):fE n d d:=⟨h,by omega,rfl,rfl,rfl,rfl⟩
theorem fE.trans{n m:Nat}{d d2 d3:a2}(h:fE n d d2)(g:fE m d2 d3):fE (n+m) d d3:=⟨g.ok,by have:=h.ops;have:=g.ops;omega,by rw [g.w,h.w],by rw [g.b,h.b],by rw [g.a,h.a],by rw [g.lj,h.lj]⟩
theorem fE.mono{n m:Nat}{d d2:a2}(h:fE n d d2)(q:n≤m):fE m d d2:=⟨h.ok,by have:=h.ops;omega,h.w,h.b,h.a,h.lj⟩
theorem fE.nK{n:Nat}{d d2:a2}{k:bL}(h:fE n d d2)(aj:dj d k):dj d2 k:=aj.same h.w h.b
theorem Cw{d:a2}(h:cZ d)(ap:d.ops<1000000000)(s w:Int)(x:BitVec 32):fE 1 d (fG d s w x).1:=by
  obtain⟨cE,c2,m2,vo,Bw,IS,_⟩:=ui h ap s w x;exact⟨cE,c2,m2,vo,Bw,IS⟩
theorem VD{d:a2}(h:cZ d)(ap:d.ops<1000000000)(s:Int):fE 1 d (eH d s).1:=by
  obtain⟨cE,c2,m2,vo,Bw,IS⟩:=L9 h ap s;exact⟨cE,c2,m2,vo,Bw,IS⟩
theorem JT:∀(l:List Nat) {d:a2},cZ d→d.ops+l.length≤1000000000→fE l.length d (iR d l).1
  |[],d,h,_=>fE.rfl' h
  |n::l,d,h,ap=>by
    have aJ:(n::l).length=l.length+1:=rfl
    have g:=VD h (by omega) (n:Int)
    have go:=g.ops
    rw [iR];split
    · exact(g.trans (JT l g.ok (by omega))).mono (by omega)
    · exact g.mono (by omega)
theorem Cd{k:bL}:∀(l:List (Nat×BitVec 32)) {d:a2},cZ d→d.ops+l.length≤1000000000→fE l.length d (eo k d l).1
  |[],d,h,_=>fE.rfl' h
  |p::l,d,h,ap=>by
    have aJ:(p::l).length=l.length+1:=rfl
    have g:=Cw h (by omega) ((k.base:Int)+1) p.1 p.2
    have go:=g.ops
    rw [eo];split
    · exact(g.trans (Cd l g.ok (by omega))).mono (by omega)
    · exact g.mono (by omega)
theorem Fl{d:a2}{k:bL}(h:cZ d)(aj:dj d k)(ap:d.ops≤900000000):fE 65 d (a1 d k).1∧dj (a1 d k).1 (a1 d k).2.1:=by
  have aB:=h.s;have hm:=aj.m
  have g:=Cw h (by omega) (k.base:Int) 0 0#32
  have go:=g.ops
  have aJ:=y8 k (by omega)
  have bS:=g.trans (JT (gh k) g.ok (by omega))
  have bS:=bS.mono (show 1+(gh k).length≤65 by omega)
  unfold a1
  split
  · split
    · exact⟨fE.rfl' h,aj.shut⟩
    · split
      · split
        · exact⟨bS,bS.nK aj.fresh⟩
        · exact⟨bS,bS.nK aj.shut⟩
      · exact⟨g.mono (by omega),g.nK aj.shut⟩
  · exact⟨fE.rfl' h,aj.shut⟩
theorem Lp:∀(l:List (BitVec 32)) {d:a2} {k:bL},cZ d→dj d k→d.ops+l.length≤1000000000→k.put+l.length≤4096→fE l.length d (ks d k l).1∧dj (ks d k l).1 (ks d k l).2.1
  |[],d,k,h,aj,_,_=>⟨fE.rfl' h,aj⟩
  |w::l,d,k,h,aj,ap,aE=>by
    have aJ:(w::l).length=l.length+1:=rfl
    have g:=Cw h (by omega) ((k.base+2+k.put/d.words:Nat):Int) ((k.put%d.words:Nat):Int) w
    have go:=g.ops
    have bg:=aj.oa
    rw [ks];split
    · have jm:dj (rb d k w).1 (k.Af w):=⟨(g.nK aj).m,(g.nK aj).w,by show k.put+1≤4096;omega,by show 0≤k.oa+4∧k.oa+4≤4*((k.put+1:Nat):Int);omega⟩
      obtain⟨cE,c2⟩:=Lp l g.ok jm (by omega) (by show k.put+1+_≤_;omega)
      exact⟨(g.trans cE).mono (by omega),c2⟩
    · exact⟨g.mono (by omega),g.nK aj.shut⟩
theorem CV{d:a2}{k:bL}(h:cZ d)(aj:dj d k)(ap:d.ops≤900000000)(l:List (BitVec 32)):fE 4096 d (b2 d k l).1∧dj (b2 d k l).1 (b2 d k l).2.1:=by
  have bk:nT d k≤4096:=Nat.min_le_right _ _
  unfold b2
  split
  · split
    · exact⟨fE.rfl' h,aj⟩
    · obtain⟨cE,c2⟩:=Lp l h aj (by omega) (by omega)
      exact⟨cE.mono (by omega),c2⟩
  · exact⟨fE.rfl' h,aj⟩
theorem JU(k:bL)(seq:BitVec 32):(j3 k seq).length=6:=rfl
theorem Ky:iH.length=2:=rfl
theorem Kz:fZ.length=2:=rfl
theorem B5{d:a2}{k:bL}(h:cZ d)(aj:dj d k)(ap:d.ops≤900000000)(seq:BitVec 32):fE 8 d (dU d k seq).1∧dj (dU d k seq).1 (dU d k seq).2.1:=by
  have g:=Cd (k:=k.shut) (j3 k seq) h (by rw [JU];omega)
  have go:=g.ops
  rw [JU]at g go
  have bS:=(g.trans (Cd (k:=k.shut) iH g.ok (by rw [Ky];omega)))
  rw [Ky]at bS
  unfold dU
  split
  · split
    · exact⟨bS,bS.nK aj.shut⟩
    · exact⟨g.mono (by omega),g.nK aj.shut⟩
  · exact⟨fE.rfl' h,aj⟩
theorem B0{d:a2}{k:bL}(h:cZ d)(ap:d.ops≤900000000):fE 2 d (hl d k).1:=by
  have g:=Cd (k:=k) fZ h (by rw [Kz];omega)
  rw [Kz]at g
  unfold hl
  split
  · split
    · split<;>exact g
    · exact fE.rfl' h
  · exact fE.rfl' h
theorem Gp{d:a2}{k:bL}(h:cZ d)(ap:d.ops≤900000000):fE 1 d (jR d k).1:=by
  unfold jR
  split
  · split
    · exact Cw h (by omega) _ _ _
    · exact fE.rfl' h
  · exact fE.rfl' h
theorem zo(d:a2)(s w:Int)(x:BitVec 32):(fG d s w x).1.wr=d.wr:=by
  unfold fG
  split
  · split
    · rfl
    · split
      · split<;>rfl
      · rfl
  · rfl
theorem zf{k:bL}:∀(l:List (Nat×BitVec 32)) (d:a2),(eo k d l).1.wr=d.wr
  |[],d=>rfl
  |p::l,d=>by
    rw [eo];split
    · rw [zf l,zo]
    · rw [zo]
theorem Lq:∀(l:List (BitVec 32)) (d:a2) (k:bL),(ks d k l).1.wr=d.wr
  |[],d,k=>rfl
  |w::l,d,k=>by
    rw [ks];split
    · rw [Lq l,zo]
    · exact zo _ _ _ _
theorem CW(d:a2)(k:bL)(l:List (BitVec 32)):(b2 d k l).1.wr=d.wr:=by
  unfold b2
  split
  · split
    · rfl
    · exact Lq _ _ _
  · rfl
theorem E3(d:a2)(k:bL)(seq:BitVec 32):(dU d k seq).1.wr=d.wr:=by
  unfold dU
  split
  · split
    · exact(zf _ _).trans (zf _ _)
    · exact zf _ _
  · rfl
theorem Jx(d:a2)(k:bL):(hl d k).1.wr=d.wr:=by
  unfold hl
  split
  · split
    · split<;>exact zf _ _
    · rfl
  · rfl
theorem Mc(d:a2)(k:bL):(jR d k).1.wr=d.wr:=by
  unfold jR
  split
  · split
    · exact zo _ _ _ _
    · rfl
  · rfl
def Ag(a b:BitVec 32):BitVec 32:=if a.toNat<b.toNat then b else a
theorem VE(a b:BitVec 32):max (a.toNat:Int) (b.toNat:Int)=((Ag a b).toNat:Int):=by unfold Ag;split<;>omega
def AN(dx:Nat→BitVec 32):Nat→BitVec 32
  |0=>0#32
  |n+1=>Ag (AN dx n) (dx n)
def Nb(m:BitVec 32):BitVec 32×Int:=if(m.toNat:Int)≥2147483648 then(0#32,82)else(m+1#32,0)
abbrev uO(d:a2)(ad:Nat→bL):Nat→BitVec 32:=fun i=>(fM d (ad i)).seq
abbrev nc(d:a2)(ad:Nat→bL):BitVec 32×Int:=Nb (AN (uO d ad) 2)
def eM(d:a2)(z:Int)(ad:Nat→bL)(a:Nat):a2×bL×Int:=
  if kl d z (ad a)=0 then(if(ad (1-a)).lZ=true∧(ad (1-a)).put≠0 then(if(nc d ad).2=0 then dU d (ad (1-a)) (nc d ad).1 else(d,ad (1-a),(nc d ad).2))else(d,ad (1-a),80))else(d,ad (1-a),kl d z (ad a))
def eB(d:a2)(z:Int)(k:bL):a2×Int:=if z<0 then(d,80)else hl d k
def hf(d:a2)(k:bL)(l:List (BitVec 32)):a2×bL×Int:=
  if(a1 d k).2.2=0 then
    (if(b2 (a1 d k).1 (a1 d k).2.1 l).2.2=0 then
      (if(dU (b2 (a1 d k).1 (a1 d k).2.1 l).1 (b2 (a1 d k).1 (a1 d k).2.1 l).2.1 1#32).2.2=0 then
        ((hl (dU (b2 (a1 d k).1 (a1 d k).2.1 l).1 (b2 (a1 d k).1 (a1 d k).2.1 l).2.1 1#32).1 (dU (b2 (a1 d k).1 (a1 d k).2.1 l).1 (b2 (a1 d k).1 (a1 d k).2.1 l).2.1 1#32).2.1).1,(dU (b2 (a1 d k).1 (a1 d k).2.1 l).1 (b2 (a1 d k).1 (a1 d k).2.1 l).2.1 1#32).2.1,(hl (dU (b2 (a1 d k).1 (a1 d k).2.1 l).1 (b2 (a1 d k).1 (a1 d k).2.1 l).2.1 1#32).1 (dU (b2 (a1 d k).1 (a1 d k).2.1 l).1 (b2 (a1 d k).1 (a1 d k).2.1 l).2.1 1#32).2.1).2)
        else dU (b2 (a1 d k).1 (a1 d k).2.1 l).1 (b2 (a1 d k).1 (a1 d k).2.1 l).2.1 1#32)
      else b2 (a1 d k).1 (a1 d k).2.1 l)
    else a1 d k
theorem VF(a6 p:Nat)(Q:Nat→Nat)(d:a2)(h:cZ d)(ad:Nat→bL)(a:Nat)(aO:a<2)(z:Int)(aj:∀i,i<2→dj d (ad i)):aS B 224 [ag a6] [aa a6 [ag p,ag (Q 0),ag (Q 1),U z] 200,aa (Q a) (bp p (ad a)) 273,aa (Q (1-a)) (bp p (ad (1-a))) 273,aa p (bE d) 196,b5 d] (fun v S=>v= .tuple #[aI (nc d ad).1.toNat,U (nc d ad).2]∧S=[aa a6 [ag p,ag (Q 0),ag (Q 1),U z] 200,aa (Q a) (bp p (ad a)) 273,aa (Q (1-a)) (bp p (ad (1-a))) 273,aa p (bE d) 196,b5 d]):=by
 refine dn 25 Tryz.func224 fun a4 ax=>?_
 refine N1 ?_
 refine cM [ag (Q 0),ag (Q 1)] ?_
 refine ah ?_
 refine dH (α:=Nat×Nat) (fun⟨i,e⟩=>i≤2∧e<2) (fun⟨i,e⟩=>[(4,aI (AN (uO d ad) i).toNat),(11,U (i:Int)),(10,.agg #[ag (Q 0),ag (Q 1)]),(0,ag a6)]) (fun⟨i,e⟩=>[aa a6 [ag p,ag (Q 0),ag (Q 1),U z] 200,aa (Q e) (bp p (ad e)) 273,aa (Q (1-e)) (bp p (ad (1-e))) 273,aa p (bE d) 196,b5 d]) (fun⟨i,e⟩=>2-i) (0,a) ?_ dD aC ?_
 ·exact⟨by decide,aO⟩
 rintro⟨i,e⟩ ⟨ak,he⟩
 dsimp only
 refine ah ?_
 refine bX ?_ ?_<;>intro ab
 ·refine Df (fun i=>aa (Q i) (bp p (ad i)) 273) (show i<2 by omega) he aC ?_
  refine ah ?_
  refine aA (uc rfl rfl ae rfl al (show [Value.pointer (some ⟨(Q 0),0,none⟩),Value.pointer (some ⟨(Q 1),0,none⟩)][i]?=some (Value.pointer (some ⟨(Q i),0,none⟩))from by rcases(show i=0∨i=1 by omega)with rfl|rfl<;>rfl)) ?_
  refine ah ?_
  refine dA (xQ p (Q i) d h (ad i) (aj i (by omega))) ?_
  refine aA (Sj rfl ae rfl) ?_
  refine aA (ud rfl ae rfl) ?_
  refine aA (wa (xY rfl rfl) (congrArg (fun z:Int=>Value.int .u32 z) (VE _ _))) ?_
  refine ah ?_
  refine eg (i+1,i) ?_ ?_ ?_ ?_
  ·(try dsimp only);exact⟨by omega,by omega⟩
  ·(try dsimp only);omega
  ·refine⟨?_,?_,?_,?_,trivial⟩<;>rfl
  (try dsimp only);exact⟨_,aC⟩
 refine Df (fun i=>aa (Q i) (bp p (ad i)) 273) aO he aC ?_
 refine ah ?_
 refine aT ?_ ?_<;>intro af
 ·obtain rfl:i=2:=by omega
  first|rw [show nc d ad=(0#32,82)from if_pos al]|rw [show nc d ad=(AN (uO d ad) 2+1#32,0)from if_neg al]
  exact bA
 refine aA (hH rfl rfl (ej _) rfl rfl) ?_
 refine ah ?_
 obtain rfl:i=2:=by omega
 first|rw [show nc d ad=(0#32,82)from if_pos al]|rw [show nc d ad=(AN (uO d ad) 2+1#32,0)from if_neg al]
 exact bA
theorem Su(a6 p:Nat)(Q:Nat→Nat)(d:a2)(h:cZ d)(ad:Nat→bL)(a:Nat)(aO:a<2)(z:Int)(cq:z= -1∨z=(a:Int))(aj:∀i,i<2→dj d (ad i))(fA:d.ops≤800000000):aS B 156 [ag a6] [aa a6 [ag p,ag (Q 0),ag (Q 1),U z] 200,aa (Q a) (bp p (ad a)) 273,aa (Q (1-a)) (bp p (ad (1-a))) 273,aa p (bE d) 196,b5 d] (fun v S=>v=U (eM d z ad a).2.2∧S=[aa a6 [ag p,ag (Q 0),ag (Q 1),U z] 200,aa (Q a) (bp p (ad a)) 273,aa (Q (1-a)) (bp p (eM d z ad a).2.1) 273,aa p (bE ((eM d z ad a).1)) 196,b5 (eM d z ad a).1]):=by
 refine bD 38 Tryz.func156 fun a4 ax=>?_
 refine dA (FL a6 p Q d h ad a aO z cq (aj a aO)) ?_
 refine ct ?_
 refine bH (if(kl d z (ad a))=0 then Value.pointer (some ⟨(Q (1-a)),0,none⟩)else .pointer none) ?_
 refine bH (U (kl d z (ad a))) ?_
 refine ah ?_
 refine aT ?_ ?_<;>intro ab
 ·rw [show eM d z ad a=(d,(ad (1-a)),(kl d z (ad a)))from by unfold eM;rw [if_neg ab]]
  exact bA
 rw [if_pos ab]
 refine ah ?_
 refine dA (XR p (Q (1-a)) (ad (1-a))) ?_
 refine ct ?_
 refine bH (U ((ad (1-a)).put:Int)) ?_
 refine bH (.bool (ad (1-a)).lZ) ?_
 refine ah ?_
 refine cC ?_ ?_<;>intro af
 ·rw [show eM d z ad a=(d,(ad (1-a)),80)from by unfold eM;rw [if_pos ab,if_neg (by simp_all)]]
  exact bA
 refine aT ?_ ?_<;>intro az
 ·rw [show eM d z ad a=(d,(ad (1-a)),80)from by unfold eM;rw [if_pos ab,if_neg (by simp_all)]]
  exact bA
 refine dA (VF a6 p Q d h ad a aO z aj) ?_
 refine ct ?_
 refine bH (aI (nc d ad).1.toNat) ?_
 refine bH (U (nc d ad).2) ?_
 refine ah ?_
 refine aT ?_ ?_<;>intro a5
 ·rw [show eM d z ad a=(d,(ad (1-a)),(nc d ad).2)from by unfold eM;rw [if_pos ab,if_pos ⟨by simp_all,by omega⟩,if_neg cl]]
  exact bA
 refine e1 (Lo p (Q (1-a)) d h (ad (1-a)) (aj _ (by omega)) fA (nc d ad).1) ?_
 rw [show eM d z ad a=((dU d (ad (1-a)) (nc d ad).1).1,(dU d (ad (1-a)) (nc d ad).1).2.1,(dU d (ad (1-a)) (nc d ad).1).2.2)from by unfold eM;rw [if_pos ab,if_pos ⟨by simp_all,by omega⟩,if_pos cl]]
 exact bA
theorem RA(a6 p:Nat)(Q:Nat→Nat)(d:a2)(h:cZ d)(ad:Nat→bL)(a:Nat)(aO:a<2)(z:Int)(cq:z= -1∨z=(a:Int))(aj:dj d (ad a))(fA:d.ops≤900000000):aS B 157 [ag a6] [aa a6 [ag p,ag (Q 0),ag (Q 1),U z] 200,aa (Q a) (bp p (ad a)) 273,aa p (bE d) 196,b5 d] (fun v S=>v=U (eB d z (ad a)).2∧S=[aa a6 [ag p,ag (Q 0),ag (Q 1),U z] 200,aa (Q a) (bp p (ad a)) 273,aa p (bE ((eB d z (ad a)).1)) 196,b5 (eB d z (ad a)).1]):=by
 refine bD 18 Tryz.func157 fun a4 ax=>?_
 refine aT ?_ ?_<;>intro ab
 ·rw [show eB d z (ad a)=(d,80)from if_pos al]
  exact bA
 obtain rfl:z=(a:Int):=by omega
 refine ah ?_
 refine c8 [aa a6 [ag p,ag (Q 0),ag (Q 1),U (a:Int)] 200] ae aC ?_
 refine aN [0,1,2,3,4,5,6] ?_
 refine cy 7 rfl (m5 rfl rfl ae rfl al rfl) ?_
 refine bs 8 rfl (fm (v:=ag (Q a)) rfl ar ae (by rcases(show a=0∨a=1 by omega)with rfl|rfl<;>rfl)) ?_
 refine e6 9 (Kx p (Q a) d h (ad a) aj fA) ?_
 refine c7 [10,99] ?_
 rw [show eB d (a:Int) (ad a)=hl d (ad a)from if_neg al]
 exact bA
theorem RB(a6 p:Nat)(Q:Nat→Nat)(d:a2)(h:cZ d)(ad:Nat→bL)(aj:dj d (ad 0))(fA:d.ops≤700000000)(l:ai (BitVec 32))(aJ:c1 K l.bl (l.l.flatMap de)):dQ Tryz.prog B 62 [.pointer (some ⟨a6,0,none⟩),.slice l.b1 l.l.length l.c] [aa a6 [.pointer (some ⟨p,0,none⟩),.pointer (some ⟨(Q 0),0,none⟩),.pointer (some ⟨(Q 1),0,none⟩),.int .i64 (-1)] 200,aa (Q 0) (bp p (ad 0)) 273,aa p (bE d) 196,row (.slice d.a.b1 d.a.l.length d.a.c) 42 1 d.a.l.length ((df d.a.l.length d.g).flatMap de),row (.slice d.b.b1 d.b.l.length d.b.c) 3 1 d.b.l.length ((df d.b.l.length d.wr).flatMap ei),K] (fun v S=>v= .int .i64 (hf d (ad 0) l.l).2.2∧S=[aa a6 [.pointer (some ⟨p,0,none⟩),.pointer (some ⟨(Q 0),0,none⟩),.pointer (some ⟨(Q 1),0,none⟩),.int .i64 (-1)] 200,aa (Q 0) (bp p (hf d (ad 0) l.l).2.1) 273,aa p (bE ((hf d (ad 0) l.l).1)) 196,row (.slice (hf d (ad 0) l.l).1.a.b1 (hf d (ad 0) l.l).1.a.l.length (hf d (ad 0) l.l).1.a.c) 42 1 (hf d (ad 0) l.l).1.a.l.length ((df (hf d (ad 0) l.l).1.a.l.length (hf d (ad 0) l.l).1.g).flatMap de),row (.slice (hf d (ad 0) l.l).1.b.b1 (hf d (ad 0) l.l).1.b.l.length (hf d (ad 0) l.l).1.b.c) 3 1 (hf d (ad 0) l.l).1.b.l.length ((df (hf d (ad 0) l.l).1.b.l.length (hf d (ad 0) l.l).1.wr).flatMap ei),K]):=by
 refine dn 37 Tryz.func62 fun a4 ax=>?_
 obtain⟨bM,bS⟩:=Fl h aj al
 have Pt:=bM.ops
 obtain⟨cD,cV⟩:=CV bM.ok bS al l.l
 have ab7:=cD.ops
 obtain⟨ff,gE⟩:=B5 cD.ok cV al 1#32
 have ab8:=ff.ops
 have rD:=B0 (k:=(dU (b2 (a1 d (ad 0)).1 (a1 d (ad 0)).2.1 l.l).1 (b2 (a1 d (ad 0)).1 (a1 d (ad 0)).2.1 l.l).2.1 1#32).2.1) ff.ok al
 refine te ?_
 refine bX ?_ ?_<;>intro ab
 ·omega
 refine iW ?_
 refine aA (m7 rfl rfl ae (rfl:(0:Int)=((0:Nat):Int)) bu rfl) ?_
 refine aA (fm (v:= .pointer (some ⟨(Q 0),0,none⟩)) rfl ar ae (by rfl)) ?_
 refine ah ?_
 refine e1 (Ma p (Q 0) d h (ad 0) aj (by omega)) ?_
 refine aT ?_ ?_<;>intro af
 ·rw [show hf d (ad 0) l.l=((a1 d (ad 0)).1,(a1 d (ad 0)).2.1,(a1 d (ad 0)).2.2)from by unfold hf;rw [if_neg cl]]
  exact bA
 refine e1 (N4 p (Q 0) (a1 d (ad 0)).1 bM.ok (a1 d (ad 0)).2.1 bS (by omega) l aJ) ?_
 refine aT ?_ ?_<;>intro az
 ·rw [show(row (.slice ((a1 d (ad 0)).1).b.b1 ((a1 d (ad 0)).1).b.l.length ((a1 d (ad 0)).1).b.c) 3 1 ((a1 d (ad 0)).1).b.l.length ((df ((a1 d (ad 0)).1).b.l.length ((a1 d (ad 0)).1).wr).flatMap ei):ao B)=row (.slice ((b2 (a1 d (ad 0)).1 (a1 d (ad 0)).2.1 l.l).1).b.b1 ((b2 (a1 d (ad 0)).1 (a1 d (ad 0)).2.1 l.l).1).b.l.length ((b2 (a1 d (ad 0)).1 (a1 d (ad 0)).2.1 l.l).1).b.c) 3 1 ((b2 (a1 d (ad 0)).1 (a1 d (ad 0)).2.1 l.l).1).b.l.length ((df ((b2 (a1 d (ad 0)).1 (a1 d (ad 0)).2.1 l.l).1).b.l.length ((b2 (a1 d (ad 0)).1 (a1 d (ad 0)).2.1 l.l).1).wr).flatMap ei)from by rw [cD.b,CW]]
  rw [show hf d (ad 0) l.l=((b2 (a1 d (ad 0)).1 (a1 d (ad 0)).2.1 l.l).1,(b2 (a1 d (ad 0)).1 (a1 d (ad 0)).2.1 l.l).2.1,(b2 (a1 d (ad 0)).1 (a1 d (ad 0)).2.1 l.l).2.2)from by unfold hf;rw [if_pos cl,if_neg cl]]
  exact bA
 refine e1 (Lo p (Q 0) (b2 (a1 d (ad 0)).1 (a1 d (ad 0)).2.1 l.l).1 cD.ok (b2 (a1 d (ad 0)).1 (a1 d (ad 0)).2.1 l.l).2.1 cV (by omega) 1#32) ?_
 refine aT ?_ ?_<;>intro a5
 ·rw [show(row (.slice ((a1 d (ad 0)).1).b.b1 ((a1 d (ad 0)).1).b.l.length ((a1 d (ad 0)).1).b.c) 3 1 ((a1 d (ad 0)).1).b.l.length ((df ((a1 d (ad 0)).1).b.l.length ((a1 d (ad 0)).1).wr).flatMap ei):ao B)=row (.slice ((b2 (a1 d (ad 0)).1 (a1 d (ad 0)).2.1 l.l).1).b.b1 ((b2 (a1 d (ad 0)).1 (a1 d (ad 0)).2.1 l.l).1).b.l.length ((b2 (a1 d (ad 0)).1 (a1 d (ad 0)).2.1 l.l).1).b.c) 3 1 ((b2 (a1 d (ad 0)).1 (a1 d (ad 0)).2.1 l.l).1).b.l.length ((df ((b2 (a1 d (ad 0)).1 (a1 d (ad 0)).2.1 l.l).1).b.l.length ((b2 (a1 d (ad 0)).1 (a1 d (ad 0)).2.1 l.l).1).wr).flatMap ei)from by rw [cD.b,CW]]
  rw [show(row (.slice ((b2 (a1 d (ad 0)).1 (a1 d (ad 0)).2.1 l.l).1).b.b1 ((b2 (a1 d (ad 0)).1 (a1 d (ad 0)).2.1 l.l).1).b.l.length ((b2 (a1 d (ad 0)).1 (a1 d (ad 0)).2.1 l.l).1).b.c) 3 1 ((b2 (a1 d (ad 0)).1 (a1 d (ad 0)).2.1 l.l).1).b.l.length ((df ((b2 (a1 d (ad 0)).1 (a1 d (ad 0)).2.1 l.l).1).b.l.length ((b2 (a1 d (ad 0)).1 (a1 d (ad 0)).2.1 l.l).1).wr).flatMap ei):ao B)=row (.slice ((dU (b2 (a1 d (ad 0)).1 (a1 d (ad 0)).2.1 l.l).1 (b2 (a1 d (ad 0)).1 (a1 d (ad 0)).2.1 l.l).2.1 1#32).1).b.b1 ((dU (b2 (a1 d (ad 0)).1 (a1 d (ad 0)).2.1 l.l).1 (b2 (a1 d (ad 0)).1 (a1 d (ad 0)).2.1 l.l).2.1 1#32).1).b.l.length ((dU (b2 (a1 d (ad 0)).1 (a1 d (ad 0)).2.1 l.l).1 (b2 (a1 d (ad 0)).1 (a1 d (ad 0)).2.1 l.l).2.1 1#32).1).b.c) 3 1 ((dU (b2 (a1 d (ad 0)).1 (a1 d (ad 0)).2.1 l.l).1 (b2 (a1 d (ad 0)).1 (a1 d (ad 0)).2.1 l.l).2.1 1#32).1).b.l.length ((df ((dU (b2 (a1 d (ad 0)).1 (a1 d (ad 0)).2.1 l.l).1 (b2 (a1 d (ad 0)).1 (a1 d (ad 0)).2.1 l.l).2.1 1#32).1).b.l.length ((dU (b2 (a1 d (ad 0)).1 (a1 d (ad 0)).2.1 l.l).1 (b2 (a1 d (ad 0)).1 (a1 d (ad 0)).2.1 l.l).2.1 1#32).1).wr).flatMap ei)from by rw [ff.b,E3]]
  rw [show hf d (ad 0) l.l=((dU (b2 (a1 d (ad 0)).1 (a1 d (ad 0)).2.1 l.l).1 (b2 (a1 d (ad 0)).1 (a1 d (ad 0)).2.1 l.l).2.1 1#32).1,(dU (b2 (a1 d (ad 0)).1 (a1 d (ad 0)).2.1 l.l).1 (b2 (a1 d (ad 0)).1 (a1 d (ad 0)).2.1 l.l).2.1 1#32).2.1,(dU (b2 (a1 d (ad 0)).1 (a1 d (ad 0)).2.1 l.l).1 (b2 (a1 d (ad 0)).1 (a1 d (ad 0)).2.1 l.l).2.1 1#32).2.2)from by unfold hf;rw [if_pos cl,if_pos cl,if_neg cl]]
  exact bA
 refine e1 (Kx p (Q 0) (dU (b2 (a1 d (ad 0)).1 (a1 d (ad 0)).2.1 l.l).1 (b2 (a1 d (ad 0)).1 (a1 d (ad 0)).2.1 l.l).2.1 1#32).1 ff.ok (dU (b2 (a1 d (ad 0)).1 (a1 d (ad 0)).2.1 l.l).1 (b2 (a1 d (ad 0)).1 (a1 d (ad 0)).2.1 l.l).2.1 1#32).2.1 gE (by omega)) ?_
 rw [show(row (.slice ((a1 d (ad 0)).1).b.b1 ((a1 d (ad 0)).1).b.l.length ((a1 d (ad 0)).1).b.c) 3 1 ((a1 d (ad 0)).1).b.l.length ((df ((a1 d (ad 0)).1).b.l.length ((a1 d (ad 0)).1).wr).flatMap ei):ao B)=row (.slice ((b2 (a1 d (ad 0)).1 (a1 d (ad 0)).2.1 l.l).1).b.b1 ((b2 (a1 d (ad 0)).1 (a1 d (ad 0)).2.1 l.l).1).b.l.length ((b2 (a1 d (ad 0)).1 (a1 d (ad 0)).2.1 l.l).1).b.c) 3 1 ((b2 (a1 d (ad 0)).1 (a1 d (ad 0)).2.1 l.l).1).b.l.length ((df ((b2 (a1 d (ad 0)).1 (a1 d (ad 0)).2.1 l.l).1).b.l.length ((b2 (a1 d (ad 0)).1 (a1 d (ad 0)).2.1 l.l).1).wr).flatMap ei)from by rw [cD.b,CW]]
 rw [show(row (.slice ((b2 (a1 d (ad 0)).1 (a1 d (ad 0)).2.1 l.l).1).b.b1 ((b2 (a1 d (ad 0)).1 (a1 d (ad 0)).2.1 l.l).1).b.l.length ((b2 (a1 d (ad 0)).1 (a1 d (ad 0)).2.1 l.l).1).b.c) 3 1 ((b2 (a1 d (ad 0)).1 (a1 d (ad 0)).2.1 l.l).1).b.l.length ((df ((b2 (a1 d (ad 0)).1 (a1 d (ad 0)).2.1 l.l).1).b.l.length ((b2 (a1 d (ad 0)).1 (a1 d (ad 0)).2.1 l.l).1).wr).flatMap ei):ao B)=row (.slice ((dU (b2 (a1 d (ad 0)).1 (a1 d (ad 0)).2.1 l.l).1 (b2 (a1 d (ad 0)).1 (a1 d (ad 0)).2.1 l.l).2.1 1#32).1).b.b1 ((dU (b2 (a1 d (ad 0)).1 (a1 d (ad 0)).2.1 l.l).1 (b2 (a1 d (ad 0)).1 (a1 d (ad 0)).2.1 l.l).2.1 1#32).1).b.l.length ((dU (b2 (a1 d (ad 0)).1 (a1 d (ad 0)).2.1 l.l).1 (b2 (a1 d (ad 0)).1 (a1 d (ad 0)).2.1 l.l).2.1 1#32).1).b.c) 3 1 ((dU (b2 (a1 d (ad 0)).1 (a1 d (ad 0)).2.1 l.l).1 (b2 (a1 d (ad 0)).1 (a1 d (ad 0)).2.1 l.l).2.1 1#32).1).b.l.length ((df ((dU (b2 (a1 d (ad 0)).1 (a1 d (ad 0)).2.1 l.l).1 (b2 (a1 d (ad 0)).1 (a1 d (ad 0)).2.1 l.l).2.1 1#32).1).b.l.length ((dU (b2 (a1 d (ad 0)).1 (a1 d (ad 0)).2.1 l.l).1 (b2 (a1 d (ad 0)).1 (a1 d (ad 0)).2.1 l.l).2.1 1#32).1).wr).flatMap ei)from by rw [ff.b,E3]]
 rw [show(row (.slice ((dU (b2 (a1 d (ad 0)).1 (a1 d (ad 0)).2.1 l.l).1 (b2 (a1 d (ad 0)).1 (a1 d (ad 0)).2.1 l.l).2.1 1#32).1).b.b1 ((dU (b2 (a1 d (ad 0)).1 (a1 d (ad 0)).2.1 l.l).1 (b2 (a1 d (ad 0)).1 (a1 d (ad 0)).2.1 l.l).2.1 1#32).1).b.l.length ((dU (b2 (a1 d (ad 0)).1 (a1 d (ad 0)).2.1 l.l).1 (b2 (a1 d (ad 0)).1 (a1 d (ad 0)).2.1 l.l).2.1 1#32).1).b.c) 3 1 ((dU (b2 (a1 d (ad 0)).1 (a1 d (ad 0)).2.1 l.l).1 (b2 (a1 d (ad 0)).1 (a1 d (ad 0)).2.1 l.l).2.1 1#32).1).b.l.length ((df ((dU (b2 (a1 d (ad 0)).1 (a1 d (ad 0)).2.1 l.l).1 (b2 (a1 d (ad 0)).1 (a1 d (ad 0)).2.1 l.l).2.1 1#32).1).b.l.length ((dU (b2 (a1 d (ad 0)).1 (a1 d (ad 0)).2.1 l.l).1 (b2 (a1 d (ad 0)).1 (a1 d (ad 0)).2.1 l.l).2.1 1#32).1).wr).flatMap ei):ao B)=row (.slice ((hl (dU (b2 (a1 d (ad 0)).1 (a1 d (ad 0)).2.1 l.l).1 (b2 (a1 d (ad 0)).1 (a1 d (ad 0)).2.1 l.l).2.1 1#32).1 (dU (b2 (a1 d (ad 0)).1 (a1 d (ad 0)).2.1 l.l).1 (b2 (a1 d (ad 0)).1 (a1 d (ad 0)).2.1 l.l).2.1 1#32).2.1).1).b.b1 ((hl (dU (b2 (a1 d (ad 0)).1 (a1 d (ad 0)).2.1 l.l).1 (b2 (a1 d (ad 0)).1 (a1 d (ad 0)).2.1 l.l).2.1 1#32).1 (dU (b2 (a1 d (ad 0)).1 (a1 d (ad 0)).2.1 l.l).1 (b2 (a1 d (ad 0)).1 (a1 d (ad 0)).2.1 l.l).2.1 1#32).2.1).1).b.l.length ((hl (dU (b2 (a1 d (ad 0)).1 (a1 d (ad 0)).2.1 l.l).1 (b2 (a1 d (ad 0)).1 (a1 d (ad 0)).2.1 l.l).2.1 1#32).1 (dU (b2 (a1 d (ad 0)).1 (a1 d (ad 0)).2.1 l.l).1 (b2 (a1 d (ad 0)).1 (a1 d (ad 0)).2.1 l.l).2.1 1#32).2.1).1).b.c) 3 1 ((hl (dU (b2 (a1 d (ad 0)).1 (a1 d (ad 0)).2.1 l.l).1 (b2 (a1 d (ad 0)).1 (a1 d (ad 0)).2.1 l.l).2.1 1#32).1 (dU (b2 (a1 d (ad 0)).1 (a1 d (ad 0)).2.1 l.l).1 (b2 (a1 d (ad 0)).1 (a1 d (ad 0)).2.1 l.l).2.1 1#32).2.1).1).b.l.length ((df ((hl (dU (b2 (a1 d (ad 0)).1 (a1 d (ad 0)).2.1 l.l).1 (b2 (a1 d (ad 0)).1 (a1 d (ad 0)).2.1 l.l).2.1 1#32).1 (dU (b2 (a1 d (ad 0)).1 (a1 d (ad 0)).2.1 l.l).1 (b2 (a1 d (ad 0)).1 (a1 d (ad 0)).2.1 l.l).2.1 1#32).2.1).1).b.l.length ((hl (dU (b2 (a1 d (ad 0)).1 (a1 d (ad 0)).2.1 l.l).1 (b2 (a1 d (ad 0)).1 (a1 d (ad 0)).2.1 l.l).2.1 1#32).1 (dU (b2 (a1 d (ad 0)).1 (a1 d (ad 0)).2.1 l.l).1 (b2 (a1 d (ad 0)).1 (a1 d (ad 0)).2.1 l.l).2.1 1#32).2.1).1).wr).flatMap ei)from by rw [rD.b,Jx]]
 rw [show hf d (ad 0) l.l=((hl (dU (b2 (a1 d (ad 0)).1 (a1 d (ad 0)).2.1 l.l).1 (b2 (a1 d (ad 0)).1 (a1 d (ad 0)).2.1 l.l).2.1 1#32).1 (dU (b2 (a1 d (ad 0)).1 (a1 d (ad 0)).2.1 l.l).1 (b2 (a1 d (ad 0)).1 (a1 d (ad 0)).2.1 l.l).2.1 1#32).2.1).1,(dU (b2 (a1 d (ad 0)).1 (a1 d (ad 0)).2.1 l.l).1 (b2 (a1 d (ad 0)).1 (a1 d (ad 0)).2.1 l.l).2.1 1#32).2.1,(hl (dU (b2 (a1 d (ad 0)).1 (a1 d (ad 0)).2.1 l.l).1 (b2 (a1 d (ad 0)).1 (a1 d (ad 0)).2.1 l.l).2.1 1#32).1 (dU (b2 (a1 d (ad 0)).1 (a1 d (ad 0)).2.1 l.l).1 (b2 (a1 d (ad 0)).1 (a1 d (ad 0)).2.1 l.l).2.1 1#32).2.1).2)from by unfold hf;rw [if_pos cl,if_pos cl,if_pos cl]]
 exact bA
def rc(T p:Nat)(Q:Nat→Nat)(ad:Nat→bL):Nat→List (ao B)
  |0=>[]
  |n+1=>aa (Q n) (bp p (ad n)) T::rc T p Q ad n
theorem KA(T p:Nat)(Q:Nat→Nat)(ad:Nat→bL)(m x:Nat):∀n,n≤m→(rc T p (bF Q m x) ad n:List (ao B))=rc T p Q ad n
  |0,_=>rfl
  |n+1,h=>by rw [rc,rc,KA T p Q ad m x n (by omega),fs _ _ (by omega)]
abbrev wL(Q:Nat→Nat)(i j:Nat):Value:=if j<i then .pointer (some ⟨Q j,0,none⟩)else .pointer none
abbrev lc(m:Nat)(i:Nat):bL:=⟨i*m,m,false,0,0#32,0⟩
theorem Nc(p:Nat)(d:a2)(h:cZ d)(c5:6≤d.b.l.length)(hw:13≤d.words):aS B 44 [ag p] [aa p (bE d) 196] (fun v S=>∃(a6:Nat) (Q:Nat→Nat),v= .tuple #[ag a6,U 0]∧S=[aa a6 [ag p,ag (Q 0),ag (Q 1),U (-1)] 200,aa (Q 0) (bp p (lc (d.b.l.length/2) (0))) 273,aa (Q 1) (bp p (lc (d.b.l.length/2) (1))) 273,aa p (bE d) 196]):=by
 refine dn 40 Tryz.func44 fun a4 ax=>?_
 have aB:=h.s
 refine ah ?_
 refine fe (au:=[ag p,.pointer none,.pointer none,U (-1)]) fun ay=>?_
 refine dA (Kt p d) ?_
 refine aA (rK (z:=(((d.b.l.length/2):Nat):Int)) rfl rfl al (by rw [show Int.tdiv (d.b.l.length:Int) 2=((d.b.l.length/2:Nat):Int)from rfl];exact nQ al al)) ?_
 refine ah ?_
 rw [show([aa p (bE d) 196,aa ay [ag p,.pointer none,.pointer none,U (-1)] 200]:List (ao B))=aa p (bE d) 196::aa ay [ag p,wL (fun _=>0) (0) 0,wL (fun _=>0) (0) 1,U (-1)] 200::rc 273 p (fun _=>0) (lc (d.b.l.length/2)) 0 from rfl]
 refine dH (α:=Nat×(Nat→Nat)) (fun⟨i,Q⟩=>i≤2) (fun⟨i,Q⟩=>[(17,U (i:Int)),(0,ag p),(4,ag ay),(5,U (((d.b.l.length/2):Nat):Int))]) (fun⟨i,Q⟩=>aa ay [ag p,wL Q (i) 0,wL Q (i) 1,U (-1)] 200::aa p (bE d) 196::rc 273 p Q (lc (d.b.l.length/2)) i) (fun⟨i,Q⟩=>2-i) (0,fun _=>0) ?_ dD aC ?_
 ·exact Nat.zero_le _
 rintro⟨i,Q⟩ ak
 dsimp only
 refine ah ?_
 refine aT ?_ ?_<;>intro ab
 ·have aeN:i*(d.b.l.length/2)≤64:=Nat.le_trans (Nat.mul_le_mul_right _ (show i≤1 by omega)) al
  have aeO:i*(d.b.l.length/2)+(d.b.l.length/2)≤d.b.l.length:=by rcases(show i=0∨i=1 by omega)with rfl|rfl<;>omega
  have pz:(i:Int)*(((d.b.l.length/2):Nat):Int)=((i*(d.b.l.length/2):Nat):Int):=(Int.natCast_mul _ _).symm
  refine ah ?_
  refine aA (wa (oz (m:=(i:Int)) (n:=(((d.b.l.length/2):Nat):Int)) rfl rfl al al) (congrArg (fun z:Int=>Value.int .i64 z) pz)) ?_
  refine ah ?_
  refine cA (ZX p d (i*(d.b.l.length/2)) (d.b.l.length/2) (by omega) aB.2 hw) ?_
  rintro _ _ ⟨q,rfl,rfl⟩
  simp only [List.cons_append,List.nil_append]
  refine ct ?_
  refine bH (ag q) ?_
  refine bH (U 0) ?_
  refine jT ?_
  refine aT ?_ ?_<;>intro af
  ·first|omega|simp at af
  refine fw (iG (k:=1+i*1) (fN:=[ag p,wL (bF Q i q) (i+1) 0,wL (bF Q i q) (i+1) 1,U (-1)]) rfl rfl rfl ar ae (by rcases(show i=0∨i=1 by omega)with rfl|rfl<;>rfl) (by rcases(show i=0∨i=1 by omega)with rfl|rfl<;>simp [wL,bF])) ?_
  refine ah ?_
  have wM:(rc 273 p (bF Q i q) (lc (d.b.l.length/2)) (i+1):List (ao B))=aa (q) (bp p (lc (d.b.l.length/2) (i))) 273::rc 273 p Q (lc (d.b.l.length/2)) i:=by rw [rc,KA _ _ _ _ _ _ _ (Nat.le_refl _),e8]
  refine eg (i+1,bF Q i q) ?_ ?_ ?_ ?_
  ·(try dsimp only);omega
  ·(try dsimp only);omega
  ·refine⟨?_,?_,?_,?_,trivial⟩<;>rfl
  (try dsimp only);rw [wM];exact⟨_,bq⟩
 obtain rfl:i=2:=by omega
 rw [show(rc 273 p Q (lc (d.b.l.length/2)) 2:List (ao B))=[aa (Q 1) (bp p (lc (d.b.l.length/2) (1))) 273,aa (Q 0) (bp p (lc (d.b.l.length/2) (0))) 273]from rfl]
 exact bI ⟨ay,Q,rfl,rfl⟩
def hasB(s:BitVec 32)(i:Int):Bool:=if 0≤i∧i<32 then s.getLsbD i.toNat else false
theorem vF(s:BitVec 32)(i:Int)(h:¬(0≤i∧i<32)):hasB s i=false:=by simp [hasB,h]
theorem nP(s:BitVec 32)(i:Nat):hasB s i=s.getLsbD i:=by
  by_cases h:i<32
  · simp only [hasB];rw [if_pos (by omega)];rfl
  · rw [vF _ _ (by omega),BitVec.getLsbD_of_ge _ _ (by omega)]
theorem TM(s:BitVec 32)(i:Int)(ab:0≤i)(af:i<32):hasB s i=((((s>>>i.toNat)%2#32).toNat:Int)==1):=by
  have e:(((s>>>i.toNat)%2#32).toNat:Int)=((s.toNat/2^i.toNat%2:Nat):Int):=by
    simp [BitVec.toNat_umod,BitVec.toNat_ushiftRight,Nat.shiftRight_eq_div_pow]
  rw [e,hasB,if_pos ⟨ab,af⟩,BitVec.getLsbD,Nat.testBit_eq_decide_div_mod_eq,Bool.eq_iff_iff]
  simp only [decide_eq_true_eq,beq_iff_eq]
  generalize s.toNat/2^i.toNat=q
  omega
theorem vG(s t:BitVec 32)(i:Int):hasB (s&&&t) i=(hasB s i&&hasB t i):=by
  unfold hasB;split<;>simp
theorem sN(s t:BitVec 32)(i:Int):hasB (s|||t) i=(hasB s i||hasB t i):=by
  unfold hasB;split<;>simp
theorem vx(s t:BitVec 32)(i:Int):hasB (s&&&~~~t) i=(hasB s i&&!hasB t i):=by
  unfold hasB;split
  · rename_i h;simp [show i.toNat<32 by omega]
  · simp
theorem ue{s t:BitVec 32}(h:∀i:Nat,i<32→hasB s i=hasB t i):s=t:=by
  apply BitVec.eq_of_getLsbD_eq
  intro i ak
  rw [←nP, ←nP];exact h i ak
def ep(n:Int):BitVec 32:=if n<0∨n>31 then 0#32 else 1#32<<<n.toNat
theorem FM{n:Int}(b0:0≤n)(ab:n≤31):ep n=1#32<<<n.toNat:=by unfold ep;rw [if_neg (by omega)]
theorem Fm{n:Int}(h:n<0∨n>31):ep n=0#32:=by unfold ep;rw [if_pos h]
theorem qV(n i:Int):hasB (ep n) i=decide (n=i∧0≤i∧i<32):=by
  by_cases h:n<0∨n>31
  · rw [Fm h];simp [hasB];omega
  · rw [FM (by omega) (by omega)]
    by_cases ak:0≤i∧i<32
    · obtain⟨k,rfl⟩:=Int.eq_ofNat_of_zero_le ak.1
      obtain⟨m,rfl⟩:=Int.eq_ofNat_of_zero_le (show 0≤n by omega)
      rw [nP,Int.toNat_natCast]
      by_cases e:m=k
      · subst e;simp;omega
      · rw [BitVec.getLsbD_shiftLeft,BitVec.getLsbD_one,Bool.eq_iff_iff]
        simp only [Bool.and_eq_true,decide_eq_true_eq,Bool.not_eq_true',decide_eq_false_iff_not]
        omega
    · rw [vF _ _ ak];simp;omega
theorem TN(s:BitVec 32)(n:Int):(((s&&&ep n).toNat:Int) !=0)=hasB s n:=by
  rw [Bool.eq_iff_iff]
  simp only [bne_iff_ne,ne_eq]
  constructor
  · intro h
    cases bb:hasB s n with
    |true=>rfl
    |false=>
      exfalso;apply h
      have:s&&&ep n=0#32:=ue fun i ak=>by
        rw [vG,qV]
        by_cases e:n=(i:Int)
        · subst e;rw [bb];simp [nP]
        · simp [e,nP]
      rw [this];rfl
  · intro bb h
    have b0:s&&&ep n=0#32:=BitVec.eq_of_toNat_eq (by rw [show(0#32).toNat=0 from rfl];omega)
    have ab:hasB (s&&&ep n) n=true:=by
      have wN:0≤n∧n<32:=by
        by_cases ak:0≤n∧n<32
        · exact ak
        · rw [vF _ _ ak]at bb;cases bb
      rw [vG,bb,qV];simp [wN]
    rw [b0]at ab;simp [hasB]at ab
def mJ(s:BitVec 32)(n:Int):BitVec 32:=if n≤0 then 0#32 else if n>31 then s else s&&&(1#32<<<n.toNat-1#32)
theorem Q6(s:BitVec 32)(n:Int)(i:Nat)(ak:i<32):hasB (mJ s n) i=(hasB s i&&decide ((i:Int)<n)):=by
  unfold mJ
  split
  · simp [hasB];intros;omega
  · split
    · simp;intros;omega
    · obtain⟨k,rfl⟩:=Int.eq_ofNat_of_zero_le (show 0≤n by omega)
      rw [vG,Int.toNat_natCast]
      have e:hasB (1#32<<<k-1#32) i=decide ((i:Int)<k):=by
        rw [nP,BitVec.getLsbD,BitVec.toNat_sub,BitVec.toNat_shiftLeft]
        have aj:2^k<2^32:=Nat.pow_lt_pow_right (by omega) (by omega)
        have ab:(1#32).toNat=1:=rfl
        rw [ab,Nat.shiftLeft_eq,Nat.one_mul,Nat.mod_eq_of_lt aj]
        rw [show(2^32-1+2^k)%2^32=2^k-1 from by have:=Nat.two_pow_pos k;omega]
        rw [Nat.testBit_two_pow_sub_one];simp
      rw [e]
def km(s:BitVec 32)(n:Int):BitVec 32:=if n<0 then s else s&&&~~~(mJ s n|||ep n)
def nU(s:BitVec 32)(n:Nat):List Int:=((List.range n).filter fun(i:Nat)=>hasB s (i:Int)).map fun(i:Nat)=>(i:Int)
def bj(s:BitVec 32):List Int:=nU s 32
theorem TO(s:BitVec 32)(n:Nat):nU s (n+1)=nU s n++(if hasB s n then [(n:Int)]else []):=by
  unfold nU;rw [List.range_succ,List.filter_append,List.map_append];cases h:hasB s n<;>simp [h]
theorem lO{s:BitVec 32}{n:Nat}{x:Int}:x∈nU s n↔0≤x∧x<n∧hasB s x=true:=by
  unfold nU;simp only [List.mem_map,List.mem_filter,List.mem_range]
  constructor
  · rintro⟨i,⟨ab,af⟩,rfl⟩;exact⟨by omega,by omega,af⟩
  · rintro⟨b0,ab,af⟩;obtain⟨k,rfl⟩:=Int.eq_ofNat_of_zero_le b0;exact⟨k,⟨by omega,af⟩,rfl⟩
theorem RC(s:BitVec 32)(n:Nat):(nU s n).length≤n:=by
  unfold nU;rw [List.length_map];exact Nat.le_trans (List.length_filter_le _ _) (by simp)
theorem He(n:Int):aS B 214 [U n] [] (fun v S=>v=aI (ep n).toNat∧S=[]):=by
 refine bD 11 Tryz.func214 fun a4 ax=>?_
 refine cC ?_ ?_<;>intro ab
 ·exact bI ⟨by rw [Fm al];rfl,rfl⟩
 refine aT ?_ ?_<;>intro af
 ·exact bI ⟨by rw [Fm al];rfl,rfl⟩
 refine aA (zm rfl rfl rfl al al) ?_
 refine ah ?_
 exact bI ⟨by rw [FM al al];rfl,rfl⟩
theorem re(s:BitVec 32)(n:Int):aS B 142 [aI s.toNat,U n] [] (fun v S=>v= .bool (hasB s n)∧S=[]):=by
 refine bD 10 Tryz.func142 fun a4 ax=>?_
 refine hD (He _) ?_
 refine aA (hH rfl rfl (ej _) (ej _) rfl) ?_
 refine ah ?_
 exact bI ⟨by rw [←TN],rfl⟩
theorem s0(s:BitVec 32)(n:Int):aS B 163 [aI s.toNat,U n] [] (fun v S=>v=aI (s|||ep n).toNat∧S=[]):=by
 refine bD 9 Tryz.func163 fun a4 ax=>?_
 refine hD (He _) ?_
 refine aA (hH rfl rfl (ej _) (ej _) rfl) ?_
 exact mz
theorem Ce(s:BitVec 32)(n:Int):aS B 260 [aI s.toNat,U n] [] (fun v S=>v=aI (s&&&~~~(ep n)).toNat∧S=[]):=by
 refine bD 9 Tryz.func260 fun a4 ax=>?_
 refine hD (He _) ?_
 refine aA (hH rfl rfl (ej _) (ej _) rfl) ?_
 exact mz
theorem Gq(s:BitVec 32)(n:Int):aS B 242 [aI s.toNat,U n] [] (fun v S=>v=aI (mJ s n).toNat∧S=[]):=by
 refine bD 15 Tryz.func242 fun a4 ax=>?_
 refine aT ?_ ?_<;>intro ab
 ·exact bI ⟨by rw [mJ,if_pos al];rfl,rfl⟩
 refine aT ?_ ?_<;>intro af
 ·exact bI ⟨by rw [mJ,if_neg al,if_pos al],rfl⟩
 refine aA (zm rfl rfl rfl al al) ?_
 refine aA (hH rfl rfl (ej _) rfl rfl) ?_
 refine aA (hH rfl rfl (ej _) (ej _) rfl) ?_
 refine ah ?_
 exact bI ⟨by rw [mJ,if_neg al,if_neg al];rfl,rfl⟩
theorem VG(s:BitVec 32)(n:Int):aS B 275 [aI s.toNat,U n] [] (fun v S=>v=aI (km s n).toNat∧S=[]):=by
 refine bD 15 Tryz.func275 fun a4 ax=>?_
 refine aT ?_ ?_<;>intro ab
 ·exact bI ⟨by rw [km,if_pos al],rfl⟩
 refine fL (Gq _ _) ?_
 refine hD (s0 _ _) ?_
 refine aA (hH rfl rfl (ej _) (ej _) rfl) ?_
 refine ah ?_
 exact bI ⟨by rw [km,if_neg al],rfl⟩
def q2:List Int:=[0,1,28,2,29,14,24,3,30,22,20,15,25,17,4,8,31,27,13,23,21,19,16,7,26,12,18,6,11,5,10,9]
def ir(s:BitVec 32):Nat:=((List.range 32).find? fun(i:Nat)=>hasB s (i:Int)).getD 32
theorem tV{s:BitVec 32}(h:s≠0#32):ir s<32∧hasB s (ir s)=true∧∀j:Nat,j<ir s→hasB s j=false:=by
 unfold ir
 cases br:(List.range 32).find? fun(i:Nat)=>hasB s (i:Int)with
 |none=>
  exfalso;apply h
  refine ue fun i ak=>?_
  have:=List.find?_eq_none.1 br i (List.mem_range.2 ak)
  simp at this;rw [this];simp [hasB]
 |some k=>
  have ab:=List.find?_some br
  obtain⟨af,xs,cO,az,a5⟩:=List.find?_eq_some_iff_append.1 br
  have cd:=List.mem_range.1 (List.mem_of_find?_eq_some br)
  refine⟨by simpa using cd,by simpa using ab,fun j aY=>?_⟩
  simp at aY
  have hlen:xs.length=k:=by
   have bh:(List.range 32)[xs.length]?=some k:=by rw [az];simp
   have er:xs.length<32:=by
    have:=congrArg List.length az;simp at this;omega
   rw [List.getElem?_range er]at bh
   exact Option.some.inj bh
  have yx:j∈xs:=by
   have bh:(List.range 32)[j]?=some j:=List.getElem?_range al
   rw [az,List.getElem?_append_left al]at bh
   exact List.mem_of_getElem? bh
  simpa using a5 j yx
theorem TP{s:BitVec 32}(h:s≠0#32):s&&&-s=1#32<<<ir s:=by
 obtain⟨ab,af,az⟩:=tV h
 refine ue fun i ak=>?_
 have bb:hasB (1#32<<<ir s) i=decide (ir s=i):=by
  have:=qV (ir s) i
  rw [FM al al,Int.toNat_natCast]at this
  rw [this,Bool.eq_iff_iff];simp;omega
 rw [bb,vG,nP,nP,BitVec.getLsbD_neg]
 simp only [ak,decide_true,Bool.true_and]
 simp only [nP]at af az
 by_cases e:ir s=i
 ·subst e
  have:¬∃j,j<ir s∧s.getLsbD j=true:=by rintro⟨j,aY,av⟩;rw [az j aY]at av;cases av
  simp [af,this]
 rcases Nat.lt_or_gt_of_ne e with er|D4
 ·have:∃j,j<i∧s.getLsbD j=true:=⟨_,er,af⟩
  simp [this,e]
 simp [az i D4,e]
theorem VH:∀k:Nat,k<32→q2[(((1#32<<<k)*125613361#32)>>>27).toNat]?=some (k:Int):=by decide
theorem VI{s:BitVec 32}(h:s≠0#32):q2[(((s&&&-s)*125613361#32)>>>27).toNat]?=some (ir s:Int):=by
  rw [TP h];exact VH _ (tV h).1
theorem Qn(s:BitVec 32)(bc:c1 K ⟨0,0,none⟩ (q2.map fun m=> .int .u8 m)):aS B 201 [aI s.toNat] [K] (fun v S=>v=U (if s=0#32 then 32 else(ir s:Int))∧S=[K]):=by
 refine bD 14 Tryz.func201 fun a4 ax=>?_
 refine aT ?_ ?_<;>intro ab
 ·exact bI ⟨by rw [if_pos (BitVec.eq_of_toNat_eq (by rw [show(0#32).toNat=0 from rfl];omega))],rfl⟩
 have aB:s≠0#32:=by rintro rfl;exact ab rfl
 have er:=(tV aB).1
 have N5:=VI aB
 have AO:=(List.getElem?_eq_some_iff.1 N5).1
 refine ah ?_
 refine aA (Tq rfl (ej _)) ?_
 refine aA (hH rfl rfl (ej _) (ej _) rfl) ?_
 refine aA (hH rfl rfl (ej _) rfl rfl) ?_
 refine aA (sM rfl rfl rfl al al) ?_
 refine aA (m7 rfl rfl ae (rfl:(_:Int)=(((((s&&&-s)*125613361#32)>>>27).toNat:Nat):Int)) AO rfl) ?_
 refine aA (XG rfl ar bc ae (v:= .int .u8 (ir s:Int)) (by rw [Nat.zero_add,Nat.mul_one,List.getElem?_map,N5];rfl)) ?_
 refine aA (kn rfl ae (nQ al al)) ?_
 refine ah ?_
 exact bI ⟨by rw [if_neg aB],rfl⟩
theorem Md(s:BitVec 32)(bc:c1 K ⟨0,0,none⟩ (q2.map fun m=> .int .u8 m)):aS B 282 [aI s.toNat] [K] (fun v S=>v= .tuple #[U (if s=0#32 then 0 else(ir s:Int)),.bool (decide (s≠0#32))]∧S=[K]):=by
 refine bD 8 Tryz.func282 fun a4 ax=>?_
 refine aT ?_ ?_<;>intro ab
 ·have aB:s=0#32:=BitVec.eq_of_toNat_eq (by rw [show(0#32).toNat=0 from rfl];omega)
  refine ah ?_
  exact bI ⟨by rw [if_pos aB,decide_eq_false (by simp [aB])],rfl⟩
 have aB:s≠0#32:=by rintro rfl;exact ab rfl
 refine ah ?_
 refine nB (Qn s bc) ?_
 exact bI ⟨by rw [if_neg aB,if_neg aB,decide_eq_true aB],rfl⟩
theorem Sv{l:List Int}{i:Nat}{x:Int}(h:l[i]?=some x):l.take (i+1)=l.take i++[x]:=by rw [List.take_add_one,h];rfl
theorem E4{t:BitVec 32}(h:t≠0#32){i:Nat}(ak:i<32):hasB (t&&&(t-1#32)) i=(hasB t i&&decide (ir t<i)):=by
  obtain⟨ab,af,az⟩:=tV h
  have e:t-1#32= ~~~(-t):=by
    apply BitVec.eq_of_toNat_eq
    simp [BitVec.toNat_sub,BitVec.toNat_neg,BitVec.toNat_not];omega
  rw [vG,e]
  have a7:hasB (~~~(-t)) i=!hasB (-t) i:=by rw [nP,nP];simp [ak]
  rw [a7,nP (-t),BitVec.getLsbD_neg]
  simp only [ak,decide_true,Bool.true_and]
  simp only [nP]at af az⊢
  cases bb:t.getLsbD i with
  |false=>simp
  |true=>
    by_cases er:ir t<i
    · have:∃j,j<i∧t.getLsbD j=true:=⟨_,er,af⟩
      simp [this,er]
    · have:¬∃j,j<i∧t.getLsbD j=true:=by rintro⟨j,aY,av⟩;rw [az j (by omega)]at av;cases av
      simp [this,er]
theorem E5{t:BitVec 32}(h:t≠0#32):bj t=(ir t:Int)::bj (t&&&(t-1#32)):=by
  obtain⟨ab,af,az⟩:=tV h
  have e:List.range 32=List.range (ir t)++(ir t)::(List.range' (ir t+1) (31-ir t)):=by
    rw [List.range_eq_range',show 32=ir t+(1+(31-ir t))by omega, ←List.range'_append_1,List.range_eq_range', ←List.range'_append_1]
    simp
  unfold bj nU
  rw [e]
  simp only [List.filter_append]
  have lL:(List.range (ir t)).filter (fun(i:Nat)=>hasB t (i:Int))=[]:=List.filter_eq_nil_iff.2 (fun j aY=>by rw [az j (List.mem_range.1 aY)];simp)
  have Bx:(List.range (ir t)).filter (fun(i:Nat)=>hasB (t&&&(t-1#32)) (i:Int))=[]:=List.filter_eq_nil_iff.2 (fun j aY=>by
    have:=List.mem_range.1 aY
    rw [E4 h (by omega),az j this];simp)
  have adz:hasB (t&&&(t-1#32)) (ir t)=false:=by rw [E4 h ab];simp
  rw [lL,Bx,List.filter_cons,if_pos af,List.filter_cons,if_neg (by rw [adz];simp)]
  simp only [List.nil_append,List.map_cons,List.cons.injEq,true_and]
  congr 1
  apply List.filter_congr
  intro j aY
  obtain⟨k,aj,rfl⟩:=List.mem_range'.1 aY
  rw [E4 h (by omega)]
  simp;intros;omega
theorem JV:bj 0#32=[]:=by
  unfold bj nU
  rw [List.filter_eq_nil_iff.2 (fun j aY=>by simp [hasB])];rfl
theorem zg(s:BitVec 32):(bj s).length≤32:=RC s 32
theorem Sw{l:List Int}{i:Nat}{x:Int}{r:List Int}(h:l.drop i=x::r):i<l.length∧l[i]?=some x∧l.drop (i+1)=r:=by
  have ab:i<l.length:=by
    rcases Nat.lt_or_ge i l.length with eW|eW
    · exact eW
    · rw [List.drop_of_length_le eW]at h;cases h
  rw [List.drop_eq_getElem_cons ab]at h
  injection h with af az
  exact⟨ab,by rw [List.getElem?_eq_getElem ab,af],az⟩
theorem m6{α:Type}{f:α→List Value}{l:List α}{i:Nat}{x:α}(h:l[i]?=some x):(l.map f).getD i []=f x:=by simp [List.getD,h]
theorem Jy{t:BitVec 32}(h:(t.toNat:Int)=0):t=0#32:=BitVec.eq_of_toNat_eq (by rw [show(0#32).toNat=0 from rfl];omega)
theorem Jz{t:BitVec 32}(h:¬(t.toNat:Int)=0):t≠0#32:=by rintro rfl;exact h rfl
theorem ab9{t:BitVec 32}(bc:c1 K ⟨0,0,none⟩ (q2.map fun m=> .int .u8 m))(h:t≠0#32):aS B 201 [aI t.toNat] [K] (fun v S=>v=U (ir t:Int)∧S=[K]):=
  (Qn t bc).mono fun v S ⟨ab,af⟩=>⟨by rw [ab,if_neg h],af⟩
theorem ps(s:BitVec 32):aS B 130 [aI s.toNat] [] (fun v S=>∃b,v= .func (.func 200) #[] #[ag b]∧S=[aa b [aI s.toNat] 158]):=by
 refine bD 4 Tryz.func130 fun a4 ax=>?_
 refine fe fun ay=>?_
 exact⟨[aa ay [aI s.toNat] 158],⟨ay,rfl,rfl⟩,_,aC⟩
theorem pg(b:Nat)(s:BitVec 32)(bc:c1 K ⟨0,0,none⟩ (q2.map fun m=> .int .u8 m)):
  mW Tryz.prog B 200 [ag b] [aa b [aI s.toNat] 158,K] ((bj s).map fun n=>[.int .i64 n]):=by
 intro cu J gN cb gv aZ
 change dQ _ _ _ _ (aa b [aI s.toNat] 158::K::cb) _
 refine bD 16 Tryz.func200 fun a4 ax=>?_
 refine dH (α:=BitVec 32×Nat×List (ao B)) (fun⟨t,i,aP⟩=>i≤(bj s).length∧(bj s).drop i=bj t∧J i aP) (fun⟨t,i,aP⟩=>[(3,aI t.toNat),(0,.func (.yield cu) #[] #[]),(1,ag b)]) (fun⟨t,i,aP⟩=>aa b [aI s.toNat] 158::K::aP) (fun⟨t,i,aP⟩=>(bj s).length-i) (s,0,cb) ?_ dD aC ?_
 ·exact⟨Nat.zero_le _,rfl,gv⟩
 rintro⟨t,i,aP⟩ ⟨ak,D5,bt⟩
 dsimp only
 refine ah ?_
 refine aT ?_ ?_<;>intro ab
 ·have aR:=Jz ab
  rw [E5 aR]at D5
  obtain⟨er,cN,Z0⟩:=Sw D5
  have fI:=aZ i aP (by rw [List.length_map];exact er) bt
  rw [m6 cN]at fI
  refine ah ?_
  refine sj (ab9 bc aR) ?_
  refine iB (own:=[aa b [aI s.toNat] 158,K]) (hU:=aP) .no rfl rfl fI rfl ?_
  rintro og aQ aE
  refine cU ?_
  refine aT ?_ ?_<;>intro af
  ·obtain⟨h,_⟩|⟨_,aE⟩:=aE
   ·rw [h]at af;cases af
   exact⟨aa b [aI s.toNat] 158::K::aQ,⟨aQ,rfl,.inr ⟨i,by rw [List.length_map];exact er,aE⟩⟩,_,aC⟩
  obtain⟨_,aE⟩|⟨h,_⟩:=aE
  rotate_left
  ·rw [h]at af;cases af
  refine ah ?_
  refine aA (hH rfl rfl (ej _) rfl rfl) ?_
  refine aA (hH rfl rfl (ej _) (ej _) rfl) ?_
  refine ah ?_
  refine eg (t&&&(t-1#32),i+1,aQ) ?_ ?_ ?_ ?_
  ·(try dsimp only);exact⟨er,Z0,aE⟩
  ·(try dsimp only);omega
  ·refine⟨?_,?_,?_,trivial⟩<;>rfl
  (try dsimp only);exact⟨_,aC⟩
 have aR:=Jy ab
 rw [aR,JV]at D5
 have uY:i=(bj s).length:=by have:=List.drop_eq_nil_iff.1 D5;omega
 subst uY
 exact⟨aa b [aI s.toNat] 158::K::aP,⟨aP,rfl,.inl (by rw [List.length_map];exact bt)⟩,_,aC⟩
abbrev cg(e:Nat→Int):List Value:=[U (e 0),U (e 1),U (e 2),U (e 3),U (e 4),U (e 5),U (e 6),U (e 7),U (e 8),U (e 9),U (e 10)]
abbrev cS(e:Nat→Int):List Value:=[U (e 0),U (e 1),U (e 2),U (e 3),U (e 4),U (e 5),U (e 6),U (e 7),U (e 8),U (e 9),U (e 10),U (e 11),U (e 12),U (e 13),U (e 14),U (e 15),U (e 16),U (e 17),U (e 18),U (e 19),U (e 20),U (e 21),U (e 22)]
abbrev kt(e:Nat→Int):List Value:=[U (e 0),U (e 1)]
structure Mode where
  aG:BitVec 32
  q:ai (Nat→Int)
abbrev eI(m:Mode):List Value:=[aI m.aG.toNat,aw m.q]
structure bQ where
  cG:Int
  aG:ai (Nat→Int)
  ba:ai Mode
  a0:ai (Nat→Int)
abbrev bQ.v(x:bQ):Value:= .agg #[.int .i64 x.cG,.slice x.aG.b1 x.aG.l.length x.aG.c,.slice x.ba.b1 x.ba.l.length x.ba.c,.slice x.a0.b1 x.a0.l.length x.a0.c]
structure bQ.In(K:ao B)(x:bQ):Prop where
  aG:c1 K x.aG.bl (x.aG.l.flatMap cg)
  ba:c1 K x.ba.bl (x.ba.l.flatMap eI)
  a0:c1 K x.a0.bl (x.a0.l.flatMap cS)
  sU:∀m∈x.ba.l,c1 K m.q.bl (m.q.l.flatMap kt)
def lT(e:Nat→Int)(r:Nat):Bool:=decide (0<e (3+r))
def hO(e:Nat→Int)(n:Nat):List (Nat×Int):=((List.range n).filter (lT e)).map fun r=>(r,e (3+r))
theorem zp(e:Nat→Int)(n:Nat):hO e (n+1)=hO e n++(if lT e n then [(n,e (3+n))]else []):=by
  unfold hO;rw [List.range_succ,List.filter_append,List.map_append];cases h:lT e n<;>simp [h]
theorem RD{e:Nat→Int}{n:Nat}{p:Nat×Int}(h:p∈hO e n):p.1<n∧p.2=e (3+p.1)∧0<p.2:=by
  unfold hO at h
  simp only [List.mem_map,List.mem_filter,List.mem_range]at h
  obtain⟨r,⟨ab,af⟩,rfl⟩:=h
  exact⟨ab,rfl,by simpa [lT]using af⟩
theorem JW(e:Nat→Int):∀{n m:Nat},n≤m→∃r,hO e m=hO e n++r
  | n, 0, h => ⟨[], by have : n = 0 := by omega
                       subst this;simp⟩
  |n,m+1,h=>by
    by_cases eW:n=m+1
    · exact⟨[],by rw [eW];simp⟩
    · obtain⟨r,bk⟩:=JW e (n:=n) (m:=m) (by omega)
      exact⟨r++(if lT e m then [(m,e (3+m))]else []),by rw [zp,bk,List.append_assoc]⟩
theorem RE{e:Nat→Int}{n m:Nat}(h:n<m)(br:lT e n=true):(hO e n).length<(hO e m).length∧(hO e m)[(hO e n).length]?=some (n,e (3+n)):=by
  obtain⟨r,bk⟩:=JW e (n:=n+1) (m:=m) h
  rw [zp,br]at bk
  rw [bk];simp
theorem zh{e:Nat→Int}{j:Nat}(h:j<8):(cg e)[3+j*1]?=some (U (e (3+j))):=by
  rcases(by omega:j=0∨j=1∨j=2∨j=3∨j=4∨j=5∨j=6∨j=7)with rfl|rfl|rfl|rfl|rfl|rfl|rfl|rfl<;>rfl
abbrev Di(e:Nat→Int):List Value:=eG 8 fun r=>e (3+r)
abbrev qA(t:Nat→Int):Value:= .agg (eG 8 t).toArray
theorem KB{f:Nat→Int}{j:Nat}(h:j<8):(eG 8 f)[0+j*1]?=some (U (f j)):=by rw [Nat.zero_add,Nat.mul_one];exact vC h
theorem E6{f:Nat→Int}{j:Nat}(h:j<8):(eG 8 f)[j]?=some (U (f j)):=vC h
theorem KC{f:Nat→Int}{j:Nat}{v:Int}:(eG 8 f).set (0+j*1) (U v)=eG 8 (bF f j v):=by rw [Nat.zero_add,Nat.mul_one];exact Ki (c:=fun m=>Value.int .i64 m) (v:=v)
theorem Lr{f:Nat→Int}{k:Nat}(h:k<8):Nat.blt k (eG 8 f).length=true:=by simp [sI];omega
theorem Fo{f g:Nat→Int}(h:∀k,k<8→f k=g k):qA f=qA g:=by unfold qA;rw [show eG 8 f=eG 8 g from Fi h]
def yg(bf:List (Nat→Int))(s:BitVec 32)(r i:Nat):Bool:=match bf[i]? with
  |some e=>hasB s i&&lT e r
  |none=>false
def x1(bf:List (Nat→Int))(s:BitVec 32)(r:Nat):Int:=(((List.range 16).find? (yg bf s r)).map fun(i:Nat)=>(i:Int)).getD 16
structure xE(p:Nat→Bool)(v:Int):Prop where
  le:∀i:Nat,i<16→p i=true→v≤i
  at_:v=16∨∃i:Nat,i<16∧p i=true∧v=i
theorem xE.Z1{p:Nat→Bool}{v w:Int}(h:xE p v)(g:xE p w):v=w:=by
  rcases h.at_ with rfl|⟨i,ab,af,rfl⟩
  · rcases g.at_ with rfl|⟨j,bM,bS,rfl⟩
    · rfl
    · have:=h.le j bM bS;omega
  · have az:=g.le i ab af
    rcases g.at_ with rfl|⟨j,bM,bS,rfl⟩
    · omega
    · have:=h.le j bM bS;omega
theorem Q7{p:Nat→Bool}:xE p ((((List.range 16).find? p).map fun(i:Nat)=>(i:Int)).getD 16):=by
 cases br:(List.range 16).find? p with
 |none=>
  refine⟨fun i ak aE=>?_,.inl rfl⟩
  have:=List.find?_eq_none.1 br i (List.mem_range.2 ak)
  rw [aE]at this;simp at this
 |some k=>
  have ab:=List.find?_some br
  have af:=List.mem_range.1 (List.mem_of_find?_eq_some br)
  refine⟨fun i ak aE=>?_,.inr ⟨k,af,by simpa using ab,rfl⟩⟩
  show(k:Int)≤i
  rcases Nat.lt_or_ge i k with er|DS
  ·exfalso
   obtain⟨_,xs,cO,az,a5⟩:=List.find?_eq_some_iff_append.1 br
   have hlen:xs.length=k:=by
    have bh:(List.range 16)[xs.length]?=some k:=by rw [az];simp
    have er:xs.length<16:=by
     have:=congrArg List.length az;simp at this;omega
    rw [List.getElem?_range er]at bh
    exact Option.some.inj bh
   have yx:i∈xs:=by
    have bh:(List.range 16)[i]?=some i:=List.getElem?_range ak
    rw [az,List.getElem?_append_left al]at bh
    exact List.mem_of_getElem? bh
   have:=a5 i yx
   rw [aE]at this;simp at this
  omega
theorem QR(bf:List (Nat→Int))(s:BitVec 32)(r:Nat):xE (yg bf s r) (x1 bf s r):=Q7
def stepT(t:Nat→Int)(n:Int)(e:Nat→Int):Nat→Int:=fun r=>if r<8∧lT e r=true then min (t r) n else t r
def mL(bf:List (Nat→Int))(t:Nat→Int)(n:Int):Nat→Int:=match bf[n.toNat]? with
  |some e=>stepT t n e
  |none=>t
def lm(bf:List (Nat→Int))(l:List Int):Nat→Int:=l.foldl (mL bf) fun _=>16
theorem XY{bf:List (Nat→Int)}{l:List Int}{i:Nat}{n:Int}(h:l[i]?=some n):lm bf (l.take (i+1))=mL bf (lm bf (l.take i)) n:=by
  rw [Sv h];simp [lm]
def pn(t:Nat→Int)(n:Int)(l:List (Nat×Int)):Nat→Int:=l.foldl (fun t p=>bF t p.1 (min (t p.1) n)) t
theorem TQ{t:Nat→Int}{n:Int}{l:List (Nat×Int)}{i:Nat}{p:Nat×Int}(h:l[i]?=some p):pn t n (l.take (i+1))=bF (pn t n (l.take i)) p.1 (min (pn t n (l.take i) p.1) n):=by
  rw [List.take_add_one,h];simp [pn]
theorem JA(t:Nat→Int)(n:Int)(e:Nat→Int):∀m,pn t n (hO e m)=fun r=>if r<m∧lT e r=true then min (t r) n else t r
  |0=>by funext r;simp [hO,pn]
  |m+1=>by
    rw [zp]
    have ih:=JA t n e m
    unfold pn at ih⊢
    rw [List.foldl_append,ih]
    funext r
    cases hu:lT e m
    · simp only [Bool.false_eq_true,if_false,List.foldl_nil]
      by_cases bk:r=m
      · subst bk;rw [if_neg (by simp),if_neg (by simp [hu])]
      · by_cases h:r<m∧lT e r=true
        · rw [if_pos h,if_pos ⟨by omega,h.2⟩]
        · rw [if_neg h,if_neg (fun eW=>h ⟨by omega,eW.2⟩)]
    · simp only [if_true,List.foldl_cons,List.foldl_nil]
      by_cases bk:r=m
      · subst bk;rw [e8,if_neg (by simp),if_pos ⟨by omega,hu⟩]
      · rw [fs _ _ bk]
        by_cases h:r<m∧lT e r=true
        · rw [if_pos h,if_pos ⟨by omega,h.2⟩]
        · rw [if_neg h,if_neg (fun eW=>h ⟨by omega,eW.2⟩)]
theorem Q8{bf:List (Nat→Int)}{t:Nat→Int}{n:Int}{e:Nat→Int}(h:bf[n.toNat]?=some e):pn t n (hO e 8)=mL bf t n:=by
  rw [JA,mL,h];rfl
def N6(bf:List (Nat→Int))(l:List Int)(r:Nat)(n:Int):Prop:=n∈l∧∃e,bf[n.toNat]?=some e∧lT e r=true
theorem KD(bf:List (Nat→Int)){r:Nat}(bk:r<8):∀(l:List Int) (t:Nat→Int),(l.foldl (mL bf) t r≤t r)∧(∀n,N6 bf l r n→l.foldl (mL bf) t r≤n)∧(l.foldl (mL bf) t r=t r∨∃n,N6 bf l r n∧l.foldl (mL bf) t r=n)
 |[],t=>⟨Int.le_refl _,fun n h=>(by cases h.1),.inl rfl⟩
 |x::l,t=>by
  obtain⟨ab,af,az⟩:=KD bf bk l (mL bf t x)
  rw [List.foldl_cons]
  have av:mL bf t x r=t r∨(mL bf t x r=min (t r) x∧∃e,bf[x.toNat]?=some e∧lT e r=true):=by
   unfold mL
   cases he:bf[x.toNat]? with
   |some e=>
    show stepT t x e r=t r∨(stepT t x e r=_∧_)
    unfold stepT
    by_cases h:r<8∧lT e r=true
    ·rw [if_pos h];exact .inr ⟨rfl,e,rfl,h.2⟩
    rw [if_neg h];exact .inl rfl
   |none=>exact .inl rfl
  have Z2:(∃e,bf[x.toNat]?=some e∧lT e r=true)→mL bf t x r=min (t r) x:=by
   rintro⟨e,he,hu⟩
   unfold mL;rw [he];show stepT t x e r=_;unfold stepT;rw [if_pos ⟨bk,hu⟩]
  have hle:mL bf t x r≤t r:=by rcases av with h|⟨h,_⟩<;>omega
  refine⟨by omega,fun n a7=>?_,?_⟩
  ·obtain⟨hm,he⟩:=a7
   rcases List.mem_cons.1 hm with rfl|hm
   ·have:=Z2 he;omega
   exact af n ⟨hm,he⟩
  rcases az with az|⟨n,a7,az⟩
  ·rcases av with h|⟨h,he⟩
   ·exact .inl (by rw [az,h])
   rw [az,h]
   rcases Int.le_total (t r) x with eW|eW
   ·exact .inl al
   exact .inr ⟨x,⟨List.mem_cons_self ..,he⟩,by omega⟩
  exact .inr ⟨n,⟨List.mem_cons_of_mem _ a7.1,a7.2⟩,az⟩
theorem KE(bf:List (Nat→Int))(s:BitVec 32){r:Nat}(bk:r<8):lm bf (bj s) r=x1 bf s r:=by
 obtain⟨ab,af,az⟩:=KD bf bk (bj s) fun _=>16
 refine xE.Z1 (p:=yg bf s r) ⟨fun i ak aE=>?_,?_⟩ (QR bf s r)
 ·refine af i ?_
  unfold yg at aE
  split at aE
  ·rename_i e he
   simp at aE
   exact⟨lO.2 ⟨by omega,by omega,aE.1⟩,e,by simpa using he,aE.2⟩
  cases aE
 rcases az with az|⟨n,⟨hm,e,he,hu⟩,az⟩
 ·exact .inl az
 obtain⟨bM,bS,cD⟩:=lO.1 hm
 obtain⟨k,rfl⟩:=Int.eq_ofNat_of_zero_le bM
 rcases Nat.lt_or_ge k 16 with aj|aj
 ·refine .inr ⟨k,aj,?_,az⟩
  unfold yg
  rw [Int.toNat_natCast]at he
  rw [he];simp [cD,hu]
 have OQ:lm bf (bj s) r≤16:=ab
 exact .inl (by
  have aeP:lm bf (bj s) r=(k:Int):=az
  omega)
theorem Jq(s:BitVec 32):∀n,(nU s n).Pairwise (· < ·)
 |0=>List.Pairwise.nil
 |n+1=>by
  rw [TO]
  refine List.pairwise_append.2 ⟨Jq s n,?_,fun a aO b bb=>?_⟩
  ·split<;>simp
  have:=(lO.1 aO).2.1
  split at bb
  ·simp at bb;omega
  cases bb
theorem TR{bf:List (Nat→Int)}{s:BitVec 32}{i:Nat}{n:Int}(h:(bj s)[i]?=some n)(a7:(bf.length:Int)≤n):lm bf ((bj s).take i)=lm bf (bj s):=by
  have e:bj s=(bj s).take i++(bj s).drop i:=(List.take_append_drop ..).symm
  unfold lm
  conv=>rhs;rw [e,List.foldl_append]
  have aB:=Jq s 32
  have ak:=(List.getElem?_eq_some_iff.1 h).1
  have lb:∀x∈(bj s).drop i,n≤x:=by
    intro x av
    have g4:((bj s).drop i).Pairwise (· < ·):=aB.drop
    rw [List.drop_eq_getElem_cons ak]at av g4
    have bh:(bj s)[i]=n:=by rw [List.getElem?_eq_getElem ak]at h;exact Option.some.inj h
    rcases List.mem_cons.1 av with rfl|av
    · omega
    · have:=(List.pairwise_cons.1 g4).1 x av;omega
  generalize List.foldl (mL bf) (fun _=>16) ((bj s).take i)=t
  generalize (bj s).drop i=l at lb
  induction l with
  |nil=>rfl
  |cons x l ih=>
    have av:=lb x (List.mem_cons_self ..)
    have:mL bf t x=t:=by
      unfold mL
      rw [List.getElem?_eq_none (by omega)]
    rw [List.foldl_cons,this]
    exact ih fun y aZ=>lb y (List.mem_cons_of_mem _ aZ)
abbrev fH(bf:List (Nat→Int))(s:BitVec 32):Nat→Int:=fun r=>x1 bf s r
def u2(t:Nat→Int)(r:Int):Int:=if 0≤r∧r<8 then t r.toNat else 16
def vO(t:Nat→Int)(i r:Int):Int:=if r<0 then i else min i (u2 t r)
def iE(t:Nat→Int)(i:Int):Nat→BitVec 32
  |0=>0#32
  |n+1=>if t n≤i∧t n<16 then iE t i n|||ep n else iE t i n
def qn(x:bQ):Bool:=decide (x.aG.l.length>40)||decide (x.ba.l.length>20)||decide (x.a0.l.length>60)||x.ba.l.any fun m=>decide (m.q.l.length>20)
theorem TS{l:List Mode}{i:Nat}{m:Mode}(h:l[i]?=some m)(aR:(l.take i).any (fun m=>decide (m.q.l.length>20))=false)(hm:¬m.q.l.length>20):(l.take (i+1)).any (fun m=>decide (m.q.l.length>20))=false:=by
  rw [List.take_add_one,h,List.any_append,aR]
  simp;omega
theorem TT{l:List Mode}{i:Nat}{m:Mode}(h:l[i]?=some m)(hm:m.q.l.length>20):l.any (fun m=>decide (m.q.l.length>20))=true:=by
  rw [List.any_eq_true];exact⟨m,List.mem_of_getElem? h,by simp;omega⟩
theorem VJ(x:bQ)(av:x.In K):aS B 72 [x.v] [K] (fun v S=>v= .bool (qn x)∧S=[K]):=by
 refine bD 35 Tryz.func72 fun a4 ax=>?_
 refine fe fun ay=>?_
 refine cC ?_ ?_<;>intro ab
 ·exact bI ⟨by rw [qn,decide_eq_true (show x.aG.l.length>40 by omega)];rfl,rfl⟩
 refine cC ?_ ?_<;>intro af
 ·exact bI ⟨by rw [qn,decide_eq_true (show x.ba.l.length>20 by omega)];simp,rfl⟩
 refine aT ?_ ?_<;>intro az
 ·exact bI ⟨by rw [qn,decide_eq_true (show x.a0.l.length>60 by omega)];simp,rfl⟩
 refine dH (α:=Nat) (fun i=>i≤x.ba.l.length∧(x.ba.l.take i).any (fun m=>decide (m.q.l.length>20))=false) (fun i=>[(3,U (i:Int)),(1,ag ay)]) (fun i=>[aa ay [U x.cG,aw x.aG,aw x.ba,aw x.a0] 41,K]) (fun i=>x.ba.l.length-i) 0 ?_ dD aC ?_
 ·exact⟨Nat.zero_le _,rfl⟩
 rintro i ⟨ak,bP⟩
 have j9:=x.ba.small
 refine ah ?_
 refine aT ?_ ?_<;>intro a5
 ·obtain⟨m,hm⟩:∃m,x.ba.l[i]?=some m:=⟨_,List.getElem?_eq_getElem al⟩
  refine ah ?_
  refine aA (eO (aW:=eI) (aH:=2) (i:=i) (k:=1) (fun _=>rfl) rfl ar av.ba ae hm rfl) ?_
  refine ah ?_
  refine aT ?_ ?_<;>intro cd
  ·exact bI ⟨by rw [qn,TT hm al];simp,rfl⟩
  exact fX (i+1) ⟨by omega,TS hm bP al⟩
 exact bI ⟨by rw [List.take_of_length_le al]at bP;rw [qn,bP];simp;omega,rfl⟩
theorem has(s:BitVec 32)(i:Int):aS B 76 [aI s.toNat,U i] [] (fun v S=>v= .bool (hasB s i)∧S=[]):=by
 refine bD 19 Tryz.func76 fun a4 ax=>?_
 refine cC ?_ ?_<;>intro ab
 ·refine cC ?_ ?_<;>intro af
  ·refine aA (kn rfl ae (u64_in al al)) (hw:=(.yes 11 rfl rfl rfl)) ?_
   refine aA (sM rfl rfl rfl al al) (hw:=(.yes 11 rfl rfl rfl)) ?_
   refine aA (To (b:=2#32) rfl rfl rfl rfl bu) (hw:=(.yes 11 rfl rfl rfl)) ?_
   refine ah ?_
   exact bI ⟨by rw [TM s i ab af],rfl⟩
  exact bI ⟨by rw [vF s i al],rfl⟩
 exact bI ⟨by rw [vF s i al],rfl⟩
abbrev dL{B:Nat}(K:ao B):Prop:=c1 K ⟨0,0,none⟩ (q2.map fun m=> .int .u8 m)
abbrev bJ(x:bQ):List Value:=[U x.cG,aw x.aG,aw x.ba,aw x.a0]
theorem GL(e:Nat→Int):aS B 205 [.agg (cg e).toArray] [] (fun v S=>∃b,v= .func (.func 254) #[] #[ag b]∧S=[aa b (cg e) 173]):=by
 refine bD 4 Tryz.func205 fun a4 ax=>?_
 refine fe (au:=cg e) fun ay=>?_
 exact⟨[aa ay (cg e) 173],⟨ay,rfl,rfl⟩,_,aC⟩
theorem FN(b:Nat)(e:Nat→Int):
  mW Tryz.prog B 254 [ag b] [aa b (cg e) 173] ((hO e 8).map fun p=>[.int .i64 (p.1:Int),U p.2]):=by
 intro cu J gN cb gv aZ
 change dQ _ _ _ _ (aa b (cg e) 173::cb) _
 refine dn 21 Tryz.func254 fun a4 ax=>?_
 refine gD ?_
 refine cM (Di e) ?_
 refine ah ?_
 refine dH (α:=Nat×List (ao B)) (fun⟨r,aP⟩=>r≤8∧J (hO e r).length aP) (fun⟨r,aP⟩=>[(7,U (r:Int)),(6,.agg (Di e).toArray),(0,.func (.yield cu) #[] #[]),(1,ag b)]) (fun⟨r,aP⟩=>aa b (cg e) 173::aP) (fun⟨r,aP⟩=>8-r) (0,cb) ?_ dD aC ?_
 ·exact⟨Nat.zero_le _,gv⟩
 rintro⟨r,aP⟩ ⟨bk,bt⟩
 dsimp only
 refine ah ?_
 refine aT ?_ ?_<;>intro ab
 ·refine aA (uc rfl rfl ae rfl al (E6 al)) ?_
  refine ah ?_
  refine cC ?_ ?_<;>intro af
  ·have hu:lT e r=true:=by unfold lT;simpa using af
   obtain⟨er,cN⟩:=RE (m:=8) al hu
   have fI:=aZ _ aP (by rw [List.length_map];exact er) bt
   rw [show((hO e 8).map fun p=>[Value.int .i64 (p.1:Int),Value.int .i64 p.2]).getD (hO e r).length []=[U (r:Int),U (e (3+r))]from by simp [List.getD,cN]]at fI
   refine ah ?_
   refine iB (own:=[aa b (cg e) 173]) (hU:=aP) (.yes 13 rfl rfl rfl) rfl rfl fI rfl ?_
   rintro og aQ aE
   refine cU ?_
   refine aT ?_ ?_<;>intro az
   ·obtain⟨h,_⟩|⟨_,aE⟩:=aE
    ·rw [h]at az;cases az
    exact⟨aa b (cg e) 173::aQ,⟨aQ,rfl,.inr ⟨_,by rw [List.length_map];exact er,aE⟩⟩,_,aC⟩
   obtain⟨_,aE⟩|⟨h,_⟩:=aE
   rotate_left
   ·rw [h]at az;cases az
   refine ah ?_
   refine eg (r+1,aQ) ?_ ?_ ?_ ?_
   ·(try dsimp only);exact⟨by omega,by rw [zp,if_pos hu,List.length_append];exact aE⟩
   ·(try dsimp only);omega
   ·refine⟨?_,?_,?_,?_,trivial⟩<;>rfl
   (try dsimp only);exact⟨_,aC⟩
  have hu:¬lT e r=true:=by unfold lT;simp;omega
  refine ah ?_
  refine eg (r+1,aP) ?_ ?_ ?_ ?_
  ·(try dsimp only);exact⟨by omega,by rw [zp,if_neg hu];simpa using bt⟩
  ·(try dsimp only);omega
  ·refine⟨?_,?_,?_,?_,trivial⟩<;>rfl
  (try dsimp only);exact⟨_,aC⟩
 obtain rfl:r=8:=by omega
 exact⟨aa b (cg e) 173::aP,⟨aP,rfl,.inl (by rw [List.length_map];exact bt)⟩,_,aC⟩
theorem TU(r k:Nat):bF (fun k=>if k<r then(16:Int)else 0) r 16 k=if k<r+1 then 16 else 0:=by
  by_cases h:k=r
  · subst h;rw [e8,if_pos (by omega)]
  · rw [fs _ _ h]
    by_cases eW:k<r
    · rw [if_pos eW,if_pos (by omega)]
    · rw [if_neg eW,if_neg (by omega)]
theorem Me:aS B 132 [] [] (fun v S=>v=qA (fun _=>16)∧S=[]):=by
 refine bD 11 Tryz.func132 fun a4 ax=>?_
 refine vz (au:=eG 8 (fun _=>0)) .no ae rfl (fun ay=>?_)
 refine ah ?_
 refine vz (au:=eG 8 (fun _=>0)) .no ae rfl (fun aM=>?_)
 refine ah ?_
 refine dH (α:=Nat) (fun r=>r≤8) (fun r=>[(4,U (r:Int)),(0,ag ay),(1,ag aM)]) (fun r=>[aa ay (eG 8 (fun _=>0)) 258,aa aM (eG 8 (fun k=>if k<r then 16 else 0)) 258]) (fun r=>8-r) 0 ?_ dD bq ?_
 ·exact Nat.zero_le _
 intro r bk
 refine ah ?_
 refine bX ?_ ?_<;>intro ab
 ·refine ah ?_
  refine fw (iG (fN:=eG 8 (fun k=>if k<r+1 then 16 else 0)) rfl rfl rfl ar ae (Lr al) (by rw [KC];exact Fi fun k _=>TU r k)) ?_
  refine ah ?_
  refine fX (r+1) ?_
  omega
 refine iW ?_
 refine cM (eG 8 (fun k=>if k<r then 16 else 0)) ?_
 refine ah ?_
 refine cc (.nil _) (gA rfl rfl ar ae (by rfl)) ?_
 exact bI ⟨Fo fun k aj=>if_pos al,rfl⟩
theorem cat(t:Nat→Int)(r:Int):aS B 292 [qA t,U r] [] (fun v S=>v=U (u2 t r)∧S=[]):=by
 refine bD 14 Tryz.func292 fun a4 ax=>?_
 refine fe (au:=eG 8 t) fun ay=>?_
 refine cC ?_ ?_<;>intro ab
 ·exact bI ⟨by rw [u2,if_neg (by omega)],rfl⟩
 refine bX ?_ ?_<;>intro af
 ·refine ah ?_
  exact bI ⟨by rw [u2,if_neg (by omega)],rfl⟩
 obtain⟨j,aY⟩:=Int.eq_ofNat_of_zero_le (a:=r) (by omega)
 refine kk ?_
 refine ik ?_
 refine dZ ?_
 refine fl ?_
 refine aA (dh rfl) ?_
 refine aA (m7 rfl rfl ae aY (by omega) rfl) ?_
 refine aA (fm rfl ar ae (KB (by omega))) ?_
 refine ah ?_
 exact bI ⟨by rw [u2,if_pos (by omega),show r.toNat=j by omega],rfl⟩
theorem cover(t:Nat→Int)(i:Int):aS B 274 [qA t,U i] [] (fun v S=>v=aI (iE t i 8).toNat∧S=[]):=by
 refine bD 25 Tryz.func274 fun a4 ax=>?_
 refine dt (au:=eG 8 t) fun ay=>?_
 refine jT ?_
 refine cM (eG 8 t) ?_
 refine ah ?_
 refine dH (α:=Nat×BitVec 32) (fun⟨r,o⟩=>r≤8∧o=iE t i r) (fun⟨r,o⟩=>[(9,U (r:Int)),(5,aI o.toNat),(8,qA t),(1,U i)]) (fun⟨r,o⟩=>[aa ay (eG 8 t) 258]) (fun⟨r,o⟩=>8-r) (0,0#32) ?_ dD aC ?_
 ·exact⟨Nat.zero_le _,rfl⟩
 rintro⟨r,o⟩ ⟨bk,ap⟩
 dsimp only
 refine ah ?_
 refine aT ?_ ?_<;>intro ab
 ·refine aA (uc rfl rfl ae rfl al (E6 al)) ?_
  refine ah ?_
  refine cC ?_ ?_<;>intro af
  ·refine aT ?_ ?_<;>intro az
   ·refine fL (s0 _ _) ?_
    refine eg (r+1,o|||ep r) ?_ ?_ ?_ ?_
    ·(try dsimp only);exact⟨by omega,by rw [ap,iE,if_pos ⟨af,az⟩]⟩
    ·(try dsimp only);omega
    ·refine⟨?_,?_,?_,?_,trivial⟩<;>rfl
    (try dsimp only);exact⟨_,aC⟩
   refine eg (r+1,o) ?_ ?_ ?_ ?_
   ·(try dsimp only);exact⟨by omega,by rw [ap,iE,if_neg al]⟩
   ·(try dsimp only);omega
   ·refine⟨?_,?_,?_,?_,trivial⟩<;>rfl
   (try dsimp only);exact⟨_,aC⟩
  refine eg (r+1,o) ?_ ?_ ?_ ?_
  ·(try dsimp only);exact⟨by omega,by rw [ap,iE,if_neg al]⟩
  ·(try dsimp only);omega
  ·refine⟨?_,?_,?_,?_,trivial⟩<;>rfl
  (try dsimp only);exact⟨_,aC⟩
 exact bI ⟨by rw [ap,show r=8 by omega],rfl⟩
theorem VK(t:Nat→Int)(i r:Int):aS B 281 [qA t,U i,U r] [] (fun v S=>v=U (vO t i r)∧S=[]):=by
 refine bD 15 Tryz.func281 fun a4 ax=>?_
 refine fe (au:=eG 8 t) fun ay=>?_
 refine bX ?_ ?_<;>intro ab
 ·refine ah ?_
  exact bI ⟨by rw [vO,if_pos ab],rfl⟩
 refine cW ?_
 refine cM (eG 8 t) ?_
 refine ah ?_
 refine fL (cat t r) ?_
 exact bI ⟨by rw [vO,if_neg al],rfl⟩
theorem D6{kD:ao B}(x:bQ)(av:x.In kD)(s:BitVec 32)(bc:dL K):aS B 136 [x.v,aI s.toNat] [K,kD] (fun v S=>v=qA (fH x.aG.l s)∧S=[K,kD]):=by
 refine bD 33 Tryz.func136 fun a4 ax=>?_
 refine dt fun ay=>?_
 refine vz (au:=eG 8 (fun _=>0)) .no ae rfl (fun aM=>?_)
 refine ah ?_
 refine hD (Me) ?_
 refine vz (au:=eG 8 (fun _=>0)) .no ae rfl (fun bw=>?_)
 refine ah ?_
 refine cA (ps s) ?_
 rintro _ _ ⟨jG,rfl,rfl⟩
 refine cU ?_
 refine kh (own:=[aa jG [aI s.toNat] 158,K]) (aP:=[aa ay (bJ x) 41,aa bw (eG 8 (fun _=>16)) 258,kD]) rfl e2 (pg jG s bc) (fun i S=>S=[aa ay (bJ x) 41,aa bw (eG 8 (lm x.aG.l ((bj s).take i))) 258,kD]) (fun c i S=>c= .exit 0∧S=[aa ay (bJ x) 41,aa bw (eG 8 (lm x.aG.l (bj s))) 258,kD]) (show Take ([aa jG [aI s.toNat] 158,K,aa ay (bJ x) 41,aa bw (eG 8 (fun _=>16)) 258,kD]) _ _ from aC) (rfl) rfl (fun x av=>by obtain⟨y,_,rfl⟩:=List.mem_map.1 av;rfl) ?_ ?_ ?_
 ·intro cu rec jF i aQ ak bt
  subst bt
  rw [List.length_map]at ak
  obtain⟨n,cN⟩:∃n,(bj s)[i]?=some n:=⟨_,List.getElem?_eq_getElem ak⟩
  rw [m6 cN]
  refine ah ?_
  refine da fun b9=>?_
  refine⟨rfl,_,_,.cons ar (Take.self _),fun h1=>?_⟩
  refine ah ?_
  refine aT ?_ ?_<;>intro ab
  ·exact⟨[aa ay (bJ x) 41,aa bw (eG 8 (lm x.aG.l ((bj s).take i))) 258,kD],_,aC,⟨rfl,by rw [TR cN al]⟩⟩
  obtain⟨k,aj⟩:=Int.eq_ofNat_of_zero_le (lO.1 (List.mem_of_getElem? cN)).1
  obtain⟨e,he⟩:∃e,x.aG.l[k]?=some e:=⟨_,List.getElem?_eq_getElem al⟩
  refine ah ?_
  refine aA (hx (j:=k) rfl rfl ae (x.aG).en aj (List.getElem?_eq_some_iff.1 he).1 rfl) ?_
  refine aA (hN (aW:=cg) (aH:=11) (i:=k) (fun _=>rfl) rfl ar av.aG ae he) ?_
  refine cA (GL e) ?_
  rintro _ _ ⟨IT,rfl,rfl⟩
  refine cU ?_
  refine Cb (own:=[aa IT (cg e) 173]) (aP:=[aa bw (eG 8 (lm x.aG.l ((bj s).take i))) 258,aa b9 [U n] 3]) ar rfl e2 (FN IT e) (fun j S=>S=[aa bw (eG 8 (pn (lm x.aG.l ((bj s).take i)) n ((hO e 8).take j))) 258,aa b9 [U n] 3]) (fun c j S=>False) (show Take ([aa IT (cg e) 173,aa bw (eG 8 (lm x.aG.l ((bj s).take i))) 258,aa b9 [U n] 3]) _ _ from aC) (rfl) rfl (fun x av=>by obtain⟨y,_,rfl⟩:=List.mem_map.1 av;rfl) ?_ ?_ ?_
  ·intro u3 Ah By j cF aY iN
   subst iN
   rw [List.length_map]at aY
   obtain⟨p,uy⟩:∃p,(hO e 8)[j]?=some p:=⟨_,List.getElem?_eq_getElem aY⟩
   have aeQ:=(RD (List.mem_of_getElem? uy)).1
   rw [show((hO e 8).map fun p=>[Value.int .i64 (p.1:Int),Value.int .i64 p.2]).getD j []=[U (p.1:Int),U p.2]from by simp [List.getD,uy]]
   refine ah ?_
   refine⟨rfl,_,_,.cons ar (Take.self _),fun h1=>?_⟩
   refine ah ?_
   refine c8 _ ae (Take.self _) ?_
   refine aN [0,1] ?_
   refine cy 2 rfl (m5 rfl rfl ae rfl al rfl) ?_
   refine bs 3 rfl (fm rfl ar ae (KB al)) ?_
   refine aN [4,5] ?_
   refine cy 6 rfl (m5 rfl rfl ae rfl al rfl) ?_
   refine aN [107] ?_
   refine lC rfl dr (iG (fN:=eG 8 (bF (pn (lm x.aG.l ((bj s).take i)) n ((hO e 8).take j)) p.1 (min ((pn (lm x.aG.l ((bj s).take i)) n ((hO e 8).take j)) p.1) n))) rfl rfl rfl ar ae (Lr (by omega)) KC) ?_
   refine c7 [99] ?_
   exact⟨[aa bw (eG 8 (bF (pn (lm x.aG.l ((bj s).take i)) n ((hO e 8).take j)) p.1 (min ((pn (lm x.aG.l ((bj s).take i)) n ((hO e 8).take j)) p.1) n))) 258,aa b9 [U n] 3],_,aC,by dsimp only;rw [TQ uy]⟩
  ·intro cF iN
   subst iN
   refine cU ?_
   exact⟨[aa ay (bJ x) 41,aa bw (eG 8 (pn (lm x.aG.l ((bj s).take i)) n ((hO e 8).take ((hO e 8).map fun p=>[Value.int .i64 (p.1:Int),Value.int .i64 p.2]).length))) 258,kD],_,aC,by dsimp only;rw [List.length_map,List.take_length,Q8 (by rw [aj,Int.toNat_natCast];exact he), ←XY cN]⟩
  intro c i aQ ak h
  exact h.elim
 ·intro c0 aQ bt
  subst bt
  simp only [List.cons_append,List.nil_append]
  refine gK ?_
  refine cM (eG 8 (lm x.aG.l ((bj s).take ((bj s).map fun n=>[Value.int .i64 n]).length))) ?_
  refine ah ?_
  refine cc (show Take [du c0] _ _ from aC) (gA rfl rfl ar ae (by rfl)) ?_
  exact bI ⟨Fo fun r bk=>by rw [List.length_map,List.take_length,KE _ _ bk],rfl⟩
 intro c0 c i aQ ak h
 obtain⟨rfl,rfl⟩:=h
 simp only [List.cons_append,List.nil_append]
 refine cW ?_
 refine cM (eG 8 (lm x.aG.l (bj s))) ?_
 refine ah ?_
 refine cc (show Take [du c0] _ _ from aC) (gA rfl rfl ar ae (by rfl)) ?_
 exact bI ⟨Fo fun r bk=>by rw [KE _ _ bk],rfl⟩
abbrev fv:=Int×Int×Int
abbrev jk(s:fv):List Value:=[U s.1,U s.2.1,U s.2.2]
abbrev uP(s:fv):Value:= .agg #[U s.1,U s.2.1,U s.2.2]
abbrev IU(e:Nat→Int):Value:= .agg #[U (e 0),U (e 1),U (e 2),U (e 3),U (e 4),U (e 5),U (e 6),U (e 7),U (e 8),U (e 9),U (e 10)]
def pt(T:Nat→Int)(cost from_:Int)(s:fv):Option fv:=
  if s.1<0∨s.1≥8∨T (3+s.1.toNat)=0∨s.2.1<from_∨s.2.1≥cost∨s.2.2≤s.2.1 then none
  else some (s.1,s.2.1,if min s.2.2 cost-s.2.1>T (3+s.1.toNat)then s.2.1+T (3+s.1.toNat)else min s.2.2 cost)
abbrev Z3(o:Option fv):Value:= .tuple #[uP (o.getD (0,0,0)),.bool o.isSome]
theorem Mf{T:Nat→Int}{cost from_:Int}{s:fv}(h:s.1<0∨s.1≥8):pt T cost from_ s=none:=by unfold pt;rw [if_pos (by omega)]
theorem CX{T:Nat→Int}{cost from_:Int}{s:fv}{j:Nat}(aY:s.1=(j:Int))(h:T (3+j)=0∨s.2.1<from_∨s.2.1≥cost∨s.2.2≤s.2.1):pt T cost from_ s=none:=by
  unfold pt;rw [aY,Int.toNat_natCast,if_pos (by omega)]
theorem Mg{T:Nat→Int}{cost from_:Int}{s:fv}{j:Nat}(aY:s.1=(j:Int))(gx:j<8)(h:¬(T (3+j)=0∨s.2.1<from_∨s.2.1≥cost∨s.2.2≤s.2.1)):
    pt T cost from_ s=some (s.1,s.2.1,if min s.2.2 cost-s.2.1>T (3+j)then s.2.1+T (3+j)else min s.2.2 cost):=by
  unfold pt;rw [if_neg (by rw [aY,Int.toNat_natCast];omega),aY,Int.toNat_natCast]
def cT(T:Nat→Int)(cost:Int):Int→Nat→List fv→List fv
  |_,_,[]=>[]
  |from_,many,s::l=>if many=8 then []else match pt T cost from_ s with
    |none=>cT T cost from_ many l
    |some c=>c::cT T cost c.2.2 (many+1) l
theorem VL{T:Nat→Int}{cost from_:Int}:∀(l:List fv),cT T cost from_ 8 l=[]
  |[]=>rfl
  |_::_=>rfl
theorem VM{T:Nat→Int}{cost from_:Int}{many:Nat}{l:List fv}{i:Nat}{s:fv}(h:l[i]?=some s)(hm:many≠8)(bg:pt T cost from_ s=none):cT T cost from_ many (l.drop i)=cT T cost from_ many (l.drop (i+1)):=by
  have ak:=(List.getElem?_eq_some_iff.1 h).1
  rw [List.drop_eq_getElem_cons ak,show l[i]=s from by rw [List.getElem?_eq_getElem ak]at h;exact Option.some.inj h]
  rw [cT,if_neg hm,bg]
theorem Mh{T:Nat→Int}{cost from_:Int}{many:Nat}{l:List fv}{i:Nat}{s c:fv}(h:l[i]?=some s)(hm:many≠8)(bg:pt T cost from_ s=some c):cT T cost from_ many (l.drop i)=c::cT T cost c.2.2 (many+1) (l.drop (i+1)):=by
  have ak:=(List.getElem?_eq_some_iff.1 h).1
  rw [List.drop_eq_getElem_cons ak,show l[i]=s from by rw [List.getElem?_eq_getElem ak]at h;exact Option.some.inj h]
  rw [cT,if_neg hm,bg]
theorem VN{T:Nat→Int}{cost from_:Int}{s c:fv}(gO:∀j,j<8→0≤T (3+j))(h:pt T cost from_ s=some c)(br:0≤from_):0≤c.2.2∧c.2.2≤cost:=by
  unfold pt at h
  split at h
  · cases h
  · simp at h;subst h
    simp only [not_or]at*
    have:=gO s.1.toNat (by omega)
    split<;>omega
theorem Z4(T:Nat→Int)(cost from_:Int)(s:fv)(gO:∀j,j<8→0≤T (3+j))(br:0≤from_)(bg:cost≤9223372036854775807):aS B 266 [IU T,U cost,U from_,uP s] [] (fun v S=>v=Z3 (pt T cost from_ s)∧S=[]):=by
 refine bD 72 Tryz.func266 fun a4 ax=>?_
 refine dt fun ay=>?_
 refine dt fun aM=>?_
 refine da fun bw=>?_
 refine cC ?_ ?_<;>intro ab
 ·refine cc (.nil _) (hc rfl rfl ar ae (by rfl) rfl) ?_
  exact bI ⟨by rw [Mf (by omega)];rfl,rfl⟩
 refine kg (t:=18) rfl (fun af=>?_) (fun af=>?_)
 ·replace af:=fb af
  refine ah ?_
  refine cc (.nil _) (hc rfl rfl ar ae (by rfl) rfl) ?_
  exact bI ⟨by rw [Mf (by omega)];rfl,rfl⟩
 replace af:=fb af
 obtain⟨j,aY⟩:=Int.eq_ofNat_of_zero_le (a:=s.1) (by omega)
 have gO:=gO j (by omega)
 refine aA (kf ae) (hw:=(.yes 18 rfl rfl rfl)) ?_
 refine aA (ed ae) (hw:=(.yes 18 rfl rfl rfl)) ?_
 refine aA (kf ae) (hw:=(.yes 18 rfl rfl rfl)) ?_
 refine aA (m7 rfl rfl ae aY (by omega) rfl) (hw:=(.yes 18 rfl rfl rfl)) ?_
 refine aA (fm rfl ar ae (zh (by omega))) (hw:=(.yes 18 rfl rfl rfl)) ?_
 refine ah ?_
 refine cC ?_ ?_<;>intro az
 ·refine cc (.nil _) (hc rfl rfl ar ae (by rfl) rfl) ?_
  exact bI ⟨by rw [CX aY (by omega)];rfl,rfl⟩
 refine cC ?_ ?_<;>intro a5
 ·refine cc (.nil _) (hc rfl rfl ar ae (by rfl) rfl) ?_
  exact bI ⟨by rw [CX aY (by omega)];rfl,rfl⟩
 refine cC ?_ ?_<;>intro cd
 ·refine cc (.nil _) (hc rfl rfl ar ae (by rfl) rfl) ?_
  exact bI ⟨by rw [CX aY (by omega)];rfl,rfl⟩
 refine aT ?_ ?_<;>intro c5
 ·refine cc (.nil _) (hc rfl rfl ar ae (by rfl) rfl) ?_
  exact bI ⟨by rw [CX aY (by omega)];rfl,rfl⟩
 refine c8 _ ae (Take.self _) ?_
 refine aN [0,1,2,3,4,5,6,7] ?_
 refine cy 8 rfl (m5 rfl rfl ae aY (by omega) rfl) ?_
 refine bs 9 rfl (fm rfl ar ae (zh (by omega))) ?_
 refine c7 [10,99] ?_
 refine aT ?_ ?_<;>intro fo
 ·refine c8 _ ae (Take.self _) ?_
  refine aN [0,1,2,3,4] ?_
  refine cy 5 rfl (m5 rfl rfl ae aY (by omega) rfl) ?_
  refine bs 6 rfl (fm rfl ar ae (zh (by omega))) ?_
  refine c7 [7,8,109,99] ?_
  refine cc (.nil _) (hc rfl rfl ar ae (by rfl) rfl) ?_
  exact bI ⟨by rw [Mg aY (by omega) (by omega),if_pos (by omega)];rfl,rfl⟩
 refine cc (.nil _) (hc rfl rfl ar ae (by rfl) rfl) ?_
 exact bI ⟨by rw [Mg aY (by omega) (by omega),if_neg (by omega)];rfl,rfl⟩
theorem Sx{L pre rest:List fv}{c:fv}{many:Nat}(h:L=pre++c::rest)(aE:pre.length=many):many<(L.map fun s=>[uP s]).length∧(L.map fun s=>[uP s]).getD many []=[uP c]:=by
  subst h aE;simp [List.getD]
theorem Z5(jG oh mA:Nat)(T:Nat→Int)(cost:Int)(l:ai fv)(aJ:c1 K l.bl (l.l.flatMap jk))(gO:∀j,j<8→0≤T (3+j))(bg:cost≤9223372036854775807):
  mW Tryz.prog B 265 [ag jG,ag oh,ag mA] [aa jG [aw l] 61,aa oh (cg T) 173,aa mA [U cost] 3,K] ((cT T cost 0 0 l.l).map fun s=>[uP s]):=by
 intro cu J gN cb gv aZ
 change dQ _ _ _ _ (aa jG [aw l] 61::aa oh (cg T) 173::aa mA [U cost] 3::K::cb) _
 refine bD 38 Tryz.func265 fun a4 ax=>?_
 refine dH (α:=Nat×Int×Nat×List (ao B)) (fun⟨i,l7,many,aP⟩=>i≤l.l.length∧0≤l7∧J many aP∧many≤8∧∃pre,cT T cost 0 0 l.l=pre++cT T cost l7 many (l.l.drop i)∧pre.length=many) (fun⟨i,l7,many,aP⟩=>[(5,U l7),(6,U (many:Int)),(13,U (i:Int)),(0,.func (.yield cu) #[] #[]),(1,ag jG),(2,ag oh),(3,ag mA),(11,aw l),(12,U (l.l.length:Int))]) (fun⟨i,l7,many,aP⟩=>aa jG [aw l] 61::aa oh (cg T) 173::aa mA [U cost] 3::K::aP) (fun⟨i,l7,many,aP⟩=>l.l.length-i) (0,0,0,cb) ?_ dD aC ?_
 ·exact⟨Nat.zero_le _,by decide,gv,by decide,[],rfl,rfl⟩
 rintro⟨i,l7,many,aP⟩ ⟨ak,rp,bt,hm,pre,h0,hlen⟩
 dsimp only
 have j9:=l.small
 refine ah ?_
 refine aT ?_ ?_<;>intro ab
 ·obtain⟨s,cN⟩:∃s,l.l[i]?=some s:=⟨_,List.getElem?_eq_getElem al⟩
  refine ah ?_
  refine aA (hN (aW:=jk) (aH:=3) (i:=i) (fun _=>rfl) rfl ar aJ ae cN) ?_
  refine da fun ay=>?_
  refine aT ?_ ?_<;>intro af
  ·have adA:many=8:=by omega
   subst adA
   exact⟨aa jG [aw l] 61::aa oh (cg T) 173::aa mA [U cost] 3::K::aP,⟨aP,rfl,.inl (by rw [List.length_map,h0,VL,List.append_nil,hlen];exact bt)⟩,_,aC⟩
  refine fL (Z4 T cost l7 s gO rp bg) ?_
  refine da fun aM=>?_
  refine aT ?_ ?_<;>intro az
  ·refine eg (i+1,l7,many,aP) ?_ ?_ ?_ ?_
   ·(try dsimp only);refine⟨by omega,rp,bt,hm,pre,?_,hlen⟩;rw [h0,VM cN al (by simpa using az)]
   ·(try dsimp only);omega
   ·refine⟨?_,?_,?_,?_,?_,?_,?_,?_,?_,trivial⟩<;>rfl
   (try dsimp only);exact⟨_,aC⟩
  obtain⟨c,qI⟩:=Option.isSome_iff_exists.1 (by simpa using az:(pt T cost l7 s).isSome=true)
  obtain⟨wI,AP⟩:=Sx (L:=cT T cost 0 0 l.l) (by rw [h0,Mh cN al qI]) hlen
  have fI:=aZ many aP wI bt
  rw [AP]at fI
  simp only [qI,Option.getD_some]
  refine ah ?_
  refine iB (own:=[aa aM (jk c) 135,aa ay (jk s) 135,aa jG [aw l] 61,aa oh (cg T) 173,aa mA [U cost] 3,K]) (hU:=aP) .no rfl rfl fI rfl ?_
  rintro og aQ aE
  refine cU ?_
  refine aT ?_ ?_<;>intro a5
  ·obtain⟨h,_⟩|⟨_,aE⟩:=aE
   ·rw [h]at a5;cases a5
   exact⟨aa jG [aw l] 61::aa oh (cg T) 173::aa mA [U cost] 3::K::aQ,⟨aQ,rfl,.inr ⟨many,wI,aE⟩⟩,_,aC⟩
  obtain⟨_,aE⟩|⟨h,_⟩:=aE
  rotate_left
  ·rw [h]at a5;cases a5
  refine ah ?_
  refine eg (i+1,c.2.2,many+1,aQ) ?_ ?_ ?_ ?_
  ·(try dsimp only);refine⟨by omega,(VN gO qI rp).1,aE,by omega,pre++[c],?_,by simp [hlen]⟩;rw [h0,Mh cN al qI,List.append_assoc];rfl
  ·(try dsimp only);omega
  ·refine⟨?_,?_,?_,?_,?_,?_,?_,?_,?_,trivial⟩<;>rfl
  (try dsimp only);exact⟨_,aC⟩
 exact⟨aa jG [aw l] 61::aa oh (cg T) 173::aa mA [U cost] 3::K::aP,⟨aP,rfl,.inl (by rw [List.length_map,h0,List.drop_of_length_le al,cT,List.append_nil,hlen];exact bt)⟩,_,aC⟩
theorem Fp{T:Nat→Int}{cost:Int}:∀(l:List fv) (from_:Int) (many:Nat),many≤8→(cT T cost from_ many l).length≤8-many
  |[],_,_,_=>by simp [cT]
  |s::l,from_,many,h=>by
    rw [cT]
    split
    · simp
    · cases bg:pt T cost from_ s with
      |none=>exact Fp l from_ many h
      |some c=>have:=Fp (T:=T) (cost:=cost) l c.2.2 (many+1) (by omega);simp only [List.length_cons];omega
theorem RF(T:Nat→Int)(cost:Int)(l:ai fv):aS B 216 [IU T,U cost,aw l] [] (fun v S=>∃jG oh mA,v= .func (.func 265) #[] #[ag jG,ag oh,ag mA]∧S=[aa jG [aw l] 61,aa oh (cg T) 173,aa mA [U cost] 3]):=by
 refine bD 8 Tryz.func216 fun a4 ax=>?_
 refine dt fun ay=>?_
 refine dt fun aM=>?_
 refine fe fun bw=>?_
 exact⟨[aa bw [aw l] 61,aa ay (cg T) 173,aa aM [U cost] 3],⟨bw,ay,aM,rfl,rfl⟩,_,aC⟩
theorem Hf(id now:Int)(T:Nat→Int)(cost:Int)(l:ai fv)(aJ:c1 K l.bl (l.l.flatMap jk))(gO:∀j,j<8→0≤T (3+j))(Pu: -9223372036854775808≤now+T 1)(aeR:now+T 1≤9223372036854775807)(bg:(min (max cost 1) (T 2))≤9223372036854775807):aS B 145 [U id,IU T,U now,U cost,aw l] [K] (fun v S=>∃x:ai fv,(x.l=cT T (min (max cost 1) (T 2)) 0 0 l.l∧x.Own)∧v= .agg #[U id,U now,U (now+T 1),U (min (max cost 1) (T 2)),U 0,aw x]∧S=[cr x 135 3 jk]++[K]):=by
 refine Ql 38 Tryz.func145 fun a4 ax=>?_
 refine dZ ?_
 refine fl ?_
 refine HR fun ay=>?_
 refine ys ae fun aM=>?_
 refine hd ?_
 refine dZ ?_
 refine fl ?_
 refine aA (dh rfl) ?_
 refine aA (dh rfl) ?_
 refine aA (dh rfl) ?_
 refine aA (kf ae) ?_
 refine aA (ed ae) ?_
 refine aA (pO rfl rfl al al) ?_
 refine aA (dh rfl) ?_
 refine aA (xY rfl rfl) ?_
 refine aA (kf ae) ?_
 refine aA (ed ae) ?_
 refine aA (GF rfl rfl) ?_
 refine aA (qj [_,_,_,_,_,_] rfl ae (by rfl)) ?_
 refine ys ae fun bw=>?_
 refine fw (hA rfl rfl rfl ar ae rfl rfl) ?_
 refine hd ?_
 refine dZ ?_
 refine dZ ?_
 refine fl ?_
 refine aA (dw rfl ar ae rfl (by rfl)) ?_
 refine aA (kf ae) ?_
 refine aA (ed ae) ?_
 refine aA (dh rfl) ?_
 refine Qj (RF T (min (max cost 1) (T 2)) l) ?_
 rintro _ _ ⟨jG,oh,mA,rfl,rfl⟩
 simp only [List.cons_append,List.nil_append]
 refine hd ?_
 refine qY ?_
 refine Kc 135 3 ?_
 refine kh (own:=[aa jG [aw l] 61,aa oh (cg T) 173,aa mA [U (min (max cost 1) (T 2))] 3,K]) (aP:=[aa bw [U id,U now,U (now+T 1),U (min (max cost 1) (T 2)),U 0,.slice none 0 0] 253,row (.slice none 0 0) 135 3 0 []]) rfl e2 (Z5 jG oh mA T _ l aJ gO bg) (fun i S=>∃a:ai fv,a.l=(cT T (min (max cost 1) (T 2)) 0 0 l.l).take i∧a.Own∧S=[aa bw [U id,U now,U (now+T 1),U (min (max cost 1) (T 2)),U 0,aw a] 253,cr a 135 3 jk]) (fun c i S=>False) (show Take ([aa jG [aw l] 61,aa oh (cg T) 173,aa mA [U (min (max cost 1) (T 2))] 3,K,aa bw [U id,U now,U (now+T 1),U (min (max cost 1) (T 2)),U 0,.slice none 0 0] 253,row (.slice none 0 0) 135 3 0 []]) _ _ from aC) (⟨ai.bG,rfl,ai.fY,rfl⟩) rfl (fun x av=>by obtain⟨y,_,rfl⟩:=List.mem_map.1 av;rfl) ?_ ?_ ?_
 ·intro cu rec jF i aQ ak bt
  obtain⟨a,aO,iT,rfl⟩:=bt
  rw [List.length_map]at ak
  obtain⟨c,cN⟩:∃c,(cT T (min (max cost 1) (T 2)) 0 0 l.l)[i]?=some c:=⟨_,List.getElem?_eq_getElem ak⟩
  have gx:=Fp (T:=T) (cost:=(min (max cost 1) (T 2))) l.l 0 0 bu
  have dB:a.l.length=i:=by rw [aO,List.length_take];omega
  rw [show((cT T (min (max cost 1) (T 2)) 0 0 l.l).map fun s=>[uP s]).getD i []=[uP c]from by simp [List.getD,cN]]
  refine fl ?_
  refine ys ae fun b9=>?_
  refine fw (hA rfl rfl rfl ar ae rfl rfl) ?_
  refine zx ?_
  refine⟨rfl,_,_,.cons ar (Take.self _),fun h1=>?_⟩
  refine qY ?_
  refine fl ?_
  refine aA (kf ae) ?_
  refine aA (ed ae) ?_
  refine aA (dw rfl ar ae rfl (by rfl)) ?_
  refine js (au:=jk c) .no rfl ae bu bu (by rfl) (by rfl) rfl rfl (fun dK=>?_)
  refine EY (K:=aa dK (jk c) 135) (news:=jk c) .no rfl rfl ae ar ar (hF) (by rfl) (by simp [Value.oneCell']) (by unfold maxLen;omega) al rfl (fun v2 AF=>?_)
  rw [Kj]
  refine Fg (fun w h=>Cp (l:=a.l++[c]) (aW:=jk) h ar (by simp)) ?_
  rintro⟨c2,gL,XZ,rfl⟩
  rw [show a.l.length+1=c2.l.length from by rw [gL];simp, ←gL]
  refine aA (kf ae) ?_
  refine fw (oB rfl rfl rfl ar ae pH) ?_
  refine zx ?_
  refine EL ?_
  exact⟨[aa bw [U id,U now,U (now+T 1),U (min (max cost 1) (T 2)),U 0,aw c2] 253,cr c2 135 3 jk],_,aC,⟨c2,by rw [gL,aO,List.take_add_one,cN];rfl,XZ,rfl⟩⟩
 ·intro c0 aQ bt
  obtain⟨a,aO,iT,rfl⟩:=bt
  rw [List.length_map,List.take_length]at aO
  simp only [List.cons_append,List.nil_append]
  refine EL ?_
  refine ik ?_
  refine dZ ?_
  refine fl ?_
  refine aA (dw rfl ar ae rfl (by rfl)) ?_
  refine fw (hA rfl rfl rfl ar ae rfl rfl) ?_
  refine hd ?_
  refine rS ?_
  refine cc (show Take [du c0] _ _ from aC) (gA rfl rfl ar ae (by rfl)) ?_
  exact⟨[cr a 135 3 jk,K],⟨a,⟨aO,iT⟩,rfl,rfl⟩,_,aC⟩
 ·intro c0 c i aQ ak h
  exact h.elim
def xR(d:Int)(c:fv):Bool:=decide (c.2.1≤d)&&decide (d<c.2.2)
def xS(d:Int)(c:fv):Bool:=decide (c.2.1<d)&&decide (d<c.2.2)
def Dj:Option fv→Int
  |some c=>c.1
  |none=> -1
theorem Mi{l:List fv}{p:fv→Bool}{i:Nat}{s:fv}(h:l[i]?=some s)(aR:(l.take i).find? p=none)(aE:p s=true):l.find? p=some s:=by
  have ak:=(List.getElem?_eq_some_iff.1 h).1
  have e:l=l.take i++s::l.drop (i+1):=by
    rw [←show l[i]=s from by rw [List.getElem?_eq_getElem ak]at h;exact Option.some.inj h, ←List.drop_eq_getElem_cons ak,List.take_append_drop]
  rw [e,List.find?_append,aR,List.find?_cons,aE];rfl
theorem CY{l:List fv}{p:fv→Bool}{i:Nat}{s:fv}(h:l[i]?=some s)(aR:(l.take i).find? p=none)(aE:p s=false):(l.take (i+1)).find? p=none:=by
  rw [List.take_add_one,h,List.find?_append,aR];simp [aE]
theorem Mj{l:List fv}{p:fv→Bool}{i:Nat}(ak:l.length≤i)(aR:(l.take i).find? p=none):l.find? p=none:=by
  rwa [List.take_of_length_le ak]at aR
abbrev Ai(id now ij cost done:Int)(a:ai fv):Value:= .agg #[U id,U now,U ij,U cost,U done,aw a]
theorem VO(id now ij cost done:Int)(a:ai fv)(aO:c1 K a.bl (a.l.flatMap jk)):aS B 257 [Ai id now ij cost done a] [K] (fun v S=>v=U (Dj (a.l.find? (xR done)))∧S=[K]):=by
 refine bD 27 Tryz.func257 fun a4 ax=>?_
 refine fe fun ay=>?_
 refine dH (α:=Nat) (fun i=>i≤a.l.length∧(a.l.take i).find? (xR done)=none) (fun i=>[(8,U (i:Int)),(1,ag ay),(6,aw a),(7,U (a.l.length:Int))]) (fun i=>[aa ay [U id,U now,U ij,U cost,U done,aw a] 253,K]) (fun i=>a.l.length-i) 0 ?_ dD aC ?_
 ·exact⟨Nat.zero_le _,rfl⟩
 rintro i ⟨ak,bP⟩
 have j9:=a.small
 refine ah ?_
 refine aT ?_ ?_<;>intro ab
 ·obtain⟨x,av⟩:∃x,a.l[i]?=some x:=⟨_,List.getElem?_eq_getElem al⟩
  refine ah ?_
  refine aA (hN (aW:=jk) (aH:=3) (i:=i) (fun _=>rfl) rfl ar aO ae av) ?_
  refine da fun aM=>?_
  refine cC ?_ ?_<;>intro af
  ·refine aT ?_ ?_<;>intro az
   ·exact bI ⟨by rw [Mi av bP (by simp [xR];omega)];rfl,rfl⟩
   exact fX (i+1) ⟨by omega,CY av bP (by simp [xR,af];omega)⟩
  exact fX (i+1) ⟨by omega,CY av bP (by simp [xR];omega)⟩
 exact bI ⟨by rw [Mj al bP];rfl,rfl⟩
theorem VP(id now ij cost done:Int)(a:ai fv)(aO:c1 K a.bl (a.l.flatMap jk)):aS B 256 [Ai id now ij cost done a] [K] (fun v S=>v=U (Dj (a.l.find? (xS done)))∧S=[K]):=by
 refine bD 27 Tryz.func256 fun a4 ax=>?_
 refine fe fun ay=>?_
 refine dH (α:=Nat) (fun i=>i≤a.l.length∧(a.l.take i).find? (xS done)=none) (fun i=>[(8,U (i:Int)),(1,ag ay),(6,aw a),(7,U (a.l.length:Int))]) (fun i=>[aa ay [U id,U now,U ij,U cost,U done,aw a] 253,K]) (fun i=>a.l.length-i) 0 ?_ dD aC ?_
 ·exact⟨Nat.zero_le _,rfl⟩
 rintro i ⟨ak,bP⟩
 have j9:=a.small
 refine ah ?_
 refine aT ?_ ?_<;>intro ab
 ·obtain⟨x,av⟩:∃x,a.l[i]?=some x:=⟨_,List.getElem?_eq_getElem al⟩
  refine ah ?_
  refine aA (hN (aW:=jk) (aH:=3) (i:=i) (fun _=>rfl) rfl ar aO ae av) ?_
  refine da fun aM=>?_
  refine cC ?_ ?_<;>intro af
  ·refine aT ?_ ?_<;>intro az
   ·exact bI ⟨by rw [Mi av bP (by simp [xS];omega)];rfl,rfl⟩
   exact fX (i+1) ⟨by omega,CY av bP (by simp [xS,af];omega)⟩
  exact fX (i+1) ⟨by omega,CY av bP (by simp [xS];omega)⟩
 exact bI ⟨by rw [Mj al bP];rfl,rfl⟩
theorem Nd(id now ij cost done:Int)(a:ai fv):aS B 217 [Ai id now ij cost done a] [] (fun v S=>v= .bool (decide (done≥cost))∧S=[]):=by
 refine bD 8 Tryz.func217 fun a4 ax=>?_
 refine fe fun ay=>?_
 exact bA
theorem X0(id now ij cost done:Int)(a:ai fv)(t:Int):aS B 259 [Ai id now ij cost done a,U t] [] (fun v S=>v= .bool (decide (t>ij))∧S=[]):=by
 refine bD 9 Tryz.func259 fun a4 ax=>?_
 refine fe fun ay=>?_
 exact bA
section
def yh(p:Nat→Bool):Nat→BitVec 32
  |0=>0#32
  |n+1=>if p n then yh p n|||ep n else yh p n
def qB(p:Nat→Bool):BitVec 32:=yh p 32
theorem E7(p:Nat→Bool):∀(n:Nat) (i:Nat),i<32→hasB (yh p n) i=(decide (i<n)&&p i)
  |0,i,_=>by simp [yh,hasB]
  |n+1,i,ak=>by
    rw [yh]
    by_cases e:i=n
    · subst e
      split
      · rename_i h;rw [sN,qV,h];simp;omega
      · rename_i h;rw [E7 p i i ak];simp at h;rw [h];simp
    · have ih:=E7 p n i ak
      split
      · rw [sN,qV,ih,decide_eq_false (show¬((n:Int)=(i:Int)∧0≤(i:Int)∧(i:Int)<32)by omega),Bool.or_false]
        congr 1;rw [Bool.eq_iff_iff];simp;omega
      · rw [ih];congr 1;rw [Bool.eq_iff_iff];simp;omega
theorem qW(p:Nat→Bool)(i:Nat)(ak:i<32):hasB (qB p) i=p i:=by
  rw [qB,E7 p 32 i ak,decide_eq_true ak,Bool.true_and]
theorem sK{p q:Nat→Bool}(h:∀i,i<32→p i=q i):qB p=qB q:=ue fun i ak=>by rw [qW _ _ ak,qW _ _ ak,h i ak]
theorem E8{p:Nat→Bool}{b:Nat}(bb:b<32):qB p|||ep b=qB fun i=>p i||decide (i=b):=ue fun i ak=>by
  rw [sN,qV,qW _ _ ak,qW _ _ ak];congr 1;rw [Bool.eq_iff_iff];simp;omega
theorem EM{p:Nat→Bool}{b:Nat}(bb:b<32):qB p&&&~~~(ep b)=qB fun i=>p i&&!decide (i=b):=ue fun i ak=>by
  rw [vx,qV,qW _ _ ak,qW _ _ ak];congr 2;rw [Bool.eq_iff_iff];simp;omega
theorem y9{p:Nat→Bool}:qB p=0#32↔∀i,i<32→p i=false:=by
  constructor
  · intro h i ak
    have:=qW p i ak
    rw [h]at this;rw [←this];simp [hasB]
  · intro h
    exact ue fun i ak=>by rw [qW _ _ ak,h i ak];simp [hasB]
def atR(r:Nat→Int)(l:Nat):BitVec 32:=qB fun n=>r n==(l:Int)+1
def qs(r:Nat→Int)(l:Nat):Bool:=(List.range 32).any fun n=>r n==(l:Int)+1
def gi(r:Nat→Int):BitVec 32:=qB (qs r)
def kH(r:Nat→Int):BitVec 32:=qB fun n=>r n !=0
def ob(r:Nat→Int):Prop:=∀n,0≤r n∧r n≤32
abbrev Hg(n:Nat)(f:Nat→BitVec 32):List Value:=oH (fun m=>aI m.toNat) n f
abbrev hW(s:BitVec 32)(a:Nat→BitVec 32)(jd:BitVec 32):List Value:=[aI s.toNat]++Hg 32 a++[aI jd.toNat]
abbrev kM(r:Nat→Int):List Value:=hW (gi r) (atR r) (kH r)
theorem aca{s jd:BitVec 32}{a:Nat→BitVec 32}{j:Nat}(h:j<32):(hW s a jd)[1+j*1]?=some (aI (a j).toNat):=by
  rw [Nat.mul_one];exact vD (sJ (n:=1) rfl (vC h))
theorem Z6{s jd v:BitVec 32}{a:Nat→BitVec 32}{j:Nat}(h:j<32):(hW s a jd).set (1+j*1) (aI v.toNat)=hW s (bF a j v) jd:=by
  rw [Nat.mul_one,xt (by simp [sI];omega),ub (n:=1) rfl];exact congrArg (· ++_) (congrArg (_++ ·) (Ki (c:=fun m:BitVec 32=>Value.int .u32 m.toNat) (v:=v)))
theorem Gr{s gZ jd Pv:BitVec 32}{a ie:Nat→BitVec 32}(ab:s=gZ)(af:∀j,j<32→a j=ie j)(az:jd=Pv):hW s a jd=hW gZ ie Pv:=by
  subst ab az;unfold hW;rw [show Hg 32 a=Hg 32 ie from Fi af]
theorem rJ{r:Nat→Int}{l:Nat}:qs r l=true↔∃n,n<32∧r n=(l:Int)+1:=by
  unfold qs;simp [List.any_eq_true]
theorem FO{r:Nat→Int}{l n:Nat}(h:n<32):hasB (atR r l) n=(r n==(l:Int)+1):=qW _ _ h
theorem KF{r:Nat→Int}{n:Nat}(h:n<32):hasB (kH r) n=(r n !=0):=qW _ _ h
theorem E9{r:Nat→Int}{l:Nat}(h:l<32):hasB (gi r) l=qs r l:=qW _ _ h
def nD(r:Nat→Int)(n:Int):Int×Bool:=if 0≤n∧n<32∧r n.toNat≠0 then(r n.toNat-1,true)else(0,false)
def qt(r:Nat→Int)(n:Int):Nat→Int:=if 0≤n∧n<32 then bF r n.toNat 0 else r
def r3(n l:Int):Bool:=decide (0≤n∧n<32∧0≤l∧l<32)
def kX(r:Nat→Int)(n l:Int):Nat→Int:=if r3 n l then bF r n.toNat (l+1)else r
theorem Sy{r:Nat→Int}{n:Int}(h:ob r):ob (qt r n):=by
  unfold qt;split
  · intro k;by_cases e:k=n.toNat
    · subst e;rw [e8];omega
    · rw [fs _ _ e];exact h k
  · exact h
theorem FP{r:Nat→Int}{n l:Int}(h:ob r):ob (kX r n l):=by
  unfold kX;split
  · rename_i aE
    simp [r3]at aE
    intro k;by_cases e:k=n.toNat
    · subst e;rw [e8];omega
    · rw [fs _ _ e];exact h k
  · exact h
theorem Mk{r:Nat→Int}{n:Nat}(h:n<32)(b0:r n≠0):nD r n=(r n-1,true):=by
  unfold nD;rw [if_pos (by rw [Int.toNat_natCast];omega),Int.toNat_natCast]
theorem TV{r:Nat→Int}{n:Int}(h:¬(0≤n∧n<32)):nD r n=(0,false):=by unfold nD;rw [if_neg (by omega)]
theorem TW{r:Nat→Int}{n:Nat}(b0:r n=0):nD r n=(0,false):=by unfold nD;rw [if_neg (by rw [Int.toNat_natCast];omega)]
theorem KG{r:Nat→Int}{n l:Nat}(a7:n<32)(bk:r n=(l:Int)+1)(j:Nat):atR (bF r n 0) j=bF (atR r) l (atR r l&&&~~~(ep n)) j:=by
 by_cases e:j=l
 ·subst e
  rw [e8,atR,atR,EM a7]
  refine sK fun i ak=>?_
  by_cases h:i=n
  ·subst h;rw [e8];simp;omega
  rw [fs _ _ h];simp [h]
 rw [fs _ _ e,atR,atR]
 refine sK fun i ak=>?_
 by_cases h:i=n
 ·subst h;rw [e8,bk,Bool.eq_iff_iff];simp;omega
 rw [fs _ _ h]
theorem RG{r:Nat→Int}{n:Nat}(a7:n<32):kH (bF r n 0)=kH r&&&~~~(ep n):=by
 rw [kH,kH,EM a7]
 refine sK fun i ak=>?_
 by_cases h:i=n
 ·subst h;rw [e8];simp
 rw [fs _ _ h];simp [h]
theorem JB{r:Nat→Int}{n l:Nat}(a7:n<32)(bk:r n=(l:Int)+1)(j:Nat):qs (bF r n 0) j=if j=l then !(atR r l&&&~~~(ep n)==0#32)else qs r j:=by
 have key:qs (bF r n 0) l=!(atR r l&&&~~~(ep n)==0#32):=by
  have e:=KG a7 bk l
  rw [e8]at e
  rw [←e,Bool.eq_iff_iff]
  simp only [Bool.not_eq_true',beq_eq_false_iff_ne,ne_eq]
  rw [rJ,atR,y9]
  constructor
  ·rintro⟨k,ab,af⟩ h
   have:=h k ab
   rw [af]at this;simp at this
  intro h
  apply Classical.byContradiction
  intro eW
  apply h
  intro i ak
  rw [beq_eq_false_iff_ne]
  intro af;exact eW ⟨i,ak,af⟩
 split
 ·rename_i e;rw [e];exact key
 rename_i e
 rw [Bool.eq_iff_iff,rJ,rJ]
 constructor
 ·rintro⟨k,ab,af⟩
  by_cases h:k=n
  ·subst h;rw [e8]at af;omega
  rw [fs _ _ h]at af;exact⟨k,ab,af⟩
 rintro⟨k,ab,af⟩
 refine⟨k,ab,?_⟩
 by_cases h:k=n
 ·subst h;omega
 rw [fs _ _ h];exact af
theorem JC{r:Nat→Int}{n l:Nat}(a7:n<32)(aJ:l<32)(bk:r n=(l:Int)+1):gi (bF r n 0)=if atR r l&&&~~~(ep n)=0#32 then gi r&&&~~~(ep l)else gi r:=by
 have sl:qs r l=true:=rJ.2 ⟨n,a7,bk⟩
 split
 ·rename_i h
  rw [gi,gi,EM aJ]
  refine sK fun i ak=>?_
  rw [JB a7 bk,h]
  by_cases e:i=l
  ·simp [e]
  simp [e]
 rename_i h
 refine sK fun i ak=>?_
 rw [JB a7 bk]
 by_cases e:i=l
 ·rw [if_pos e,e,sl];simpa using h
 rw [if_neg e]
theorem TX{r:Nat→Int}{n l:Nat}(a7:n<32)(bk:r n=0)(j:Nat):atR (bF r n ((l:Int)+1)) j=bF (atR r) l (atR r l|||ep n) j:=by
 by_cases e:j=l
 ·subst e
  rw [e8,atR,atR,E8 a7]
  refine sK fun i ak=>?_
  by_cases h:i=n
  ·subst h;rw [e8];simp
  rw [fs _ _ h];simp [h]
 rw [fs _ _ e,atR,atR]
 refine sK fun i ak=>?_
 by_cases h:i=n
 ·subst h;rw [e8,bk,Bool.eq_iff_iff];simp;omega
 rw [fs _ _ h]
theorem Sz{r:Nat→Int}{n:Nat}{l:Int}(a7:n<32)(aJ:0≤l):kH (bF r n (l+1))=kH r|||ep n:=by
 rw [kH,kH,E8 a7]
 refine sK fun i ak=>?_
 by_cases h:i=n
 ·subst h;rw [e8];simp;omega
 rw [fs _ _ h];simp [h]
theorem RH{r:Nat→Int}{n l:Nat}(a7:n<32)(aJ:l<32)(bk:r n=0):gi (bF r n ((l:Int)+1))=gi r|||ep l:=by
 rw [gi,gi,E8 aJ]
 refine sK fun j aY=>?_
 rw [Bool.eq_iff_iff]
 simp only [Bool.or_eq_true,decide_eq_true_eq]
 rw [rJ,rJ]
 constructor
 ·rintro⟨k,ab,af⟩
  by_cases h:k=n
  ·subst h;rw [e8]at af;exact .inr al
  rw [fs _ _ h]at af;exact .inl ⟨k,ab,af⟩
 rintro(⟨k,ab,af⟩|h)
 ·refine⟨k,ab,?_⟩
  by_cases h:k=n
  ·subst h;omega
  rw [fs _ _ h];exact af
 exact⟨n,a7,by rw [e8,h]⟩
theorem VQ{r:Nat→Int}{n:Int}(bk:ob r)(h:hasB (kH r) n=false):nD r n=(0,false):=by
  by_cases a7:0≤n∧n<32
  · obtain⟨k,rfl⟩:=Int.eq_ofNat_of_zero_le a7.1
    rw [KF (by omega)]at h
    exact TW (by simpa using h)
  · exact TV a7
theorem RI{r:Nat→Int}{k:Nat}(bk:ob r)(aj:k<32)(b0:r k≠0)(h:∀j l:Nat,j<(bj (gi r)).length→(bj (gi r))[j]?=some (l:Int)→r k≠(l:Int)+1):False:=by
  have ab:=bk k
  obtain⟨l,aJ⟩:=Int.eq_ofNat_of_zero_le (a:=r k-1) (by omega)
  have hm:(l:Int)∈bj (gi r):=lO.2 ⟨by omega,by omega,by rw [E9 (by omega)];exact rJ.2 ⟨k,aj,by omega⟩⟩
  obtain⟨j,aY,e⟩:=List.getElem_of_mem hm
  exact h j l aY (by rw [List.getElem?_eq_getElem aY,e]) (by omega)
theorem TY{r:Nat→Int}{n:Int}(bk:ob r)(h:(nD r n).2=true):∃k l:Nat,n=(k:Int)∧k<32∧l<32∧r k=(l:Int)+1∧(nD r n).1=(l:Int):=by
  unfold nD at h⊢
  split at h
  · rename_i bg
    obtain⟨k,rfl⟩:=Int.eq_ofNat_of_zero_le bg.1
    rw [Int.toNat_natCast]at bg
    have:=bk k
    obtain⟨l,aJ⟩:=Int.eq_ofNat_of_zero_le (a:=r k-1) (by omega)
    exact⟨k,l,rfl,by omega,by omega,by omega,by rw [if_pos (by rw [Int.toNat_natCast];exact bg),Int.toNat_natCast];omega⟩
  · cases h
theorem VR{r:Nat→Int}{k:Nat}{v:Int}(h:r k=v):bF r k v=r:=by
  funext j;by_cases e:j=k
  · subst e;rw [e8,h]
  · rw [fs _ _ e]
theorem Le{r:Nat→Int}{k:Nat}{v w:Int}:bF (bF r k v) k w=bF r k w:=by
  funext j;by_cases e:j=k
  · subst e;rw [e8,e8]
  · rw [fs _ _ e,fs _ _ e,fs _ _ e]
theorem TZ{r:Nat→Int}{n:Int}(h:(nD r n).2=false):qt r n=r:=by
 unfold qt
 split
 ·rename_i a7
  obtain⟨k,rfl⟩:=Int.eq_ofNat_of_zero_le a7.1
  rw [Int.toNat_natCast]
  refine VR ?_
  apply Classical.byContradiction
  intro b0
  rw [Mk al b0]at h;cases h
 rfl
theorem FQ{r:Nat→Int}{k:Nat}(h:k<32):qt r k=bF r k 0:=by unfold qt;rw [if_pos (by omega),Int.toNat_natCast]
theorem uq{r:Nat→Int}{n l:Int}(h:¬(0≤n∧n<32∧0≤l∧l<32)):r3 n l=false∧kX r n l=r:=by
  have:r3 n l=false:=by simp [r3];omega
  exact⟨this,by unfold kX;rw [this];rfl⟩
theorem Ml{r:Nat→Int}{k j:Nat}(aj:k<32)(aY:j<32):r3 k j=true∧kX r k j=bF r k ((j:Int)+1):=by
  have:r3 k j=true:=by simp [r3];omega
  exact⟨this,by unfold kX;rw [this,Int.toNat_natCast];rfl⟩
theorem T0{r:Nat→Int}{k l:Nat}(aj:k<32)(aJ:l<32)(bk:r k=(l:Int)+1):kM (qt r k)=hW (gi (bF r k 0)) (bF (atR r) l (atR r l&&&~~~(ep k))) (kH r&&&~~~(ep k)):=by
  rw [FQ aj];exact Gr rfl (fun j _=>KG aj bk j) (RG aj)
theorem VS{r:Nat→Int}{k j:Nat}(aj:k<32)(aY:j<32):kM (kX r k j)=hW (gi (bF r k 0)|||ep j) (bF (atR (bF r k 0)) j (atR (bF r k 0) j|||ep k)) (kH (bF r k 0)|||ep k):=by
  rw [(Ml aj aY).2, ←Le (v:=0)]
  exact Gr (RH aj aY (e8 _ _ _)) (fun i _=>TX aj (e8 _ _ _) i) (Sz aj (by omega))
theorem T1:kM (fun _=>0)=hW 0#32 (fun _=>0#32) 0#32:=
  Gr (y9.2 fun i _=>by cases h:qs (fun _=>0) i with
    |false=>rfl
    |true=>obtain⟨n,_,af⟩:=rJ.1 h;have az:(0:Int)=(i:Int)+1:=af;omega) (fun j _=>y9.2 fun i _=>by rw [beq_eq_false_iff_ne];show(0:Int)≠(j:Int)+1;omega) (y9.2 fun i _=>by simp)
def qu(r:Nat→Int)(l n:Nat):List (Int×Int):=((List.range n).filter fun k=>r k==(l:Int)+1).map fun(k:Nat)=>((k:Int),(l:Int))
def uz(r:Nat→Int)(m:Nat):List (Int×Int):=(List.range m).flatMap fun l=>qu r l 32
abbrev goes(r:Nat→Int):List (Int×Int):=uz r 32
theorem T2(r:Nat→Int)(l n:Nat):qu r l (n+1)=qu r l n++(if r n=(l:Int)+1 then [((n:Int),(l:Int))]else []):=by
  unfold qu;rw [List.range_succ,List.filter_append,List.map_append]
  by_cases h:r n=(l:Int)+1
  · rw [if_pos h];simp [h]
  · rw [if_neg h];simp [h]
theorem T3(r:Nat→Int)(m:Nat):uz r (m+1)=uz r m++qu r m 32:=by
  unfold uz;rw [List.range_succ,List.flatMap_append];simp
theorem B6{r:Nat→Int}{l n:Nat}{p:Int×Int}:p∈qu r l n↔∃k:Nat,k<n∧r k=(l:Int)+1∧p=((k:Int),(l:Int)):=by
  unfold qu;simp only [List.mem_map,List.mem_filter,List.mem_range,beq_iff_eq]
  constructor
  · rintro⟨k,⟨ab,af⟩,rfl⟩;exact⟨k,ab,af,rfl⟩
  · rintro⟨k,ab,af,rfl⟩;exact⟨k,⟨ab,af⟩,rfl⟩
theorem Fq{r:Nat→Int}(bk:ob r){p:Int×Int}:p∈goes r↔∃k:Nat,k<32∧r k≠0∧p=((k:Int),r k-1):=by
  unfold goes uz
  simp only [List.mem_flatMap,List.mem_range,B6]
  constructor
  · rintro⟨l,ab,k,af,az,rfl⟩;exact⟨k,af,by omega,by rw [az];simp⟩
  · rintro⟨k,ab,af,rfl⟩
    have:=bk k
    obtain⟨l,aJ⟩:=Int.eq_ofNat_of_zero_le (a:=r k-1) (by omega)
    exact⟨l,by omega,k,ab,by omega,by rw [aJ]⟩
theorem QC{α β:Type}{l:List α}{p:α→Bool}{g:α→List β}(h:∀x∈l,p x=false→g x=[]):(l.filter p).flatMap g=l.flatMap g:=by
  induction l with
  |nil=>rfl
  |cons x l ih=>
    rw [List.flatMap_cons,List.filter_cons]
    have ih:=ih fun y aZ=>h y (List.mem_cons_of_mem _ aZ)
    cases aE:p x with
    |true=>simp [ih]
    |false=>rw [h x (List.mem_cons_self ..) aE];simpa using ih
abbrev rowOf(r:Nat→Int)(l:Int):List (Int×Int):=(bj (atR r l.toNat)).map fun n=>(n,l)
theorem QS(r:Nat→Int)(l:Nat):rowOf r l=qu r l 32:=by
  unfold rowOf bj nU qu
  rw [List.map_map,Int.toNat_natCast]
  rw [List.filter_congr (p:=fun(i:Nat)=>hasB (atR r l) (i:Int)) (q:=fun k=>r k==(l:Int)+1) (fun k aj=>FO (List.mem_range.1 aj))]
  rfl
theorem JX(r:Nat→Int):(bj (gi r)).flatMap (rowOf r)=goes r:=by
 unfold goes uz
 have e:bj (gi r)=((List.range 32).filter fun l=>qs r l).map fun(l:Nat)=>(l:Int):=by
  unfold bj nU
  rw [List.filter_congr (q:=fun l=>qs r l) (fun k aj=>E9 (List.mem_range.1 aj))]
 rw [e,List.flatMap_map]
 rw [show(fun(l:Nat)=>rowOf r (l:Int))=fun l=>qu r l 32 from funext fun l=>QS r l]
 refine QC fun l _ br=>?_
 unfold qu
 rw [List.filter_eq_nil_iff.2 fun k aj=>?_]
 ·rfl
 intro h
 have:qs r l=true:=rJ.2 ⟨k,List.mem_range.1 aj,by simpa using h⟩
 rw [br]at this;cases this
def iC(r:Nat→Int):Int×Bool:=match goes r with
  |[]=>(0,false)
  |p::_=>(p.1,true)
theorem RJ{r:Nat→Int}(h:gi r=0#32):goes r=[]:=by rw [←JX,h,JV];rfl
theorem Nf{r:Nat→Int}{l:Nat}(aJ:l<32)(h:hasB (gi r) l=true):atR r l≠0#32:=by
  rw [E9 aJ]at h
  obtain⟨n,ab,af⟩:=rJ.1 h
  intro b0
  have:=y9.1 b0 n ab
  rw [af]at this;simp at this
theorem RK{r:Nat→Int}(h:gi r≠0#32):∃t,goes r=((ir (atR r (ir (gi r))):Int),(ir (gi r):Int))::t:=by
  have ab:=Nf (tV h).1 (tV h).2.1
  rw [←JX,E5 h,List.flatMap_cons]
  unfold rowOf
  rw [Int.toNat_natCast,E5 ab]
  exact⟨_,rfl⟩
section
variable{gf g0:List Value}{s jd:BitVec 32}{a:Nat→BitVec 32}
theorem sV(s jd:BitVec 32)(a:Nat→BitVec 32):(hW s a jd).length=34:=by simp [sI]
theorem Cx(eL:gf.length=97):(gf++(hW s a jd++g0))[97]?=some (aI s.toNat):=by
  have:=sJ (k:=0) eL (vD (cO:=g0) (show(hW s a jd)[0]?=some (aI s.toNat)from rfl));simpa using this
theorem zY(eL:gf.length=97){j:Nat}(h:j<32):(gf++(hW s a jd++g0))[98+j*1]?=some (aI (a j).toNat):=by
  have:=sJ eL (vD (cO:=g0) (aca (s:=s) (jd:=jd) (a:=a) h))
  rwa [show 97+(1+j*1)=98+j*1 by omega]at this
theorem X1:(hW s a jd)[33]?=some (aI jd.toNat):=by
  unfold hW;exact sJ (n:=33) (k:=0) (by simp [sI]) rfl
theorem Gs(eL:gf.length=97):(gf++(hW s a jd++g0))[130]?=some (aI jd.toNat):=
  sJ (k:=33) eL (vD X1)
theorem Ls(eL:gf.length=97)(v:BitVec 32):(gf++(hW s a jd++g0)).set 97 (aI v.toNat)=gf++(hW v a jd++g0):=by
  have:=ub (k:=0) (v:=aI v.toNat) (cO:=hW s a jd++g0) eL
  rw [Nat.add_zero]at this;rw [this];rfl
theorem Lt(eL:gf.length=97){j:Nat}(h:j<32)(v:BitVec 32):(gf++(hW s a jd++g0)).set (98+j*1) (aI v.toNat)=gf++(hW s (bF a j v) jd++g0):=by
  have:=ub (k:=1+j*1) (v:=aI v.toNat) (cO:=hW s a jd++g0) eL
  rw [show 97+(1+j*1)=98+j*1 by omega]at this
  rw [this,xt (by rw [sV];omega),Z6 h]
theorem Lu(eL:gf.length=97)(v:BitVec 32):(gf++(hW s a jd++g0)).set 130 (aI v.toNat)=gf++(hW s a v++g0):=by
  have:=ub (k:=33) (v:=aI v.toNat) (cO:=hW s a jd++g0) eL
  rw [show 97+33=130 from rfl]at this
  rw [this,xt (by rw [sV];omega)]
  congr 2
theorem x2(eL:gf.length=97){k:Nat}(h:k<131):Nat.blt k (gf++(hW s a jd++g0)).length=true:=by
  rw [List.length_append,List.length_append,sV,eL];simp;omega
end
theorem VT(q dF:Nat)(gf g0:List Value)(eL:gf.length=97)(r:Nat→Int)(bk:ob r)(n:Int)(bc:dL K):aS B 283 [.pointer (some ⟨q,97,none⟩),U n] [aa q (gf++(kM r++g0)) dF,K] (fun v S=>v= .tuple #[U (nD r n).1,.bool (nD r n).2]∧S=[aa q (gf++(kM r++g0)) dF,K]):=by
 refine bD 29 Tryz.func283 fun a4 ax=>?_
 refine dt fun ay=>?_
 refine dt fun aM=>?_
 refine ds fun bw=>?_
 refine da fun b9=>?_
 refine c8 _ ae (Take.self _) ?_
 refine aN [0,1,2] ?_
 refine bs 3 rfl (fm rfl ar ae (Gs eL)) ?_
 refine aN [4,105] ?_
 refine gu (re (kH r) n) ?_
 refine c7 [6,99] ?_
 refine bX ?_ ?_<;>intro ab
 ·refine ah ?_
  refine cc (.nil _) (xN rfl rfl rfl ar ar ae ae) ?_
  exact bI ⟨by rw [show nD r n=(0,false)from VQ bk ab],rfl⟩
 have Z7:0≤n∧n<32:=by
  apply Classical.byContradiction;intro eJ;rw [vF _ _ eJ]at ab;cases ab
 obtain⟨k,rfl⟩:=Int.eq_ofNat_of_zero_le Z7.1
 have aj:k<32:=by omega
 have D7:=bk k
 have Pw:r k≠0:=by rw [KF aj]at ab;simpa using ab
 refine kk ?_
 refine ik ?_
 refine dZ ?_
 refine dZ ?_
 refine fl ?_
 refine aA (ed ae) ?_
 refine aA (rO rfl) ?_
 refine aA (kf ae) ?_
 refine aA (fm rfl ar ae (Cx eL)) ?_
 refine cA (ps (gi r)) ?_
 rintro _ _ ⟨jG,rfl,rfl⟩
 refine cU ?_
 refine kh (own:=[aa jG [aI (gi r).toNat] 158,K]) (aP:=[aa ay [.pointer (some ⟨q,97,none⟩)] 423,aa aM [U (k:Int)] 3,aa bw [U 0] 3,aa b9 [.bool false] 4,aa q (gf++(kM r++g0)) dF]) rfl e2 (pg jG (gi r) bc) (fun i S=>(∀j l:Nat,j<i→(bj (gi r))[j]?=some (l:Int)→r k≠(l:Int)+1)∧S=[aa ay [.pointer (some ⟨q,97,none⟩)] 423,aa aM [U (k:Int)] 3,aa bw [U 0] 3,aa b9 [.bool false] 4,aa q (gf++(kM r++g0)) dF]) (fun c i S=>c= .ret∧S=[aa ay [.pointer (some ⟨q,97,none⟩)] 423,aa aM [U (k:Int)] 3,aa bw [U (r k-1)] 3,aa b9 [.bool true] 4,aa q (gf++(kM r++g0)) dF]) (show Take ([aa jG [aI (gi r).toNat] 158,K,aa ay [.pointer (some ⟨q,97,none⟩)] 423,aa aM [U (k:Int)] 3,aa bw [U 0] 3,aa b9 [.bool false] 4,aa q (gf++(kM r++g0)) dF]) _ _ from aC) (⟨fun j l h=>by omega,rfl⟩) rfl (fun x av=>by obtain⟨y,_,rfl⟩:=List.mem_map.1 av;rfl) ?_ ?_ ?_
 ·intro cu rec jF i aQ ak bt
  obtain⟨bP,rfl⟩:=bt
  rw [List.length_map]at ak
  obtain⟨m,cN⟩:∃m,(bj (gi r))[i]?=some m:=⟨_,List.getElem?_eq_getElem ak⟩
  have hm:=lO.1 (List.mem_of_getElem? cN)
  obtain⟨l,aJ⟩:=Int.eq_ofNat_of_zero_le hm.1
  rw [m6 cN]
  refine ah ?_
  refine⟨rfl,_,_,.cons ar (Take.self _),fun h1=>?_⟩
  refine ah ?_
  refine c8 _ ae (Take.self _) ?_
  refine aN [0,1,2,3] ?_
  refine cy 4 rfl (m5 rfl rfl ae aJ al rfl) ?_
  refine bs 5 rfl (fm rfl ar ae (zY eL al)) ?_
  refine aN [6,107] ?_
  refine gu (re (atR r l) k) ?_
  refine c7 [99] ?_
  refine aT ?_ ?_<;>intro af
  ·exact⟨[aa ay [.pointer (some ⟨q,97,none⟩)] 423,aa aM [U (k:Int)] 3,aa bw [U m] 3,aa b9 [.bool true] 4,aa q (gf++(kM r++g0)) dF],_,aC,⟨rfl,by rw [FO aj]at af;simp at af;rw [show m=r k-1 by omega]⟩⟩
  exact⟨[aa ay [.pointer (some ⟨q,97,none⟩)] 423,aa aM [U (k:Int)] 3,aa bw [U 0] 3,aa b9 [.bool false] 4,aa q (gf++(kM r++g0)) dF],_,aC,⟨fun j qT aY bh=>by rcases Nat.lt_succ_iff_lt_or_eq.1 aY with h|rfl;exact bP j qT h bh;rw [cN]at bh;have:=Option.some.inj bh;rw [FO aj]at af;simp at af;omega,rfl⟩⟩
 ·intro c0 aQ bt
  obtain⟨bP,rfl⟩:=bt
  refine cU ?_
  refine cc (show Take [du c0] _ _ from aC) (xN rfl rfl rfl ar ar ae ae) ?_
  exfalso
  exact RI bk aj Pw (by rw [List.length_map]at bP;exact bP)
 intro c0 c i aQ ak h
 obtain⟨rfl,rfl⟩:=h
 refine cU ?_
 refine cc (show Take [du c0] _ _ from aC) (xN rfl rfl rfl ar ar ae ae) ?_
 exact bI ⟨by rw [Mk aj Pw],rfl⟩
theorem Ng(q dF:Nat)(gf g0:List Value)(eL:gf.length=97)(r:Nat→Int)(bk:ob r)(n:Int)(bc:dL K):aS B 261 [.pointer (some ⟨q,97,none⟩),U n] [aa q (gf++(kM r++g0)) dF,K] (fun v S=>v= .bool (nD r n).2∧S=[aa q (gf++(kM (qt r n)++g0)) dF,K]):=by
 refine bD 53 Tryz.func261 fun a4 ax=>?_
 refine sj (VT q dF gf g0 eL r bk n bc) ?_
 refine ct ?_
 refine bH (U (nD r n).1) ?_
 refine bH (.bool (nD r n).2) ?_
 refine ah ?_
 refine aT ?_ ?_<;>intro ab
 ·exact bI ⟨by rw [ab],by rw [TZ ab]⟩
 obtain⟨k,l,rfl,aj,aJ,D7,l0⟩:=TY bk ab
 rw [l0]
 refine ah ?_
 refine c8 _ ae (Take.self _) ?_
 refine aN [0,1,2,3,4,5] ?_
 refine cy 6 rfl (m5 rfl rfl ae rfl al rfl) ?_
 refine bs 7 rfl (fm rfl ar ae (zY eL al)) ?_
 refine aN [8,10,11,109] ?_
 refine gu (Ce (atR r l) k) ?_
 refine cy 12 rfl (m5 rfl rfl ae rfl al rfl) ?_
 refine aN [113] ?_
 refine lC rfl dr (iG (k:=98+l*1) (fN:=gf++(hW (gi r) (bF (atR r) l (atR r l&&&~~~(ep k))) (kH r)++g0)) rfl rfl rfl ar ae (x2 eL (by omega)) (Lt eL (by omega) _)) ?_
 refine aN [99] ?_
 refine ct ?_
 refine k5 (α:=BitVec 32) (fun yU=>yU=gi (bF r k 0)) (fun yU=>[(0,.pointer (some ⟨q,97,none⟩)),(1,U (k:Int))]) (fun yU=>[aa q (gf++(hW yU (bF (atR r) l (atR r l&&&~~~(ep k))) (kH r)++g0)) dF,K]) ?_ ?_
 ·skip
  refine iW ?_
  refine aA (fm rfl ar ae ((zY eL al).trans (by rw [e8]))) ?_
  refine ah ?_
  refine bX ?_ ?_<;>intro af
  ·refine cW ?_
   refine aA (fm rfl ar ae (Cx eL)) ?_
   refine ah ?_
   refine fL (Ce (gi r) l) ?_
   refine fw (iG (k:=97) (fN:=gf++(hW (gi r&&&~~~(ep l)) (bF (atR r) l (atR r l&&&~~~(ep k))) (kH r)++g0)) rfl rfl rfl ar ae (x2 eL al) (Ls eL _)) ?_
   refine ah ?_
   refine fj (gi r&&&~~~(ep l)) ?_
   rw [JC aj aJ D7,if_pos (Jy af)]
  refine ah ?_
  refine fj (gi r) ?_
  rw [JC aj aJ D7,if_neg (Jz af)]
 intro yU j9
 refine ho ?_
 refine aA (fm rfl ar ae (Gs eL)) ?_
 refine ah ?_
 refine fL (Ce (kH r) k) ?_
 refine fw (iG (k:=130) (fN:=gf++(hW yU (bF (atR r) l (atR r l&&&~~~(ep k))) (kH r&&&~~~(ep k))++g0)) rfl rfl rfl ar ae (x2 eL al) (Lu eL _)) ?_
 refine ah ?_
 rw [j9, ←T0 aj aJ D7]
 exact bI ⟨by rw [ab],rfl⟩
theorem Z8(q dF:Nat)(gf g0:List Value)(eL:gf.length=97)(r:Nat→Int)(bk:ob r)(n l:Int)(bc:dL K):aS B 252 [.pointer (some ⟨q,97,none⟩),U n,U l] [aa q (gf++(kM r++g0)) dF,K] (fun v S=>v= .bool (r3 n l)∧S=[aa q (gf++(kM (kX r n l)++g0)) dF,K]):=by
 refine bD 55 Tryz.func252 fun a4 ax=>?_
 refine cC ?_ ?_<;>intro ab
 ·exact bI ⟨by rw [(uq (r:=r) al).1],by rw [(uq (r:=r) al).2]⟩
 refine cC ?_ ?_<;>intro af
 ·exact bI ⟨by rw [(uq (r:=r) al).1],by rw [(uq (r:=r) al).2]⟩
 refine cC ?_ ?_<;>intro az
 ·exact bI ⟨by rw [(uq (r:=r) al).1],by rw [(uq (r:=r) al).2]⟩
 refine aT ?_ ?_<;>intro a5
 ·exact bI ⟨by rw [(uq (r:=r) al).1],by rw [(uq (r:=r) al).2]⟩
 obtain⟨k,rfl⟩:=Int.eq_ofNat_of_zero_le (a:=n) al
 obtain⟨j,rfl⟩:=Int.eq_ofNat_of_zero_le (a:=l) al
 have aj:k<32:=by omega
 have aY:j<32:=by omega
 refine ah ?_
 refine dA (Ng q dF gf g0 eL r bk k bc) ?_
 rw [FQ aj]
 refine ah ?_
 refine c8 _ ae (Take.self _) ?_
 refine aN [0,1,2,3,4,5] ?_
 refine cy 6 rfl (m5 rfl rfl ae rfl al rfl) ?_
 refine bs 7 rfl (fm rfl ar ae (zY eL al)) ?_
 refine aN [8,10,11,109] ?_
 refine gu (s0 (atR (bF r k 0) j) k) ?_
 refine cy 12 rfl (m5 rfl rfl ae rfl al rfl) ?_
 refine aN [113] ?_
 refine lC rfl dr (iG (k:=98+j*1) (fN:=gf++(hW (gi (bF r k 0)) (bF (atR (bF r k 0)) j (atR (bF r k 0) j|||ep k)) (kH (bF r k 0))++g0)) rfl rfl rfl ar ae (x2 eL (by omega)) (Lt eL (by omega) _)) ?_
 refine aN [99] ?_
 refine iW ?_
 refine aA (fm rfl ar ae (Cx eL)) ?_
 refine ah ?_
 refine fL (s0 (gi (bF r k 0)) j) ?_
 refine fw (iG (k:=97) (fN:=gf++(hW (gi (bF r k 0)|||ep j) (bF (atR (bF r k 0)) j (atR (bF r k 0) j|||ep k)) (kH (bF r k 0))++g0)) rfl rfl rfl ar ae (x2 eL al) (Ls eL _)) ?_
 refine iW ?_
 refine aA (fm rfl ar ae (Gs eL)) ?_
 refine ah ?_
 refine fL (s0 (kH (bF r k 0)) k) ?_
 refine fw (iG (k:=130) (fN:=gf++(hW (gi (bF r k 0)|||ep j) (bF (atR (bF r k 0)) j (atR (bF r k 0) j|||ep k)) (kH (bF r k 0)|||ep k)++g0)) rfl rfl rfl ar ae (x2 eL al) (Lu eL _)) ?_
 refine ah ?_
 rw [←VS aj aY]
 exact bI ⟨by rw [(Ml (r:=r) aj aY).1],rfl⟩
theorem Mm(q dF:Nat)(gf g0:List Value)(eL:gf.length=97)(r:Nat→Int)(bk:ob r)(bc:dL K):aS B 255 [.pointer (some ⟨q,97,none⟩)] [aa q (gf++(kM r++g0)) dF,K] (fun v S=>v= .tuple #[U (iC r).1,.bool (iC r).2]∧S=[aa q (gf++(kM r++g0)) dF,K]):=by
 refine dn 25 Tryz.func255 fun a4 ax=>?_
 refine uM ?_
 refine aA (fm rfl ar ae (Cx eL)) ?_
 refine sj (Md (gi r) bc) ?_
 refine ct ?_
 refine bH (U (if gi r=0#32 then 0 else(ir (gi r):Int))) ?_
 refine bH (.bool (decide (gi r≠0#32))) ?_
 refine ah ?_
 refine bX ?_ ?_<;>intro ab
 ·have aB:gi r=0#32:=by simpa using ab
  refine ah ?_
  exact bI ⟨by rw [iC,RJ aB],rfl⟩
 have aB:gi r≠0#32:=by simpa using ab
 obtain⟨AB,sh,Px⟩:=tV aB
 have sm:=Nf AB sh
 obtain⟨aft,bh⟩:=RK aB
 rw [if_neg aB]
 refine kk ?_
 refine ik ?_
 refine dZ ?_
 refine fl ?_
 refine aA (dh rfl) ?_
 refine aA (dh rfl) ?_
 refine aA (rO rfl) ?_
 refine aA (kf ae) ?_
 refine aA (m7 rfl rfl ae rfl al rfl) ?_
 refine aA (fm rfl ar ae (zY eL al)) ?_
 refine sj (Md (atR r (ir (gi r))) bc) ?_
 rw [if_neg sm,decide_eq_true sm]
 refine ah ?_
 exact bI ⟨by rw [iC,bh];rfl,rfl⟩
end
theorem JY{α:Type}{aW:α→List Value}{aH:Nat}(he:∀a,(aW a).length=aH):∀(l:List α) (i k:Nat) (a b:α) (v:Value),l[i]?=some a→k<aH→(aW a).set k v=aW b→(l.flatMap aW).set (i*aH+k) v=(l.set i b).flatMap aW
  |[],_,_,_,_,_,h,_,_=>by simp at h
  |c::l,0,k,a,b,v,h,aj,aB=>by
    simp at h;subst h
    rw [List.flatMap_cons,Nat.zero_mul,Nat.zero_add,List.set_append_left _ _ (by rw [he];exact aj),aB];rfl
  |c::l,i+1,k,a,b,v,h,aj,aB=>by
    rw [List.flatMap_cons,List.set_append_right _ _ (by rw [he,Nat.succ_mul];omega),he,show(i+1)*aH+k-aH=i*aH+k by rw [Nat.succ_mul];omega,JY he l i k a b v (by simpa using h) aj aB];rfl
theorem JZ{α:Type}{aW:α→List Value}{aH:Nat}(he:∀a,(aW a).length=aH):∀(l:List α) (i:Nat) (a b:α),l[i]?=some a→(l.flatMap aW).take (i*aH)++aW b++(l.flatMap aW).drop (i*aH+aH)=(l.set i b).flatMap aW
  |[],_,_,_,h=>by simp at h
  |c::l,0,a,b,h=>by
    rw [List.flatMap_cons,Nat.zero_mul,Nat.zero_add,List.take_zero,List.nil_append]
    conv=>lhs;rw [←he c,List.drop_left]
    rfl
  |c::l,i+1,a,b,h=>by
    have ak:(i+1)*aH=(aW c).length+i*aH:=by rw [he,Nat.succ_mul,Nat.add_comm]
    rw [List.flatMap_cons,ak,List.take_length_add_append,show(aW c).length+i*aH+aH=(aW c).length+(i*aH+aH)by omega,List.drop_length_add_append,List.append_assoc,List.append_assoc, ←List.append_assoc ((l.flatMap aW).take (i*aH)),JZ he l i a b (by simpa using h)];rfl
theorem zi{α:Type}{n i:Nat}{f:Nat→α}(h:i<n):((List.range n).map f)[i]?=some (f i):=by simp [h]
theorem KH{α:Type}{n i:Nat}{f:Nat→α}{b:α}:((List.range n).map f).set i b=(List.range n).map (bF f i b):=by
  apply List.ext_getElem?;intro j
  by_cases aY:j<n
  · by_cases e:i=j
    · subst e;simp [aY,bF]
    · rw [List.getElem?_set_ne e,zi aY,zi aY,fs _ _ (Ne.symm e)]
  · rw [List.getElem?_eq_none (by simp;omega),List.getElem?_eq_none (by simp;omega)]
structure fy where
  id:Int
  rel:Int
  ij:Int
  cost:Int
  done:Int
  cT:ai fv
abbrev jy(j:fy):List Value:=[U j.id,U j.rel,U j.ij,U j.cost,U j.done,aw j.cT]
abbrev fy.v(j:fy):Value:=Ai j.id j.rel j.ij j.cost j.done j.cT
abbrev zZ(aF:Nat→fy):List Value:=((List.range 16).map aF).flatMap jy
theorem Cf:∀j:fy,(jy j).length=6:=fun _=>rfl
theorem zj(aF:Nat→fy):(zZ aF).length=96:=by rw [pL Cf];simp
structure b4 where
  aF:Nat→fy
  live:BitVec 32
  r:Nat→Int
  cY:Nat→Int
  now:Int
abbrev pY(s:b4):List Value:=zZ s.aF++[aI s.live.toNat]
abbrev qv(s:b4):List Value:=eG 8 s.cY++[U s.now]
abbrev cp(s:b4):List Value:=pY s++(kM s.r++qv s)
theorem ql(s:b4):(pY s).length=97:=by rw [List.length_append,zj];rfl
theorem FR(xs cO:List Value):(xs++cO).length=xs.length+cO.length:=List.length_append
theorem q0(s:b4):(cp s).length=140:=by
  rw [FR (pY s),ql,FR (kM s.r),sV,FR (eG 8 s.cY),sI];rfl
theorem zq(s:b4):(cp s)[96]?=some (aI s.live.toNat):=vD (sJ (n:=96) (k:=0) (zj _) rfl)
theorem CZ(s:b4):(cp s)[139]?=some (U s.now):=sJ (n:=97) (k:=42) (ql s) (sJ (n:=34) (k:=8) (sV _ _ _) (sJ (n:=8) (k:=0) (sI _ _ _) rfl))
theorem zk{xs cO:List Value}{n k:Nat}(h:xs.length=n):(xs++cO).drop (n+k)=cO.drop k:=by subst h;rw [←List.drop_drop,List.drop_left]
theorem VU(s:b4):((cp s).drop 131).take 8=eG 8 s.cY:=by
  rw [show 131=97+(34+0)from rfl,zk (ql s),zk (sV _ _ _),List.drop_zero,List.take_left' (sI _ _ _)]
theorem C0(s:b4){i k:Nat}{v:Value}(ak:i<16)(h:(jy (s.aF i))[k]?=some v):(cp s)[0+i*6+k]?=some v:=by
  have aj:k<6:=(List.getElem?_eq_some_iff.1 h).1
  rw [Nat.zero_add]
  exact vD (vD (by rw [Fh Cf _ i k (s.aF i) (zi ak) aj];exact h))
theorem vP(s:b4){i:Nat}(ak:i<16):((cp s).drop (0+i*6)).take 6=jy (s.aF i):=by
  apply List.ext_getElem?;intro k
  rcases Nat.lt_or_ge k 6 with aj|aj
  · rw [List.getElem?_take_of_lt aj,List.getElem?_drop]
    obtain⟨v,ck⟩:∃v,(jy (s.aF i))[k]?=some v:=⟨_,List.getElem?_eq_getElem aj⟩
    rw [ck];exact C0 s ak ck
  · rw [List.getElem?_eq_none (by rw [List.length_take];omega),List.getElem?_eq_none (by show 6≤k;exact aj)]
theorem JD(s:b4)(v:BitVec 32):(cp s).set 96 (aI v.toNat)=cp {s with live:=v}:=by
  rw [xt (by rw [ql];omega)]
  have:=ub (k:=0) (v:=aI v.toNat) (cO:=[aI s.live.toNat]) (zj s.aF)
  rw [Nat.add_zero]at this;rw [this];rfl
theorem RL(s:b4)(v:Int):(cp s).set 139 (U v)=cp {s with now:=v}:=by
  have ab:=ub (k:=42) (v:=U v) (cO:=kM s.r++qv s) (ql s)
  rw [show 97+42=139 from rfl]at ab;rw [ab]
  have af:=ub (k:=8) (v:=U v) (cO:=qv s) (sV (gi s.r) (kH s.r) (atR s.r))
  rw [show 34+8=42 from rfl]at af;rw [af]
  have az:=ub (k:=0) (v:=U v) (cO:=[U s.now]) (sI (fun m=>U m) 8 s.cY)
  rw [show 8+0=8 from rfl]at az;rw [az];rfl
theorem RM(s:b4)(t:Nat→Int):(cp s).take 131++eG 8 t++(cp s).drop (131+8)=cp {s with cY:=t}:=by
  have ab:(cp s).drop (131+8)=[U s.now]:=by
    rw [show 131+8=97+(34+(8+0))from rfl,zk (ql s),zk (sV _ _ _),zk (sI _ _ _)];rfl
  have af:(cp s).take 131=pY s++kM s.r:=by
    have e:cp s=(pY s++kM s.r)++qv s:=(List.append_assoc (pY s) _ _).symm
    rw [e];exact List.take_left' (by rw [List.length_append,ql,sV])
  rw [ab,af];simp only [List.append_assoc]
theorem RN(s:b4){i:Nat}(ak:i<16)(j:fy):(cp s).take (0+i*6)++jy j++(cp s).drop (0+i*6+6)=cp {s with aF:=bF s.aF i j}:=by
  have aJ:=zj s.aF
  have e:cp s=zZ s.aF++([aI s.live.toNat]++(kM s.r++qv s)):=List.append_assoc (zZ s.aF) _ _
  have hle:i*6+6≤96:=by omega
  rw [Nat.zero_add,e,List.take_append_of_le_length (by omega),List.drop_append_of_le_length (by omega)]
  have:=JZ Cf _ i (s.aF i) j (zi (n:=16) ak)
  rw [KH]at this
  rw [←List.append_assoc,this]
  exact(List.append_assoc (zZ (bF s.aF i j)) _ _).symm
theorem Q9(s:b4){i:Nat}(ak:i<16)(d:Int):(cp s).set (0+i*6+4) (U d)=cp {s with aF:=bF s.aF i {s.aF i with done:=d}}:=by
  have aJ:=zj s.aF
  rw [Nat.zero_add,xt (by rw [ql];omega),xt (by rw [aJ];omega),JY Cf _ i 4 (s.aF i) {s.aF i with done:=d} _ (zi (n:=16) ak) (by omega) rfl,KH]
theorem Dk(s:b4){k:Nat}(h:k<140):Nat.blt k (cp s).length=true:=by rw [q0];simp;omega
def hold(l:List fv)(d:Int):Int:=Dj (l.find? (xS d))
def oC(l:List fv)(d:Int):Int:=Dj (l.find? (xR d))
def nj(cY:Nat→Int)(id d:Int)(l:List fv):Int:=if hold l d<0 then 2*id+1 else 2*vO cY id (hold l d)
abbrev fy.mu(cY:Nat→Int)(j:fy):Int:=nj cY j.id j.done j.cT.l
theorem X2{cY:Nat→Int}(aR:∀r:Nat,r<8→0≤cY r∧cY r≤16)(r:Int):0≤u2 cY r∧u2 cY r≤16:=by
  unfold u2;split
  · exact aR _ (by omega)
  · omega
theorem Mn{cY:Nat→Int}{id r:Int}(aR:∀r:Nat,r<8→0≤cY r∧cY r≤16)(p6:0≤id∧id<16):0≤vO cY id r∧vO cY id r≤id:=by
  unfold vO;have:=X2 aR r;split<;>omega
theorem Cy{cY:Nat→Int}{id d:Int}{l:List fv}(aR:∀r:Nat,r<8→0≤cY r∧cY r≤16)(p6:0≤id∧id<16):0≤nj cY id d l∧nj cY id d l≤2*id+1:=by
  unfold nj;have:=Mn (r:=hold l d) aR p6;split<;>omega
abbrev GM(j:fy):ao B:=cr j.cT 135 3 jk
abbrev cX(aF:Nat→fy)(i:Nat):ao B:=GM (aF i)
theorem SA(aF:Nat→fy)(i:Nat)(j:fy):bF (cX (B:=B) aF) i (GM j)=cX (bF aF i j):=by
  funext k;by_cases e:k=i
  · subst e;rw [e8];unfold cX;rw [e8]
  · rw [fs _ _ e];unfold cX;rw [fs _ _ e]
theorem J0(aF:Nat→fy)(i:Nat)(d:Int):cX (B:=B) (bF aF i {aF i with done:=d})=cX aF:=by
  funext k;by_cases e:k=i
  · subst e;unfold cX;rw [e8]
  · unfold cX;rw [fs _ _ e]
structure fP(s:b4):Prop where
  r:ob s.r
  own:∀i,i<16→(s.aF i).cT.Own
  cY:∀r:Nat,r<8→0≤s.cY r∧s.cY r≤16
  live:∀i:Nat,hasB s.live (i:Int)=true→i<16∧(s.aF i).id=i∧0≤(s.aF i).done∧(s.aF i).done≤100000000∧0≤(s.aF i).cost∧(s.aF i).cost≤100000000∧-1000000000≤(s.aF i).rel∧(s.aF i).rel≤1000000000
  now:0≤s.now∧s.now≤1000000000
  vp:∀n:Nat,n<32→s.r n=if hasB s.live (n:Int)then(s.aF n).mu s.cY+1 else 0
theorem GN{je:ao B}(j:fy)(aY:c1 je j.cT.bl (j.cT.l.flatMap jk)):aS B 256 [j.v] [je] (fun v S=>v=U (hold j.cT.l j.done)∧S=[je]):=VP _ _ _ _ j.done j.cT aY
theorem X3{je:ao B}(j:fy)(aY:c1 je j.cT.bl (j.cT.l.flatMap jk)):aS B 257 [j.v] [je] (fun v S=>v=U (oC j.cT.l j.done)∧S=[je]):=VO _ _ _ _ j.done j.cT aY
theorem VV(c:Nat)(s:b4){je:ao B}(j:fy)(aY:c1 je j.cT.bl (j.cT.l.flatMap jk))(aR:∀r:Nat,r<8→0≤s.cY r∧s.cY r≤16)(p6:0≤j.id∧j.id<16):aS B 253 [ag c,j.v] [aa c (cp s) 260,je] (fun v S=>v=U (j.mu s.cY)∧S=[aa c (cp s) 260,je]):=by
 refine bD 23 Tryz.func253 fun a4 ax=>?_
 refine dt (au:=jy j) fun ay=>?_
 refine gK ?_
 refine cM (jy j) ?_
 refine nB (GN j aY) ?_
 refine aT ?_ ?_<;>intro ab
 ·refine aA (oz rfl rfl al al) ?_
  refine ah ?_
  exact bI ⟨by unfold fy.mu nj;rw [if_pos al],rfl⟩
 have l0:=Mn (r:=hold j.cT.l j.done) aR p6
 refine ah ?_
 refine c8 [aa ay (jy j) 253,aa c (cp s) 260] ae aC ?_
 refine aN [0,1,2] ?_
 refine bs 3 rfl (dw (bx:=eG 8 s.cY) rfl (by with_reducible repeat first|exact .here _ _|apply Out.there|apply Out.fu) ae (by rw [q0];rfl) (VU _)) ?_
 refine aN [4,5,6,107] ?_
 refine gu (VK s.cY j.id (hold j.cT.l j.done)) ?_
 refine bs 8 rfl (oz rfl rfl al al) ?_
 refine c7 [9,99] ?_
 exact bI ⟨by unfold fy.mu nj;rw [if_neg al],rfl⟩
theorem Hh(c:Nat)(s:b4){je:ao B}(j:fy)(aY:c1 je j.cT.bl (j.cT.l.flatMap jk))(aR:∀r:Nat,r<8→0≤s.cY r∧s.cY r≤16)(bk:ob s.r)(p6:0≤j.id∧j.id<16)(bc:dL K):aS B 204 [ag c,j.v] [aa c (cp s) 260,je,K] (fun v S=>v= .tuple #[]∧S=[aa c (cp ({s with r:=kX s.r j.id (j.mu s.cY)}:b4)) 260,je,K]):=by
 refine bD 13 Tryz.func204 fun a4 ax=>?_
 refine fe (au:=jy j) fun ay=>?_
 refine c8 [aa ay (jy j) 253] ae aC ?_
 refine aN [0,1,2,3,4,5] ?_
 refine bs 6 rfl (dw (bx:=jy j) rfl ar ae rfl (by rfl)) ?_
 refine ky 7 (VV c s j aY aR p6) ?_
 refine e6 8 (Z8 c 260 (pY s) (qv s) (ql s) s.r bk j.id (j.mu s.cY) bc) ?_
 refine c7 [99] ?_
 exact bA
theorem Ra{s:b4}(h:fP s)(br:(iC s.r).2=true):∃k:Nat,k<16∧hasB s.live (k:Int)=true∧(iC s.r).1=k:=by
  unfold iC at br⊢
  cases bh:goes s.r with
  |nil=>rw [bh]at br;cases br
  |cons p l=>
    have hm:p∈goes s.r:=by rw [bh];exact List.mem_cons_self ..
    obtain⟨k,ab,af,rfl⟩:=(Fq h.r).1 hm
    have az:=h.vp k ab
    have aJ:hasB s.live (k:Int)=true:=by
      cases bb:hasB s.live (k:Int)with
      |true=>rfl
      |false=>rw [bb]at az;exact absurd az af
    exact⟨k,(h.live k aJ).1,aJ,rfl⟩
structure qM where
  Hi:Int
  pu:Int
  pv:Int
  over:Bool
  within:Int
  late:Bool
abbrev nk(x:qM):List Value:=[U x.Hi,U x.pu,U x.pv,.bool x.over,U x.within,.bool x.late]
def jw(j:fy):Int:=if oC j.cT.l j.done≥0∧hold j.cT.l j.done<0 then oC j.cT.l j.done else-1
def lu(j:fy):Int:=if oC j.cT.l j.done≥0∧hold j.cT.l (min (j.done+1) j.cost)<0 then oC j.cT.l j.done else-1
abbrev fT(j:fy):fy:={j with done:=min (j.done+1) j.cost}
def dm(s:b4):b4×qM:=
  if(iC s.r).2=true then
    let k:=(iC s.r).1.toNat
    if min ((s.aF k).done+1) (s.aF k).cost≥(s.aF k).cost then
      (⟨bF s.aF k (fT (s.aF k)),s.live&&&~~~(ep k),qt s.r k,s.cY,s.now+1⟩,⟨k,jw (s.aF k),lu (s.aF k),true,s.now+1-(s.aF k).rel,decide (s.now+1>(s.aF k).ij)⟩)
    else(⟨bF s.aF k (fT (s.aF k)),s.live,kX s.r (s.aF k).id ((fT (s.aF k)).mu s.cY),s.cY,s.now+1⟩,⟨k,jw (s.aF k),lu (s.aF k),false,0,false⟩)
  else({s with now:=s.now+1},⟨-1,-1,-1,false,0,false⟩)
theorem FT{s:b4}(h:(iC s.r).2=false):dm s=({s with now:=s.now+1},⟨-1,-1,-1,false,0,false⟩):=by unfold dm;rw [if_neg (by rw [h];decide)]
theorem B7{s:b4}{k:Nat}(h:(iC s.r).2=true)(aj:(iC s.r).1=k)(ap:min ((s.aF k).done+1) (s.aF k).cost≥(s.aF k).cost):
    dm s=(⟨bF s.aF k (fT (s.aF k)),s.live&&&~~~(ep k),qt s.r k,s.cY,s.now+1⟩,⟨k,jw (s.aF k),lu (s.aF k),true,s.now+1-(s.aF k).rel,decide (s.now+1>(s.aF k).ij)⟩):=by
  unfold dm;rw [if_pos h,aj,Int.toNat_natCast,if_pos ap]
theorem Cz{s:b4}{k:Nat}(h:(iC s.r).2=true)(aj:(iC s.r).1=k)(ap:¬min ((s.aF k).done+1) (s.aF k).cost≥(s.aF k).cost):
    dm s=(⟨bF s.aF k (fT (s.aF k)),s.live,kX s.r (s.aF k).id ((fT (s.aF k)).mu s.cY),s.cY,s.now+1⟩,⟨k,jw (s.aF k),lu (s.aF k),false,0,false⟩):=by
  unfold dm;rw [if_pos h,aj,Int.toNat_natCast,if_neg ap]
def lv(cY:Nat→Int)(aF:Nat→fy)(r:Nat→Int)(l:List Int):Nat→Int:=l.foldl (fun r i=>kX r (aF i.toNat).id ((aF i.toNat).mu cY)) r
def vW(s:b4)(t:Nat→Int):b4:={s with cY:=t,r:=lv t s.aF s.r (bj s.live)}
theorem T4{cY:Nat→Int}{aF:Nat→fy}{r:Nat→Int}{l:List Int}{i:Nat}{n:Int}(h:l[i]?=some n):lv cY aF r (l.take (i+1))=kX (lv cY aF r (l.take i)) (aF n.toNat).id ((aF n.toNat).mu cY):=by
  unfold lv;rw [List.take_add_one,h,List.foldl_append];rfl
theorem KI{cY:Nat→Int}{aF:Nat→fy}{l:List Int}:∀{r:Nat→Int},ob r→ob (lv cY aF r l):=by
  unfold lv
  induction l with
  |nil=>exact fun h=>h
  |cons a l ih=>intro r h;rw [List.foldl_cons];exact ih (FP h)
def ow(s:b4)(j:fy):Int:=if j.id<0∨j.id≥16∨j.done≥j.cost then 100 else if hasB s.live j.id then 242 else 0
def nl(s:b4)(j:fy)(a:ai fv):b4:=if ow s j=0 then⟨bF s.aF j.id.toNat {j with cT:=a},s.live|||ep j.id,kX s.r j.id (nj s.cY j.id j.done a.l),s.cY,s.now⟩else s
abbrev h3:b4:=⟨fun _=>⟨0,0,0,0,0,ai.bG⟩,0#32,fun _=>0,fun _=>16,0⟩
theorem VW:cp h3=pY h3++(hW 0#32 (fun _=>0#32) 0#32++qv h3):=by show pY h3++(kM (fun _=>0)++qv h3)=_;rw [T1]
theorem Z9:aS B 85 [] [] (fun v S=>∃c,v=ag c∧S=[aa c (cp (h3)) 260,many 16 (cX h3.aF)]):=by
 refine dn 4 Tryz.func85 fun a4 ax=>?_
 refine Q0 (n:=16) (e:=135) (aH:=3) ?_
 refine ah ?_
 refine fL (Me) ?_
 refine fe (au:=(pY h3++(hW 0#32 (fun _=>0#32) 0#32++qv h3))) fun ay=>?_
 rw [←VW]
 exact⟨[aa ay (cp (h3)) 260,many 16 (cX h3.aF)],⟨ay,rfl,rfl⟩,_,bq⟩
theorem wi(c:Nat)(s:b4):aS B 65 [ag c] [aa c (cp s) 260] (fun v S=>v=U s.now∧S=[aa c (cp s) 260]):=by
 refine dn 7 Tryz.func65 fun a4 ax=>?_
 refine jT ?_
 refine aA (fm rfl ar ae (CZ _)) ?_
 exact mz
theorem z0(c:Nat)(s:b4):aS B 143 [ag c] [aa c (cp s) 260] (fun v S=>v=aI s.live.toNat∧S=[aa c (cp s) 260]):=by
 refine dn 7 Tryz.func143 fun a4 ax=>?_
 refine jT ?_
 refine aA (fm rfl ar ae (zq _)) ?_
 exact mz
theorem X4(c:Nat)(s:b4)(bg:fP s)(bc:dL K):aS B 211 [ag c] [aa c (cp s) 260,K] (fun v S=>v= .tuple #[U (iC s.r).1,.bool (iC s.r).2]∧S=[aa c (cp s) 260,K]):=by
 refine bD 10 Tryz.func211 fun a4 ax=>?_
 refine sj (Mm c 260 (pY s) (qv s) (ql s) s.r bg.r bc) ?_
 refine bH (U (iC s.r).1) ?_
 refine bH (.bool (iC s.r).2) ?_
 exact mz
theorem X5(c:Nat)(s:b4)(i:Nat)(ak:i<16)(b0:0≤(s.aF i).done)(ab:(s.aF i).done≤100000000):aS B 258 [.pointer (some ⟨c,0+i*6,none⟩)] [aa c (cp s) 260] (fun v S=>v= .bool (decide (min ((s.aF i).done+1) (s.aF i).cost≥(s.aF i).cost))∧S=[aa c (cp ({s with aF:=bF s.aF i (fT (s.aF i))}:b4)) 260]):=by
 refine bD 20 Tryz.func258 fun a4 ax=>?_
 refine c8 _ ae (Take.self _) ?_
 refine cy 0 rfl (fx rfl) ?_
 refine cy 1 rfl (fx rfl) ?_
 refine cy 2 rfl (qh rfl) ?_
 refine cy 3 rfl (xO rfl ae (fU:=0+i*6+4) rfl) ?_
 refine bs 4 rfl (fm rfl ar ae (C0 _ ak rfl)) ?_
 refine bs 5 rfl (pO rfl rfl al al) ?_
 refine cy 6 rfl (fx rfl) ?_
 refine cy 7 rfl (qh rfl) ?_
 refine cy 8 rfl (xO rfl ae (fU:=0+i*6+3) rfl) ?_
 refine bs 9 rfl (fm rfl ar ae (C0 _ ak rfl)) ?_
 refine bs 10 rfl (GF rfl rfl) ?_
 refine cy 11 rfl (qh rfl) ?_
 refine cy 12 rfl (xO rfl ae (fU:=0+i*6+4) rfl) ?_
 refine rC 13 ?_
 refine lC rfl dr (iG (k:=0+i*6+4) (fN:=cp {s with aF:=bF s.aF i (fT (s.aF i))}) rfl rfl rfl ar ae (Dk s (by omega)) (Q9 s ak _)) ?_
 refine aN [99] ?_
 refine cW ?_
 refine aA (dw (bx:=jy (fT (s.aF i))) rfl (by with_reducible repeat first|exact .here _ _|apply Out.there|apply Out.fu) ae (by rw [q0];exact Nat.ble_eq_true_of_le al) ((vP {s with aF:=bF s.aF i (fT (s.aF i))} ak).trans (by show jy (bF s.aF i (fT (s.aF i)) i)=_;rw [e8]))) ?_
 refine fL (Nd (s.aF i).id (s.aF i).rel (s.aF i).ij (s.aF i).cost (min ((s.aF i).done+1) (s.aF i).cost) (s.aF i).cT) ?_
 exact bA
theorem Nh(c:Nat)(s:b4)(t:Nat→Int)(bg:fP s)(aR:∀r:Nat,r<8→0≤t r∧t r≤16)(bc:dL K)(aD:dS K):aS B 135 [ag c,qA t] [aa c (cp s) 260,many 16 (cX s.aF),K] (fun v S=>v= .tuple #[]∧S=[aa c (cp (vW s t)) 260,many 16 (cX s.aF),K]):=by
 refine bD 23 Tryz.func135 fun a4 ax=>?_
 refine dt fun ay=>?_
 refine dt (au:=eG 8 t) fun aM=>?_
 refine gK ?_
 refine cM (eG 8 t) ?_
 refine ah ?_
 refine fw (zR (k:=131) (n:=8) (fN:=cp {s with cY:=t}) rfl rfl (by intro u hu;obtain⟨z,_,rfl⟩:=List.mem_map.1 hu;rfl) (by with_reducible repeat first|exact .here _ _|apply Out.there|apply Out.fu) ae rfl (by rw [q0];rfl) (RM s t)) ?_
 refine ho ?_
 refine aA (fm rfl ar ae (zq _)) ?_
 refine cA (ps s.live) ?_
 rintro _ _ ⟨jG,rfl,rfl⟩
 simp only [List.cons_append,List.nil_append]
 refine dW ?_
 refine zV aD ar ?_
 rw [show cp {s with cY:=t}=cp (⟨s.aF,s.live,lv t s.aF s.r ((bj s.live).take 0),t,s.now⟩)from rfl]
 refine kh (own:=[aa jG [aI s.live.toNat] 158,K]) (aP:=[aa ay [ag c] 157,aa c (cp (⟨s.aF,s.live,lv t s.aF s.r ((bj s.live).take 0),t,s.now⟩:b4)) 260,many 16 (cX s.aF),K]) rfl e2 (pg jG s.live bc) (fun i S=>S=[aa ay [ag c] 157,aa c (cp (⟨s.aF,s.live,lv t s.aF s.r ((bj s.live).take i),t,s.now⟩:b4)) 260,many 16 (cX s.aF),K]) (fun c i S=>False) (show Take ([aa jG [aI s.live.toNat] 158,K,aa ay [ag c] 157,aa c (cp (⟨s.aF,s.live,lv t s.aF s.r ((bj s.live).take 0),t,s.now⟩:b4)) 260,many 16 (cX s.aF),K]) _ _ from aC) (rfl) rfl (fun x av=>by obtain⟨y,_,rfl⟩:=List.mem_map.1 av;rfl) ?_ ?_ ?_
 ·intro cu rec jF i aQ ak bt
  subst bt
  rw [List.length_map]at ak
  obtain⟨m,cN⟩:∃m,(bj s.live)[i]?=some m:=⟨_,List.getElem?_eq_getElem ak⟩
  have hm:=lO.1 (List.mem_of_getElem? cN)
  have kx:=bg.live m.toNat (by rw [show((m.toNat:Nat):Int)=m by omega];exact hm.2.2)
  have Hj:m.toNat<16:=kx.1
  rw [m6 cN]
  refine ah ?_
  refine⟨rfl,_,_,.cons ar (Take.self _),fun h1=>?_⟩
  refine ah ?_
  refine c8 [aa ay [ag c] 157] ae aC ?_
  refine aN [0,1,2,3,4] ?_
  refine cy 5 rfl (m5 rfl rfl ae (show m=((m.toNat:Nat):Int)by omega) al rfl) ?_
  refine aN [106] ?_
  refine qm rfl .no dr (dw (bx:=jy (s.aF m.toNat)) rfl (by with_reducible repeat first|exact .here _ _|apply Out.there|apply Out.fu) ae (by rw [q0];exact Nat.ble_eq_true_of_le al) (vP (⟨s.aF,s.live,lv t s.aF s.r ((bj s.live).take i),t,s.now⟩) Hj)) rfl ?_
  refine e6 7 (Hh c (⟨s.aF,s.live,lv t s.aF s.r ((bj s.live).take i),t,s.now⟩) (je:=many 16 (cX s.aF)) (s.aF m.toNat) (zn Hj (eh (bg.own _ Hj) rfl)) aR (KI bg.r) (by rw [kx.2.1];omega) bc) ?_
  refine c7 [99] ?_
  exact⟨[aa ay [ag c] 157,aa c (cp (⟨s.aF,s.live,kX (lv t s.aF s.r ((bj s.live).take i)) (s.aF m.toNat).id ((s.aF m.toNat).mu t),t,s.now⟩:b4)) 260,many 16 (cX s.aF),K],_,aC,by dsimp only;rw [T4 cN]⟩
 ·intro c0 aQ bt
  subst bt
  rw [List.length_map,List.take_length]
  refine cU ?_
  refine Cm (show Take [du c0] _ _ from aC) (ua rfl) ?_
  exact bA
 intro c0 c i aQ ak h
 exact h.elim
end Go.Proofs.YtkpibibplbjciaaGreatDoor
