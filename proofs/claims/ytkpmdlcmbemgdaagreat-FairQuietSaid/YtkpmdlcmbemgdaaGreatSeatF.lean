/- A part of a proof over the abstract machine. No conditions. -/
import Derived.Test.YtkpmdlcmbemgdaaGreatAb3
import Derived.Test.YtkpmdlcmbemgdaaGreatRows
namespace Go.Proofs.YtkpmdlcmbemgdaaGreat
open Go Go.Ab
theorem Tryz.tyCount:Tryz.prog.types.size = 509:=by kernel_rfl
attribute [simp] Tryz.tyCount Tryz.underlying2 Tryz.underlying3 Tryz.underlying4 Tryz.underlying5 Tryz.underlying9 Tryz.underlying23 Tryz.underlying25 Tryz.underlying27 Tryz.underlying29 Tryz.underlying32 Tryz.underlying35 Tryz.underlying39 Tryz.underlying43 Tryz.underlying44 Tryz.underlying47 Tryz.underlying49 Tryz.underlying51 Tryz.underlying53 Tryz.underlying55 Tryz.underlying58 Tryz.underlying60 Tryz.underlying63 Tryz.underlying65 Tryz.underlying66 Tryz.underlying68 Tryz.underlying69 Tryz.underlying70 Tryz.underlying71 Tryz.underlying73 Tryz.underlying74 Tryz.underlying75 Tryz.underlying76 Tryz.underlying77 Tryz.underlying78 Tryz.underlying79 Tryz.underlying80 Tryz.underlying82 Tryz.underlying91 Tryz.underlying99 Tryz.underlying101 Tryz.underlying109 Tryz.underlying110 Tryz.underlying112 Tryz.underlying114 Tryz.underlying116 Tryz.underlying117 Tryz.underlying119 Tryz.underlying122 Tryz.underlying124 Tryz.underlying129 Tryz.underlying130 Tryz.underlying132 Tryz.underlying145 Tryz.underlying147 Tryz.underlying149 Tryz.underlying150 Tryz.underlying152 Tryz.underlying154 Tryz.underlying161 Tryz.underlying163 Tryz.underlying165 Tryz.underlying168 Tryz.underlying172 Tryz.underlying174 Tryz.underlying179 Tryz.underlying181 Tryz.underlying186 Tryz.underlying191 Tryz.underlying197 Tryz.underlying200 Tryz.underlying203 Tryz.underlying204 Tryz.underlying206 Tryz.underlying207 Tryz.underlying208 Tryz.underlying209 Tryz.underlying212 Tryz.underlying216 Tryz.underlying218 Tryz.underlying221 Tryz.underlying234 Tryz.underlying247 Tryz.underlying260 Tryz.underlying262 Tryz.underlying264 Tryz.underlying269 Tryz.underlying294 Tryz.underlying296 Tryz.underlying298 Tryz.underlying308 Tryz.underlying310 Tryz.underlying323 Tryz.underlying336 Tryz.underlying346 Tryz.underlying348 Tryz.underlying350 Tryz.underlying361 Tryz.underlying363 Tryz.underlying373 Tryz.underlying416 Tryz.underlying430 Tryz.underlying447 Tryz.underlying450 Tryz.underlying461
@[simp] theorem Tryz.T2:sizeT Tryz.prog 2 = some 1∧isAggT Tryz.prog 2 = some false∧zeroT Tryz.prog 2 = some [.int .i64 0]:=by and_intros <;> kernel_rfl
@[simp] theorem Tryz.bytes2:bytesT Tryz.prog 2 = some 8:=by kernel_rfl
@[simp] theorem Tryz.T3:sizeT Tryz.prog 3 = some 1∧isAggT Tryz.prog 3 = some false∧zeroT Tryz.prog 3 = some [.int .i64 0]:=by and_intros <;> kernel_rfl
@[simp] theorem Tryz.bytes3:bytesT Tryz.prog 3 = some 8:=by kernel_rfl
@[simp] theorem Tryz.T4:sizeT Tryz.prog 4 = some 1∧isAggT Tryz.prog 4 = some false∧zeroT Tryz.prog 4 = some [.bool false]:=by and_intros <;> kernel_rfl
@[simp] theorem Tryz.bytes4:bytesT Tryz.prog 4 = some 1:=by kernel_rfl
@[simp] theorem Tryz.T5:sizeT Tryz.prog 5 = some 1∧isAggT Tryz.prog 5 = some false∧zeroT Tryz.prog 5 = some [.int .u8 0]:=by and_intros <;> kernel_rfl
@[simp] theorem Tryz.bytes5:bytesT Tryz.prog 5 = some 1:=by kernel_rfl
@[simp] theorem Tryz.T9:sizeT Tryz.prog 9 = some 1∧isAggT Tryz.prog 9 = some false∧zeroT Tryz.prog 9 = some [.str []]:=by and_intros <;> kernel_rfl
@[simp] theorem Tryz.bytes9:bytesT Tryz.prog 9 = some 16:=by kernel_rfl
@[simp] theorem Tryz.T23:sizeT Tryz.prog 23 = some 3∧isAggT Tryz.prog 23 = some true∧zeroT Tryz.prog 23 = some [.int .i64 0,.int .i64 0,.int .i64 0]:=by and_intros <;> kernel_rfl
@[simp] theorem Tryz.bytes23:bytesT Tryz.prog 23 = some 24:=by kernel_rfl
@[simp] theorem Tryz.field23n0:fieldT Tryz.prog 23 0 = some (0,3):=by kernel_rfl
@[simp] theorem Tryz.field23n1:fieldT Tryz.prog 23 1 = some (1,3):=by kernel_rfl
@[simp] theorem Tryz.field23n2:fieldT Tryz.prog 23 2 = some (2,3):=by kernel_rfl
@[simp] theorem Tryz.T25:sizeT Tryz.prog 25 = some 1∧isAggT Tryz.prog 25 = some false∧zeroT Tryz.prog 25 = some [.nilptr]:=by and_intros <;> kernel_rfl
@[simp] theorem Tryz.bytes25:bytesT Tryz.prog 25 = some 8:=by kernel_rfl
@[simp] theorem Tryz.T27:sizeT Tryz.prog 27 = some 1∧isAggT Tryz.prog 27 = some false∧zeroT Tryz.prog 27 = some [.nilslc]∧elemT Tryz.prog 27 = some 51:=by and_intros <;> kernel_rfl
@[simp] theorem Tryz.bytes27:bytesT Tryz.prog 27 = some 24:=by kernel_rfl
@[simp] theorem Tryz.T29:sizeT Tryz.prog 29 = some 1∧isAggT Tryz.prog 29 = some false∧zeroT Tryz.prog 29 = some [.nilslc]∧elemT Tryz.prog 29 = some 49:=by and_intros <;> kernel_rfl
@[simp] theorem Tryz.bytes29:bytesT Tryz.prog 29 = some 24:=by kernel_rfl
@[simp] theorem Tryz.T32:sizeT Tryz.prog 32 = some 4∧isAggT Tryz.prog 32 = some true∧zeroT Tryz.prog 32 = some [.int .i64 0,.int .i64 0,.int .i64 0,.int .i64 0]:=by and_intros <;> kernel_rfl
@[simp] theorem Tryz.bytes32:bytesT Tryz.prog 32 = some 32:=by kernel_rfl
@[simp] theorem Tryz.T35:sizeT Tryz.prog 35 = some 1∧isAggT Tryz.prog 35 = some false∧zeroT Tryz.prog 35 = some [.nilptr]:=by and_intros <;> kernel_rfl
@[simp] theorem Tryz.bytes35:bytesT Tryz.prog 35 = some 8:=by kernel_rfl
@[simp] theorem Tryz.T39:sizeT Tryz.prog 39 = some 1∧isAggT Tryz.prog 39 = some false∧zeroT Tryz.prog 39 = some [.nilslc]∧elemT Tryz.prog 39 = some 124:=by and_intros <;> kernel_rfl
@[simp] theorem Tryz.bytes39:bytesT Tryz.prog 39 = some 24:=by kernel_rfl
@[simp] theorem Tryz.T43:sizeT Tryz.prog 43 = some 1∧isAggT Tryz.prog 43 = some false∧zeroT Tryz.prog 43 = some [.nilslc]∧elemT Tryz.prog 43 = some 3:=by and_intros <;> kernel_rfl
@[simp] theorem Tryz.bytes43:bytesT Tryz.prog 43 = some 24:=by kernel_rfl
@[simp] theorem Tryz.T44:sizeT Tryz.prog 44 = some 1∧isAggT Tryz.prog 44 = some false∧zeroT Tryz.prog 44 = some [.int .i64 0]:=by and_intros <;> kernel_rfl
@[simp] theorem Tryz.bytes44:bytesT Tryz.prog 44 = some 8:=by kernel_rfl
@[simp] theorem Tryz.T47:sizeT Tryz.prog 47 = some 1∧isAggT Tryz.prog 47 = some false∧zeroT Tryz.prog 47 = some [.nilslc]∧elemT Tryz.prog 47 = some 5:=by and_intros <;> kernel_rfl
@[simp] theorem Tryz.bytes47:bytesT Tryz.prog 47 = some 24:=by kernel_rfl
@[simp] theorem Tryz.T49:sizeT Tryz.prog 49 = some 5∧isAggT Tryz.prog 49 = some true∧zeroT Tryz.prog 49 = some [.int .i64 0,.int .i64 0,.int .i64 0,.int .i64 0,.nilslc]:=by and_intros <;> kernel_rfl
@[simp] theorem Tryz.bytes49:bytesT Tryz.prog 49 = some 56:=by kernel_rfl
@[simp] theorem Tryz.field49n0:fieldT Tryz.prog 49 0 = some (0,3):=by kernel_rfl
@[simp] theorem Tryz.field49n1:fieldT Tryz.prog 49 1 = some (1,3):=by kernel_rfl
@[simp] theorem Tryz.field49n2:fieldT Tryz.prog 49 2 = some (2,3):=by kernel_rfl
@[simp] theorem Tryz.field49n3:fieldT Tryz.prog 49 3 = some (3,3):=by kernel_rfl
@[simp] theorem Tryz.field49n4:fieldT Tryz.prog 49 4 = some (4,47):=by kernel_rfl
@[simp] theorem Tryz.T51:sizeT Tryz.prog 51 = some 3∧isAggT Tryz.prog 51 = some true∧zeroT Tryz.prog 51 = some [.int .i64 0,.int .i64 0,.int .i64 0]:=by and_intros <;> kernel_rfl
@[simp] theorem Tryz.bytes51:bytesT Tryz.prog 51 = some 24:=by kernel_rfl
@[simp] theorem Tryz.field51n0:fieldT Tryz.prog 51 0 = some (0,3):=by kernel_rfl
@[simp] theorem Tryz.field51n1:fieldT Tryz.prog 51 1 = some (1,3):=by kernel_rfl
@[simp] theorem Tryz.field51n2:fieldT Tryz.prog 51 2 = some (2,44):=by kernel_rfl
@[simp] theorem Tryz.T53:sizeT Tryz.prog 53 = some 1∧isAggT Tryz.prog 53 = some false∧zeroT Tryz.prog 53 = some [.nilptr]:=by and_intros <;> kernel_rfl
@[simp] theorem Tryz.bytes53:bytesT Tryz.prog 53 = some 8:=by kernel_rfl
@[simp] theorem Tryz.T55:sizeT Tryz.prog 55 = some 1∧isAggT Tryz.prog 55 = some false∧zeroT Tryz.prog 55 = some [.nilptr]:=by and_intros <;> kernel_rfl
@[simp] theorem Tryz.bytes55:bytesT Tryz.prog 55 = some 8:=by kernel_rfl
@[simp] theorem Tryz.T58:sizeT Tryz.prog 58 = some 1∧isAggT Tryz.prog 58 = some false∧zeroT Tryz.prog 58 = some [.nilslc]∧elemT Tryz.prog 58 = some 4:=by and_intros <;> kernel_rfl
@[simp] theorem Tryz.bytes58:bytesT Tryz.prog 58 = some 24:=by kernel_rfl
@[simp] theorem Tryz.T60:sizeT Tryz.prog 60 = some 1∧isAggT Tryz.prog 60 = some false∧zeroT Tryz.prog 60 = some [.nilptr]:=by and_intros <;> kernel_rfl
@[simp] theorem Tryz.bytes60:bytesT Tryz.prog 60 = some 8:=by kernel_rfl
@[simp] theorem Tryz.T63:sizeT Tryz.prog 63 = some 1∧isAggT Tryz.prog 63 = some false∧zeroT Tryz.prog 63 = some [.nilptr]:=by and_intros <;> kernel_rfl
@[simp] theorem Tryz.bytes63:bytesT Tryz.prog 63 = some 8:=by kernel_rfl
@[simp] theorem Tryz.T65:sizeT Tryz.prog 65 = some 1∧isAggT Tryz.prog 65 = some false∧zeroT Tryz.prog 65 = some [.nilslc]∧elemT Tryz.prog 65 = some 63:=by and_intros <;> kernel_rfl
@[simp] theorem Tryz.bytes65:bytesT Tryz.prog 65 = some 24:=by kernel_rfl
@[simp] theorem Tryz.T66:sizeT Tryz.prog 66 = some 1∧isAggT Tryz.prog 66 = some false∧zeroT Tryz.prog 66 = some [.nilslc]∧elemT Tryz.prog 66 = some 60:=by and_intros <;> kernel_rfl
@[simp] theorem Tryz.bytes66:bytesT Tryz.prog 66 = some 24:=by kernel_rfl
@[simp] theorem Tryz.T68:sizeT Tryz.prog 68 = some 8∧isAggT Tryz.prog 68 = some true∧zeroT Tryz.prog 68 = some [.int .i64 0,.int .i64 0,.int .i64 0,.nilslc,.nilslc,.nilptr,.nilptr,.nilslc]:=by and_intros <;> kernel_rfl
@[simp] theorem Tryz.bytes68:bytesT Tryz.prog 68 = some 112:=by kernel_rfl
@[simp] theorem Tryz.field68n0:fieldT Tryz.prog 68 0 = some (0,23):=by kernel_rfl
@[simp] theorem Tryz.field68n1:fieldT Tryz.prog 68 1 = some (3,65):=by kernel_rfl
@[simp] theorem Tryz.field68n2:fieldT Tryz.prog 68 2 = some (4,66):=by kernel_rfl
@[simp] theorem Tryz.field68n3:fieldT Tryz.prog 68 3 = some (5,55):=by kernel_rfl
@[simp] theorem Tryz.field68n4:fieldT Tryz.prog 68 4 = some (6,53):=by kernel_rfl
@[simp] theorem Tryz.field68n5:fieldT Tryz.prog 68 5 = some (7,39):=by kernel_rfl
@[simp] theorem Tryz.T69:sizeT Tryz.prog 69 = some 1∧isAggT Tryz.prog 69 = some false∧zeroT Tryz.prog 69 = some [.nilslc]∧elemT Tryz.prog 69 = some 91:=by and_intros <;> kernel_rfl
@[simp] theorem Tryz.bytes69:bytesT Tryz.prog 69 = some 24:=by kernel_rfl
@[simp] theorem Tryz.T70:sizeT Tryz.prog 70 = some 1∧isAggT Tryz.prog 70 = some false∧zeroT Tryz.prog 70 = some [.nilslc]∧elemT Tryz.prog 70 = some 35:=by and_intros <;> kernel_rfl
@[simp] theorem Tryz.bytes70:bytesT Tryz.prog 70 = some 24:=by kernel_rfl
@[simp] theorem Tryz.T71:sizeT Tryz.prog 71 = some 1∧isAggT Tryz.prog 71 = some false∧zeroT Tryz.prog 71 = some [.nilptr]:=by and_intros <;> kernel_rfl
@[simp] theorem Tryz.bytes71:bytesT Tryz.prog 71 = some 8:=by kernel_rfl
@[simp] theorem Tryz.T73:sizeT Tryz.prog 73 = some 3∧isAggT Tryz.prog 73 = some true∧zeroT Tryz.prog 73 = some [.nilslc,.nilslc,.nilptr]:=by and_intros <;> kernel_rfl
@[simp] theorem Tryz.bytes73:bytesT Tryz.prog 73 = some 56:=by kernel_rfl
@[simp] theorem Tryz.field73n0:fieldT Tryz.prog 73 0 = some (0,69):=by kernel_rfl
@[simp] theorem Tryz.field73n1:fieldT Tryz.prog 73 1 = some (1,70):=by kernel_rfl
@[simp] theorem Tryz.field73n2:fieldT Tryz.prog 73 2 = some (2,71):=by kernel_rfl
@[simp] theorem Tryz.T74:sizeT Tryz.prog 74 = some 1∧isAggT Tryz.prog 74 = some false∧zeroT Tryz.prog 74 = some [.nilptr]:=by and_intros <;> kernel_rfl
@[simp] theorem Tryz.bytes74:bytesT Tryz.prog 74 = some 8:=by kernel_rfl
@[simp] theorem Tryz.T75:sizeT Tryz.prog 75 = some 1∧isAggT Tryz.prog 75 = some false∧zeroT Tryz.prog 75 = some [.nilptr]:=by and_intros <;> kernel_rfl
@[simp] theorem Tryz.bytes75:bytesT Tryz.prog 75 = some 8:=by kernel_rfl
@[simp] theorem Tryz.T76:sizeT Tryz.prog 76 = some 1∧isAggT Tryz.prog 76 = some false∧zeroT Tryz.prog 76 = some [.nilptr]:=by and_intros <;> kernel_rfl
@[simp] theorem Tryz.bytes76:bytesT Tryz.prog 76 = some 8:=by kernel_rfl
@[simp] theorem Tryz.T77:sizeT Tryz.prog 77 = some 1∧isAggT Tryz.prog 77 = some false∧zeroT Tryz.prog 77 = some [.nilslc]∧elemT Tryz.prog 77 = some 99:=by and_intros <;> kernel_rfl
@[simp] theorem Tryz.bytes77:bytesT Tryz.prog 77 = some 24:=by kernel_rfl
@[simp] theorem Tryz.T78:sizeT Tryz.prog 78 = some 1∧isAggT Tryz.prog 78 = some false∧zeroT Tryz.prog 78 = some [.nilslc]∧elemT Tryz.prog 78 = some 186:=by and_intros <;> kernel_rfl
@[simp] theorem Tryz.bytes78:bytesT Tryz.prog 78 = some 24:=by kernel_rfl
@[simp] theorem Tryz.T79:sizeT Tryz.prog 79 = some 1∧isAggT Tryz.prog 79 = some false∧zeroT Tryz.prog 79 = some [.nilslc]∧elemT Tryz.prog 79 = some 234:=by and_intros <;> kernel_rfl
@[simp] theorem Tryz.bytes79:bytesT Tryz.prog 79 = some 24:=by kernel_rfl
@[simp] theorem Tryz.T80:sizeT Tryz.prog 80 = some 1∧isAggT Tryz.prog 80 = some false∧zeroT Tryz.prog 80 = some [.nilslc]∧elemT Tryz.prog 80 = some 101:=by and_intros <;> kernel_rfl
@[simp] theorem Tryz.bytes80:bytesT Tryz.prog 80 = some 24:=by kernel_rfl
@[simp] theorem Tryz.T82:sizeT Tryz.prog 82 = some 18∧isAggT Tryz.prog 82 = some true∧zeroT Tryz.prog 82 = some [.int .i64 0,.int .i64 0,.int .i64 0,.int .i64 0,.nilptr,.nilptr,.int .i64 0,.nilptr,.int .i64 0,.bool false,.bool false,.nilslc,.nilslc,.nilslc,.int .i64 0,.nilslc,.nilslc,.nilslc]:=by and_intros <;> kernel_rfl
@[simp] theorem Tryz.bytes82:bytesT Tryz.prog 82 = some 232:=by kernel_rfl
@[simp] theorem Tryz.field82n0:fieldT Tryz.prog 82 0 = some (0,3):=by kernel_rfl
@[simp] theorem Tryz.field82n1:fieldT Tryz.prog 82 1 = some (1,3):=by kernel_rfl
@[simp] theorem Tryz.field82n2:fieldT Tryz.prog 82 2 = some (2,3):=by kernel_rfl
@[simp] theorem Tryz.field82n3:fieldT Tryz.prog 82 3 = some (3,3):=by kernel_rfl
@[simp] theorem Tryz.field82n4:fieldT Tryz.prog 82 4 = some (4,74):=by kernel_rfl
@[simp] theorem Tryz.field82n5:fieldT Tryz.prog 82 5 = some (5,75):=by kernel_rfl
@[simp] theorem Tryz.field82n6:fieldT Tryz.prog 82 6 = some (6,3):=by kernel_rfl
@[simp] theorem Tryz.field82n7:fieldT Tryz.prog 82 7 = some (7,76):=by kernel_rfl
@[simp] theorem Tryz.field82n8:fieldT Tryz.prog 82 8 = some (8,3):=by kernel_rfl
@[simp] theorem Tryz.field82n9:fieldT Tryz.prog 82 9 = some (9,4):=by kernel_rfl
@[simp] theorem Tryz.field82n10:fieldT Tryz.prog 82 10 = some (10,4):=by kernel_rfl
@[simp] theorem Tryz.field82n11:fieldT Tryz.prog 82 11 = some (11,58):=by kernel_rfl
@[simp] theorem Tryz.field82n12:fieldT Tryz.prog 82 12 = some (12,77):=by kernel_rfl
@[simp] theorem Tryz.field82n13:fieldT Tryz.prog 82 13 = some (13,78):=by kernel_rfl
@[simp] theorem Tryz.field82n14:fieldT Tryz.prog 82 14 = some (14,3):=by kernel_rfl
@[simp] theorem Tryz.field82n15:fieldT Tryz.prog 82 15 = some (15,79):=by kernel_rfl
@[simp] theorem Tryz.field82n16:fieldT Tryz.prog 82 16 = some (16,80):=by kernel_rfl
@[simp] theorem Tryz.field82n17:fieldT Tryz.prog 82 17 = some (17,39):=by kernel_rfl
@[simp] theorem Tryz.T91:sizeT Tryz.prog 91 = some 1∧isAggT Tryz.prog 91 = some false∧zeroT Tryz.prog 91 = some [.nilptr]:=by and_intros <;> kernel_rfl
@[simp] theorem Tryz.bytes91:bytesT Tryz.prog 91 = some 8:=by kernel_rfl
@[simp] theorem Tryz.T99:sizeT Tryz.prog 99 = some 1∧isAggT Tryz.prog 99 = some false∧zeroT Tryz.prog 99 = some [.nilslc]∧elemT Tryz.prog 99 = some 221:=by and_intros <;> kernel_rfl
@[simp] theorem Tryz.bytes99:bytesT Tryz.prog 99 = some 24:=by kernel_rfl
@[simp] theorem Tryz.T101:sizeT Tryz.prog 101 = some 10∧isAggT Tryz.prog 101 = some true∧zeroT Tryz.prog 101 = some [.int .i64 0,.int .i64 0,.int .i64 0,.int .i64 0,.int .i64 0,.int .i64 0,.int .i64 0,.int .i64 0,.nilslc,.nilslc]:=by and_intros <;> kernel_rfl
@[simp] theorem Tryz.bytes101:bytesT Tryz.prog 101 = some 112:=by kernel_rfl
@[simp] theorem Tryz.field101n0:fieldT Tryz.prog 101 0 = some (0,3):=by kernel_rfl
@[simp] theorem Tryz.field101n1:fieldT Tryz.prog 101 1 = some (1,3):=by kernel_rfl
@[simp] theorem Tryz.field101n2:fieldT Tryz.prog 101 2 = some (2,3):=by kernel_rfl
@[simp] theorem Tryz.field101n3:fieldT Tryz.prog 101 3 = some (3,3):=by kernel_rfl
@[simp] theorem Tryz.field101n4:fieldT Tryz.prog 101 4 = some (4,3):=by kernel_rfl
@[simp] theorem Tryz.field101n5:fieldT Tryz.prog 101 5 = some (5,3):=by kernel_rfl
@[simp] theorem Tryz.field101n6:fieldT Tryz.prog 101 6 = some (6,3):=by kernel_rfl
@[simp] theorem Tryz.field101n7:fieldT Tryz.prog 101 7 = some (7,3):=by kernel_rfl
@[simp] theorem Tryz.field101n8:fieldT Tryz.prog 101 8 = some (8,47):=by kernel_rfl
@[simp] theorem Tryz.field101n9:fieldT Tryz.prog 101 9 = some (9,99):=by kernel_rfl
@[simp] theorem Tryz.T109:sizeT Tryz.prog 109 = some 2∧isAggT Tryz.prog 109 = some true∧zeroT Tryz.prog 109 = some [.int .i64 0,.nilslc]:=by and_intros <;> kernel_rfl
@[simp] theorem Tryz.bytes109:bytesT Tryz.prog 109 = some 32:=by kernel_rfl
@[simp] theorem Tryz.field109n0:fieldT Tryz.prog 109 0 = some (0,3):=by kernel_rfl
@[simp] theorem Tryz.field109n1:fieldT Tryz.prog 109 1 = some (1,80):=by kernel_rfl
@[simp] theorem Tryz.T110:sizeT Tryz.prog 110 = some 1∧isAggT Tryz.prog 110 = some false∧zeroT Tryz.prog 110 = some [.nilslc]∧elemT Tryz.prog 110 = some 298:=by and_intros <;> kernel_rfl
@[simp] theorem Tryz.bytes110:bytesT Tryz.prog 110 = some 24:=by kernel_rfl
@[simp] theorem Tryz.T112:sizeT Tryz.prog 112 = some 2∧isAggT Tryz.prog 112 = some true∧zeroT Tryz.prog 112 = some [.str [],.str []]:=by and_intros <;> kernel_rfl
@[simp] theorem Tryz.bytes112:bytesT Tryz.prog 112 = some 32:=by kernel_rfl
@[simp] theorem Tryz.field112n0:fieldT Tryz.prog 112 0 = some (0,9):=by kernel_rfl
@[simp] theorem Tryz.field112n1:fieldT Tryz.prog 112 1 = some (1,9):=by kernel_rfl
@[simp] theorem Tryz.T114:sizeT Tryz.prog 114 = some 11∧isAggT Tryz.prog 114 = some true∧zeroT Tryz.prog 114 = some [.int .i64 0,.nilslc,.str [],.str [],.int .i64 0,.int .i64 0,.int .i64 0,.int .i64 0,.int .i64 0,.str [],.nilslc]:=by and_intros <;> kernel_rfl
@[simp] theorem Tryz.bytes114:bytesT Tryz.prog 114 = some 144:=by kernel_rfl
@[simp] theorem Tryz.field114n0:fieldT Tryz.prog 114 0 = some (0,44):=by kernel_rfl
@[simp] theorem Tryz.field114n1:fieldT Tryz.prog 114 1 = some (1,110):=by kernel_rfl
@[simp] theorem Tryz.field114n2:fieldT Tryz.prog 114 2 = some (2,112):=by kernel_rfl
@[simp] theorem Tryz.field114n3:fieldT Tryz.prog 114 3 = some (4,3):=by kernel_rfl
@[simp] theorem Tryz.field114n4:fieldT Tryz.prog 114 4 = some (5,3):=by kernel_rfl
@[simp] theorem Tryz.field114n5:fieldT Tryz.prog 114 5 = some (6,3):=by kernel_rfl
@[simp] theorem Tryz.field114n6:fieldT Tryz.prog 114 6 = some (7,3):=by kernel_rfl
@[simp] theorem Tryz.field114n7:fieldT Tryz.prog 114 7 = some (8,3):=by kernel_rfl
@[simp] theorem Tryz.field114n8:fieldT Tryz.prog 114 8 = some (9,9):=by kernel_rfl
@[simp] theorem Tryz.field114n9:fieldT Tryz.prog 114 9 = some (10,47):=by kernel_rfl
@[simp] theorem Tryz.T116:sizeT Tryz.prog 116 = some 19∧isAggT Tryz.prog 116 = some true∧zeroT Tryz.prog 116 = some [.int .i64 0,.int .i64 0,.int .i64 0,.int .i64 0,.nilslc,.int .i64 0,.nilslc,.str [],.str [],.int .i64 0,.int .i64 0,.int .i64 0,.int .i64 0,.int .i64 0,.str [],.nilslc,.int .i64 0,.int .i64 0,.int .i64 0]:=by and_intros <;> kernel_rfl
@[simp] theorem Tryz.bytes116:bytesT Tryz.prog 116 = some 224:=by kernel_rfl
@[simp] theorem Tryz.field116n0:fieldT Tryz.prog 116 0 = some (0,3):=by kernel_rfl
@[simp] theorem Tryz.field116n1:fieldT Tryz.prog 116 1 = some (1,3):=by kernel_rfl
@[simp] theorem Tryz.field116n2:fieldT Tryz.prog 116 2 = some (2,3):=by kernel_rfl
@[simp] theorem Tryz.field116n3:fieldT Tryz.prog 116 3 = some (3,3):=by kernel_rfl
@[simp] theorem Tryz.field116n4:fieldT Tryz.prog 116 4 = some (4,47):=by kernel_rfl
@[simp] theorem Tryz.field116n5:fieldT Tryz.prog 116 5 = some (5,114):=by kernel_rfl
@[simp] theorem Tryz.field116n6:fieldT Tryz.prog 116 6 = some (16,44):=by kernel_rfl
@[simp] theorem Tryz.field116n7:fieldT Tryz.prog 116 7 = some (17,3):=by kernel_rfl
@[simp] theorem Tryz.field116n8:fieldT Tryz.prog 116 8 = some (18,44):=by kernel_rfl
@[simp] theorem Tryz.T117:sizeT Tryz.prog 117 = some 1∧isAggT Tryz.prog 117 = some false∧zeroT Tryz.prog 117 = some [.nilslc]∧elemT Tryz.prog 117 = some 168:=by and_intros <;> kernel_rfl
@[simp] theorem Tryz.bytes117:bytesT Tryz.prog 117 = some 24:=by kernel_rfl
@[simp] theorem Tryz.T119:sizeT Tryz.prog 119 = some 21∧isAggT Tryz.prog 119 = some true∧zeroT Tryz.prog 119 = some [.int .i64 0,.int .i64 0,.int .i64 0,.bool false,.str [],.nilslc,.int .i64 0,.int .i64 0,.nilslc,.int .i64 0,.int .i64 0,.nilslc,.str [],.str [],.int .i64 0,.int .i64 0,.int .i64 0,.int .i64 0,.int .i64 0,.str [],.nilslc]:=by and_intros <;> kernel_rfl
@[simp] theorem Tryz.bytes119:bytesT Tryz.prog 119 = some 264:=by kernel_rfl
@[simp] theorem Tryz.field119n0:fieldT Tryz.prog 119 0 = some (0,3):=by kernel_rfl
@[simp] theorem Tryz.field119n1:fieldT Tryz.prog 119 1 = some (1,3):=by kernel_rfl
@[simp] theorem Tryz.field119n2:fieldT Tryz.prog 119 2 = some (2,3):=by kernel_rfl
@[simp] theorem Tryz.field119n3:fieldT Tryz.prog 119 3 = some (3,4):=by kernel_rfl
@[simp] theorem Tryz.field119n4:fieldT Tryz.prog 119 4 = some (4,9):=by kernel_rfl
@[simp] theorem Tryz.field119n5:fieldT Tryz.prog 119 5 = some (5,47):=by kernel_rfl
@[simp] theorem Tryz.field119n6:fieldT Tryz.prog 119 6 = some (6,3):=by kernel_rfl
@[simp] theorem Tryz.field119n7:fieldT Tryz.prog 119 7 = some (7,3):=by kernel_rfl
@[simp] theorem Tryz.field119n8:fieldT Tryz.prog 119 8 = some (8,117):=by kernel_rfl
@[simp] theorem Tryz.field119n9:fieldT Tryz.prog 119 9 = some (9,3):=by kernel_rfl
@[simp] theorem Tryz.field119n10:fieldT Tryz.prog 119 10 = some (10,114):=by kernel_rfl
@[simp] theorem Tryz.T122:sizeT Tryz.prog 122 = some 5∧isAggT Tryz.prog 122 = some true∧zeroT Tryz.prog 122 = some [.nilptr,.int .i64 0,.nilslc,.int .i64 0,.nilslc]:=by and_intros <;> kernel_rfl
@[simp] theorem Tryz.bytes122:bytesT Tryz.prog 122 = some 72:=by kernel_rfl
@[simp] theorem Tryz.field122n0:fieldT Tryz.prog 122 0 = some (0,91):=by kernel_rfl
@[simp] theorem Tryz.field122n1:fieldT Tryz.prog 122 1 = some (1,3):=by kernel_rfl
@[simp] theorem Tryz.field122n2:fieldT Tryz.prog 122 2 = some (2,99):=by kernel_rfl
@[simp] theorem Tryz.field122n3:fieldT Tryz.prog 122 3 = some (3,3):=by kernel_rfl
@[simp] theorem Tryz.field122n4:fieldT Tryz.prog 122 4 = some (4,47):=by kernel_rfl
@[simp] theorem Tryz.T124:sizeT Tryz.prog 124 = some 7∧isAggT Tryz.prog 124 = some true∧zeroT Tryz.prog 124 = some [.int .i64 0,.int .i64 0,.int .i64 0,.int .i64 0,.int .i64 0,.nilslc,.nilslc]:=by and_intros <;> kernel_rfl
@[simp] theorem Tryz.bytes124:bytesT Tryz.prog 124 = some 88:=by kernel_rfl
@[simp] theorem Tryz.field124n0:fieldT Tryz.prog 124 0 = some (0,3):=by kernel_rfl
@[simp] theorem Tryz.field124n1:fieldT Tryz.prog 124 1 = some (1,3):=by kernel_rfl
@[simp] theorem Tryz.field124n2:fieldT Tryz.prog 124 2 = some (2,3):=by kernel_rfl
@[simp] theorem Tryz.field124n3:fieldT Tryz.prog 124 3 = some (3,3):=by kernel_rfl
@[simp] theorem Tryz.field124n4:fieldT Tryz.prog 124 4 = some (4,3):=by kernel_rfl
@[simp] theorem Tryz.field124n5:fieldT Tryz.prog 124 5 = some (5,47):=by kernel_rfl
@[simp] theorem Tryz.field124n6:fieldT Tryz.prog 124 6 = some (6,47):=by kernel_rfl
@[simp] theorem Tryz.T129:sizeT Tryz.prog 129 = some 3∧isAggT Tryz.prog 129 = some true∧zeroT Tryz.prog 129 = some [.nilptr,.nilslc,.bool false]:=by and_intros <;> kernel_rfl
@[simp] theorem Tryz.bytes129:bytesT Tryz.prog 129 = some 40:=by kernel_rfl
@[simp] theorem Tryz.field129n0:fieldT Tryz.prog 129 0 = some (0,75):=by kernel_rfl
@[simp] theorem Tryz.field129n1:fieldT Tryz.prog 129 1 = some (1,39):=by kernel_rfl
@[simp] theorem Tryz.field129n2:fieldT Tryz.prog 129 2 = some (2,4):=by kernel_rfl
@[simp] theorem Tryz.T130:sizeT Tryz.prog 130 = some 1∧isAggT Tryz.prog 130 = some false∧zeroT Tryz.prog 130 = some [.nilslc]∧elemT Tryz.prog 130 = some 47:=by and_intros <;> kernel_rfl
@[simp] theorem Tryz.bytes130:bytesT Tryz.prog 130 = some 24:=by kernel_rfl
@[simp] theorem Tryz.T132:sizeT Tryz.prog 132 = some 1∧isAggT Tryz.prog 132 = some true∧zeroT Tryz.prog 132 = some [.nilslc]:=by and_intros <;> kernel_rfl
@[simp] theorem Tryz.bytes132:bytesT Tryz.prog 132 = some 24:=by kernel_rfl
@[simp] theorem Tryz.field132n0:fieldT Tryz.prog 132 0 = some (0,130):=by kernel_rfl
@[simp] theorem Tryz.T145:sizeT Tryz.prog 145 = some 1∧isAggT Tryz.prog 145 = some false∧zeroT Tryz.prog 145 = some [.flt 0]:=by and_intros <;> kernel_rfl
@[simp] theorem Tryz.bytes145:bytesT Tryz.prog 145 = some 8:=by kernel_rfl
@[simp] theorem Tryz.T147:sizeT Tryz.prog 147 = some 3∧isAggT Tryz.prog 147 = some true∧zeroT Tryz.prog 147 = some [.int .i64 0,.nilslc,.flt 0]:=by and_intros <;> kernel_rfl
@[simp] theorem Tryz.bytes147:bytesT Tryz.prog 147 = some 40:=by kernel_rfl
@[simp] theorem Tryz.field147n0:fieldT Tryz.prog 147 0 = some (0,3):=by kernel_rfl
@[simp] theorem Tryz.field147n1:fieldT Tryz.prog 147 1 = some (1,47):=by kernel_rfl
@[simp] theorem Tryz.field147n2:fieldT Tryz.prog 147 2 = some (2,145):=by kernel_rfl
@[simp] theorem Tryz.T149:sizeT Tryz.prog 149 = some 6∧isAggT Tryz.prog 149 = some true∧zeroT Tryz.prog 149 = some [.bool false,.bool false,.str [],.int .i64 0,.nilslc,.flt 0]:=by and_intros <;> kernel_rfl
@[simp] theorem Tryz.bytes149:bytesT Tryz.prog 149 = some 64:=by kernel_rfl
@[simp] theorem Tryz.field149n0:fieldT Tryz.prog 149 0 = some (0,4):=by kernel_rfl
@[simp] theorem Tryz.field149n1:fieldT Tryz.prog 149 1 = some (1,4):=by kernel_rfl
@[simp] theorem Tryz.field149n2:fieldT Tryz.prog 149 2 = some (2,9):=by kernel_rfl
@[simp] theorem Tryz.field149n3:fieldT Tryz.prog 149 3 = some (3,147):=by kernel_rfl
@[simp] theorem Tryz.T150:sizeT Tryz.prog 150 = some 1∧isAggT Tryz.prog 150 = some false∧zeroT Tryz.prog 150 = some [.nilslc]∧elemT Tryz.prog 150 = some 308:=by and_intros <;> kernel_rfl
@[simp] theorem Tryz.bytes150:bytesT Tryz.prog 150 = some 24:=by kernel_rfl
@[simp] theorem Tryz.T152:sizeT Tryz.prog 152 = some 11∧isAggT Tryz.prog 152 = some true∧zeroT Tryz.prog 152 = some [.int .i64 0,.str [],.str [],.bool false,.bool false,.str [],.int .i64 0,.nilslc,.flt 0,.nilslc,.int .i64 0]:=by and_intros <;> kernel_rfl
@[simp] theorem Tryz.bytes152:bytesT Tryz.prog 152 = some 136:=by kernel_rfl
@[simp] theorem Tryz.field152n0:fieldT Tryz.prog 152 0 = some (0,3):=by kernel_rfl
@[simp] theorem Tryz.field152n1:fieldT Tryz.prog 152 1 = some (1,9):=by kernel_rfl
@[simp] theorem Tryz.field152n2:fieldT Tryz.prog 152 2 = some (2,9):=by kernel_rfl
@[simp] theorem Tryz.field152n3:fieldT Tryz.prog 152 3 = some (3,149):=by kernel_rfl
@[simp] theorem Tryz.field152n4:fieldT Tryz.prog 152 4 = some (9,150):=by kernel_rfl
@[simp] theorem Tryz.field152n5:fieldT Tryz.prog 152 5 = some (10,3):=by kernel_rfl
@[simp] theorem Tryz.T154:sizeT Tryz.prog 154 = some 19∧isAggT Tryz.prog 154 = some true∧zeroT Tryz.prog 154 = some [.int .i64 0,.int .i64 0,.str [],.str [],.bool false,.bool false,.str [],.int .i64 0,.nilslc,.flt 0,.nilslc,.int .i64 0,.str [],.str [],.int .i64 0,.str [],.int .i64 0,.int .i64 0,.nilslc]:=by and_intros <;> kernel_rfl
@[simp] theorem Tryz.bytes154:bytesT Tryz.prog 154 = some 240:=by kernel_rfl
@[simp] theorem Tryz.field154n0:fieldT Tryz.prog 154 0 = some (0,3):=by kernel_rfl
@[simp] theorem Tryz.field154n1:fieldT Tryz.prog 154 1 = some (1,152):=by kernel_rfl
@[simp] theorem Tryz.field154n2:fieldT Tryz.prog 154 2 = some (12,112):=by kernel_rfl
@[simp] theorem Tryz.field154n3:fieldT Tryz.prog 154 3 = some (14,3):=by kernel_rfl
@[simp] theorem Tryz.field154n4:fieldT Tryz.prog 154 4 = some (15,9):=by kernel_rfl
@[simp] theorem Tryz.field154n5:fieldT Tryz.prog 154 5 = some (16,3):=by kernel_rfl
@[simp] theorem Tryz.field154n6:fieldT Tryz.prog 154 6 = some (17,3):=by kernel_rfl
@[simp] theorem Tryz.field154n7:fieldT Tryz.prog 154 7 = some (18,47):=by kernel_rfl
@[simp] theorem Tryz.T161:sizeT Tryz.prog 161 = some 1∧isAggT Tryz.prog 161 = some false∧zeroT Tryz.prog 161 = some [.nilptr]:=by and_intros <;> kernel_rfl
@[simp] theorem Tryz.bytes161:bytesT Tryz.prog 161 = some 8:=by kernel_rfl
@[simp] theorem Tryz.T163:sizeT Tryz.prog 163 = some 1∧isAggT Tryz.prog 163 = some false∧zeroT Tryz.prog 163 = some [.nilptr]:=by and_intros <;> kernel_rfl
@[simp] theorem Tryz.bytes163:bytesT Tryz.prog 163 = some 8:=by kernel_rfl
@[simp] theorem Tryz.T165:sizeT Tryz.prog 165 = some 3∧isAggT Tryz.prog 165 = some true∧zeroT Tryz.prog 165 = some [.int .i64 0,.nilptr,.nilptr]:=by and_intros <;> kernel_rfl
@[simp] theorem Tryz.bytes165:bytesT Tryz.prog 165 = some 24:=by kernel_rfl
@[simp] theorem Tryz.field165n0:fieldT Tryz.prog 165 0 = some (0,3):=by kernel_rfl
@[simp] theorem Tryz.field165n1:fieldT Tryz.prog 165 1 = some (1,161):=by kernel_rfl
@[simp] theorem Tryz.field165n2:fieldT Tryz.prog 165 2 = some (2,163):=by kernel_rfl
@[simp] theorem Tryz.T168:sizeT Tryz.prog 168 = some 4∧isAggT Tryz.prog 168 = some true∧zeroT Tryz.prog 168 = some [.str [],.str [],.int .i64 0,.int .i64 0]:=by and_intros <;> kernel_rfl
@[simp] theorem Tryz.bytes168:bytesT Tryz.prog 168 = some 48:=by kernel_rfl
@[simp] theorem Tryz.field168n0:fieldT Tryz.prog 168 0 = some (0,112):=by kernel_rfl
@[simp] theorem Tryz.field168n1:fieldT Tryz.prog 168 1 = some (2,3):=by kernel_rfl
@[simp] theorem Tryz.field168n2:fieldT Tryz.prog 168 2 = some (3,3):=by kernel_rfl
@[simp] theorem Tryz.T172:sizeT Tryz.prog 172 = some 1∧isAggT Tryz.prog 172 = some false∧zeroT Tryz.prog 172 = some [.nilslc]∧elemT Tryz.prog 172 = some 179:=by and_intros <;> kernel_rfl
@[simp] theorem Tryz.bytes172:bytesT Tryz.prog 172 = some 24:=by kernel_rfl
@[simp] theorem Tryz.T174:sizeT Tryz.prog 174 = some 4∧isAggT Tryz.prog 174 = some true∧zeroT Tryz.prog 174 = some [.int .i64 0,.int .i64 0,.nilslc,.nilslc]:=by and_intros <;> kernel_rfl
@[simp] theorem Tryz.bytes174:bytesT Tryz.prog 174 = some 64:=by kernel_rfl
@[simp] theorem Tryz.field174n0:fieldT Tryz.prog 174 0 = some (0,3):=by kernel_rfl
@[simp] theorem Tryz.field174n1:fieldT Tryz.prog 174 1 = some (1,3):=by kernel_rfl
@[simp] theorem Tryz.field174n2:fieldT Tryz.prog 174 2 = some (2,172):=by kernel_rfl
@[simp] theorem Tryz.field174n3:fieldT Tryz.prog 174 3 = some (3,172):=by kernel_rfl
@[simp] theorem Tryz.T179:sizeT Tryz.prog 179 = some 1∧isAggT Tryz.prog 179 = some false∧zeroT Tryz.prog 179 = some [.nilptr]:=by and_intros <;> kernel_rfl
@[simp] theorem Tryz.bytes179:bytesT Tryz.prog 179 = some 8:=by kernel_rfl
@[simp] theorem Tryz.T181:sizeT Tryz.prog 181 = some 4∧isAggT Tryz.prog 181 = some true∧zeroT Tryz.prog 181 = some [.int .i64 0,.int .i64 0,.nilslc,.nilslc]:=by and_intros <;> kernel_rfl
@[simp] theorem Tryz.bytes181:bytesT Tryz.prog 181 = some 64:=by kernel_rfl
@[simp] theorem Tryz.field181n0:fieldT Tryz.prog 181 0 = some (0,3):=by kernel_rfl
@[simp] theorem Tryz.field181n1:fieldT Tryz.prog 181 1 = some (1,3):=by kernel_rfl
@[simp] theorem Tryz.field181n2:fieldT Tryz.prog 181 2 = some (2,47):=by kernel_rfl
@[simp] theorem Tryz.field181n3:fieldT Tryz.prog 181 3 = some (3,43):=by kernel_rfl
@[simp] theorem Tryz.T186:sizeT Tryz.prog 186 = some 2∧isAggT Tryz.prog 186 = some true∧zeroT Tryz.prog 186 = some [.int .i64 0,.nilslc]:=by and_intros <;> kernel_rfl
@[simp] theorem Tryz.bytes186:bytesT Tryz.prog 186 = some 32:=by kernel_rfl
@[simp] theorem Tryz.field186n0:fieldT Tryz.prog 186 0 = some (0,3):=by kernel_rfl
@[simp] theorem Tryz.field186n1:fieldT Tryz.prog 186 1 = some (1,47):=by kernel_rfl
@[simp] theorem Tryz.T191:sizeT Tryz.prog 191 = some 1∧isAggT Tryz.prog 191 = some false∧zeroT Tryz.prog 191 = some [.nilptr]:=by and_intros <;> kernel_rfl
@[simp] theorem Tryz.bytes191:bytesT Tryz.prog 191 = some 8:=by kernel_rfl
@[simp] theorem Tryz.T197:sizeT Tryz.prog 197 = some 1∧isAggT Tryz.prog 197 = some false∧zeroT Tryz.prog 197 = some [.nilptr]:=by and_intros <;> kernel_rfl
@[simp] theorem Tryz.bytes197:bytesT Tryz.prog 197 = some 8:=by kernel_rfl
@[simp] theorem Tryz.T200:sizeT Tryz.prog 200 = some 1∧isAggT Tryz.prog 200 = some false∧zeroT Tryz.prog 200 = some [.nilptr]:=by and_intros <;> kernel_rfl
@[simp] theorem Tryz.bytes200:bytesT Tryz.prog 200 = some 8:=by kernel_rfl
@[simp] theorem Tryz.T203:sizeT Tryz.prog 203 = some 15∧isAggT Tryz.prog 203 = some true∧zeroT Tryz.prog 203 = some [.int .i64 0,.nilptr,.int .i64 0,.int .i64 0,.nilslc,.str [],.str [],.int .i64 0,.int .i64 0,.int .i64 0,.int .i64 0,.int .i64 0,.str [],.nilslc,.nilptr]:=by and_intros <;> kernel_rfl
@[simp] theorem Tryz.bytes203:bytesT Tryz.prog 203 = some 176:=by kernel_rfl
@[simp] theorem Tryz.field203n0:fieldT Tryz.prog 203 0 = some (0,3):=by kernel_rfl
@[simp] theorem Tryz.field203n1:fieldT Tryz.prog 203 1 = some (1,197):=by kernel_rfl
@[simp] theorem Tryz.field203n2:fieldT Tryz.prog 203 2 = some (2,3):=by kernel_rfl
@[simp] theorem Tryz.field203n3:fieldT Tryz.prog 203 3 = some (3,114):=by kernel_rfl
@[simp] theorem Tryz.field203n4:fieldT Tryz.prog 203 4 = some (14,200):=by kernel_rfl
@[simp] theorem Tryz.T204:sizeT Tryz.prog 204 = some 1∧isAggT Tryz.prog 204 = some false∧zeroT Tryz.prog 204 = some [.nilslc]∧elemT Tryz.prog 204 = some 208:=by and_intros <;> kernel_rfl
@[simp] theorem Tryz.bytes204:bytesT Tryz.prog 204 = some 24:=by kernel_rfl
@[simp] theorem Tryz.T206:sizeT Tryz.prog 206 = some 3∧isAggT Tryz.prog 206 = some true∧zeroT Tryz.prog 206 = some [.nilslc,.int .i64 0,.int .i64 0]:=by and_intros <;> kernel_rfl
@[simp] theorem Tryz.bytes206:bytesT Tryz.prog 206 = some 40:=by kernel_rfl
@[simp] theorem Tryz.field206n0:fieldT Tryz.prog 206 0 = some (0,204):=by kernel_rfl
@[simp] theorem Tryz.field206n1:fieldT Tryz.prog 206 1 = some (1,3):=by kernel_rfl
@[simp] theorem Tryz.field206n2:fieldT Tryz.prog 206 2 = some (2,44):=by kernel_rfl
@[simp] theorem Tryz.T207:sizeT Tryz.prog 207 = some 1∧isAggT Tryz.prog 207 = some false∧zeroT Tryz.prog 207 = some [.nilslc]∧elemT Tryz.prog 207 = some 112:=by and_intros <;> kernel_rfl
@[simp] theorem Tryz.bytes207:bytesT Tryz.prog 207 = some 24:=by kernel_rfl
@[simp] theorem Tryz.T208:sizeT Tryz.prog 208 = some 1∧isAggT Tryz.prog 208 = some false∧zeroT Tryz.prog 208 = some [.nilptr]:=by and_intros <;> kernel_rfl
@[simp] theorem Tryz.bytes208:bytesT Tryz.prog 208 = some 8:=by kernel_rfl
@[simp] theorem Tryz.T209:sizeT Tryz.prog 209 = some 1∧isAggT Tryz.prog 209 = some false∧zeroT Tryz.prog 209 = some [.nilptr]:=by and_intros <;> kernel_rfl
@[simp] theorem Tryz.bytes209:bytesT Tryz.prog 209 = some 8:=by kernel_rfl
@[simp] theorem Tryz.T212:sizeT Tryz.prog 212 = some 6∧isAggT Tryz.prog 212 = some true∧zeroT Tryz.prog 212 = some [.str [],.str [],.int .i64 0,.bool false,.nilptr,.nilptr]:=by and_intros <;> kernel_rfl
@[simp] theorem Tryz.bytes212:bytesT Tryz.prog 212 = some 64:=by kernel_rfl
@[simp] theorem Tryz.field212n0:fieldT Tryz.prog 212 0 = some (0,112):=by kernel_rfl
@[simp] theorem Tryz.field212n1:fieldT Tryz.prog 212 1 = some (2,3):=by kernel_rfl
@[simp] theorem Tryz.field212n2:fieldT Tryz.prog 212 2 = some (3,4):=by kernel_rfl
@[simp] theorem Tryz.field212n3:fieldT Tryz.prog 212 3 = some (4,209):=by kernel_rfl
@[simp] theorem Tryz.field212n4:fieldT Tryz.prog 212 4 = some (5,200):=by kernel_rfl
@[simp] theorem Tryz.T216:sizeT Tryz.prog 216 = some 1∧isAggT Tryz.prog 216 = some true∧zeroT Tryz.prog 216 = some [.nilslc]:=by and_intros <;> kernel_rfl
@[simp] theorem Tryz.bytes216:bytesT Tryz.prog 216 = some 24:=by kernel_rfl
@[simp] theorem Tryz.field216n0:fieldT Tryz.prog 216 0 = some (0,47):=by kernel_rfl
@[simp] theorem Tryz.T218:sizeT Tryz.prog 218 = some 1∧isAggT Tryz.prog 218 = some false∧zeroT Tryz.prog 218 = some [.int .u32 0]:=by and_intros <;> kernel_rfl
@[simp] theorem Tryz.bytes218:bytesT Tryz.prog 218 = some 4:=by kernel_rfl
@[simp] theorem Tryz.T221:sizeT Tryz.prog 221 = some 3∧isAggT Tryz.prog 221 = some true∧zeroT Tryz.prog 221 = some [.int .i64 0,.int .i64 0,.nilslc]:=by and_intros <;> kernel_rfl
@[simp] theorem Tryz.bytes221:bytesT Tryz.prog 221 = some 40:=by kernel_rfl
@[simp] theorem Tryz.field221n0:fieldT Tryz.prog 221 0 = some (0,3):=by kernel_rfl
@[simp] theorem Tryz.field221n1:fieldT Tryz.prog 221 1 = some (1,3):=by kernel_rfl
@[simp] theorem Tryz.field221n2:fieldT Tryz.prog 221 2 = some (2,47):=by kernel_rfl
@[simp] theorem Tryz.T234:sizeT Tryz.prog 234 = some 3∧isAggT Tryz.prog 234 = some true∧zeroT Tryz.prog 234 = some [.int .i64 0,.int .i64 0,.nilslc]:=by and_intros <;> kernel_rfl
@[simp] theorem Tryz.bytes234:bytesT Tryz.prog 234 = some 40:=by kernel_rfl
@[simp] theorem Tryz.field234n0:fieldT Tryz.prog 234 0 = some (0,3):=by kernel_rfl
@[simp] theorem Tryz.field234n1:fieldT Tryz.prog 234 1 = some (1,3):=by kernel_rfl
@[simp] theorem Tryz.field234n2:fieldT Tryz.prog 234 2 = some (2,47):=by kernel_rfl
@[simp] theorem Tryz.T247:sizeT Tryz.prog 247 = some 1∧isAggT Tryz.prog 247 = some false∧zeroT Tryz.prog 247 = some [.nilptr]:=by and_intros <;> kernel_rfl
@[simp] theorem Tryz.bytes247:bytesT Tryz.prog 247 = some 8:=by kernel_rfl
@[simp] theorem Tryz.T260:sizeT Tryz.prog 260 = some 1∧isAggT Tryz.prog 260 = some false∧zeroT Tryz.prog 260 = some [.nilslc]∧elemT Tryz.prog 260 = some 373:=by and_intros <;> kernel_rfl
@[simp] theorem Tryz.bytes260:bytesT Tryz.prog 260 = some 24:=by kernel_rfl
@[simp] theorem Tryz.T262:sizeT Tryz.prog 262 = some 1∧isAggT Tryz.prog 262 = some true∧zeroT Tryz.prog 262 = some [.nilslc]:=by and_intros <;> kernel_rfl
@[simp] theorem Tryz.bytes262:bytesT Tryz.prog 262 = some 24:=by kernel_rfl
@[simp] theorem Tryz.field262n0:fieldT Tryz.prog 262 0 = some (0,260):=by kernel_rfl
@[simp] theorem Tryz.T264:sizeT Tryz.prog 264 = some 1∧isAggT Tryz.prog 264 = some true∧zeroT Tryz.prog 264 = some [.nilslc]:=by and_intros <;> kernel_rfl
@[simp] theorem Tryz.bytes264:bytesT Tryz.prog 264 = some 24:=by kernel_rfl
@[simp] theorem Tryz.field264n0:fieldT Tryz.prog 264 0 = some (0,110):=by kernel_rfl
@[simp] theorem Tryz.T269:sizeT Tryz.prog 269 = some 1∧isAggT Tryz.prog 269 = some false∧zeroT Tryz.prog 269 = some [.int .u64 0]:=by and_intros <;> kernel_rfl
@[simp] theorem Tryz.bytes269:bytesT Tryz.prog 269 = some 8:=by kernel_rfl
@[simp] theorem Tryz.T294:sizeT Tryz.prog 294 = some 1∧isAggT Tryz.prog 294 = some false∧zeroT Tryz.prog 294 = some [.nilslc]∧elemT Tryz.prog 294 = some 348:=by and_intros <;> kernel_rfl
@[simp] theorem Tryz.bytes294:bytesT Tryz.prog 294 = some 24:=by kernel_rfl
@[simp] theorem Tryz.T296:sizeT Tryz.prog 296 = some 1∧isAggT Tryz.prog 296 = some true∧zeroT Tryz.prog 296 = some [.nilslc]:=by and_intros <;> kernel_rfl
@[simp] theorem Tryz.bytes296:bytesT Tryz.prog 296 = some 24:=by kernel_rfl
@[simp] theorem Tryz.field296n0:fieldT Tryz.prog 296 0 = some (0,294):=by kernel_rfl
@[simp] theorem Tryz.T298:sizeT Tryz.prog 298 = some 2∧isAggT Tryz.prog 298 = some true∧zeroT Tryz.prog 298 = some [.str [],.nilslc]:=by and_intros <;> kernel_rfl
@[simp] theorem Tryz.bytes298:bytesT Tryz.prog 298 = some 40:=by kernel_rfl
@[simp] theorem Tryz.field298n0:fieldT Tryz.prog 298 0 = some (0,9):=by kernel_rfl
@[simp] theorem Tryz.field298n1:fieldT Tryz.prog 298 1 = some (1,296):=by kernel_rfl
@[simp] theorem Tryz.T308:sizeT Tryz.prog 308 = some 6∧isAggT Tryz.prog 308 = some true∧zeroT Tryz.prog 308 = some [.int .i64 0,.str [],.int .i64 0,.int .i64 0,.nilslc,.flt 0]:=by and_intros <;> kernel_rfl
@[simp] theorem Tryz.bytes308:bytesT Tryz.prog 308 = some 72:=by kernel_rfl
@[simp] theorem Tryz.field308n0:fieldT Tryz.prog 308 0 = some (0,3):=by kernel_rfl
@[simp] theorem Tryz.field308n1:fieldT Tryz.prog 308 1 = some (1,9):=by kernel_rfl
@[simp] theorem Tryz.field308n2:fieldT Tryz.prog 308 2 = some (2,2):=by kernel_rfl
@[simp] theorem Tryz.field308n3:fieldT Tryz.prog 308 3 = some (3,147):=by kernel_rfl
@[simp] theorem Tryz.T310:sizeT Tryz.prog 310 = some 1∧isAggT Tryz.prog 310 = some true∧zeroT Tryz.prog 310 = some [.nilslc]:=by and_intros <;> kernel_rfl
@[simp] theorem Tryz.bytes310:bytesT Tryz.prog 310 = some 24:=by kernel_rfl
@[simp] theorem Tryz.field310n0:fieldT Tryz.prog 310 0 = some (0,47):=by kernel_rfl
@[simp] theorem Tryz.T323:sizeT Tryz.prog 323 = some 1∧isAggT Tryz.prog 323 = some false∧zeroT Tryz.prog 323 = some [.int .u64 0]:=by and_intros <;> kernel_rfl
@[simp] theorem Tryz.bytes323:bytesT Tryz.prog 323 = some 8:=by kernel_rfl
@[simp] theorem Tryz.T336:sizeT Tryz.prog 336 = some 16∧isAggT Tryz.prog 336 = some true∧zeroT Tryz.prog 336 = some [.bool false,.bool false,.bool false,.bool false,.bool false,.bool false,.bool false,.bool false,.bool false,.bool false,.bool false,.bool false,.bool false,.bool false,.bool false,.bool false]:=by and_intros <;> kernel_rfl
@[simp] theorem Tryz.bytes336:bytesT Tryz.prog 336 = some 16:=by kernel_rfl
@[simp] theorem Tryz.T346:sizeT Tryz.prog 346 = some 1∧isAggT Tryz.prog 346 = some false∧zeroT Tryz.prog 346 = some [.nilslc]∧elemT Tryz.prog 346 = some 350:=by and_intros <;> kernel_rfl
@[simp] theorem Tryz.bytes346:bytesT Tryz.prog 346 = some 24:=by kernel_rfl
@[simp] theorem Tryz.T348:sizeT Tryz.prog 348 = some 2∧isAggT Tryz.prog 348 = some true∧zeroT Tryz.prog 348 = some [.str [],.nilslc]:=by and_intros <;> kernel_rfl
@[simp] theorem Tryz.bytes348:bytesT Tryz.prog 348 = some 40:=by kernel_rfl
@[simp] theorem Tryz.field348n0:fieldT Tryz.prog 348 0 = some (0,9):=by kernel_rfl
@[simp] theorem Tryz.field348n1:fieldT Tryz.prog 348 1 = some (1,346):=by kernel_rfl
@[simp] theorem Tryz.T350:sizeT Tryz.prog 350 = some 4∧isAggT Tryz.prog 350 = some true∧zeroT Tryz.prog 350 = some [.int .i64 0,.int .i64 0,.nilslc,.flt 0]:=by and_intros <;> kernel_rfl
@[simp] theorem Tryz.bytes350:bytesT Tryz.prog 350 = some 48:=by kernel_rfl
@[simp] theorem Tryz.field350n0:fieldT Tryz.prog 350 0 = some (0,2):=by kernel_rfl
@[simp] theorem Tryz.field350n1:fieldT Tryz.prog 350 1 = some (1,147):=by kernel_rfl
@[simp] theorem Tryz.T361:sizeT Tryz.prog 361 = some 1∧isAggT Tryz.prog 361 = some false∧zeroT Tryz.prog 361 = some [.nilslc]∧elemT Tryz.prog 361 = some 117:=by and_intros <;> kernel_rfl
@[simp] theorem Tryz.bytes361:bytesT Tryz.prog 361 = some 24:=by kernel_rfl
@[simp] theorem Tryz.T363:sizeT Tryz.prog 363 = some 1∧isAggT Tryz.prog 363 = some true∧zeroT Tryz.prog 363 = some [.nilslc]:=by and_intros <;> kernel_rfl
@[simp] theorem Tryz.bytes363:bytesT Tryz.prog 363 = some 24:=by kernel_rfl
@[simp] theorem Tryz.field363n0:fieldT Tryz.prog 363 0 = some (0,361):=by kernel_rfl
@[simp] theorem Tryz.T373:sizeT Tryz.prog 373 = some 3∧isAggT Tryz.prog 373 = some true∧zeroT Tryz.prog 373 = some [.int .i64 0,.int .i64 0,.nilslc]:=by and_intros <;> kernel_rfl
@[simp] theorem Tryz.bytes373:bytesT Tryz.prog 373 = some 40:=by kernel_rfl
@[simp] theorem Tryz.field373n0:fieldT Tryz.prog 373 0 = some (0,3):=by kernel_rfl
@[simp] theorem Tryz.field373n1:fieldT Tryz.prog 373 1 = some (1,3):=by kernel_rfl
@[simp] theorem Tryz.field373n2:fieldT Tryz.prog 373 2 = some (2,47):=by kernel_rfl
@[simp] theorem Tryz.T416:sizeT Tryz.prog 416 = some 1∧isAggT Tryz.prog 416 = some false∧zeroT Tryz.prog 416 = some [.int .i64 0]:=by and_intros <;> kernel_rfl
@[simp] theorem Tryz.bytes416:bytesT Tryz.prog 416 = some 8:=by kernel_rfl
@[simp] theorem Tryz.T430:sizeT Tryz.prog 430 = some 1∧isAggT Tryz.prog 430 = some false∧zeroT Tryz.prog 430 = some [.nilslc]∧elemT Tryz.prog 430 = some 9:=by and_intros <;> kernel_rfl
@[simp] theorem Tryz.bytes430:bytesT Tryz.prog 430 = some 24:=by kernel_rfl
@[simp] theorem Tryz.T447:sizeT Tryz.prog 447 = some 1∧isAggT Tryz.prog 447 = some false∧zeroT Tryz.prog 447 = some [.int .u64 0]:=by and_intros <;> kernel_rfl
@[simp] theorem Tryz.bytes447:bytesT Tryz.prog 447 = some 8:=by kernel_rfl
@[simp] theorem Tryz.T450:sizeT Tryz.prog 450 = some 1∧isAggT Tryz.prog 450 = some false∧zeroT Tryz.prog 450 = some [.nilptr]:=by and_intros <;> kernel_rfl
@[simp] theorem Tryz.bytes450:bytesT Tryz.prog 450 = some 8:=by kernel_rfl
@[simp] theorem Tryz.T461:sizeT Tryz.prog 461 = some 1∧isAggT Tryz.prog 461 = some false∧zeroT Tryz.prog 461 = some [.nilptr]:=by and_intros <;> kernel_rfl
@[simp] theorem Tryz.bytes461:bytesT Tryz.prog 461 = some 8:=by kernel_rfl
end Go.Proofs.YtkpmdlcmbemgdaaGreat
