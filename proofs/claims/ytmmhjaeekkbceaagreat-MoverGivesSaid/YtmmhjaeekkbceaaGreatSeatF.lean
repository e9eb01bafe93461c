/- A part of a proof over the abstract machine. No conditions. -/
import Derived.Test.YtmmhjaeekkbceaaGreatAb3
import Derived.Test.YtmmhjaeekkbceaaGreatRows
namespace Go.Proofs.YtmmhjaeekkbceaaGreat
open Go Go.Ab
theorem Tryz.tyCount:Tryz.prog.types.size = 346:=by kernel_rfl
attribute [simp] Tryz.tyCount Tryz.underlying2 Tryz.underlying3 Tryz.underlying4 Tryz.underlying5 Tryz.underlying9 Tryz.underlying21 Tryz.underlying22 Tryz.underlying24 Tryz.underlying25 Tryz.underlying26 Tryz.underlying27 Tryz.underlying29 Tryz.underlying31 Tryz.underlying32 Tryz.underlying34 Tryz.underlying36 Tryz.underlying37 Tryz.underlying39 Tryz.underlying41 Tryz.underlying43 Tryz.underlying46 Tryz.underlying48 Tryz.underlying49 Tryz.underlying56 Tryz.underlying64 Tryz.underlying66 Tryz.underlying68 Tryz.underlying77 Tryz.underlying83 Tryz.underlying84 Tryz.underlying86 Tryz.underlying87 Tryz.underlying89 Tryz.underlying94 Tryz.underlying96 Tryz.underlying108 Tryz.underlying111 Tryz.underlying113 Tryz.underlying115 Tryz.underlying127 Tryz.underlying130 Tryz.underlying133 Tryz.underlying136 Tryz.underlying139 Tryz.underlying140 Tryz.underlying142 Tryz.underlying143 Tryz.underlying144 Tryz.underlying147 Tryz.underlying157 Tryz.underlying166 Tryz.underlying168 Tryz.underlying170 Tryz.underlying172 Tryz.underlying177 Tryz.underlying189 Tryz.underlying191 Tryz.underlying193 Tryz.underlying211 Tryz.underlying215 Tryz.underlying217 Tryz.underlying245
@[simp] theorem Tryz.T2:sizeT Tryz.prog 2 = some 1∧isAggT Tryz.prog 2 = some false∧zeroT Tryz.prog 2 = some [.int .i64 0]:=by and_intros <;> kernel_rfl
@[simp] theorem Tryz.bytes2:bytesT Tryz.prog 2 = some 8:=by kernel_rfl
@[simp] theorem Tryz.T3:sizeT Tryz.prog 3 = some 1∧isAggT Tryz.prog 3 = some false∧zeroT Tryz.prog 3 = some [.int .i64 0]:=by and_intros <;> kernel_rfl
@[simp] theorem Tryz.bytes3:bytesT Tryz.prog 3 = some 8:=by kernel_rfl
@[simp] theorem Tryz.T4:sizeT Tryz.prog 4 = some 1∧isAggT Tryz.prog 4 = some false∧zeroT Tryz.prog 4 = some [.bool false]:=by and_intros <;> kernel_rfl
@[simp] theorem Tryz.bytes4:bytesT Tryz.prog 4 = some 1:=by kernel_rfl
@[simp] theorem Tryz.T5:sizeT Tryz.prog 5 = some 1∧isAggT Tryz.prog 5 = some false∧zeroT Tryz.prog 5 = some [.int .u8 0]:=by and_intros <;> kernel_rfl
@[simp] theorem Tryz.bytes5:bytesT Tryz.prog 5 = some 1:=by kernel_rfl
@[simp] theorem Tryz.T9:sizeT Tryz.prog 9 = some 1∧isAggT Tryz.prog 9 = some false∧zeroT Tryz.prog 9 = some [.str []]:=by and_intros <;> kernel_rfl
@[simp] theorem Tryz.bytes9:bytesT Tryz.prog 9 = some 16:=by kernel_rfl
@[simp] theorem Tryz.T21:sizeT Tryz.prog 21 = some 1∧isAggT Tryz.prog 21 = some false∧zeroT Tryz.prog 21 = some [.int .i32 0]:=by and_intros <;> kernel_rfl
@[simp] theorem Tryz.bytes21:bytesT Tryz.prog 21 = some 4:=by kernel_rfl
@[simp] theorem Tryz.T22:sizeT Tryz.prog 22 = some 1∧isAggT Tryz.prog 22 = some false∧zeroT Tryz.prog 22 = some [.nilptr]:=by and_intros <;> kernel_rfl
@[simp] theorem Tryz.bytes22:bytesT Tryz.prog 22 = some 8:=by kernel_rfl
@[simp] theorem Tryz.T24:sizeT Tryz.prog 24 = some 1∧isAggT Tryz.prog 24 = some false∧zeroT Tryz.prog 24 = some [.int .i64 0]:=by and_intros <;> kernel_rfl
@[simp] theorem Tryz.bytes24:bytesT Tryz.prog 24 = some 8:=by kernel_rfl
@[simp] theorem Tryz.T25:sizeT Tryz.prog 25 = some 1∧isAggT Tryz.prog 25 = some false∧zeroT Tryz.prog 25 = some [.nilptr]:=by and_intros <;> kernel_rfl
@[simp] theorem Tryz.bytes25:bytesT Tryz.prog 25 = some 8:=by kernel_rfl
@[simp] theorem Tryz.T26:sizeT Tryz.prog 26 = some 1∧isAggT Tryz.prog 26 = some false∧zeroT Tryz.prog 26 = some [.nilslc]∧elemT Tryz.prog 26 = some 49:=by and_intros <;> kernel_rfl
@[simp] theorem Tryz.bytes26:bytesT Tryz.prog 26 = some 24:=by kernel_rfl
@[simp] theorem Tryz.T27:sizeT Tryz.prog 27 = some 1∧isAggT Tryz.prog 27 = some false∧zeroT Tryz.prog 27 = some [.nilslc]∧elemT Tryz.prog 27 = some 96:=by and_intros <;> kernel_rfl
@[simp] theorem Tryz.bytes27:bytesT Tryz.prog 27 = some 24:=by kernel_rfl
@[simp] theorem Tryz.T29:sizeT Tryz.prog 29 = some 5∧isAggT Tryz.prog 29 = some true∧zeroT Tryz.prog 29 = some [.nilptr,.nilslc,.nilslc,.int .i64 0,.bool false]:=by and_intros <;> kernel_rfl
@[simp] theorem Tryz.bytes29:bytesT Tryz.prog 29 = some 72:=by kernel_rfl
@[simp] theorem Tryz.field29n0:fieldT Tryz.prog 29 0 = some (0,25):=by kernel_rfl
@[simp] theorem Tryz.field29n1:fieldT Tryz.prog 29 1 = some (1,26):=by kernel_rfl
@[simp] theorem Tryz.field29n2:fieldT Tryz.prog 29 2 = some (2,27):=by kernel_rfl
@[simp] theorem Tryz.field29n3:fieldT Tryz.prog 29 3 = some (3,3):=by kernel_rfl
@[simp] theorem Tryz.field29n4:fieldT Tryz.prog 29 4 = some (4,4):=by kernel_rfl
@[simp] theorem Tryz.T31:sizeT Tryz.prog 31 = some 1∧isAggT Tryz.prog 31 = some false∧zeroT Tryz.prog 31 = some [.nilslc]∧elemT Tryz.prog 31 = some 5:=by and_intros <;> kernel_rfl
@[simp] theorem Tryz.bytes31:bytesT Tryz.prog 31 = some 24:=by kernel_rfl
@[simp] theorem Tryz.T32:sizeT Tryz.prog 32 = some 1∧isAggT Tryz.prog 32 = some false∧zeroT Tryz.prog 32 = some [.flt 0]:=by and_intros <;> kernel_rfl
@[simp] theorem Tryz.bytes32:bytesT Tryz.prog 32 = some 8:=by kernel_rfl
@[simp] theorem Tryz.T34:sizeT Tryz.prog 34 = some 3∧isAggT Tryz.prog 34 = some true∧zeroT Tryz.prog 34 = some [.int .i64 0,.nilslc,.flt 0]:=by and_intros <;> kernel_rfl
@[simp] theorem Tryz.bytes34:bytesT Tryz.prog 34 = some 40:=by kernel_rfl
@[simp] theorem Tryz.field34n0:fieldT Tryz.prog 34 0 = some (0,3):=by kernel_rfl
@[simp] theorem Tryz.field34n1:fieldT Tryz.prog 34 1 = some (1,31):=by kernel_rfl
@[simp] theorem Tryz.field34n2:fieldT Tryz.prog 34 2 = some (2,32):=by kernel_rfl
@[simp] theorem Tryz.T36:sizeT Tryz.prog 36 = some 6∧isAggT Tryz.prog 36 = some true∧zeroT Tryz.prog 36 = some [.bool false,.bool false,.str [],.int .i64 0,.nilslc,.flt 0]:=by and_intros <;> kernel_rfl
@[simp] theorem Tryz.bytes36:bytesT Tryz.prog 36 = some 64:=by kernel_rfl
@[simp] theorem Tryz.field36n0:fieldT Tryz.prog 36 0 = some (0,4):=by kernel_rfl
@[simp] theorem Tryz.field36n1:fieldT Tryz.prog 36 1 = some (1,4):=by kernel_rfl
@[simp] theorem Tryz.field36n2:fieldT Tryz.prog 36 2 = some (2,9):=by kernel_rfl
@[simp] theorem Tryz.field36n3:fieldT Tryz.prog 36 3 = some (3,34):=by kernel_rfl
@[simp] theorem Tryz.T37:sizeT Tryz.prog 37 = some 1∧isAggT Tryz.prog 37 = some false∧zeroT Tryz.prog 37 = some [.nilslc]∧elemT Tryz.prog 37 = some 48:=by and_intros <;> kernel_rfl
@[simp] theorem Tryz.bytes37:bytesT Tryz.prog 37 = some 24:=by kernel_rfl
@[simp] theorem Tryz.T39:sizeT Tryz.prog 39 = some 11∧isAggT Tryz.prog 39 = some true∧zeroT Tryz.prog 39 = some [.int .i64 0,.str [],.str [],.bool false,.bool false,.str [],.int .i64 0,.nilslc,.flt 0,.nilslc,.int .i64 0]:=by and_intros <;> kernel_rfl
@[simp] theorem Tryz.bytes39:bytesT Tryz.prog 39 = some 136:=by kernel_rfl
@[simp] theorem Tryz.field39n0:fieldT Tryz.prog 39 0 = some (0,3):=by kernel_rfl
@[simp] theorem Tryz.field39n1:fieldT Tryz.prog 39 1 = some (1,9):=by kernel_rfl
@[simp] theorem Tryz.field39n2:fieldT Tryz.prog 39 2 = some (2,9):=by kernel_rfl
@[simp] theorem Tryz.field39n3:fieldT Tryz.prog 39 3 = some (3,36):=by kernel_rfl
@[simp] theorem Tryz.field39n4:fieldT Tryz.prog 39 4 = some (9,37):=by kernel_rfl
@[simp] theorem Tryz.field39n5:fieldT Tryz.prog 39 5 = some (10,3):=by kernel_rfl
@[simp] theorem Tryz.T41:sizeT Tryz.prog 41 = some 2∧isAggT Tryz.prog 41 = some true∧zeroT Tryz.prog 41 = some [.str [],.str []]:=by and_intros <;> kernel_rfl
@[simp] theorem Tryz.bytes41:bytesT Tryz.prog 41 = some 32:=by kernel_rfl
@[simp] theorem Tryz.field41n0:fieldT Tryz.prog 41 0 = some (0,9):=by kernel_rfl
@[simp] theorem Tryz.field41n1:fieldT Tryz.prog 41 1 = some (1,9):=by kernel_rfl
@[simp] theorem Tryz.T43:sizeT Tryz.prog 43 = some 19∧isAggT Tryz.prog 43 = some true∧zeroT Tryz.prog 43 = some [.int .i64 0,.int .i64 0,.str [],.str [],.bool false,.bool false,.str [],.int .i64 0,.nilslc,.flt 0,.nilslc,.int .i64 0,.str [],.str [],.int .i64 0,.str [],.int .i64 0,.int .i64 0,.nilslc]:=by and_intros <;> kernel_rfl
@[simp] theorem Tryz.bytes43:bytesT Tryz.prog 43 = some 240:=by kernel_rfl
@[simp] theorem Tryz.field43n0:fieldT Tryz.prog 43 0 = some (0,3):=by kernel_rfl
@[simp] theorem Tryz.field43n1:fieldT Tryz.prog 43 1 = some (1,39):=by kernel_rfl
@[simp] theorem Tryz.field43n2:fieldT Tryz.prog 43 2 = some (12,41):=by kernel_rfl
@[simp] theorem Tryz.field43n3:fieldT Tryz.prog 43 3 = some (14,3):=by kernel_rfl
@[simp] theorem Tryz.field43n4:fieldT Tryz.prog 43 4 = some (15,9):=by kernel_rfl
@[simp] theorem Tryz.field43n5:fieldT Tryz.prog 43 5 = some (16,3):=by kernel_rfl
@[simp] theorem Tryz.field43n6:fieldT Tryz.prog 43 6 = some (17,3):=by kernel_rfl
@[simp] theorem Tryz.field43n7:fieldT Tryz.prog 43 7 = some (18,31):=by kernel_rfl
@[simp] theorem Tryz.T46:sizeT Tryz.prog 46 = some 1∧isAggT Tryz.prog 46 = some false∧zeroT Tryz.prog 46 = some [.nilslc]∧elemT Tryz.prog 46 = some 9:=by and_intros <;> kernel_rfl
@[simp] theorem Tryz.bytes46:bytesT Tryz.prog 46 = some 24:=by kernel_rfl
@[simp] theorem Tryz.T48:sizeT Tryz.prog 48 = some 6∧isAggT Tryz.prog 48 = some true∧zeroT Tryz.prog 48 = some [.int .i64 0,.str [],.int .i64 0,.int .i64 0,.nilslc,.flt 0]:=by and_intros <;> kernel_rfl
@[simp] theorem Tryz.bytes48:bytesT Tryz.prog 48 = some 72:=by kernel_rfl
@[simp] theorem Tryz.field48n0:fieldT Tryz.prog 48 0 = some (0,3):=by kernel_rfl
@[simp] theorem Tryz.field48n1:fieldT Tryz.prog 48 1 = some (1,9):=by kernel_rfl
@[simp] theorem Tryz.field48n2:fieldT Tryz.prog 48 2 = some (2,2):=by kernel_rfl
@[simp] theorem Tryz.field48n3:fieldT Tryz.prog 48 3 = some (3,34):=by kernel_rfl
@[simp] theorem Tryz.T49:sizeT Tryz.prog 49 = some 1∧isAggT Tryz.prog 49 = some false∧zeroT Tryz.prog 49 = some [.nilptr]:=by and_intros <;> kernel_rfl
@[simp] theorem Tryz.bytes49:bytesT Tryz.prog 49 = some 8:=by kernel_rfl
@[simp] theorem Tryz.T56:sizeT Tryz.prog 56 = some 1∧isAggT Tryz.prog 56 = some false∧zeroT Tryz.prog 56 = some [.nilslc]∧elemT Tryz.prog 56 = some 89:=by and_intros <;> kernel_rfl
@[simp] theorem Tryz.bytes56:bytesT Tryz.prog 56 = some 24:=by kernel_rfl
@[simp] theorem Tryz.T64:sizeT Tryz.prog 64 = some 1∧isAggT Tryz.prog 64 = some false∧zeroT Tryz.prog 64 = some [.nilslc]∧elemT Tryz.prog 64 = some 115:=by and_intros <;> kernel_rfl
@[simp] theorem Tryz.bytes64:bytesT Tryz.prog 64 = some 24:=by kernel_rfl
@[simp] theorem Tryz.T66:sizeT Tryz.prog 66 = some 11∧isAggT Tryz.prog 66 = some true∧zeroT Tryz.prog 66 = some [.int .i64 0,.nilslc,.str [],.str [],.int .i64 0,.int .i64 0,.int .i64 0,.int .i64 0,.int .i64 0,.str [],.nilslc]:=by and_intros <;> kernel_rfl
@[simp] theorem Tryz.bytes66:bytesT Tryz.prog 66 = some 144:=by kernel_rfl
@[simp] theorem Tryz.field66n0:fieldT Tryz.prog 66 0 = some (0,24):=by kernel_rfl
@[simp] theorem Tryz.field66n1:fieldT Tryz.prog 66 1 = some (1,64):=by kernel_rfl
@[simp] theorem Tryz.field66n2:fieldT Tryz.prog 66 2 = some (2,41):=by kernel_rfl
@[simp] theorem Tryz.field66n3:fieldT Tryz.prog 66 3 = some (4,3):=by kernel_rfl
@[simp] theorem Tryz.field66n4:fieldT Tryz.prog 66 4 = some (5,3):=by kernel_rfl
@[simp] theorem Tryz.field66n5:fieldT Tryz.prog 66 5 = some (6,3):=by kernel_rfl
@[simp] theorem Tryz.field66n6:fieldT Tryz.prog 66 6 = some (7,3):=by kernel_rfl
@[simp] theorem Tryz.field66n7:fieldT Tryz.prog 66 7 = some (8,3):=by kernel_rfl
@[simp] theorem Tryz.field66n8:fieldT Tryz.prog 66 8 = some (9,9):=by kernel_rfl
@[simp] theorem Tryz.field66n9:fieldT Tryz.prog 66 9 = some (10,31):=by kernel_rfl
@[simp] theorem Tryz.T68:sizeT Tryz.prog 68 = some 19∧isAggT Tryz.prog 68 = some true∧zeroT Tryz.prog 68 = some [.int .i64 0,.int .i64 0,.int .i64 0,.int .i64 0,.nilslc,.int .i64 0,.nilslc,.str [],.str [],.int .i64 0,.int .i64 0,.int .i64 0,.int .i64 0,.int .i64 0,.str [],.nilslc,.int .i64 0,.int .i64 0,.int .i64 0]:=by and_intros <;> kernel_rfl
@[simp] theorem Tryz.bytes68:bytesT Tryz.prog 68 = some 224:=by kernel_rfl
@[simp] theorem Tryz.field68n0:fieldT Tryz.prog 68 0 = some (0,3):=by kernel_rfl
@[simp] theorem Tryz.field68n1:fieldT Tryz.prog 68 1 = some (1,3):=by kernel_rfl
@[simp] theorem Tryz.field68n2:fieldT Tryz.prog 68 2 = some (2,3):=by kernel_rfl
@[simp] theorem Tryz.field68n3:fieldT Tryz.prog 68 3 = some (3,3):=by kernel_rfl
@[simp] theorem Tryz.field68n4:fieldT Tryz.prog 68 4 = some (4,31):=by kernel_rfl
@[simp] theorem Tryz.field68n5:fieldT Tryz.prog 68 5 = some (5,66):=by kernel_rfl
@[simp] theorem Tryz.field68n6:fieldT Tryz.prog 68 6 = some (16,24):=by kernel_rfl
@[simp] theorem Tryz.field68n7:fieldT Tryz.prog 68 7 = some (17,3):=by kernel_rfl
@[simp] theorem Tryz.field68n8:fieldT Tryz.prog 68 8 = some (18,24):=by kernel_rfl
@[simp] theorem Tryz.T77:sizeT Tryz.prog 77 = some 1∧isAggT Tryz.prog 77 = some false∧zeroT Tryz.prog 77 = some [.int .u32 0]:=by and_intros <;> kernel_rfl
@[simp] theorem Tryz.bytes77:bytesT Tryz.prog 77 = some 4:=by kernel_rfl
@[simp] theorem Tryz.T83:sizeT Tryz.prog 83 = some 1∧isAggT Tryz.prog 83 = some false∧zeroT Tryz.prog 83 = some [.nilptr]:=by and_intros <;> kernel_rfl
@[simp] theorem Tryz.bytes83:bytesT Tryz.prog 83 = some 8:=by kernel_rfl
@[simp] theorem Tryz.T84:sizeT Tryz.prog 84 = some 1∧isAggT Tryz.prog 84 = some false∧zeroT Tryz.prog 84 = some [.nilptr]:=by and_intros <;> kernel_rfl
@[simp] theorem Tryz.bytes84:bytesT Tryz.prog 84 = some 8:=by kernel_rfl
@[simp] theorem Tryz.T86:sizeT Tryz.prog 86 = some 3∧isAggT Tryz.prog 86 = some true∧zeroT Tryz.prog 86 = some [.int .i64 0,.nilptr,.nilptr]:=by and_intros <;> kernel_rfl
@[simp] theorem Tryz.bytes86:bytesT Tryz.prog 86 = some 24:=by kernel_rfl
@[simp] theorem Tryz.field86n0:fieldT Tryz.prog 86 0 = some (0,3):=by kernel_rfl
@[simp] theorem Tryz.field86n1:fieldT Tryz.prog 86 1 = some (1,83):=by kernel_rfl
@[simp] theorem Tryz.field86n2:fieldT Tryz.prog 86 2 = some (2,84):=by kernel_rfl
@[simp] theorem Tryz.T87:sizeT Tryz.prog 87 = some 1∧isAggT Tryz.prog 87 = some false∧zeroT Tryz.prog 87 = some [.nilslc]∧elemT Tryz.prog 87 = some 41:=by and_intros <;> kernel_rfl
@[simp] theorem Tryz.bytes87:bytesT Tryz.prog 87 = some 24:=by kernel_rfl
@[simp] theorem Tryz.T89:sizeT Tryz.prog 89 = some 4∧isAggT Tryz.prog 89 = some true∧zeroT Tryz.prog 89 = some [.str [],.str [],.int .i64 0,.int .i64 0]:=by and_intros <;> kernel_rfl
@[simp] theorem Tryz.bytes89:bytesT Tryz.prog 89 = some 48:=by kernel_rfl
@[simp] theorem Tryz.field89n0:fieldT Tryz.prog 89 0 = some (0,41):=by kernel_rfl
@[simp] theorem Tryz.field89n1:fieldT Tryz.prog 89 1 = some (2,3):=by kernel_rfl
@[simp] theorem Tryz.field89n2:fieldT Tryz.prog 89 2 = some (3,3):=by kernel_rfl
@[simp] theorem Tryz.T94:sizeT Tryz.prog 94 = some 1∧isAggT Tryz.prog 94 = some false∧zeroT Tryz.prog 94 = some [.nilslc]∧elemT Tryz.prog 94 = some 157:=by and_intros <;> kernel_rfl
@[simp] theorem Tryz.bytes94:bytesT Tryz.prog 94 = some 24:=by kernel_rfl
@[simp] theorem Tryz.T96:sizeT Tryz.prog 96 = some 10∧isAggT Tryz.prog 96 = some true∧zeroT Tryz.prog 96 = some [.int .i64 0,.int .i64 0,.int .i64 0,.int .i64 0,.int .i64 0,.int .i64 0,.int .i64 0,.int .i64 0,.nilslc,.nilslc]:=by and_intros <;> kernel_rfl
@[simp] theorem Tryz.bytes96:bytesT Tryz.prog 96 = some 112:=by kernel_rfl
@[simp] theorem Tryz.field96n0:fieldT Tryz.prog 96 0 = some (0,3):=by kernel_rfl
@[simp] theorem Tryz.field96n1:fieldT Tryz.prog 96 1 = some (1,3):=by kernel_rfl
@[simp] theorem Tryz.field96n2:fieldT Tryz.prog 96 2 = some (2,3):=by kernel_rfl
@[simp] theorem Tryz.field96n3:fieldT Tryz.prog 96 3 = some (3,3):=by kernel_rfl
@[simp] theorem Tryz.field96n4:fieldT Tryz.prog 96 4 = some (4,3):=by kernel_rfl
@[simp] theorem Tryz.field96n5:fieldT Tryz.prog 96 5 = some (5,3):=by kernel_rfl
@[simp] theorem Tryz.field96n6:fieldT Tryz.prog 96 6 = some (6,3):=by kernel_rfl
@[simp] theorem Tryz.field96n7:fieldT Tryz.prog 96 7 = some (7,3):=by kernel_rfl
@[simp] theorem Tryz.field96n8:fieldT Tryz.prog 96 8 = some (8,31):=by kernel_rfl
@[simp] theorem Tryz.field96n9:fieldT Tryz.prog 96 9 = some (9,94):=by kernel_rfl
@[simp] theorem Tryz.T108:sizeT Tryz.prog 108 = some 1∧isAggT Tryz.prog 108 = some false∧zeroT Tryz.prog 108 = some [.nilptr]:=by and_intros <;> kernel_rfl
@[simp] theorem Tryz.bytes108:bytesT Tryz.prog 108 = some 8:=by kernel_rfl
@[simp] theorem Tryz.T111:sizeT Tryz.prog 111 = some 1∧isAggT Tryz.prog 111 = some false∧zeroT Tryz.prog 111 = some [.nilslc]∧elemT Tryz.prog 111 = some 170:=by and_intros <;> kernel_rfl
@[simp] theorem Tryz.bytes111:bytesT Tryz.prog 111 = some 24:=by kernel_rfl
@[simp] theorem Tryz.T113:sizeT Tryz.prog 113 = some 1∧isAggT Tryz.prog 113 = some true∧zeroT Tryz.prog 113 = some [.nilslc]:=by and_intros <;> kernel_rfl
@[simp] theorem Tryz.bytes113:bytesT Tryz.prog 113 = some 24:=by kernel_rfl
@[simp] theorem Tryz.field113n0:fieldT Tryz.prog 113 0 = some (0,111):=by kernel_rfl
@[simp] theorem Tryz.T115:sizeT Tryz.prog 115 = some 2∧isAggT Tryz.prog 115 = some true∧zeroT Tryz.prog 115 = some [.str [],.nilslc]:=by and_intros <;> kernel_rfl
@[simp] theorem Tryz.bytes115:bytesT Tryz.prog 115 = some 40:=by kernel_rfl
@[simp] theorem Tryz.field115n0:fieldT Tryz.prog 115 0 = some (0,9):=by kernel_rfl
@[simp] theorem Tryz.field115n1:fieldT Tryz.prog 115 1 = some (1,113):=by kernel_rfl
@[simp] theorem Tryz.T127:sizeT Tryz.prog 127 = some 1∧isAggT Tryz.prog 127 = some false∧zeroT Tryz.prog 127 = some [.int .u64 0]:=by and_intros <;> kernel_rfl
@[simp] theorem Tryz.bytes127:bytesT Tryz.prog 127 = some 8:=by kernel_rfl
@[simp] theorem Tryz.T130:sizeT Tryz.prog 130 = some 1∧isAggT Tryz.prog 130 = some false∧zeroT Tryz.prog 130 = some [.int .u64 0]:=by and_intros <;> kernel_rfl
@[simp] theorem Tryz.bytes130:bytesT Tryz.prog 130 = some 8:=by kernel_rfl
@[simp] theorem Tryz.T133:sizeT Tryz.prog 133 = some 1∧isAggT Tryz.prog 133 = some false∧zeroT Tryz.prog 133 = some [.nilptr]:=by and_intros <;> kernel_rfl
@[simp] theorem Tryz.bytes133:bytesT Tryz.prog 133 = some 8:=by kernel_rfl
@[simp] theorem Tryz.T136:sizeT Tryz.prog 136 = some 1∧isAggT Tryz.prog 136 = some false∧zeroT Tryz.prog 136 = some [.nilptr]:=by and_intros <;> kernel_rfl
@[simp] theorem Tryz.bytes136:bytesT Tryz.prog 136 = some 8:=by kernel_rfl
@[simp] theorem Tryz.T139:sizeT Tryz.prog 139 = some 15∧isAggT Tryz.prog 139 = some true∧zeroT Tryz.prog 139 = some [.int .i64 0,.nilptr,.int .i64 0,.int .i64 0,.nilslc,.str [],.str [],.int .i64 0,.int .i64 0,.int .i64 0,.int .i64 0,.int .i64 0,.str [],.nilslc,.nilptr]:=by and_intros <;> kernel_rfl
@[simp] theorem Tryz.bytes139:bytesT Tryz.prog 139 = some 176:=by kernel_rfl
@[simp] theorem Tryz.field139n0:fieldT Tryz.prog 139 0 = some (0,3):=by kernel_rfl
@[simp] theorem Tryz.field139n1:fieldT Tryz.prog 139 1 = some (1,133):=by kernel_rfl
@[simp] theorem Tryz.field139n2:fieldT Tryz.prog 139 2 = some (2,3):=by kernel_rfl
@[simp] theorem Tryz.field139n3:fieldT Tryz.prog 139 3 = some (3,66):=by kernel_rfl
@[simp] theorem Tryz.field139n4:fieldT Tryz.prog 139 4 = some (14,136):=by kernel_rfl
@[simp] theorem Tryz.T140:sizeT Tryz.prog 140 = some 1∧isAggT Tryz.prog 140 = some false∧zeroT Tryz.prog 140 = some [.nilslc]∧elemT Tryz.prog 140 = some 143:=by and_intros <;> kernel_rfl
@[simp] theorem Tryz.bytes140:bytesT Tryz.prog 140 = some 24:=by kernel_rfl
@[simp] theorem Tryz.T142:sizeT Tryz.prog 142 = some 3∧isAggT Tryz.prog 142 = some true∧zeroT Tryz.prog 142 = some [.nilslc,.int .i64 0,.int .i64 0]:=by and_intros <;> kernel_rfl
@[simp] theorem Tryz.bytes142:bytesT Tryz.prog 142 = some 40:=by kernel_rfl
@[simp] theorem Tryz.field142n0:fieldT Tryz.prog 142 0 = some (0,140):=by kernel_rfl
@[simp] theorem Tryz.field142n1:fieldT Tryz.prog 142 1 = some (1,3):=by kernel_rfl
@[simp] theorem Tryz.field142n2:fieldT Tryz.prog 142 2 = some (2,24):=by kernel_rfl
@[simp] theorem Tryz.T143:sizeT Tryz.prog 143 = some 1∧isAggT Tryz.prog 143 = some false∧zeroT Tryz.prog 143 = some [.nilptr]:=by and_intros <;> kernel_rfl
@[simp] theorem Tryz.bytes143:bytesT Tryz.prog 143 = some 8:=by kernel_rfl
@[simp] theorem Tryz.T144:sizeT Tryz.prog 144 = some 1∧isAggT Tryz.prog 144 = some false∧zeroT Tryz.prog 144 = some [.nilptr]:=by and_intros <;> kernel_rfl
@[simp] theorem Tryz.bytes144:bytesT Tryz.prog 144 = some 8:=by kernel_rfl
@[simp] theorem Tryz.T147:sizeT Tryz.prog 147 = some 6∧isAggT Tryz.prog 147 = some true∧zeroT Tryz.prog 147 = some [.str [],.str [],.int .i64 0,.bool false,.nilptr,.nilptr]:=by and_intros <;> kernel_rfl
@[simp] theorem Tryz.bytes147:bytesT Tryz.prog 147 = some 64:=by kernel_rfl
@[simp] theorem Tryz.field147n0:fieldT Tryz.prog 147 0 = some (0,41):=by kernel_rfl
@[simp] theorem Tryz.field147n1:fieldT Tryz.prog 147 1 = some (2,3):=by kernel_rfl
@[simp] theorem Tryz.field147n2:fieldT Tryz.prog 147 2 = some (3,4):=by kernel_rfl
@[simp] theorem Tryz.field147n3:fieldT Tryz.prog 147 3 = some (4,144):=by kernel_rfl
@[simp] theorem Tryz.field147n4:fieldT Tryz.prog 147 4 = some (5,136):=by kernel_rfl
@[simp] theorem Tryz.T157:sizeT Tryz.prog 157 = some 3∧isAggT Tryz.prog 157 = some true∧zeroT Tryz.prog 157 = some [.int .i64 0,.int .i64 0,.nilslc]:=by and_intros <;> kernel_rfl
@[simp] theorem Tryz.bytes157:bytesT Tryz.prog 157 = some 40:=by kernel_rfl
@[simp] theorem Tryz.field157n0:fieldT Tryz.prog 157 0 = some (0,3):=by kernel_rfl
@[simp] theorem Tryz.field157n1:fieldT Tryz.prog 157 1 = some (1,3):=by kernel_rfl
@[simp] theorem Tryz.field157n2:fieldT Tryz.prog 157 2 = some (2,31):=by kernel_rfl
@[simp] theorem Tryz.T166:sizeT Tryz.prog 166 = some 1∧isAggT Tryz.prog 166 = some true∧zeroT Tryz.prog 166 = some [.nilslc]:=by and_intros <;> kernel_rfl
@[simp] theorem Tryz.bytes166:bytesT Tryz.prog 166 = some 24:=by kernel_rfl
@[simp] theorem Tryz.field166n0:fieldT Tryz.prog 166 0 = some (0,31):=by kernel_rfl
@[simp] theorem Tryz.T168:sizeT Tryz.prog 168 = some 1∧isAggT Tryz.prog 168 = some false∧zeroT Tryz.prog 168 = some [.nilslc]∧elemT Tryz.prog 168 = some 172:=by and_intros <;> kernel_rfl
@[simp] theorem Tryz.bytes168:bytesT Tryz.prog 168 = some 24:=by kernel_rfl
@[simp] theorem Tryz.T170:sizeT Tryz.prog 170 = some 2∧isAggT Tryz.prog 170 = some true∧zeroT Tryz.prog 170 = some [.str [],.nilslc]:=by and_intros <;> kernel_rfl
@[simp] theorem Tryz.bytes170:bytesT Tryz.prog 170 = some 40:=by kernel_rfl
@[simp] theorem Tryz.field170n0:fieldT Tryz.prog 170 0 = some (0,9):=by kernel_rfl
@[simp] theorem Tryz.field170n1:fieldT Tryz.prog 170 1 = some (1,168):=by kernel_rfl
@[simp] theorem Tryz.T172:sizeT Tryz.prog 172 = some 4∧isAggT Tryz.prog 172 = some true∧zeroT Tryz.prog 172 = some [.int .i64 0,.int .i64 0,.nilslc,.flt 0]:=by and_intros <;> kernel_rfl
@[simp] theorem Tryz.bytes172:bytesT Tryz.prog 172 = some 48:=by kernel_rfl
@[simp] theorem Tryz.field172n0:fieldT Tryz.prog 172 0 = some (0,2):=by kernel_rfl
@[simp] theorem Tryz.field172n1:fieldT Tryz.prog 172 1 = some (1,34):=by kernel_rfl
@[simp] theorem Tryz.T177:sizeT Tryz.prog 177 = some 1∧isAggT Tryz.prog 177 = some false∧zeroT Tryz.prog 177 = some [.nilptr]:=by and_intros <;> kernel_rfl
@[simp] theorem Tryz.bytes177:bytesT Tryz.prog 177 = some 8:=by kernel_rfl
@[simp] theorem Tryz.T189:sizeT Tryz.prog 189 = some 1∧isAggT Tryz.prog 189 = some false∧zeroT Tryz.prog 189 = some [.nilslc]∧elemT Tryz.prog 189 = some 245:=by and_intros <;> kernel_rfl
@[simp] theorem Tryz.bytes189:bytesT Tryz.prog 189 = some 24:=by kernel_rfl
@[simp] theorem Tryz.T191:sizeT Tryz.prog 191 = some 1∧isAggT Tryz.prog 191 = some true∧zeroT Tryz.prog 191 = some [.nilslc]:=by and_intros <;> kernel_rfl
@[simp] theorem Tryz.bytes191:bytesT Tryz.prog 191 = some 24:=by kernel_rfl
@[simp] theorem Tryz.field191n0:fieldT Tryz.prog 191 0 = some (0,189):=by kernel_rfl
@[simp] theorem Tryz.T193:sizeT Tryz.prog 193 = some 1∧isAggT Tryz.prog 193 = some true∧zeroT Tryz.prog 193 = some [.nilslc]:=by and_intros <;> kernel_rfl
@[simp] theorem Tryz.bytes193:bytesT Tryz.prog 193 = some 24:=by kernel_rfl
@[simp] theorem Tryz.field193n0:fieldT Tryz.prog 193 0 = some (0,64):=by kernel_rfl
@[simp] theorem Tryz.T211:sizeT Tryz.prog 211 = some 1∧isAggT Tryz.prog 211 = some true∧zeroT Tryz.prog 211 = some [.nilslc]:=by and_intros <;> kernel_rfl
@[simp] theorem Tryz.bytes211:bytesT Tryz.prog 211 = some 24:=by kernel_rfl
@[simp] theorem Tryz.field211n0:fieldT Tryz.prog 211 0 = some (0,31):=by kernel_rfl
@[simp] theorem Tryz.T215:sizeT Tryz.prog 215 = some 1∧isAggT Tryz.prog 215 = some false∧zeroT Tryz.prog 215 = some [.nilslc]∧elemT Tryz.prog 215 = some 56:=by and_intros <;> kernel_rfl
@[simp] theorem Tryz.bytes215:bytesT Tryz.prog 215 = some 24:=by kernel_rfl
@[simp] theorem Tryz.T217:sizeT Tryz.prog 217 = some 1∧isAggT Tryz.prog 217 = some true∧zeroT Tryz.prog 217 = some [.nilslc]:=by and_intros <;> kernel_rfl
@[simp] theorem Tryz.bytes217:bytesT Tryz.prog 217 = some 24:=by kernel_rfl
@[simp] theorem Tryz.field217n0:fieldT Tryz.prog 217 0 = some (0,215):=by kernel_rfl
@[simp] theorem Tryz.T245:sizeT Tryz.prog 245 = some 3∧isAggT Tryz.prog 245 = some true∧zeroT Tryz.prog 245 = some [.int .i64 0,.int .i64 0,.nilslc]:=by and_intros <;> kernel_rfl
@[simp] theorem Tryz.bytes245:bytesT Tryz.prog 245 = some 40:=by kernel_rfl
@[simp] theorem Tryz.field245n0:fieldT Tryz.prog 245 0 = some (0,3):=by kernel_rfl
@[simp] theorem Tryz.field245n1:fieldT Tryz.prog 245 1 = some (1,3):=by kernel_rfl
@[simp] theorem Tryz.field245n2:fieldT Tryz.prog 245 2 = some (2,31):=by kernel_rfl
end Go.Proofs.YtmmhjaeekkbceaaGreat
