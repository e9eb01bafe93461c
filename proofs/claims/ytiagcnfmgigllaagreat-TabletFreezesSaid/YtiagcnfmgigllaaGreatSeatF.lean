/- A part of a proof over the abstract machine. No conditions. -/
import Derived.Test.YtiagcnfmgigllaaGreatAb3
import Derived.Test.YtiagcnfmgigllaaGreatRows
namespace Go.Proofs.YtiagcnfmgigllaaGreat
open Go Go.Ab
theorem Tryz.tyCount:Tryz.prog.types.size = 340:=by kernel_rfl
attribute [simp] Tryz.tyCount Tryz.underlying2 Tryz.underlying3 Tryz.underlying4 Tryz.underlying5 Tryz.underlying9 Tryz.underlying22 Tryz.underlying23 Tryz.underlying25 Tryz.underlying27 Tryz.underlying28 Tryz.underlying30 Tryz.underlying32 Tryz.underlying33 Tryz.underlying35 Tryz.underlying38 Tryz.underlying39 Tryz.underlying41 Tryz.underlying43 Tryz.underlying45 Tryz.underlying47 Tryz.underlying48 Tryz.underlying50 Tryz.underlying56 Tryz.underlying57 Tryz.underlying61 Tryz.underlying64 Tryz.underlying65 Tryz.underlying70 Tryz.underlying72 Tryz.underlying73 Tryz.underlying74 Tryz.underlying75 Tryz.underlying77 Tryz.underlying79 Tryz.underlying81 Tryz.underlying83 Tryz.underlying89 Tryz.underlying91 Tryz.underlying93 Tryz.underlying95 Tryz.underlying97 Tryz.underlying98 Tryz.underlying99 Tryz.underlying101 Tryz.underlying104 Tryz.underlying108 Tryz.underlying118 Tryz.underlying120 Tryz.underlying121 Tryz.underlying123 Tryz.underlying127 Tryz.underlying132 Tryz.underlying135 Tryz.underlying138 Tryz.underlying142 Tryz.underlying143 Tryz.underlying145 Tryz.underlying151 Tryz.underlying179 Tryz.underlying183 Tryz.underlying185 Tryz.underlying202 Tryz.underlying265 Tryz.underlying266 Tryz.underlying268 Tryz.underlying281
@[simp] theorem Tryz.T2:z0 Tryz.prog 2 = some 1∧A4 Tryz.prog 2 = some false∧F4 Tryz.prog 2 = some [.int .i64 0]:=by and_intros <;> kernel_rfl
@[simp] theorem Tryz.bytes2:A9 Tryz.prog 2 = some 8:=by kernel_rfl
@[simp] theorem Tryz.T3:z0 Tryz.prog 3 = some 1∧A4 Tryz.prog 3 = some false∧F4 Tryz.prog 3 = some [.int .i64 0]:=by and_intros <;> kernel_rfl
@[simp] theorem Tryz.bytes3:A9 Tryz.prog 3 = some 8:=by kernel_rfl
@[simp] theorem Tryz.T4:z0 Tryz.prog 4 = some 1∧A4 Tryz.prog 4 = some false∧F4 Tryz.prog 4 = some [.bool false]:=by and_intros <;> kernel_rfl
@[simp] theorem Tryz.bytes4:A9 Tryz.prog 4 = some 1:=by kernel_rfl
@[simp] theorem Tryz.T5:z0 Tryz.prog 5 = some 1∧A4 Tryz.prog 5 = some false∧F4 Tryz.prog 5 = some [.int .u8 0]:=by and_intros <;> kernel_rfl
@[simp] theorem Tryz.bytes5:A9 Tryz.prog 5 = some 1:=by kernel_rfl
@[simp] theorem Tryz.T9:z0 Tryz.prog 9 = some 1∧A4 Tryz.prog 9 = some false∧F4 Tryz.prog 9 = some [.str []]:=by and_intros <;> kernel_rfl
@[simp] theorem Tryz.bytes9:A9 Tryz.prog 9 = some 16:=by kernel_rfl
@[simp] theorem Tryz.T22:z0 Tryz.prog 22 = some 1∧A4 Tryz.prog 22 = some false∧F4 Tryz.prog 22 = some [.nilslc]∧Q0 Tryz.prog 22 = some 41:=by and_intros <;> kernel_rfl
@[simp] theorem Tryz.bytes22:A9 Tryz.prog 22 = some 24:=by kernel_rfl
@[simp] theorem Tryz.T23:z0 Tryz.prog 23 = some 1∧A4 Tryz.prog 23 = some false∧F4 Tryz.prog 23 = some [.nilptr]:=by and_intros <;> kernel_rfl
@[simp] theorem Tryz.bytes23:A9 Tryz.prog 23 = some 8:=by kernel_rfl
@[simp] theorem Tryz.T25:z0 Tryz.prog 25 = some 1∧A4 Tryz.prog 25 = some false∧F4 Tryz.prog 25 = some [.nilslc]∧Q0 Tryz.prog 25 = some 61:=by and_intros <;> kernel_rfl
@[simp] theorem Tryz.bytes25:A9 Tryz.prog 25 = some 24:=by kernel_rfl
@[simp] theorem Tryz.T27:z0 Tryz.prog 27 = some 1∧A4 Tryz.prog 27 = some false∧F4 Tryz.prog 27 = some [.nilslc]∧Q0 Tryz.prog 27 = some 5:=by and_intros <;> kernel_rfl
@[simp] theorem Tryz.bytes27:A9 Tryz.prog 27 = some 24:=by kernel_rfl
@[simp] theorem Tryz.T28:z0 Tryz.prog 28 = some 1∧A4 Tryz.prog 28 = some false∧F4 Tryz.prog 28 = some [.flt 0]:=by and_intros <;> kernel_rfl
@[simp] theorem Tryz.bytes28:A9 Tryz.prog 28 = some 8:=by kernel_rfl
@[simp] theorem Tryz.T30:z0 Tryz.prog 30 = some 3∧A4 Tryz.prog 30 = some true∧F4 Tryz.prog 30 = some [.int .i64 0,.nilslc,.flt 0]:=by and_intros <;> kernel_rfl
@[simp] theorem Tryz.bytes30:A9 Tryz.prog 30 = some 40:=by kernel_rfl
@[simp] theorem Tryz.field30n0:t8 Tryz.prog 30 0 = some (0,3):=by kernel_rfl
@[simp] theorem Tryz.field30n1:t8 Tryz.prog 30 1 = some (1,27):=by kernel_rfl
@[simp] theorem Tryz.field30n2:t8 Tryz.prog 30 2 = some (2,28):=by kernel_rfl
@[simp] theorem Tryz.T32:z0 Tryz.prog 32 = some 6∧A4 Tryz.prog 32 = some true∧F4 Tryz.prog 32 = some [.bool false,.bool false,.str [],.int .i64 0,.nilslc,.flt 0]:=by and_intros <;> kernel_rfl
@[simp] theorem Tryz.bytes32:A9 Tryz.prog 32 = some 64:=by kernel_rfl
@[simp] theorem Tryz.field32n0:t8 Tryz.prog 32 0 = some (0,4):=by kernel_rfl
@[simp] theorem Tryz.field32n1:t8 Tryz.prog 32 1 = some (1,4):=by kernel_rfl
@[simp] theorem Tryz.field32n2:t8 Tryz.prog 32 2 = some (2,9):=by kernel_rfl
@[simp] theorem Tryz.field32n3:t8 Tryz.prog 32 3 = some (3,30):=by kernel_rfl
@[simp] theorem Tryz.T33:z0 Tryz.prog 33 = some 1∧A4 Tryz.prog 33 = some false∧F4 Tryz.prog 33 = some [.nilslc]∧Q0 Tryz.prog 33 = some 108:=by and_intros <;> kernel_rfl
@[simp] theorem Tryz.bytes33:A9 Tryz.prog 33 = some 24:=by kernel_rfl
@[simp] theorem Tryz.T35:z0 Tryz.prog 35 = some 11∧A4 Tryz.prog 35 = some true∧F4 Tryz.prog 35 = some [.int .i64 0,.str [],.str [],.bool false,.bool false,.str [],.int .i64 0,.nilslc,.flt 0,.nilslc,.int .i64 0]:=by and_intros <;> kernel_rfl
@[simp] theorem Tryz.bytes35:A9 Tryz.prog 35 = some 136:=by kernel_rfl
@[simp] theorem Tryz.field35n0:t8 Tryz.prog 35 0 = some (0,3):=by kernel_rfl
@[simp] theorem Tryz.field35n1:t8 Tryz.prog 35 1 = some (1,9):=by kernel_rfl
@[simp] theorem Tryz.field35n2:t8 Tryz.prog 35 2 = some (2,9):=by kernel_rfl
@[simp] theorem Tryz.field35n3:t8 Tryz.prog 35 3 = some (3,32):=by kernel_rfl
@[simp] theorem Tryz.field35n4:t8 Tryz.prog 35 4 = some (9,33):=by kernel_rfl
@[simp] theorem Tryz.field35n5:t8 Tryz.prog 35 5 = some (10,3):=by kernel_rfl
@[simp] theorem Tryz.T38:z0 Tryz.prog 38 = some 4∧A4 Tryz.prog 38 = some true∧F4 Tryz.prog 38 = some [.bool false,.int .i64 0,.flt 0,.nilslc]:=by and_intros <;> kernel_rfl
@[simp] theorem Tryz.bytes38:A9 Tryz.prog 38 = some 48:=by kernel_rfl
@[simp] theorem Tryz.field38n0:t8 Tryz.prog 38 0 = some (0,4):=by kernel_rfl
@[simp] theorem Tryz.field38n1:t8 Tryz.prog 38 1 = some (1,3):=by kernel_rfl
@[simp] theorem Tryz.field38n2:t8 Tryz.prog 38 2 = some (2,28):=by kernel_rfl
@[simp] theorem Tryz.field38n3:t8 Tryz.prog 38 3 = some (3,27):=by kernel_rfl
@[simp] theorem Tryz.T39:z0 Tryz.prog 39 = some 1∧A4 Tryz.prog 39 = some false∧F4 Tryz.prog 39 = some [.nilslc]∧Q0 Tryz.prog 39 = some 151:=by and_intros <;> kernel_rfl
@[simp] theorem Tryz.bytes39:A9 Tryz.prog 39 = some 24:=by kernel_rfl
@[simp] theorem Tryz.T41:z0 Tryz.prog 41 = some 12∧A4 Tryz.prog 41 = some true∧F4 Tryz.prog 41 = some [.int .i64 0,.int .i64 0,.int .i64 0,.int .i64 0,.int .i64 0,.bool false,.bool false,.bool false,.int .i64 0,.flt 0,.nilslc,.nilslc]:=by and_intros <;> kernel_rfl
@[simp] theorem Tryz.bytes41:A9 Tryz.prog 41 = some 120:=by kernel_rfl
@[simp] theorem Tryz.field41n0:t8 Tryz.prog 41 0 = some (0,3):=by kernel_rfl
@[simp] theorem Tryz.field41n1:t8 Tryz.prog 41 1 = some (1,3):=by kernel_rfl
@[simp] theorem Tryz.field41n2:t8 Tryz.prog 41 2 = some (2,3):=by kernel_rfl
@[simp] theorem Tryz.field41n3:t8 Tryz.prog 41 3 = some (3,3):=by kernel_rfl
@[simp] theorem Tryz.field41n4:t8 Tryz.prog 41 4 = some (4,3):=by kernel_rfl
@[simp] theorem Tryz.field41n5:t8 Tryz.prog 41 5 = some (5,4):=by kernel_rfl
@[simp] theorem Tryz.field41n6:t8 Tryz.prog 41 6 = some (6,4):=by kernel_rfl
@[simp] theorem Tryz.field41n7:t8 Tryz.prog 41 7 = some (7,38):=by kernel_rfl
@[simp] theorem Tryz.field41n8:t8 Tryz.prog 41 8 = some (11,39):=by kernel_rfl
@[simp] theorem Tryz.T43:z0 Tryz.prog 43 = some 2∧A4 Tryz.prog 43 = some true∧F4 Tryz.prog 43 = some [.str [],.str []]:=by and_intros <;> kernel_rfl
@[simp] theorem Tryz.bytes43:A9 Tryz.prog 43 = some 32:=by kernel_rfl
@[simp] theorem Tryz.field43n0:t8 Tryz.prog 43 0 = some (0,9):=by kernel_rfl
@[simp] theorem Tryz.field43n1:t8 Tryz.prog 43 1 = some (1,9):=by kernel_rfl
@[simp] theorem Tryz.T45:z0 Tryz.prog 45 = some 19∧A4 Tryz.prog 45 = some true∧F4 Tryz.prog 45 = some [.int .i64 0,.int .i64 0,.str [],.str [],.bool false,.bool false,.str [],.int .i64 0,.nilslc,.flt 0,.nilslc,.int .i64 0,.str [],.str [],.int .i64 0,.str [],.int .i64 0,.int .i64 0,.nilslc]:=by and_intros <;> kernel_rfl
@[simp] theorem Tryz.bytes45:A9 Tryz.prog 45 = some 240:=by kernel_rfl
@[simp] theorem Tryz.field45n0:t8 Tryz.prog 45 0 = some (0,3):=by kernel_rfl
@[simp] theorem Tryz.field45n1:t8 Tryz.prog 45 1 = some (1,35):=by kernel_rfl
@[simp] theorem Tryz.field45n2:t8 Tryz.prog 45 2 = some (12,43):=by kernel_rfl
@[simp] theorem Tryz.field45n3:t8 Tryz.prog 45 3 = some (14,3):=by kernel_rfl
@[simp] theorem Tryz.field45n4:t8 Tryz.prog 45 4 = some (15,9):=by kernel_rfl
@[simp] theorem Tryz.field45n5:t8 Tryz.prog 45 5 = some (16,3):=by kernel_rfl
@[simp] theorem Tryz.field45n6:t8 Tryz.prog 45 6 = some (17,3):=by kernel_rfl
@[simp] theorem Tryz.field45n7:t8 Tryz.prog 45 7 = some (18,27):=by kernel_rfl
@[simp] theorem Tryz.T47:z0 Tryz.prog 47 = some 1∧A4 Tryz.prog 47 = some false∧F4 Tryz.prog 47 = some [.int .i64 0]:=by and_intros <;> kernel_rfl
@[simp] theorem Tryz.bytes47:A9 Tryz.prog 47 = some 8:=by kernel_rfl
@[simp] theorem Tryz.T48:z0 Tryz.prog 48 = some 1∧A4 Tryz.prog 48 = some false∧F4 Tryz.prog 48 = some [.nilslc]∧Q0 Tryz.prog 48 = some 83:=by and_intros <;> kernel_rfl
@[simp] theorem Tryz.bytes48:A9 Tryz.prog 48 = some 24:=by kernel_rfl
@[simp] theorem Tryz.T50:z0 Tryz.prog 50 = some 11∧A4 Tryz.prog 50 = some true∧F4 Tryz.prog 50 = some [.int .i64 0,.nilslc,.str [],.str [],.int .i64 0,.int .i64 0,.int .i64 0,.int .i64 0,.int .i64 0,.str [],.nilslc]:=by and_intros <;> kernel_rfl
@[simp] theorem Tryz.bytes50:A9 Tryz.prog 50 = some 144:=by kernel_rfl
@[simp] theorem Tryz.field50n0:t8 Tryz.prog 50 0 = some (0,47):=by kernel_rfl
@[simp] theorem Tryz.field50n1:t8 Tryz.prog 50 1 = some (1,48):=by kernel_rfl
@[simp] theorem Tryz.field50n2:t8 Tryz.prog 50 2 = some (2,43):=by kernel_rfl
@[simp] theorem Tryz.field50n3:t8 Tryz.prog 50 3 = some (4,3):=by kernel_rfl
@[simp] theorem Tryz.field50n4:t8 Tryz.prog 50 4 = some (5,3):=by kernel_rfl
@[simp] theorem Tryz.field50n5:t8 Tryz.prog 50 5 = some (6,3):=by kernel_rfl
@[simp] theorem Tryz.field50n6:t8 Tryz.prog 50 6 = some (7,3):=by kernel_rfl
@[simp] theorem Tryz.field50n7:t8 Tryz.prog 50 7 = some (8,3):=by kernel_rfl
@[simp] theorem Tryz.field50n8:t8 Tryz.prog 50 8 = some (9,9):=by kernel_rfl
@[simp] theorem Tryz.field50n9:t8 Tryz.prog 50 9 = some (10,27):=by kernel_rfl
@[simp] theorem Tryz.T56:z0 Tryz.prog 56 = some 1∧A4 Tryz.prog 56 = some false∧F4 Tryz.prog 56 = some [.nilslc]∧Q0 Tryz.prog 56 = some 50:=by and_intros <;> kernel_rfl
@[simp] theorem Tryz.bytes56:A9 Tryz.prog 56 = some 24:=by kernel_rfl
@[simp] theorem Tryz.T57:z0 Tryz.prog 57 = some 1∧A4 Tryz.prog 57 = some false∧F4 Tryz.prog 57 = some [.nilslc]∧Q0 Tryz.prog 57 = some 3:=by and_intros <;> kernel_rfl
@[simp] theorem Tryz.bytes57:A9 Tryz.prog 57 = some 24:=by kernel_rfl
@[simp] theorem Tryz.T61:z0 Tryz.prog 61 = some 4∧A4 Tryz.prog 61 = some true∧F4 Tryz.prog 61 = some [.str [],.str [],.int .i64 0,.int .i64 0]:=by and_intros <;> kernel_rfl
@[simp] theorem Tryz.bytes61:A9 Tryz.prog 61 = some 48:=by kernel_rfl
@[simp] theorem Tryz.field61n0:t8 Tryz.prog 61 0 = some (0,43):=by kernel_rfl
@[simp] theorem Tryz.field61n1:t8 Tryz.prog 61 1 = some (2,3):=by kernel_rfl
@[simp] theorem Tryz.field61n2:t8 Tryz.prog 61 2 = some (3,3):=by kernel_rfl
@[simp] theorem Tryz.T64:z0 Tryz.prog 64 = some 1∧A4 Tryz.prog 64 = some false∧F4 Tryz.prog 64 = some [.nilslc]∧Q0 Tryz.prog 64 = some 70:=by and_intros <;> kernel_rfl
@[simp] theorem Tryz.bytes64:A9 Tryz.prog 64 = some 24:=by kernel_rfl
@[simp] theorem Tryz.T65:z0 Tryz.prog 65 = some 1∧A4 Tryz.prog 65 = some false∧F4 Tryz.prog 65 = some [.nilptr]:=by and_intros <;> kernel_rfl
@[simp] theorem Tryz.bytes65:A9 Tryz.prog 65 = some 8:=by kernel_rfl
@[simp] theorem Tryz.T70:z0 Tryz.prog 70 = some 37∧A4 Tryz.prog 70 = some true∧F4 Tryz.prog 70 = some [.int .i64 0,.int .i64 0,.int .i64 0,.int .i64 0,.int .i64 0,.int .i64 0,.int .i64 0,.int .i64 0,.int .i64 0,.int .i64 0,.int .i64 0,.bool false,.bool false,.bool false,.int .i64 0,.flt 0,.nilslc,.nilslc,.int .i64 0,.int .i64 0,.str [],.str [],.bool false,.bool false,.str [],.int .i64 0,.nilslc,.flt 0,.nilslc,.int .i64 0,.str [],.str [],.int .i64 0,.str [],.int .i64 0,.int .i64 0,.nilslc]:=by and_intros <;> kernel_rfl
@[simp] theorem Tryz.bytes70:A9 Tryz.prog 70 = some 408:=by kernel_rfl
@[simp] theorem Tryz.field70n0:t8 Tryz.prog 70 0 = some (0,3):=by kernel_rfl
@[simp] theorem Tryz.field70n1:t8 Tryz.prog 70 1 = some (1,3):=by kernel_rfl
@[simp] theorem Tryz.field70n2:t8 Tryz.prog 70 2 = some (2,3):=by kernel_rfl
@[simp] theorem Tryz.field70n3:t8 Tryz.prog 70 3 = some (3,3):=by kernel_rfl
@[simp] theorem Tryz.field70n4:t8 Tryz.prog 70 4 = some (4,3):=by kernel_rfl
@[simp] theorem Tryz.field70n5:t8 Tryz.prog 70 5 = some (5,3):=by kernel_rfl
@[simp] theorem Tryz.field70n6:t8 Tryz.prog 70 6 = some (6,41):=by kernel_rfl
@[simp] theorem Tryz.field70n7:t8 Tryz.prog 70 7 = some (18,45):=by kernel_rfl
@[simp] theorem Tryz.T72:z0 Tryz.prog 72 = some 1∧A4 Tryz.prog 72 = some false∧F4 Tryz.prog 72 = some [.nilslc]∧Q0 Tryz.prog 72 = some 43:=by and_intros <;> kernel_rfl
@[simp] theorem Tryz.bytes72:A9 Tryz.prog 72 = some 24:=by kernel_rfl
@[simp] theorem Tryz.T73:z0 Tryz.prog 73 = some 1∧A4 Tryz.prog 73 = some false∧F4 Tryz.prog 73 = some [.nilptr]:=by and_intros <;> kernel_rfl
@[simp] theorem Tryz.bytes73:A9 Tryz.prog 73 = some 8:=by kernel_rfl
@[simp] theorem Tryz.T74:z0 Tryz.prog 74 = some 1∧A4 Tryz.prog 74 = some false∧F4 Tryz.prog 74 = some [.nilslc]∧Q0 Tryz.prog 74 = some 27:=by and_intros <;> kernel_rfl
@[simp] theorem Tryz.bytes74:A9 Tryz.prog 74 = some 24:=by kernel_rfl
@[simp] theorem Tryz.T75:z0 Tryz.prog 75 = some 1∧A4 Tryz.prog 75 = some false∧F4 Tryz.prog 75 = some [.nilslc]∧Q0 Tryz.prog 75 = some 123:=by and_intros <;> kernel_rfl
@[simp] theorem Tryz.bytes75:A9 Tryz.prog 75 = some 24:=by kernel_rfl
@[simp] theorem Tryz.T77:z0 Tryz.prog 77 = some 4∧A4 Tryz.prog 77 = some true∧F4 Tryz.prog 77 = some [.nilptr,.nilptr,.nilslc,.nilslc]:=by and_intros <;> kernel_rfl
@[simp] theorem Tryz.bytes77:A9 Tryz.prog 77 = some 64:=by kernel_rfl
@[simp] theorem Tryz.field77n0:t8 Tryz.prog 77 0 = some (0,23):=by kernel_rfl
@[simp] theorem Tryz.field77n1:t8 Tryz.prog 77 1 = some (1,73):=by kernel_rfl
@[simp] theorem Tryz.field77n2:t8 Tryz.prog 77 2 = some (2,74):=by kernel_rfl
@[simp] theorem Tryz.field77n3:t8 Tryz.prog 77 3 = some (3,75):=by kernel_rfl
@[simp] theorem Tryz.T79:z0 Tryz.prog 79 = some 1∧A4 Tryz.prog 79 = some false∧F4 Tryz.prog 79 = some [.nilslc]∧Q0 Tryz.prog 79 = some 91:=by and_intros <;> kernel_rfl
@[simp] theorem Tryz.bytes79:A9 Tryz.prog 79 = some 24:=by kernel_rfl
@[simp] theorem Tryz.T81:z0 Tryz.prog 81 = some 1∧A4 Tryz.prog 81 = some true∧F4 Tryz.prog 81 = some [.nilslc]:=by and_intros <;> kernel_rfl
@[simp] theorem Tryz.bytes81:A9 Tryz.prog 81 = some 24:=by kernel_rfl
@[simp] theorem Tryz.field81n0:t8 Tryz.prog 81 0 = some (0,79):=by kernel_rfl
@[simp] theorem Tryz.T83:z0 Tryz.prog 83 = some 2∧A4 Tryz.prog 83 = some true∧F4 Tryz.prog 83 = some [.str [],.nilslc]:=by and_intros <;> kernel_rfl
@[simp] theorem Tryz.bytes83:A9 Tryz.prog 83 = some 40:=by kernel_rfl
@[simp] theorem Tryz.field83n0:t8 Tryz.prog 83 0 = some (0,9):=by kernel_rfl
@[simp] theorem Tryz.field83n1:t8 Tryz.prog 83 1 = some (1,81):=by kernel_rfl
@[simp] theorem Tryz.T89:z0 Tryz.prog 89 = some 1∧A4 Tryz.prog 89 = some false∧F4 Tryz.prog 89 = some [.nilslc]∧Q0 Tryz.prog 89 = some 93:=by and_intros <;> kernel_rfl
@[simp] theorem Tryz.bytes89:A9 Tryz.prog 89 = some 24:=by kernel_rfl
@[simp] theorem Tryz.T91:z0 Tryz.prog 91 = some 2∧A4 Tryz.prog 91 = some true∧F4 Tryz.prog 91 = some [.str [],.nilslc]:=by and_intros <;> kernel_rfl
@[simp] theorem Tryz.bytes91:A9 Tryz.prog 91 = some 40:=by kernel_rfl
@[simp] theorem Tryz.field91n0:t8 Tryz.prog 91 0 = some (0,9):=by kernel_rfl
@[simp] theorem Tryz.field91n1:t8 Tryz.prog 91 1 = some (1,89):=by kernel_rfl
@[simp] theorem Tryz.T93:z0 Tryz.prog 93 = some 4∧A4 Tryz.prog 93 = some true∧F4 Tryz.prog 93 = some [.int .i64 0,.int .i64 0,.nilslc,.flt 0]:=by and_intros <;> kernel_rfl
@[simp] theorem Tryz.bytes93:A9 Tryz.prog 93 = some 48:=by kernel_rfl
@[simp] theorem Tryz.field93n0:t8 Tryz.prog 93 0 = some (0,2):=by kernel_rfl
@[simp] theorem Tryz.field93n1:t8 Tryz.prog 93 1 = some (1,30):=by kernel_rfl
@[simp] theorem Tryz.T95:z0 Tryz.prog 95 = some 1∧A4 Tryz.prog 95 = some false∧F4 Tryz.prog 95 = some [.nilslc]∧Q0 Tryz.prog 95 = some 98:=by and_intros <;> kernel_rfl
@[simp] theorem Tryz.bytes95:A9 Tryz.prog 95 = some 24:=by kernel_rfl
@[simp] theorem Tryz.T97:z0 Tryz.prog 97 = some 3∧A4 Tryz.prog 97 = some true∧F4 Tryz.prog 97 = some [.nilslc,.int .i64 0,.int .i64 0]:=by and_intros <;> kernel_rfl
@[simp] theorem Tryz.bytes97:A9 Tryz.prog 97 = some 40:=by kernel_rfl
@[simp] theorem Tryz.field97n0:t8 Tryz.prog 97 0 = some (0,95):=by kernel_rfl
@[simp] theorem Tryz.field97n1:t8 Tryz.prog 97 1 = some (1,3):=by kernel_rfl
@[simp] theorem Tryz.field97n2:t8 Tryz.prog 97 2 = some (2,47):=by kernel_rfl
@[simp] theorem Tryz.T98:z0 Tryz.prog 98 = some 1∧A4 Tryz.prog 98 = some false∧F4 Tryz.prog 98 = some [.nilptr]:=by and_intros <;> kernel_rfl
@[simp] theorem Tryz.bytes98:A9 Tryz.prog 98 = some 8:=by kernel_rfl
@[simp] theorem Tryz.T99:z0 Tryz.prog 99 = some 1∧A4 Tryz.prog 99 = some false∧F4 Tryz.prog 99 = some [.nilptr]:=by and_intros <;> kernel_rfl
@[simp] theorem Tryz.bytes99:A9 Tryz.prog 99 = some 8:=by kernel_rfl
@[simp] theorem Tryz.T101:z0 Tryz.prog 101 = some 1∧A4 Tryz.prog 101 = some false∧F4 Tryz.prog 101 = some [.nilptr]:=by and_intros <;> kernel_rfl
@[simp] theorem Tryz.bytes101:A9 Tryz.prog 101 = some 8:=by kernel_rfl
@[simp] theorem Tryz.T104:z0 Tryz.prog 104 = some 6∧A4 Tryz.prog 104 = some true∧F4 Tryz.prog 104 = some [.str [],.str [],.int .i64 0,.bool false,.nilptr,.nilptr]:=by and_intros <;> kernel_rfl
@[simp] theorem Tryz.bytes104:A9 Tryz.prog 104 = some 64:=by kernel_rfl
@[simp] theorem Tryz.field104n0:t8 Tryz.prog 104 0 = some (0,43):=by kernel_rfl
@[simp] theorem Tryz.field104n1:t8 Tryz.prog 104 1 = some (2,3):=by kernel_rfl
@[simp] theorem Tryz.field104n2:t8 Tryz.prog 104 2 = some (3,4):=by kernel_rfl
@[simp] theorem Tryz.field104n3:t8 Tryz.prog 104 3 = some (4,99):=by kernel_rfl
@[simp] theorem Tryz.field104n4:t8 Tryz.prog 104 4 = some (5,101):=by kernel_rfl
@[simp] theorem Tryz.T108:z0 Tryz.prog 108 = some 6∧A4 Tryz.prog 108 = some true∧F4 Tryz.prog 108 = some [.int .i64 0,.str [],.int .i64 0,.int .i64 0,.nilslc,.flt 0]:=by and_intros <;> kernel_rfl
@[simp] theorem Tryz.bytes108:A9 Tryz.prog 108 = some 72:=by kernel_rfl
@[simp] theorem Tryz.field108n0:t8 Tryz.prog 108 0 = some (0,3):=by kernel_rfl
@[simp] theorem Tryz.field108n1:t8 Tryz.prog 108 1 = some (1,9):=by kernel_rfl
@[simp] theorem Tryz.field108n2:t8 Tryz.prog 108 2 = some (2,2):=by kernel_rfl
@[simp] theorem Tryz.field108n3:t8 Tryz.prog 108 3 = some (3,30):=by kernel_rfl
@[simp] theorem Tryz.T118:z0 Tryz.prog 118 = some 1∧A4 Tryz.prog 118 = some false∧F4 Tryz.prog 118 = some [.nilslc]∧Q0 Tryz.prog 118 = some 9:=by and_intros <;> kernel_rfl
@[simp] theorem Tryz.bytes118:A9 Tryz.prog 118 = some 24:=by kernel_rfl
@[simp] theorem Tryz.T120:z0 Tryz.prog 120 = some 1∧A4 Tryz.prog 120 = some false∧F4 Tryz.prog 120 = some [.nilptr]:=by and_intros <;> kernel_rfl
@[simp] theorem Tryz.bytes120:A9 Tryz.prog 120 = some 8:=by kernel_rfl
@[simp] theorem Tryz.T121:z0 Tryz.prog 121 = some 1∧A4 Tryz.prog 121 = some false∧F4 Tryz.prog 121 = some [.nilslc]∧Q0 Tryz.prog 121 = some 265:=by and_intros <;> kernel_rfl
@[simp] theorem Tryz.bytes121:A9 Tryz.prog 121 = some 24:=by kernel_rfl
@[simp] theorem Tryz.T123:z0 Tryz.prog 123 = some 6∧A4 Tryz.prog 123 = some true∧F4 Tryz.prog 123 = some [.str [],.str [],.int .i64 0,.bool false,.nilslc,.nilslc]:=by and_intros <;> kernel_rfl
@[simp] theorem Tryz.bytes123:A9 Tryz.prog 123 = some 96:=by kernel_rfl
@[simp] theorem Tryz.field123n0:t8 Tryz.prog 123 0 = some (0,43):=by kernel_rfl
@[simp] theorem Tryz.field123n1:t8 Tryz.prog 123 1 = some (2,3):=by kernel_rfl
@[simp] theorem Tryz.field123n2:t8 Tryz.prog 123 2 = some (3,4):=by kernel_rfl
@[simp] theorem Tryz.field123n3:t8 Tryz.prog 123 3 = some (4,48):=by kernel_rfl
@[simp] theorem Tryz.field123n4:t8 Tryz.prog 123 4 = some (5,121):=by kernel_rfl
@[simp] theorem Tryz.T127:z0 Tryz.prog 127 = some 3∧A4 Tryz.prog 127 = some true∧F4 Tryz.prog 127 = some [.nilslc,.int .i64 0,.int .i64 0]:=by and_intros <;> kernel_rfl
@[simp] theorem Tryz.bytes127:A9 Tryz.prog 127 = some 40:=by kernel_rfl
@[simp] theorem Tryz.field127n0:t8 Tryz.prog 127 0 = some (0,75):=by kernel_rfl
@[simp] theorem Tryz.field127n1:t8 Tryz.prog 127 1 = some (1,3):=by kernel_rfl
@[simp] theorem Tryz.field127n2:t8 Tryz.prog 127 2 = some (2,47):=by kernel_rfl
@[simp] theorem Tryz.T132:z0 Tryz.prog 132 = some 1∧A4 Tryz.prog 132 = some false∧F4 Tryz.prog 132 = some [.nilptr]:=by and_intros <;> kernel_rfl
@[simp] theorem Tryz.bytes132:A9 Tryz.prog 132 = some 8:=by kernel_rfl
@[simp] theorem Tryz.T135:z0 Tryz.prog 135 = some 1∧A4 Tryz.prog 135 = some false∧F4 Tryz.prog 135 = some [.nilptr]:=by and_intros <;> kernel_rfl
@[simp] theorem Tryz.bytes135:A9 Tryz.prog 135 = some 8:=by kernel_rfl
@[simp] theorem Tryz.T138:z0 Tryz.prog 138 = some 1∧A4 Tryz.prog 138 = some false∧F4 Tryz.prog 138 = some [.int .u32 0]:=by and_intros <;> kernel_rfl
@[simp] theorem Tryz.bytes138:A9 Tryz.prog 138 = some 4:=by kernel_rfl
@[simp] theorem Tryz.T142:z0 Tryz.prog 142 = some 1∧A4 Tryz.prog 142 = some true∧F4 Tryz.prog 142 = some [.nilslc]:=by and_intros <;> kernel_rfl
@[simp] theorem Tryz.bytes142:A9 Tryz.prog 142 = some 24:=by kernel_rfl
@[simp] theorem Tryz.field142n0:t8 Tryz.prog 142 0 = some (0,48):=by kernel_rfl
@[simp] theorem Tryz.T143:z0 Tryz.prog 143 = some 1∧A4 Tryz.prog 143 = some false∧F4 Tryz.prog 143 = some [.nilslc]∧Q0 Tryz.prog 143 = some 202:=by and_intros <;> kernel_rfl
@[simp] theorem Tryz.bytes143:A9 Tryz.prog 143 = some 24:=by kernel_rfl
@[simp] theorem Tryz.T145:z0 Tryz.prog 145 = some 1∧A4 Tryz.prog 145 = some true∧F4 Tryz.prog 145 = some [.nilslc]:=by and_intros <;> kernel_rfl
@[simp] theorem Tryz.bytes145:A9 Tryz.prog 145 = some 24:=by kernel_rfl
@[simp] theorem Tryz.field145n0:t8 Tryz.prog 145 0 = some (0,143):=by kernel_rfl
@[simp] theorem Tryz.T151:z0 Tryz.prog 151 = some 7∧A4 Tryz.prog 151 = some true∧F4 Tryz.prog 151 = some [.int .i64 0,.int .i64 0,.int .i64 0,.bool false,.int .i64 0,.flt 0,.nilslc]:=by and_intros <;> kernel_rfl
@[simp] theorem Tryz.bytes151:A9 Tryz.prog 151 = some 72:=by kernel_rfl
@[simp] theorem Tryz.field151n0:t8 Tryz.prog 151 0 = some (0,3):=by kernel_rfl
@[simp] theorem Tryz.field151n1:t8 Tryz.prog 151 1 = some (1,3):=by kernel_rfl
@[simp] theorem Tryz.field151n2:t8 Tryz.prog 151 2 = some (2,2):=by kernel_rfl
@[simp] theorem Tryz.field151n3:t8 Tryz.prog 151 3 = some (3,38):=by kernel_rfl
@[simp] theorem Tryz.T179:z0 Tryz.prog 179 = some 1∧A4 Tryz.prog 179 = some true∧F4 Tryz.prog 179 = some [.nilslc]:=by and_intros <;> kernel_rfl
@[simp] theorem Tryz.bytes179:A9 Tryz.prog 179 = some 24:=by kernel_rfl
@[simp] theorem Tryz.field179n0:t8 Tryz.prog 179 0 = some (0,27):=by kernel_rfl
@[simp] theorem Tryz.T183:z0 Tryz.prog 183 = some 1∧A4 Tryz.prog 183 = some true∧F4 Tryz.prog 183 = some [.nilslc]:=by and_intros <;> kernel_rfl
@[simp] theorem Tryz.bytes183:A9 Tryz.prog 183 = some 24:=by kernel_rfl
@[simp] theorem Tryz.field183n0:t8 Tryz.prog 183 0 = some (0,27):=by kernel_rfl
@[simp] theorem Tryz.T185:z0 Tryz.prog 185 = some 1∧A4 Tryz.prog 185 = some false∧F4 Tryz.prog 185 = some [.int .u64 0]:=by and_intros <;> kernel_rfl
@[simp] theorem Tryz.bytes185:A9 Tryz.prog 185 = some 8:=by kernel_rfl
@[simp] theorem Tryz.T202:z0 Tryz.prog 202 = some 3∧A4 Tryz.prog 202 = some true∧F4 Tryz.prog 202 = some [.int .i64 0,.int .i64 0,.nilslc]:=by and_intros <;> kernel_rfl
@[simp] theorem Tryz.bytes202:A9 Tryz.prog 202 = some 40:=by kernel_rfl
@[simp] theorem Tryz.field202n0:t8 Tryz.prog 202 0 = some (0,3):=by kernel_rfl
@[simp] theorem Tryz.field202n1:t8 Tryz.prog 202 1 = some (1,3):=by kernel_rfl
@[simp] theorem Tryz.field202n2:t8 Tryz.prog 202 2 = some (2,27):=by kernel_rfl
@[simp] theorem Tryz.T265:z0 Tryz.prog 265 = some 3∧A4 Tryz.prog 265 = some true∧F4 Tryz.prog 265 = some [.int .i64 0,.int .i64 0,.nilslc]:=by and_intros <;> kernel_rfl
@[simp] theorem Tryz.bytes265:A9 Tryz.prog 265 = some 40:=by kernel_rfl
@[simp] theorem Tryz.field265n0:t8 Tryz.prog 265 0 = some (0,3):=by kernel_rfl
@[simp] theorem Tryz.field265n1:t8 Tryz.prog 265 1 = some (1,3):=by kernel_rfl
@[simp] theorem Tryz.field265n2:t8 Tryz.prog 265 2 = some (2,27):=by kernel_rfl
@[simp] theorem Tryz.T266:z0 Tryz.prog 266 = some 1∧A4 Tryz.prog 266 = some false∧F4 Tryz.prog 266 = some [.nilptr]:=by and_intros <;> kernel_rfl
@[simp] theorem Tryz.bytes266:A9 Tryz.prog 266 = some 8:=by kernel_rfl
@[simp] theorem Tryz.T268:z0 Tryz.prog 268 = some 2∧A4 Tryz.prog 268 = some true∧F4 Tryz.prog 268 = some [.nilslc,.bool false]:=by and_intros <;> kernel_rfl
@[simp] theorem Tryz.bytes268:A9 Tryz.prog 268 = some 32:=by kernel_rfl
@[simp] theorem Tryz.field268n0:t8 Tryz.prog 268 0 = some (0,27):=by kernel_rfl
@[simp] theorem Tryz.field268n1:t8 Tryz.prog 268 1 = some (1,4):=by kernel_rfl
@[simp] theorem Tryz.T281:z0 Tryz.prog 281 = some 1∧A4 Tryz.prog 281 = some false∧F4 Tryz.prog 281 = some [.int .u64 0]:=by and_intros <;> kernel_rfl
@[simp] theorem Tryz.bytes281:A9 Tryz.prog 281 = some 8:=by kernel_rfl
end Go.Proofs.YtiagcnfmgigllaaGreat
