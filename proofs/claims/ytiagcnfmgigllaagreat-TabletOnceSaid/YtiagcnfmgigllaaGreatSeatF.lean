/- A part of a proof over the abstract machine. No conditions. -/
import Derived.Test.YtiagcnfmgigllaaGreatAb3
import Derived.Test.YtiagcnfmgigllaaGreatRows
namespace Go.Proofs.YtiagcnfmgigllaaGreat
open Go Go.Ab Go.Proofs.Tryz
theorem Tryz.tyCount:prog.types.size = 340:=by kernel_rfl
attribute [simp] Tryz.tyCount underlying2 underlying3 underlying4 underlying5 underlying9 underlying22 underlying23 underlying25 underlying27 underlying28 underlying30 underlying32 underlying33 underlying35 underlying38 underlying39 underlying41 underlying43 underlying45 underlying47 underlying48 underlying50 underlying56 underlying57 underlying61 underlying64 underlying65 underlying70 underlying72 underlying73 underlying74 underlying75 underlying77 underlying79 underlying81 underlying83 underlying89 underlying91 underlying93 underlying95 underlying97 underlying98 underlying99 underlying101 underlying104 underlying108 underlying118 underlying120 underlying121 underlying123 underlying127 underlying132 underlying135 underlying138 underlying142 underlying143 underlying145 underlying151 underlying179 underlying183 underlying185 underlying202 underlying265 underlying266 underlying268 underlying281
@[simp] theorem Tryz.T2:B5 prog 2 = some 1/\B9 prog 2 = some false/\I7 prog 2 = some [.int .i64 0]:=by and_intros <;> kernel_rfl
@[simp] theorem Tryz.bytes2:C3 prog 2 = some 8:=by kernel_rfl
@[simp] theorem Tryz.T3:B5 prog 3 = some 1/\B9 prog 3 = some false/\I7 prog 3 = some [.int .i64 0]:=by and_intros <;> kernel_rfl
@[simp] theorem Tryz.bytes3:C3 prog 3 = some 8:=by kernel_rfl
@[simp] theorem Tryz.T4:B5 prog 4 = some 1/\B9 prog 4 = some false/\I7 prog 4 = some [.bool false]:=by and_intros <;> kernel_rfl
@[simp] theorem Tryz.bytes4:C3 prog 4 = some 1:=by kernel_rfl
@[simp] theorem Tryz.T5:B5 prog 5 = some 1/\B9 prog 5 = some false/\I7 prog 5 = some [.int .u8 0]:=by and_intros <;> kernel_rfl
@[simp] theorem Tryz.bytes5:C3 prog 5 = some 1:=by kernel_rfl
@[simp] theorem Tryz.T9:B5 prog 9 = some 1/\B9 prog 9 = some false/\I7 prog 9 = some [.str []]:=by and_intros <;> kernel_rfl
@[simp] theorem Tryz.bytes9:C3 prog 9 = some 16:=by kernel_rfl
@[simp] theorem Tryz.T22:B5 prog 22 = some 1/\B9 prog 22 = some false/\I7 prog 22 = some [.nilslc]/\V3 prog 22 = some 41:=by and_intros <;> kernel_rfl
@[simp] theorem Tryz.bytes22:C3 prog 22 = some 24:=by kernel_rfl
@[simp] theorem Tryz.T23:B5 prog 23 = some 1/\B9 prog 23 = some false/\I7 prog 23 = some [.nilptr]:=by and_intros <;> kernel_rfl
@[simp] theorem Tryz.bytes23:C3 prog 23 = some 8:=by kernel_rfl
@[simp] theorem Tryz.T25:B5 prog 25 = some 1/\B9 prog 25 = some false/\I7 prog 25 = some [.nilslc]/\V3 prog 25 = some 61:=by and_intros <;> kernel_rfl
@[simp] theorem Tryz.bytes25:C3 prog 25 = some 24:=by kernel_rfl
@[simp] theorem Tryz.T27:B5 prog 27 = some 1/\B9 prog 27 = some false/\I7 prog 27 = some [.nilslc]/\V3 prog 27 = some 5:=by and_intros <;> kernel_rfl
@[simp] theorem Tryz.bytes27:C3 prog 27 = some 24:=by kernel_rfl
@[simp] theorem Tryz.T28:B5 prog 28 = some 1/\B9 prog 28 = some false/\I7 prog 28 = some [.flt 0]:=by and_intros <;> kernel_rfl
@[simp] theorem Tryz.bytes28:C3 prog 28 = some 8:=by kernel_rfl
@[simp] theorem Tryz.T30:B5 prog 30 = some 3/\B9 prog 30 = some true/\I7 prog 30 = some [.int .i64 0,.nilslc,.flt 0]:=by and_intros <;> kernel_rfl
@[simp] theorem Tryz.bytes30:C3 prog 30 = some 40:=by kernel_rfl
@[simp] theorem Tryz.field30n0:y9 prog 30 0 = some (0,3):=by kernel_rfl
@[simp] theorem Tryz.field30n1:y9 prog 30 1 = some (1,27):=by kernel_rfl
@[simp] theorem Tryz.field30n2:y9 prog 30 2 = some (2,28):=by kernel_rfl
@[simp] theorem Tryz.T32:B5 prog 32 = some 6/\B9 prog 32 = some true/\I7 prog 32 = some [.bool false,.bool false,.str [],.int .i64 0,.nilslc,.flt 0]:=by and_intros <;> kernel_rfl
@[simp] theorem Tryz.bytes32:C3 prog 32 = some 64:=by kernel_rfl
@[simp] theorem Tryz.field32n0:y9 prog 32 0 = some (0,4):=by kernel_rfl
@[simp] theorem Tryz.field32n1:y9 prog 32 1 = some (1,4):=by kernel_rfl
@[simp] theorem Tryz.field32n2:y9 prog 32 2 = some (2,9):=by kernel_rfl
@[simp] theorem Tryz.field32n3:y9 prog 32 3 = some (3,30):=by kernel_rfl
@[simp] theorem Tryz.T33:B5 prog 33 = some 1/\B9 prog 33 = some false/\I7 prog 33 = some [.nilslc]/\V3 prog 33 = some 108:=by and_intros <;> kernel_rfl
@[simp] theorem Tryz.bytes33:C3 prog 33 = some 24:=by kernel_rfl
@[simp] theorem Tryz.T35:B5 prog 35 = some 11/\B9 prog 35 = some true/\I7 prog 35 = some [.int .i64 0,.str [],.str [],.bool false,.bool false,.str [],.int .i64 0,.nilslc,.flt 0,.nilslc,.int .i64 0]:=by and_intros <;> kernel_rfl
@[simp] theorem Tryz.bytes35:C3 prog 35 = some 136:=by kernel_rfl
@[simp] theorem Tryz.field35n0:y9 prog 35 0 = some (0,3):=by kernel_rfl
@[simp] theorem Tryz.field35n1:y9 prog 35 1 = some (1,9):=by kernel_rfl
@[simp] theorem Tryz.field35n2:y9 prog 35 2 = some (2,9):=by kernel_rfl
@[simp] theorem Tryz.field35n3:y9 prog 35 3 = some (3,32):=by kernel_rfl
@[simp] theorem Tryz.field35n4:y9 prog 35 4 = some (9,33):=by kernel_rfl
@[simp] theorem Tryz.field35n5:y9 prog 35 5 = some (10,3):=by kernel_rfl
@[simp] theorem Tryz.T38:B5 prog 38 = some 4/\B9 prog 38 = some true/\I7 prog 38 = some [.bool false,.int .i64 0,.flt 0,.nilslc]:=by and_intros <;> kernel_rfl
@[simp] theorem Tryz.bytes38:C3 prog 38 = some 48:=by kernel_rfl
@[simp] theorem Tryz.field38n0:y9 prog 38 0 = some (0,4):=by kernel_rfl
@[simp] theorem Tryz.field38n1:y9 prog 38 1 = some (1,3):=by kernel_rfl
@[simp] theorem Tryz.field38n2:y9 prog 38 2 = some (2,28):=by kernel_rfl
@[simp] theorem Tryz.field38n3:y9 prog 38 3 = some (3,27):=by kernel_rfl
@[simp] theorem Tryz.T39:B5 prog 39 = some 1/\B9 prog 39 = some false/\I7 prog 39 = some [.nilslc]/\V3 prog 39 = some 151:=by and_intros <;> kernel_rfl
@[simp] theorem Tryz.bytes39:C3 prog 39 = some 24:=by kernel_rfl
@[simp] theorem Tryz.T41:B5 prog 41 = some 12/\B9 prog 41 = some true/\I7 prog 41 = some [.int .i64 0,.int .i64 0,.int .i64 0,.int .i64 0,.int .i64 0,.bool false,.bool false,.bool false,.int .i64 0,.flt 0,.nilslc,.nilslc]:=by and_intros <;> kernel_rfl
@[simp] theorem Tryz.bytes41:C3 prog 41 = some 120:=by kernel_rfl
@[simp] theorem Tryz.field41n0:y9 prog 41 0 = some (0,3):=by kernel_rfl
@[simp] theorem Tryz.field41n1:y9 prog 41 1 = some (1,3):=by kernel_rfl
@[simp] theorem Tryz.field41n2:y9 prog 41 2 = some (2,3):=by kernel_rfl
@[simp] theorem Tryz.field41n3:y9 prog 41 3 = some (3,3):=by kernel_rfl
@[simp] theorem Tryz.field41n4:y9 prog 41 4 = some (4,3):=by kernel_rfl
@[simp] theorem Tryz.field41n5:y9 prog 41 5 = some (5,4):=by kernel_rfl
@[simp] theorem Tryz.field41n6:y9 prog 41 6 = some (6,4):=by kernel_rfl
@[simp] theorem Tryz.field41n7:y9 prog 41 7 = some (7,38):=by kernel_rfl
@[simp] theorem Tryz.field41n8:y9 prog 41 8 = some (11,39):=by kernel_rfl
@[simp] theorem Tryz.T43:B5 prog 43 = some 2/\B9 prog 43 = some true/\I7 prog 43 = some [.str [],.str []]:=by and_intros <;> kernel_rfl
@[simp] theorem Tryz.bytes43:C3 prog 43 = some 32:=by kernel_rfl
@[simp] theorem Tryz.field43n0:y9 prog 43 0 = some (0,9):=by kernel_rfl
@[simp] theorem Tryz.field43n1:y9 prog 43 1 = some (1,9):=by kernel_rfl
@[simp] theorem Tryz.T45:B5 prog 45 = some 19/\B9 prog 45 = some true/\I7 prog 45 = some [.int .i64 0,.int .i64 0,.str [],.str [],.bool false,.bool false,.str [],.int .i64 0,.nilslc,.flt 0,.nilslc,.int .i64 0,.str [],.str [],.int .i64 0,.str [],.int .i64 0,.int .i64 0,.nilslc]:=by and_intros <;> kernel_rfl
@[simp] theorem Tryz.bytes45:C3 prog 45 = some 240:=by kernel_rfl
@[simp] theorem Tryz.field45n0:y9 prog 45 0 = some (0,3):=by kernel_rfl
@[simp] theorem Tryz.field45n1:y9 prog 45 1 = some (1,35):=by kernel_rfl
@[simp] theorem Tryz.field45n2:y9 prog 45 2 = some (12,43):=by kernel_rfl
@[simp] theorem Tryz.field45n3:y9 prog 45 3 = some (14,3):=by kernel_rfl
@[simp] theorem Tryz.field45n4:y9 prog 45 4 = some (15,9):=by kernel_rfl
@[simp] theorem Tryz.field45n5:y9 prog 45 5 = some (16,3):=by kernel_rfl
@[simp] theorem Tryz.field45n6:y9 prog 45 6 = some (17,3):=by kernel_rfl
@[simp] theorem Tryz.field45n7:y9 prog 45 7 = some (18,27):=by kernel_rfl
@[simp] theorem Tryz.T47:B5 prog 47 = some 1/\B9 prog 47 = some false/\I7 prog 47 = some [.int .i64 0]:=by and_intros <;> kernel_rfl
@[simp] theorem Tryz.bytes47:C3 prog 47 = some 8:=by kernel_rfl
@[simp] theorem Tryz.T48:B5 prog 48 = some 1/\B9 prog 48 = some false/\I7 prog 48 = some [.nilslc]/\V3 prog 48 = some 83:=by and_intros <;> kernel_rfl
@[simp] theorem Tryz.bytes48:C3 prog 48 = some 24:=by kernel_rfl
@[simp] theorem Tryz.T50:B5 prog 50 = some 11/\B9 prog 50 = some true/\I7 prog 50 = some [.int .i64 0,.nilslc,.str [],.str [],.int .i64 0,.int .i64 0,.int .i64 0,.int .i64 0,.int .i64 0,.str [],.nilslc]:=by and_intros <;> kernel_rfl
@[simp] theorem Tryz.bytes50:C3 prog 50 = some 144:=by kernel_rfl
@[simp] theorem Tryz.field50n0:y9 prog 50 0 = some (0,47):=by kernel_rfl
@[simp] theorem Tryz.field50n1:y9 prog 50 1 = some (1,48):=by kernel_rfl
@[simp] theorem Tryz.field50n2:y9 prog 50 2 = some (2,43):=by kernel_rfl
@[simp] theorem Tryz.field50n3:y9 prog 50 3 = some (4,3):=by kernel_rfl
@[simp] theorem Tryz.field50n4:y9 prog 50 4 = some (5,3):=by kernel_rfl
@[simp] theorem Tryz.field50n5:y9 prog 50 5 = some (6,3):=by kernel_rfl
@[simp] theorem Tryz.field50n6:y9 prog 50 6 = some (7,3):=by kernel_rfl
@[simp] theorem Tryz.field50n7:y9 prog 50 7 = some (8,3):=by kernel_rfl
@[simp] theorem Tryz.field50n8:y9 prog 50 8 = some (9,9):=by kernel_rfl
@[simp] theorem Tryz.field50n9:y9 prog 50 9 = some (10,27):=by kernel_rfl
@[simp] theorem Tryz.T56:B5 prog 56 = some 1/\B9 prog 56 = some false/\I7 prog 56 = some [.nilslc]/\V3 prog 56 = some 50:=by and_intros <;> kernel_rfl
@[simp] theorem Tryz.bytes56:C3 prog 56 = some 24:=by kernel_rfl
@[simp] theorem Tryz.T57:B5 prog 57 = some 1/\B9 prog 57 = some false/\I7 prog 57 = some [.nilslc]/\V3 prog 57 = some 3:=by and_intros <;> kernel_rfl
@[simp] theorem Tryz.bytes57:C3 prog 57 = some 24:=by kernel_rfl
@[simp] theorem Tryz.T61:B5 prog 61 = some 4/\B9 prog 61 = some true/\I7 prog 61 = some [.str [],.str [],.int .i64 0,.int .i64 0]:=by and_intros <;> kernel_rfl
@[simp] theorem Tryz.bytes61:C3 prog 61 = some 48:=by kernel_rfl
@[simp] theorem Tryz.field61n0:y9 prog 61 0 = some (0,43):=by kernel_rfl
@[simp] theorem Tryz.field61n1:y9 prog 61 1 = some (2,3):=by kernel_rfl
@[simp] theorem Tryz.field61n2:y9 prog 61 2 = some (3,3):=by kernel_rfl
@[simp] theorem Tryz.T64:B5 prog 64 = some 1/\B9 prog 64 = some false/\I7 prog 64 = some [.nilslc]/\V3 prog 64 = some 70:=by and_intros <;> kernel_rfl
@[simp] theorem Tryz.bytes64:C3 prog 64 = some 24:=by kernel_rfl
@[simp] theorem Tryz.T65:B5 prog 65 = some 1/\B9 prog 65 = some false/\I7 prog 65 = some [.nilptr]:=by and_intros <;> kernel_rfl
@[simp] theorem Tryz.bytes65:C3 prog 65 = some 8:=by kernel_rfl
@[simp] theorem Tryz.T70:B5 prog 70 = some 37/\B9 prog 70 = some true/\I7 prog 70 = some [.int .i64 0,.int .i64 0,.int .i64 0,.int .i64 0,.int .i64 0,.int .i64 0,.int .i64 0,.int .i64 0,.int .i64 0,.int .i64 0,.int .i64 0,.bool false,.bool false,.bool false,.int .i64 0,.flt 0,.nilslc,.nilslc,.int .i64 0,.int .i64 0,.str [],.str [],.bool false,.bool false,.str [],.int .i64 0,.nilslc,.flt 0,.nilslc,.int .i64 0,.str [],.str [],.int .i64 0,.str [],.int .i64 0,.int .i64 0,.nilslc]:=by and_intros <;> kernel_rfl
@[simp] theorem Tryz.bytes70:C3 prog 70 = some 408:=by kernel_rfl
@[simp] theorem Tryz.field70n0:y9 prog 70 0 = some (0,3):=by kernel_rfl
@[simp] theorem Tryz.field70n1:y9 prog 70 1 = some (1,3):=by kernel_rfl
@[simp] theorem Tryz.field70n2:y9 prog 70 2 = some (2,3):=by kernel_rfl
@[simp] theorem Tryz.field70n3:y9 prog 70 3 = some (3,3):=by kernel_rfl
@[simp] theorem Tryz.field70n4:y9 prog 70 4 = some (4,3):=by kernel_rfl
@[simp] theorem Tryz.field70n5:y9 prog 70 5 = some (5,3):=by kernel_rfl
@[simp] theorem Tryz.field70n6:y9 prog 70 6 = some (6,41):=by kernel_rfl
@[simp] theorem Tryz.field70n7:y9 prog 70 7 = some (18,45):=by kernel_rfl
@[simp] theorem Tryz.T72:B5 prog 72 = some 1/\B9 prog 72 = some false/\I7 prog 72 = some [.nilslc]/\V3 prog 72 = some 43:=by and_intros <;> kernel_rfl
@[simp] theorem Tryz.bytes72:C3 prog 72 = some 24:=by kernel_rfl
@[simp] theorem Tryz.T73:B5 prog 73 = some 1/\B9 prog 73 = some false/\I7 prog 73 = some [.nilptr]:=by and_intros <;> kernel_rfl
@[simp] theorem Tryz.bytes73:C3 prog 73 = some 8:=by kernel_rfl
@[simp] theorem Tryz.T74:B5 prog 74 = some 1/\B9 prog 74 = some false/\I7 prog 74 = some [.nilslc]/\V3 prog 74 = some 27:=by and_intros <;> kernel_rfl
@[simp] theorem Tryz.bytes74:C3 prog 74 = some 24:=by kernel_rfl
@[simp] theorem Tryz.T75:B5 prog 75 = some 1/\B9 prog 75 = some false/\I7 prog 75 = some [.nilslc]/\V3 prog 75 = some 123:=by and_intros <;> kernel_rfl
@[simp] theorem Tryz.bytes75:C3 prog 75 = some 24:=by kernel_rfl
@[simp] theorem Tryz.T77:B5 prog 77 = some 4/\B9 prog 77 = some true/\I7 prog 77 = some [.nilptr,.nilptr,.nilslc,.nilslc]:=by and_intros <;> kernel_rfl
@[simp] theorem Tryz.bytes77:C3 prog 77 = some 64:=by kernel_rfl
@[simp] theorem Tryz.field77n0:y9 prog 77 0 = some (0,23):=by kernel_rfl
@[simp] theorem Tryz.field77n1:y9 prog 77 1 = some (1,73):=by kernel_rfl
@[simp] theorem Tryz.field77n2:y9 prog 77 2 = some (2,74):=by kernel_rfl
@[simp] theorem Tryz.field77n3:y9 prog 77 3 = some (3,75):=by kernel_rfl
@[simp] theorem Tryz.T79:B5 prog 79 = some 1/\B9 prog 79 = some false/\I7 prog 79 = some [.nilslc]/\V3 prog 79 = some 91:=by and_intros <;> kernel_rfl
@[simp] theorem Tryz.bytes79:C3 prog 79 = some 24:=by kernel_rfl
@[simp] theorem Tryz.T81:B5 prog 81 = some 1/\B9 prog 81 = some true/\I7 prog 81 = some [.nilslc]:=by and_intros <;> kernel_rfl
@[simp] theorem Tryz.bytes81:C3 prog 81 = some 24:=by kernel_rfl
@[simp] theorem Tryz.field81n0:y9 prog 81 0 = some (0,79):=by kernel_rfl
@[simp] theorem Tryz.T83:B5 prog 83 = some 2/\B9 prog 83 = some true/\I7 prog 83 = some [.str [],.nilslc]:=by and_intros <;> kernel_rfl
@[simp] theorem Tryz.bytes83:C3 prog 83 = some 40:=by kernel_rfl
@[simp] theorem Tryz.field83n0:y9 prog 83 0 = some (0,9):=by kernel_rfl
@[simp] theorem Tryz.field83n1:y9 prog 83 1 = some (1,81):=by kernel_rfl
@[simp] theorem Tryz.T89:B5 prog 89 = some 1/\B9 prog 89 = some false/\I7 prog 89 = some [.nilslc]/\V3 prog 89 = some 93:=by and_intros <;> kernel_rfl
@[simp] theorem Tryz.bytes89:C3 prog 89 = some 24:=by kernel_rfl
@[simp] theorem Tryz.T91:B5 prog 91 = some 2/\B9 prog 91 = some true/\I7 prog 91 = some [.str [],.nilslc]:=by and_intros <;> kernel_rfl
@[simp] theorem Tryz.bytes91:C3 prog 91 = some 40:=by kernel_rfl
@[simp] theorem Tryz.field91n0:y9 prog 91 0 = some (0,9):=by kernel_rfl
@[simp] theorem Tryz.field91n1:y9 prog 91 1 = some (1,89):=by kernel_rfl
@[simp] theorem Tryz.T93:B5 prog 93 = some 4/\B9 prog 93 = some true/\I7 prog 93 = some [.int .i64 0,.int .i64 0,.nilslc,.flt 0]:=by and_intros <;> kernel_rfl
@[simp] theorem Tryz.bytes93:C3 prog 93 = some 48:=by kernel_rfl
@[simp] theorem Tryz.field93n0:y9 prog 93 0 = some (0,2):=by kernel_rfl
@[simp] theorem Tryz.field93n1:y9 prog 93 1 = some (1,30):=by kernel_rfl
@[simp] theorem Tryz.T95:B5 prog 95 = some 1/\B9 prog 95 = some false/\I7 prog 95 = some [.nilslc]/\V3 prog 95 = some 98:=by and_intros <;> kernel_rfl
@[simp] theorem Tryz.bytes95:C3 prog 95 = some 24:=by kernel_rfl
@[simp] theorem Tryz.T97:B5 prog 97 = some 3/\B9 prog 97 = some true/\I7 prog 97 = some [.nilslc,.int .i64 0,.int .i64 0]:=by and_intros <;> kernel_rfl
@[simp] theorem Tryz.bytes97:C3 prog 97 = some 40:=by kernel_rfl
@[simp] theorem Tryz.field97n0:y9 prog 97 0 = some (0,95):=by kernel_rfl
@[simp] theorem Tryz.field97n1:y9 prog 97 1 = some (1,3):=by kernel_rfl
@[simp] theorem Tryz.field97n2:y9 prog 97 2 = some (2,47):=by kernel_rfl
@[simp] theorem Tryz.T98:B5 prog 98 = some 1/\B9 prog 98 = some false/\I7 prog 98 = some [.nilptr]:=by and_intros <;> kernel_rfl
@[simp] theorem Tryz.bytes98:C3 prog 98 = some 8:=by kernel_rfl
@[simp] theorem Tryz.T99:B5 prog 99 = some 1/\B9 prog 99 = some false/\I7 prog 99 = some [.nilptr]:=by and_intros <;> kernel_rfl
@[simp] theorem Tryz.bytes99:C3 prog 99 = some 8:=by kernel_rfl
@[simp] theorem Tryz.T101:B5 prog 101 = some 1/\B9 prog 101 = some false/\I7 prog 101 = some [.nilptr]:=by and_intros <;> kernel_rfl
@[simp] theorem Tryz.bytes101:C3 prog 101 = some 8:=by kernel_rfl
@[simp] theorem Tryz.T104:B5 prog 104 = some 6/\B9 prog 104 = some true/\I7 prog 104 = some [.str [],.str [],.int .i64 0,.bool false,.nilptr,.nilptr]:=by and_intros <;> kernel_rfl
@[simp] theorem Tryz.bytes104:C3 prog 104 = some 64:=by kernel_rfl
@[simp] theorem Tryz.field104n0:y9 prog 104 0 = some (0,43):=by kernel_rfl
@[simp] theorem Tryz.field104n1:y9 prog 104 1 = some (2,3):=by kernel_rfl
@[simp] theorem Tryz.field104n2:y9 prog 104 2 = some (3,4):=by kernel_rfl
@[simp] theorem Tryz.field104n3:y9 prog 104 3 = some (4,99):=by kernel_rfl
@[simp] theorem Tryz.field104n4:y9 prog 104 4 = some (5,101):=by kernel_rfl
@[simp] theorem Tryz.T108:B5 prog 108 = some 6/\B9 prog 108 = some true/\I7 prog 108 = some [.int .i64 0,.str [],.int .i64 0,.int .i64 0,.nilslc,.flt 0]:=by and_intros <;> kernel_rfl
@[simp] theorem Tryz.bytes108:C3 prog 108 = some 72:=by kernel_rfl
@[simp] theorem Tryz.field108n0:y9 prog 108 0 = some (0,3):=by kernel_rfl
@[simp] theorem Tryz.field108n1:y9 prog 108 1 = some (1,9):=by kernel_rfl
@[simp] theorem Tryz.field108n2:y9 prog 108 2 = some (2,2):=by kernel_rfl
@[simp] theorem Tryz.field108n3:y9 prog 108 3 = some (3,30):=by kernel_rfl
@[simp] theorem Tryz.T118:B5 prog 118 = some 1/\B9 prog 118 = some false/\I7 prog 118 = some [.nilslc]/\V3 prog 118 = some 9:=by and_intros <;> kernel_rfl
@[simp] theorem Tryz.bytes118:C3 prog 118 = some 24:=by kernel_rfl
@[simp] theorem Tryz.T120:B5 prog 120 = some 1/\B9 prog 120 = some false/\I7 prog 120 = some [.nilptr]:=by and_intros <;> kernel_rfl
@[simp] theorem Tryz.bytes120:C3 prog 120 = some 8:=by kernel_rfl
@[simp] theorem Tryz.T121:B5 prog 121 = some 1/\B9 prog 121 = some false/\I7 prog 121 = some [.nilslc]/\V3 prog 121 = some 265:=by and_intros <;> kernel_rfl
@[simp] theorem Tryz.bytes121:C3 prog 121 = some 24:=by kernel_rfl
@[simp] theorem Tryz.T123:B5 prog 123 = some 6/\B9 prog 123 = some true/\I7 prog 123 = some [.str [],.str [],.int .i64 0,.bool false,.nilslc,.nilslc]:=by and_intros <;> kernel_rfl
@[simp] theorem Tryz.bytes123:C3 prog 123 = some 96:=by kernel_rfl
@[simp] theorem Tryz.field123n0:y9 prog 123 0 = some (0,43):=by kernel_rfl
@[simp] theorem Tryz.field123n1:y9 prog 123 1 = some (2,3):=by kernel_rfl
@[simp] theorem Tryz.field123n2:y9 prog 123 2 = some (3,4):=by kernel_rfl
@[simp] theorem Tryz.field123n3:y9 prog 123 3 = some (4,48):=by kernel_rfl
@[simp] theorem Tryz.field123n4:y9 prog 123 4 = some (5,121):=by kernel_rfl
@[simp] theorem Tryz.T127:B5 prog 127 = some 3/\B9 prog 127 = some true/\I7 prog 127 = some [.nilslc,.int .i64 0,.int .i64 0]:=by and_intros <;> kernel_rfl
@[simp] theorem Tryz.bytes127:C3 prog 127 = some 40:=by kernel_rfl
@[simp] theorem Tryz.field127n0:y9 prog 127 0 = some (0,75):=by kernel_rfl
@[simp] theorem Tryz.field127n1:y9 prog 127 1 = some (1,3):=by kernel_rfl
@[simp] theorem Tryz.field127n2:y9 prog 127 2 = some (2,47):=by kernel_rfl
@[simp] theorem Tryz.T132:B5 prog 132 = some 1/\B9 prog 132 = some false/\I7 prog 132 = some [.nilptr]:=by and_intros <;> kernel_rfl
@[simp] theorem Tryz.bytes132:C3 prog 132 = some 8:=by kernel_rfl
@[simp] theorem Tryz.T135:B5 prog 135 = some 1/\B9 prog 135 = some false/\I7 prog 135 = some [.nilptr]:=by and_intros <;> kernel_rfl
@[simp] theorem Tryz.bytes135:C3 prog 135 = some 8:=by kernel_rfl
@[simp] theorem Tryz.T138:B5 prog 138 = some 1/\B9 prog 138 = some false/\I7 prog 138 = some [.int .u32 0]:=by and_intros <;> kernel_rfl
@[simp] theorem Tryz.bytes138:C3 prog 138 = some 4:=by kernel_rfl
@[simp] theorem Tryz.T142:B5 prog 142 = some 1/\B9 prog 142 = some true/\I7 prog 142 = some [.nilslc]:=by and_intros <;> kernel_rfl
@[simp] theorem Tryz.bytes142:C3 prog 142 = some 24:=by kernel_rfl
@[simp] theorem Tryz.field142n0:y9 prog 142 0 = some (0,48):=by kernel_rfl
@[simp] theorem Tryz.T143:B5 prog 143 = some 1/\B9 prog 143 = some false/\I7 prog 143 = some [.nilslc]/\V3 prog 143 = some 202:=by and_intros <;> kernel_rfl
@[simp] theorem Tryz.bytes143:C3 prog 143 = some 24:=by kernel_rfl
@[simp] theorem Tryz.T145:B5 prog 145 = some 1/\B9 prog 145 = some true/\I7 prog 145 = some [.nilslc]:=by and_intros <;> kernel_rfl
@[simp] theorem Tryz.bytes145:C3 prog 145 = some 24:=by kernel_rfl
@[simp] theorem Tryz.field145n0:y9 prog 145 0 = some (0,143):=by kernel_rfl
@[simp] theorem Tryz.T151:B5 prog 151 = some 7/\B9 prog 151 = some true/\I7 prog 151 = some [.int .i64 0,.int .i64 0,.int .i64 0,.bool false,.int .i64 0,.flt 0,.nilslc]:=by and_intros <;> kernel_rfl
@[simp] theorem Tryz.bytes151:C3 prog 151 = some 72:=by kernel_rfl
@[simp] theorem Tryz.field151n0:y9 prog 151 0 = some (0,3):=by kernel_rfl
@[simp] theorem Tryz.field151n1:y9 prog 151 1 = some (1,3):=by kernel_rfl
@[simp] theorem Tryz.field151n2:y9 prog 151 2 = some (2,2):=by kernel_rfl
@[simp] theorem Tryz.field151n3:y9 prog 151 3 = some (3,38):=by kernel_rfl
@[simp] theorem Tryz.T179:B5 prog 179 = some 1/\B9 prog 179 = some true/\I7 prog 179 = some [.nilslc]:=by and_intros <;> kernel_rfl
@[simp] theorem Tryz.bytes179:C3 prog 179 = some 24:=by kernel_rfl
@[simp] theorem Tryz.field179n0:y9 prog 179 0 = some (0,27):=by kernel_rfl
@[simp] theorem Tryz.T183:B5 prog 183 = some 1/\B9 prog 183 = some true/\I7 prog 183 = some [.nilslc]:=by and_intros <;> kernel_rfl
@[simp] theorem Tryz.bytes183:C3 prog 183 = some 24:=by kernel_rfl
@[simp] theorem Tryz.field183n0:y9 prog 183 0 = some (0,27):=by kernel_rfl
@[simp] theorem Tryz.T185:B5 prog 185 = some 1/\B9 prog 185 = some false/\I7 prog 185 = some [.int .u64 0]:=by and_intros <;> kernel_rfl
@[simp] theorem Tryz.bytes185:C3 prog 185 = some 8:=by kernel_rfl
@[simp] theorem Tryz.T202:B5 prog 202 = some 3/\B9 prog 202 = some true/\I7 prog 202 = some [.int .i64 0,.int .i64 0,.nilslc]:=by and_intros <;> kernel_rfl
@[simp] theorem Tryz.bytes202:C3 prog 202 = some 40:=by kernel_rfl
@[simp] theorem Tryz.field202n0:y9 prog 202 0 = some (0,3):=by kernel_rfl
@[simp] theorem Tryz.field202n1:y9 prog 202 1 = some (1,3):=by kernel_rfl
@[simp] theorem Tryz.field202n2:y9 prog 202 2 = some (2,27):=by kernel_rfl
@[simp] theorem Tryz.T265:B5 prog 265 = some 3/\B9 prog 265 = some true/\I7 prog 265 = some [.int .i64 0,.int .i64 0,.nilslc]:=by and_intros <;> kernel_rfl
@[simp] theorem Tryz.bytes265:C3 prog 265 = some 40:=by kernel_rfl
@[simp] theorem Tryz.field265n0:y9 prog 265 0 = some (0,3):=by kernel_rfl
@[simp] theorem Tryz.field265n1:y9 prog 265 1 = some (1,3):=by kernel_rfl
@[simp] theorem Tryz.field265n2:y9 prog 265 2 = some (2,27):=by kernel_rfl
@[simp] theorem Tryz.T266:B5 prog 266 = some 1/\B9 prog 266 = some false/\I7 prog 266 = some [.nilptr]:=by and_intros <;> kernel_rfl
@[simp] theorem Tryz.bytes266:C3 prog 266 = some 8:=by kernel_rfl
@[simp] theorem Tryz.T268:B5 prog 268 = some 2/\B9 prog 268 = some true/\I7 prog 268 = some [.nilslc,.bool false]:=by and_intros <;> kernel_rfl
@[simp] theorem Tryz.bytes268:C3 prog 268 = some 32:=by kernel_rfl
@[simp] theorem Tryz.field268n0:y9 prog 268 0 = some (0,27):=by kernel_rfl
@[simp] theorem Tryz.field268n1:y9 prog 268 1 = some (1,4):=by kernel_rfl
@[simp] theorem Tryz.T281:B5 prog 281 = some 1/\B9 prog 281 = some false/\I7 prog 281 = some [.int .u64 0]:=by and_intros <;> kernel_rfl
@[simp] theorem Tryz.bytes281:C3 prog 281 = some 8:=by kernel_rfl
end Go.Proofs.YtiagcnfmgigllaaGreat
