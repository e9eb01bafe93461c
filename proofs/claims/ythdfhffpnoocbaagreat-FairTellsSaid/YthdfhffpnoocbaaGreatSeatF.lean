/- A part of a proof over the abstract machine. No conditions. -/
import Derived.Test.YthdfhffpnoocbaaGreatAb3
import Derived.Test.YthdfhffpnoocbaaGreatRows
namespace Go.Proofs.YthdfhffpnoocbaaGreat
open Go Go.Ab
theorem Tryz.tyCount : Tryz.prog.types.size = 316 := by kernel_rfl
attribute [simp] Tryz.tyCount
attribute [simp] Tryz.underlying2
@[simp] theorem Tryz.size2 : sizeT Tryz.prog 2 = some 1 := by kernel_rfl
@[simp] theorem Tryz.bytes2 : bytesT Tryz.prog 2 = some 8 := by kernel_rfl
@[simp] theorem Tryz.agg2 : isAggT Tryz.prog 2 = some false := by kernel_rfl
@[simp] theorem Tryz.zero2 : zeroT Tryz.prog 2 = some [.int .i64 0] := by kernel_rfl
attribute [simp] Tryz.underlying3
@[simp] theorem Tryz.size3 : sizeT Tryz.prog 3 = some 1 := by kernel_rfl
@[simp] theorem Tryz.bytes3 : bytesT Tryz.prog 3 = some 8 := by kernel_rfl
@[simp] theorem Tryz.agg3 : isAggT Tryz.prog 3 = some false := by kernel_rfl
@[simp] theorem Tryz.zero3 : zeroT Tryz.prog 3 = some [.int .i64 0] := by kernel_rfl
attribute [simp] Tryz.underlying4
@[simp] theorem Tryz.size4 : sizeT Tryz.prog 4 = some 1 := by kernel_rfl
@[simp] theorem Tryz.bytes4 : bytesT Tryz.prog 4 = some 1 := by kernel_rfl
@[simp] theorem Tryz.agg4 : isAggT Tryz.prog 4 = some false := by kernel_rfl
@[simp] theorem Tryz.zero4 : zeroT Tryz.prog 4 = some [.bool false] := by kernel_rfl
attribute [simp] Tryz.underlying5
@[simp] theorem Tryz.size5 : sizeT Tryz.prog 5 = some 1 := by kernel_rfl
@[simp] theorem Tryz.bytes5 : bytesT Tryz.prog 5 = some 1 := by kernel_rfl
@[simp] theorem Tryz.agg5 : isAggT Tryz.prog 5 = some false := by kernel_rfl
@[simp] theorem Tryz.zero5 : zeroT Tryz.prog 5 = some [.int .u8 0] := by kernel_rfl
attribute [simp] Tryz.underlying9
@[simp] theorem Tryz.size9 : sizeT Tryz.prog 9 = some 1 := by kernel_rfl
@[simp] theorem Tryz.bytes9 : bytesT Tryz.prog 9 = some 16 := by kernel_rfl
@[simp] theorem Tryz.agg9 : isAggT Tryz.prog 9 = some false := by kernel_rfl
@[simp] theorem Tryz.zero9 : zeroT Tryz.prog 9 = some [.str []] := by kernel_rfl
attribute [simp] Tryz.underlying23
@[simp] theorem Tryz.size23 : sizeT Tryz.prog 23 = some 3 := by kernel_rfl
@[simp] theorem Tryz.bytes23 : bytesT Tryz.prog 23 = some 24 := by kernel_rfl
@[simp] theorem Tryz.agg23 : isAggT Tryz.prog 23 = some true := by kernel_rfl
@[simp] theorem Tryz.zero23 : zeroT Tryz.prog 23 = some [.int .i64 0, .int .i64 0, .int .i64 0] := by kernel_rfl
@[simp] theorem Tryz.field23n0 : fieldT Tryz.prog 23 0 = some (0, 3) := by kernel_rfl
@[simp] theorem Tryz.field23n1 : fieldT Tryz.prog 23 1 = some (1, 3) := by kernel_rfl
@[simp] theorem Tryz.field23n2 : fieldT Tryz.prog 23 2 = some (2, 3) := by kernel_rfl
attribute [simp] Tryz.underlying24
@[simp] theorem Tryz.size24 : sizeT Tryz.prog 24 = some 1 := by kernel_rfl
@[simp] theorem Tryz.bytes24 : bytesT Tryz.prog 24 = some 24 := by kernel_rfl
@[simp] theorem Tryz.agg24 : isAggT Tryz.prog 24 = some false := by kernel_rfl
@[simp] theorem Tryz.zero24 : zeroT Tryz.prog 24 = some [.nilslc] := by kernel_rfl
@[simp] theorem Tryz.elem24 : elemT Tryz.prog 24 = some 29 := by kernel_rfl
attribute [simp] Tryz.underlying27
@[simp] theorem Tryz.size27 : sizeT Tryz.prog 27 = some 1 := by kernel_rfl
@[simp] theorem Tryz.bytes27 : bytesT Tryz.prog 27 = some 24 := by kernel_rfl
@[simp] theorem Tryz.agg27 : isAggT Tryz.prog 27 = some false := by kernel_rfl
@[simp] theorem Tryz.zero27 : zeroT Tryz.prog 27 = some [.nilslc] := by kernel_rfl
@[simp] theorem Tryz.elem27 : elemT Tryz.prog 27 = some 5 := by kernel_rfl
attribute [simp] Tryz.underlying29
@[simp] theorem Tryz.size29 : sizeT Tryz.prog 29 = some 5 := by kernel_rfl
@[simp] theorem Tryz.bytes29 : bytesT Tryz.prog 29 = some 56 := by kernel_rfl
@[simp] theorem Tryz.agg29 : isAggT Tryz.prog 29 = some true := by kernel_rfl
@[simp] theorem Tryz.zero29 : zeroT Tryz.prog 29 = some [.int .i64 0, .int .i64 0, .int .i64 0, .int .i64 0, .nilslc] := by kernel_rfl
@[simp] theorem Tryz.field29n0 : fieldT Tryz.prog 29 0 = some (0, 3) := by kernel_rfl
@[simp] theorem Tryz.field29n1 : fieldT Tryz.prog 29 1 = some (1, 3) := by kernel_rfl
@[simp] theorem Tryz.field29n2 : fieldT Tryz.prog 29 2 = some (2, 3) := by kernel_rfl
@[simp] theorem Tryz.field29n3 : fieldT Tryz.prog 29 3 = some (3, 3) := by kernel_rfl
@[simp] theorem Tryz.field29n4 : fieldT Tryz.prog 29 4 = some (4, 27) := by kernel_rfl
attribute [simp] Tryz.underlying36
@[simp] theorem Tryz.size36 : sizeT Tryz.prog 36 = some 1 := by kernel_rfl
@[simp] theorem Tryz.bytes36 : bytesT Tryz.prog 36 = some 8 := by kernel_rfl
@[simp] theorem Tryz.agg36 : isAggT Tryz.prog 36 = some false := by kernel_rfl
@[simp] theorem Tryz.zero36 : zeroT Tryz.prog 36 = some [.nilptr] := by kernel_rfl
attribute [simp] Tryz.underlying37
@[simp] theorem Tryz.size37 : sizeT Tryz.prog 37 = some 1 := by kernel_rfl
@[simp] theorem Tryz.bytes37 : bytesT Tryz.prog 37 = some 8 := by kernel_rfl
@[simp] theorem Tryz.agg37 : isAggT Tryz.prog 37 = some false := by kernel_rfl
@[simp] theorem Tryz.zero37 : zeroT Tryz.prog 37 = some [.int .i64 0] := by kernel_rfl
attribute [simp] Tryz.underlying45
@[simp] theorem Tryz.size45 : sizeT Tryz.prog 45 = some 1 := by kernel_rfl
@[simp] theorem Tryz.bytes45 : bytesT Tryz.prog 45 = some 24 := by kernel_rfl
@[simp] theorem Tryz.agg45 : isAggT Tryz.prog 45 = some false := by kernel_rfl
@[simp] theorem Tryz.zero45 : zeroT Tryz.prog 45 = some [.nilslc] := by kernel_rfl
@[simp] theorem Tryz.elem45 : elemT Tryz.prog 45 = some 3 := by kernel_rfl
attribute [simp] Tryz.underlying47
@[simp] theorem Tryz.size47 : sizeT Tryz.prog 47 = some 1 := by kernel_rfl
@[simp] theorem Tryz.bytes47 : bytesT Tryz.prog 47 = some 8 := by kernel_rfl
@[simp] theorem Tryz.agg47 : isAggT Tryz.prog 47 = some false := by kernel_rfl
@[simp] theorem Tryz.zero47 : zeroT Tryz.prog 47 = some [.nilptr] := by kernel_rfl
attribute [simp] Tryz.underlying49
@[simp] theorem Tryz.size49 : sizeT Tryz.prog 49 = some 1 := by kernel_rfl
@[simp] theorem Tryz.bytes49 : bytesT Tryz.prog 49 = some 24 := by kernel_rfl
@[simp] theorem Tryz.agg49 : isAggT Tryz.prog 49 = some false := by kernel_rfl
@[simp] theorem Tryz.zero49 : zeroT Tryz.prog 49 = some [.nilslc] := by kernel_rfl
@[simp] theorem Tryz.elem49 : elemT Tryz.prog 49 = some 57 := by kernel_rfl
attribute [simp] Tryz.underlying50
@[simp] theorem Tryz.size50 : sizeT Tryz.prog 50 = some 1 := by kernel_rfl
@[simp] theorem Tryz.bytes50 : bytesT Tryz.prog 50 = some 24 := by kernel_rfl
@[simp] theorem Tryz.agg50 : isAggT Tryz.prog 50 = some false := by kernel_rfl
@[simp] theorem Tryz.zero50 : zeroT Tryz.prog 50 = some [.nilslc] := by kernel_rfl
@[simp] theorem Tryz.elem50 : elemT Tryz.prog 50 = some 69 := by kernel_rfl
attribute [simp] Tryz.underlying51
@[simp] theorem Tryz.size51 : sizeT Tryz.prog 51 = some 1 := by kernel_rfl
@[simp] theorem Tryz.bytes51 : bytesT Tryz.prog 51 = some 8 := by kernel_rfl
@[simp] theorem Tryz.agg51 : isAggT Tryz.prog 51 = some false := by kernel_rfl
@[simp] theorem Tryz.zero51 : zeroT Tryz.prog 51 = some [.nilptr] := by kernel_rfl
attribute [simp] Tryz.underlying52
@[simp] theorem Tryz.size52 : sizeT Tryz.prog 52 = some 1 := by kernel_rfl
@[simp] theorem Tryz.bytes52 : bytesT Tryz.prog 52 = some 24 := by kernel_rfl
@[simp] theorem Tryz.agg52 : isAggT Tryz.prog 52 = some false := by kernel_rfl
@[simp] theorem Tryz.zero52 : zeroT Tryz.prog 52 = some [.nilslc] := by kernel_rfl
@[simp] theorem Tryz.elem52 : elemT Tryz.prog 52 = some 304 := by kernel_rfl
attribute [simp] Tryz.underlying54
@[simp] theorem Tryz.size54 : sizeT Tryz.prog 54 = some 8 := by kernel_rfl
@[simp] theorem Tryz.bytes54 : bytesT Tryz.prog 54 = some 112 := by kernel_rfl
@[simp] theorem Tryz.agg54 : isAggT Tryz.prog 54 = some true := by kernel_rfl
@[simp] theorem Tryz.zero54 : zeroT Tryz.prog 54 = some [.int .i64 0, .int .i64 0, .int .i64 0, .nilslc, .nilslc, .nilptr, .nilptr, .nilslc] := by kernel_rfl
@[simp] theorem Tryz.field54n0 : fieldT Tryz.prog 54 0 = some (0, 23) := by kernel_rfl
@[simp] theorem Tryz.field54n1 : fieldT Tryz.prog 54 1 = some (3, 49) := by kernel_rfl
@[simp] theorem Tryz.field54n2 : fieldT Tryz.prog 54 2 = some (4, 50) := by kernel_rfl
@[simp] theorem Tryz.field54n3 : fieldT Tryz.prog 54 3 = some (5, 47) := by kernel_rfl
@[simp] theorem Tryz.field54n4 : fieldT Tryz.prog 54 4 = some (6, 51) := by kernel_rfl
@[simp] theorem Tryz.field54n5 : fieldT Tryz.prog 54 5 = some (7, 52) := by kernel_rfl
attribute [simp] Tryz.underlying57
@[simp] theorem Tryz.size57 : sizeT Tryz.prog 57 = some 1 := by kernel_rfl
@[simp] theorem Tryz.bytes57 : bytesT Tryz.prog 57 = some 8 := by kernel_rfl
@[simp] theorem Tryz.agg57 : isAggT Tryz.prog 57 = some false := by kernel_rfl
@[simp] theorem Tryz.zero57 : zeroT Tryz.prog 57 = some [.nilptr] := by kernel_rfl
attribute [simp] Tryz.underlying58
@[simp] theorem Tryz.size58 : sizeT Tryz.prog 58 = some 1 := by kernel_rfl
@[simp] theorem Tryz.bytes58 : bytesT Tryz.prog 58 = some 8 := by kernel_rfl
@[simp] theorem Tryz.agg58 : isAggT Tryz.prog 58 = some false := by kernel_rfl
@[simp] theorem Tryz.zero58 : zeroT Tryz.prog 58 = some [.nilptr] := by kernel_rfl
attribute [simp] Tryz.underlying60
@[simp] theorem Tryz.size60 : sizeT Tryz.prog 60 = some 1 := by kernel_rfl
@[simp] theorem Tryz.bytes60 : bytesT Tryz.prog 60 = some 24 := by kernel_rfl
@[simp] theorem Tryz.agg60 : isAggT Tryz.prog 60 = some false := by kernel_rfl
@[simp] theorem Tryz.zero60 : zeroT Tryz.prog 60 = some [.nilslc] := by kernel_rfl
@[simp] theorem Tryz.elem60 : elemT Tryz.prog 60 = some 64 := by kernel_rfl
attribute [simp] Tryz.underlying61
@[simp] theorem Tryz.size61 : sizeT Tryz.prog 61 = some 1 := by kernel_rfl
@[simp] theorem Tryz.bytes61 : bytesT Tryz.prog 61 = some 24 := by kernel_rfl
@[simp] theorem Tryz.agg61 : isAggT Tryz.prog 61 = some false := by kernel_rfl
@[simp] theorem Tryz.zero61 : zeroT Tryz.prog 61 = some [.nilslc] := by kernel_rfl
@[simp] theorem Tryz.elem61 : elemT Tryz.prog 61 = some 66 := by kernel_rfl
attribute [simp] Tryz.underlying63
@[simp] theorem Tryz.size63 : sizeT Tryz.prog 63 = some 3 := by kernel_rfl
@[simp] theorem Tryz.bytes63 : bytesT Tryz.prog 63 = some 56 := by kernel_rfl
@[simp] theorem Tryz.agg63 : isAggT Tryz.prog 63 = some true := by kernel_rfl
@[simp] theorem Tryz.zero63 : zeroT Tryz.prog 63 = some [.nilslc, .nilslc, .nilptr] := by kernel_rfl
@[simp] theorem Tryz.field63n0 : fieldT Tryz.prog 63 0 = some (0, 60) := by kernel_rfl
@[simp] theorem Tryz.field63n1 : fieldT Tryz.prog 63 1 = some (1, 61) := by kernel_rfl
@[simp] theorem Tryz.field63n2 : fieldT Tryz.prog 63 2 = some (2, 58) := by kernel_rfl
attribute [simp] Tryz.underlying64
@[simp] theorem Tryz.size64 : sizeT Tryz.prog 64 = some 1 := by kernel_rfl
@[simp] theorem Tryz.bytes64 : bytesT Tryz.prog 64 = some 8 := by kernel_rfl
@[simp] theorem Tryz.agg64 : isAggT Tryz.prog 64 = some false := by kernel_rfl
@[simp] theorem Tryz.zero64 : zeroT Tryz.prog 64 = some [.nilptr] := by kernel_rfl
attribute [simp] Tryz.underlying66
@[simp] theorem Tryz.size66 : sizeT Tryz.prog 66 = some 1 := by kernel_rfl
@[simp] theorem Tryz.bytes66 : bytesT Tryz.prog 66 = some 8 := by kernel_rfl
@[simp] theorem Tryz.agg66 : isAggT Tryz.prog 66 = some false := by kernel_rfl
@[simp] theorem Tryz.zero66 : zeroT Tryz.prog 66 = some [.nilptr] := by kernel_rfl
attribute [simp] Tryz.underlying69
@[simp] theorem Tryz.size69 : sizeT Tryz.prog 69 = some 1 := by kernel_rfl
@[simp] theorem Tryz.bytes69 : bytesT Tryz.prog 69 = some 8 := by kernel_rfl
@[simp] theorem Tryz.agg69 : isAggT Tryz.prog 69 = some false := by kernel_rfl
@[simp] theorem Tryz.zero69 : zeroT Tryz.prog 69 = some [.nilptr] := by kernel_rfl
attribute [simp] Tryz.underlying76
@[simp] theorem Tryz.size76 : sizeT Tryz.prog 76 = some 1 := by kernel_rfl
@[simp] theorem Tryz.bytes76 : bytesT Tryz.prog 76 = some 24 := by kernel_rfl
@[simp] theorem Tryz.agg76 : isAggT Tryz.prog 76 = some false := by kernel_rfl
@[simp] theorem Tryz.zero76 : zeroT Tryz.prog 76 = some [.nilslc] := by kernel_rfl
@[simp] theorem Tryz.elem76 : elemT Tryz.prog 76 = some 4 := by kernel_rfl
attribute [simp] Tryz.underlying80
@[simp] theorem Tryz.size80 : sizeT Tryz.prog 80 = some 1 := by kernel_rfl
@[simp] theorem Tryz.bytes80 : bytesT Tryz.prog 80 = some 24 := by kernel_rfl
@[simp] theorem Tryz.agg80 : isAggT Tryz.prog 80 = some false := by kernel_rfl
@[simp] theorem Tryz.zero80 : zeroT Tryz.prog 80 = some [.nilslc] := by kernel_rfl
@[simp] theorem Tryz.elem80 : elemT Tryz.prog 80 = some 221 := by kernel_rfl
attribute [simp] Tryz.underlying82
@[simp] theorem Tryz.size82 : sizeT Tryz.prog 82 = some 2 := by kernel_rfl
@[simp] theorem Tryz.bytes82 : bytesT Tryz.prog 82 = some 32 := by kernel_rfl
@[simp] theorem Tryz.agg82 : isAggT Tryz.prog 82 = some true := by kernel_rfl
@[simp] theorem Tryz.zero82 : zeroT Tryz.prog 82 = some [.str [], .str []] := by kernel_rfl
@[simp] theorem Tryz.field82n0 : fieldT Tryz.prog 82 0 = some (0, 9) := by kernel_rfl
@[simp] theorem Tryz.field82n1 : fieldT Tryz.prog 82 1 = some (1, 9) := by kernel_rfl
attribute [simp] Tryz.underlying84
@[simp] theorem Tryz.size84 : sizeT Tryz.prog 84 = some 11 := by kernel_rfl
@[simp] theorem Tryz.bytes84 : bytesT Tryz.prog 84 = some 144 := by kernel_rfl
@[simp] theorem Tryz.agg84 : isAggT Tryz.prog 84 = some true := by kernel_rfl
@[simp] theorem Tryz.zero84 : zeroT Tryz.prog 84 = some [.int .i64 0, .nilslc, .str [], .str [], .int .i64 0, .int .i64 0, .int .i64 0, .int .i64 0, .int .i64 0, .str [], .nilslc] := by kernel_rfl
@[simp] theorem Tryz.field84n0 : fieldT Tryz.prog 84 0 = some (0, 37) := by kernel_rfl
@[simp] theorem Tryz.field84n1 : fieldT Tryz.prog 84 1 = some (1, 80) := by kernel_rfl
@[simp] theorem Tryz.field84n2 : fieldT Tryz.prog 84 2 = some (2, 82) := by kernel_rfl
@[simp] theorem Tryz.field84n3 : fieldT Tryz.prog 84 3 = some (4, 3) := by kernel_rfl
@[simp] theorem Tryz.field84n4 : fieldT Tryz.prog 84 4 = some (5, 3) := by kernel_rfl
@[simp] theorem Tryz.field84n5 : fieldT Tryz.prog 84 5 = some (6, 3) := by kernel_rfl
@[simp] theorem Tryz.field84n6 : fieldT Tryz.prog 84 6 = some (7, 3) := by kernel_rfl
@[simp] theorem Tryz.field84n7 : fieldT Tryz.prog 84 7 = some (8, 3) := by kernel_rfl
@[simp] theorem Tryz.field84n8 : fieldT Tryz.prog 84 8 = some (9, 9) := by kernel_rfl
@[simp] theorem Tryz.field84n9 : fieldT Tryz.prog 84 9 = some (10, 27) := by kernel_rfl
attribute [simp] Tryz.underlying86
@[simp] theorem Tryz.size86 : sizeT Tryz.prog 86 = some 19 := by kernel_rfl
@[simp] theorem Tryz.bytes86 : bytesT Tryz.prog 86 = some 224 := by kernel_rfl
@[simp] theorem Tryz.agg86 : isAggT Tryz.prog 86 = some true := by kernel_rfl
@[simp] theorem Tryz.zero86 : zeroT Tryz.prog 86 = some [.int .i64 0, .int .i64 0, .int .i64 0, .int .i64 0, .nilslc, .int .i64 0, .nilslc, .str [], .str [], .int .i64 0, .int .i64 0, .int .i64 0, .int .i64 0, .int .i64 0, .str [], .nilslc, .int .i64 0, .int .i64 0, .int .i64 0] := by kernel_rfl
@[simp] theorem Tryz.field86n0 : fieldT Tryz.prog 86 0 = some (0, 3) := by kernel_rfl
@[simp] theorem Tryz.field86n1 : fieldT Tryz.prog 86 1 = some (1, 3) := by kernel_rfl
@[simp] theorem Tryz.field86n2 : fieldT Tryz.prog 86 2 = some (2, 3) := by kernel_rfl
@[simp] theorem Tryz.field86n3 : fieldT Tryz.prog 86 3 = some (3, 3) := by kernel_rfl
@[simp] theorem Tryz.field86n4 : fieldT Tryz.prog 86 4 = some (4, 27) := by kernel_rfl
@[simp] theorem Tryz.field86n5 : fieldT Tryz.prog 86 5 = some (5, 84) := by kernel_rfl
@[simp] theorem Tryz.field86n6 : fieldT Tryz.prog 86 6 = some (16, 37) := by kernel_rfl
@[simp] theorem Tryz.field86n7 : fieldT Tryz.prog 86 7 = some (17, 3) := by kernel_rfl
@[simp] theorem Tryz.field86n8 : fieldT Tryz.prog 86 8 = some (18, 37) := by kernel_rfl
attribute [simp] Tryz.underlying87
@[simp] theorem Tryz.size87 : sizeT Tryz.prog 87 = some 1 := by kernel_rfl
@[simp] theorem Tryz.bytes87 : bytesT Tryz.prog 87 = some 24 := by kernel_rfl
@[simp] theorem Tryz.agg87 : isAggT Tryz.prog 87 = some false := by kernel_rfl
@[simp] theorem Tryz.zero87 : zeroT Tryz.prog 87 = some [.nilslc] := by kernel_rfl
@[simp] theorem Tryz.elem87 : elemT Tryz.prog 87 = some 306 := by kernel_rfl
attribute [simp] Tryz.underlying89
@[simp] theorem Tryz.size89 : sizeT Tryz.prog 89 = some 2 := by kernel_rfl
@[simp] theorem Tryz.bytes89 : bytesT Tryz.prog 89 = some 32 := by kernel_rfl
@[simp] theorem Tryz.agg89 : isAggT Tryz.prog 89 = some true := by kernel_rfl
@[simp] theorem Tryz.zero89 : zeroT Tryz.prog 89 = some [.int .i64 0, .nilslc] := by kernel_rfl
@[simp] theorem Tryz.field89n0 : fieldT Tryz.prog 89 0 = some (0, 3) := by kernel_rfl
@[simp] theorem Tryz.field89n1 : fieldT Tryz.prog 89 1 = some (1, 87) := by kernel_rfl
attribute [simp] Tryz.underlying90
@[simp] theorem Tryz.size90 : sizeT Tryz.prog 90 = some 1 := by kernel_rfl
@[simp] theorem Tryz.bytes90 : bytesT Tryz.prog 90 = some 8 := by kernel_rfl
@[simp] theorem Tryz.agg90 : isAggT Tryz.prog 90 = some false := by kernel_rfl
@[simp] theorem Tryz.zero90 : zeroT Tryz.prog 90 = some [.nilptr] := by kernel_rfl
attribute [simp] Tryz.underlying93
@[simp] theorem Tryz.size93 : sizeT Tryz.prog 93 = some 3 := by kernel_rfl
@[simp] theorem Tryz.bytes93 : bytesT Tryz.prog 93 = some 40 := by kernel_rfl
@[simp] theorem Tryz.agg93 : isAggT Tryz.prog 93 = some true := by kernel_rfl
@[simp] theorem Tryz.zero93 : zeroT Tryz.prog 93 = some [.nilptr, .nilslc, .bool false] := by kernel_rfl
@[simp] theorem Tryz.field93n0 : fieldT Tryz.prog 93 0 = some (0, 90) := by kernel_rfl
@[simp] theorem Tryz.field93n1 : fieldT Tryz.prog 93 1 = some (1, 52) := by kernel_rfl
@[simp] theorem Tryz.field93n2 : fieldT Tryz.prog 93 2 = some (2, 4) := by kernel_rfl
attribute [simp] Tryz.underlying94
@[simp] theorem Tryz.size94 : sizeT Tryz.prog 94 = some 1 := by kernel_rfl
@[simp] theorem Tryz.bytes94 : bytesT Tryz.prog 94 = some 24 := by kernel_rfl
@[simp] theorem Tryz.agg94 : isAggT Tryz.prog 94 = some false := by kernel_rfl
@[simp] theorem Tryz.zero94 : zeroT Tryz.prog 94 = some [.nilslc] := by kernel_rfl
@[simp] theorem Tryz.elem94 : elemT Tryz.prog 94 = some 27 := by kernel_rfl
attribute [simp] Tryz.underlying96
@[simp] theorem Tryz.size96 : sizeT Tryz.prog 96 = some 1 := by kernel_rfl
@[simp] theorem Tryz.bytes96 : bytesT Tryz.prog 96 = some 24 := by kernel_rfl
@[simp] theorem Tryz.agg96 : isAggT Tryz.prog 96 = some true := by kernel_rfl
@[simp] theorem Tryz.zero96 : zeroT Tryz.prog 96 = some [.nilslc] := by kernel_rfl
@[simp] theorem Tryz.field96n0 : fieldT Tryz.prog 96 0 = some (0, 94) := by kernel_rfl
attribute [simp] Tryz.underlying98
@[simp] theorem Tryz.size98 : sizeT Tryz.prog 98 = some 1 := by kernel_rfl
@[simp] theorem Tryz.bytes98 : bytesT Tryz.prog 98 = some 8 := by kernel_rfl
@[simp] theorem Tryz.agg98 : isAggT Tryz.prog 98 = some false := by kernel_rfl
@[simp] theorem Tryz.zero98 : zeroT Tryz.prog 98 = some [.nilptr] := by kernel_rfl
attribute [simp] Tryz.underlying101
@[simp] theorem Tryz.size101 : sizeT Tryz.prog 101 = some 1 := by kernel_rfl
@[simp] theorem Tryz.bytes101 : bytesT Tryz.prog 101 = some 8 := by kernel_rfl
@[simp] theorem Tryz.agg101 : isAggT Tryz.prog 101 = some false := by kernel_rfl
@[simp] theorem Tryz.zero101 : zeroT Tryz.prog 101 = some [.nilptr] := by kernel_rfl
attribute [simp] Tryz.underlying103
@[simp] theorem Tryz.size103 : sizeT Tryz.prog 103 = some 1 := by kernel_rfl
@[simp] theorem Tryz.bytes103 : bytesT Tryz.prog 103 = some 24 := by kernel_rfl
@[simp] theorem Tryz.agg103 : isAggT Tryz.prog 103 = some false := by kernel_rfl
@[simp] theorem Tryz.zero103 : zeroT Tryz.prog 103 = some [.nilslc] := by kernel_rfl
@[simp] theorem Tryz.elem103 : elemT Tryz.prog 103 = some 126 := by kernel_rfl
attribute [simp] Tryz.underlying104
@[simp] theorem Tryz.size104 : sizeT Tryz.prog 104 = some 1 := by kernel_rfl
@[simp] theorem Tryz.bytes104 : bytesT Tryz.prog 104 = some 24 := by kernel_rfl
@[simp] theorem Tryz.agg104 : isAggT Tryz.prog 104 = some false := by kernel_rfl
@[simp] theorem Tryz.zero104 : zeroT Tryz.prog 104 = some [.nilslc] := by kernel_rfl
@[simp] theorem Tryz.elem104 : elemT Tryz.prog 104 = some 308 := by kernel_rfl
attribute [simp] Tryz.underlying105
@[simp] theorem Tryz.size105 : sizeT Tryz.prog 105 = some 1 := by kernel_rfl
@[simp] theorem Tryz.bytes105 : bytesT Tryz.prog 105 = some 24 := by kernel_rfl
@[simp] theorem Tryz.agg105 : isAggT Tryz.prog 105 = some false := by kernel_rfl
@[simp] theorem Tryz.zero105 : zeroT Tryz.prog 105 = some [.nilslc] := by kernel_rfl
@[simp] theorem Tryz.elem105 : elemT Tryz.prog 105 = some 310 := by kernel_rfl
attribute [simp] Tryz.underlying107
@[simp] theorem Tryz.size107 : sizeT Tryz.prog 107 = some 18 := by kernel_rfl
@[simp] theorem Tryz.bytes107 : bytesT Tryz.prog 107 = some 232 := by kernel_rfl
@[simp] theorem Tryz.agg107 : isAggT Tryz.prog 107 = some true := by kernel_rfl
@[simp] theorem Tryz.zero107 : zeroT Tryz.prog 107 = some [.int .i64 0, .int .i64 0, .int .i64 0, .int .i64 0, .nilptr, .nilptr, .int .i64 0, .nilptr, .int .i64 0, .bool false, .bool false, .nilslc, .nilslc, .nilslc, .int .i64 0, .nilslc, .nilslc, .nilslc] := by kernel_rfl
@[simp] theorem Tryz.field107n0 : fieldT Tryz.prog 107 0 = some (0, 3) := by kernel_rfl
@[simp] theorem Tryz.field107n1 : fieldT Tryz.prog 107 1 = some (1, 3) := by kernel_rfl
@[simp] theorem Tryz.field107n2 : fieldT Tryz.prog 107 2 = some (2, 3) := by kernel_rfl
@[simp] theorem Tryz.field107n3 : fieldT Tryz.prog 107 3 = some (3, 3) := by kernel_rfl
@[simp] theorem Tryz.field107n4 : fieldT Tryz.prog 107 4 = some (4, 98) := by kernel_rfl
@[simp] theorem Tryz.field107n5 : fieldT Tryz.prog 107 5 = some (5, 90) := by kernel_rfl
@[simp] theorem Tryz.field107n6 : fieldT Tryz.prog 107 6 = some (6, 3) := by kernel_rfl
@[simp] theorem Tryz.field107n7 : fieldT Tryz.prog 107 7 = some (7, 101) := by kernel_rfl
@[simp] theorem Tryz.field107n8 : fieldT Tryz.prog 107 8 = some (8, 3) := by kernel_rfl
@[simp] theorem Tryz.field107n9 : fieldT Tryz.prog 107 9 = some (9, 4) := by kernel_rfl
@[simp] theorem Tryz.field107n10 : fieldT Tryz.prog 107 10 = some (10, 4) := by kernel_rfl
@[simp] theorem Tryz.field107n11 : fieldT Tryz.prog 107 11 = some (11, 76) := by kernel_rfl
@[simp] theorem Tryz.field107n12 : fieldT Tryz.prog 107 12 = some (12, 103) := by kernel_rfl
@[simp] theorem Tryz.field107n13 : fieldT Tryz.prog 107 13 = some (13, 104) := by kernel_rfl
@[simp] theorem Tryz.field107n14 : fieldT Tryz.prog 107 14 = some (14, 3) := by kernel_rfl
@[simp] theorem Tryz.field107n15 : fieldT Tryz.prog 107 15 = some (15, 105) := by kernel_rfl
@[simp] theorem Tryz.field107n16 : fieldT Tryz.prog 107 16 = some (16, 87) := by kernel_rfl
@[simp] theorem Tryz.field107n17 : fieldT Tryz.prog 107 17 = some (17, 52) := by kernel_rfl
attribute [simp] Tryz.underlying112
@[simp] theorem Tryz.size112 : sizeT Tryz.prog 112 = some 1 := by kernel_rfl
@[simp] theorem Tryz.bytes112 : bytesT Tryz.prog 112 = some 24 := by kernel_rfl
@[simp] theorem Tryz.agg112 : isAggT Tryz.prog 112 = some false := by kernel_rfl
@[simp] theorem Tryz.zero112 : zeroT Tryz.prog 112 = some [.nilslc] := by kernel_rfl
@[simp] theorem Tryz.elem112 : elemT Tryz.prog 112 = some 125 := by kernel_rfl
attribute [simp] Tryz.underlying114
@[simp] theorem Tryz.size114 : sizeT Tryz.prog 114 = some 21 := by kernel_rfl
@[simp] theorem Tryz.bytes114 : bytesT Tryz.prog 114 = some 264 := by kernel_rfl
@[simp] theorem Tryz.agg114 : isAggT Tryz.prog 114 = some true := by kernel_rfl
@[simp] theorem Tryz.zero114 : zeroT Tryz.prog 114 = some [.int .i64 0, .int .i64 0, .int .i64 0, .bool false, .str [], .nilslc, .int .i64 0, .int .i64 0, .nilslc, .int .i64 0, .int .i64 0, .nilslc, .str [], .str [], .int .i64 0, .int .i64 0, .int .i64 0, .int .i64 0, .int .i64 0, .str [], .nilslc] := by kernel_rfl
@[simp] theorem Tryz.field114n0 : fieldT Tryz.prog 114 0 = some (0, 3) := by kernel_rfl
@[simp] theorem Tryz.field114n1 : fieldT Tryz.prog 114 1 = some (1, 3) := by kernel_rfl
@[simp] theorem Tryz.field114n2 : fieldT Tryz.prog 114 2 = some (2, 3) := by kernel_rfl
@[simp] theorem Tryz.field114n3 : fieldT Tryz.prog 114 3 = some (3, 4) := by kernel_rfl
@[simp] theorem Tryz.field114n4 : fieldT Tryz.prog 114 4 = some (4, 9) := by kernel_rfl
@[simp] theorem Tryz.field114n5 : fieldT Tryz.prog 114 5 = some (5, 27) := by kernel_rfl
@[simp] theorem Tryz.field114n6 : fieldT Tryz.prog 114 6 = some (6, 3) := by kernel_rfl
@[simp] theorem Tryz.field114n7 : fieldT Tryz.prog 114 7 = some (7, 3) := by kernel_rfl
@[simp] theorem Tryz.field114n8 : fieldT Tryz.prog 114 8 = some (8, 112) := by kernel_rfl
@[simp] theorem Tryz.field114n9 : fieldT Tryz.prog 114 9 = some (9, 3) := by kernel_rfl
@[simp] theorem Tryz.field114n10 : fieldT Tryz.prog 114 10 = some (10, 84) := by kernel_rfl
attribute [simp] Tryz.underlying118
@[simp] theorem Tryz.size118 : sizeT Tryz.prog 118 = some 1 := by kernel_rfl
@[simp] theorem Tryz.bytes118 : bytesT Tryz.prog 118 = some 8 := by kernel_rfl
@[simp] theorem Tryz.agg118 : isAggT Tryz.prog 118 = some false := by kernel_rfl
@[simp] theorem Tryz.zero118 : zeroT Tryz.prog 118 = some [.nilptr] := by kernel_rfl
attribute [simp] Tryz.underlying120
@[simp] theorem Tryz.size120 : sizeT Tryz.prog 120 = some 1 := by kernel_rfl
@[simp] theorem Tryz.bytes120 : bytesT Tryz.prog 120 = some 8 := by kernel_rfl
@[simp] theorem Tryz.agg120 : isAggT Tryz.prog 120 = some false := by kernel_rfl
@[simp] theorem Tryz.zero120 : zeroT Tryz.prog 120 = some [.nilptr] := by kernel_rfl
attribute [simp] Tryz.underlying122
@[simp] theorem Tryz.size122 : sizeT Tryz.prog 122 = some 3 := by kernel_rfl
@[simp] theorem Tryz.bytes122 : bytesT Tryz.prog 122 = some 24 := by kernel_rfl
@[simp] theorem Tryz.agg122 : isAggT Tryz.prog 122 = some true := by kernel_rfl
@[simp] theorem Tryz.zero122 : zeroT Tryz.prog 122 = some [.int .i64 0, .nilptr, .nilptr] := by kernel_rfl
@[simp] theorem Tryz.field122n0 : fieldT Tryz.prog 122 0 = some (0, 3) := by kernel_rfl
@[simp] theorem Tryz.field122n1 : fieldT Tryz.prog 122 1 = some (1, 118) := by kernel_rfl
@[simp] theorem Tryz.field122n2 : fieldT Tryz.prog 122 2 = some (2, 120) := by kernel_rfl
attribute [simp] Tryz.underlying125
@[simp] theorem Tryz.size125 : sizeT Tryz.prog 125 = some 4 := by kernel_rfl
@[simp] theorem Tryz.bytes125 : bytesT Tryz.prog 125 = some 48 := by kernel_rfl
@[simp] theorem Tryz.agg125 : isAggT Tryz.prog 125 = some true := by kernel_rfl
@[simp] theorem Tryz.zero125 : zeroT Tryz.prog 125 = some [.str [], .str [], .int .i64 0, .int .i64 0] := by kernel_rfl
@[simp] theorem Tryz.field125n0 : fieldT Tryz.prog 125 0 = some (0, 82) := by kernel_rfl
@[simp] theorem Tryz.field125n1 : fieldT Tryz.prog 125 1 = some (2, 3) := by kernel_rfl
@[simp] theorem Tryz.field125n2 : fieldT Tryz.prog 125 2 = some (3, 3) := by kernel_rfl
attribute [simp] Tryz.underlying126
@[simp] theorem Tryz.size126 : sizeT Tryz.prog 126 = some 1 := by kernel_rfl
@[simp] theorem Tryz.bytes126 : bytesT Tryz.prog 126 = some 24 := by kernel_rfl
@[simp] theorem Tryz.agg126 : isAggT Tryz.prog 126 = some false := by kernel_rfl
@[simp] theorem Tryz.zero126 : zeroT Tryz.prog 126 = some [.nilslc] := by kernel_rfl
@[simp] theorem Tryz.elem126 : elemT Tryz.prog 126 = some 170 := by kernel_rfl
attribute [simp] Tryz.underlying128
@[simp] theorem Tryz.size128 : sizeT Tryz.prog 128 = some 5 := by kernel_rfl
@[simp] theorem Tryz.bytes128 : bytesT Tryz.prog 128 = some 72 := by kernel_rfl
@[simp] theorem Tryz.agg128 : isAggT Tryz.prog 128 = some true := by kernel_rfl
@[simp] theorem Tryz.zero128 : zeroT Tryz.prog 128 = some [.nilptr, .int .i64 0, .nilslc, .int .i64 0, .nilslc] := by kernel_rfl
@[simp] theorem Tryz.field128n0 : fieldT Tryz.prog 128 0 = some (0, 64) := by kernel_rfl
@[simp] theorem Tryz.field128n1 : fieldT Tryz.prog 128 1 = some (1, 3) := by kernel_rfl
@[simp] theorem Tryz.field128n2 : fieldT Tryz.prog 128 2 = some (2, 126) := by kernel_rfl
@[simp] theorem Tryz.field128n3 : fieldT Tryz.prog 128 3 = some (3, 3) := by kernel_rfl
@[simp] theorem Tryz.field128n4 : fieldT Tryz.prog 128 4 = some (4, 27) := by kernel_rfl
attribute [simp] Tryz.underlying132
@[simp] theorem Tryz.size132 : sizeT Tryz.prog 132 = some 1 := by kernel_rfl
@[simp] theorem Tryz.bytes132 : bytesT Tryz.prog 132 = some 24 := by kernel_rfl
@[simp] theorem Tryz.agg132 : isAggT Tryz.prog 132 = some false := by kernel_rfl
@[simp] theorem Tryz.zero132 : zeroT Tryz.prog 132 = some [.nilslc] := by kernel_rfl
@[simp] theorem Tryz.elem132 : elemT Tryz.prog 132 = some 140 := by kernel_rfl
attribute [simp] Tryz.underlying134
@[simp] theorem Tryz.size134 : sizeT Tryz.prog 134 = some 4 := by kernel_rfl
@[simp] theorem Tryz.bytes134 : bytesT Tryz.prog 134 = some 64 := by kernel_rfl
@[simp] theorem Tryz.agg134 : isAggT Tryz.prog 134 = some true := by kernel_rfl
@[simp] theorem Tryz.zero134 : zeroT Tryz.prog 134 = some [.int .i64 0, .int .i64 0, .nilslc, .nilslc] := by kernel_rfl
@[simp] theorem Tryz.field134n0 : fieldT Tryz.prog 134 0 = some (0, 3) := by kernel_rfl
@[simp] theorem Tryz.field134n1 : fieldT Tryz.prog 134 1 = some (1, 3) := by kernel_rfl
@[simp] theorem Tryz.field134n2 : fieldT Tryz.prog 134 2 = some (2, 132) := by kernel_rfl
@[simp] theorem Tryz.field134n3 : fieldT Tryz.prog 134 3 = some (3, 132) := by kernel_rfl
attribute [simp] Tryz.underlying140
@[simp] theorem Tryz.size140 : sizeT Tryz.prog 140 = some 1 := by kernel_rfl
@[simp] theorem Tryz.bytes140 : bytesT Tryz.prog 140 = some 8 := by kernel_rfl
@[simp] theorem Tryz.agg140 : isAggT Tryz.prog 140 = some false := by kernel_rfl
@[simp] theorem Tryz.zero140 : zeroT Tryz.prog 140 = some [.nilptr] := by kernel_rfl
attribute [simp] Tryz.underlying142
@[simp] theorem Tryz.size142 : sizeT Tryz.prog 142 = some 4 := by kernel_rfl
@[simp] theorem Tryz.bytes142 : bytesT Tryz.prog 142 = some 64 := by kernel_rfl
@[simp] theorem Tryz.agg142 : isAggT Tryz.prog 142 = some true := by kernel_rfl
@[simp] theorem Tryz.zero142 : zeroT Tryz.prog 142 = some [.int .i64 0, .int .i64 0, .nilslc, .nilslc] := by kernel_rfl
@[simp] theorem Tryz.field142n0 : fieldT Tryz.prog 142 0 = some (0, 3) := by kernel_rfl
@[simp] theorem Tryz.field142n1 : fieldT Tryz.prog 142 1 = some (1, 3) := by kernel_rfl
@[simp] theorem Tryz.field142n2 : fieldT Tryz.prog 142 2 = some (2, 27) := by kernel_rfl
@[simp] theorem Tryz.field142n3 : fieldT Tryz.prog 142 3 = some (3, 45) := by kernel_rfl
attribute [simp] Tryz.underlying145
@[simp] theorem Tryz.size145 : sizeT Tryz.prog 145 = some 1 := by kernel_rfl
@[simp] theorem Tryz.bytes145 : bytesT Tryz.prog 145 = some 8 := by kernel_rfl
@[simp] theorem Tryz.agg145 : isAggT Tryz.prog 145 = some false := by kernel_rfl
@[simp] theorem Tryz.zero145 : zeroT Tryz.prog 145 = some [.nilptr] := by kernel_rfl
attribute [simp] Tryz.underlying148
@[simp] theorem Tryz.size148 : sizeT Tryz.prog 148 = some 1 := by kernel_rfl
@[simp] theorem Tryz.bytes148 : bytesT Tryz.prog 148 = some 8 := by kernel_rfl
@[simp] theorem Tryz.agg148 : isAggT Tryz.prog 148 = some false := by kernel_rfl
@[simp] theorem Tryz.zero148 : zeroT Tryz.prog 148 = some [.nilptr] := by kernel_rfl
attribute [simp] Tryz.underlying151
@[simp] theorem Tryz.size151 : sizeT Tryz.prog 151 = some 15 := by kernel_rfl
@[simp] theorem Tryz.bytes151 : bytesT Tryz.prog 151 = some 176 := by kernel_rfl
@[simp] theorem Tryz.agg151 : isAggT Tryz.prog 151 = some true := by kernel_rfl
@[simp] theorem Tryz.zero151 : zeroT Tryz.prog 151 = some [.int .i64 0, .nilptr, .int .i64 0, .int .i64 0, .nilslc, .str [], .str [], .int .i64 0, .int .i64 0, .int .i64 0, .int .i64 0, .int .i64 0, .str [], .nilslc, .nilptr] := by kernel_rfl
@[simp] theorem Tryz.field151n0 : fieldT Tryz.prog 151 0 = some (0, 3) := by kernel_rfl
@[simp] theorem Tryz.field151n1 : fieldT Tryz.prog 151 1 = some (1, 145) := by kernel_rfl
@[simp] theorem Tryz.field151n2 : fieldT Tryz.prog 151 2 = some (2, 3) := by kernel_rfl
@[simp] theorem Tryz.field151n3 : fieldT Tryz.prog 151 3 = some (3, 84) := by kernel_rfl
@[simp] theorem Tryz.field151n4 : fieldT Tryz.prog 151 4 = some (14, 148) := by kernel_rfl
attribute [simp] Tryz.underlying152
@[simp] theorem Tryz.size152 : sizeT Tryz.prog 152 = some 1 := by kernel_rfl
@[simp] theorem Tryz.bytes152 : bytesT Tryz.prog 152 = some 24 := by kernel_rfl
@[simp] theorem Tryz.agg152 : isAggT Tryz.prog 152 = some false := by kernel_rfl
@[simp] theorem Tryz.zero152 : zeroT Tryz.prog 152 = some [.nilslc] := by kernel_rfl
@[simp] theorem Tryz.elem152 : elemT Tryz.prog 152 = some 156 := by kernel_rfl
attribute [simp] Tryz.underlying154
@[simp] theorem Tryz.size154 : sizeT Tryz.prog 154 = some 3 := by kernel_rfl
@[simp] theorem Tryz.bytes154 : bytesT Tryz.prog 154 = some 40 := by kernel_rfl
@[simp] theorem Tryz.agg154 : isAggT Tryz.prog 154 = some true := by kernel_rfl
@[simp] theorem Tryz.zero154 : zeroT Tryz.prog 154 = some [.nilslc, .int .i64 0, .int .i64 0] := by kernel_rfl
@[simp] theorem Tryz.field154n0 : fieldT Tryz.prog 154 0 = some (0, 152) := by kernel_rfl
@[simp] theorem Tryz.field154n1 : fieldT Tryz.prog 154 1 = some (1, 3) := by kernel_rfl
@[simp] theorem Tryz.field154n2 : fieldT Tryz.prog 154 2 = some (2, 37) := by kernel_rfl
attribute [simp] Tryz.underlying155
@[simp] theorem Tryz.size155 : sizeT Tryz.prog 155 = some 1 := by kernel_rfl
@[simp] theorem Tryz.bytes155 : bytesT Tryz.prog 155 = some 24 := by kernel_rfl
@[simp] theorem Tryz.agg155 : isAggT Tryz.prog 155 = some false := by kernel_rfl
@[simp] theorem Tryz.zero155 : zeroT Tryz.prog 155 = some [.nilslc] := by kernel_rfl
@[simp] theorem Tryz.elem155 : elemT Tryz.prog 155 = some 82 := by kernel_rfl
attribute [simp] Tryz.underlying156
@[simp] theorem Tryz.size156 : sizeT Tryz.prog 156 = some 1 := by kernel_rfl
@[simp] theorem Tryz.bytes156 : bytesT Tryz.prog 156 = some 8 := by kernel_rfl
@[simp] theorem Tryz.agg156 : isAggT Tryz.prog 156 = some false := by kernel_rfl
@[simp] theorem Tryz.zero156 : zeroT Tryz.prog 156 = some [.nilptr] := by kernel_rfl
attribute [simp] Tryz.underlying157
@[simp] theorem Tryz.size157 : sizeT Tryz.prog 157 = some 1 := by kernel_rfl
@[simp] theorem Tryz.bytes157 : bytesT Tryz.prog 157 = some 8 := by kernel_rfl
@[simp] theorem Tryz.agg157 : isAggT Tryz.prog 157 = some false := by kernel_rfl
@[simp] theorem Tryz.zero157 : zeroT Tryz.prog 157 = some [.nilptr] := by kernel_rfl
attribute [simp] Tryz.underlying160
@[simp] theorem Tryz.size160 : sizeT Tryz.prog 160 = some 6 := by kernel_rfl
@[simp] theorem Tryz.bytes160 : bytesT Tryz.prog 160 = some 64 := by kernel_rfl
@[simp] theorem Tryz.agg160 : isAggT Tryz.prog 160 = some true := by kernel_rfl
@[simp] theorem Tryz.zero160 : zeroT Tryz.prog 160 = some [.str [], .str [], .int .i64 0, .bool false, .nilptr, .nilptr] := by kernel_rfl
@[simp] theorem Tryz.field160n0 : fieldT Tryz.prog 160 0 = some (0, 82) := by kernel_rfl
@[simp] theorem Tryz.field160n1 : fieldT Tryz.prog 160 1 = some (2, 3) := by kernel_rfl
@[simp] theorem Tryz.field160n2 : fieldT Tryz.prog 160 2 = some (3, 4) := by kernel_rfl
@[simp] theorem Tryz.field160n3 : fieldT Tryz.prog 160 3 = some (4, 157) := by kernel_rfl
@[simp] theorem Tryz.field160n4 : fieldT Tryz.prog 160 4 = some (5, 148) := by kernel_rfl
attribute [simp] Tryz.underlying163
@[simp] theorem Tryz.size163 : sizeT Tryz.prog 163 = some 1 := by kernel_rfl
@[simp] theorem Tryz.bytes163 : bytesT Tryz.prog 163 = some 8 := by kernel_rfl
@[simp] theorem Tryz.agg163 : isAggT Tryz.prog 163 = some false := by kernel_rfl
@[simp] theorem Tryz.zero163 : zeroT Tryz.prog 163 = some [.nilptr] := by kernel_rfl
attribute [simp] Tryz.underlying165
@[simp] theorem Tryz.size165 : sizeT Tryz.prog 165 = some 1 := by kernel_rfl
@[simp] theorem Tryz.bytes165 : bytesT Tryz.prog 165 = some 24 := by kernel_rfl
@[simp] theorem Tryz.agg165 : isAggT Tryz.prog 165 = some true := by kernel_rfl
@[simp] theorem Tryz.zero165 : zeroT Tryz.prog 165 = some [.nilslc] := by kernel_rfl
@[simp] theorem Tryz.field165n0 : fieldT Tryz.prog 165 0 = some (0, 27) := by kernel_rfl
attribute [simp] Tryz.underlying167
@[simp] theorem Tryz.size167 : sizeT Tryz.prog 167 = some 1 := by kernel_rfl
@[simp] theorem Tryz.bytes167 : bytesT Tryz.prog 167 = some 4 := by kernel_rfl
@[simp] theorem Tryz.agg167 : isAggT Tryz.prog 167 = some false := by kernel_rfl
@[simp] theorem Tryz.zero167 : zeroT Tryz.prog 167 = some [.int .u32 0] := by kernel_rfl
attribute [simp] Tryz.underlying170
@[simp] theorem Tryz.size170 : sizeT Tryz.prog 170 = some 3 := by kernel_rfl
@[simp] theorem Tryz.bytes170 : bytesT Tryz.prog 170 = some 40 := by kernel_rfl
@[simp] theorem Tryz.agg170 : isAggT Tryz.prog 170 = some true := by kernel_rfl
@[simp] theorem Tryz.zero170 : zeroT Tryz.prog 170 = some [.int .i64 0, .int .i64 0, .nilslc] := by kernel_rfl
@[simp] theorem Tryz.field170n0 : fieldT Tryz.prog 170 0 = some (0, 3) := by kernel_rfl
@[simp] theorem Tryz.field170n1 : fieldT Tryz.prog 170 1 = some (1, 3) := by kernel_rfl
@[simp] theorem Tryz.field170n2 : fieldT Tryz.prog 170 2 = some (2, 27) := by kernel_rfl
attribute [simp] Tryz.underlying178
@[simp] theorem Tryz.size178 : sizeT Tryz.prog 178 = some 1 := by kernel_rfl
@[simp] theorem Tryz.bytes178 : bytesT Tryz.prog 178 = some 24 := by kernel_rfl
@[simp] theorem Tryz.agg178 : isAggT Tryz.prog 178 = some false := by kernel_rfl
@[simp] theorem Tryz.zero178 : zeroT Tryz.prog 178 = some [.nilslc] := by kernel_rfl
@[simp] theorem Tryz.elem178 : elemT Tryz.prog 178 = some 237 := by kernel_rfl
attribute [simp] Tryz.underlying180
@[simp] theorem Tryz.size180 : sizeT Tryz.prog 180 = some 1 := by kernel_rfl
@[simp] theorem Tryz.bytes180 : bytesT Tryz.prog 180 = some 24 := by kernel_rfl
@[simp] theorem Tryz.agg180 : isAggT Tryz.prog 180 = some true := by kernel_rfl
@[simp] theorem Tryz.zero180 : zeroT Tryz.prog 180 = some [.nilslc] := by kernel_rfl
@[simp] theorem Tryz.field180n0 : fieldT Tryz.prog 180 0 = some (0, 178) := by kernel_rfl
attribute [simp] Tryz.underlying182
@[simp] theorem Tryz.size182 : sizeT Tryz.prog 182 = some 1 := by kernel_rfl
@[simp] theorem Tryz.bytes182 : bytesT Tryz.prog 182 = some 24 := by kernel_rfl
@[simp] theorem Tryz.agg182 : isAggT Tryz.prog 182 = some true := by kernel_rfl
@[simp] theorem Tryz.zero182 : zeroT Tryz.prog 182 = some [.nilslc] := by kernel_rfl
@[simp] theorem Tryz.field182n0 : fieldT Tryz.prog 182 0 = some (0, 80) := by kernel_rfl
attribute [simp] Tryz.underlying188
@[simp] theorem Tryz.size188 : sizeT Tryz.prog 188 = some 1 := by kernel_rfl
@[simp] theorem Tryz.bytes188 : bytesT Tryz.prog 188 = some 8 := by kernel_rfl
@[simp] theorem Tryz.agg188 : isAggT Tryz.prog 188 = some false := by kernel_rfl
@[simp] theorem Tryz.zero188 : zeroT Tryz.prog 188 = some [.int .u64 0] := by kernel_rfl
attribute [simp] Tryz.underlying207
@[simp] theorem Tryz.size207 : sizeT Tryz.prog 207 = some 1 := by kernel_rfl
@[simp] theorem Tryz.bytes207 : bytesT Tryz.prog 207 = some 8 := by kernel_rfl
@[simp] theorem Tryz.agg207 : isAggT Tryz.prog 207 = some false := by kernel_rfl
@[simp] theorem Tryz.zero207 : zeroT Tryz.prog 207 = some [.int .u64 0] := by kernel_rfl
attribute [simp] Tryz.underlying217
@[simp] theorem Tryz.size217 : sizeT Tryz.prog 217 = some 1 := by kernel_rfl
@[simp] theorem Tryz.bytes217 : bytesT Tryz.prog 217 = some 24 := by kernel_rfl
@[simp] theorem Tryz.agg217 : isAggT Tryz.prog 217 = some false := by kernel_rfl
@[simp] theorem Tryz.zero217 : zeroT Tryz.prog 217 = some [.nilslc] := by kernel_rfl
@[simp] theorem Tryz.elem217 : elemT Tryz.prog 217 = some 250 := by kernel_rfl
attribute [simp] Tryz.underlying219
@[simp] theorem Tryz.size219 : sizeT Tryz.prog 219 = some 1 := by kernel_rfl
@[simp] theorem Tryz.bytes219 : bytesT Tryz.prog 219 = some 24 := by kernel_rfl
@[simp] theorem Tryz.agg219 : isAggT Tryz.prog 219 = some true := by kernel_rfl
@[simp] theorem Tryz.zero219 : zeroT Tryz.prog 219 = some [.nilslc] := by kernel_rfl
@[simp] theorem Tryz.field219n0 : fieldT Tryz.prog 219 0 = some (0, 217) := by kernel_rfl
attribute [simp] Tryz.underlying221
@[simp] theorem Tryz.size221 : sizeT Tryz.prog 221 = some 2 := by kernel_rfl
@[simp] theorem Tryz.bytes221 : bytesT Tryz.prog 221 = some 40 := by kernel_rfl
@[simp] theorem Tryz.agg221 : isAggT Tryz.prog 221 = some true := by kernel_rfl
@[simp] theorem Tryz.zero221 : zeroT Tryz.prog 221 = some [.str [], .nilslc] := by kernel_rfl
@[simp] theorem Tryz.field221n0 : fieldT Tryz.prog 221 0 = some (0, 9) := by kernel_rfl
@[simp] theorem Tryz.field221n1 : fieldT Tryz.prog 221 1 = some (1, 219) := by kernel_rfl
attribute [simp] Tryz.underlying223
@[simp] theorem Tryz.size223 : sizeT Tryz.prog 223 = some 1 := by kernel_rfl
@[simp] theorem Tryz.bytes223 : bytesT Tryz.prog 223 = some 24 := by kernel_rfl
@[simp] theorem Tryz.agg223 : isAggT Tryz.prog 223 = some false := by kernel_rfl
@[simp] theorem Tryz.zero223 : zeroT Tryz.prog 223 = some [.nilslc] := by kernel_rfl
@[simp] theorem Tryz.elem223 : elemT Tryz.prog 223 = some 112 := by kernel_rfl
attribute [simp] Tryz.underlying225
@[simp] theorem Tryz.size225 : sizeT Tryz.prog 225 = some 1 := by kernel_rfl
@[simp] theorem Tryz.bytes225 : bytesT Tryz.prog 225 = some 24 := by kernel_rfl
@[simp] theorem Tryz.agg225 : isAggT Tryz.prog 225 = some true := by kernel_rfl
@[simp] theorem Tryz.zero225 : zeroT Tryz.prog 225 = some [.nilslc] := by kernel_rfl
@[simp] theorem Tryz.field225n0 : fieldT Tryz.prog 225 0 = some (0, 223) := by kernel_rfl
attribute [simp] Tryz.underlying237
@[simp] theorem Tryz.size237 : sizeT Tryz.prog 237 = some 3 := by kernel_rfl
@[simp] theorem Tryz.bytes237 : bytesT Tryz.prog 237 = some 40 := by kernel_rfl
@[simp] theorem Tryz.agg237 : isAggT Tryz.prog 237 = some true := by kernel_rfl
@[simp] theorem Tryz.zero237 : zeroT Tryz.prog 237 = some [.int .i64 0, .int .i64 0, .nilslc] := by kernel_rfl
@[simp] theorem Tryz.field237n0 : fieldT Tryz.prog 237 0 = some (0, 3) := by kernel_rfl
@[simp] theorem Tryz.field237n1 : fieldT Tryz.prog 237 1 = some (1, 3) := by kernel_rfl
@[simp] theorem Tryz.field237n2 : fieldT Tryz.prog 237 2 = some (2, 27) := by kernel_rfl
attribute [simp] Tryz.underlying248
@[simp] theorem Tryz.size248 : sizeT Tryz.prog 248 = some 1 := by kernel_rfl
@[simp] theorem Tryz.bytes248 : bytesT Tryz.prog 248 = some 24 := by kernel_rfl
@[simp] theorem Tryz.agg248 : isAggT Tryz.prog 248 = some false := by kernel_rfl
@[simp] theorem Tryz.zero248 : zeroT Tryz.prog 248 = some [.nilslc] := by kernel_rfl
@[simp] theorem Tryz.elem248 : elemT Tryz.prog 248 = some 256 := by kernel_rfl
attribute [simp] Tryz.underlying250
@[simp] theorem Tryz.size250 : sizeT Tryz.prog 250 = some 2 := by kernel_rfl
@[simp] theorem Tryz.bytes250 : bytesT Tryz.prog 250 = some 40 := by kernel_rfl
@[simp] theorem Tryz.agg250 : isAggT Tryz.prog 250 = some true := by kernel_rfl
@[simp] theorem Tryz.zero250 : zeroT Tryz.prog 250 = some [.str [], .nilslc] := by kernel_rfl
@[simp] theorem Tryz.field250n0 : fieldT Tryz.prog 250 0 = some (0, 9) := by kernel_rfl
@[simp] theorem Tryz.field250n1 : fieldT Tryz.prog 250 1 = some (1, 248) := by kernel_rfl
attribute [simp] Tryz.underlying252
@[simp] theorem Tryz.size252 : sizeT Tryz.prog 252 = some 1 := by kernel_rfl
@[simp] theorem Tryz.bytes252 : bytesT Tryz.prog 252 = some 8 := by kernel_rfl
@[simp] theorem Tryz.agg252 : isAggT Tryz.prog 252 = some false := by kernel_rfl
@[simp] theorem Tryz.zero252 : zeroT Tryz.prog 252 = some [.flt 0] := by kernel_rfl
attribute [simp] Tryz.underlying254
@[simp] theorem Tryz.size254 : sizeT Tryz.prog 254 = some 3 := by kernel_rfl
@[simp] theorem Tryz.bytes254 : bytesT Tryz.prog 254 = some 40 := by kernel_rfl
@[simp] theorem Tryz.agg254 : isAggT Tryz.prog 254 = some true := by kernel_rfl
@[simp] theorem Tryz.zero254 : zeroT Tryz.prog 254 = some [.int .i64 0, .nilslc, .flt 0] := by kernel_rfl
@[simp] theorem Tryz.field254n0 : fieldT Tryz.prog 254 0 = some (0, 3) := by kernel_rfl
@[simp] theorem Tryz.field254n1 : fieldT Tryz.prog 254 1 = some (1, 27) := by kernel_rfl
@[simp] theorem Tryz.field254n2 : fieldT Tryz.prog 254 2 = some (2, 252) := by kernel_rfl
attribute [simp] Tryz.underlying256
@[simp] theorem Tryz.size256 : sizeT Tryz.prog 256 = some 4 := by kernel_rfl
@[simp] theorem Tryz.bytes256 : bytesT Tryz.prog 256 = some 48 := by kernel_rfl
@[simp] theorem Tryz.agg256 : isAggT Tryz.prog 256 = some true := by kernel_rfl
@[simp] theorem Tryz.zero256 : zeroT Tryz.prog 256 = some [.int .i64 0, .int .i64 0, .nilslc, .flt 0] := by kernel_rfl
@[simp] theorem Tryz.field256n0 : fieldT Tryz.prog 256 0 = some (0, 2) := by kernel_rfl
@[simp] theorem Tryz.field256n1 : fieldT Tryz.prog 256 1 = some (1, 254) := by kernel_rfl
attribute [simp] Tryz.underlying304
@[simp] theorem Tryz.size304 : sizeT Tryz.prog 304 = some 7 := by kernel_rfl
@[simp] theorem Tryz.bytes304 : bytesT Tryz.prog 304 = some 88 := by kernel_rfl
@[simp] theorem Tryz.agg304 : isAggT Tryz.prog 304 = some true := by kernel_rfl
@[simp] theorem Tryz.zero304 : zeroT Tryz.prog 304 = some [.int .i64 0, .int .i64 0, .int .i64 0, .int .i64 0, .int .i64 0, .nilslc, .nilslc] := by kernel_rfl
@[simp] theorem Tryz.field304n0 : fieldT Tryz.prog 304 0 = some (0, 3) := by kernel_rfl
@[simp] theorem Tryz.field304n1 : fieldT Tryz.prog 304 1 = some (1, 3) := by kernel_rfl
@[simp] theorem Tryz.field304n2 : fieldT Tryz.prog 304 2 = some (2, 3) := by kernel_rfl
@[simp] theorem Tryz.field304n3 : fieldT Tryz.prog 304 3 = some (3, 3) := by kernel_rfl
@[simp] theorem Tryz.field304n4 : fieldT Tryz.prog 304 4 = some (4, 3) := by kernel_rfl
@[simp] theorem Tryz.field304n5 : fieldT Tryz.prog 304 5 = some (5, 27) := by kernel_rfl
@[simp] theorem Tryz.field304n6 : fieldT Tryz.prog 304 6 = some (6, 27) := by kernel_rfl
attribute [simp] Tryz.underlying306
@[simp] theorem Tryz.size306 : sizeT Tryz.prog 306 = some 10 := by kernel_rfl
@[simp] theorem Tryz.bytes306 : bytesT Tryz.prog 306 = some 112 := by kernel_rfl
@[simp] theorem Tryz.agg306 : isAggT Tryz.prog 306 = some true := by kernel_rfl
@[simp] theorem Tryz.zero306 : zeroT Tryz.prog 306 = some [.int .i64 0, .int .i64 0, .int .i64 0, .int .i64 0, .int .i64 0, .int .i64 0, .int .i64 0, .int .i64 0, .nilslc, .nilslc] := by kernel_rfl
@[simp] theorem Tryz.field306n0 : fieldT Tryz.prog 306 0 = some (0, 3) := by kernel_rfl
@[simp] theorem Tryz.field306n1 : fieldT Tryz.prog 306 1 = some (1, 3) := by kernel_rfl
@[simp] theorem Tryz.field306n2 : fieldT Tryz.prog 306 2 = some (2, 3) := by kernel_rfl
@[simp] theorem Tryz.field306n3 : fieldT Tryz.prog 306 3 = some (3, 3) := by kernel_rfl
@[simp] theorem Tryz.field306n4 : fieldT Tryz.prog 306 4 = some (4, 3) := by kernel_rfl
@[simp] theorem Tryz.field306n5 : fieldT Tryz.prog 306 5 = some (5, 3) := by kernel_rfl
@[simp] theorem Tryz.field306n6 : fieldT Tryz.prog 306 6 = some (6, 3) := by kernel_rfl
@[simp] theorem Tryz.field306n7 : fieldT Tryz.prog 306 7 = some (7, 3) := by kernel_rfl
@[simp] theorem Tryz.field306n8 : fieldT Tryz.prog 306 8 = some (8, 27) := by kernel_rfl
@[simp] theorem Tryz.field306n9 : fieldT Tryz.prog 306 9 = some (9, 126) := by kernel_rfl
attribute [simp] Tryz.underlying308
@[simp] theorem Tryz.size308 : sizeT Tryz.prog 308 = some 2 := by kernel_rfl
@[simp] theorem Tryz.bytes308 : bytesT Tryz.prog 308 = some 32 := by kernel_rfl
@[simp] theorem Tryz.agg308 : isAggT Tryz.prog 308 = some true := by kernel_rfl
@[simp] theorem Tryz.zero308 : zeroT Tryz.prog 308 = some [.int .i64 0, .nilslc] := by kernel_rfl
@[simp] theorem Tryz.field308n0 : fieldT Tryz.prog 308 0 = some (0, 3) := by kernel_rfl
@[simp] theorem Tryz.field308n1 : fieldT Tryz.prog 308 1 = some (1, 27) := by kernel_rfl
attribute [simp] Tryz.underlying310
@[simp] theorem Tryz.size310 : sizeT Tryz.prog 310 = some 3 := by kernel_rfl
@[simp] theorem Tryz.bytes310 : bytesT Tryz.prog 310 = some 40 := by kernel_rfl
@[simp] theorem Tryz.agg310 : isAggT Tryz.prog 310 = some true := by kernel_rfl
@[simp] theorem Tryz.zero310 : zeroT Tryz.prog 310 = some [.int .i64 0, .int .i64 0, .nilslc] := by kernel_rfl
@[simp] theorem Tryz.field310n0 : fieldT Tryz.prog 310 0 = some (0, 3) := by kernel_rfl
@[simp] theorem Tryz.field310n1 : fieldT Tryz.prog 310 1 = some (1, 3) := by kernel_rfl
@[simp] theorem Tryz.field310n2 : fieldT Tryz.prog 310 2 = some (2, 27) := by kernel_rfl
end Go.Proofs.YthdfhffpnoocbaaGreat
