/- A part of a proof over the abstract machine. No conditions. -/
import Derived.Test.YtofafocfemikcaaGreatAb3
import Derived.Test.YtofafocfemikcaaGreatRows
namespace Go.Proofs.YtofafocfemikcaaGreat
open Go Go.Ab
theorem Tryz.tyCount : Tryz.prog.types.size = 563 := by kernel_rfl
attribute [simp] Tryz.tyCount
attribute [simp] Tryz.underlying2
@[simp] theorem Tryz.size2 : sizeT Tryz.prog 2 = some 1 := by kernel_rfl
@[simp] theorem Tryz.bytes2 : bytesT Tryz.prog 2 = some 8 := by kernel_rfl
@[simp] theorem Tryz.agg2 : isAggT Tryz.prog 2 = some false := by kernel_rfl
@[simp] theorem Tryz.zero2 : zeroT Tryz.prog 2 = some [.int .i64 0] := by kernel_rfl
attribute [simp] Tryz.underlying3
@[simp] theorem Tryz.size3 : sizeT Tryz.prog 3 = some 1 := by kernel_rfl
@[simp] theorem Tryz.bytes3 : bytesT Tryz.prog 3 = some 8 := by kernel_rfl
@[simp] theorem Tryz.agg3 : isAggT Tryz.prog 3 = some false := by kernel_rfl
@[simp] theorem Tryz.zero3 : zeroT Tryz.prog 3 = some [.int .i64 0] := by kernel_rfl
attribute [simp] Tryz.underlying4
@[simp] theorem Tryz.size4 : sizeT Tryz.prog 4 = some 1 := by kernel_rfl
@[simp] theorem Tryz.bytes4 : bytesT Tryz.prog 4 = some 1 := by kernel_rfl
@[simp] theorem Tryz.agg4 : isAggT Tryz.prog 4 = some false := by kernel_rfl
@[simp] theorem Tryz.zero4 : zeroT Tryz.prog 4 = some [.bool false] := by kernel_rfl
attribute [simp] Tryz.underlying5
@[simp] theorem Tryz.size5 : sizeT Tryz.prog 5 = some 1 := by kernel_rfl
@[simp] theorem Tryz.bytes5 : bytesT Tryz.prog 5 = some 1 := by kernel_rfl
@[simp] theorem Tryz.agg5 : isAggT Tryz.prog 5 = some false := by kernel_rfl
@[simp] theorem Tryz.zero5 : zeroT Tryz.prog 5 = some [.int .u8 0] := by kernel_rfl
attribute [simp] Tryz.underlying9
@[simp] theorem Tryz.size9 : sizeT Tryz.prog 9 = some 1 := by kernel_rfl
@[simp] theorem Tryz.bytes9 : bytesT Tryz.prog 9 = some 16 := by kernel_rfl
@[simp] theorem Tryz.agg9 : isAggT Tryz.prog 9 = some false := by kernel_rfl
@[simp] theorem Tryz.zero9 : zeroT Tryz.prog 9 = some [.str []] := by kernel_rfl
attribute [simp] Tryz.underlying23
@[simp] theorem Tryz.size23 : sizeT Tryz.prog 23 = some 3 := by kernel_rfl
@[simp] theorem Tryz.bytes23 : bytesT Tryz.prog 23 = some 24 := by kernel_rfl
@[simp] theorem Tryz.agg23 : isAggT Tryz.prog 23 = some true := by kernel_rfl
@[simp] theorem Tryz.zero23 : zeroT Tryz.prog 23 = some [.int .i64 0, .int .i64 0, .int .i64 0] := by kernel_rfl
@[simp] theorem Tryz.field23n0 : fieldT Tryz.prog 23 0 = some (0, 3) := by kernel_rfl
@[simp] theorem Tryz.field23n1 : fieldT Tryz.prog 23 1 = some (1, 3) := by kernel_rfl
@[simp] theorem Tryz.field23n2 : fieldT Tryz.prog 23 2 = some (2, 3) := by kernel_rfl
attribute [simp] Tryz.underlying24
@[simp] theorem Tryz.size24 : sizeT Tryz.prog 24 = some 1 := by kernel_rfl
@[simp] theorem Tryz.bytes24 : bytesT Tryz.prog 24 = some 24 := by kernel_rfl
@[simp] theorem Tryz.agg24 : isAggT Tryz.prog 24 = some false := by kernel_rfl
@[simp] theorem Tryz.zero24 : zeroT Tryz.prog 24 = some [.nilslc] := by kernel_rfl
@[simp] theorem Tryz.elem24 : elemT Tryz.prog 24 = some 59 := by kernel_rfl
attribute [simp] Tryz.underlying25
@[simp] theorem Tryz.size25 : sizeT Tryz.prog 25 = some 1 := by kernel_rfl
@[simp] theorem Tryz.bytes25 : bytesT Tryz.prog 25 = some 24 := by kernel_rfl
@[simp] theorem Tryz.agg25 : isAggT Tryz.prog 25 = some false := by kernel_rfl
@[simp] theorem Tryz.zero25 : zeroT Tryz.prog 25 = some [.nilslc] := by kernel_rfl
@[simp] theorem Tryz.elem25 : elemT Tryz.prog 25 = some 62 := by kernel_rfl
attribute [simp] Tryz.underlying27
@[simp] theorem Tryz.size27 : sizeT Tryz.prog 27 = some 6 := by kernel_rfl
@[simp] theorem Tryz.bytes27 : bytesT Tryz.prog 27 = some 80 := by kernel_rfl
@[simp] theorem Tryz.agg27 : isAggT Tryz.prog 27 = some true := by kernel_rfl
@[simp] theorem Tryz.zero27 : zeroT Tryz.prog 27 = some [.int .i64 0, .int .i64 0, .int .i64 0, .nilslc, .nilslc, .bool false] := by kernel_rfl
@[simp] theorem Tryz.field27n0 : fieldT Tryz.prog 27 0 = some (0, 23) := by kernel_rfl
@[simp] theorem Tryz.field27n1 : fieldT Tryz.prog 27 1 = some (3, 24) := by kernel_rfl
@[simp] theorem Tryz.field27n2 : fieldT Tryz.prog 27 2 = some (4, 25) := by kernel_rfl
@[simp] theorem Tryz.field27n3 : fieldT Tryz.prog 27 3 = some (5, 4) := by kernel_rfl
attribute [simp] Tryz.underlying29
@[simp] theorem Tryz.size29 : sizeT Tryz.prog 29 = some 4 := by kernel_rfl
@[simp] theorem Tryz.bytes29 : bytesT Tryz.prog 29 = some 48 := by kernel_rfl
@[simp] theorem Tryz.agg29 : isAggT Tryz.prog 29 = some true := by kernel_rfl
@[simp] theorem Tryz.zero29 : zeroT Tryz.prog 29 = some [.int .i64 0, .int .i64 0, .int .i64 0, .nilslc] := by kernel_rfl
@[simp] theorem Tryz.field29n0 : fieldT Tryz.prog 29 0 = some (0, 23) := by kernel_rfl
@[simp] theorem Tryz.field29n1 : fieldT Tryz.prog 29 1 = some (3, 25) := by kernel_rfl
attribute [simp] Tryz.underlying31
@[simp] theorem Tryz.size31 : sizeT Tryz.prog 31 = some 1 := by kernel_rfl
@[simp] theorem Tryz.bytes31 : bytesT Tryz.prog 31 = some 24 := by kernel_rfl
@[simp] theorem Tryz.agg31 : isAggT Tryz.prog 31 = some false := by kernel_rfl
@[simp] theorem Tryz.zero31 : zeroT Tryz.prog 31 = some [.nilslc] := by kernel_rfl
@[simp] theorem Tryz.elem31 : elemT Tryz.prog 31 = some 5 := by kernel_rfl
attribute [simp] Tryz.underlying32
@[simp] theorem Tryz.size32 : sizeT Tryz.prog 32 = some 1 := by kernel_rfl
@[simp] theorem Tryz.bytes32 : bytesT Tryz.prog 32 = some 8 := by kernel_rfl
@[simp] theorem Tryz.agg32 : isAggT Tryz.prog 32 = some false := by kernel_rfl
@[simp] theorem Tryz.zero32 : zeroT Tryz.prog 32 = some [.int .i64 0] := by kernel_rfl
attribute [simp] Tryz.underlying50
@[simp] theorem Tryz.size50 : sizeT Tryz.prog 50 = some 1 := by kernel_rfl
@[simp] theorem Tryz.bytes50 : bytesT Tryz.prog 50 = some 8 := by kernel_rfl
@[simp] theorem Tryz.agg50 : isAggT Tryz.prog 50 = some false := by kernel_rfl
@[simp] theorem Tryz.zero50 : zeroT Tryz.prog 50 = some [.flt 0] := by kernel_rfl
attribute [simp] Tryz.underlying52
@[simp] theorem Tryz.size52 : sizeT Tryz.prog 52 = some 4 := by kernel_rfl
@[simp] theorem Tryz.bytes52 : bytesT Tryz.prog 52 = some 48 := by kernel_rfl
@[simp] theorem Tryz.agg52 : isAggT Tryz.prog 52 = some true := by kernel_rfl
@[simp] theorem Tryz.zero52 : zeroT Tryz.prog 52 = some [.bool false, .int .i64 0, .flt 0, .nilslc] := by kernel_rfl
@[simp] theorem Tryz.field52n0 : fieldT Tryz.prog 52 0 = some (0, 4) := by kernel_rfl
@[simp] theorem Tryz.field52n1 : fieldT Tryz.prog 52 1 = some (1, 3) := by kernel_rfl
@[simp] theorem Tryz.field52n2 : fieldT Tryz.prog 52 2 = some (2, 50) := by kernel_rfl
@[simp] theorem Tryz.field52n3 : fieldT Tryz.prog 52 3 = some (3, 31) := by kernel_rfl
attribute [simp] Tryz.underlying53
@[simp] theorem Tryz.size53 : sizeT Tryz.prog 53 = some 1 := by kernel_rfl
@[simp] theorem Tryz.bytes53 : bytesT Tryz.prog 53 = some 24 := by kernel_rfl
@[simp] theorem Tryz.agg53 : isAggT Tryz.prog 53 = some false := by kernel_rfl
@[simp] theorem Tryz.zero53 : zeroT Tryz.prog 53 = some [.nilslc] := by kernel_rfl
@[simp] theorem Tryz.elem53 : elemT Tryz.prog 53 = some 128 := by kernel_rfl
attribute [simp] Tryz.underlying55
@[simp] theorem Tryz.size55 : sizeT Tryz.prog 55 = some 12 := by kernel_rfl
@[simp] theorem Tryz.bytes55 : bytesT Tryz.prog 55 = some 120 := by kernel_rfl
@[simp] theorem Tryz.agg55 : isAggT Tryz.prog 55 = some true := by kernel_rfl
@[simp] theorem Tryz.zero55 : zeroT Tryz.prog 55 = some [.int .i64 0, .int .i64 0, .int .i64 0, .int .i64 0, .int .i64 0, .bool false, .bool false, .bool false, .int .i64 0, .flt 0, .nilslc, .nilslc] := by kernel_rfl
@[simp] theorem Tryz.field55n0 : fieldT Tryz.prog 55 0 = some (0, 3) := by kernel_rfl
@[simp] theorem Tryz.field55n1 : fieldT Tryz.prog 55 1 = some (1, 3) := by kernel_rfl
@[simp] theorem Tryz.field55n2 : fieldT Tryz.prog 55 2 = some (2, 3) := by kernel_rfl
@[simp] theorem Tryz.field55n3 : fieldT Tryz.prog 55 3 = some (3, 3) := by kernel_rfl
@[simp] theorem Tryz.field55n4 : fieldT Tryz.prog 55 4 = some (4, 3) := by kernel_rfl
@[simp] theorem Tryz.field55n5 : fieldT Tryz.prog 55 5 = some (5, 4) := by kernel_rfl
@[simp] theorem Tryz.field55n6 : fieldT Tryz.prog 55 6 = some (6, 4) := by kernel_rfl
@[simp] theorem Tryz.field55n7 : fieldT Tryz.prog 55 7 = some (7, 52) := by kernel_rfl
@[simp] theorem Tryz.field55n8 : fieldT Tryz.prog 55 8 = some (11, 53) := by kernel_rfl
attribute [simp] Tryz.underlying57
@[simp] theorem Tryz.size57 : sizeT Tryz.prog 57 = some 3 := by kernel_rfl
@[simp] theorem Tryz.bytes57 : bytesT Tryz.prog 57 = some 24 := by kernel_rfl
@[simp] theorem Tryz.agg57 : isAggT Tryz.prog 57 = some true := by kernel_rfl
@[simp] theorem Tryz.zero57 : zeroT Tryz.prog 57 = some [.int .i64 0, .int .i64 0, .int .i64 0] := by kernel_rfl
@[simp] theorem Tryz.field57n0 : fieldT Tryz.prog 57 0 = some (0, 3) := by kernel_rfl
@[simp] theorem Tryz.field57n1 : fieldT Tryz.prog 57 1 = some (1, 3) := by kernel_rfl
@[simp] theorem Tryz.field57n2 : fieldT Tryz.prog 57 2 = some (2, 3) := by kernel_rfl
attribute [simp] Tryz.underlying59
@[simp] theorem Tryz.size59 : sizeT Tryz.prog 59 = some 19 := by kernel_rfl
@[simp] theorem Tryz.bytes59 : bytesT Tryz.prog 59 = some 176 := by kernel_rfl
@[simp] theorem Tryz.agg59 : isAggT Tryz.prog 59 = some true := by kernel_rfl
@[simp] theorem Tryz.zero59 : zeroT Tryz.prog 59 = some [.int .i64 0, .int .i64 0, .int .i64 0, .int .i64 0, .int .i64 0, .int .i64 0, .int .i64 0, .int .i64 0, .int .i64 0, .bool false, .bool false, .bool false, .int .i64 0, .flt 0, .nilslc, .nilslc, .int .i64 0, .int .i64 0, .int .i64 0] := by kernel_rfl
@[simp] theorem Tryz.field59n0 : fieldT Tryz.prog 59 0 = some (0, 3) := by kernel_rfl
@[simp] theorem Tryz.field59n1 : fieldT Tryz.prog 59 1 = some (1, 3) := by kernel_rfl
@[simp] theorem Tryz.field59n2 : fieldT Tryz.prog 59 2 = some (2, 3) := by kernel_rfl
@[simp] theorem Tryz.field59n3 : fieldT Tryz.prog 59 3 = some (3, 3) := by kernel_rfl
@[simp] theorem Tryz.field59n4 : fieldT Tryz.prog 59 4 = some (4, 55) := by kernel_rfl
@[simp] theorem Tryz.field59n5 : fieldT Tryz.prog 59 5 = some (16, 57) := by kernel_rfl
attribute [simp] Tryz.underlying60
@[simp] theorem Tryz.size60 : sizeT Tryz.prog 60 = some 1 := by kernel_rfl
@[simp] theorem Tryz.bytes60 : bytesT Tryz.prog 60 = some 24 := by kernel_rfl
@[simp] theorem Tryz.agg60 : isAggT Tryz.prog 60 = some false := by kernel_rfl
@[simp] theorem Tryz.zero60 : zeroT Tryz.prog 60 = some [.nilslc] := by kernel_rfl
@[simp] theorem Tryz.elem60 : elemT Tryz.prog 60 = some 3 := by kernel_rfl
attribute [simp] Tryz.underlying62
@[simp] theorem Tryz.size62 : sizeT Tryz.prog 62 = some 5 := by kernel_rfl
@[simp] theorem Tryz.bytes62 : bytesT Tryz.prog 62 = some 56 := by kernel_rfl
@[simp] theorem Tryz.agg62 : isAggT Tryz.prog 62 = some true := by kernel_rfl
@[simp] theorem Tryz.zero62 : zeroT Tryz.prog 62 = some [.int .i64 0, .int .i64 0, .int .i64 0, .int .i64 0, .nilslc] := by kernel_rfl
@[simp] theorem Tryz.field62n0 : fieldT Tryz.prog 62 0 = some (0, 3) := by kernel_rfl
@[simp] theorem Tryz.field62n1 : fieldT Tryz.prog 62 1 = some (1, 3) := by kernel_rfl
@[simp] theorem Tryz.field62n2 : fieldT Tryz.prog 62 2 = some (2, 3) := by kernel_rfl
@[simp] theorem Tryz.field62n3 : fieldT Tryz.prog 62 3 = some (3, 3) := by kernel_rfl
@[simp] theorem Tryz.field62n4 : fieldT Tryz.prog 62 4 = some (4, 31) := by kernel_rfl
attribute [simp] Tryz.underlying65
@[simp] theorem Tryz.size65 : sizeT Tryz.prog 65 = some 3 := by kernel_rfl
@[simp] theorem Tryz.bytes65 : bytesT Tryz.prog 65 = some 40 := by kernel_rfl
@[simp] theorem Tryz.agg65 : isAggT Tryz.prog 65 = some true := by kernel_rfl
@[simp] theorem Tryz.zero65 : zeroT Tryz.prog 65 = some [.int .i64 0, .nilslc, .flt 0] := by kernel_rfl
@[simp] theorem Tryz.field65n0 : fieldT Tryz.prog 65 0 = some (0, 3) := by kernel_rfl
@[simp] theorem Tryz.field65n1 : fieldT Tryz.prog 65 1 = some (1, 31) := by kernel_rfl
@[simp] theorem Tryz.field65n2 : fieldT Tryz.prog 65 2 = some (2, 50) := by kernel_rfl
attribute [simp] Tryz.underlying67
@[simp] theorem Tryz.size67 : sizeT Tryz.prog 67 = some 6 := by kernel_rfl
@[simp] theorem Tryz.bytes67 : bytesT Tryz.prog 67 = some 64 := by kernel_rfl
@[simp] theorem Tryz.agg67 : isAggT Tryz.prog 67 = some true := by kernel_rfl
@[simp] theorem Tryz.zero67 : zeroT Tryz.prog 67 = some [.bool false, .bool false, .str [], .int .i64 0, .nilslc, .flt 0] := by kernel_rfl
@[simp] theorem Tryz.field67n0 : fieldT Tryz.prog 67 0 = some (0, 4) := by kernel_rfl
@[simp] theorem Tryz.field67n1 : fieldT Tryz.prog 67 1 = some (1, 4) := by kernel_rfl
@[simp] theorem Tryz.field67n2 : fieldT Tryz.prog 67 2 = some (2, 9) := by kernel_rfl
@[simp] theorem Tryz.field67n3 : fieldT Tryz.prog 67 3 = some (3, 65) := by kernel_rfl
attribute [simp] Tryz.underlying68
@[simp] theorem Tryz.size68 : sizeT Tryz.prog 68 = some 1 := by kernel_rfl
@[simp] theorem Tryz.bytes68 : bytesT Tryz.prog 68 = some 24 := by kernel_rfl
@[simp] theorem Tryz.agg68 : isAggT Tryz.prog 68 = some false := by kernel_rfl
@[simp] theorem Tryz.zero68 : zeroT Tryz.prog 68 = some [.nilslc] := by kernel_rfl
@[simp] theorem Tryz.elem68 : elemT Tryz.prog 68 = some 103 := by kernel_rfl
attribute [simp] Tryz.underlying70
@[simp] theorem Tryz.size70 : sizeT Tryz.prog 70 = some 11 := by kernel_rfl
@[simp] theorem Tryz.bytes70 : bytesT Tryz.prog 70 = some 136 := by kernel_rfl
@[simp] theorem Tryz.agg70 : isAggT Tryz.prog 70 = some true := by kernel_rfl
@[simp] theorem Tryz.zero70 : zeroT Tryz.prog 70 = some [.int .i64 0, .str [], .str [], .bool false, .bool false, .str [], .int .i64 0, .nilslc, .flt 0, .nilslc, .int .i64 0] := by kernel_rfl
@[simp] theorem Tryz.field70n0 : fieldT Tryz.prog 70 0 = some (0, 3) := by kernel_rfl
@[simp] theorem Tryz.field70n1 : fieldT Tryz.prog 70 1 = some (1, 9) := by kernel_rfl
@[simp] theorem Tryz.field70n2 : fieldT Tryz.prog 70 2 = some (2, 9) := by kernel_rfl
@[simp] theorem Tryz.field70n3 : fieldT Tryz.prog 70 3 = some (3, 67) := by kernel_rfl
@[simp] theorem Tryz.field70n4 : fieldT Tryz.prog 70 4 = some (9, 68) := by kernel_rfl
@[simp] theorem Tryz.field70n5 : fieldT Tryz.prog 70 5 = some (10, 3) := by kernel_rfl
attribute [simp] Tryz.underlying73
@[simp] theorem Tryz.size73 : sizeT Tryz.prog 73 = some 2 := by kernel_rfl
@[simp] theorem Tryz.bytes73 : bytesT Tryz.prog 73 = some 32 := by kernel_rfl
@[simp] theorem Tryz.agg73 : isAggT Tryz.prog 73 = some true := by kernel_rfl
@[simp] theorem Tryz.zero73 : zeroT Tryz.prog 73 = some [.str [], .str []] := by kernel_rfl
@[simp] theorem Tryz.field73n0 : fieldT Tryz.prog 73 0 = some (0, 9) := by kernel_rfl
@[simp] theorem Tryz.field73n1 : fieldT Tryz.prog 73 1 = some (1, 9) := by kernel_rfl
attribute [simp] Tryz.underlying75
@[simp] theorem Tryz.size75 : sizeT Tryz.prog 75 = some 19 := by kernel_rfl
@[simp] theorem Tryz.bytes75 : bytesT Tryz.prog 75 = some 240 := by kernel_rfl
@[simp] theorem Tryz.agg75 : isAggT Tryz.prog 75 = some true := by kernel_rfl
@[simp] theorem Tryz.zero75 : zeroT Tryz.prog 75 = some [.int .i64 0, .int .i64 0, .str [], .str [], .bool false, .bool false, .str [], .int .i64 0, .nilslc, .flt 0, .nilslc, .int .i64 0, .str [], .str [], .int .i64 0, .str [], .int .i64 0, .int .i64 0, .nilslc] := by kernel_rfl
@[simp] theorem Tryz.field75n0 : fieldT Tryz.prog 75 0 = some (0, 3) := by kernel_rfl
@[simp] theorem Tryz.field75n1 : fieldT Tryz.prog 75 1 = some (1, 70) := by kernel_rfl
@[simp] theorem Tryz.field75n2 : fieldT Tryz.prog 75 2 = some (12, 73) := by kernel_rfl
@[simp] theorem Tryz.field75n3 : fieldT Tryz.prog 75 3 = some (14, 3) := by kernel_rfl
@[simp] theorem Tryz.field75n4 : fieldT Tryz.prog 75 4 = some (15, 9) := by kernel_rfl
@[simp] theorem Tryz.field75n5 : fieldT Tryz.prog 75 5 = some (16, 3) := by kernel_rfl
@[simp] theorem Tryz.field75n6 : fieldT Tryz.prog 75 6 = some (17, 3) := by kernel_rfl
@[simp] theorem Tryz.field75n7 : fieldT Tryz.prog 75 7 = some (18, 31) := by kernel_rfl
attribute [simp] Tryz.underlying82
@[simp] theorem Tryz.size82 : sizeT Tryz.prog 82 = some 1 := by kernel_rfl
@[simp] theorem Tryz.bytes82 : bytesT Tryz.prog 82 = some 8 := by kernel_rfl
@[simp] theorem Tryz.agg82 : isAggT Tryz.prog 82 = some false := by kernel_rfl
@[simp] theorem Tryz.zero82 : zeroT Tryz.prog 82 = some [.int .u64 0] := by kernel_rfl
attribute [simp] Tryz.underlying84
@[simp] theorem Tryz.size84 : sizeT Tryz.prog 84 = some 1 := by kernel_rfl
@[simp] theorem Tryz.bytes84 : bytesT Tryz.prog 84 = some 24 := by kernel_rfl
@[simp] theorem Tryz.agg84 : isAggT Tryz.prog 84 = some false := by kernel_rfl
@[simp] theorem Tryz.zero84 : zeroT Tryz.prog 84 = some [.nilslc] := by kernel_rfl
@[simp] theorem Tryz.elem84 : elemT Tryz.prog 84 = some 90 := by kernel_rfl
attribute [simp] Tryz.underlying85
@[simp] theorem Tryz.size85 : sizeT Tryz.prog 85 = some 1 := by kernel_rfl
@[simp] theorem Tryz.bytes85 : bytesT Tryz.prog 85 = some 24 := by kernel_rfl
@[simp] theorem Tryz.agg85 : isAggT Tryz.prog 85 = some false := by kernel_rfl
@[simp] theorem Tryz.zero85 : zeroT Tryz.prog 85 = some [.nilslc] := by kernel_rfl
@[simp] theorem Tryz.elem85 : elemT Tryz.prog 85 = some 212 := by kernel_rfl
attribute [simp] Tryz.underlying87
@[simp] theorem Tryz.size87 : sizeT Tryz.prog 87 = some 3 := by kernel_rfl
@[simp] theorem Tryz.bytes87 : bytesT Tryz.prog 87 = some 56 := by kernel_rfl
@[simp] theorem Tryz.agg87 : isAggT Tryz.prog 87 = some true := by kernel_rfl
@[simp] theorem Tryz.zero87 : zeroT Tryz.prog 87 = some [.nilslc, .nilslc, .int .i64 0] := by kernel_rfl
@[simp] theorem Tryz.field87n0 : fieldT Tryz.prog 87 0 = some (0, 84) := by kernel_rfl
@[simp] theorem Tryz.field87n1 : fieldT Tryz.prog 87 1 = some (1, 85) := by kernel_rfl
@[simp] theorem Tryz.field87n2 : fieldT Tryz.prog 87 2 = some (2, 32) := by kernel_rfl
attribute [simp] Tryz.underlying90
@[simp] theorem Tryz.size90 : sizeT Tryz.prog 90 = some 3 := by kernel_rfl
@[simp] theorem Tryz.bytes90 : bytesT Tryz.prog 90 = some 24 := by kernel_rfl
@[simp] theorem Tryz.agg90 : isAggT Tryz.prog 90 = some true := by kernel_rfl
@[simp] theorem Tryz.zero90 : zeroT Tryz.prog 90 = some [.int .i64 0, .int .i64 0, .int .i64 0] := by kernel_rfl
@[simp] theorem Tryz.field90n0 : fieldT Tryz.prog 90 0 = some (0, 3) := by kernel_rfl
@[simp] theorem Tryz.field90n1 : fieldT Tryz.prog 90 1 = some (1, 3) := by kernel_rfl
@[simp] theorem Tryz.field90n2 : fieldT Tryz.prog 90 2 = some (2, 32) := by kernel_rfl
attribute [simp] Tryz.underlying94
@[simp] theorem Tryz.size94 : sizeT Tryz.prog 94 = some 1 := by kernel_rfl
@[simp] theorem Tryz.bytes94 : bytesT Tryz.prog 94 = some 8 := by kernel_rfl
@[simp] theorem Tryz.agg94 : isAggT Tryz.prog 94 = some false := by kernel_rfl
@[simp] theorem Tryz.zero94 : zeroT Tryz.prog 94 = some [.nilptr] := by kernel_rfl
attribute [simp] Tryz.underlying96
@[simp] theorem Tryz.size96 : sizeT Tryz.prog 96 = some 2 := by kernel_rfl
@[simp] theorem Tryz.bytes96 : bytesT Tryz.prog 96 = some 32 := by kernel_rfl
@[simp] theorem Tryz.agg96 : isAggT Tryz.prog 96 = some true := by kernel_rfl
@[simp] theorem Tryz.zero96 : zeroT Tryz.prog 96 = some [.nilslc, .bool false] := by kernel_rfl
@[simp] theorem Tryz.field96n0 : fieldT Tryz.prog 96 0 = some (0, 31) := by kernel_rfl
@[simp] theorem Tryz.field96n1 : fieldT Tryz.prog 96 1 = some (1, 4) := by kernel_rfl
attribute [simp] Tryz.underlying103
@[simp] theorem Tryz.size103 : sizeT Tryz.prog 103 = some 6 := by kernel_rfl
@[simp] theorem Tryz.bytes103 : bytesT Tryz.prog 103 = some 72 := by kernel_rfl
@[simp] theorem Tryz.agg103 : isAggT Tryz.prog 103 = some true := by kernel_rfl
@[simp] theorem Tryz.zero103 : zeroT Tryz.prog 103 = some [.int .i64 0, .str [], .int .i64 0, .int .i64 0, .nilslc, .flt 0] := by kernel_rfl
@[simp] theorem Tryz.field103n0 : fieldT Tryz.prog 103 0 = some (0, 3) := by kernel_rfl
@[simp] theorem Tryz.field103n1 : fieldT Tryz.prog 103 1 = some (1, 9) := by kernel_rfl
@[simp] theorem Tryz.field103n2 : fieldT Tryz.prog 103 2 = some (2, 2) := by kernel_rfl
@[simp] theorem Tryz.field103n3 : fieldT Tryz.prog 103 3 = some (3, 65) := by kernel_rfl
attribute [simp] Tryz.underlying106
@[simp] theorem Tryz.size106 : sizeT Tryz.prog 106 = some 1 := by kernel_rfl
@[simp] theorem Tryz.bytes106 : bytesT Tryz.prog 106 = some 4 := by kernel_rfl
@[simp] theorem Tryz.agg106 : isAggT Tryz.prog 106 = some false := by kernel_rfl
@[simp] theorem Tryz.zero106 : zeroT Tryz.prog 106 = some [.int .u32 0] := by kernel_rfl
attribute [simp] Tryz.underlying113
@[simp] theorem Tryz.size113 : sizeT Tryz.prog 113 = some 1 := by kernel_rfl
@[simp] theorem Tryz.bytes113 : bytesT Tryz.prog 113 = some 8 := by kernel_rfl
@[simp] theorem Tryz.agg113 : isAggT Tryz.prog 113 = some false := by kernel_rfl
@[simp] theorem Tryz.zero113 : zeroT Tryz.prog 113 = some [.nilptr] := by kernel_rfl
attribute [simp] Tryz.underlying115
@[simp] theorem Tryz.size115 : sizeT Tryz.prog 115 = some 2 := by kernel_rfl
@[simp] theorem Tryz.bytes115 : bytesT Tryz.prog 115 = some 32 := by kernel_rfl
@[simp] theorem Tryz.agg115 : isAggT Tryz.prog 115 = some true := by kernel_rfl
@[simp] theorem Tryz.zero115 : zeroT Tryz.prog 115 = some [.nilslc, .bool false] := by kernel_rfl
@[simp] theorem Tryz.field115n0 : fieldT Tryz.prog 115 0 = some (0, 31) := by kernel_rfl
@[simp] theorem Tryz.field115n1 : fieldT Tryz.prog 115 1 = some (1, 4) := by kernel_rfl
attribute [simp] Tryz.underlying123
@[simp] theorem Tryz.size123 : sizeT Tryz.prog 123 = some 1 := by kernel_rfl
@[simp] theorem Tryz.bytes123 : bytesT Tryz.prog 123 = some 8 := by kernel_rfl
@[simp] theorem Tryz.agg123 : isAggT Tryz.prog 123 = some false := by kernel_rfl
@[simp] theorem Tryz.zero123 : zeroT Tryz.prog 123 = some [.int .u64 0] := by kernel_rfl
attribute [simp] Tryz.underlying125
@[simp] theorem Tryz.size125 : sizeT Tryz.prog 125 = some 1 := by kernel_rfl
@[simp] theorem Tryz.bytes125 : bytesT Tryz.prog 125 = some 24 := by kernel_rfl
@[simp] theorem Tryz.agg125 : isAggT Tryz.prog 125 = some false := by kernel_rfl
@[simp] theorem Tryz.zero125 : zeroT Tryz.prog 125 = some [.nilslc] := by kernel_rfl
@[simp] theorem Tryz.elem125 : elemT Tryz.prog 125 = some 9 := by kernel_rfl
attribute [simp] Tryz.underlying128
@[simp] theorem Tryz.size128 : sizeT Tryz.prog 128 = some 7 := by kernel_rfl
@[simp] theorem Tryz.bytes128 : bytesT Tryz.prog 128 = some 72 := by kernel_rfl
@[simp] theorem Tryz.agg128 : isAggT Tryz.prog 128 = some true := by kernel_rfl
@[simp] theorem Tryz.zero128 : zeroT Tryz.prog 128 = some [.int .i64 0, .int .i64 0, .int .i64 0, .bool false, .int .i64 0, .flt 0, .nilslc] := by kernel_rfl
@[simp] theorem Tryz.field128n0 : fieldT Tryz.prog 128 0 = some (0, 3) := by kernel_rfl
@[simp] theorem Tryz.field128n1 : fieldT Tryz.prog 128 1 = some (1, 3) := by kernel_rfl
@[simp] theorem Tryz.field128n2 : fieldT Tryz.prog 128 2 = some (2, 2) := by kernel_rfl
@[simp] theorem Tryz.field128n3 : fieldT Tryz.prog 128 3 = some (3, 52) := by kernel_rfl
attribute [simp] Tryz.underlying130
@[simp] theorem Tryz.size130 : sizeT Tryz.prog 130 = some 1 := by kernel_rfl
@[simp] theorem Tryz.bytes130 : bytesT Tryz.prog 130 = some 8 := by kernel_rfl
@[simp] theorem Tryz.agg130 : isAggT Tryz.prog 130 = some false := by kernel_rfl
@[simp] theorem Tryz.zero130 : zeroT Tryz.prog 130 = some [.nilptr] := by kernel_rfl
attribute [simp] Tryz.underlying141
@[simp] theorem Tryz.size141 : sizeT Tryz.prog 141 = some 1 := by kernel_rfl
@[simp] theorem Tryz.bytes141 : bytesT Tryz.prog 141 = some 8 := by kernel_rfl
@[simp] theorem Tryz.agg141 : isAggT Tryz.prog 141 = some false := by kernel_rfl
@[simp] theorem Tryz.zero141 : zeroT Tryz.prog 141 = some [.nilptr] := by kernel_rfl
attribute [simp] Tryz.underlying143
@[simp] theorem Tryz.size143 : sizeT Tryz.prog 143 = some 1 := by kernel_rfl
@[simp] theorem Tryz.bytes143 : bytesT Tryz.prog 143 = some 24 := by kernel_rfl
@[simp] theorem Tryz.agg143 : isAggT Tryz.prog 143 = some false := by kernel_rfl
@[simp] theorem Tryz.zero143 : zeroT Tryz.prog 143 = some [.nilslc] := by kernel_rfl
@[simp] theorem Tryz.elem143 : elemT Tryz.prog 143 = some 150 := by kernel_rfl
attribute [simp] Tryz.underlying144
@[simp] theorem Tryz.size144 : sizeT Tryz.prog 144 = some 1 := by kernel_rfl
@[simp] theorem Tryz.bytes144 : bytesT Tryz.prog 144 = some 24 := by kernel_rfl
@[simp] theorem Tryz.agg144 : isAggT Tryz.prog 144 = some false := by kernel_rfl
@[simp] theorem Tryz.zero144 : zeroT Tryz.prog 144 = some [.nilslc] := by kernel_rfl
@[simp] theorem Tryz.elem144 : elemT Tryz.prog 144 = some 162 := by kernel_rfl
attribute [simp] Tryz.underlying145
@[simp] theorem Tryz.size145 : sizeT Tryz.prog 145 = some 1 := by kernel_rfl
@[simp] theorem Tryz.bytes145 : bytesT Tryz.prog 145 = some 8 := by kernel_rfl
@[simp] theorem Tryz.agg145 : isAggT Tryz.prog 145 = some false := by kernel_rfl
@[simp] theorem Tryz.zero145 : zeroT Tryz.prog 145 = some [.nilptr] := by kernel_rfl
attribute [simp] Tryz.underlying147
@[simp] theorem Tryz.size147 : sizeT Tryz.prog 147 = some 8 := by kernel_rfl
@[simp] theorem Tryz.bytes147 : bytesT Tryz.prog 147 = some 112 := by kernel_rfl
@[simp] theorem Tryz.agg147 : isAggT Tryz.prog 147 = some true := by kernel_rfl
@[simp] theorem Tryz.zero147 : zeroT Tryz.prog 147 = some [.int .i64 0, .int .i64 0, .int .i64 0, .nilslc, .nilslc, .nilptr, .nilptr, .nilslc] := by kernel_rfl
@[simp] theorem Tryz.field147n0 : fieldT Tryz.prog 147 0 = some (0, 23) := by kernel_rfl
@[simp] theorem Tryz.field147n1 : fieldT Tryz.prog 147 1 = some (3, 143) := by kernel_rfl
@[simp] theorem Tryz.field147n2 : fieldT Tryz.prog 147 2 = some (4, 144) := by kernel_rfl
@[simp] theorem Tryz.field147n3 : fieldT Tryz.prog 147 3 = some (5, 141) := by kernel_rfl
@[simp] theorem Tryz.field147n4 : fieldT Tryz.prog 147 4 = some (6, 145) := by kernel_rfl
@[simp] theorem Tryz.field147n5 : fieldT Tryz.prog 147 5 = some (7, 85) := by kernel_rfl
attribute [simp] Tryz.underlying150
@[simp] theorem Tryz.size150 : sizeT Tryz.prog 150 = some 1 := by kernel_rfl
@[simp] theorem Tryz.bytes150 : bytesT Tryz.prog 150 = some 8 := by kernel_rfl
@[simp] theorem Tryz.agg150 : isAggT Tryz.prog 150 = some false := by kernel_rfl
@[simp] theorem Tryz.zero150 : zeroT Tryz.prog 150 = some [.nilptr] := by kernel_rfl
attribute [simp] Tryz.underlying151
@[simp] theorem Tryz.size151 : sizeT Tryz.prog 151 = some 1 := by kernel_rfl
@[simp] theorem Tryz.bytes151 : bytesT Tryz.prog 151 = some 8 := by kernel_rfl
@[simp] theorem Tryz.agg151 : isAggT Tryz.prog 151 = some false := by kernel_rfl
@[simp] theorem Tryz.zero151 : zeroT Tryz.prog 151 = some [.nilptr] := by kernel_rfl
attribute [simp] Tryz.underlying153
@[simp] theorem Tryz.size153 : sizeT Tryz.prog 153 = some 1 := by kernel_rfl
@[simp] theorem Tryz.bytes153 : bytesT Tryz.prog 153 = some 24 := by kernel_rfl
@[simp] theorem Tryz.agg153 : isAggT Tryz.prog 153 = some false := by kernel_rfl
@[simp] theorem Tryz.zero153 : zeroT Tryz.prog 153 = some [.nilslc] := by kernel_rfl
@[simp] theorem Tryz.elem153 : elemT Tryz.prog 153 = some 157 := by kernel_rfl
attribute [simp] Tryz.underlying154
@[simp] theorem Tryz.size154 : sizeT Tryz.prog 154 = some 1 := by kernel_rfl
@[simp] theorem Tryz.bytes154 : bytesT Tryz.prog 154 = some 24 := by kernel_rfl
@[simp] theorem Tryz.agg154 : isAggT Tryz.prog 154 = some false := by kernel_rfl
@[simp] theorem Tryz.zero154 : zeroT Tryz.prog 154 = some [.nilslc] := by kernel_rfl
@[simp] theorem Tryz.elem154 : elemT Tryz.prog 154 = some 159 := by kernel_rfl
attribute [simp] Tryz.underlying156
@[simp] theorem Tryz.size156 : sizeT Tryz.prog 156 = some 3 := by kernel_rfl
@[simp] theorem Tryz.bytes156 : bytesT Tryz.prog 156 = some 56 := by kernel_rfl
@[simp] theorem Tryz.agg156 : isAggT Tryz.prog 156 = some true := by kernel_rfl
@[simp] theorem Tryz.zero156 : zeroT Tryz.prog 156 = some [.nilslc, .nilslc, .nilptr] := by kernel_rfl
@[simp] theorem Tryz.field156n0 : fieldT Tryz.prog 156 0 = some (0, 153) := by kernel_rfl
@[simp] theorem Tryz.field156n1 : fieldT Tryz.prog 156 1 = some (1, 154) := by kernel_rfl
@[simp] theorem Tryz.field156n2 : fieldT Tryz.prog 156 2 = some (2, 151) := by kernel_rfl
attribute [simp] Tryz.underlying157
@[simp] theorem Tryz.size157 : sizeT Tryz.prog 157 = some 1 := by kernel_rfl
@[simp] theorem Tryz.bytes157 : bytesT Tryz.prog 157 = some 8 := by kernel_rfl
@[simp] theorem Tryz.agg157 : isAggT Tryz.prog 157 = some false := by kernel_rfl
@[simp] theorem Tryz.zero157 : zeroT Tryz.prog 157 = some [.nilptr] := by kernel_rfl
attribute [simp] Tryz.underlying159
@[simp] theorem Tryz.size159 : sizeT Tryz.prog 159 = some 1 := by kernel_rfl
@[simp] theorem Tryz.bytes159 : bytesT Tryz.prog 159 = some 8 := by kernel_rfl
@[simp] theorem Tryz.agg159 : isAggT Tryz.prog 159 = some false := by kernel_rfl
@[simp] theorem Tryz.zero159 : zeroT Tryz.prog 159 = some [.nilptr] := by kernel_rfl
attribute [simp] Tryz.underlying162
@[simp] theorem Tryz.size162 : sizeT Tryz.prog 162 = some 1 := by kernel_rfl
@[simp] theorem Tryz.bytes162 : bytesT Tryz.prog 162 = some 8 := by kernel_rfl
@[simp] theorem Tryz.agg162 : isAggT Tryz.prog 162 = some false := by kernel_rfl
@[simp] theorem Tryz.zero162 : zeroT Tryz.prog 162 = some [.nilptr] := by kernel_rfl
attribute [simp] Tryz.underlying167
@[simp] theorem Tryz.size167 : sizeT Tryz.prog 167 = some 1 := by kernel_rfl
@[simp] theorem Tryz.bytes167 : bytesT Tryz.prog 167 = some 24 := by kernel_rfl
@[simp] theorem Tryz.agg167 : isAggT Tryz.prog 167 = some false := by kernel_rfl
@[simp] theorem Tryz.zero167 : zeroT Tryz.prog 167 = some [.nilslc] := by kernel_rfl
@[simp] theorem Tryz.elem167 : elemT Tryz.prog 167 = some 359 := by kernel_rfl
attribute [simp] Tryz.underlying169
@[simp] theorem Tryz.size169 : sizeT Tryz.prog 169 = some 11 := by kernel_rfl
@[simp] theorem Tryz.bytes169 : bytesT Tryz.prog 169 = some 144 := by kernel_rfl
@[simp] theorem Tryz.agg169 : isAggT Tryz.prog 169 = some true := by kernel_rfl
@[simp] theorem Tryz.zero169 : zeroT Tryz.prog 169 = some [.int .i64 0, .nilslc, .str [], .str [], .int .i64 0, .int .i64 0, .int .i64 0, .int .i64 0, .int .i64 0, .str [], .nilslc] := by kernel_rfl
@[simp] theorem Tryz.field169n0 : fieldT Tryz.prog 169 0 = some (0, 32) := by kernel_rfl
@[simp] theorem Tryz.field169n1 : fieldT Tryz.prog 169 1 = some (1, 167) := by kernel_rfl
@[simp] theorem Tryz.field169n2 : fieldT Tryz.prog 169 2 = some (2, 73) := by kernel_rfl
@[simp] theorem Tryz.field169n3 : fieldT Tryz.prog 169 3 = some (4, 3) := by kernel_rfl
@[simp] theorem Tryz.field169n4 : fieldT Tryz.prog 169 4 = some (5, 3) := by kernel_rfl
@[simp] theorem Tryz.field169n5 : fieldT Tryz.prog 169 5 = some (6, 3) := by kernel_rfl
@[simp] theorem Tryz.field169n6 : fieldT Tryz.prog 169 6 = some (7, 3) := by kernel_rfl
@[simp] theorem Tryz.field169n7 : fieldT Tryz.prog 169 7 = some (8, 3) := by kernel_rfl
@[simp] theorem Tryz.field169n8 : fieldT Tryz.prog 169 8 = some (9, 9) := by kernel_rfl
@[simp] theorem Tryz.field169n9 : fieldT Tryz.prog 169 9 = some (10, 31) := by kernel_rfl
attribute [simp] Tryz.underlying171
@[simp] theorem Tryz.size171 : sizeT Tryz.prog 171 = some 19 := by kernel_rfl
@[simp] theorem Tryz.bytes171 : bytesT Tryz.prog 171 = some 224 := by kernel_rfl
@[simp] theorem Tryz.agg171 : isAggT Tryz.prog 171 = some true := by kernel_rfl
@[simp] theorem Tryz.zero171 : zeroT Tryz.prog 171 = some [.int .i64 0, .int .i64 0, .int .i64 0, .int .i64 0, .nilslc, .int .i64 0, .nilslc, .str [], .str [], .int .i64 0, .int .i64 0, .int .i64 0, .int .i64 0, .int .i64 0, .str [], .nilslc, .int .i64 0, .int .i64 0, .int .i64 0] := by kernel_rfl
@[simp] theorem Tryz.field171n0 : fieldT Tryz.prog 171 0 = some (0, 3) := by kernel_rfl
@[simp] theorem Tryz.field171n1 : fieldT Tryz.prog 171 1 = some (1, 3) := by kernel_rfl
@[simp] theorem Tryz.field171n2 : fieldT Tryz.prog 171 2 = some (2, 3) := by kernel_rfl
@[simp] theorem Tryz.field171n3 : fieldT Tryz.prog 171 3 = some (3, 3) := by kernel_rfl
@[simp] theorem Tryz.field171n4 : fieldT Tryz.prog 171 4 = some (4, 31) := by kernel_rfl
@[simp] theorem Tryz.field171n5 : fieldT Tryz.prog 171 5 = some (5, 169) := by kernel_rfl
@[simp] theorem Tryz.field171n6 : fieldT Tryz.prog 171 6 = some (16, 32) := by kernel_rfl
@[simp] theorem Tryz.field171n7 : fieldT Tryz.prog 171 7 = some (17, 3) := by kernel_rfl
@[simp] theorem Tryz.field171n8 : fieldT Tryz.prog 171 8 = some (18, 32) := by kernel_rfl
attribute [simp] Tryz.underlying172
@[simp] theorem Tryz.size172 : sizeT Tryz.prog 172 = some 1 := by kernel_rfl
@[simp] theorem Tryz.bytes172 : bytesT Tryz.prog 172 = some 24 := by kernel_rfl
@[simp] theorem Tryz.agg172 : isAggT Tryz.prog 172 = some false := by kernel_rfl
@[simp] theorem Tryz.zero172 : zeroT Tryz.prog 172 = some [.nilslc] := by kernel_rfl
@[simp] theorem Tryz.elem172 : elemT Tryz.prog 172 = some 204 := by kernel_rfl
attribute [simp] Tryz.underlying174
@[simp] theorem Tryz.size174 : sizeT Tryz.prog 174 = some 2 := by kernel_rfl
@[simp] theorem Tryz.bytes174 : bytesT Tryz.prog 174 = some 32 := by kernel_rfl
@[simp] theorem Tryz.agg174 : isAggT Tryz.prog 174 = some true := by kernel_rfl
@[simp] theorem Tryz.zero174 : zeroT Tryz.prog 174 = some [.int .i64 0, .nilslc] := by kernel_rfl
@[simp] theorem Tryz.field174n0 : fieldT Tryz.prog 174 0 = some (0, 3) := by kernel_rfl
@[simp] theorem Tryz.field174n1 : fieldT Tryz.prog 174 1 = some (1, 172) := by kernel_rfl
attribute [simp] Tryz.underlying175
@[simp] theorem Tryz.size175 : sizeT Tryz.prog 175 = some 1 := by kernel_rfl
@[simp] theorem Tryz.bytes175 : bytesT Tryz.prog 175 = some 8 := by kernel_rfl
@[simp] theorem Tryz.agg175 : isAggT Tryz.prog 175 = some false := by kernel_rfl
@[simp] theorem Tryz.zero175 : zeroT Tryz.prog 175 = some [.nilptr] := by kernel_rfl
attribute [simp] Tryz.underlying178
@[simp] theorem Tryz.size178 : sizeT Tryz.prog 178 = some 3 := by kernel_rfl
@[simp] theorem Tryz.bytes178 : bytesT Tryz.prog 178 = some 40 := by kernel_rfl
@[simp] theorem Tryz.agg178 : isAggT Tryz.prog 178 = some true := by kernel_rfl
@[simp] theorem Tryz.zero178 : zeroT Tryz.prog 178 = some [.nilptr, .nilslc, .bool false] := by kernel_rfl
@[simp] theorem Tryz.field178n0 : fieldT Tryz.prog 178 0 = some (0, 175) := by kernel_rfl
@[simp] theorem Tryz.field178n1 : fieldT Tryz.prog 178 1 = some (1, 85) := by kernel_rfl
@[simp] theorem Tryz.field178n2 : fieldT Tryz.prog 178 2 = some (2, 4) := by kernel_rfl
attribute [simp] Tryz.underlying179
@[simp] theorem Tryz.size179 : sizeT Tryz.prog 179 = some 1 := by kernel_rfl
@[simp] theorem Tryz.bytes179 : bytesT Tryz.prog 179 = some 24 := by kernel_rfl
@[simp] theorem Tryz.agg179 : isAggT Tryz.prog 179 = some false := by kernel_rfl
@[simp] theorem Tryz.zero179 : zeroT Tryz.prog 179 = some [.nilslc] := by kernel_rfl
@[simp] theorem Tryz.elem179 : elemT Tryz.prog 179 = some 31 := by kernel_rfl
attribute [simp] Tryz.underlying181
@[simp] theorem Tryz.size181 : sizeT Tryz.prog 181 = some 1 := by kernel_rfl
@[simp] theorem Tryz.bytes181 : bytesT Tryz.prog 181 = some 24 := by kernel_rfl
@[simp] theorem Tryz.agg181 : isAggT Tryz.prog 181 = some true := by kernel_rfl
@[simp] theorem Tryz.zero181 : zeroT Tryz.prog 181 = some [.nilslc] := by kernel_rfl
@[simp] theorem Tryz.field181n0 : fieldT Tryz.prog 181 0 = some (0, 179) := by kernel_rfl
attribute [simp] Tryz.underlying182
@[simp] theorem Tryz.size182 : sizeT Tryz.prog 182 = some 1 := by kernel_rfl
@[simp] theorem Tryz.bytes182 : bytesT Tryz.prog 182 = some 8 := by kernel_rfl
@[simp] theorem Tryz.agg182 : isAggT Tryz.prog 182 = some false := by kernel_rfl
@[simp] theorem Tryz.zero182 : zeroT Tryz.prog 182 = some [.nilptr] := by kernel_rfl
attribute [simp] Tryz.underlying185
@[simp] theorem Tryz.size185 : sizeT Tryz.prog 185 = some 1 := by kernel_rfl
@[simp] theorem Tryz.bytes185 : bytesT Tryz.prog 185 = some 8 := by kernel_rfl
@[simp] theorem Tryz.agg185 : isAggT Tryz.prog 185 = some false := by kernel_rfl
@[simp] theorem Tryz.zero185 : zeroT Tryz.prog 185 = some [.nilptr] := by kernel_rfl
attribute [simp] Tryz.underlying187
@[simp] theorem Tryz.size187 : sizeT Tryz.prog 187 = some 1 := by kernel_rfl
@[simp] theorem Tryz.bytes187 : bytesT Tryz.prog 187 = some 24 := by kernel_rfl
@[simp] theorem Tryz.agg187 : isAggT Tryz.prog 187 = some false := by kernel_rfl
@[simp] theorem Tryz.zero187 : zeroT Tryz.prog 187 = some [.nilslc] := by kernel_rfl
@[simp] theorem Tryz.elem187 : elemT Tryz.prog 187 = some 4 := by kernel_rfl
attribute [simp] Tryz.underlying188
@[simp] theorem Tryz.size188 : sizeT Tryz.prog 188 = some 1 := by kernel_rfl
@[simp] theorem Tryz.bytes188 : bytesT Tryz.prog 188 = some 24 := by kernel_rfl
@[simp] theorem Tryz.agg188 : isAggT Tryz.prog 188 = some false := by kernel_rfl
@[simp] theorem Tryz.zero188 : zeroT Tryz.prog 188 = some [.nilslc] := by kernel_rfl
@[simp] theorem Tryz.elem188 : elemT Tryz.prog 188 = some 202 := by kernel_rfl
attribute [simp] Tryz.underlying189
@[simp] theorem Tryz.size189 : sizeT Tryz.prog 189 = some 1 := by kernel_rfl
@[simp] theorem Tryz.bytes189 : bytesT Tryz.prog 189 = some 24 := by kernel_rfl
@[simp] theorem Tryz.agg189 : isAggT Tryz.prog 189 = some false := by kernel_rfl
@[simp] theorem Tryz.zero189 : zeroT Tryz.prog 189 = some [.nilslc] := by kernel_rfl
@[simp] theorem Tryz.elem189 : elemT Tryz.prog 189 = some 283 := by kernel_rfl
attribute [simp] Tryz.underlying190
@[simp] theorem Tryz.size190 : sizeT Tryz.prog 190 = some 1 := by kernel_rfl
@[simp] theorem Tryz.bytes190 : bytesT Tryz.prog 190 = some 24 := by kernel_rfl
@[simp] theorem Tryz.agg190 : isAggT Tryz.prog 190 = some false := by kernel_rfl
@[simp] theorem Tryz.zero190 : zeroT Tryz.prog 190 = some [.nilslc] := by kernel_rfl
@[simp] theorem Tryz.elem190 : elemT Tryz.prog 190 = some 319 := by kernel_rfl
attribute [simp] Tryz.underlying192
@[simp] theorem Tryz.size192 : sizeT Tryz.prog 192 = some 18 := by kernel_rfl
@[simp] theorem Tryz.bytes192 : bytesT Tryz.prog 192 = some 232 := by kernel_rfl
@[simp] theorem Tryz.agg192 : isAggT Tryz.prog 192 = some true := by kernel_rfl
@[simp] theorem Tryz.zero192 : zeroT Tryz.prog 192 = some [.int .i64 0, .int .i64 0, .int .i64 0, .int .i64 0, .nilptr, .nilptr, .int .i64 0, .nilptr, .int .i64 0, .bool false, .bool false, .nilslc, .nilslc, .nilslc, .int .i64 0, .nilslc, .nilslc, .nilslc] := by kernel_rfl
@[simp] theorem Tryz.field192n0 : fieldT Tryz.prog 192 0 = some (0, 3) := by kernel_rfl
@[simp] theorem Tryz.field192n1 : fieldT Tryz.prog 192 1 = some (1, 3) := by kernel_rfl
@[simp] theorem Tryz.field192n2 : fieldT Tryz.prog 192 2 = some (2, 3) := by kernel_rfl
@[simp] theorem Tryz.field192n3 : fieldT Tryz.prog 192 3 = some (3, 3) := by kernel_rfl
@[simp] theorem Tryz.field192n4 : fieldT Tryz.prog 192 4 = some (4, 182) := by kernel_rfl
@[simp] theorem Tryz.field192n5 : fieldT Tryz.prog 192 5 = some (5, 175) := by kernel_rfl
@[simp] theorem Tryz.field192n6 : fieldT Tryz.prog 192 6 = some (6, 3) := by kernel_rfl
@[simp] theorem Tryz.field192n7 : fieldT Tryz.prog 192 7 = some (7, 185) := by kernel_rfl
@[simp] theorem Tryz.field192n8 : fieldT Tryz.prog 192 8 = some (8, 3) := by kernel_rfl
@[simp] theorem Tryz.field192n9 : fieldT Tryz.prog 192 9 = some (9, 4) := by kernel_rfl
@[simp] theorem Tryz.field192n10 : fieldT Tryz.prog 192 10 = some (10, 4) := by kernel_rfl
@[simp] theorem Tryz.field192n11 : fieldT Tryz.prog 192 11 = some (11, 187) := by kernel_rfl
@[simp] theorem Tryz.field192n12 : fieldT Tryz.prog 192 12 = some (12, 188) := by kernel_rfl
@[simp] theorem Tryz.field192n13 : fieldT Tryz.prog 192 13 = some (13, 189) := by kernel_rfl
@[simp] theorem Tryz.field192n14 : fieldT Tryz.prog 192 14 = some (14, 3) := by kernel_rfl
@[simp] theorem Tryz.field192n15 : fieldT Tryz.prog 192 15 = some (15, 190) := by kernel_rfl
@[simp] theorem Tryz.field192n16 : fieldT Tryz.prog 192 16 = some (16, 172) := by kernel_rfl
@[simp] theorem Tryz.field192n17 : fieldT Tryz.prog 192 17 = some (17, 85) := by kernel_rfl
attribute [simp] Tryz.underlying198
@[simp] theorem Tryz.size198 : sizeT Tryz.prog 198 = some 1 := by kernel_rfl
@[simp] theorem Tryz.bytes198 : bytesT Tryz.prog 198 = some 24 := by kernel_rfl
@[simp] theorem Tryz.agg198 : isAggT Tryz.prog 198 = some false := by kernel_rfl
@[simp] theorem Tryz.zero198 : zeroT Tryz.prog 198 = some [.nilslc] := by kernel_rfl
@[simp] theorem Tryz.elem198 : elemT Tryz.prog 198 = some 222 := by kernel_rfl
attribute [simp] Tryz.underlying200
@[simp] theorem Tryz.size200 : sizeT Tryz.prog 200 = some 21 := by kernel_rfl
@[simp] theorem Tryz.bytes200 : bytesT Tryz.prog 200 = some 264 := by kernel_rfl
@[simp] theorem Tryz.agg200 : isAggT Tryz.prog 200 = some true := by kernel_rfl
@[simp] theorem Tryz.zero200 : zeroT Tryz.prog 200 = some [.int .i64 0, .int .i64 0, .int .i64 0, .bool false, .str [], .nilslc, .int .i64 0, .int .i64 0, .nilslc, .int .i64 0, .int .i64 0, .nilslc, .str [], .str [], .int .i64 0, .int .i64 0, .int .i64 0, .int .i64 0, .int .i64 0, .str [], .nilslc] := by kernel_rfl
@[simp] theorem Tryz.field200n0 : fieldT Tryz.prog 200 0 = some (0, 3) := by kernel_rfl
@[simp] theorem Tryz.field200n1 : fieldT Tryz.prog 200 1 = some (1, 3) := by kernel_rfl
@[simp] theorem Tryz.field200n2 : fieldT Tryz.prog 200 2 = some (2, 3) := by kernel_rfl
@[simp] theorem Tryz.field200n3 : fieldT Tryz.prog 200 3 = some (3, 4) := by kernel_rfl
@[simp] theorem Tryz.field200n4 : fieldT Tryz.prog 200 4 = some (4, 9) := by kernel_rfl
@[simp] theorem Tryz.field200n5 : fieldT Tryz.prog 200 5 = some (5, 31) := by kernel_rfl
@[simp] theorem Tryz.field200n6 : fieldT Tryz.prog 200 6 = some (6, 3) := by kernel_rfl
@[simp] theorem Tryz.field200n7 : fieldT Tryz.prog 200 7 = some (7, 3) := by kernel_rfl
@[simp] theorem Tryz.field200n8 : fieldT Tryz.prog 200 8 = some (8, 198) := by kernel_rfl
@[simp] theorem Tryz.field200n9 : fieldT Tryz.prog 200 9 = some (9, 3) := by kernel_rfl
@[simp] theorem Tryz.field200n10 : fieldT Tryz.prog 200 10 = some (10, 169) := by kernel_rfl
attribute [simp] Tryz.underlying202
@[simp] theorem Tryz.size202 : sizeT Tryz.prog 202 = some 1 := by kernel_rfl
@[simp] theorem Tryz.bytes202 : bytesT Tryz.prog 202 = some 24 := by kernel_rfl
@[simp] theorem Tryz.agg202 : isAggT Tryz.prog 202 = some false := by kernel_rfl
@[simp] theorem Tryz.zero202 : zeroT Tryz.prog 202 = some [.nilslc] := by kernel_rfl
@[simp] theorem Tryz.elem202 : elemT Tryz.prog 202 = some 274 := by kernel_rfl
attribute [simp] Tryz.underlying204
@[simp] theorem Tryz.size204 : sizeT Tryz.prog 204 = some 10 := by kernel_rfl
@[simp] theorem Tryz.bytes204 : bytesT Tryz.prog 204 = some 112 := by kernel_rfl
@[simp] theorem Tryz.agg204 : isAggT Tryz.prog 204 = some true := by kernel_rfl
@[simp] theorem Tryz.zero204 : zeroT Tryz.prog 204 = some [.int .i64 0, .int .i64 0, .int .i64 0, .int .i64 0, .int .i64 0, .int .i64 0, .int .i64 0, .int .i64 0, .nilslc, .nilslc] := by kernel_rfl
@[simp] theorem Tryz.field204n0 : fieldT Tryz.prog 204 0 = some (0, 3) := by kernel_rfl
@[simp] theorem Tryz.field204n1 : fieldT Tryz.prog 204 1 = some (1, 3) := by kernel_rfl
@[simp] theorem Tryz.field204n2 : fieldT Tryz.prog 204 2 = some (2, 3) := by kernel_rfl
@[simp] theorem Tryz.field204n3 : fieldT Tryz.prog 204 3 = some (3, 3) := by kernel_rfl
@[simp] theorem Tryz.field204n4 : fieldT Tryz.prog 204 4 = some (4, 3) := by kernel_rfl
@[simp] theorem Tryz.field204n5 : fieldT Tryz.prog 204 5 = some (5, 3) := by kernel_rfl
@[simp] theorem Tryz.field204n6 : fieldT Tryz.prog 204 6 = some (6, 3) := by kernel_rfl
@[simp] theorem Tryz.field204n7 : fieldT Tryz.prog 204 7 = some (7, 3) := by kernel_rfl
@[simp] theorem Tryz.field204n8 : fieldT Tryz.prog 204 8 = some (8, 31) := by kernel_rfl
@[simp] theorem Tryz.field204n9 : fieldT Tryz.prog 204 9 = some (9, 202) := by kernel_rfl
attribute [simp] Tryz.underlying212
@[simp] theorem Tryz.size212 : sizeT Tryz.prog 212 = some 7 := by kernel_rfl
@[simp] theorem Tryz.bytes212 : bytesT Tryz.prog 212 = some 88 := by kernel_rfl
@[simp] theorem Tryz.agg212 : isAggT Tryz.prog 212 = some true := by kernel_rfl
@[simp] theorem Tryz.zero212 : zeroT Tryz.prog 212 = some [.int .i64 0, .int .i64 0, .int .i64 0, .int .i64 0, .int .i64 0, .nilslc, .nilslc] := by kernel_rfl
@[simp] theorem Tryz.field212n0 : fieldT Tryz.prog 212 0 = some (0, 3) := by kernel_rfl
@[simp] theorem Tryz.field212n1 : fieldT Tryz.prog 212 1 = some (1, 3) := by kernel_rfl
@[simp] theorem Tryz.field212n2 : fieldT Tryz.prog 212 2 = some (2, 3) := by kernel_rfl
@[simp] theorem Tryz.field212n3 : fieldT Tryz.prog 212 3 = some (3, 3) := by kernel_rfl
@[simp] theorem Tryz.field212n4 : fieldT Tryz.prog 212 4 = some (4, 3) := by kernel_rfl
@[simp] theorem Tryz.field212n5 : fieldT Tryz.prog 212 5 = some (5, 31) := by kernel_rfl
@[simp] theorem Tryz.field212n6 : fieldT Tryz.prog 212 6 = some (6, 31) := by kernel_rfl
attribute [simp] Tryz.underlying215
@[simp] theorem Tryz.size215 : sizeT Tryz.prog 215 = some 1 := by kernel_rfl
@[simp] theorem Tryz.bytes215 : bytesT Tryz.prog 215 = some 8 := by kernel_rfl
@[simp] theorem Tryz.agg215 : isAggT Tryz.prog 215 = some false := by kernel_rfl
@[simp] theorem Tryz.zero215 : zeroT Tryz.prog 215 = some [.nilptr] := by kernel_rfl
attribute [simp] Tryz.underlying217
@[simp] theorem Tryz.size217 : sizeT Tryz.prog 217 = some 1 := by kernel_rfl
@[simp] theorem Tryz.bytes217 : bytesT Tryz.prog 217 = some 8 := by kernel_rfl
@[simp] theorem Tryz.agg217 : isAggT Tryz.prog 217 = some false := by kernel_rfl
@[simp] theorem Tryz.zero217 : zeroT Tryz.prog 217 = some [.nilptr] := by kernel_rfl
attribute [simp] Tryz.underlying219
@[simp] theorem Tryz.size219 : sizeT Tryz.prog 219 = some 3 := by kernel_rfl
@[simp] theorem Tryz.bytes219 : bytesT Tryz.prog 219 = some 24 := by kernel_rfl
@[simp] theorem Tryz.agg219 : isAggT Tryz.prog 219 = some true := by kernel_rfl
@[simp] theorem Tryz.zero219 : zeroT Tryz.prog 219 = some [.int .i64 0, .nilptr, .nilptr] := by kernel_rfl
@[simp] theorem Tryz.field219n0 : fieldT Tryz.prog 219 0 = some (0, 3) := by kernel_rfl
@[simp] theorem Tryz.field219n1 : fieldT Tryz.prog 219 1 = some (1, 215) := by kernel_rfl
@[simp] theorem Tryz.field219n2 : fieldT Tryz.prog 219 2 = some (2, 217) := by kernel_rfl
attribute [simp] Tryz.underlying222
@[simp] theorem Tryz.size222 : sizeT Tryz.prog 222 = some 4 := by kernel_rfl
@[simp] theorem Tryz.bytes222 : bytesT Tryz.prog 222 = some 48 := by kernel_rfl
@[simp] theorem Tryz.agg222 : isAggT Tryz.prog 222 = some true := by kernel_rfl
@[simp] theorem Tryz.zero222 : zeroT Tryz.prog 222 = some [.str [], .str [], .int .i64 0, .int .i64 0] := by kernel_rfl
@[simp] theorem Tryz.field222n0 : fieldT Tryz.prog 222 0 = some (0, 73) := by kernel_rfl
@[simp] theorem Tryz.field222n1 : fieldT Tryz.prog 222 1 = some (2, 3) := by kernel_rfl
@[simp] theorem Tryz.field222n2 : fieldT Tryz.prog 222 2 = some (3, 3) := by kernel_rfl
attribute [simp] Tryz.underlying224
@[simp] theorem Tryz.size224 : sizeT Tryz.prog 224 = some 5 := by kernel_rfl
@[simp] theorem Tryz.bytes224 : bytesT Tryz.prog 224 = some 72 := by kernel_rfl
@[simp] theorem Tryz.agg224 : isAggT Tryz.prog 224 = some true := by kernel_rfl
@[simp] theorem Tryz.zero224 : zeroT Tryz.prog 224 = some [.nilptr, .int .i64 0, .nilslc, .int .i64 0, .nilslc] := by kernel_rfl
@[simp] theorem Tryz.field224n0 : fieldT Tryz.prog 224 0 = some (0, 157) := by kernel_rfl
@[simp] theorem Tryz.field224n1 : fieldT Tryz.prog 224 1 = some (1, 3) := by kernel_rfl
@[simp] theorem Tryz.field224n2 : fieldT Tryz.prog 224 2 = some (2, 202) := by kernel_rfl
@[simp] theorem Tryz.field224n3 : fieldT Tryz.prog 224 3 = some (3, 3) := by kernel_rfl
@[simp] theorem Tryz.field224n4 : fieldT Tryz.prog 224 4 = some (4, 31) := by kernel_rfl
attribute [simp] Tryz.underlying228
@[simp] theorem Tryz.size228 : sizeT Tryz.prog 228 = some 1 := by kernel_rfl
@[simp] theorem Tryz.bytes228 : bytesT Tryz.prog 228 = some 24 := by kernel_rfl
@[simp] theorem Tryz.agg228 : isAggT Tryz.prog 228 = some false := by kernel_rfl
@[simp] theorem Tryz.zero228 : zeroT Tryz.prog 228 = some [.nilslc] := by kernel_rfl
@[simp] theorem Tryz.elem228 : elemT Tryz.prog 228 = some 235 := by kernel_rfl
attribute [simp] Tryz.underlying230
@[simp] theorem Tryz.size230 : sizeT Tryz.prog 230 = some 4 := by kernel_rfl
@[simp] theorem Tryz.bytes230 : bytesT Tryz.prog 230 = some 64 := by kernel_rfl
@[simp] theorem Tryz.agg230 : isAggT Tryz.prog 230 = some true := by kernel_rfl
@[simp] theorem Tryz.zero230 : zeroT Tryz.prog 230 = some [.int .i64 0, .int .i64 0, .nilslc, .nilslc] := by kernel_rfl
@[simp] theorem Tryz.field230n0 : fieldT Tryz.prog 230 0 = some (0, 3) := by kernel_rfl
@[simp] theorem Tryz.field230n1 : fieldT Tryz.prog 230 1 = some (1, 3) := by kernel_rfl
@[simp] theorem Tryz.field230n2 : fieldT Tryz.prog 230 2 = some (2, 228) := by kernel_rfl
@[simp] theorem Tryz.field230n3 : fieldT Tryz.prog 230 3 = some (3, 228) := by kernel_rfl
attribute [simp] Tryz.underlying235
@[simp] theorem Tryz.size235 : sizeT Tryz.prog 235 = some 1 := by kernel_rfl
@[simp] theorem Tryz.bytes235 : bytesT Tryz.prog 235 = some 8 := by kernel_rfl
@[simp] theorem Tryz.agg235 : isAggT Tryz.prog 235 = some false := by kernel_rfl
@[simp] theorem Tryz.zero235 : zeroT Tryz.prog 235 = some [.nilptr] := by kernel_rfl
attribute [simp] Tryz.underlying237
@[simp] theorem Tryz.size237 : sizeT Tryz.prog 237 = some 4 := by kernel_rfl
@[simp] theorem Tryz.bytes237 : bytesT Tryz.prog 237 = some 64 := by kernel_rfl
@[simp] theorem Tryz.agg237 : isAggT Tryz.prog 237 = some true := by kernel_rfl
@[simp] theorem Tryz.zero237 : zeroT Tryz.prog 237 = some [.int .i64 0, .int .i64 0, .nilslc, .nilslc] := by kernel_rfl
@[simp] theorem Tryz.field237n0 : fieldT Tryz.prog 237 0 = some (0, 3) := by kernel_rfl
@[simp] theorem Tryz.field237n1 : fieldT Tryz.prog 237 1 = some (1, 3) := by kernel_rfl
@[simp] theorem Tryz.field237n2 : fieldT Tryz.prog 237 2 = some (2, 31) := by kernel_rfl
@[simp] theorem Tryz.field237n3 : fieldT Tryz.prog 237 3 = some (3, 60) := by kernel_rfl
attribute [simp] Tryz.underlying251
@[simp] theorem Tryz.size251 : sizeT Tryz.prog 251 = some 1 := by kernel_rfl
@[simp] theorem Tryz.bytes251 : bytesT Tryz.prog 251 = some 8 := by kernel_rfl
@[simp] theorem Tryz.agg251 : isAggT Tryz.prog 251 = some false := by kernel_rfl
@[simp] theorem Tryz.zero251 : zeroT Tryz.prog 251 = some [.nilptr] := by kernel_rfl
attribute [simp] Tryz.underlying254
@[simp] theorem Tryz.size254 : sizeT Tryz.prog 254 = some 1 := by kernel_rfl
@[simp] theorem Tryz.bytes254 : bytesT Tryz.prog 254 = some 8 := by kernel_rfl
@[simp] theorem Tryz.agg254 : isAggT Tryz.prog 254 = some false := by kernel_rfl
@[simp] theorem Tryz.zero254 : zeroT Tryz.prog 254 = some [.nilptr] := by kernel_rfl
attribute [simp] Tryz.underlying257
@[simp] theorem Tryz.size257 : sizeT Tryz.prog 257 = some 15 := by kernel_rfl
@[simp] theorem Tryz.bytes257 : bytesT Tryz.prog 257 = some 176 := by kernel_rfl
@[simp] theorem Tryz.agg257 : isAggT Tryz.prog 257 = some true := by kernel_rfl
@[simp] theorem Tryz.zero257 : zeroT Tryz.prog 257 = some [.int .i64 0, .nilptr, .int .i64 0, .int .i64 0, .nilslc, .str [], .str [], .int .i64 0, .int .i64 0, .int .i64 0, .int .i64 0, .int .i64 0, .str [], .nilslc, .nilptr] := by kernel_rfl
@[simp] theorem Tryz.field257n0 : fieldT Tryz.prog 257 0 = some (0, 3) := by kernel_rfl
@[simp] theorem Tryz.field257n1 : fieldT Tryz.prog 257 1 = some (1, 251) := by kernel_rfl
@[simp] theorem Tryz.field257n2 : fieldT Tryz.prog 257 2 = some (2, 3) := by kernel_rfl
@[simp] theorem Tryz.field257n3 : fieldT Tryz.prog 257 3 = some (3, 169) := by kernel_rfl
@[simp] theorem Tryz.field257n4 : fieldT Tryz.prog 257 4 = some (14, 254) := by kernel_rfl
attribute [simp] Tryz.underlying258
@[simp] theorem Tryz.size258 : sizeT Tryz.prog 258 = some 1 := by kernel_rfl
@[simp] theorem Tryz.bytes258 : bytesT Tryz.prog 258 = some 24 := by kernel_rfl
@[simp] theorem Tryz.agg258 : isAggT Tryz.prog 258 = some false := by kernel_rfl
@[simp] theorem Tryz.zero258 : zeroT Tryz.prog 258 = some [.nilslc] := by kernel_rfl
@[simp] theorem Tryz.elem258 : elemT Tryz.prog 258 = some 262 := by kernel_rfl
attribute [simp] Tryz.underlying260
@[simp] theorem Tryz.size260 : sizeT Tryz.prog 260 = some 3 := by kernel_rfl
@[simp] theorem Tryz.bytes260 : bytesT Tryz.prog 260 = some 40 := by kernel_rfl
@[simp] theorem Tryz.agg260 : isAggT Tryz.prog 260 = some true := by kernel_rfl
@[simp] theorem Tryz.zero260 : zeroT Tryz.prog 260 = some [.nilslc, .int .i64 0, .int .i64 0] := by kernel_rfl
@[simp] theorem Tryz.field260n0 : fieldT Tryz.prog 260 0 = some (0, 258) := by kernel_rfl
@[simp] theorem Tryz.field260n1 : fieldT Tryz.prog 260 1 = some (1, 3) := by kernel_rfl
@[simp] theorem Tryz.field260n2 : fieldT Tryz.prog 260 2 = some (2, 32) := by kernel_rfl
attribute [simp] Tryz.underlying261
@[simp] theorem Tryz.size261 : sizeT Tryz.prog 261 = some 1 := by kernel_rfl
@[simp] theorem Tryz.bytes261 : bytesT Tryz.prog 261 = some 24 := by kernel_rfl
@[simp] theorem Tryz.agg261 : isAggT Tryz.prog 261 = some false := by kernel_rfl
@[simp] theorem Tryz.zero261 : zeroT Tryz.prog 261 = some [.nilslc] := by kernel_rfl
@[simp] theorem Tryz.elem261 : elemT Tryz.prog 261 = some 73 := by kernel_rfl
attribute [simp] Tryz.underlying262
@[simp] theorem Tryz.size262 : sizeT Tryz.prog 262 = some 1 := by kernel_rfl
@[simp] theorem Tryz.bytes262 : bytesT Tryz.prog 262 = some 8 := by kernel_rfl
@[simp] theorem Tryz.agg262 : isAggT Tryz.prog 262 = some false := by kernel_rfl
@[simp] theorem Tryz.zero262 : zeroT Tryz.prog 262 = some [.nilptr] := by kernel_rfl
attribute [simp] Tryz.underlying263
@[simp] theorem Tryz.size263 : sizeT Tryz.prog 263 = some 1 := by kernel_rfl
@[simp] theorem Tryz.bytes263 : bytesT Tryz.prog 263 = some 8 := by kernel_rfl
@[simp] theorem Tryz.agg263 : isAggT Tryz.prog 263 = some false := by kernel_rfl
@[simp] theorem Tryz.zero263 : zeroT Tryz.prog 263 = some [.nilptr] := by kernel_rfl
attribute [simp] Tryz.underlying266
@[simp] theorem Tryz.size266 : sizeT Tryz.prog 266 = some 6 := by kernel_rfl
@[simp] theorem Tryz.bytes266 : bytesT Tryz.prog 266 = some 64 := by kernel_rfl
@[simp] theorem Tryz.agg266 : isAggT Tryz.prog 266 = some true := by kernel_rfl
@[simp] theorem Tryz.zero266 : zeroT Tryz.prog 266 = some [.str [], .str [], .int .i64 0, .bool false, .nilptr, .nilptr] := by kernel_rfl
@[simp] theorem Tryz.field266n0 : fieldT Tryz.prog 266 0 = some (0, 73) := by kernel_rfl
@[simp] theorem Tryz.field266n1 : fieldT Tryz.prog 266 1 = some (2, 3) := by kernel_rfl
@[simp] theorem Tryz.field266n2 : fieldT Tryz.prog 266 2 = some (3, 4) := by kernel_rfl
@[simp] theorem Tryz.field266n3 : fieldT Tryz.prog 266 3 = some (4, 263) := by kernel_rfl
@[simp] theorem Tryz.field266n4 : fieldT Tryz.prog 266 4 = some (5, 254) := by kernel_rfl
attribute [simp] Tryz.underlying269
@[simp] theorem Tryz.size269 : sizeT Tryz.prog 269 = some 1 := by kernel_rfl
@[simp] theorem Tryz.bytes269 : bytesT Tryz.prog 269 = some 8 := by kernel_rfl
@[simp] theorem Tryz.agg269 : isAggT Tryz.prog 269 = some false := by kernel_rfl
@[simp] theorem Tryz.zero269 : zeroT Tryz.prog 269 = some [.nilptr] := by kernel_rfl
attribute [simp] Tryz.underlying271
@[simp] theorem Tryz.size271 : sizeT Tryz.prog 271 = some 1 := by kernel_rfl
@[simp] theorem Tryz.bytes271 : bytesT Tryz.prog 271 = some 24 := by kernel_rfl
@[simp] theorem Tryz.agg271 : isAggT Tryz.prog 271 = some true := by kernel_rfl
@[simp] theorem Tryz.zero271 : zeroT Tryz.prog 271 = some [.nilslc] := by kernel_rfl
@[simp] theorem Tryz.field271n0 : fieldT Tryz.prog 271 0 = some (0, 31) := by kernel_rfl
attribute [simp] Tryz.underlying274
@[simp] theorem Tryz.size274 : sizeT Tryz.prog 274 = some 3 := by kernel_rfl
@[simp] theorem Tryz.bytes274 : bytesT Tryz.prog 274 = some 40 := by kernel_rfl
@[simp] theorem Tryz.agg274 : isAggT Tryz.prog 274 = some true := by kernel_rfl
@[simp] theorem Tryz.zero274 : zeroT Tryz.prog 274 = some [.int .i64 0, .int .i64 0, .nilslc] := by kernel_rfl
@[simp] theorem Tryz.field274n0 : fieldT Tryz.prog 274 0 = some (0, 3) := by kernel_rfl
@[simp] theorem Tryz.field274n1 : fieldT Tryz.prog 274 1 = some (1, 3) := by kernel_rfl
@[simp] theorem Tryz.field274n2 : fieldT Tryz.prog 274 2 = some (2, 31) := by kernel_rfl
attribute [simp] Tryz.underlying283
@[simp] theorem Tryz.size283 : sizeT Tryz.prog 283 = some 2 := by kernel_rfl
@[simp] theorem Tryz.bytes283 : bytesT Tryz.prog 283 = some 32 := by kernel_rfl
@[simp] theorem Tryz.agg283 : isAggT Tryz.prog 283 = some true := by kernel_rfl
@[simp] theorem Tryz.zero283 : zeroT Tryz.prog 283 = some [.int .i64 0, .nilslc] := by kernel_rfl
@[simp] theorem Tryz.field283n0 : fieldT Tryz.prog 283 0 = some (0, 3) := by kernel_rfl
@[simp] theorem Tryz.field283n1 : fieldT Tryz.prog 283 1 = some (1, 31) := by kernel_rfl
attribute [simp] Tryz.underlying292
@[simp] theorem Tryz.size292 : sizeT Tryz.prog 292 = some 1 := by kernel_rfl
@[simp] theorem Tryz.bytes292 : bytesT Tryz.prog 292 = some 24 := by kernel_rfl
@[simp] theorem Tryz.agg292 : isAggT Tryz.prog 292 = some false := by kernel_rfl
@[simp] theorem Tryz.zero292 : zeroT Tryz.prog 292 = some [.nilslc] := by kernel_rfl
@[simp] theorem Tryz.elem292 : elemT Tryz.prog 292 = some 402 := by kernel_rfl
attribute [simp] Tryz.underlying294
@[simp] theorem Tryz.size294 : sizeT Tryz.prog 294 = some 1 := by kernel_rfl
@[simp] theorem Tryz.bytes294 : bytesT Tryz.prog 294 = some 24 := by kernel_rfl
@[simp] theorem Tryz.agg294 : isAggT Tryz.prog 294 = some true := by kernel_rfl
@[simp] theorem Tryz.zero294 : zeroT Tryz.prog 294 = some [.nilslc] := by kernel_rfl
@[simp] theorem Tryz.field294n0 : fieldT Tryz.prog 294 0 = some (0, 292) := by kernel_rfl
attribute [simp] Tryz.underlying296
@[simp] theorem Tryz.size296 : sizeT Tryz.prog 296 = some 1 := by kernel_rfl
@[simp] theorem Tryz.bytes296 : bytesT Tryz.prog 296 = some 24 := by kernel_rfl
@[simp] theorem Tryz.agg296 : isAggT Tryz.prog 296 = some true := by kernel_rfl
@[simp] theorem Tryz.zero296 : zeroT Tryz.prog 296 = some [.nilslc] := by kernel_rfl
@[simp] theorem Tryz.field296n0 : fieldT Tryz.prog 296 0 = some (0, 167) := by kernel_rfl
attribute [simp] Tryz.underlying319
@[simp] theorem Tryz.size319 : sizeT Tryz.prog 319 = some 3 := by kernel_rfl
@[simp] theorem Tryz.bytes319 : bytesT Tryz.prog 319 = some 40 := by kernel_rfl
@[simp] theorem Tryz.agg319 : isAggT Tryz.prog 319 = some true := by kernel_rfl
@[simp] theorem Tryz.zero319 : zeroT Tryz.prog 319 = some [.int .i64 0, .int .i64 0, .nilslc] := by kernel_rfl
@[simp] theorem Tryz.field319n0 : fieldT Tryz.prog 319 0 = some (0, 3) := by kernel_rfl
@[simp] theorem Tryz.field319n1 : fieldT Tryz.prog 319 1 = some (1, 3) := by kernel_rfl
@[simp] theorem Tryz.field319n2 : fieldT Tryz.prog 319 2 = some (2, 31) := by kernel_rfl
attribute [simp] Tryz.underlying330
@[simp] theorem Tryz.size330 : sizeT Tryz.prog 330 = some 1 := by kernel_rfl
@[simp] theorem Tryz.bytes330 : bytesT Tryz.prog 330 = some 8 := by kernel_rfl
@[simp] theorem Tryz.agg330 : isAggT Tryz.prog 330 = some false := by kernel_rfl
@[simp] theorem Tryz.zero330 : zeroT Tryz.prog 330 = some [.nilptr] := by kernel_rfl
attribute [simp] Tryz.underlying355
@[simp] theorem Tryz.size355 : sizeT Tryz.prog 355 = some 1 := by kernel_rfl
@[simp] theorem Tryz.bytes355 : bytesT Tryz.prog 355 = some 24 := by kernel_rfl
@[simp] theorem Tryz.agg355 : isAggT Tryz.prog 355 = some false := by kernel_rfl
@[simp] theorem Tryz.zero355 : zeroT Tryz.prog 355 = some [.nilslc] := by kernel_rfl
@[simp] theorem Tryz.elem355 : elemT Tryz.prog 355 = some 428 := by kernel_rfl
attribute [simp] Tryz.underlying357
@[simp] theorem Tryz.size357 : sizeT Tryz.prog 357 = some 1 := by kernel_rfl
@[simp] theorem Tryz.bytes357 : bytesT Tryz.prog 357 = some 24 := by kernel_rfl
@[simp] theorem Tryz.agg357 : isAggT Tryz.prog 357 = some true := by kernel_rfl
@[simp] theorem Tryz.zero357 : zeroT Tryz.prog 357 = some [.nilslc] := by kernel_rfl
@[simp] theorem Tryz.field357n0 : fieldT Tryz.prog 357 0 = some (0, 355) := by kernel_rfl
attribute [simp] Tryz.underlying359
@[simp] theorem Tryz.size359 : sizeT Tryz.prog 359 = some 2 := by kernel_rfl
@[simp] theorem Tryz.bytes359 : bytesT Tryz.prog 359 = some 40 := by kernel_rfl
@[simp] theorem Tryz.agg359 : isAggT Tryz.prog 359 = some true := by kernel_rfl
@[simp] theorem Tryz.zero359 : zeroT Tryz.prog 359 = some [.str [], .nilslc] := by kernel_rfl
@[simp] theorem Tryz.field359n0 : fieldT Tryz.prog 359 0 = some (0, 9) := by kernel_rfl
@[simp] theorem Tryz.field359n1 : fieldT Tryz.prog 359 1 = some (1, 357) := by kernel_rfl
attribute [simp] Tryz.underlying381
@[simp] theorem Tryz.size381 : sizeT Tryz.prog 381 = some 1 := by kernel_rfl
@[simp] theorem Tryz.bytes381 : bytesT Tryz.prog 381 = some 24 := by kernel_rfl
@[simp] theorem Tryz.agg381 : isAggT Tryz.prog 381 = some true := by kernel_rfl
@[simp] theorem Tryz.zero381 : zeroT Tryz.prog 381 = some [.nilslc] := by kernel_rfl
@[simp] theorem Tryz.field381n0 : fieldT Tryz.prog 381 0 = some (0, 31) := by kernel_rfl
attribute [simp] Tryz.underlying389
@[simp] theorem Tryz.size389 : sizeT Tryz.prog 389 = some 1 := by kernel_rfl
@[simp] theorem Tryz.bytes389 : bytesT Tryz.prog 389 = some 24 := by kernel_rfl
@[simp] theorem Tryz.agg389 : isAggT Tryz.prog 389 = some false := by kernel_rfl
@[simp] theorem Tryz.zero389 : zeroT Tryz.prog 389 = some [.nilslc] := by kernel_rfl
@[simp] theorem Tryz.elem389 : elemT Tryz.prog 389 = some 198 := by kernel_rfl
attribute [simp] Tryz.underlying391
@[simp] theorem Tryz.size391 : sizeT Tryz.prog 391 = some 1 := by kernel_rfl
@[simp] theorem Tryz.bytes391 : bytesT Tryz.prog 391 = some 24 := by kernel_rfl
@[simp] theorem Tryz.agg391 : isAggT Tryz.prog 391 = some true := by kernel_rfl
@[simp] theorem Tryz.zero391 : zeroT Tryz.prog 391 = some [.nilslc] := by kernel_rfl
@[simp] theorem Tryz.field391n0 : fieldT Tryz.prog 391 0 = some (0, 389) := by kernel_rfl
attribute [simp] Tryz.underlying402
@[simp] theorem Tryz.size402 : sizeT Tryz.prog 402 = some 3 := by kernel_rfl
@[simp] theorem Tryz.bytes402 : bytesT Tryz.prog 402 = some 40 := by kernel_rfl
@[simp] theorem Tryz.agg402 : isAggT Tryz.prog 402 = some true := by kernel_rfl
@[simp] theorem Tryz.zero402 : zeroT Tryz.prog 402 = some [.int .i64 0, .int .i64 0, .nilslc] := by kernel_rfl
@[simp] theorem Tryz.field402n0 : fieldT Tryz.prog 402 0 = some (0, 3) := by kernel_rfl
@[simp] theorem Tryz.field402n1 : fieldT Tryz.prog 402 1 = some (1, 3) := by kernel_rfl
@[simp] theorem Tryz.field402n2 : fieldT Tryz.prog 402 2 = some (2, 31) := by kernel_rfl
attribute [simp] Tryz.underlying417
@[simp] theorem Tryz.size417 : sizeT Tryz.prog 417 = some 16 := by kernel_rfl
@[simp] theorem Tryz.bytes417 : bytesT Tryz.prog 417 = some 16 := by kernel_rfl
@[simp] theorem Tryz.agg417 : isAggT Tryz.prog 417 = some true := by kernel_rfl
@[simp] theorem Tryz.zero417 : zeroT Tryz.prog 417 = some [.bool false, .bool false, .bool false, .bool false, .bool false, .bool false, .bool false, .bool false, .bool false, .bool false, .bool false, .bool false, .bool false, .bool false, .bool false, .bool false] := by kernel_rfl
attribute [simp] Tryz.underlying426
@[simp] theorem Tryz.size426 : sizeT Tryz.prog 426 = some 1 := by kernel_rfl
@[simp] theorem Tryz.bytes426 : bytesT Tryz.prog 426 = some 24 := by kernel_rfl
@[simp] theorem Tryz.agg426 : isAggT Tryz.prog 426 = some false := by kernel_rfl
@[simp] theorem Tryz.zero426 : zeroT Tryz.prog 426 = some [.nilslc] := by kernel_rfl
@[simp] theorem Tryz.elem426 : elemT Tryz.prog 426 = some 430 := by kernel_rfl
attribute [simp] Tryz.underlying428
@[simp] theorem Tryz.size428 : sizeT Tryz.prog 428 = some 2 := by kernel_rfl
@[simp] theorem Tryz.bytes428 : bytesT Tryz.prog 428 = some 40 := by kernel_rfl
@[simp] theorem Tryz.agg428 : isAggT Tryz.prog 428 = some true := by kernel_rfl
@[simp] theorem Tryz.zero428 : zeroT Tryz.prog 428 = some [.str [], .nilslc] := by kernel_rfl
@[simp] theorem Tryz.field428n0 : fieldT Tryz.prog 428 0 = some (0, 9) := by kernel_rfl
@[simp] theorem Tryz.field428n1 : fieldT Tryz.prog 428 1 = some (1, 426) := by kernel_rfl
attribute [simp] Tryz.underlying430
@[simp] theorem Tryz.size430 : sizeT Tryz.prog 430 = some 4 := by kernel_rfl
@[simp] theorem Tryz.bytes430 : bytesT Tryz.prog 430 = some 48 := by kernel_rfl
@[simp] theorem Tryz.agg430 : isAggT Tryz.prog 430 = some true := by kernel_rfl
@[simp] theorem Tryz.zero430 : zeroT Tryz.prog 430 = some [.int .i64 0, .int .i64 0, .nilslc, .flt 0] := by kernel_rfl
@[simp] theorem Tryz.field430n0 : fieldT Tryz.prog 430 0 = some (0, 2) := by kernel_rfl
@[simp] theorem Tryz.field430n1 : fieldT Tryz.prog 430 1 = some (1, 65) := by kernel_rfl
attribute [simp] Tryz.underlying477
@[simp] theorem Tryz.size477 : sizeT Tryz.prog 477 = some 1 := by kernel_rfl
@[simp] theorem Tryz.bytes477 : bytesT Tryz.prog 477 = some 8 := by kernel_rfl
@[simp] theorem Tryz.agg477 : isAggT Tryz.prog 477 = some false := by kernel_rfl
@[simp] theorem Tryz.zero477 : zeroT Tryz.prog 477 = some [.int .i64 0] := by kernel_rfl
attribute [simp] Tryz.underlying505
@[simp] theorem Tryz.size505 : sizeT Tryz.prog 505 = some 1 := by kernel_rfl
@[simp] theorem Tryz.bytes505 : bytesT Tryz.prog 505 = some 8 := by kernel_rfl
@[simp] theorem Tryz.agg505 : isAggT Tryz.prog 505 = some false := by kernel_rfl
@[simp] theorem Tryz.zero505 : zeroT Tryz.prog 505 = some [.int .u64 0] := by kernel_rfl
attribute [simp] Tryz.underlying508
@[simp] theorem Tryz.size508 : sizeT Tryz.prog 508 = some 1 := by kernel_rfl
@[simp] theorem Tryz.bytes508 : bytesT Tryz.prog 508 = some 8 := by kernel_rfl
@[simp] theorem Tryz.agg508 : isAggT Tryz.prog 508 = some false := by kernel_rfl
@[simp] theorem Tryz.zero508 : zeroT Tryz.prog 508 = some [.nilptr] := by kernel_rfl
attribute [simp] Tryz.underlying516
@[simp] theorem Tryz.size516 : sizeT Tryz.prog 516 = some 1 := by kernel_rfl
@[simp] theorem Tryz.bytes516 : bytesT Tryz.prog 516 = some 8 := by kernel_rfl
@[simp] theorem Tryz.agg516 : isAggT Tryz.prog 516 = some false := by kernel_rfl
@[simp] theorem Tryz.zero516 : zeroT Tryz.prog 516 = some [.nilptr] := by kernel_rfl
end Go.Proofs.YtofafocfemikcaaGreat
