/- A part of a proof over the abstract machine. No conditions. -/
import Derived.Test.YtmhbdpgflomihaaGreatAb3
import Derived.Test.YtmhbdpgflomihaaGreatRows
namespace Go.Proofs.YtmhbdpgflomihaaGreat
open Go Go.Ab
theorem Tryz.tyCount : Tryz.prog.types.size = 251 := by kernel_rfl
attribute [simp] Tryz.tyCount
attribute [simp] Tryz.underlying2
@[simp] theorem Tryz.size2 : sizeT Tryz.prog 2 = some 1 := by kernel_rfl
@[simp] theorem Tryz.bytes2 : bytesT Tryz.prog 2 = some 8 := by kernel_rfl
@[simp] theorem Tryz.agg2 : isAggT Tryz.prog 2 = some false := by kernel_rfl
@[simp] theorem Tryz.zero2 : zeroT Tryz.prog 2 = some [.int .i64 0] := by kernel_rfl
attribute [simp] Tryz.underlying3
@[simp] theorem Tryz.size3 : sizeT Tryz.prog 3 = some 1 := by kernel_rfl
@[simp] theorem Tryz.bytes3 : bytesT Tryz.prog 3 = some 8 := by kernel_rfl
@[simp] theorem Tryz.agg3 : isAggT Tryz.prog 3 = some false := by kernel_rfl
@[simp] theorem Tryz.zero3 : zeroT Tryz.prog 3 = some [.int .i64 0] := by kernel_rfl
attribute [simp] Tryz.underlying4
@[simp] theorem Tryz.size4 : sizeT Tryz.prog 4 = some 1 := by kernel_rfl
@[simp] theorem Tryz.bytes4 : bytesT Tryz.prog 4 = some 1 := by kernel_rfl
@[simp] theorem Tryz.agg4 : isAggT Tryz.prog 4 = some false := by kernel_rfl
@[simp] theorem Tryz.zero4 : zeroT Tryz.prog 4 = some [.bool false] := by kernel_rfl
attribute [simp] Tryz.underlying5
@[simp] theorem Tryz.size5 : sizeT Tryz.prog 5 = some 1 := by kernel_rfl
@[simp] theorem Tryz.bytes5 : bytesT Tryz.prog 5 = some 1 := by kernel_rfl
@[simp] theorem Tryz.agg5 : isAggT Tryz.prog 5 = some false := by kernel_rfl
@[simp] theorem Tryz.zero5 : zeroT Tryz.prog 5 = some [.int .u8 0] := by kernel_rfl
attribute [simp] Tryz.underlying9
@[simp] theorem Tryz.size9 : sizeT Tryz.prog 9 = some 1 := by kernel_rfl
@[simp] theorem Tryz.bytes9 : bytesT Tryz.prog 9 = some 16 := by kernel_rfl
@[simp] theorem Tryz.agg9 : isAggT Tryz.prog 9 = some false := by kernel_rfl
@[simp] theorem Tryz.zero9 : zeroT Tryz.prog 9 = some [.str []] := by kernel_rfl
attribute [simp] Tryz.underlying22
@[simp] theorem Tryz.size22 : sizeT Tryz.prog 22 = some 2 := by kernel_rfl
@[simp] theorem Tryz.bytes22 : bytesT Tryz.prog 22 = some 16 := by kernel_rfl
@[simp] theorem Tryz.agg22 : isAggT Tryz.prog 22 = some true := by kernel_rfl
@[simp] theorem Tryz.zero22 : zeroT Tryz.prog 22 = some [.int .i64 0, .int .i64 0] := by kernel_rfl
attribute [simp] Tryz.underlying23
@[simp] theorem Tryz.size23 : sizeT Tryz.prog 23 = some 1 := by kernel_rfl
@[simp] theorem Tryz.bytes23 : bytesT Tryz.prog 23 = some 24 := by kernel_rfl
@[simp] theorem Tryz.agg23 : isAggT Tryz.prog 23 = some false := by kernel_rfl
@[simp] theorem Tryz.zero23 : zeroT Tryz.prog 23 = some [.nilslc] := by kernel_rfl
@[simp] theorem Tryz.elem23 : elemT Tryz.prog 23 = some 22 := by kernel_rfl
attribute [simp] Tryz.underlying24
@[simp] theorem Tryz.size24 : sizeT Tryz.prog 24 = some 1 := by kernel_rfl
@[simp] theorem Tryz.bytes24 : bytesT Tryz.prog 24 = some 8 := by kernel_rfl
@[simp] theorem Tryz.agg24 : isAggT Tryz.prog 24 = some false := by kernel_rfl
@[simp] theorem Tryz.zero24 : zeroT Tryz.prog 24 = some [.nilptr] := by kernel_rfl
attribute [simp] Tryz.underlying26
@[simp] theorem Tryz.size26 : sizeT Tryz.prog 26 = some 1 := by kernel_rfl
@[simp] theorem Tryz.bytes26 : bytesT Tryz.prog 26 = some 8 := by kernel_rfl
@[simp] theorem Tryz.agg26 : isAggT Tryz.prog 26 = some false := by kernel_rfl
@[simp] theorem Tryz.zero26 : zeroT Tryz.prog 26 = some [.int .i64 0] := by kernel_rfl
attribute [simp] Tryz.underlying29
@[simp] theorem Tryz.size29 : sizeT Tryz.prog 29 = some 1 := by kernel_rfl
@[simp] theorem Tryz.bytes29 : bytesT Tryz.prog 29 = some 24 := by kernel_rfl
@[simp] theorem Tryz.agg29 : isAggT Tryz.prog 29 = some false := by kernel_rfl
@[simp] theorem Tryz.zero29 : zeroT Tryz.prog 29 = some [.nilslc] := by kernel_rfl
@[simp] theorem Tryz.elem29 : elemT Tryz.prog 29 = some 5 := by kernel_rfl
attribute [simp] Tryz.underlying30
@[simp] theorem Tryz.size30 : sizeT Tryz.prog 30 = some 1 := by kernel_rfl
@[simp] theorem Tryz.bytes30 : bytesT Tryz.prog 30 = some 8 := by kernel_rfl
@[simp] theorem Tryz.agg30 : isAggT Tryz.prog 30 = some false := by kernel_rfl
@[simp] theorem Tryz.zero30 : zeroT Tryz.prog 30 = some [.flt 0] := by kernel_rfl
attribute [simp] Tryz.underlying32
@[simp] theorem Tryz.size32 : sizeT Tryz.prog 32 = some 3 := by kernel_rfl
@[simp] theorem Tryz.bytes32 : bytesT Tryz.prog 32 = some 40 := by kernel_rfl
@[simp] theorem Tryz.agg32 : isAggT Tryz.prog 32 = some true := by kernel_rfl
@[simp] theorem Tryz.zero32 : zeroT Tryz.prog 32 = some [.int .i64 0, .nilslc, .flt 0] := by kernel_rfl
@[simp] theorem Tryz.field32n0 : fieldT Tryz.prog 32 0 = some (0, 3) := by kernel_rfl
@[simp] theorem Tryz.field32n1 : fieldT Tryz.prog 32 1 = some (1, 29) := by kernel_rfl
@[simp] theorem Tryz.field32n2 : fieldT Tryz.prog 32 2 = some (2, 30) := by kernel_rfl
attribute [simp] Tryz.underlying34
@[simp] theorem Tryz.size34 : sizeT Tryz.prog 34 = some 6 := by kernel_rfl
@[simp] theorem Tryz.bytes34 : bytesT Tryz.prog 34 = some 64 := by kernel_rfl
@[simp] theorem Tryz.agg34 : isAggT Tryz.prog 34 = some true := by kernel_rfl
@[simp] theorem Tryz.zero34 : zeroT Tryz.prog 34 = some [.bool false, .bool false, .str [], .int .i64 0, .nilslc, .flt 0] := by kernel_rfl
@[simp] theorem Tryz.field34n0 : fieldT Tryz.prog 34 0 = some (0, 4) := by kernel_rfl
@[simp] theorem Tryz.field34n1 : fieldT Tryz.prog 34 1 = some (1, 4) := by kernel_rfl
@[simp] theorem Tryz.field34n2 : fieldT Tryz.prog 34 2 = some (2, 9) := by kernel_rfl
@[simp] theorem Tryz.field34n3 : fieldT Tryz.prog 34 3 = some (3, 32) := by kernel_rfl
attribute [simp] Tryz.underlying35
@[simp] theorem Tryz.size35 : sizeT Tryz.prog 35 = some 1 := by kernel_rfl
@[simp] theorem Tryz.bytes35 : bytesT Tryz.prog 35 = some 24 := by kernel_rfl
@[simp] theorem Tryz.agg35 : isAggT Tryz.prog 35 = some false := by kernel_rfl
@[simp] theorem Tryz.zero35 : zeroT Tryz.prog 35 = some [.nilslc] := by kernel_rfl
@[simp] theorem Tryz.elem35 : elemT Tryz.prog 35 = some 88 := by kernel_rfl
attribute [simp] Tryz.underlying37
@[simp] theorem Tryz.size37 : sizeT Tryz.prog 37 = some 11 := by kernel_rfl
@[simp] theorem Tryz.bytes37 : bytesT Tryz.prog 37 = some 136 := by kernel_rfl
@[simp] theorem Tryz.agg37 : isAggT Tryz.prog 37 = some true := by kernel_rfl
@[simp] theorem Tryz.zero37 : zeroT Tryz.prog 37 = some [.int .i64 0, .str [], .str [], .bool false, .bool false, .str [], .int .i64 0, .nilslc, .flt 0, .nilslc, .int .i64 0] := by kernel_rfl
@[simp] theorem Tryz.field37n0 : fieldT Tryz.prog 37 0 = some (0, 3) := by kernel_rfl
@[simp] theorem Tryz.field37n1 : fieldT Tryz.prog 37 1 = some (1, 9) := by kernel_rfl
@[simp] theorem Tryz.field37n2 : fieldT Tryz.prog 37 2 = some (2, 9) := by kernel_rfl
@[simp] theorem Tryz.field37n3 : fieldT Tryz.prog 37 3 = some (3, 34) := by kernel_rfl
@[simp] theorem Tryz.field37n4 : fieldT Tryz.prog 37 4 = some (9, 35) := by kernel_rfl
@[simp] theorem Tryz.field37n5 : fieldT Tryz.prog 37 5 = some (10, 3) := by kernel_rfl
attribute [simp] Tryz.underlying38
@[simp] theorem Tryz.size38 : sizeT Tryz.prog 38 = some 1 := by kernel_rfl
@[simp] theorem Tryz.bytes38 : bytesT Tryz.prog 38 = some 24 := by kernel_rfl
@[simp] theorem Tryz.agg38 : isAggT Tryz.prog 38 = some false := by kernel_rfl
@[simp] theorem Tryz.zero38 : zeroT Tryz.prog 38 = some [.nilslc] := by kernel_rfl
@[simp] theorem Tryz.elem38 : elemT Tryz.prog 38 = some 46 := by kernel_rfl
attribute [simp] Tryz.underlying39
@[simp] theorem Tryz.size39 : sizeT Tryz.prog 39 = some 1 := by kernel_rfl
@[simp] theorem Tryz.bytes39 : bytesT Tryz.prog 39 = some 24 := by kernel_rfl
@[simp] theorem Tryz.agg39 : isAggT Tryz.prog 39 = some false := by kernel_rfl
@[simp] theorem Tryz.zero39 : zeroT Tryz.prog 39 = some [.nilslc] := by kernel_rfl
@[simp] theorem Tryz.elem39 : elemT Tryz.prog 39 = some 3 := by kernel_rfl
attribute [simp] Tryz.underlying41
@[simp] theorem Tryz.size41 : sizeT Tryz.prog 41 = some 4 := by kernel_rfl
@[simp] theorem Tryz.bytes41 : bytesT Tryz.prog 41 = some 48 := by kernel_rfl
@[simp] theorem Tryz.agg41 : isAggT Tryz.prog 41 = some true := by kernel_rfl
@[simp] theorem Tryz.zero41 : zeroT Tryz.prog 41 = some [.bool false, .int .i64 0, .flt 0, .nilslc] := by kernel_rfl
@[simp] theorem Tryz.field41n0 : fieldT Tryz.prog 41 0 = some (0, 4) := by kernel_rfl
@[simp] theorem Tryz.field41n1 : fieldT Tryz.prog 41 1 = some (1, 3) := by kernel_rfl
@[simp] theorem Tryz.field41n2 : fieldT Tryz.prog 41 2 = some (2, 30) := by kernel_rfl
@[simp] theorem Tryz.field41n3 : fieldT Tryz.prog 41 3 = some (3, 29) := by kernel_rfl
attribute [simp] Tryz.underlying42
@[simp] theorem Tryz.size42 : sizeT Tryz.prog 42 = some 1 := by kernel_rfl
@[simp] theorem Tryz.bytes42 : bytesT Tryz.prog 42 = some 24 := by kernel_rfl
@[simp] theorem Tryz.agg42 : isAggT Tryz.prog 42 = some false := by kernel_rfl
@[simp] theorem Tryz.zero42 : zeroT Tryz.prog 42 = some [.nilslc] := by kernel_rfl
@[simp] theorem Tryz.elem42 : elemT Tryz.prog 42 = some 129 := by kernel_rfl
attribute [simp] Tryz.underlying44
@[simp] theorem Tryz.size44 : sizeT Tryz.prog 44 = some 12 := by kernel_rfl
@[simp] theorem Tryz.bytes44 : bytesT Tryz.prog 44 = some 120 := by kernel_rfl
@[simp] theorem Tryz.agg44 : isAggT Tryz.prog 44 = some true := by kernel_rfl
@[simp] theorem Tryz.zero44 : zeroT Tryz.prog 44 = some [.int .i64 0, .int .i64 0, .int .i64 0, .int .i64 0, .int .i64 0, .bool false, .bool false, .bool false, .int .i64 0, .flt 0, .nilslc, .nilslc] := by kernel_rfl
@[simp] theorem Tryz.field44n0 : fieldT Tryz.prog 44 0 = some (0, 3) := by kernel_rfl
@[simp] theorem Tryz.field44n1 : fieldT Tryz.prog 44 1 = some (1, 3) := by kernel_rfl
@[simp] theorem Tryz.field44n2 : fieldT Tryz.prog 44 2 = some (2, 3) := by kernel_rfl
@[simp] theorem Tryz.field44n3 : fieldT Tryz.prog 44 3 = some (3, 3) := by kernel_rfl
@[simp] theorem Tryz.field44n4 : fieldT Tryz.prog 44 4 = some (4, 3) := by kernel_rfl
@[simp] theorem Tryz.field44n5 : fieldT Tryz.prog 44 5 = some (5, 4) := by kernel_rfl
@[simp] theorem Tryz.field44n6 : fieldT Tryz.prog 44 6 = some (6, 4) := by kernel_rfl
@[simp] theorem Tryz.field44n7 : fieldT Tryz.prog 44 7 = some (7, 41) := by kernel_rfl
@[simp] theorem Tryz.field44n8 : fieldT Tryz.prog 44 8 = some (11, 42) := by kernel_rfl
attribute [simp] Tryz.underlying46
@[simp] theorem Tryz.size46 : sizeT Tryz.prog 46 = some 17 := by kernel_rfl
@[simp] theorem Tryz.bytes46 : bytesT Tryz.prog 46 = some 160 := by kernel_rfl
@[simp] theorem Tryz.agg46 : isAggT Tryz.prog 46 = some true := by kernel_rfl
@[simp] theorem Tryz.zero46 : zeroT Tryz.prog 46 = some [.int .i64 0, .int .i64 0, .int .i64 0, .int .i64 0, .int .i64 0, .int .i64 0, .int .i64 0, .int .i64 0, .int .i64 0, .int .i64 0, .bool false, .bool false, .bool false, .int .i64 0, .flt 0, .nilslc, .nilslc] := by kernel_rfl
@[simp] theorem Tryz.field46n0 : fieldT Tryz.prog 46 0 = some (0, 3) := by kernel_rfl
@[simp] theorem Tryz.field46n1 : fieldT Tryz.prog 46 1 = some (1, 3) := by kernel_rfl
@[simp] theorem Tryz.field46n2 : fieldT Tryz.prog 46 2 = some (2, 3) := by kernel_rfl
@[simp] theorem Tryz.field46n3 : fieldT Tryz.prog 46 3 = some (3, 3) := by kernel_rfl
@[simp] theorem Tryz.field46n4 : fieldT Tryz.prog 46 4 = some (4, 3) := by kernel_rfl
@[simp] theorem Tryz.field46n5 : fieldT Tryz.prog 46 5 = some (5, 44) := by kernel_rfl
attribute [simp] Tryz.underlying52
@[simp] theorem Tryz.size52 : sizeT Tryz.prog 52 = some 1 := by kernel_rfl
@[simp] theorem Tryz.bytes52 : bytesT Tryz.prog 52 = some 24 := by kernel_rfl
@[simp] theorem Tryz.agg52 : isAggT Tryz.prog 52 = some false := by kernel_rfl
@[simp] theorem Tryz.zero52 : zeroT Tryz.prog 52 = some [.nilslc] := by kernel_rfl
@[simp] theorem Tryz.elem52 : elemT Tryz.prog 52 = some 61 := by kernel_rfl
attribute [simp] Tryz.underlying55
@[simp] theorem Tryz.size55 : sizeT Tryz.prog 55 = some 2 := by kernel_rfl
@[simp] theorem Tryz.bytes55 : bytesT Tryz.prog 55 = some 32 := by kernel_rfl
@[simp] theorem Tryz.agg55 : isAggT Tryz.prog 55 = some true := by kernel_rfl
@[simp] theorem Tryz.zero55 : zeroT Tryz.prog 55 = some [.str [], .str []] := by kernel_rfl
@[simp] theorem Tryz.field55n0 : fieldT Tryz.prog 55 0 = some (0, 9) := by kernel_rfl
@[simp] theorem Tryz.field55n1 : fieldT Tryz.prog 55 1 = some (1, 9) := by kernel_rfl
attribute [simp] Tryz.underlying57
@[simp] theorem Tryz.size57 : sizeT Tryz.prog 57 = some 19 := by kernel_rfl
@[simp] theorem Tryz.bytes57 : bytesT Tryz.prog 57 = some 240 := by kernel_rfl
@[simp] theorem Tryz.agg57 : isAggT Tryz.prog 57 = some true := by kernel_rfl
@[simp] theorem Tryz.zero57 : zeroT Tryz.prog 57 = some [.int .i64 0, .int .i64 0, .str [], .str [], .bool false, .bool false, .str [], .int .i64 0, .nilslc, .flt 0, .nilslc, .int .i64 0, .str [], .str [], .int .i64 0, .str [], .int .i64 0, .int .i64 0, .nilslc] := by kernel_rfl
@[simp] theorem Tryz.field57n0 : fieldT Tryz.prog 57 0 = some (0, 3) := by kernel_rfl
@[simp] theorem Tryz.field57n1 : fieldT Tryz.prog 57 1 = some (1, 37) := by kernel_rfl
@[simp] theorem Tryz.field57n2 : fieldT Tryz.prog 57 2 = some (12, 55) := by kernel_rfl
@[simp] theorem Tryz.field57n3 : fieldT Tryz.prog 57 3 = some (14, 3) := by kernel_rfl
@[simp] theorem Tryz.field57n4 : fieldT Tryz.prog 57 4 = some (15, 9) := by kernel_rfl
@[simp] theorem Tryz.field57n5 : fieldT Tryz.prog 57 5 = some (16, 3) := by kernel_rfl
@[simp] theorem Tryz.field57n6 : fieldT Tryz.prog 57 6 = some (17, 3) := by kernel_rfl
@[simp] theorem Tryz.field57n7 : fieldT Tryz.prog 57 7 = some (18, 29) := by kernel_rfl
attribute [simp] Tryz.underlying59
@[simp] theorem Tryz.size59 : sizeT Tryz.prog 59 = some 1 := by kernel_rfl
@[simp] theorem Tryz.bytes59 : bytesT Tryz.prog 59 = some 24 := by kernel_rfl
@[simp] theorem Tryz.agg59 : isAggT Tryz.prog 59 = some false := by kernel_rfl
@[simp] theorem Tryz.zero59 : zeroT Tryz.prog 59 = some [.nilslc] := by kernel_rfl
@[simp] theorem Tryz.elem59 : elemT Tryz.prog 59 = some 139 := by kernel_rfl
attribute [simp] Tryz.underlying61
@[simp] theorem Tryz.size61 : sizeT Tryz.prog 61 = some 10 := by kernel_rfl
@[simp] theorem Tryz.bytes61 : bytesT Tryz.prog 61 = some 112 := by kernel_rfl
@[simp] theorem Tryz.agg61 : isAggT Tryz.prog 61 = some true := by kernel_rfl
@[simp] theorem Tryz.zero61 : zeroT Tryz.prog 61 = some [.int .i64 0, .int .i64 0, .int .i64 0, .int .i64 0, .int .i64 0, .int .i64 0, .int .i64 0, .int .i64 0, .nilslc, .nilslc] := by kernel_rfl
@[simp] theorem Tryz.field61n0 : fieldT Tryz.prog 61 0 = some (0, 3) := by kernel_rfl
@[simp] theorem Tryz.field61n1 : fieldT Tryz.prog 61 1 = some (1, 3) := by kernel_rfl
@[simp] theorem Tryz.field61n2 : fieldT Tryz.prog 61 2 = some (2, 3) := by kernel_rfl
@[simp] theorem Tryz.field61n3 : fieldT Tryz.prog 61 3 = some (3, 3) := by kernel_rfl
@[simp] theorem Tryz.field61n4 : fieldT Tryz.prog 61 4 = some (4, 3) := by kernel_rfl
@[simp] theorem Tryz.field61n5 : fieldT Tryz.prog 61 5 = some (5, 3) := by kernel_rfl
@[simp] theorem Tryz.field61n6 : fieldT Tryz.prog 61 6 = some (6, 3) := by kernel_rfl
@[simp] theorem Tryz.field61n7 : fieldT Tryz.prog 61 7 = some (7, 3) := by kernel_rfl
@[simp] theorem Tryz.field61n8 : fieldT Tryz.prog 61 8 = some (8, 29) := by kernel_rfl
@[simp] theorem Tryz.field61n9 : fieldT Tryz.prog 61 9 = some (9, 59) := by kernel_rfl
attribute [simp] Tryz.underlying63
@[simp] theorem Tryz.size63 : sizeT Tryz.prog 63 = some 1 := by kernel_rfl
@[simp] theorem Tryz.bytes63 : bytesT Tryz.prog 63 = some 24 := by kernel_rfl
@[simp] theorem Tryz.agg63 : isAggT Tryz.prog 63 = some false := by kernel_rfl
@[simp] theorem Tryz.zero63 : zeroT Tryz.prog 63 = some [.nilslc] := by kernel_rfl
@[simp] theorem Tryz.elem63 : elemT Tryz.prog 63 = some 123 := by kernel_rfl
attribute [simp] Tryz.underlying65
@[simp] theorem Tryz.size65 : sizeT Tryz.prog 65 = some 11 := by kernel_rfl
@[simp] theorem Tryz.bytes65 : bytesT Tryz.prog 65 = some 144 := by kernel_rfl
@[simp] theorem Tryz.agg65 : isAggT Tryz.prog 65 = some true := by kernel_rfl
@[simp] theorem Tryz.zero65 : zeroT Tryz.prog 65 = some [.int .i64 0, .nilslc, .str [], .str [], .int .i64 0, .int .i64 0, .int .i64 0, .int .i64 0, .int .i64 0, .str [], .nilslc] := by kernel_rfl
@[simp] theorem Tryz.field65n0 : fieldT Tryz.prog 65 0 = some (0, 26) := by kernel_rfl
@[simp] theorem Tryz.field65n1 : fieldT Tryz.prog 65 1 = some (1, 63) := by kernel_rfl
@[simp] theorem Tryz.field65n2 : fieldT Tryz.prog 65 2 = some (2, 55) := by kernel_rfl
@[simp] theorem Tryz.field65n3 : fieldT Tryz.prog 65 3 = some (4, 3) := by kernel_rfl
@[simp] theorem Tryz.field65n4 : fieldT Tryz.prog 65 4 = some (5, 3) := by kernel_rfl
@[simp] theorem Tryz.field65n5 : fieldT Tryz.prog 65 5 = some (6, 3) := by kernel_rfl
@[simp] theorem Tryz.field65n6 : fieldT Tryz.prog 65 6 = some (7, 3) := by kernel_rfl
@[simp] theorem Tryz.field65n7 : fieldT Tryz.prog 65 7 = some (8, 3) := by kernel_rfl
@[simp] theorem Tryz.field65n8 : fieldT Tryz.prog 65 8 = some (9, 9) := by kernel_rfl
@[simp] theorem Tryz.field65n9 : fieldT Tryz.prog 65 9 = some (10, 29) := by kernel_rfl
attribute [simp] Tryz.underlying66
@[simp] theorem Tryz.size66 : sizeT Tryz.prog 66 = some 1 := by kernel_rfl
@[simp] theorem Tryz.bytes66 : bytesT Tryz.prog 66 = some 24 := by kernel_rfl
@[simp] theorem Tryz.agg66 : isAggT Tryz.prog 66 = some false := by kernel_rfl
@[simp] theorem Tryz.zero66 : zeroT Tryz.prog 66 = some [.nilslc] := by kernel_rfl
@[simp] theorem Tryz.elem66 : elemT Tryz.prog 66 = some 99 := by kernel_rfl
attribute [simp] Tryz.underlying72
@[simp] theorem Tryz.size72 : sizeT Tryz.prog 72 = some 21 := by kernel_rfl
@[simp] theorem Tryz.bytes72 : bytesT Tryz.prog 72 = some 264 := by kernel_rfl
@[simp] theorem Tryz.agg72 : isAggT Tryz.prog 72 = some true := by kernel_rfl
@[simp] theorem Tryz.zero72 : zeroT Tryz.prog 72 = some [.int .i64 0, .int .i64 0, .int .i64 0, .bool false, .str [], .nilslc, .int .i64 0, .int .i64 0, .nilslc, .int .i64 0, .int .i64 0, .nilslc, .str [], .str [], .int .i64 0, .int .i64 0, .int .i64 0, .int .i64 0, .int .i64 0, .str [], .nilslc] := by kernel_rfl
@[simp] theorem Tryz.field72n0 : fieldT Tryz.prog 72 0 = some (0, 3) := by kernel_rfl
@[simp] theorem Tryz.field72n1 : fieldT Tryz.prog 72 1 = some (1, 3) := by kernel_rfl
@[simp] theorem Tryz.field72n2 : fieldT Tryz.prog 72 2 = some (2, 3) := by kernel_rfl
@[simp] theorem Tryz.field72n3 : fieldT Tryz.prog 72 3 = some (3, 4) := by kernel_rfl
@[simp] theorem Tryz.field72n4 : fieldT Tryz.prog 72 4 = some (4, 9) := by kernel_rfl
@[simp] theorem Tryz.field72n5 : fieldT Tryz.prog 72 5 = some (5, 29) := by kernel_rfl
@[simp] theorem Tryz.field72n6 : fieldT Tryz.prog 72 6 = some (6, 3) := by kernel_rfl
@[simp] theorem Tryz.field72n7 : fieldT Tryz.prog 72 7 = some (7, 3) := by kernel_rfl
@[simp] theorem Tryz.field72n8 : fieldT Tryz.prog 72 8 = some (8, 66) := by kernel_rfl
@[simp] theorem Tryz.field72n9 : fieldT Tryz.prog 72 9 = some (9, 3) := by kernel_rfl
@[simp] theorem Tryz.field72n10 : fieldT Tryz.prog 72 10 = some (10, 65) := by kernel_rfl
attribute [simp] Tryz.underlying75
@[simp] theorem Tryz.size75 : sizeT Tryz.prog 75 = some 1 := by kernel_rfl
@[simp] theorem Tryz.bytes75 : bytesT Tryz.prog 75 = some 8 := by kernel_rfl
@[simp] theorem Tryz.agg75 : isAggT Tryz.prog 75 = some false := by kernel_rfl
@[simp] theorem Tryz.zero75 : zeroT Tryz.prog 75 = some [.nilptr] := by kernel_rfl
attribute [simp] Tryz.underlying77
@[simp] theorem Tryz.size77 : sizeT Tryz.prog 77 = some 30 := by kernel_rfl
@[simp] theorem Tryz.bytes77 : bytesT Tryz.prog 77 = some 360 := by kernel_rfl
@[simp] theorem Tryz.agg77 : isAggT Tryz.prog 77 = some true := by kernel_rfl
@[simp] theorem Tryz.zero77 : zeroT Tryz.prog 77 = some [.int .i64 0, .int .i64 0, .int .i64 0, .int .i64 0, .int .i64 0, .bool false, .int .i64 0, .str [], .str [], .bool false, .bool false, .str [], .int .i64 0, .nilslc, .flt 0, .nilslc, .int .i64 0, .nilslc, .int .i64 0, .int .i64 0, .nilslc, .str [], .str [], .int .i64 0, .int .i64 0, .int .i64 0, .int .i64 0, .int .i64 0, .str [], .nilslc] := by kernel_rfl
@[simp] theorem Tryz.field77n0 : fieldT Tryz.prog 77 0 = some (0, 3) := by kernel_rfl
@[simp] theorem Tryz.field77n1 : fieldT Tryz.prog 77 1 = some (1, 3) := by kernel_rfl
@[simp] theorem Tryz.field77n2 : fieldT Tryz.prog 77 2 = some (2, 3) := by kernel_rfl
@[simp] theorem Tryz.field77n3 : fieldT Tryz.prog 77 3 = some (3, 3) := by kernel_rfl
@[simp] theorem Tryz.field77n4 : fieldT Tryz.prog 77 4 = some (4, 3) := by kernel_rfl
@[simp] theorem Tryz.field77n5 : fieldT Tryz.prog 77 5 = some (5, 4) := by kernel_rfl
@[simp] theorem Tryz.field77n6 : fieldT Tryz.prog 77 6 = some (6, 37) := by kernel_rfl
@[simp] theorem Tryz.field77n7 : fieldT Tryz.prog 77 7 = some (17, 66) := by kernel_rfl
@[simp] theorem Tryz.field77n8 : fieldT Tryz.prog 77 8 = some (18, 3) := by kernel_rfl
@[simp] theorem Tryz.field77n9 : fieldT Tryz.prog 77 9 = some (19, 65) := by kernel_rfl
attribute [simp] Tryz.underlying82
@[simp] theorem Tryz.size82 : sizeT Tryz.prog 82 = some 1 := by kernel_rfl
@[simp] theorem Tryz.bytes82 : bytesT Tryz.prog 82 = some 24 := by kernel_rfl
@[simp] theorem Tryz.agg82 : isAggT Tryz.prog 82 = some false := by kernel_rfl
@[simp] theorem Tryz.zero82 : zeroT Tryz.prog 82 = some [.nilslc] := by kernel_rfl
@[simp] theorem Tryz.elem82 : elemT Tryz.prog 82 = some 26 := by kernel_rfl
attribute [simp] Tryz.underlying88
@[simp] theorem Tryz.size88 : sizeT Tryz.prog 88 = some 6 := by kernel_rfl
@[simp] theorem Tryz.bytes88 : bytesT Tryz.prog 88 = some 72 := by kernel_rfl
@[simp] theorem Tryz.agg88 : isAggT Tryz.prog 88 = some true := by kernel_rfl
@[simp] theorem Tryz.zero88 : zeroT Tryz.prog 88 = some [.int .i64 0, .str [], .int .i64 0, .int .i64 0, .nilslc, .flt 0] := by kernel_rfl
@[simp] theorem Tryz.field88n0 : fieldT Tryz.prog 88 0 = some (0, 3) := by kernel_rfl
@[simp] theorem Tryz.field88n1 : fieldT Tryz.prog 88 1 = some (1, 9) := by kernel_rfl
@[simp] theorem Tryz.field88n2 : fieldT Tryz.prog 88 2 = some (2, 2) := by kernel_rfl
@[simp] theorem Tryz.field88n3 : fieldT Tryz.prog 88 3 = some (3, 32) := by kernel_rfl
attribute [simp] Tryz.underlying91
@[simp] theorem Tryz.size91 : sizeT Tryz.prog 91 = some 1 := by kernel_rfl
@[simp] theorem Tryz.bytes91 : bytesT Tryz.prog 91 = some 24 := by kernel_rfl
@[simp] theorem Tryz.agg91 : isAggT Tryz.prog 91 = some false := by kernel_rfl
@[simp] theorem Tryz.zero91 : zeroT Tryz.prog 91 = some [.nilslc] := by kernel_rfl
@[simp] theorem Tryz.elem91 : elemT Tryz.prog 91 = some 4 := by kernel_rfl
attribute [simp] Tryz.underlying99
@[simp] theorem Tryz.size99 : sizeT Tryz.prog 99 = some 4 := by kernel_rfl
@[simp] theorem Tryz.bytes99 : bytesT Tryz.prog 99 = some 48 := by kernel_rfl
@[simp] theorem Tryz.agg99 : isAggT Tryz.prog 99 = some true := by kernel_rfl
@[simp] theorem Tryz.zero99 : zeroT Tryz.prog 99 = some [.str [], .str [], .int .i64 0, .int .i64 0] := by kernel_rfl
@[simp] theorem Tryz.field99n0 : fieldT Tryz.prog 99 0 = some (0, 55) := by kernel_rfl
@[simp] theorem Tryz.field99n1 : fieldT Tryz.prog 99 1 = some (2, 3) := by kernel_rfl
@[simp] theorem Tryz.field99n2 : fieldT Tryz.prog 99 2 = some (3, 3) := by kernel_rfl
attribute [simp] Tryz.underlying105
@[simp] theorem Tryz.size105 : sizeT Tryz.prog 105 = some 1 := by kernel_rfl
@[simp] theorem Tryz.bytes105 : bytesT Tryz.prog 105 = some 8 := by kernel_rfl
@[simp] theorem Tryz.agg105 : isAggT Tryz.prog 105 = some false := by kernel_rfl
@[simp] theorem Tryz.zero105 : zeroT Tryz.prog 105 = some [.nilptr] := by kernel_rfl
attribute [simp] Tryz.underlying111
@[simp] theorem Tryz.size111 : sizeT Tryz.prog 111 = some 1 := by kernel_rfl
@[simp] theorem Tryz.bytes111 : bytesT Tryz.prog 111 = some 4 := by kernel_rfl
@[simp] theorem Tryz.agg111 : isAggT Tryz.prog 111 = some false := by kernel_rfl
@[simp] theorem Tryz.zero111 : zeroT Tryz.prog 111 = some [.int .u32 0] := by kernel_rfl
attribute [simp] Tryz.underlying119
@[simp] theorem Tryz.size119 : sizeT Tryz.prog 119 = some 1 := by kernel_rfl
@[simp] theorem Tryz.bytes119 : bytesT Tryz.prog 119 = some 24 := by kernel_rfl
@[simp] theorem Tryz.agg119 : isAggT Tryz.prog 119 = some false := by kernel_rfl
@[simp] theorem Tryz.zero119 : zeroT Tryz.prog 119 = some [.nilslc] := by kernel_rfl
@[simp] theorem Tryz.elem119 : elemT Tryz.prog 119 = some 173 := by kernel_rfl
attribute [simp] Tryz.underlying121
@[simp] theorem Tryz.size121 : sizeT Tryz.prog 121 = some 1 := by kernel_rfl
@[simp] theorem Tryz.bytes121 : bytesT Tryz.prog 121 = some 24 := by kernel_rfl
@[simp] theorem Tryz.agg121 : isAggT Tryz.prog 121 = some true := by kernel_rfl
@[simp] theorem Tryz.zero121 : zeroT Tryz.prog 121 = some [.nilslc] := by kernel_rfl
@[simp] theorem Tryz.field121n0 : fieldT Tryz.prog 121 0 = some (0, 119) := by kernel_rfl
attribute [simp] Tryz.underlying123
@[simp] theorem Tryz.size123 : sizeT Tryz.prog 123 = some 2 := by kernel_rfl
@[simp] theorem Tryz.bytes123 : bytesT Tryz.prog 123 = some 40 := by kernel_rfl
@[simp] theorem Tryz.agg123 : isAggT Tryz.prog 123 = some true := by kernel_rfl
@[simp] theorem Tryz.zero123 : zeroT Tryz.prog 123 = some [.str [], .nilslc] := by kernel_rfl
@[simp] theorem Tryz.field123n0 : fieldT Tryz.prog 123 0 = some (0, 9) := by kernel_rfl
@[simp] theorem Tryz.field123n1 : fieldT Tryz.prog 123 1 = some (1, 121) := by kernel_rfl
attribute [simp] Tryz.underlying126
@[simp] theorem Tryz.size126 : sizeT Tryz.prog 126 = some 1 := by kernel_rfl
@[simp] theorem Tryz.bytes126 : bytesT Tryz.prog 126 = some 24 := by kernel_rfl
@[simp] theorem Tryz.agg126 : isAggT Tryz.prog 126 = some false := by kernel_rfl
@[simp] theorem Tryz.zero126 : zeroT Tryz.prog 126 = some [.nilslc] := by kernel_rfl
@[simp] theorem Tryz.elem126 : elemT Tryz.prog 126 = some 9 := by kernel_rfl
attribute [simp] Tryz.underlying129
@[simp] theorem Tryz.size129 : sizeT Tryz.prog 129 = some 7 := by kernel_rfl
@[simp] theorem Tryz.bytes129 : bytesT Tryz.prog 129 = some 72 := by kernel_rfl
@[simp] theorem Tryz.agg129 : isAggT Tryz.prog 129 = some true := by kernel_rfl
@[simp] theorem Tryz.zero129 : zeroT Tryz.prog 129 = some [.int .i64 0, .int .i64 0, .int .i64 0, .bool false, .int .i64 0, .flt 0, .nilslc] := by kernel_rfl
@[simp] theorem Tryz.field129n0 : fieldT Tryz.prog 129 0 = some (0, 3) := by kernel_rfl
@[simp] theorem Tryz.field129n1 : fieldT Tryz.prog 129 1 = some (1, 3) := by kernel_rfl
@[simp] theorem Tryz.field129n2 : fieldT Tryz.prog 129 2 = some (2, 2) := by kernel_rfl
@[simp] theorem Tryz.field129n3 : fieldT Tryz.prog 129 3 = some (3, 41) := by kernel_rfl
attribute [simp] Tryz.underlying139
@[simp] theorem Tryz.size139 : sizeT Tryz.prog 139 = some 3 := by kernel_rfl
@[simp] theorem Tryz.bytes139 : bytesT Tryz.prog 139 = some 40 := by kernel_rfl
@[simp] theorem Tryz.agg139 : isAggT Tryz.prog 139 = some true := by kernel_rfl
@[simp] theorem Tryz.zero139 : zeroT Tryz.prog 139 = some [.int .i64 0, .int .i64 0, .nilslc] := by kernel_rfl
@[simp] theorem Tryz.field139n0 : fieldT Tryz.prog 139 0 = some (0, 3) := by kernel_rfl
@[simp] theorem Tryz.field139n1 : fieldT Tryz.prog 139 1 = some (1, 3) := by kernel_rfl
@[simp] theorem Tryz.field139n2 : fieldT Tryz.prog 139 2 = some (2, 29) := by kernel_rfl
attribute [simp] Tryz.underlying142
@[simp] theorem Tryz.size142 : sizeT Tryz.prog 142 = some 1 := by kernel_rfl
@[simp] theorem Tryz.bytes142 : bytesT Tryz.prog 142 = some 8 := by kernel_rfl
@[simp] theorem Tryz.agg142 : isAggT Tryz.prog 142 = some false := by kernel_rfl
@[simp] theorem Tryz.zero142 : zeroT Tryz.prog 142 = some [.nilptr] := by kernel_rfl
attribute [simp] Tryz.underlying162
@[simp] theorem Tryz.size162 : sizeT Tryz.prog 162 = some 1 := by kernel_rfl
@[simp] theorem Tryz.bytes162 : bytesT Tryz.prog 162 = some 24 := by kernel_rfl
@[simp] theorem Tryz.agg162 : isAggT Tryz.prog 162 = some true := by kernel_rfl
@[simp] theorem Tryz.zero162 : zeroT Tryz.prog 162 = some [.nilslc] := by kernel_rfl
@[simp] theorem Tryz.field162n0 : fieldT Tryz.prog 162 0 = some (0, 29) := by kernel_rfl
attribute [simp] Tryz.underlying166
@[simp] theorem Tryz.size166 : sizeT Tryz.prog 166 = some 1 := by kernel_rfl
@[simp] theorem Tryz.bytes166 : bytesT Tryz.prog 166 = some 8 := by kernel_rfl
@[simp] theorem Tryz.agg166 : isAggT Tryz.prog 166 = some false := by kernel_rfl
@[simp] theorem Tryz.zero166 : zeroT Tryz.prog 166 = some [.int .u64 0] := by kernel_rfl
attribute [simp] Tryz.underlying171
@[simp] theorem Tryz.size171 : sizeT Tryz.prog 171 = some 1 := by kernel_rfl
@[simp] theorem Tryz.bytes171 : bytesT Tryz.prog 171 = some 24 := by kernel_rfl
@[simp] theorem Tryz.agg171 : isAggT Tryz.prog 171 = some false := by kernel_rfl
@[simp] theorem Tryz.zero171 : zeroT Tryz.prog 171 = some [.nilslc] := by kernel_rfl
@[simp] theorem Tryz.elem171 : elemT Tryz.prog 171 = some 175 := by kernel_rfl
attribute [simp] Tryz.underlying173
@[simp] theorem Tryz.size173 : sizeT Tryz.prog 173 = some 2 := by kernel_rfl
@[simp] theorem Tryz.bytes173 : bytesT Tryz.prog 173 = some 40 := by kernel_rfl
@[simp] theorem Tryz.agg173 : isAggT Tryz.prog 173 = some true := by kernel_rfl
@[simp] theorem Tryz.zero173 : zeroT Tryz.prog 173 = some [.str [], .nilslc] := by kernel_rfl
@[simp] theorem Tryz.field173n0 : fieldT Tryz.prog 173 0 = some (0, 9) := by kernel_rfl
@[simp] theorem Tryz.field173n1 : fieldT Tryz.prog 173 1 = some (1, 171) := by kernel_rfl
attribute [simp] Tryz.underlying175
@[simp] theorem Tryz.size175 : sizeT Tryz.prog 175 = some 4 := by kernel_rfl
@[simp] theorem Tryz.bytes175 : bytesT Tryz.prog 175 = some 48 := by kernel_rfl
@[simp] theorem Tryz.agg175 : isAggT Tryz.prog 175 = some true := by kernel_rfl
@[simp] theorem Tryz.zero175 : zeroT Tryz.prog 175 = some [.int .i64 0, .int .i64 0, .nilslc, .flt 0] := by kernel_rfl
@[simp] theorem Tryz.field175n0 : fieldT Tryz.prog 175 0 = some (0, 2) := by kernel_rfl
@[simp] theorem Tryz.field175n1 : fieldT Tryz.prog 175 1 = some (1, 32) := by kernel_rfl
attribute [simp] Tryz.underlying183
@[simp] theorem Tryz.size183 : sizeT Tryz.prog 183 = some 1 := by kernel_rfl
@[simp] theorem Tryz.bytes183 : bytesT Tryz.prog 183 = some 8 := by kernel_rfl
@[simp] theorem Tryz.agg183 : isAggT Tryz.prog 183 = some false := by kernel_rfl
@[simp] theorem Tryz.zero183 : zeroT Tryz.prog 183 = some [.int .u64 0] := by kernel_rfl
attribute [simp] Tryz.underlying184
@[simp] theorem Tryz.size184 : sizeT Tryz.prog 184 = some 1 := by kernel_rfl
@[simp] theorem Tryz.bytes184 : bytesT Tryz.prog 184 = some 24 := by kernel_rfl
@[simp] theorem Tryz.agg184 : isAggT Tryz.prog 184 = some true := by kernel_rfl
@[simp] theorem Tryz.zero184 : zeroT Tryz.prog 184 = some [.nilslc] := by kernel_rfl
@[simp] theorem Tryz.field184n0 : fieldT Tryz.prog 184 0 = some (0, 29) := by kernel_rfl
attribute [simp] Tryz.underlying210
@[simp] theorem Tryz.size210 : sizeT Tryz.prog 210 = some 1 := by kernel_rfl
@[simp] theorem Tryz.bytes210 : bytesT Tryz.prog 210 = some 8 := by kernel_rfl
@[simp] theorem Tryz.agg210 : isAggT Tryz.prog 210 = some false := by kernel_rfl
@[simp] theorem Tryz.zero210 : zeroT Tryz.prog 210 = some [.int .i64 0] := by kernel_rfl
attribute [simp] Tryz.underlying226
@[simp] theorem Tryz.size226 : sizeT Tryz.prog 226 = some 1 := by kernel_rfl
@[simp] theorem Tryz.bytes226 : bytesT Tryz.prog 226 = some 8 := by kernel_rfl
@[simp] theorem Tryz.agg226 : isAggT Tryz.prog 226 = some false := by kernel_rfl
@[simp] theorem Tryz.zero226 : zeroT Tryz.prog 226 = some [.int .u64 0] := by kernel_rfl
attribute [simp] Tryz.underlying229
@[simp] theorem Tryz.size229 : sizeT Tryz.prog 229 = some 1 := by kernel_rfl
@[simp] theorem Tryz.bytes229 : bytesT Tryz.prog 229 = some 8 := by kernel_rfl
@[simp] theorem Tryz.agg229 : isAggT Tryz.prog 229 = some false := by kernel_rfl
@[simp] theorem Tryz.zero229 : zeroT Tryz.prog 229 = some [.nilptr] := by kernel_rfl
attribute [simp] Tryz.underlying232
@[simp] theorem Tryz.size232 : sizeT Tryz.prog 232 = some 1 := by kernel_rfl
@[simp] theorem Tryz.bytes232 : bytesT Tryz.prog 232 = some 8 := by kernel_rfl
@[simp] theorem Tryz.agg232 : isAggT Tryz.prog 232 = some false := by kernel_rfl
@[simp] theorem Tryz.zero232 : zeroT Tryz.prog 232 = some [.nilptr] := by kernel_rfl
end Go.Proofs.YtmhbdpgflomihaaGreat
