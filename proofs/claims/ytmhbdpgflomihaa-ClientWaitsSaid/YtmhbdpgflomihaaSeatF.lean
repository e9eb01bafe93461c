/- A part of a proof over the abstract machine. No conditions. -/
import Derived.Test.YtmhbdpgflomihaaAb3
import Derived.Test.YtmhbdpgflomihaaRows
/- the program's types, looked up -/
namespace Go.Proofs.Ytmhbdpgflomihaa
open Go Go.Ab
theorem Try.tyCount : Try.prog.types.size = 166 := by kernel_rfl
attribute [simp] Try.tyCount
attribute [simp] Try.underlying2
@[simp] theorem Try.size2 : sizeT Try.prog 2 = some 1 := by kernel_rfl
@[simp] theorem Try.bytes2 : bytesT Try.prog 2 = some 8 := by kernel_rfl
@[simp] theorem Try.agg2 : isAggT Try.prog 2 = some false := by kernel_rfl
@[simp] theorem Try.zero2 : zeroT Try.prog 2 = some [.int .i64 0] := by kernel_rfl
attribute [simp] Try.underlying3
@[simp] theorem Try.size3 : sizeT Try.prog 3 = some 1 := by kernel_rfl
@[simp] theorem Try.bytes3 : bytesT Try.prog 3 = some 8 := by kernel_rfl
@[simp] theorem Try.agg3 : isAggT Try.prog 3 = some false := by kernel_rfl
@[simp] theorem Try.zero3 : zeroT Try.prog 3 = some [.int .i64 0] := by kernel_rfl
attribute [simp] Try.underlying4
@[simp] theorem Try.size4 : sizeT Try.prog 4 = some 1 := by kernel_rfl
@[simp] theorem Try.bytes4 : bytesT Try.prog 4 = some 1 := by kernel_rfl
@[simp] theorem Try.agg4 : isAggT Try.prog 4 = some false := by kernel_rfl
@[simp] theorem Try.zero4 : zeroT Try.prog 4 = some [.bool false] := by kernel_rfl
attribute [simp] Try.underlying5
@[simp] theorem Try.size5 : sizeT Try.prog 5 = some 1 := by kernel_rfl
@[simp] theorem Try.bytes5 : bytesT Try.prog 5 = some 1 := by kernel_rfl
@[simp] theorem Try.agg5 : isAggT Try.prog 5 = some false := by kernel_rfl
@[simp] theorem Try.zero5 : zeroT Try.prog 5 = some [.int .u8 0] := by kernel_rfl
attribute [simp] Try.underlying9
@[simp] theorem Try.size9 : sizeT Try.prog 9 = some 1 := by kernel_rfl
@[simp] theorem Try.bytes9 : bytesT Try.prog 9 = some 16 := by kernel_rfl
@[simp] theorem Try.agg9 : isAggT Try.prog 9 = some false := by kernel_rfl
@[simp] theorem Try.zero9 : zeroT Try.prog 9 = some [.str []] := by kernel_rfl
attribute [simp] Try.underlying22
@[simp] theorem Try.size22 : sizeT Try.prog 22 = some 1 := by kernel_rfl
@[simp] theorem Try.bytes22 : bytesT Try.prog 22 = some 8 := by kernel_rfl
@[simp] theorem Try.agg22 : isAggT Try.prog 22 = some false := by kernel_rfl
@[simp] theorem Try.zero22 : zeroT Try.prog 22 = some [.flt 0] := by kernel_rfl
attribute [simp] Try.underlying23
@[simp] theorem Try.size23 : sizeT Try.prog 23 = some 1 := by kernel_rfl
@[simp] theorem Try.bytes23 : bytesT Try.prog 23 = some 24 := by kernel_rfl
@[simp] theorem Try.agg23 : isAggT Try.prog 23 = some false := by kernel_rfl
@[simp] theorem Try.zero23 : zeroT Try.prog 23 = some [.nilslc] := by kernel_rfl
@[simp] theorem Try.elem23 : elemT Try.prog 23 = some 5 := by kernel_rfl
attribute [simp] Try.underlying25
@[simp] theorem Try.size25 : sizeT Try.prog 25 = some 4 := by kernel_rfl
@[simp] theorem Try.bytes25 : bytesT Try.prog 25 = some 48 := by kernel_rfl
@[simp] theorem Try.agg25 : isAggT Try.prog 25 = some true := by kernel_rfl
@[simp] theorem Try.zero25 : zeroT Try.prog 25 = some [.bool false, .int .i64 0, .flt 0, .nilslc] := by kernel_rfl
@[simp] theorem Try.field25n0 : fieldT Try.prog 25 0 = some (0, 4) := by kernel_rfl
@[simp] theorem Try.field25n1 : fieldT Try.prog 25 1 = some (1, 3) := by kernel_rfl
@[simp] theorem Try.field25n2 : fieldT Try.prog 25 2 = some (2, 22) := by kernel_rfl
@[simp] theorem Try.field25n3 : fieldT Try.prog 25 3 = some (3, 23) := by kernel_rfl
attribute [simp] Try.underlying26
@[simp] theorem Try.size26 : sizeT Try.prog 26 = some 1 := by kernel_rfl
@[simp] theorem Try.bytes26 : bytesT Try.prog 26 = some 24 := by kernel_rfl
@[simp] theorem Try.agg26 : isAggT Try.prog 26 = some false := by kernel_rfl
@[simp] theorem Try.zero26 : zeroT Try.prog 26 = some [.nilslc] := by kernel_rfl
@[simp] theorem Try.elem26 : elemT Try.prog 26 = some 86 := by kernel_rfl
attribute [simp] Try.underlying28
@[simp] theorem Try.size28 : sizeT Try.prog 28 = some 12 := by kernel_rfl
@[simp] theorem Try.bytes28 : bytesT Try.prog 28 = some 120 := by kernel_rfl
@[simp] theorem Try.agg28 : isAggT Try.prog 28 = some true := by kernel_rfl
@[simp] theorem Try.zero28 : zeroT Try.prog 28 = some [.int .i64 0, .int .i64 0, .int .i64 0, .int .i64 0, .int .i64 0, .bool false, .bool false, .bool false, .int .i64 0, .flt 0, .nilslc, .nilslc] := by kernel_rfl
@[simp] theorem Try.field28n0 : fieldT Try.prog 28 0 = some (0, 3) := by kernel_rfl
@[simp] theorem Try.field28n1 : fieldT Try.prog 28 1 = some (1, 3) := by kernel_rfl
@[simp] theorem Try.field28n2 : fieldT Try.prog 28 2 = some (2, 3) := by kernel_rfl
@[simp] theorem Try.field28n3 : fieldT Try.prog 28 3 = some (3, 3) := by kernel_rfl
@[simp] theorem Try.field28n4 : fieldT Try.prog 28 4 = some (4, 3) := by kernel_rfl
@[simp] theorem Try.field28n5 : fieldT Try.prog 28 5 = some (5, 4) := by kernel_rfl
@[simp] theorem Try.field28n6 : fieldT Try.prog 28 6 = some (6, 4) := by kernel_rfl
@[simp] theorem Try.field28n7 : fieldT Try.prog 28 7 = some (7, 25) := by kernel_rfl
@[simp] theorem Try.field28n8 : fieldT Try.prog 28 8 = some (11, 26) := by kernel_rfl
attribute [simp] Try.underlying30
@[simp] theorem Try.size30 : sizeT Try.prog 30 = some 1 := by kernel_rfl
@[simp] theorem Try.bytes30 : bytesT Try.prog 30 = some 8 := by kernel_rfl
@[simp] theorem Try.agg30 : isAggT Try.prog 30 = some false := by kernel_rfl
@[simp] theorem Try.zero30 : zeroT Try.prog 30 = some [.nilptr] := by kernel_rfl
attribute [simp] Try.underlying32
@[simp] theorem Try.size32 : sizeT Try.prog 32 = some 1 := by kernel_rfl
@[simp] theorem Try.bytes32 : bytesT Try.prog 32 = some 8 := by kernel_rfl
@[simp] theorem Try.agg32 : isAggT Try.prog 32 = some false := by kernel_rfl
@[simp] theorem Try.zero32 : zeroT Try.prog 32 = some [.int .i64 0] := by kernel_rfl
attribute [simp] Try.underlying36
@[simp] theorem Try.size36 : sizeT Try.prog 36 = some 3 := by kernel_rfl
@[simp] theorem Try.bytes36 : bytesT Try.prog 36 = some 40 := by kernel_rfl
@[simp] theorem Try.agg36 : isAggT Try.prog 36 = some true := by kernel_rfl
@[simp] theorem Try.zero36 : zeroT Try.prog 36 = some [.int .i64 0, .nilslc, .flt 0] := by kernel_rfl
@[simp] theorem Try.field36n0 : fieldT Try.prog 36 0 = some (0, 3) := by kernel_rfl
@[simp] theorem Try.field36n1 : fieldT Try.prog 36 1 = some (1, 23) := by kernel_rfl
@[simp] theorem Try.field36n2 : fieldT Try.prog 36 2 = some (2, 22) := by kernel_rfl
attribute [simp] Try.underlying38
@[simp] theorem Try.size38 : sizeT Try.prog 38 = some 6 := by kernel_rfl
@[simp] theorem Try.bytes38 : bytesT Try.prog 38 = some 64 := by kernel_rfl
@[simp] theorem Try.agg38 : isAggT Try.prog 38 = some true := by kernel_rfl
@[simp] theorem Try.zero38 : zeroT Try.prog 38 = some [.bool false, .bool false, .str [], .int .i64 0, .nilslc, .flt 0] := by kernel_rfl
@[simp] theorem Try.field38n0 : fieldT Try.prog 38 0 = some (0, 4) := by kernel_rfl
@[simp] theorem Try.field38n1 : fieldT Try.prog 38 1 = some (1, 4) := by kernel_rfl
@[simp] theorem Try.field38n2 : fieldT Try.prog 38 2 = some (2, 9) := by kernel_rfl
@[simp] theorem Try.field38n3 : fieldT Try.prog 38 3 = some (3, 36) := by kernel_rfl
attribute [simp] Try.underlying39
@[simp] theorem Try.size39 : sizeT Try.prog 39 = some 1 := by kernel_rfl
@[simp] theorem Try.bytes39 : bytesT Try.prog 39 = some 24 := by kernel_rfl
@[simp] theorem Try.agg39 : isAggT Try.prog 39 = some false := by kernel_rfl
@[simp] theorem Try.zero39 : zeroT Try.prog 39 = some [.nilslc] := by kernel_rfl
@[simp] theorem Try.elem39 : elemT Try.prog 39 = some 66 := by kernel_rfl
attribute [simp] Try.underlying41
@[simp] theorem Try.size41 : sizeT Try.prog 41 = some 11 := by kernel_rfl
@[simp] theorem Try.bytes41 : bytesT Try.prog 41 = some 136 := by kernel_rfl
@[simp] theorem Try.agg41 : isAggT Try.prog 41 = some true := by kernel_rfl
@[simp] theorem Try.zero41 : zeroT Try.prog 41 = some [.int .i64 0, .str [], .str [], .bool false, .bool false, .str [], .int .i64 0, .nilslc, .flt 0, .nilslc, .int .i64 0] := by kernel_rfl
@[simp] theorem Try.field41n0 : fieldT Try.prog 41 0 = some (0, 3) := by kernel_rfl
@[simp] theorem Try.field41n1 : fieldT Try.prog 41 1 = some (1, 9) := by kernel_rfl
@[simp] theorem Try.field41n2 : fieldT Try.prog 41 2 = some (2, 9) := by kernel_rfl
@[simp] theorem Try.field41n3 : fieldT Try.prog 41 3 = some (3, 38) := by kernel_rfl
@[simp] theorem Try.field41n4 : fieldT Try.prog 41 4 = some (9, 39) := by kernel_rfl
@[simp] theorem Try.field41n5 : fieldT Try.prog 41 5 = some (10, 3) := by kernel_rfl
attribute [simp] Try.underlying43
@[simp] theorem Try.size43 : sizeT Try.prog 43 = some 1 := by kernel_rfl
@[simp] theorem Try.bytes43 : bytesT Try.prog 43 = some 24 := by kernel_rfl
@[simp] theorem Try.agg43 : isAggT Try.prog 43 = some false := by kernel_rfl
@[simp] theorem Try.zero43 : zeroT Try.prog 43 = some [.nilslc] := by kernel_rfl
@[simp] theorem Try.elem43 : elemT Try.prog 43 = some 48 := by kernel_rfl
attribute [simp] Try.underlying46
@[simp] theorem Try.size46 : sizeT Try.prog 46 = some 1 := by kernel_rfl
@[simp] theorem Try.bytes46 : bytesT Try.prog 46 = some 24 := by kernel_rfl
@[simp] theorem Try.agg46 : isAggT Try.prog 46 = some false := by kernel_rfl
@[simp] theorem Try.zero46 : zeroT Try.prog 46 = some [.nilslc] := by kernel_rfl
@[simp] theorem Try.elem46 : elemT Try.prog 46 = some 69 := by kernel_rfl
attribute [simp] Try.underlying48
@[simp] theorem Try.size48 : sizeT Try.prog 48 = some 10 := by kernel_rfl
@[simp] theorem Try.bytes48 : bytesT Try.prog 48 = some 112 := by kernel_rfl
@[simp] theorem Try.agg48 : isAggT Try.prog 48 = some true := by kernel_rfl
@[simp] theorem Try.zero48 : zeroT Try.prog 48 = some [.int .i64 0, .int .i64 0, .int .i64 0, .int .i64 0, .int .i64 0, .int .i64 0, .int .i64 0, .int .i64 0, .nilslc, .nilslc] := by kernel_rfl
@[simp] theorem Try.field48n0 : fieldT Try.prog 48 0 = some (0, 3) := by kernel_rfl
@[simp] theorem Try.field48n1 : fieldT Try.prog 48 1 = some (1, 3) := by kernel_rfl
@[simp] theorem Try.field48n2 : fieldT Try.prog 48 2 = some (2, 3) := by kernel_rfl
@[simp] theorem Try.field48n3 : fieldT Try.prog 48 3 = some (3, 3) := by kernel_rfl
@[simp] theorem Try.field48n4 : fieldT Try.prog 48 4 = some (4, 3) := by kernel_rfl
@[simp] theorem Try.field48n5 : fieldT Try.prog 48 5 = some (5, 3) := by kernel_rfl
@[simp] theorem Try.field48n6 : fieldT Try.prog 48 6 = some (6, 3) := by kernel_rfl
@[simp] theorem Try.field48n7 : fieldT Try.prog 48 7 = some (7, 3) := by kernel_rfl
@[simp] theorem Try.field48n8 : fieldT Try.prog 48 8 = some (8, 23) := by kernel_rfl
@[simp] theorem Try.field48n9 : fieldT Try.prog 48 9 = some (9, 46) := by kernel_rfl
attribute [simp] Try.underlying51
@[simp] theorem Try.size51 : sizeT Try.prog 51 = some 1 := by kernel_rfl
@[simp] theorem Try.bytes51 : bytesT Try.prog 51 = some 24 := by kernel_rfl
@[simp] theorem Try.agg51 : isAggT Try.prog 51 = some false := by kernel_rfl
@[simp] theorem Try.zero51 : zeroT Try.prog 51 = some [.nilslc] := by kernel_rfl
@[simp] theorem Try.elem51 : elemT Try.prog 51 = some 92 := by kernel_rfl
attribute [simp] Try.underlying52
@[simp] theorem Try.size52 : sizeT Try.prog 52 = some 1 := by kernel_rfl
@[simp] theorem Try.bytes52 : bytesT Try.prog 52 = some 24 := by kernel_rfl
@[simp] theorem Try.agg52 : isAggT Try.prog 52 = some false := by kernel_rfl
@[simp] theorem Try.zero52 : zeroT Try.prog 52 = some [.nilslc] := by kernel_rfl
@[simp] theorem Try.elem52 : elemT Try.prog 52 = some 159 := by kernel_rfl
attribute [simp] Try.underlying54
@[simp] theorem Try.size54 : sizeT Try.prog 54 = some 2 := by kernel_rfl
@[simp] theorem Try.bytes54 : bytesT Try.prog 54 = some 32 := by kernel_rfl
@[simp] theorem Try.agg54 : isAggT Try.prog 54 = some true := by kernel_rfl
@[simp] theorem Try.zero54 : zeroT Try.prog 54 = some [.str [], .str []] := by kernel_rfl
@[simp] theorem Try.field54n0 : fieldT Try.prog 54 0 = some (0, 9) := by kernel_rfl
@[simp] theorem Try.field54n1 : fieldT Try.prog 54 1 = some (1, 9) := by kernel_rfl
attribute [simp] Try.underlying56
@[simp] theorem Try.size56 : sizeT Try.prog 56 = some 11 := by kernel_rfl
@[simp] theorem Try.bytes56 : bytesT Try.prog 56 = some 144 := by kernel_rfl
@[simp] theorem Try.agg56 : isAggT Try.prog 56 = some true := by kernel_rfl
@[simp] theorem Try.zero56 : zeroT Try.prog 56 = some [.int .i64 0, .nilslc, .str [], .str [], .int .i64 0, .int .i64 0, .int .i64 0, .int .i64 0, .int .i64 0, .str [], .nilslc] := by kernel_rfl
@[simp] theorem Try.field56n0 : fieldT Try.prog 56 0 = some (0, 32) := by kernel_rfl
@[simp] theorem Try.field56n1 : fieldT Try.prog 56 1 = some (1, 52) := by kernel_rfl
@[simp] theorem Try.field56n2 : fieldT Try.prog 56 2 = some (2, 54) := by kernel_rfl
@[simp] theorem Try.field56n3 : fieldT Try.prog 56 3 = some (4, 3) := by kernel_rfl
@[simp] theorem Try.field56n4 : fieldT Try.prog 56 4 = some (5, 3) := by kernel_rfl
@[simp] theorem Try.field56n5 : fieldT Try.prog 56 5 = some (6, 3) := by kernel_rfl
@[simp] theorem Try.field56n6 : fieldT Try.prog 56 6 = some (7, 3) := by kernel_rfl
@[simp] theorem Try.field56n7 : fieldT Try.prog 56 7 = some (8, 3) := by kernel_rfl
@[simp] theorem Try.field56n8 : fieldT Try.prog 56 8 = some (9, 9) := by kernel_rfl
@[simp] theorem Try.field56n9 : fieldT Try.prog 56 9 = some (10, 23) := by kernel_rfl
attribute [simp] Try.underlying58
@[simp] theorem Try.size58 : sizeT Try.prog 58 = some 21 := by kernel_rfl
@[simp] theorem Try.bytes58 : bytesT Try.prog 58 = some 264 := by kernel_rfl
@[simp] theorem Try.agg58 : isAggT Try.prog 58 = some true := by kernel_rfl
@[simp] theorem Try.zero58 : zeroT Try.prog 58 = some [.int .i64 0, .int .i64 0, .int .i64 0, .bool false, .str [], .nilslc, .int .i64 0, .int .i64 0, .nilslc, .int .i64 0, .int .i64 0, .nilslc, .str [], .str [], .int .i64 0, .int .i64 0, .int .i64 0, .int .i64 0, .int .i64 0, .str [], .nilslc] := by kernel_rfl
@[simp] theorem Try.field58n0 : fieldT Try.prog 58 0 = some (0, 3) := by kernel_rfl
@[simp] theorem Try.field58n1 : fieldT Try.prog 58 1 = some (1, 3) := by kernel_rfl
@[simp] theorem Try.field58n2 : fieldT Try.prog 58 2 = some (2, 3) := by kernel_rfl
@[simp] theorem Try.field58n3 : fieldT Try.prog 58 3 = some (3, 4) := by kernel_rfl
@[simp] theorem Try.field58n4 : fieldT Try.prog 58 4 = some (4, 9) := by kernel_rfl
@[simp] theorem Try.field58n5 : fieldT Try.prog 58 5 = some (5, 23) := by kernel_rfl
@[simp] theorem Try.field58n6 : fieldT Try.prog 58 6 = some (6, 3) := by kernel_rfl
@[simp] theorem Try.field58n7 : fieldT Try.prog 58 7 = some (7, 3) := by kernel_rfl
@[simp] theorem Try.field58n8 : fieldT Try.prog 58 8 = some (8, 51) := by kernel_rfl
@[simp] theorem Try.field58n9 : fieldT Try.prog 58 9 = some (9, 3) := by kernel_rfl
@[simp] theorem Try.field58n10 : fieldT Try.prog 58 10 = some (10, 56) := by kernel_rfl
attribute [simp] Try.underlying62
@[simp] theorem Try.size62 : sizeT Try.prog 62 = some 19 := by kernel_rfl
@[simp] theorem Try.bytes62 : bytesT Try.prog 62 = some 240 := by kernel_rfl
@[simp] theorem Try.agg62 : isAggT Try.prog 62 = some true := by kernel_rfl
@[simp] theorem Try.zero62 : zeroT Try.prog 62 = some [.int .i64 0, .int .i64 0, .str [], .str [], .bool false, .bool false, .str [], .int .i64 0, .nilslc, .flt 0, .nilslc, .int .i64 0, .str [], .str [], .int .i64 0, .str [], .int .i64 0, .int .i64 0, .nilslc] := by kernel_rfl
@[simp] theorem Try.field62n0 : fieldT Try.prog 62 0 = some (0, 3) := by kernel_rfl
@[simp] theorem Try.field62n1 : fieldT Try.prog 62 1 = some (1, 41) := by kernel_rfl
@[simp] theorem Try.field62n2 : fieldT Try.prog 62 2 = some (12, 54) := by kernel_rfl
@[simp] theorem Try.field62n3 : fieldT Try.prog 62 3 = some (14, 3) := by kernel_rfl
@[simp] theorem Try.field62n4 : fieldT Try.prog 62 4 = some (15, 9) := by kernel_rfl
@[simp] theorem Try.field62n5 : fieldT Try.prog 62 5 = some (16, 3) := by kernel_rfl
@[simp] theorem Try.field62n6 : fieldT Try.prog 62 6 = some (17, 3) := by kernel_rfl
@[simp] theorem Try.field62n7 : fieldT Try.prog 62 7 = some (18, 23) := by kernel_rfl
attribute [simp] Try.underlying66
@[simp] theorem Try.size66 : sizeT Try.prog 66 = some 6 := by kernel_rfl
@[simp] theorem Try.bytes66 : bytesT Try.prog 66 = some 72 := by kernel_rfl
@[simp] theorem Try.agg66 : isAggT Try.prog 66 = some true := by kernel_rfl
@[simp] theorem Try.zero66 : zeroT Try.prog 66 = some [.int .i64 0, .str [], .int .i64 0, .int .i64 0, .nilslc, .flt 0] := by kernel_rfl
@[simp] theorem Try.field66n0 : fieldT Try.prog 66 0 = some (0, 3) := by kernel_rfl
@[simp] theorem Try.field66n1 : fieldT Try.prog 66 1 = some (1, 9) := by kernel_rfl
@[simp] theorem Try.field66n2 : fieldT Try.prog 66 2 = some (2, 2) := by kernel_rfl
@[simp] theorem Try.field66n3 : fieldT Try.prog 66 3 = some (3, 36) := by kernel_rfl
attribute [simp] Try.underlying69
@[simp] theorem Try.size69 : sizeT Try.prog 69 = some 3 := by kernel_rfl
@[simp] theorem Try.bytes69 : bytesT Try.prog 69 = some 40 := by kernel_rfl
@[simp] theorem Try.agg69 : isAggT Try.prog 69 = some true := by kernel_rfl
@[simp] theorem Try.zero69 : zeroT Try.prog 69 = some [.int .i64 0, .int .i64 0, .nilslc] := by kernel_rfl
@[simp] theorem Try.field69n0 : fieldT Try.prog 69 0 = some (0, 3) := by kernel_rfl
@[simp] theorem Try.field69n1 : fieldT Try.prog 69 1 = some (1, 3) := by kernel_rfl
@[simp] theorem Try.field69n2 : fieldT Try.prog 69 2 = some (2, 23) := by kernel_rfl
attribute [simp] Try.underlying72
@[simp] theorem Try.size72 : sizeT Try.prog 72 = some 1 := by kernel_rfl
@[simp] theorem Try.bytes72 : bytesT Try.prog 72 = some 8 := by kernel_rfl
@[simp] theorem Try.agg72 : isAggT Try.prog 72 = some false := by kernel_rfl
@[simp] theorem Try.zero72 : zeroT Try.prog 72 = some [.nilptr] := by kernel_rfl
attribute [simp] Try.underlying78
@[simp] theorem Try.size78 : sizeT Try.prog 78 = some 1 := by kernel_rfl
@[simp] theorem Try.bytes78 : bytesT Try.prog 78 = some 4 := by kernel_rfl
@[simp] theorem Try.agg78 : isAggT Try.prog 78 = some false := by kernel_rfl
@[simp] theorem Try.zero78 : zeroT Try.prog 78 = some [.int .u32 0] := by kernel_rfl
attribute [simp] Try.underlying83
@[simp] theorem Try.size83 : sizeT Try.prog 83 = some 1 := by kernel_rfl
@[simp] theorem Try.bytes83 : bytesT Try.prog 83 = some 24 := by kernel_rfl
@[simp] theorem Try.agg83 : isAggT Try.prog 83 = some false := by kernel_rfl
@[simp] theorem Try.zero83 : zeroT Try.prog 83 = some [.nilslc] := by kernel_rfl
@[simp] theorem Try.elem83 : elemT Try.prog 83 = some 9 := by kernel_rfl
attribute [simp] Try.underlying86
@[simp] theorem Try.size86 : sizeT Try.prog 86 = some 7 := by kernel_rfl
@[simp] theorem Try.bytes86 : bytesT Try.prog 86 = some 72 := by kernel_rfl
@[simp] theorem Try.agg86 : isAggT Try.prog 86 = some true := by kernel_rfl
@[simp] theorem Try.zero86 : zeroT Try.prog 86 = some [.int .i64 0, .int .i64 0, .int .i64 0, .bool false, .int .i64 0, .flt 0, .nilslc] := by kernel_rfl
@[simp] theorem Try.field86n0 : fieldT Try.prog 86 0 = some (0, 3) := by kernel_rfl
@[simp] theorem Try.field86n1 : fieldT Try.prog 86 1 = some (1, 3) := by kernel_rfl
@[simp] theorem Try.field86n2 : fieldT Try.prog 86 2 = some (2, 2) := by kernel_rfl
@[simp] theorem Try.field86n3 : fieldT Try.prog 86 3 = some (3, 25) := by kernel_rfl
attribute [simp] Try.underlying92
@[simp] theorem Try.size92 : sizeT Try.prog 92 = some 4 := by kernel_rfl
@[simp] theorem Try.bytes92 : bytesT Try.prog 92 = some 48 := by kernel_rfl
@[simp] theorem Try.agg92 : isAggT Try.prog 92 = some true := by kernel_rfl
@[simp] theorem Try.zero92 : zeroT Try.prog 92 = some [.str [], .str [], .int .i64 0, .int .i64 0] := by kernel_rfl
@[simp] theorem Try.field92n0 : fieldT Try.prog 92 0 = some (0, 54) := by kernel_rfl
@[simp] theorem Try.field92n1 : fieldT Try.prog 92 1 = some (2, 3) := by kernel_rfl
@[simp] theorem Try.field92n2 : fieldT Try.prog 92 2 = some (3, 3) := by kernel_rfl
attribute [simp] Try.underlying95
@[simp] theorem Try.size95 : sizeT Try.prog 95 = some 1 := by kernel_rfl
@[simp] theorem Try.bytes95 : bytesT Try.prog 95 = some 24 := by kernel_rfl
@[simp] theorem Try.agg95 : isAggT Try.prog 95 = some false := by kernel_rfl
@[simp] theorem Try.zero95 : zeroT Try.prog 95 = some [.nilslc] := by kernel_rfl
@[simp] theorem Try.elem95 : elemT Try.prog 95 = some 4 := by kernel_rfl
attribute [simp] Try.underlying103
@[simp] theorem Try.size103 : sizeT Try.prog 103 = some 1 := by kernel_rfl
@[simp] theorem Try.bytes103 : bytesT Try.prog 103 = some 24 := by kernel_rfl
@[simp] theorem Try.agg103 : isAggT Try.prog 103 = some true := by kernel_rfl
@[simp] theorem Try.zero103 : zeroT Try.prog 103 = some [.nilslc] := by kernel_rfl
@[simp] theorem Try.field103n0 : fieldT Try.prog 103 0 = some (0, 23) := by kernel_rfl
attribute [simp] Try.underlying107
@[simp] theorem Try.size107 : sizeT Try.prog 107 = some 1 := by kernel_rfl
@[simp] theorem Try.bytes107 : bytesT Try.prog 107 = some 8 := by kernel_rfl
@[simp] theorem Try.agg107 : isAggT Try.prog 107 = some false := by kernel_rfl
@[simp] theorem Try.zero107 : zeroT Try.prog 107 = some [.int .u64 0] := by kernel_rfl
attribute [simp] Try.underlying155
@[simp] theorem Try.size155 : sizeT Try.prog 155 = some 1 := by kernel_rfl
@[simp] theorem Try.bytes155 : bytesT Try.prog 155 = some 24 := by kernel_rfl
@[simp] theorem Try.agg155 : isAggT Try.prog 155 = some false := by kernel_rfl
@[simp] theorem Try.zero155 : zeroT Try.prog 155 = some [.nilslc] := by kernel_rfl
@[simp] theorem Try.elem155 : elemT Try.prog 155 = some 163 := by kernel_rfl
attribute [simp] Try.underlying157
@[simp] theorem Try.size157 : sizeT Try.prog 157 = some 1 := by kernel_rfl
@[simp] theorem Try.bytes157 : bytesT Try.prog 157 = some 24 := by kernel_rfl
@[simp] theorem Try.agg157 : isAggT Try.prog 157 = some true := by kernel_rfl
@[simp] theorem Try.zero157 : zeroT Try.prog 157 = some [.nilslc] := by kernel_rfl
@[simp] theorem Try.field157n0 : fieldT Try.prog 157 0 = some (0, 155) := by kernel_rfl
attribute [simp] Try.underlying159
@[simp] theorem Try.size159 : sizeT Try.prog 159 = some 2 := by kernel_rfl
@[simp] theorem Try.bytes159 : bytesT Try.prog 159 = some 40 := by kernel_rfl
@[simp] theorem Try.agg159 : isAggT Try.prog 159 = some true := by kernel_rfl
@[simp] theorem Try.zero159 : zeroT Try.prog 159 = some [.str [], .nilslc] := by kernel_rfl
@[simp] theorem Try.field159n0 : fieldT Try.prog 159 0 = some (0, 9) := by kernel_rfl
@[simp] theorem Try.field159n1 : fieldT Try.prog 159 1 = some (1, 157) := by kernel_rfl
attribute [simp] Try.underlying163
@[simp] theorem Try.size163 : sizeT Try.prog 163 = some 2 := by kernel_rfl
@[simp] theorem Try.bytes163 : bytesT Try.prog 163 = some 40 := by kernel_rfl
@[simp] theorem Try.agg163 : isAggT Try.prog 163 = some true := by kernel_rfl
@[simp] theorem Try.zero163 : zeroT Try.prog 163 = some [.str [], .nilslc] := by kernel_rfl
@[simp] theorem Try.field163n0 : fieldT Try.prog 163 0 = some (0, 9) := by kernel_rfl
@[simp] theorem Try.field163n1 : fieldT Try.prog 163 1 = some (1, 161) := by kernel_rfl
end Go.Proofs.Ytmhbdpgflomihaa
