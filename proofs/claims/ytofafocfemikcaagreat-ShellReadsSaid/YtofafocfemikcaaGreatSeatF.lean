/- A part of a proof over the abstract machine. No conditions. -/
import Derived.Test.YtofafocfemikcaaGreatAb3
import Derived.Test.YtofafocfemikcaaGreatRows
namespace Go.Proofs.YtofafocfemikcaaGreat
open Go Go.Ab
theorem Tryz.tyCount:Tryz.prog.types.size = 563:=by kernel_rfl
attribute [simp] Tryz.tyCount Tryz.underlying2 Tryz.underlying3 Tryz.underlying4 Tryz.underlying5 Tryz.underlying9 Tryz.underlying23 Tryz.underlying24 Tryz.underlying25 Tryz.underlying27 Tryz.underlying29 Tryz.underlying31 Tryz.underlying32 Tryz.underlying50 Tryz.underlying52 Tryz.underlying53 Tryz.underlying55 Tryz.underlying57 Tryz.underlying59 Tryz.underlying60 Tryz.underlying62 Tryz.underlying65 Tryz.underlying67 Tryz.underlying68 Tryz.underlying70 Tryz.underlying73 Tryz.underlying75 Tryz.underlying82 Tryz.underlying84 Tryz.underlying85 Tryz.underlying87 Tryz.underlying90 Tryz.underlying94 Tryz.underlying96 Tryz.underlying103 Tryz.underlying106 Tryz.underlying113 Tryz.underlying115 Tryz.underlying123 Tryz.underlying125 Tryz.underlying128 Tryz.underlying130 Tryz.underlying141 Tryz.underlying143 Tryz.underlying144 Tryz.underlying145 Tryz.underlying147 Tryz.underlying150 Tryz.underlying151 Tryz.underlying153 Tryz.underlying154 Tryz.underlying156 Tryz.underlying157 Tryz.underlying159 Tryz.underlying162 Tryz.underlying167 Tryz.underlying169 Tryz.underlying171 Tryz.underlying172 Tryz.underlying174 Tryz.underlying175 Tryz.underlying178 Tryz.underlying179 Tryz.underlying181 Tryz.underlying182 Tryz.underlying185 Tryz.underlying187 Tryz.underlying188 Tryz.underlying189 Tryz.underlying190 Tryz.underlying192 Tryz.underlying198 Tryz.underlying200 Tryz.underlying202 Tryz.underlying204 Tryz.underlying212 Tryz.underlying215 Tryz.underlying217 Tryz.underlying219 Tryz.underlying222 Tryz.underlying224 Tryz.underlying228 Tryz.underlying230 Tryz.underlying235 Tryz.underlying237 Tryz.underlying251 Tryz.underlying254 Tryz.underlying257 Tryz.underlying258 Tryz.underlying260 Tryz.underlying261 Tryz.underlying262 Tryz.underlying263 Tryz.underlying266 Tryz.underlying269 Tryz.underlying271 Tryz.underlying274 Tryz.underlying283 Tryz.underlying292 Tryz.underlying294 Tryz.underlying296 Tryz.underlying319 Tryz.underlying330 Tryz.underlying355 Tryz.underlying357 Tryz.underlying359 Tryz.underlying381 Tryz.underlying389 Tryz.underlying391 Tryz.underlying402 Tryz.underlying417 Tryz.underlying426 Tryz.underlying428 Tryz.underlying430 Tryz.underlying477 Tryz.underlying505 Tryz.underlying508 Tryz.underlying516
@[simp] theorem Tryz.T2:sizeT Tryz.prog 2 = some 1∧isAggT Tryz.prog 2 = some false∧zeroT Tryz.prog 2 = some [.int .i64 0]:=by and_intros <;> kernel_rfl
@[simp] theorem Tryz.bytes2:bytesT Tryz.prog 2 = some 8:=by kernel_rfl
@[simp] theorem Tryz.T3:sizeT Tryz.prog 3 = some 1∧isAggT Tryz.prog 3 = some false∧zeroT Tryz.prog 3 = some [.int .i64 0]:=by and_intros <;> kernel_rfl
@[simp] theorem Tryz.bytes3:bytesT Tryz.prog 3 = some 8:=by kernel_rfl
@[simp] theorem Tryz.T4:sizeT Tryz.prog 4 = some 1∧isAggT Tryz.prog 4 = some false∧zeroT Tryz.prog 4 = some [.bool false]:=by and_intros <;> kernel_rfl
@[simp] theorem Tryz.bytes4:bytesT Tryz.prog 4 = some 1:=by kernel_rfl
@[simp] theorem Tryz.T5:sizeT Tryz.prog 5 = some 1∧isAggT Tryz.prog 5 = some false∧zeroT Tryz.prog 5 = some [.int .u8 0]:=by and_intros <;> kernel_rfl
@[simp] theorem Tryz.bytes5:bytesT Tryz.prog 5 = some 1:=by kernel_rfl
@[simp] theorem Tryz.T9:sizeT Tryz.prog 9 = some 1∧isAggT Tryz.prog 9 = some false∧zeroT Tryz.prog 9 = some [.str []]:=by and_intros <;> kernel_rfl
@[simp] theorem Tryz.bytes9:bytesT Tryz.prog 9 = some 16:=by kernel_rfl
@[simp] theorem Tryz.T23:sizeT Tryz.prog 23 = some 3∧isAggT Tryz.prog 23 = some true∧zeroT Tryz.prog 23 = some [.int .i64 0,.int .i64 0,.int .i64 0]:=by and_intros <;> kernel_rfl
@[simp] theorem Tryz.bytes23:bytesT Tryz.prog 23 = some 24:=by kernel_rfl
@[simp] theorem Tryz.field23n0:fieldT Tryz.prog 23 0 = some (0,3):=by kernel_rfl
@[simp] theorem Tryz.field23n1:fieldT Tryz.prog 23 1 = some (1,3):=by kernel_rfl
@[simp] theorem Tryz.field23n2:fieldT Tryz.prog 23 2 = some (2,3):=by kernel_rfl
@[simp] theorem Tryz.T24:sizeT Tryz.prog 24 = some 1∧isAggT Tryz.prog 24 = some false∧zeroT Tryz.prog 24 = some [.nilslc]∧elemT Tryz.prog 24 = some 59:=by and_intros <;> kernel_rfl
@[simp] theorem Tryz.bytes24:bytesT Tryz.prog 24 = some 24:=by kernel_rfl
@[simp] theorem Tryz.T25:sizeT Tryz.prog 25 = some 1∧isAggT Tryz.prog 25 = some false∧zeroT Tryz.prog 25 = some [.nilslc]∧elemT Tryz.prog 25 = some 62:=by and_intros <;> kernel_rfl
@[simp] theorem Tryz.bytes25:bytesT Tryz.prog 25 = some 24:=by kernel_rfl
@[simp] theorem Tryz.T27:sizeT Tryz.prog 27 = some 6∧isAggT Tryz.prog 27 = some true∧zeroT Tryz.prog 27 = some [.int .i64 0,.int .i64 0,.int .i64 0,.nilslc,.nilslc,.bool false]:=by and_intros <;> kernel_rfl
@[simp] theorem Tryz.bytes27:bytesT Tryz.prog 27 = some 80:=by kernel_rfl
@[simp] theorem Tryz.field27n0:fieldT Tryz.prog 27 0 = some (0,23):=by kernel_rfl
@[simp] theorem Tryz.field27n1:fieldT Tryz.prog 27 1 = some (3,24):=by kernel_rfl
@[simp] theorem Tryz.field27n2:fieldT Tryz.prog 27 2 = some (4,25):=by kernel_rfl
@[simp] theorem Tryz.field27n3:fieldT Tryz.prog 27 3 = some (5,4):=by kernel_rfl
@[simp] theorem Tryz.T29:sizeT Tryz.prog 29 = some 4∧isAggT Tryz.prog 29 = some true∧zeroT Tryz.prog 29 = some [.int .i64 0,.int .i64 0,.int .i64 0,.nilslc]:=by and_intros <;> kernel_rfl
@[simp] theorem Tryz.bytes29:bytesT Tryz.prog 29 = some 48:=by kernel_rfl
@[simp] theorem Tryz.field29n0:fieldT Tryz.prog 29 0 = some (0,23):=by kernel_rfl
@[simp] theorem Tryz.field29n1:fieldT Tryz.prog 29 1 = some (3,25):=by kernel_rfl
@[simp] theorem Tryz.T31:sizeT Tryz.prog 31 = some 1∧isAggT Tryz.prog 31 = some false∧zeroT Tryz.prog 31 = some [.nilslc]∧elemT Tryz.prog 31 = some 5:=by and_intros <;> kernel_rfl
@[simp] theorem Tryz.bytes31:bytesT Tryz.prog 31 = some 24:=by kernel_rfl
@[simp] theorem Tryz.T32:sizeT Tryz.prog 32 = some 1∧isAggT Tryz.prog 32 = some false∧zeroT Tryz.prog 32 = some [.int .i64 0]:=by and_intros <;> kernel_rfl
@[simp] theorem Tryz.bytes32:bytesT Tryz.prog 32 = some 8:=by kernel_rfl
@[simp] theorem Tryz.T50:sizeT Tryz.prog 50 = some 1∧isAggT Tryz.prog 50 = some false∧zeroT Tryz.prog 50 = some [.flt 0]:=by and_intros <;> kernel_rfl
@[simp] theorem Tryz.bytes50:bytesT Tryz.prog 50 = some 8:=by kernel_rfl
@[simp] theorem Tryz.T52:sizeT Tryz.prog 52 = some 4∧isAggT Tryz.prog 52 = some true∧zeroT Tryz.prog 52 = some [.bool false,.int .i64 0,.flt 0,.nilslc]:=by and_intros <;> kernel_rfl
@[simp] theorem Tryz.bytes52:bytesT Tryz.prog 52 = some 48:=by kernel_rfl
@[simp] theorem Tryz.field52n0:fieldT Tryz.prog 52 0 = some (0,4):=by kernel_rfl
@[simp] theorem Tryz.field52n1:fieldT Tryz.prog 52 1 = some (1,3):=by kernel_rfl
@[simp] theorem Tryz.field52n2:fieldT Tryz.prog 52 2 = some (2,50):=by kernel_rfl
@[simp] theorem Tryz.field52n3:fieldT Tryz.prog 52 3 = some (3,31):=by kernel_rfl
@[simp] theorem Tryz.T53:sizeT Tryz.prog 53 = some 1∧isAggT Tryz.prog 53 = some false∧zeroT Tryz.prog 53 = some [.nilslc]∧elemT Tryz.prog 53 = some 128:=by and_intros <;> kernel_rfl
@[simp] theorem Tryz.bytes53:bytesT Tryz.prog 53 = some 24:=by kernel_rfl
@[simp] theorem Tryz.T55:sizeT Tryz.prog 55 = some 12∧isAggT Tryz.prog 55 = some true∧zeroT Tryz.prog 55 = some [.int .i64 0,.int .i64 0,.int .i64 0,.int .i64 0,.int .i64 0,.bool false,.bool false,.bool false,.int .i64 0,.flt 0,.nilslc,.nilslc]:=by and_intros <;> kernel_rfl
@[simp] theorem Tryz.bytes55:bytesT Tryz.prog 55 = some 120:=by kernel_rfl
@[simp] theorem Tryz.field55n0:fieldT Tryz.prog 55 0 = some (0,3):=by kernel_rfl
@[simp] theorem Tryz.field55n1:fieldT Tryz.prog 55 1 = some (1,3):=by kernel_rfl
@[simp] theorem Tryz.field55n2:fieldT Tryz.prog 55 2 = some (2,3):=by kernel_rfl
@[simp] theorem Tryz.field55n3:fieldT Tryz.prog 55 3 = some (3,3):=by kernel_rfl
@[simp] theorem Tryz.field55n4:fieldT Tryz.prog 55 4 = some (4,3):=by kernel_rfl
@[simp] theorem Tryz.field55n5:fieldT Tryz.prog 55 5 = some (5,4):=by kernel_rfl
@[simp] theorem Tryz.field55n6:fieldT Tryz.prog 55 6 = some (6,4):=by kernel_rfl
@[simp] theorem Tryz.field55n7:fieldT Tryz.prog 55 7 = some (7,52):=by kernel_rfl
@[simp] theorem Tryz.field55n8:fieldT Tryz.prog 55 8 = some (11,53):=by kernel_rfl
@[simp] theorem Tryz.T57:sizeT Tryz.prog 57 = some 3∧isAggT Tryz.prog 57 = some true∧zeroT Tryz.prog 57 = some [.int .i64 0,.int .i64 0,.int .i64 0]:=by and_intros <;> kernel_rfl
@[simp] theorem Tryz.bytes57:bytesT Tryz.prog 57 = some 24:=by kernel_rfl
@[simp] theorem Tryz.field57n0:fieldT Tryz.prog 57 0 = some (0,3):=by kernel_rfl
@[simp] theorem Tryz.field57n1:fieldT Tryz.prog 57 1 = some (1,3):=by kernel_rfl
@[simp] theorem Tryz.field57n2:fieldT Tryz.prog 57 2 = some (2,3):=by kernel_rfl
@[simp] theorem Tryz.T59:sizeT Tryz.prog 59 = some 19∧isAggT Tryz.prog 59 = some true∧zeroT Tryz.prog 59 = some [.int .i64 0,.int .i64 0,.int .i64 0,.int .i64 0,.int .i64 0,.int .i64 0,.int .i64 0,.int .i64 0,.int .i64 0,.bool false,.bool false,.bool false,.int .i64 0,.flt 0,.nilslc,.nilslc,.int .i64 0,.int .i64 0,.int .i64 0]:=by and_intros <;> kernel_rfl
@[simp] theorem Tryz.bytes59:bytesT Tryz.prog 59 = some 176:=by kernel_rfl
@[simp] theorem Tryz.field59n0:fieldT Tryz.prog 59 0 = some (0,3):=by kernel_rfl
@[simp] theorem Tryz.field59n1:fieldT Tryz.prog 59 1 = some (1,3):=by kernel_rfl
@[simp] theorem Tryz.field59n2:fieldT Tryz.prog 59 2 = some (2,3):=by kernel_rfl
@[simp] theorem Tryz.field59n3:fieldT Tryz.prog 59 3 = some (3,3):=by kernel_rfl
@[simp] theorem Tryz.field59n4:fieldT Tryz.prog 59 4 = some (4,55):=by kernel_rfl
@[simp] theorem Tryz.field59n5:fieldT Tryz.prog 59 5 = some (16,57):=by kernel_rfl
@[simp] theorem Tryz.T60:sizeT Tryz.prog 60 = some 1∧isAggT Tryz.prog 60 = some false∧zeroT Tryz.prog 60 = some [.nilslc]∧elemT Tryz.prog 60 = some 3:=by and_intros <;> kernel_rfl
@[simp] theorem Tryz.bytes60:bytesT Tryz.prog 60 = some 24:=by kernel_rfl
@[simp] theorem Tryz.T62:sizeT Tryz.prog 62 = some 5∧isAggT Tryz.prog 62 = some true∧zeroT Tryz.prog 62 = some [.int .i64 0,.int .i64 0,.int .i64 0,.int .i64 0,.nilslc]:=by and_intros <;> kernel_rfl
@[simp] theorem Tryz.bytes62:bytesT Tryz.prog 62 = some 56:=by kernel_rfl
@[simp] theorem Tryz.field62n0:fieldT Tryz.prog 62 0 = some (0,3):=by kernel_rfl
@[simp] theorem Tryz.field62n1:fieldT Tryz.prog 62 1 = some (1,3):=by kernel_rfl
@[simp] theorem Tryz.field62n2:fieldT Tryz.prog 62 2 = some (2,3):=by kernel_rfl
@[simp] theorem Tryz.field62n3:fieldT Tryz.prog 62 3 = some (3,3):=by kernel_rfl
@[simp] theorem Tryz.field62n4:fieldT Tryz.prog 62 4 = some (4,31):=by kernel_rfl
@[simp] theorem Tryz.T65:sizeT Tryz.prog 65 = some 3∧isAggT Tryz.prog 65 = some true∧zeroT Tryz.prog 65 = some [.int .i64 0,.nilslc,.flt 0]:=by and_intros <;> kernel_rfl
@[simp] theorem Tryz.bytes65:bytesT Tryz.prog 65 = some 40:=by kernel_rfl
@[simp] theorem Tryz.field65n0:fieldT Tryz.prog 65 0 = some (0,3):=by kernel_rfl
@[simp] theorem Tryz.field65n1:fieldT Tryz.prog 65 1 = some (1,31):=by kernel_rfl
@[simp] theorem Tryz.field65n2:fieldT Tryz.prog 65 2 = some (2,50):=by kernel_rfl
@[simp] theorem Tryz.T67:sizeT Tryz.prog 67 = some 6∧isAggT Tryz.prog 67 = some true∧zeroT Tryz.prog 67 = some [.bool false,.bool false,.str [],.int .i64 0,.nilslc,.flt 0]:=by and_intros <;> kernel_rfl
@[simp] theorem Tryz.bytes67:bytesT Tryz.prog 67 = some 64:=by kernel_rfl
@[simp] theorem Tryz.field67n0:fieldT Tryz.prog 67 0 = some (0,4):=by kernel_rfl
@[simp] theorem Tryz.field67n1:fieldT Tryz.prog 67 1 = some (1,4):=by kernel_rfl
@[simp] theorem Tryz.field67n2:fieldT Tryz.prog 67 2 = some (2,9):=by kernel_rfl
@[simp] theorem Tryz.field67n3:fieldT Tryz.prog 67 3 = some (3,65):=by kernel_rfl
@[simp] theorem Tryz.T68:sizeT Tryz.prog 68 = some 1∧isAggT Tryz.prog 68 = some false∧zeroT Tryz.prog 68 = some [.nilslc]∧elemT Tryz.prog 68 = some 103:=by and_intros <;> kernel_rfl
@[simp] theorem Tryz.bytes68:bytesT Tryz.prog 68 = some 24:=by kernel_rfl
@[simp] theorem Tryz.T70:sizeT Tryz.prog 70 = some 11∧isAggT Tryz.prog 70 = some true∧zeroT Tryz.prog 70 = some [.int .i64 0,.str [],.str [],.bool false,.bool false,.str [],.int .i64 0,.nilslc,.flt 0,.nilslc,.int .i64 0]:=by and_intros <;> kernel_rfl
@[simp] theorem Tryz.bytes70:bytesT Tryz.prog 70 = some 136:=by kernel_rfl
@[simp] theorem Tryz.field70n0:fieldT Tryz.prog 70 0 = some (0,3):=by kernel_rfl
@[simp] theorem Tryz.field70n1:fieldT Tryz.prog 70 1 = some (1,9):=by kernel_rfl
@[simp] theorem Tryz.field70n2:fieldT Tryz.prog 70 2 = some (2,9):=by kernel_rfl
@[simp] theorem Tryz.field70n3:fieldT Tryz.prog 70 3 = some (3,67):=by kernel_rfl
@[simp] theorem Tryz.field70n4:fieldT Tryz.prog 70 4 = some (9,68):=by kernel_rfl
@[simp] theorem Tryz.field70n5:fieldT Tryz.prog 70 5 = some (10,3):=by kernel_rfl
@[simp] theorem Tryz.T73:sizeT Tryz.prog 73 = some 2∧isAggT Tryz.prog 73 = some true∧zeroT Tryz.prog 73 = some [.str [],.str []]:=by and_intros <;> kernel_rfl
@[simp] theorem Tryz.bytes73:bytesT Tryz.prog 73 = some 32:=by kernel_rfl
@[simp] theorem Tryz.field73n0:fieldT Tryz.prog 73 0 = some (0,9):=by kernel_rfl
@[simp] theorem Tryz.field73n1:fieldT Tryz.prog 73 1 = some (1,9):=by kernel_rfl
@[simp] theorem Tryz.T75:sizeT Tryz.prog 75 = some 19∧isAggT Tryz.prog 75 = some true∧zeroT Tryz.prog 75 = some [.int .i64 0,.int .i64 0,.str [],.str [],.bool false,.bool false,.str [],.int .i64 0,.nilslc,.flt 0,.nilslc,.int .i64 0,.str [],.str [],.int .i64 0,.str [],.int .i64 0,.int .i64 0,.nilslc]:=by and_intros <;> kernel_rfl
@[simp] theorem Tryz.bytes75:bytesT Tryz.prog 75 = some 240:=by kernel_rfl
@[simp] theorem Tryz.field75n0:fieldT Tryz.prog 75 0 = some (0,3):=by kernel_rfl
@[simp] theorem Tryz.field75n1:fieldT Tryz.prog 75 1 = some (1,70):=by kernel_rfl
@[simp] theorem Tryz.field75n2:fieldT Tryz.prog 75 2 = some (12,73):=by kernel_rfl
@[simp] theorem Tryz.field75n3:fieldT Tryz.prog 75 3 = some (14,3):=by kernel_rfl
@[simp] theorem Tryz.field75n4:fieldT Tryz.prog 75 4 = some (15,9):=by kernel_rfl
@[simp] theorem Tryz.field75n5:fieldT Tryz.prog 75 5 = some (16,3):=by kernel_rfl
@[simp] theorem Tryz.field75n6:fieldT Tryz.prog 75 6 = some (17,3):=by kernel_rfl
@[simp] theorem Tryz.field75n7:fieldT Tryz.prog 75 7 = some (18,31):=by kernel_rfl
@[simp] theorem Tryz.T82:sizeT Tryz.prog 82 = some 1∧isAggT Tryz.prog 82 = some false∧zeroT Tryz.prog 82 = some [.int .u64 0]:=by and_intros <;> kernel_rfl
@[simp] theorem Tryz.bytes82:bytesT Tryz.prog 82 = some 8:=by kernel_rfl
@[simp] theorem Tryz.T84:sizeT Tryz.prog 84 = some 1∧isAggT Tryz.prog 84 = some false∧zeroT Tryz.prog 84 = some [.nilslc]∧elemT Tryz.prog 84 = some 90:=by and_intros <;> kernel_rfl
@[simp] theorem Tryz.bytes84:bytesT Tryz.prog 84 = some 24:=by kernel_rfl
@[simp] theorem Tryz.T85:sizeT Tryz.prog 85 = some 1∧isAggT Tryz.prog 85 = some false∧zeroT Tryz.prog 85 = some [.nilslc]∧elemT Tryz.prog 85 = some 212:=by and_intros <;> kernel_rfl
@[simp] theorem Tryz.bytes85:bytesT Tryz.prog 85 = some 24:=by kernel_rfl
@[simp] theorem Tryz.T87:sizeT Tryz.prog 87 = some 3∧isAggT Tryz.prog 87 = some true∧zeroT Tryz.prog 87 = some [.nilslc,.nilslc,.int .i64 0]:=by and_intros <;> kernel_rfl
@[simp] theorem Tryz.bytes87:bytesT Tryz.prog 87 = some 56:=by kernel_rfl
@[simp] theorem Tryz.field87n0:fieldT Tryz.prog 87 0 = some (0,84):=by kernel_rfl
@[simp] theorem Tryz.field87n1:fieldT Tryz.prog 87 1 = some (1,85):=by kernel_rfl
@[simp] theorem Tryz.field87n2:fieldT Tryz.prog 87 2 = some (2,32):=by kernel_rfl
@[simp] theorem Tryz.T90:sizeT Tryz.prog 90 = some 3∧isAggT Tryz.prog 90 = some true∧zeroT Tryz.prog 90 = some [.int .i64 0,.int .i64 0,.int .i64 0]:=by and_intros <;> kernel_rfl
@[simp] theorem Tryz.bytes90:bytesT Tryz.prog 90 = some 24:=by kernel_rfl
@[simp] theorem Tryz.field90n0:fieldT Tryz.prog 90 0 = some (0,3):=by kernel_rfl
@[simp] theorem Tryz.field90n1:fieldT Tryz.prog 90 1 = some (1,3):=by kernel_rfl
@[simp] theorem Tryz.field90n2:fieldT Tryz.prog 90 2 = some (2,32):=by kernel_rfl
@[simp] theorem Tryz.T94:sizeT Tryz.prog 94 = some 1∧isAggT Tryz.prog 94 = some false∧zeroT Tryz.prog 94 = some [.nilptr]:=by and_intros <;> kernel_rfl
@[simp] theorem Tryz.bytes94:bytesT Tryz.prog 94 = some 8:=by kernel_rfl
@[simp] theorem Tryz.T96:sizeT Tryz.prog 96 = some 2∧isAggT Tryz.prog 96 = some true∧zeroT Tryz.prog 96 = some [.nilslc,.bool false]:=by and_intros <;> kernel_rfl
@[simp] theorem Tryz.bytes96:bytesT Tryz.prog 96 = some 32:=by kernel_rfl
@[simp] theorem Tryz.field96n0:fieldT Tryz.prog 96 0 = some (0,31):=by kernel_rfl
@[simp] theorem Tryz.field96n1:fieldT Tryz.prog 96 1 = some (1,4):=by kernel_rfl
@[simp] theorem Tryz.T103:sizeT Tryz.prog 103 = some 6∧isAggT Tryz.prog 103 = some true∧zeroT Tryz.prog 103 = some [.int .i64 0,.str [],.int .i64 0,.int .i64 0,.nilslc,.flt 0]:=by and_intros <;> kernel_rfl
@[simp] theorem Tryz.bytes103:bytesT Tryz.prog 103 = some 72:=by kernel_rfl
@[simp] theorem Tryz.field103n0:fieldT Tryz.prog 103 0 = some (0,3):=by kernel_rfl
@[simp] theorem Tryz.field103n1:fieldT Tryz.prog 103 1 = some (1,9):=by kernel_rfl
@[simp] theorem Tryz.field103n2:fieldT Tryz.prog 103 2 = some (2,2):=by kernel_rfl
@[simp] theorem Tryz.field103n3:fieldT Tryz.prog 103 3 = some (3,65):=by kernel_rfl
@[simp] theorem Tryz.T106:sizeT Tryz.prog 106 = some 1∧isAggT Tryz.prog 106 = some false∧zeroT Tryz.prog 106 = some [.int .u32 0]:=by and_intros <;> kernel_rfl
@[simp] theorem Tryz.bytes106:bytesT Tryz.prog 106 = some 4:=by kernel_rfl
@[simp] theorem Tryz.T113:sizeT Tryz.prog 113 = some 1∧isAggT Tryz.prog 113 = some false∧zeroT Tryz.prog 113 = some [.nilptr]:=by and_intros <;> kernel_rfl
@[simp] theorem Tryz.bytes113:bytesT Tryz.prog 113 = some 8:=by kernel_rfl
@[simp] theorem Tryz.T115:sizeT Tryz.prog 115 = some 2∧isAggT Tryz.prog 115 = some true∧zeroT Tryz.prog 115 = some [.nilslc,.bool false]:=by and_intros <;> kernel_rfl
@[simp] theorem Tryz.bytes115:bytesT Tryz.prog 115 = some 32:=by kernel_rfl
@[simp] theorem Tryz.field115n0:fieldT Tryz.prog 115 0 = some (0,31):=by kernel_rfl
@[simp] theorem Tryz.field115n1:fieldT Tryz.prog 115 1 = some (1,4):=by kernel_rfl
@[simp] theorem Tryz.T123:sizeT Tryz.prog 123 = some 1∧isAggT Tryz.prog 123 = some false∧zeroT Tryz.prog 123 = some [.int .u64 0]:=by and_intros <;> kernel_rfl
@[simp] theorem Tryz.bytes123:bytesT Tryz.prog 123 = some 8:=by kernel_rfl
@[simp] theorem Tryz.T125:sizeT Tryz.prog 125 = some 1∧isAggT Tryz.prog 125 = some false∧zeroT Tryz.prog 125 = some [.nilslc]∧elemT Tryz.prog 125 = some 9:=by and_intros <;> kernel_rfl
@[simp] theorem Tryz.bytes125:bytesT Tryz.prog 125 = some 24:=by kernel_rfl
@[simp] theorem Tryz.T128:sizeT Tryz.prog 128 = some 7∧isAggT Tryz.prog 128 = some true∧zeroT Tryz.prog 128 = some [.int .i64 0,.int .i64 0,.int .i64 0,.bool false,.int .i64 0,.flt 0,.nilslc]:=by and_intros <;> kernel_rfl
@[simp] theorem Tryz.bytes128:bytesT Tryz.prog 128 = some 72:=by kernel_rfl
@[simp] theorem Tryz.field128n0:fieldT Tryz.prog 128 0 = some (0,3):=by kernel_rfl
@[simp] theorem Tryz.field128n1:fieldT Tryz.prog 128 1 = some (1,3):=by kernel_rfl
@[simp] theorem Tryz.field128n2:fieldT Tryz.prog 128 2 = some (2,2):=by kernel_rfl
@[simp] theorem Tryz.field128n3:fieldT Tryz.prog 128 3 = some (3,52):=by kernel_rfl
@[simp] theorem Tryz.T130:sizeT Tryz.prog 130 = some 1∧isAggT Tryz.prog 130 = some false∧zeroT Tryz.prog 130 = some [.nilptr]:=by and_intros <;> kernel_rfl
@[simp] theorem Tryz.bytes130:bytesT Tryz.prog 130 = some 8:=by kernel_rfl
@[simp] theorem Tryz.T141:sizeT Tryz.prog 141 = some 1∧isAggT Tryz.prog 141 = some false∧zeroT Tryz.prog 141 = some [.nilptr]:=by and_intros <;> kernel_rfl
@[simp] theorem Tryz.bytes141:bytesT Tryz.prog 141 = some 8:=by kernel_rfl
@[simp] theorem Tryz.T143:sizeT Tryz.prog 143 = some 1∧isAggT Tryz.prog 143 = some false∧zeroT Tryz.prog 143 = some [.nilslc]∧elemT Tryz.prog 143 = some 150:=by and_intros <;> kernel_rfl
@[simp] theorem Tryz.bytes143:bytesT Tryz.prog 143 = some 24:=by kernel_rfl
@[simp] theorem Tryz.T144:sizeT Tryz.prog 144 = some 1∧isAggT Tryz.prog 144 = some false∧zeroT Tryz.prog 144 = some [.nilslc]∧elemT Tryz.prog 144 = some 162:=by and_intros <;> kernel_rfl
@[simp] theorem Tryz.bytes144:bytesT Tryz.prog 144 = some 24:=by kernel_rfl
@[simp] theorem Tryz.T145:sizeT Tryz.prog 145 = some 1∧isAggT Tryz.prog 145 = some false∧zeroT Tryz.prog 145 = some [.nilptr]:=by and_intros <;> kernel_rfl
@[simp] theorem Tryz.bytes145:bytesT Tryz.prog 145 = some 8:=by kernel_rfl
@[simp] theorem Tryz.T147:sizeT Tryz.prog 147 = some 8∧isAggT Tryz.prog 147 = some true∧zeroT Tryz.prog 147 = some [.int .i64 0,.int .i64 0,.int .i64 0,.nilslc,.nilslc,.nilptr,.nilptr,.nilslc]:=by and_intros <;> kernel_rfl
@[simp] theorem Tryz.bytes147:bytesT Tryz.prog 147 = some 112:=by kernel_rfl
@[simp] theorem Tryz.field147n0:fieldT Tryz.prog 147 0 = some (0,23):=by kernel_rfl
@[simp] theorem Tryz.field147n1:fieldT Tryz.prog 147 1 = some (3,143):=by kernel_rfl
@[simp] theorem Tryz.field147n2:fieldT Tryz.prog 147 2 = some (4,144):=by kernel_rfl
@[simp] theorem Tryz.field147n3:fieldT Tryz.prog 147 3 = some (5,141):=by kernel_rfl
@[simp] theorem Tryz.field147n4:fieldT Tryz.prog 147 4 = some (6,145):=by kernel_rfl
@[simp] theorem Tryz.field147n5:fieldT Tryz.prog 147 5 = some (7,85):=by kernel_rfl
@[simp] theorem Tryz.T150:sizeT Tryz.prog 150 = some 1∧isAggT Tryz.prog 150 = some false∧zeroT Tryz.prog 150 = some [.nilptr]:=by and_intros <;> kernel_rfl
@[simp] theorem Tryz.bytes150:bytesT Tryz.prog 150 = some 8:=by kernel_rfl
@[simp] theorem Tryz.T151:sizeT Tryz.prog 151 = some 1∧isAggT Tryz.prog 151 = some false∧zeroT Tryz.prog 151 = some [.nilptr]:=by and_intros <;> kernel_rfl
@[simp] theorem Tryz.bytes151:bytesT Tryz.prog 151 = some 8:=by kernel_rfl
@[simp] theorem Tryz.T153:sizeT Tryz.prog 153 = some 1∧isAggT Tryz.prog 153 = some false∧zeroT Tryz.prog 153 = some [.nilslc]∧elemT Tryz.prog 153 = some 157:=by and_intros <;> kernel_rfl
@[simp] theorem Tryz.bytes153:bytesT Tryz.prog 153 = some 24:=by kernel_rfl
@[simp] theorem Tryz.T154:sizeT Tryz.prog 154 = some 1∧isAggT Tryz.prog 154 = some false∧zeroT Tryz.prog 154 = some [.nilslc]∧elemT Tryz.prog 154 = some 159:=by and_intros <;> kernel_rfl
@[simp] theorem Tryz.bytes154:bytesT Tryz.prog 154 = some 24:=by kernel_rfl
@[simp] theorem Tryz.T156:sizeT Tryz.prog 156 = some 3∧isAggT Tryz.prog 156 = some true∧zeroT Tryz.prog 156 = some [.nilslc,.nilslc,.nilptr]:=by and_intros <;> kernel_rfl
@[simp] theorem Tryz.bytes156:bytesT Tryz.prog 156 = some 56:=by kernel_rfl
@[simp] theorem Tryz.field156n0:fieldT Tryz.prog 156 0 = some (0,153):=by kernel_rfl
@[simp] theorem Tryz.field156n1:fieldT Tryz.prog 156 1 = some (1,154):=by kernel_rfl
@[simp] theorem Tryz.field156n2:fieldT Tryz.prog 156 2 = some (2,151):=by kernel_rfl
@[simp] theorem Tryz.T157:sizeT Tryz.prog 157 = some 1∧isAggT Tryz.prog 157 = some false∧zeroT Tryz.prog 157 = some [.nilptr]:=by and_intros <;> kernel_rfl
@[simp] theorem Tryz.bytes157:bytesT Tryz.prog 157 = some 8:=by kernel_rfl
@[simp] theorem Tryz.T159:sizeT Tryz.prog 159 = some 1∧isAggT Tryz.prog 159 = some false∧zeroT Tryz.prog 159 = some [.nilptr]:=by and_intros <;> kernel_rfl
@[simp] theorem Tryz.bytes159:bytesT Tryz.prog 159 = some 8:=by kernel_rfl
@[simp] theorem Tryz.T162:sizeT Tryz.prog 162 = some 1∧isAggT Tryz.prog 162 = some false∧zeroT Tryz.prog 162 = some [.nilptr]:=by and_intros <;> kernel_rfl
@[simp] theorem Tryz.bytes162:bytesT Tryz.prog 162 = some 8:=by kernel_rfl
@[simp] theorem Tryz.T167:sizeT Tryz.prog 167 = some 1∧isAggT Tryz.prog 167 = some false∧zeroT Tryz.prog 167 = some [.nilslc]∧elemT Tryz.prog 167 = some 359:=by and_intros <;> kernel_rfl
@[simp] theorem Tryz.bytes167:bytesT Tryz.prog 167 = some 24:=by kernel_rfl
@[simp] theorem Tryz.T169:sizeT Tryz.prog 169 = some 11∧isAggT Tryz.prog 169 = some true∧zeroT Tryz.prog 169 = some [.int .i64 0,.nilslc,.str [],.str [],.int .i64 0,.int .i64 0,.int .i64 0,.int .i64 0,.int .i64 0,.str [],.nilslc]:=by and_intros <;> kernel_rfl
@[simp] theorem Tryz.bytes169:bytesT Tryz.prog 169 = some 144:=by kernel_rfl
@[simp] theorem Tryz.field169n0:fieldT Tryz.prog 169 0 = some (0,32):=by kernel_rfl
@[simp] theorem Tryz.field169n1:fieldT Tryz.prog 169 1 = some (1,167):=by kernel_rfl
@[simp] theorem Tryz.field169n2:fieldT Tryz.prog 169 2 = some (2,73):=by kernel_rfl
@[simp] theorem Tryz.field169n3:fieldT Tryz.prog 169 3 = some (4,3):=by kernel_rfl
@[simp] theorem Tryz.field169n4:fieldT Tryz.prog 169 4 = some (5,3):=by kernel_rfl
@[simp] theorem Tryz.field169n5:fieldT Tryz.prog 169 5 = some (6,3):=by kernel_rfl
@[simp] theorem Tryz.field169n6:fieldT Tryz.prog 169 6 = some (7,3):=by kernel_rfl
@[simp] theorem Tryz.field169n7:fieldT Tryz.prog 169 7 = some (8,3):=by kernel_rfl
@[simp] theorem Tryz.field169n8:fieldT Tryz.prog 169 8 = some (9,9):=by kernel_rfl
@[simp] theorem Tryz.field169n9:fieldT Tryz.prog 169 9 = some (10,31):=by kernel_rfl
@[simp] theorem Tryz.T171:sizeT Tryz.prog 171 = some 19∧isAggT Tryz.prog 171 = some true∧zeroT Tryz.prog 171 = some [.int .i64 0,.int .i64 0,.int .i64 0,.int .i64 0,.nilslc,.int .i64 0,.nilslc,.str [],.str [],.int .i64 0,.int .i64 0,.int .i64 0,.int .i64 0,.int .i64 0,.str [],.nilslc,.int .i64 0,.int .i64 0,.int .i64 0]:=by and_intros <;> kernel_rfl
@[simp] theorem Tryz.bytes171:bytesT Tryz.prog 171 = some 224:=by kernel_rfl
@[simp] theorem Tryz.field171n0:fieldT Tryz.prog 171 0 = some (0,3):=by kernel_rfl
@[simp] theorem Tryz.field171n1:fieldT Tryz.prog 171 1 = some (1,3):=by kernel_rfl
@[simp] theorem Tryz.field171n2:fieldT Tryz.prog 171 2 = some (2,3):=by kernel_rfl
@[simp] theorem Tryz.field171n3:fieldT Tryz.prog 171 3 = some (3,3):=by kernel_rfl
@[simp] theorem Tryz.field171n4:fieldT Tryz.prog 171 4 = some (4,31):=by kernel_rfl
@[simp] theorem Tryz.field171n5:fieldT Tryz.prog 171 5 = some (5,169):=by kernel_rfl
@[simp] theorem Tryz.field171n6:fieldT Tryz.prog 171 6 = some (16,32):=by kernel_rfl
@[simp] theorem Tryz.field171n7:fieldT Tryz.prog 171 7 = some (17,3):=by kernel_rfl
@[simp] theorem Tryz.field171n8:fieldT Tryz.prog 171 8 = some (18,32):=by kernel_rfl
@[simp] theorem Tryz.T172:sizeT Tryz.prog 172 = some 1∧isAggT Tryz.prog 172 = some false∧zeroT Tryz.prog 172 = some [.nilslc]∧elemT Tryz.prog 172 = some 204:=by and_intros <;> kernel_rfl
@[simp] theorem Tryz.bytes172:bytesT Tryz.prog 172 = some 24:=by kernel_rfl
@[simp] theorem Tryz.T174:sizeT Tryz.prog 174 = some 2∧isAggT Tryz.prog 174 = some true∧zeroT Tryz.prog 174 = some [.int .i64 0,.nilslc]:=by and_intros <;> kernel_rfl
@[simp] theorem Tryz.bytes174:bytesT Tryz.prog 174 = some 32:=by kernel_rfl
@[simp] theorem Tryz.field174n0:fieldT Tryz.prog 174 0 = some (0,3):=by kernel_rfl
@[simp] theorem Tryz.field174n1:fieldT Tryz.prog 174 1 = some (1,172):=by kernel_rfl
@[simp] theorem Tryz.T175:sizeT Tryz.prog 175 = some 1∧isAggT Tryz.prog 175 = some false∧zeroT Tryz.prog 175 = some [.nilptr]:=by and_intros <;> kernel_rfl
@[simp] theorem Tryz.bytes175:bytesT Tryz.prog 175 = some 8:=by kernel_rfl
@[simp] theorem Tryz.T178:sizeT Tryz.prog 178 = some 3∧isAggT Tryz.prog 178 = some true∧zeroT Tryz.prog 178 = some [.nilptr,.nilslc,.bool false]:=by and_intros <;> kernel_rfl
@[simp] theorem Tryz.bytes178:bytesT Tryz.prog 178 = some 40:=by kernel_rfl
@[simp] theorem Tryz.field178n0:fieldT Tryz.prog 178 0 = some (0,175):=by kernel_rfl
@[simp] theorem Tryz.field178n1:fieldT Tryz.prog 178 1 = some (1,85):=by kernel_rfl
@[simp] theorem Tryz.field178n2:fieldT Tryz.prog 178 2 = some (2,4):=by kernel_rfl
@[simp] theorem Tryz.T179:sizeT Tryz.prog 179 = some 1∧isAggT Tryz.prog 179 = some false∧zeroT Tryz.prog 179 = some [.nilslc]∧elemT Tryz.prog 179 = some 31:=by and_intros <;> kernel_rfl
@[simp] theorem Tryz.bytes179:bytesT Tryz.prog 179 = some 24:=by kernel_rfl
@[simp] theorem Tryz.T181:sizeT Tryz.prog 181 = some 1∧isAggT Tryz.prog 181 = some true∧zeroT Tryz.prog 181 = some [.nilslc]:=by and_intros <;> kernel_rfl
@[simp] theorem Tryz.bytes181:bytesT Tryz.prog 181 = some 24:=by kernel_rfl
@[simp] theorem Tryz.field181n0:fieldT Tryz.prog 181 0 = some (0,179):=by kernel_rfl
@[simp] theorem Tryz.T182:sizeT Tryz.prog 182 = some 1∧isAggT Tryz.prog 182 = some false∧zeroT Tryz.prog 182 = some [.nilptr]:=by and_intros <;> kernel_rfl
@[simp] theorem Tryz.bytes182:bytesT Tryz.prog 182 = some 8:=by kernel_rfl
@[simp] theorem Tryz.T185:sizeT Tryz.prog 185 = some 1∧isAggT Tryz.prog 185 = some false∧zeroT Tryz.prog 185 = some [.nilptr]:=by and_intros <;> kernel_rfl
@[simp] theorem Tryz.bytes185:bytesT Tryz.prog 185 = some 8:=by kernel_rfl
@[simp] theorem Tryz.T187:sizeT Tryz.prog 187 = some 1∧isAggT Tryz.prog 187 = some false∧zeroT Tryz.prog 187 = some [.nilslc]∧elemT Tryz.prog 187 = some 4:=by and_intros <;> kernel_rfl
@[simp] theorem Tryz.bytes187:bytesT Tryz.prog 187 = some 24:=by kernel_rfl
@[simp] theorem Tryz.T188:sizeT Tryz.prog 188 = some 1∧isAggT Tryz.prog 188 = some false∧zeroT Tryz.prog 188 = some [.nilslc]∧elemT Tryz.prog 188 = some 202:=by and_intros <;> kernel_rfl
@[simp] theorem Tryz.bytes188:bytesT Tryz.prog 188 = some 24:=by kernel_rfl
@[simp] theorem Tryz.T189:sizeT Tryz.prog 189 = some 1∧isAggT Tryz.prog 189 = some false∧zeroT Tryz.prog 189 = some [.nilslc]∧elemT Tryz.prog 189 = some 283:=by and_intros <;> kernel_rfl
@[simp] theorem Tryz.bytes189:bytesT Tryz.prog 189 = some 24:=by kernel_rfl
@[simp] theorem Tryz.T190:sizeT Tryz.prog 190 = some 1∧isAggT Tryz.prog 190 = some false∧zeroT Tryz.prog 190 = some [.nilslc]∧elemT Tryz.prog 190 = some 319:=by and_intros <;> kernel_rfl
@[simp] theorem Tryz.bytes190:bytesT Tryz.prog 190 = some 24:=by kernel_rfl
@[simp] theorem Tryz.T192:sizeT Tryz.prog 192 = some 18∧isAggT Tryz.prog 192 = some true∧zeroT Tryz.prog 192 = some [.int .i64 0,.int .i64 0,.int .i64 0,.int .i64 0,.nilptr,.nilptr,.int .i64 0,.nilptr,.int .i64 0,.bool false,.bool false,.nilslc,.nilslc,.nilslc,.int .i64 0,.nilslc,.nilslc,.nilslc]:=by and_intros <;> kernel_rfl
@[simp] theorem Tryz.bytes192:bytesT Tryz.prog 192 = some 232:=by kernel_rfl
@[simp] theorem Tryz.field192n0:fieldT Tryz.prog 192 0 = some (0,3):=by kernel_rfl
@[simp] theorem Tryz.field192n1:fieldT Tryz.prog 192 1 = some (1,3):=by kernel_rfl
@[simp] theorem Tryz.field192n2:fieldT Tryz.prog 192 2 = some (2,3):=by kernel_rfl
@[simp] theorem Tryz.field192n3:fieldT Tryz.prog 192 3 = some (3,3):=by kernel_rfl
@[simp] theorem Tryz.field192n4:fieldT Tryz.prog 192 4 = some (4,182):=by kernel_rfl
@[simp] theorem Tryz.field192n5:fieldT Tryz.prog 192 5 = some (5,175):=by kernel_rfl
@[simp] theorem Tryz.field192n6:fieldT Tryz.prog 192 6 = some (6,3):=by kernel_rfl
@[simp] theorem Tryz.field192n7:fieldT Tryz.prog 192 7 = some (7,185):=by kernel_rfl
@[simp] theorem Tryz.field192n8:fieldT Tryz.prog 192 8 = some (8,3):=by kernel_rfl
@[simp] theorem Tryz.field192n9:fieldT Tryz.prog 192 9 = some (9,4):=by kernel_rfl
@[simp] theorem Tryz.field192n10:fieldT Tryz.prog 192 10 = some (10,4):=by kernel_rfl
@[simp] theorem Tryz.field192n11:fieldT Tryz.prog 192 11 = some (11,187):=by kernel_rfl
@[simp] theorem Tryz.field192n12:fieldT Tryz.prog 192 12 = some (12,188):=by kernel_rfl
@[simp] theorem Tryz.field192n13:fieldT Tryz.prog 192 13 = some (13,189):=by kernel_rfl
@[simp] theorem Tryz.field192n14:fieldT Tryz.prog 192 14 = some (14,3):=by kernel_rfl
@[simp] theorem Tryz.field192n15:fieldT Tryz.prog 192 15 = some (15,190):=by kernel_rfl
@[simp] theorem Tryz.field192n16:fieldT Tryz.prog 192 16 = some (16,172):=by kernel_rfl
@[simp] theorem Tryz.field192n17:fieldT Tryz.prog 192 17 = some (17,85):=by kernel_rfl
@[simp] theorem Tryz.T198:sizeT Tryz.prog 198 = some 1∧isAggT Tryz.prog 198 = some false∧zeroT Tryz.prog 198 = some [.nilslc]∧elemT Tryz.prog 198 = some 222:=by and_intros <;> kernel_rfl
@[simp] theorem Tryz.bytes198:bytesT Tryz.prog 198 = some 24:=by kernel_rfl
@[simp] theorem Tryz.T200:sizeT Tryz.prog 200 = some 21∧isAggT Tryz.prog 200 = some true∧zeroT Tryz.prog 200 = some [.int .i64 0,.int .i64 0,.int .i64 0,.bool false,.str [],.nilslc,.int .i64 0,.int .i64 0,.nilslc,.int .i64 0,.int .i64 0,.nilslc,.str [],.str [],.int .i64 0,.int .i64 0,.int .i64 0,.int .i64 0,.int .i64 0,.str [],.nilslc]:=by and_intros <;> kernel_rfl
@[simp] theorem Tryz.bytes200:bytesT Tryz.prog 200 = some 264:=by kernel_rfl
@[simp] theorem Tryz.field200n0:fieldT Tryz.prog 200 0 = some (0,3):=by kernel_rfl
@[simp] theorem Tryz.field200n1:fieldT Tryz.prog 200 1 = some (1,3):=by kernel_rfl
@[simp] theorem Tryz.field200n2:fieldT Tryz.prog 200 2 = some (2,3):=by kernel_rfl
@[simp] theorem Tryz.field200n3:fieldT Tryz.prog 200 3 = some (3,4):=by kernel_rfl
@[simp] theorem Tryz.field200n4:fieldT Tryz.prog 200 4 = some (4,9):=by kernel_rfl
@[simp] theorem Tryz.field200n5:fieldT Tryz.prog 200 5 = some (5,31):=by kernel_rfl
@[simp] theorem Tryz.field200n6:fieldT Tryz.prog 200 6 = some (6,3):=by kernel_rfl
@[simp] theorem Tryz.field200n7:fieldT Tryz.prog 200 7 = some (7,3):=by kernel_rfl
@[simp] theorem Tryz.field200n8:fieldT Tryz.prog 200 8 = some (8,198):=by kernel_rfl
@[simp] theorem Tryz.field200n9:fieldT Tryz.prog 200 9 = some (9,3):=by kernel_rfl
@[simp] theorem Tryz.field200n10:fieldT Tryz.prog 200 10 = some (10,169):=by kernel_rfl
@[simp] theorem Tryz.T202:sizeT Tryz.prog 202 = some 1∧isAggT Tryz.prog 202 = some false∧zeroT Tryz.prog 202 = some [.nilslc]∧elemT Tryz.prog 202 = some 274:=by and_intros <;> kernel_rfl
@[simp] theorem Tryz.bytes202:bytesT Tryz.prog 202 = some 24:=by kernel_rfl
@[simp] theorem Tryz.T204:sizeT Tryz.prog 204 = some 10∧isAggT Tryz.prog 204 = some true∧zeroT Tryz.prog 204 = some [.int .i64 0,.int .i64 0,.int .i64 0,.int .i64 0,.int .i64 0,.int .i64 0,.int .i64 0,.int .i64 0,.nilslc,.nilslc]:=by and_intros <;> kernel_rfl
@[simp] theorem Tryz.bytes204:bytesT Tryz.prog 204 = some 112:=by kernel_rfl
@[simp] theorem Tryz.field204n0:fieldT Tryz.prog 204 0 = some (0,3):=by kernel_rfl
@[simp] theorem Tryz.field204n1:fieldT Tryz.prog 204 1 = some (1,3):=by kernel_rfl
@[simp] theorem Tryz.field204n2:fieldT Tryz.prog 204 2 = some (2,3):=by kernel_rfl
@[simp] theorem Tryz.field204n3:fieldT Tryz.prog 204 3 = some (3,3):=by kernel_rfl
@[simp] theorem Tryz.field204n4:fieldT Tryz.prog 204 4 = some (4,3):=by kernel_rfl
@[simp] theorem Tryz.field204n5:fieldT Tryz.prog 204 5 = some (5,3):=by kernel_rfl
@[simp] theorem Tryz.field204n6:fieldT Tryz.prog 204 6 = some (6,3):=by kernel_rfl
@[simp] theorem Tryz.field204n7:fieldT Tryz.prog 204 7 = some (7,3):=by kernel_rfl
@[simp] theorem Tryz.field204n8:fieldT Tryz.prog 204 8 = some (8,31):=by kernel_rfl
@[simp] theorem Tryz.field204n9:fieldT Tryz.prog 204 9 = some (9,202):=by kernel_rfl
@[simp] theorem Tryz.T212:sizeT Tryz.prog 212 = some 7∧isAggT Tryz.prog 212 = some true∧zeroT Tryz.prog 212 = some [.int .i64 0,.int .i64 0,.int .i64 0,.int .i64 0,.int .i64 0,.nilslc,.nilslc]:=by and_intros <;> kernel_rfl
@[simp] theorem Tryz.bytes212:bytesT Tryz.prog 212 = some 88:=by kernel_rfl
@[simp] theorem Tryz.field212n0:fieldT Tryz.prog 212 0 = some (0,3):=by kernel_rfl
@[simp] theorem Tryz.field212n1:fieldT Tryz.prog 212 1 = some (1,3):=by kernel_rfl
@[simp] theorem Tryz.field212n2:fieldT Tryz.prog 212 2 = some (2,3):=by kernel_rfl
@[simp] theorem Tryz.field212n3:fieldT Tryz.prog 212 3 = some (3,3):=by kernel_rfl
@[simp] theorem Tryz.field212n4:fieldT Tryz.prog 212 4 = some (4,3):=by kernel_rfl
@[simp] theorem Tryz.field212n5:fieldT Tryz.prog 212 5 = some (5,31):=by kernel_rfl
@[simp] theorem Tryz.field212n6:fieldT Tryz.prog 212 6 = some (6,31):=by kernel_rfl
@[simp] theorem Tryz.T215:sizeT Tryz.prog 215 = some 1∧isAggT Tryz.prog 215 = some false∧zeroT Tryz.prog 215 = some [.nilptr]:=by and_intros <;> kernel_rfl
@[simp] theorem Tryz.bytes215:bytesT Tryz.prog 215 = some 8:=by kernel_rfl
@[simp] theorem Tryz.T217:sizeT Tryz.prog 217 = some 1∧isAggT Tryz.prog 217 = some false∧zeroT Tryz.prog 217 = some [.nilptr]:=by and_intros <;> kernel_rfl
@[simp] theorem Tryz.bytes217:bytesT Tryz.prog 217 = some 8:=by kernel_rfl
@[simp] theorem Tryz.T219:sizeT Tryz.prog 219 = some 3∧isAggT Tryz.prog 219 = some true∧zeroT Tryz.prog 219 = some [.int .i64 0,.nilptr,.nilptr]:=by and_intros <;> kernel_rfl
@[simp] theorem Tryz.bytes219:bytesT Tryz.prog 219 = some 24:=by kernel_rfl
@[simp] theorem Tryz.field219n0:fieldT Tryz.prog 219 0 = some (0,3):=by kernel_rfl
@[simp] theorem Tryz.field219n1:fieldT Tryz.prog 219 1 = some (1,215):=by kernel_rfl
@[simp] theorem Tryz.field219n2:fieldT Tryz.prog 219 2 = some (2,217):=by kernel_rfl
@[simp] theorem Tryz.T222:sizeT Tryz.prog 222 = some 4∧isAggT Tryz.prog 222 = some true∧zeroT Tryz.prog 222 = some [.str [],.str [],.int .i64 0,.int .i64 0]:=by and_intros <;> kernel_rfl
@[simp] theorem Tryz.bytes222:bytesT Tryz.prog 222 = some 48:=by kernel_rfl
@[simp] theorem Tryz.field222n0:fieldT Tryz.prog 222 0 = some (0,73):=by kernel_rfl
@[simp] theorem Tryz.field222n1:fieldT Tryz.prog 222 1 = some (2,3):=by kernel_rfl
@[simp] theorem Tryz.field222n2:fieldT Tryz.prog 222 2 = some (3,3):=by kernel_rfl
@[simp] theorem Tryz.T224:sizeT Tryz.prog 224 = some 5∧isAggT Tryz.prog 224 = some true∧zeroT Tryz.prog 224 = some [.nilptr,.int .i64 0,.nilslc,.int .i64 0,.nilslc]:=by and_intros <;> kernel_rfl
@[simp] theorem Tryz.bytes224:bytesT Tryz.prog 224 = some 72:=by kernel_rfl
@[simp] theorem Tryz.field224n0:fieldT Tryz.prog 224 0 = some (0,157):=by kernel_rfl
@[simp] theorem Tryz.field224n1:fieldT Tryz.prog 224 1 = some (1,3):=by kernel_rfl
@[simp] theorem Tryz.field224n2:fieldT Tryz.prog 224 2 = some (2,202):=by kernel_rfl
@[simp] theorem Tryz.field224n3:fieldT Tryz.prog 224 3 = some (3,3):=by kernel_rfl
@[simp] theorem Tryz.field224n4:fieldT Tryz.prog 224 4 = some (4,31):=by kernel_rfl
@[simp] theorem Tryz.T228:sizeT Tryz.prog 228 = some 1∧isAggT Tryz.prog 228 = some false∧zeroT Tryz.prog 228 = some [.nilslc]∧elemT Tryz.prog 228 = some 235:=by and_intros <;> kernel_rfl
@[simp] theorem Tryz.bytes228:bytesT Tryz.prog 228 = some 24:=by kernel_rfl
@[simp] theorem Tryz.T230:sizeT Tryz.prog 230 = some 4∧isAggT Tryz.prog 230 = some true∧zeroT Tryz.prog 230 = some [.int .i64 0,.int .i64 0,.nilslc,.nilslc]:=by and_intros <;> kernel_rfl
@[simp] theorem Tryz.bytes230:bytesT Tryz.prog 230 = some 64:=by kernel_rfl
@[simp] theorem Tryz.field230n0:fieldT Tryz.prog 230 0 = some (0,3):=by kernel_rfl
@[simp] theorem Tryz.field230n1:fieldT Tryz.prog 230 1 = some (1,3):=by kernel_rfl
@[simp] theorem Tryz.field230n2:fieldT Tryz.prog 230 2 = some (2,228):=by kernel_rfl
@[simp] theorem Tryz.field230n3:fieldT Tryz.prog 230 3 = some (3,228):=by kernel_rfl
@[simp] theorem Tryz.T235:sizeT Tryz.prog 235 = some 1∧isAggT Tryz.prog 235 = some false∧zeroT Tryz.prog 235 = some [.nilptr]:=by and_intros <;> kernel_rfl
@[simp] theorem Tryz.bytes235:bytesT Tryz.prog 235 = some 8:=by kernel_rfl
@[simp] theorem Tryz.T237:sizeT Tryz.prog 237 = some 4∧isAggT Tryz.prog 237 = some true∧zeroT Tryz.prog 237 = some [.int .i64 0,.int .i64 0,.nilslc,.nilslc]:=by and_intros <;> kernel_rfl
@[simp] theorem Tryz.bytes237:bytesT Tryz.prog 237 = some 64:=by kernel_rfl
@[simp] theorem Tryz.field237n0:fieldT Tryz.prog 237 0 = some (0,3):=by kernel_rfl
@[simp] theorem Tryz.field237n1:fieldT Tryz.prog 237 1 = some (1,3):=by kernel_rfl
@[simp] theorem Tryz.field237n2:fieldT Tryz.prog 237 2 = some (2,31):=by kernel_rfl
@[simp] theorem Tryz.field237n3:fieldT Tryz.prog 237 3 = some (3,60):=by kernel_rfl
@[simp] theorem Tryz.T251:sizeT Tryz.prog 251 = some 1∧isAggT Tryz.prog 251 = some false∧zeroT Tryz.prog 251 = some [.nilptr]:=by and_intros <;> kernel_rfl
@[simp] theorem Tryz.bytes251:bytesT Tryz.prog 251 = some 8:=by kernel_rfl
@[simp] theorem Tryz.T254:sizeT Tryz.prog 254 = some 1∧isAggT Tryz.prog 254 = some false∧zeroT Tryz.prog 254 = some [.nilptr]:=by and_intros <;> kernel_rfl
@[simp] theorem Tryz.bytes254:bytesT Tryz.prog 254 = some 8:=by kernel_rfl
@[simp] theorem Tryz.T257:sizeT Tryz.prog 257 = some 15∧isAggT Tryz.prog 257 = some true∧zeroT Tryz.prog 257 = some [.int .i64 0,.nilptr,.int .i64 0,.int .i64 0,.nilslc,.str [],.str [],.int .i64 0,.int .i64 0,.int .i64 0,.int .i64 0,.int .i64 0,.str [],.nilslc,.nilptr]:=by and_intros <;> kernel_rfl
@[simp] theorem Tryz.bytes257:bytesT Tryz.prog 257 = some 176:=by kernel_rfl
@[simp] theorem Tryz.field257n0:fieldT Tryz.prog 257 0 = some (0,3):=by kernel_rfl
@[simp] theorem Tryz.field257n1:fieldT Tryz.prog 257 1 = some (1,251):=by kernel_rfl
@[simp] theorem Tryz.field257n2:fieldT Tryz.prog 257 2 = some (2,3):=by kernel_rfl
@[simp] theorem Tryz.field257n3:fieldT Tryz.prog 257 3 = some (3,169):=by kernel_rfl
@[simp] theorem Tryz.field257n4:fieldT Tryz.prog 257 4 = some (14,254):=by kernel_rfl
@[simp] theorem Tryz.T258:sizeT Tryz.prog 258 = some 1∧isAggT Tryz.prog 258 = some false∧zeroT Tryz.prog 258 = some [.nilslc]∧elemT Tryz.prog 258 = some 262:=by and_intros <;> kernel_rfl
@[simp] theorem Tryz.bytes258:bytesT Tryz.prog 258 = some 24:=by kernel_rfl
@[simp] theorem Tryz.T260:sizeT Tryz.prog 260 = some 3∧isAggT Tryz.prog 260 = some true∧zeroT Tryz.prog 260 = some [.nilslc,.int .i64 0,.int .i64 0]:=by and_intros <;> kernel_rfl
@[simp] theorem Tryz.bytes260:bytesT Tryz.prog 260 = some 40:=by kernel_rfl
@[simp] theorem Tryz.field260n0:fieldT Tryz.prog 260 0 = some (0,258):=by kernel_rfl
@[simp] theorem Tryz.field260n1:fieldT Tryz.prog 260 1 = some (1,3):=by kernel_rfl
@[simp] theorem Tryz.field260n2:fieldT Tryz.prog 260 2 = some (2,32):=by kernel_rfl
@[simp] theorem Tryz.T261:sizeT Tryz.prog 261 = some 1∧isAggT Tryz.prog 261 = some false∧zeroT Tryz.prog 261 = some [.nilslc]∧elemT Tryz.prog 261 = some 73:=by and_intros <;> kernel_rfl
@[simp] theorem Tryz.bytes261:bytesT Tryz.prog 261 = some 24:=by kernel_rfl
@[simp] theorem Tryz.T262:sizeT Tryz.prog 262 = some 1∧isAggT Tryz.prog 262 = some false∧zeroT Tryz.prog 262 = some [.nilptr]:=by and_intros <;> kernel_rfl
@[simp] theorem Tryz.bytes262:bytesT Tryz.prog 262 = some 8:=by kernel_rfl
@[simp] theorem Tryz.T263:sizeT Tryz.prog 263 = some 1∧isAggT Tryz.prog 263 = some false∧zeroT Tryz.prog 263 = some [.nilptr]:=by and_intros <;> kernel_rfl
@[simp] theorem Tryz.bytes263:bytesT Tryz.prog 263 = some 8:=by kernel_rfl
@[simp] theorem Tryz.T266:sizeT Tryz.prog 266 = some 6∧isAggT Tryz.prog 266 = some true∧zeroT Tryz.prog 266 = some [.str [],.str [],.int .i64 0,.bool false,.nilptr,.nilptr]:=by and_intros <;> kernel_rfl
@[simp] theorem Tryz.bytes266:bytesT Tryz.prog 266 = some 64:=by kernel_rfl
@[simp] theorem Tryz.field266n0:fieldT Tryz.prog 266 0 = some (0,73):=by kernel_rfl
@[simp] theorem Tryz.field266n1:fieldT Tryz.prog 266 1 = some (2,3):=by kernel_rfl
@[simp] theorem Tryz.field266n2:fieldT Tryz.prog 266 2 = some (3,4):=by kernel_rfl
@[simp] theorem Tryz.field266n3:fieldT Tryz.prog 266 3 = some (4,263):=by kernel_rfl
@[simp] theorem Tryz.field266n4:fieldT Tryz.prog 266 4 = some (5,254):=by kernel_rfl
@[simp] theorem Tryz.T269:sizeT Tryz.prog 269 = some 1∧isAggT Tryz.prog 269 = some false∧zeroT Tryz.prog 269 = some [.nilptr]:=by and_intros <;> kernel_rfl
@[simp] theorem Tryz.bytes269:bytesT Tryz.prog 269 = some 8:=by kernel_rfl
@[simp] theorem Tryz.T271:sizeT Tryz.prog 271 = some 1∧isAggT Tryz.prog 271 = some true∧zeroT Tryz.prog 271 = some [.nilslc]:=by and_intros <;> kernel_rfl
@[simp] theorem Tryz.bytes271:bytesT Tryz.prog 271 = some 24:=by kernel_rfl
@[simp] theorem Tryz.field271n0:fieldT Tryz.prog 271 0 = some (0,31):=by kernel_rfl
@[simp] theorem Tryz.T274:sizeT Tryz.prog 274 = some 3∧isAggT Tryz.prog 274 = some true∧zeroT Tryz.prog 274 = some [.int .i64 0,.int .i64 0,.nilslc]:=by and_intros <;> kernel_rfl
@[simp] theorem Tryz.bytes274:bytesT Tryz.prog 274 = some 40:=by kernel_rfl
@[simp] theorem Tryz.field274n0:fieldT Tryz.prog 274 0 = some (0,3):=by kernel_rfl
@[simp] theorem Tryz.field274n1:fieldT Tryz.prog 274 1 = some (1,3):=by kernel_rfl
@[simp] theorem Tryz.field274n2:fieldT Tryz.prog 274 2 = some (2,31):=by kernel_rfl
@[simp] theorem Tryz.T283:sizeT Tryz.prog 283 = some 2∧isAggT Tryz.prog 283 = some true∧zeroT Tryz.prog 283 = some [.int .i64 0,.nilslc]:=by and_intros <;> kernel_rfl
@[simp] theorem Tryz.bytes283:bytesT Tryz.prog 283 = some 32:=by kernel_rfl
@[simp] theorem Tryz.field283n0:fieldT Tryz.prog 283 0 = some (0,3):=by kernel_rfl
@[simp] theorem Tryz.field283n1:fieldT Tryz.prog 283 1 = some (1,31):=by kernel_rfl
@[simp] theorem Tryz.T292:sizeT Tryz.prog 292 = some 1∧isAggT Tryz.prog 292 = some false∧zeroT Tryz.prog 292 = some [.nilslc]∧elemT Tryz.prog 292 = some 402:=by and_intros <;> kernel_rfl
@[simp] theorem Tryz.bytes292:bytesT Tryz.prog 292 = some 24:=by kernel_rfl
@[simp] theorem Tryz.T294:sizeT Tryz.prog 294 = some 1∧isAggT Tryz.prog 294 = some true∧zeroT Tryz.prog 294 = some [.nilslc]:=by and_intros <;> kernel_rfl
@[simp] theorem Tryz.bytes294:bytesT Tryz.prog 294 = some 24:=by kernel_rfl
@[simp] theorem Tryz.field294n0:fieldT Tryz.prog 294 0 = some (0,292):=by kernel_rfl
@[simp] theorem Tryz.T296:sizeT Tryz.prog 296 = some 1∧isAggT Tryz.prog 296 = some true∧zeroT Tryz.prog 296 = some [.nilslc]:=by and_intros <;> kernel_rfl
@[simp] theorem Tryz.bytes296:bytesT Tryz.prog 296 = some 24:=by kernel_rfl
@[simp] theorem Tryz.field296n0:fieldT Tryz.prog 296 0 = some (0,167):=by kernel_rfl
@[simp] theorem Tryz.T319:sizeT Tryz.prog 319 = some 3∧isAggT Tryz.prog 319 = some true∧zeroT Tryz.prog 319 = some [.int .i64 0,.int .i64 0,.nilslc]:=by and_intros <;> kernel_rfl
@[simp] theorem Tryz.bytes319:bytesT Tryz.prog 319 = some 40:=by kernel_rfl
@[simp] theorem Tryz.field319n0:fieldT Tryz.prog 319 0 = some (0,3):=by kernel_rfl
@[simp] theorem Tryz.field319n1:fieldT Tryz.prog 319 1 = some (1,3):=by kernel_rfl
@[simp] theorem Tryz.field319n2:fieldT Tryz.prog 319 2 = some (2,31):=by kernel_rfl
@[simp] theorem Tryz.T330:sizeT Tryz.prog 330 = some 1∧isAggT Tryz.prog 330 = some false∧zeroT Tryz.prog 330 = some [.nilptr]:=by and_intros <;> kernel_rfl
@[simp] theorem Tryz.bytes330:bytesT Tryz.prog 330 = some 8:=by kernel_rfl
@[simp] theorem Tryz.T355:sizeT Tryz.prog 355 = some 1∧isAggT Tryz.prog 355 = some false∧zeroT Tryz.prog 355 = some [.nilslc]∧elemT Tryz.prog 355 = some 428:=by and_intros <;> kernel_rfl
@[simp] theorem Tryz.bytes355:bytesT Tryz.prog 355 = some 24:=by kernel_rfl
@[simp] theorem Tryz.T357:sizeT Tryz.prog 357 = some 1∧isAggT Tryz.prog 357 = some true∧zeroT Tryz.prog 357 = some [.nilslc]:=by and_intros <;> kernel_rfl
@[simp] theorem Tryz.bytes357:bytesT Tryz.prog 357 = some 24:=by kernel_rfl
@[simp] theorem Tryz.field357n0:fieldT Tryz.prog 357 0 = some (0,355):=by kernel_rfl
@[simp] theorem Tryz.T359:sizeT Tryz.prog 359 = some 2∧isAggT Tryz.prog 359 = some true∧zeroT Tryz.prog 359 = some [.str [],.nilslc]:=by and_intros <;> kernel_rfl
@[simp] theorem Tryz.bytes359:bytesT Tryz.prog 359 = some 40:=by kernel_rfl
@[simp] theorem Tryz.field359n0:fieldT Tryz.prog 359 0 = some (0,9):=by kernel_rfl
@[simp] theorem Tryz.field359n1:fieldT Tryz.prog 359 1 = some (1,357):=by kernel_rfl
@[simp] theorem Tryz.T381:sizeT Tryz.prog 381 = some 1∧isAggT Tryz.prog 381 = some true∧zeroT Tryz.prog 381 = some [.nilslc]:=by and_intros <;> kernel_rfl
@[simp] theorem Tryz.bytes381:bytesT Tryz.prog 381 = some 24:=by kernel_rfl
@[simp] theorem Tryz.field381n0:fieldT Tryz.prog 381 0 = some (0,31):=by kernel_rfl
@[simp] theorem Tryz.T389:sizeT Tryz.prog 389 = some 1∧isAggT Tryz.prog 389 = some false∧zeroT Tryz.prog 389 = some [.nilslc]∧elemT Tryz.prog 389 = some 198:=by and_intros <;> kernel_rfl
@[simp] theorem Tryz.bytes389:bytesT Tryz.prog 389 = some 24:=by kernel_rfl
@[simp] theorem Tryz.T391:sizeT Tryz.prog 391 = some 1∧isAggT Tryz.prog 391 = some true∧zeroT Tryz.prog 391 = some [.nilslc]:=by and_intros <;> kernel_rfl
@[simp] theorem Tryz.bytes391:bytesT Tryz.prog 391 = some 24:=by kernel_rfl
@[simp] theorem Tryz.field391n0:fieldT Tryz.prog 391 0 = some (0,389):=by kernel_rfl
@[simp] theorem Tryz.T402:sizeT Tryz.prog 402 = some 3∧isAggT Tryz.prog 402 = some true∧zeroT Tryz.prog 402 = some [.int .i64 0,.int .i64 0,.nilslc]:=by and_intros <;> kernel_rfl
@[simp] theorem Tryz.bytes402:bytesT Tryz.prog 402 = some 40:=by kernel_rfl
@[simp] theorem Tryz.field402n0:fieldT Tryz.prog 402 0 = some (0,3):=by kernel_rfl
@[simp] theorem Tryz.field402n1:fieldT Tryz.prog 402 1 = some (1,3):=by kernel_rfl
@[simp] theorem Tryz.field402n2:fieldT Tryz.prog 402 2 = some (2,31):=by kernel_rfl
@[simp] theorem Tryz.T417:sizeT Tryz.prog 417 = some 16∧isAggT Tryz.prog 417 = some true∧zeroT Tryz.prog 417 = some [.bool false,.bool false,.bool false,.bool false,.bool false,.bool false,.bool false,.bool false,.bool false,.bool false,.bool false,.bool false,.bool false,.bool false,.bool false,.bool false]:=by and_intros <;> kernel_rfl
@[simp] theorem Tryz.bytes417:bytesT Tryz.prog 417 = some 16:=by kernel_rfl
@[simp] theorem Tryz.T426:sizeT Tryz.prog 426 = some 1∧isAggT Tryz.prog 426 = some false∧zeroT Tryz.prog 426 = some [.nilslc]∧elemT Tryz.prog 426 = some 430:=by and_intros <;> kernel_rfl
@[simp] theorem Tryz.bytes426:bytesT Tryz.prog 426 = some 24:=by kernel_rfl
@[simp] theorem Tryz.T428:sizeT Tryz.prog 428 = some 2∧isAggT Tryz.prog 428 = some true∧zeroT Tryz.prog 428 = some [.str [],.nilslc]:=by and_intros <;> kernel_rfl
@[simp] theorem Tryz.bytes428:bytesT Tryz.prog 428 = some 40:=by kernel_rfl
@[simp] theorem Tryz.field428n0:fieldT Tryz.prog 428 0 = some (0,9):=by kernel_rfl
@[simp] theorem Tryz.field428n1:fieldT Tryz.prog 428 1 = some (1,426):=by kernel_rfl
@[simp] theorem Tryz.T430:sizeT Tryz.prog 430 = some 4∧isAggT Tryz.prog 430 = some true∧zeroT Tryz.prog 430 = some [.int .i64 0,.int .i64 0,.nilslc,.flt 0]:=by and_intros <;> kernel_rfl
@[simp] theorem Tryz.bytes430:bytesT Tryz.prog 430 = some 48:=by kernel_rfl
@[simp] theorem Tryz.field430n0:fieldT Tryz.prog 430 0 = some (0,2):=by kernel_rfl
@[simp] theorem Tryz.field430n1:fieldT Tryz.prog 430 1 = some (1,65):=by kernel_rfl
@[simp] theorem Tryz.T477:sizeT Tryz.prog 477 = some 1∧isAggT Tryz.prog 477 = some false∧zeroT Tryz.prog 477 = some [.int .i64 0]:=by and_intros <;> kernel_rfl
@[simp] theorem Tryz.bytes477:bytesT Tryz.prog 477 = some 8:=by kernel_rfl
@[simp] theorem Tryz.T505:sizeT Tryz.prog 505 = some 1∧isAggT Tryz.prog 505 = some false∧zeroT Tryz.prog 505 = some [.int .u64 0]:=by and_intros <;> kernel_rfl
@[simp] theorem Tryz.bytes505:bytesT Tryz.prog 505 = some 8:=by kernel_rfl
@[simp] theorem Tryz.T508:sizeT Tryz.prog 508 = some 1∧isAggT Tryz.prog 508 = some false∧zeroT Tryz.prog 508 = some [.nilptr]:=by and_intros <;> kernel_rfl
@[simp] theorem Tryz.bytes508:bytesT Tryz.prog 508 = some 8:=by kernel_rfl
@[simp] theorem Tryz.T516:sizeT Tryz.prog 516 = some 1∧isAggT Tryz.prog 516 = some false∧zeroT Tryz.prog 516 = some [.nilptr]:=by and_intros <;> kernel_rfl
@[simp] theorem Tryz.bytes516:bytesT Tryz.prog 516 = some 8:=by kernel_rfl
end Go.Proofs.YtofafocfemikcaaGreat
