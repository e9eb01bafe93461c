/- A part of a proof over the abstract machine. No conditions. -/
import Derived.Test.YtgdonnfchhdflaaAb3
import Derived.Test.YtgdonnfchhdflaaRows
/- the program's types, looked up -/
namespace Go.Proofs.Ytgdonnfchhdflaa
open Go Go.Ab
theorem Try.tyCount : Try.prog.types.size = 70 := by kernel_rfl
attribute [simp] Try.tyCount
attribute [simp] Try.underlying2
@[simp] theorem Try.size2 : sizeT Try.prog 2 = some 1 := by kernel_rfl
@[simp] theorem Try.bytes2 : bytesT Try.prog 2 = some 8 := by kernel_rfl
@[simp] theorem Try.agg2 : isAggT Try.prog 2 = some false := by kernel_rfl
attribute [simp] Try.underlying3
@[simp] theorem Try.size3 : sizeT Try.prog 3 = some 1 := by kernel_rfl
@[simp] theorem Try.bytes3 : bytesT Try.prog 3 = some 8 := by kernel_rfl
@[simp] theorem Try.agg3 : isAggT Try.prog 3 = some false := by kernel_rfl
attribute [simp] Try.underlying4
@[simp] theorem Try.size4 : sizeT Try.prog 4 = some 1 := by kernel_rfl
@[simp] theorem Try.bytes4 : bytesT Try.prog 4 = some 1 := by kernel_rfl
@[simp] theorem Try.agg4 : isAggT Try.prog 4 = some false := by kernel_rfl
attribute [simp] Try.underlying22
@[simp] theorem Try.size22 : sizeT Try.prog 22 = some 1 := by kernel_rfl
@[simp] theorem Try.bytes22 : bytesT Try.prog 22 = some 8 := by kernel_rfl
@[simp] theorem Try.agg22 : isAggT Try.prog 22 = some false := by kernel_rfl
attribute [simp] Try.underlying23
@[simp] theorem Try.size23 : sizeT Try.prog 23 = some 1 := by kernel_rfl
@[simp] theorem Try.bytes23 : bytesT Try.prog 23 = some 8 := by kernel_rfl
@[simp] theorem Try.agg23 : isAggT Try.prog 23 = some false := by kernel_rfl
attribute [simp] Try.underlying38
@[simp] theorem Try.size38 : sizeT Try.prog 38 = some 1 := by kernel_rfl
@[simp] theorem Try.bytes38 : bytesT Try.prog 38 = some 24 := by kernel_rfl
@[simp] theorem Try.agg38 : isAggT Try.prog 38 = some false := by kernel_rfl
@[simp] theorem Try.elem38 : elemT Try.prog 38 = some 22 := by kernel_rfl
attribute [simp] Try.underlying39
@[simp] theorem Try.size39 : sizeT Try.prog 39 = some 1 := by kernel_rfl
@[simp] theorem Try.bytes39 : bytesT Try.prog 39 = some 24 := by kernel_rfl
@[simp] theorem Try.agg39 : isAggT Try.prog 39 = some false := by kernel_rfl
@[simp] theorem Try.elem39 : elemT Try.prog 39 = some 23 := by kernel_rfl
end Go.Proofs.Ytgdonnfchhdflaa
