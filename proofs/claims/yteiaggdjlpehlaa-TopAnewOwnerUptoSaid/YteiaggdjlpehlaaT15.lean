import Derived.Test.YteiaggdjlpehlaaT8
set_option linter.all false
open Go Go.J
set_option maxRecDepth 100000
set_option linter.all false
namespace Go.Proofs.Aw
theorem t6:CutE Try.prog 150 (b35 [1,1,1,1,1,1,0]) L6 0 L7:=z49 mixedA 100000000 rfl (by kernel_rfl) (by kernel_rfl)
theorem t14:CutE Try.prog 41 (b54 [1,0,1,0,0]) L18 0 L19:=z49 mixedA 100000000 rfl (by kernel_rfl) (by kernel_rfl)
theorem t31:CutE Try.prog 32 (b24 [1,1,1,1]) L27 1 L28:=z49 mixedA 100000000 rfl (by kernel_rfl) (by kernel_rfl)
theorem t46:CutE Try.prog 97 (b29 [1,1,1,1,1,0]) L39 0 L40:=z49 mixedA 100000000 rfl (by kernel_rfl) (by kernel_rfl)
theorem t54:CutE Try.prog 41 (b54 [1,0,1,0,0]) L49 0 L50:=z49 mixedA 100000000 rfl (by kernel_rfl) (by kernel_rfl)
theorem t92:CutC Try.prog 64 [.int .i64 3,.int .i64 1610,.int .i64 1615,.int .i64 (-1)] L61.ch L61.nx (.agg [.int .i64 3,.int .i64 1610,.int .i64 1615,.int .i64 (-1)]) H62 7390:=z48 mixedA 100000000 (h':=endH (runE Try.prog 100000000 (.call 64 [.int .i64 3,.int .i64 1610,.int .i64 1615,.int .i64 (-1)] ⟨L61.nx,trL L61.ch,[]⟩))) (by kernel_rfl) (by kernel_rfl) (by kernel_rfl) (by kernel_rfl)
theorem t102:CutE Try.prog 57 (b32 [1,1,1,1,0,1,0,0]) L70 0 L71:=z49 mixedA 100000000 rfl (by kernel_rfl) (by kernel_rfl)
theorem t113:CutE Try.prog 57 (b32 [1,1,1,1,0,1,0,0]) L78 0 L79:=z49 mixedA 100000000 rfl (by kernel_rfl) (by kernel_rfl)
theorem t121:CutE Try.prog 57 (b32 [1,1,1,1,0,1,0,0]) L86 0 L87:=z49 mixedA 100000000 rfl (by kernel_rfl) (by kernel_rfl)
theorem t142:CutE Try.prog 150 (b35 [1,1,1,1,1,1,1,1,1,1,0]) L95 0 L96:=z49 mixedA 100000000 rfl (by kernel_rfl) (by kernel_rfl)
end Go.Proofs.Aw
