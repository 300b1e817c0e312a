import Derived.Test.YteiaggdjlpehlaaT8
set_option linter.all false
open Go Go.J
set_option maxRecDepth 100000
set_option linter.all false
namespace Go.Proofs.Aw
theorem t7:CutL Try.prog 150 (qp5 (b35 [1,1,1,1,1,1,1,0])) 0 1 L7 L8:=z4a mixedA 100000000 rfl (by kernel_rfl) (by kernel_rfl) (by kernel_rfl)
theorem t15:CutE Try.prog 41 (b54 [1,0,1,0,0]) L19 0 L20:=z49 mixedA 100000000 rfl (by kernel_rfl) (by kernel_rfl)
theorem t38:CutL Try.prog 150 (qp5 (b35 [1,1,1,1,1,1,1,0])) 2 5 L29 L30:=z4a mixedA 100000000 rfl (by kernel_rfl) (by kernel_rfl) (by kernel_rfl)
theorem t47:CutE Try.prog 97 (b29 [1,1,1,1,1,1,0]) L40 0 L41:=z49 mixedA 100000000 rfl (by kernel_rfl) (by kernel_rfl)
theorem t55:CutE Try.prog 41 (b54 [1,0,1,0,0]) L50 2 L51:=z49 mixedA 100000000 rfl (by kernel_rfl) (by kernel_rfl)
theorem t94:CutL Try.prog 150 (qp5 (b35 [1,1,1,1,1,1,1,1,1,0])) 1 1 L62 L63:=z4a mixedA 100000000 rfl (by kernel_rfl) (by kernel_rfl) (by kernel_rfl)
theorem t103:CutE Try.prog 57 (b32 [1,1,1,1,0,1,0,0,0]) L71 0 L72:=z49 mixedA 100000000 rfl (by kernel_rfl) (by kernel_rfl)
theorem t114:CutE Try.prog 57 (b32 [1,1,1,1,0,1,0,0]) L79 0 L80:=z49 mixedA 100000000 rfl (by kernel_rfl) (by kernel_rfl)
theorem t122:CutE Try.prog 57 (b32 [1,1,1,1,0,1,0,0]) L87 0 L88:=z49 mixedA 100000000 rfl (by kernel_rfl) (by kernel_rfl)
theorem t143:CutE Try.prog 150 (b35 [1,1,1,1,1,1,1,1,1,1,1,0]) L96 0 L97:=z49 mixedA 100000000 rfl (by kernel_rfl) (by kernel_rfl)
end Go.Proofs.Aw
