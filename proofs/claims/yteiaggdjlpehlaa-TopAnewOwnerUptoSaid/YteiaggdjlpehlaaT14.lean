import Derived.Test.YteiaggdjlpehlaaT8
set_option linter.all false
open Go Go.J
set_option maxRecDepth 100000
set_option linter.all false
namespace Go.Proofs.Aw
theorem t5:CutE Try.prog 150 (b35 [1,1,1,1,1,0]) L5 0 L6:=z49 mixedA 100000000 rfl (by kernel_rfl) (by kernel_rfl)
theorem t13:CutE Try.prog 41 (b54 [1,0,0]) L17 0 L18:=z49 mixedA 100000000 rfl (by kernel_rfl) (by kernel_rfl)
theorem t29:CutL Try.prog 32 (qp5 (b24 [1,1,1,0])) 3 2 L26 L27:=z4a mixedA 100000000 rfl (by kernel_rfl) (by kernel_rfl) (by kernel_rfl)
theorem t45:CutE Try.prog 97 (b29 [1,1,1,1,0]) L38 0 L39:=z49 mixedA 100000000 rfl (by kernel_rfl) (by kernel_rfl)
theorem t53:CutE Try.prog 41 (b54 [1,0,1,0,0]) L48 0 L49:=z49 mixedA 100000000 rfl (by kernel_rfl) (by kernel_rfl)
theorem t71:CutE Try.prog 97 (b29 [1,1,1,1,1,1,1,1,1]) L57 1 L58:=z49 mixedA 100000000 rfl (by kernel_rfl) (by kernel_rfl)
theorem t101:CutE Try.prog 57 (b32 [1,1,1,1,0,0]) L69 0 L70:=z49 mixedA 100000000 rfl (by kernel_rfl) (by kernel_rfl)
theorem t112:CutE Try.prog 57 (b32 [1,1,1,1,0,1,0,0]) L77 0 L78:=z49 mixedA 100000000 rfl (by kernel_rfl) (by kernel_rfl)
theorem t120:CutE Try.prog 57 (b32 [1,1,1,1,0,1,0,0]) L85 0 L86:=z49 mixedA 100000000 rfl (by kernel_rfl) (by kernel_rfl)
theorem t140:CutL Try.prog 150 (qp5 (b35 [1,1,1,1,1,1,1,1,1,0])) 4 5 L94 L95:=z4a mixedA 100000000 rfl (by kernel_rfl) (by kernel_rfl) (by kernel_rfl)
end Go.Proofs.Aw
