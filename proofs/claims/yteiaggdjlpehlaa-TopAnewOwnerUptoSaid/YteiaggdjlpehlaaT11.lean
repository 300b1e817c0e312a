import Derived.Test.YteiaggdjlpehlaaT8
set_option linter.all false
open Go Go.J
set_option maxRecDepth 100000
set_option linter.all false
namespace Go.Proofs.Aw
theorem t2:CutE Try.prog 150 (b35 [1,1,0]) L2 0 L3:=z49 mixedA 100000000 rfl (by kernel_rfl) (by kernel_rfl)
theorem t10:CutE Try.prog 32 (b24 [1,1,0]) L12 0 L13:=z49 mixedA 100000000 rfl (by kernel_rfl) (by kernel_rfl)
theorem t18:CutE Try.prog 41 (b54 [1,0,1,0,0]) L22 2 L23:=z49 mixedA 100000000 rfl (by kernel_rfl) (by kernel_rfl)
theorem t42:CutE Try.prog 97 (b29 [1,0]) L35 0 L36:=z49 mixedA 100000000 rfl (by kernel_rfl) (by kernel_rfl)
theorem t50:CutE Try.prog 41 (b54 [1,0,0]) L45 0 L46:=z49 mixedA 100000000 rfl (by kernel_rfl) (by kernel_rfl)
theorem t66:CutL Try.prog 97 (qp5 (b29 [1,1,1,1,1,1,1,0,0])) 3 2 L54 L55:=z4a mixedA 100000000 rfl (by kernel_rfl) (by kernel_rfl) (by kernel_rfl)
theorem t98:CutE Try.prog 57 (b32 [1,0]) L66 0 L67:=z49 mixedA 100000000 rfl (by kernel_rfl) (by kernel_rfl)
theorem t106:CutE Try.prog 57 (b32 [1,1,1,1,0,1,0,0,1,1,1]) L74 0 L75:=z49 mixedA 100000000 rfl (by kernel_rfl) (by kernel_rfl)
theorem t117:CutE Try.prog 57 (b32 [1,1,1,1,0,1,0,0]) L82 0 L83:=z49 mixedA 100000000 rfl (by kernel_rfl) (by kernel_rfl)
theorem t128:CutE Try.prog 57 (b32 [1,1,1,1,1,0]) L90 0 L91:=z49 mixedA 100000000 rfl (by kernel_rfl) (by kernel_rfl)
end Go.Proofs.Aw
