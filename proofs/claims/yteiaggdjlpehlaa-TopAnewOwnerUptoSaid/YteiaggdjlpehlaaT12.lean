import Derived.Test.YteiaggdjlpehlaaT8
set_option linter.all false
open Go Go.J
set_option maxRecDepth 100000
set_option linter.all false
namespace Go.Proofs.Aw
theorem t3:CutE Try.prog 150 (b35 [1,1,1,0]) L3 0 L4:=z49 mixedA 100000000 rfl (by kernel_rfl) (by kernel_rfl)
theorem t11:CutL Try.prog 32 (qp5 (b24 [1,1,1,0])) 0 2 L13 L14:=z4a mixedA 100000000 rfl (by kernel_rfl) (by kernel_rfl) (by kernel_rfl)
theorem t22:CutE Try.prog 41 (b54 [1,1,0]) L23 0 L24:=z49 mixedA 100000000 rfl (by kernel_rfl) (by kernel_rfl)
theorem t43:CutE Try.prog 97 (b29 [1,1,0]) L36 0 L37:=z49 mixedA 100000000 rfl (by kernel_rfl) (by kernel_rfl)
theorem t51:CutE Try.prog 41 (b54 [1,0,1,0,0]) L46 0 L47:=z49 mixedA 100000000 rfl (by kernel_rfl) (by kernel_rfl)
theorem t68:CutE Try.prog 97 (b29 [1,1,1,1,1,1,1,0,1]) L55 0 L56:=z49 mixedA 100000000 rfl (by kernel_rfl) (by kernel_rfl)
theorem t99:CutE Try.prog 57 (b32 [1,1,0]) L67 0 L68:=z49 mixedA 100000000 rfl (by kernel_rfl) (by kernel_rfl)
theorem t110:CutE Try.prog 57 (b32 [1,1,1,1,0,1,0,0]) L75 0 L76:=z49 mixedA 100000000 rfl (by kernel_rfl) (by kernel_rfl)
theorem t118:CutE Try.prog 57 (b32 [1,1,1,1,0,1,0,0]) L83 0 L84:=z49 mixedA 100000000 rfl (by kernel_rfl) (by kernel_rfl)
theorem t129:CutE Try.prog 57 (b32 [1,1,1,1,1,1,0]) L91 0 L92:=z49 mixedA 100000000 rfl (by kernel_rfl) (by kernel_rfl)
end Go.Proofs.Aw
