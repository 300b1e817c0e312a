import Derived.Test.YteiaggdjlpehlaaT8
set_option linter.all false
open Go Go.J
set_option maxRecDepth 100000
set_option linter.all false
namespace Go.Proofs.Aw
theorem t4:CutE Try.prog 150 (b35 [1,1,1,1,0]) L4 0 L5:=z49 mixedA 100000000 rfl (by kernel_rfl) (by kernel_rfl)
theorem t12:CutE Try.prog 41 (b54 [0]) L16 0 L17:=z49 mixedA 100000000 rfl (by kernel_rfl) (by kernel_rfl)
theorem t23:CutE Try.prog 41 (b54 [1,1,1]) L24 1 L25:=z49 mixedA 100000000 rfl (by kernel_rfl) (by kernel_rfl)
theorem t44:CutE Try.prog 97 (b29 [1,1,1,0]) L37 0 L38:=z49 mixedA 100000000 rfl (by kernel_rfl) (by kernel_rfl)
theorem t52:CutE Try.prog 41 (b54 [1,0,1,0,0]) L47 0 L48:=z49 mixedA 100000000 rfl (by kernel_rfl) (by kernel_rfl)
theorem t70:CutE Try.prog 97 (b29 [1,1,1,1,1,1,1,1,0]) L56 0 L57:=z49 mixedA 100000000 rfl (by kernel_rfl) (by kernel_rfl)
theorem t100:CutE Try.prog 57 (b32 [1,1,1,0]) L68 0 L69:=z49 mixedA 100000000 rfl (by kernel_rfl) (by kernel_rfl)
theorem t111:CutE Try.prog 57 (b32 [1,1,1,1,0,1,0,0]) L76 0 L77:=z49 mixedA 100000000 rfl (by kernel_rfl) (by kernel_rfl)
theorem t119:CutE Try.prog 57 (b32 [1,1,1,1,0,1,0,0]) L84 0 L85:=z49 mixedA 100000000 rfl (by kernel_rfl) (by kernel_rfl)
theorem t130:CutE Try.prog 57 (b32 [1,1,1,1,1,1,1]) L92 1 L93:=z49 mixedA 100000000 rfl (by kernel_rfl) (by kernel_rfl)
end Go.Proofs.Aw
