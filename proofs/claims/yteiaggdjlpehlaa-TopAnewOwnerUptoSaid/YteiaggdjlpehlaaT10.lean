import Derived.Test.YteiaggdjlpehlaaT8
set_option linter.all false
open Go Go.J
set_option maxRecDepth 100000
set_option linter.all false
namespace Go.Proofs.Aw
theorem t1:CutE Try.prog 150 (b35 [1,0]) L1 0 L2:=z49 mixedA 100000000 rfl (by kernel_rfl) (by kernel_rfl)
theorem t9:CutE Try.prog 32 (b24 [1,0]) L11 0 L12:=z49 mixedA 100000000 rfl (by kernel_rfl) (by kernel_rfl)
theorem t17:CutE Try.prog 41 (b54 [1,0,1,0,0]) L21 0 L22:=z49 mixedA 100000000 rfl (by kernel_rfl) (by kernel_rfl)
theorem t41:CutE Try.prog 97 (b29 [0]) L34 0 L35:=z49 mixedA 100000000 rfl (by kernel_rfl) (by kernel_rfl)
theorem t49:CutE Try.prog 41 (b54 [0]) L44 0 L45:=z49 mixedA 100000000 rfl (by kernel_rfl) (by kernel_rfl)
theorem t60:CutE Try.prog 41 (b54 [1,1,1]) L52 1 L53:=z49 mixedA 100000000 rfl (by kernel_rfl) (by kernel_rfl)
theorem t97:CutE Try.prog 57 (b32 [0]) L65 0 L66:=z49 mixedA 100000000 rfl (by kernel_rfl) (by kernel_rfl)
theorem t105:CutE Try.prog 57 (b32 [1,1,1,1,0,1,0,0,1,1,0]) L73 0 L74:=z49 mixedA 100000000 rfl (by kernel_rfl) (by kernel_rfl)
theorem t116:CutE Try.prog 57 (b32 [1,1,1,1,0,1,0,0]) L81 0 L82:=z49 mixedA 100000000 rfl (by kernel_rfl) (by kernel_rfl)
theorem t124:CutE Try.prog 57 (b32 [1,1,1,1,0,1,0,0]) L89 2 L90:=z49 mixedA 100000000 rfl (by kernel_rfl) (by kernel_rfl)
end Go.Proofs.Aw
