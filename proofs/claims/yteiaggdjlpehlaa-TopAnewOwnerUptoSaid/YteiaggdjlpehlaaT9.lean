import Derived.Test.YteiaggdjlpehlaaT8
set_option linter.all false
open Go Go.J
set_option maxRecDepth 100000
set_option linter.all false
namespace Go.Proofs.Aw
theorem t0:CutE Try.prog 150 (b35 [0]) L0 0 L1:=z49 mixedA 100000000 rfl (by kernel_rfl) (by kernel_rfl)
theorem t8:CutE Try.prog 32 (b24 [0]) L10 0 L11:=z49 mixedA 100000000 rfl (by kernel_rfl) (by kernel_rfl)
theorem t16:CutE Try.prog 41 (b54 [1,0,1,0,0]) L20 0 L21:=z49 mixedA 100000000 rfl (by kernel_rfl) (by kernel_rfl)
theorem t40:CutC Try.prog 63 [] L31.ch L31.nx (.agg [.int .i64 1640,.int .i64 1700,.slice (some (4939,0)) 1 (.exact 1),.slice none 0 (.exact 0),.slice none 0 (.exact 0)]) H32 4940:=z48 mixedA 100000000 (h':=endH (runE Try.prog 100000000 (.call 63 [] ⟨L31.nx,trL L31.ch,[]⟩))) (by kernel_rfl) (by kernel_rfl) (by kernel_rfl) (by kernel_rfl)
theorem t48:CutL Try.prog 97 (qp5 (b29 [1,1,1,1,1,1,1,0,0])) 0 2 L41 L42:=z4a mixedA 100000000 rfl (by kernel_rfl) (by kernel_rfl) (by kernel_rfl)
theorem t59:CutE Try.prog 41 (b54 [1,1,0]) L51 0 L52:=z49 mixedA 100000000 rfl (by kernel_rfl) (by kernel_rfl)
theorem t95:CutC Try.prog 62 [.slice (some (7390,0)) 1 (.exact 1)] L63.ch L63.nx (.agg [.int .i64 1600,.int .i64 1700,.slice (some (7392,0)) 4 (.exact 4),.slice (some (7400,0)) 4 (.grow 0),.slice none 0 (.exact 0)]) H64 7401:=z48 mixedA 100000000 (h':=endH (runE Try.prog 100000000 (.call 62 [.slice (some (7390,0)) 1 (.exact 1)] ⟨L63.nx,trL L63.ch,[]⟩))) (by kernel_rfl) (by kernel_rfl) (by kernel_rfl) (by kernel_rfl)
theorem t104:CutE Try.prog 57 (b32 [1,1,1,1,0,1,0,0,1,0]) L72 0 L73:=z49 mixedA 100000000 rfl (by kernel_rfl) (by kernel_rfl)
theorem t115:CutE Try.prog 57 (b32 [1,1,1,1,0,1,0,0]) L80 0 L81:=z49 mixedA 100000000 rfl (by kernel_rfl) (by kernel_rfl)
theorem t123:CutE Try.prog 57 (b32 [1,1,1,1,0,1,0,0]) L88 0 L89:=z49 mixedA 100000000 rfl (by kernel_rfl) (by kernel_rfl)
theorem t144:CutE Try.prog 150 (b35 [1,1,1,1,1,1,1,1,1,1,1,1]) L97 1 L98:=z49 mixedA 100000000 rfl (by kernel_rfl) (by kernel_rfl)
end Go.Proofs.Aw
