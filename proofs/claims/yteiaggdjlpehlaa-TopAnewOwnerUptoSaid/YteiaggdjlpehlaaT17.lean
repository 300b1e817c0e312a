import Derived.Test.YteiaggdjlpehlaaT8
import Derived.Test.YteiaggdjlpehlaaT9
import Derived.Test.YteiaggdjlpehlaaT10
import Derived.Test.YteiaggdjlpehlaaT11
import Derived.Test.YteiaggdjlpehlaaT12
import Derived.Test.YteiaggdjlpehlaaT13
import Derived.Test.YteiaggdjlpehlaaT14
import Derived.Test.YteiaggdjlpehlaaT15
import Derived.Test.YteiaggdjlpehlaaT16
set_option linter.all false
open Go Go.J
set_option maxRecDepth 100000
set_option linter.all false
namespace Go.Proofs.Aw
theorem t19:CutE Try.prog 41 (b54 [1,0,1,0]) L18 2 L23:=CutE.loop (x:=(b54 [1,0,1,0,0])) rfl (q6u.round t14 (q6u.round t15 (q6u.round t16 (q6u.round t17 (q6u.out t18)))))
theorem t20:CutE Try.prog 41 (b54 [1,0,1]) L18 0 L23:=CutE.block (id:=0) (x:=(b54 [1,0,1,0])) rfl t19 rfl
theorem t21:CutE Try.prog 41 (b54 [1,0]) L17 0 L23:=CutE.seq (x:=(b54 [1,0,0])) (y:=(b54 [1,0,1])) rfl t13 t20
theorem t24:CutE Try.prog 41 (b54 [1,1]) L23 1 L25:=CutE.seq (x:=(b54 [1,1,0])) (y:=(b54 [1,1,1])) rfl t22 t23
theorem t25:CutE Try.prog 41 (b54 [1]) L17 1 L25:=CutE.seq (x:=(b54 [1,0])) (y:=(b54 [1,1])) rfl t21 t24
theorem t26:CutE Try.prog 41 (b54 []) L16 1 L25:=CutE.seq (x:=(b54 [0])) (y:=(b54 [1])) rfl t12 t25
theorem t27:CutC Try.prog 54 [.ptr (some (2637,0)),.int .i64 1655] L14.ch L14.nx (.slice (some (4937,0)) 2 (.grow 0)) L25.ch 4938:=qvc (vs:=[.slice (some (4937,0)) 2 (.grow 0)]) (n:=41) (k:=1) (sl':=L25.sl) isf54 rfl rfl rfl t26 (by decide) (by kernel_rfl) rfl
theorem t28:CutL Try.prog 32 (qp5 (b24 [1,1,1,0])) 2 1 L14 L26:=CutL.call (o:=(qp5 (b24 [1,1,1,0]))[2]?.get (by kernel_rfl)) isf54 rfl rfl rfl rfl rfl rfl (by kernel_rfl) t27
theorem t30:CutE Try.prog 32 (b24 [1,1,1,0]) L13 0 L27:=CutL.region rfl rfl (k:=5) (by kernel_rfl) (CutL.append (CutL.append t11 t28) t29)
theorem t32:CutE Try.prog 32 (b24 [1,1,1]) L13 1 L28:=CutE.seq (x:=(b24 [1,1,1,0])) (y:=(b24 [1,1,1,1])) rfl t30 t31
theorem t33:CutE Try.prog 32 (b24 [1,1]) L12 1 L28:=CutE.seq (x:=(b24 [1,1,0])) (y:=(b24 [1,1,1])) rfl t10 t32
theorem t34:CutE Try.prog 32 (b24 [1]) L11 1 L28:=CutE.seq (x:=(b24 [1,0])) (y:=(b24 [1,1])) rfl t9 t33
theorem t35:CutE Try.prog 32 (b24 []) L10 1 L28:=CutE.seq (x:=(b24 [0])) (y:=(b24 [1])) rfl t8 t34
theorem t36:CutC Try.prog 24 [.agg [.int .i64 1600,.int .i64 1700,.slice (some (1,0)) 4 (.exact 4),.slice (some (8,0)) 3 (.exact 3),.slice none 0 (.exact 0)],.int .i64 1655] L8.ch L8.nx (.tuple [.slice (some (4937,0)) 2 (.grow 0),.int .i64 0]) L28.ch 4938:=qvc (vs:=[.slice (some (4937,0)) 2 (.grow 0),.int .i64 0]) (n:=32) (k:=1) (sl':=L28.sl) isf24 rfl rfl rfl t35 (by decide) (by kernel_rfl) rfl
theorem t37:CutL Try.prog 150 (qp5 (b35 [1,1,1,1,1,1,1,0])) 1 1 L8 L29:=CutL.call (o:=(qp5 (b35 [1,1,1,1,1,1,1,0]))[1]?.get (by kernel_rfl)) isf24 rfl rfl rfl rfl rfl rfl (by kernel_rfl) t36
theorem t39:CutE Try.prog 150 (b35 [1,1,1,1,1,1,1,0]) L7 0 L30:=CutL.region rfl rfl (k:=7) (by kernel_rfl) (CutL.append (CutL.append t7 t37) t38)
theorem t56:CutE Try.prog 41 (b54 [1,0,1,0]) L46 2 L51:=CutE.loop (x:=(b54 [1,0,1,0,0])) rfl (q6u.round t51 (q6u.round t52 (q6u.round t53 (q6u.round t54 (q6u.out t55)))))
theorem t57:CutE Try.prog 41 (b54 [1,0,1]) L46 0 L51:=CutE.block (id:=0) (x:=(b54 [1,0,1,0])) rfl t56 rfl
theorem t58:CutE Try.prog 41 (b54 [1,0]) L45 0 L51:=CutE.seq (x:=(b54 [1,0,0])) (y:=(b54 [1,0,1])) rfl t50 t57
theorem t61:CutE Try.prog 41 (b54 [1,1]) L51 1 L53:=CutE.seq (x:=(b54 [1,1,0])) (y:=(b54 [1,1,1])) rfl t59 t60
theorem t62:CutE Try.prog 41 (b54 [1]) L45 1 L53:=CutE.seq (x:=(b54 [1,0])) (y:=(b54 [1,1])) rfl t58 t61
theorem t63:CutE Try.prog 41 (b54 []) L44 1 L53:=CutE.seq (x:=(b54 [0])) (y:=(b54 [1])) rfl t49 t62
theorem t64:CutC Try.prog 54 [.ptr (some (5014,0)),.int .i64 1655] L42.ch L42.nx (.slice (some (7385,0)) 2 (.grow 0)) L53.ch 7386:=qvc (vs:=[.slice (some (7385,0)) 2 (.grow 0)]) (n:=41) (k:=1) (sl':=L53.sl) isf54 rfl rfl rfl t63 (by decide) (by kernel_rfl) rfl
theorem t65:CutL Try.prog 97 (qp5 (b29 [1,1,1,1,1,1,1,0,0])) 2 1 L42 L54:=CutL.call (o:=(qp5 (b29 [1,1,1,1,1,1,1,0,0]))[2]?.get (by kernel_rfl)) isf54 rfl rfl rfl rfl rfl rfl (by kernel_rfl) t64
theorem t67:CutE Try.prog 97 (b29 [1,1,1,1,1,1,1,0,0]) L41 0 L55:=CutL.region rfl rfl (k:=5) (by kernel_rfl) (CutL.append (CutL.append t48 t65) t66)
theorem t69:CutE Try.prog 97 (b29 [1,1,1,1,1,1,1,0]) L41 0 L56:=CutE.seq (x:=(b29 [1,1,1,1,1,1,1,0,0])) (y:=(b29 [1,1,1,1,1,1,1,0,1])) rfl t67 t68
theorem t72:CutE Try.prog 97 (b29 [1,1,1,1,1,1,1,1]) L56 1 L58:=CutE.seq (x:=(b29 [1,1,1,1,1,1,1,1,0])) (y:=(b29 [1,1,1,1,1,1,1,1,1])) rfl t70 t71
theorem t73:CutE Try.prog 97 (b29 [1,1,1,1,1,1,1]) L41 1 L58:=CutE.seq (x:=(b29 [1,1,1,1,1,1,1,0])) (y:=(b29 [1,1,1,1,1,1,1,1])) rfl t69 t72
theorem t74:CutE Try.prog 97 (b29 [1,1,1,1,1,1]) L40 1 L58:=CutE.seq (x:=(b29 [1,1,1,1,1,1,0])) (y:=(b29 [1,1,1,1,1,1,1])) rfl t47 t73
theorem t75:CutE Try.prog 97 (b29 [1,1,1,1,1]) L39 1 L58:=CutE.seq (x:=(b29 [1,1,1,1,1,0])) (y:=(b29 [1,1,1,1,1,1])) rfl t46 t74
theorem t76:CutE Try.prog 97 (b29 [1,1,1,1]) L38 1 L58:=CutE.seq (x:=(b29 [1,1,1,1,0])) (y:=(b29 [1,1,1,1,1])) rfl t45 t75
theorem t77:CutE Try.prog 97 (b29 [1,1,1]) L37 1 L58:=CutE.seq (x:=(b29 [1,1,1,0])) (y:=(b29 [1,1,1,1])) rfl t44 t76
theorem t78:CutE Try.prog 97 (b29 [1,1]) L36 1 L58:=CutE.seq (x:=(b29 [1,1,0])) (y:=(b29 [1,1,1])) rfl t43 t77
theorem t79:CutE Try.prog 97 (b29 [1]) L35 1 L58:=CutE.seq (x:=(b29 [1,0])) (y:=(b29 [1,1])) rfl t42 t78
theorem t80:CutE Try.prog 97 (b29 []) L34 1 L58:=CutE.seq (x:=(b29 [0])) (y:=(b29 [1])) rfl t41 t79
theorem t81:CutC Try.prog 29 [.agg [.int .i64 1600,.int .i64 1700,.slice (some (1,0)) 4 (.exact 4),.slice (some (8,0)) 3 (.exact 3),.slice none 0 (.exact 0)],.agg [.int .i64 1640,.int .i64 1700,.slice (some (4939,0)) 1 (.exact 1),.slice none 0 (.exact 0),.slice none 0 (.exact 0)],.int .i64 1655] L32.ch L32.nx (.tuple [.slice (some (7387,0)) 1 (.grow 0),.int .i64 0]) L58.ch 7388:=qvc (vs:=[.slice (some (7387,0)) 1 (.grow 0),.int .i64 0]) (n:=97) (k:=1) (sl':=L58.sl) isf29 rfl rfl rfl t80 (by decide) (by kernel_rfl) rfl
theorem t82:R62 0 0 (by kernel_rfl):=doP mixedA (.agg [.int .i64 1600,.int .i64 1700,.slice (some (1,0)) 4 (.exact 4),.slice (some (8,0)) 3 (.exact 3),.slice none 0 (.exact 0)]) 56 L30.ch L30.nx
theorem t83:R62 0 1 (by kernel_rfl):=doP mixedA (.agg [.int .i64 1600,.int .i64 1700,.slice (some (1,0)) 4 (.exact 4),.slice (some (8,0)) 3 (.exact 3),.slice none 0 (.exact 0)]) 56 L32.ch L32.nx
theorem t84:R62 1 0 (by kernel_rfl):=qvd (by kernel_rfl) rfl (by kernel_rfl) (ch:=L30.ch) (nx:=L30.nx) (by kernel_rfl) (by kernel_rfl) (by kernel_rfl) isf63 rfl rfl (by kernel_rfl) (by kernel_rfl) (by kernel_rfl) t40
theorem t85:R62 2 1 (by kernel_rfl):=qvd (by kernel_rfl) rfl (by kernel_rfl) (ch:=L32.ch) (nx:=L32.nx) (by kernel_rfl) (by kernel_rfl) (by kernel_rfl) isf29 rfl rfl (by kernel_rfl) (by kernel_rfl) (by kernel_rfl) t81
theorem t86:R62 3 2 (by kernel_rfl):=doP mixedA (.tuple [.slice (some (7387,0)) 1 (.grow 0),.int .i64 0]) 55 L59.ch L59.nx
theorem t87:R62 4 2 (by kernel_rfl):=doP mixedA (.slice (some (7387,0)) 1 (.grow 0)) 59 L59.ch L59.nx
theorem t88:R62 5 2 (by kernel_rfl):=doP mixedA (.int .i64 0) 60 L59.ch L59.nx
theorem t89:R62 6 2 (by kernel_rfl):=doP mixedA (.slice (some (7387,0)) 1 (.grow 0)) 15 L59.ch L59.nx
theorem t90:R62 7 2 (by kernel_rfl):=doP mixedA (.int .i64 0) 16 L59.ch L59.nx
theorem t91:CutE Try.prog 150 (b35 [1,1,1,1,1,1,1,1,0]) L30 0 L61:=CutE.drawn (ops:=OR62) rfl mixedA [1,2] (qaz OR62) [(0,none),(2,none),(3,none),(4,none),(5,none),(6,none),(8,none),(9,none),(10,none),(11,none),(12,none),(13,none),(14,none),(15,some 6),(16,some 7)] V61 W61 rfl (by kernel_rfl) (by kernel_rfl) (by kernel_rfl) (by kernel_rfl) ⟨aR 0 2 ⟨t82,t83,trivial⟩,aR 0 1 ⟨t84,trivial⟩,aR 1 1 ⟨t85,trivial⟩,aR 2 1 ⟨t86,trivial⟩,aR 2 1 ⟨t87,trivial⟩,aR 2 1 ⟨t88,trivial⟩,aR 2 1 ⟨t89,trivial⟩,aR 2 1 ⟨t90,trivial⟩,trivial⟩ (by kernel_rfl)
theorem t93:CutL Try.prog 150 (qp5 (b35 [1,1,1,1,1,1,1,1,1,0])) 0 1 L61 L62:=CutL.call (o:=(qp5 (b35 [1,1,1,1,1,1,1,1,1,0]))[0]?.get (by kernel_rfl)) isf64 rfl rfl rfl rfl rfl rfl (by kernel_rfl) t92
theorem t96:CutL Try.prog 150 (qp5 (b35 [1,1,1,1,1,1,1,1,1,0])) 2 1 L63 L64:=CutL.call (o:=(qp5 (b35 [1,1,1,1,1,1,1,1,1,0]))[2]?.get (by kernel_rfl)) isf62 rfl rfl rfl rfl rfl rfl (by kernel_rfl) t95
theorem t107:CutE Try.prog 57 (b32 [1,1,1,1,0,1,0,0,1,1]) L73 0 L75:=CutE.seq (x:=(b32 [1,1,1,1,0,1,0,0,1,1,0])) (y:=(b32 [1,1,1,1,0,1,0,0,1,1,1])) rfl t105 t106
theorem t108:CutE Try.prog 57 (b32 [1,1,1,1,0,1,0,0,1]) L72 0 L75:=CutE.seq (x:=(b32 [1,1,1,1,0,1,0,0,1,0])) (y:=(b32 [1,1,1,1,0,1,0,0,1,1])) rfl t104 t107
theorem t109:CutE Try.prog 57 (b32 [1,1,1,1,0,1,0,0]) L71 0 L75:=CutE.seq (x:=(b32 [1,1,1,1,0,1,0,0,0])) (y:=(b32 [1,1,1,1,0,1,0,0,1])) rfl t103 t108
theorem t125:CutE Try.prog 57 (b32 [1,1,1,1,0,1,0]) L70 2 L90:=CutE.loop (x:=(b32 [1,1,1,1,0,1,0,0])) rfl (q6u.round t102 (q6u.round t109 (q6u.round t110 (q6u.round t111 (q6u.round t112 (q6u.round t113 (q6u.round t114 (q6u.round t115 (q6u.round t116 (q6u.round t117 (q6u.round t118 (q6u.round t119 (q6u.round t120 (q6u.round t121 (q6u.round t122 (q6u.round t123 (q6u.out t124)))))))))))))))))
theorem t126:CutE Try.prog 57 (b32 [1,1,1,1,0,1]) L70 0 L90:=CutE.block (id:=0) (x:=(b32 [1,1,1,1,0,1,0])) rfl t125 rfl
theorem t127:CutE Try.prog 57 (b32 [1,1,1,1,0]) L69 0 L90:=CutE.seq (x:=(b32 [1,1,1,1,0,0])) (y:=(b32 [1,1,1,1,0,1])) rfl t101 t126
theorem t131:CutE Try.prog 57 (b32 [1,1,1,1,1,1]) L91 1 L93:=CutE.seq (x:=(b32 [1,1,1,1,1,1,0])) (y:=(b32 [1,1,1,1,1,1,1])) rfl t129 t130
theorem t132:CutE Try.prog 57 (b32 [1,1,1,1,1]) L90 1 L93:=CutE.seq (x:=(b32 [1,1,1,1,1,0])) (y:=(b32 [1,1,1,1,1,1])) rfl t128 t131
theorem t133:CutE Try.prog 57 (b32 [1,1,1,1]) L69 1 L93:=CutE.seq (x:=(b32 [1,1,1,1,0])) (y:=(b32 [1,1,1,1,1])) rfl t127 t132
theorem t134:CutE Try.prog 57 (b32 [1,1,1]) L68 1 L93:=CutE.seq (x:=(b32 [1,1,1,0])) (y:=(b32 [1,1,1,1])) rfl t100 t133
theorem t135:CutE Try.prog 57 (b32 [1,1]) L67 1 L93:=CutE.seq (x:=(b32 [1,1,0])) (y:=(b32 [1,1,1])) rfl t99 t134
theorem t136:CutE Try.prog 57 (b32 [1]) L66 1 L93:=CutE.seq (x:=(b32 [1,0])) (y:=(b32 [1,1])) rfl t98 t135
theorem t137:CutE Try.prog 57 (b32 []) L65 1 L93:=CutE.seq (x:=(b32 [0])) (y:=(b32 [1])) rfl t97 t136
theorem t138:CutC Try.prog 32 [.agg [.int .i64 1600,.int .i64 1700,.slice (some (7392,0)) 4 (.exact 4),.slice (some (7400,0)) 4 (.grow 0),.slice none 0 (.exact 0)]] L64.ch L64.nx (.tuple [.slice (some (14430,0)) 1 (.grow 0),.int .i64 0]) L93.ch 14635:=qvc (vs:=[.slice (some (14430,0)) 1 (.grow 0),.int .i64 0]) (n:=57) (k:=1) (sl':=L93.sl) isf32 rfl rfl rfl t137 (by decide) (by kernel_rfl) rfl
theorem t139:CutL Try.prog 150 (qp5 (b35 [1,1,1,1,1,1,1,1,1,0])) 3 1 L64 L94:=CutL.call (o:=(qp5 (b35 [1,1,1,1,1,1,1,1,1,0]))[3]?.get (by kernel_rfl)) isf32 rfl rfl rfl rfl rfl rfl (by kernel_rfl) t138
theorem t141:CutE Try.prog 150 (b35 [1,1,1,1,1,1,1,1,1,0]) L61 0 L95:=CutL.region rfl rfl (k:=9) (by kernel_rfl) (CutL.append (CutL.append (CutL.append (CutL.append t93 t94) t96) t139) t140)
theorem t145:CutE Try.prog 150 (b35 [1,1,1,1,1,1,1,1,1,1,1]) L96 1 L98:=CutE.seq (x:=(b35 [1,1,1,1,1,1,1,1,1,1,1,0])) (y:=(b35 [1,1,1,1,1,1,1,1,1,1,1,1])) rfl t143 t144
theorem t146:CutE Try.prog 150 (b35 [1,1,1,1,1,1,1,1,1,1]) L95 1 L98:=CutE.seq (x:=(b35 [1,1,1,1,1,1,1,1,1,1,0])) (y:=(b35 [1,1,1,1,1,1,1,1,1,1,1])) rfl t142 t145
theorem t147:CutE Try.prog 150 (b35 [1,1,1,1,1,1,1,1,1]) L61 1 L98:=CutE.seq (x:=(b35 [1,1,1,1,1,1,1,1,1,0])) (y:=(b35 [1,1,1,1,1,1,1,1,1,1])) rfl t141 t146
theorem t148:CutE Try.prog 150 (b35 [1,1,1,1,1,1,1,1]) L30 1 L98:=CutE.seq (x:=(b35 [1,1,1,1,1,1,1,1,0])) (y:=(b35 [1,1,1,1,1,1,1,1,1])) rfl t91 t147
theorem t149:CutE Try.prog 150 (b35 [1,1,1,1,1,1,1]) L7 1 L98:=CutE.seq (x:=(b35 [1,1,1,1,1,1,1,0])) (y:=(b35 [1,1,1,1,1,1,1,1])) rfl t39 t148
theorem t150:CutE Try.prog 150 (b35 [1,1,1,1,1,1]) L6 1 L98:=CutE.seq (x:=(b35 [1,1,1,1,1,1,0])) (y:=(b35 [1,1,1,1,1,1,1])) rfl t6 t149
theorem t151:CutE Try.prog 150 (b35 [1,1,1,1,1]) L5 1 L98:=CutE.seq (x:=(b35 [1,1,1,1,1,0])) (y:=(b35 [1,1,1,1,1,1])) rfl t5 t150
theorem t152:CutE Try.prog 150 (b35 [1,1,1,1]) L4 1 L98:=CutE.seq (x:=(b35 [1,1,1,1,0])) (y:=(b35 [1,1,1,1,1])) rfl t4 t151
theorem t153:CutE Try.prog 150 (b35 [1,1,1]) L3 1 L98:=CutE.seq (x:=(b35 [1,1,1,0])) (y:=(b35 [1,1,1,1])) rfl t3 t152
theorem t154:CutE Try.prog 150 (b35 [1,1]) L2 1 L98:=CutE.seq (x:=(b35 [1,1,0])) (y:=(b35 [1,1,1])) rfl t2 t153
theorem t155:CutE Try.prog 150 (b35 [1]) L1 1 L98:=CutE.seq (x:=(b35 [1,0])) (y:=(b35 [1,1])) rfl t1 t154
theorem t156:CutE Try.prog 150 (b35 []) L0 1 L98:=CutE.seq (x:=(b35 [0])) (y:=(b35 [1])) rfl t0 t155
theorem awake0:CutC Try.prog 35 [] [] 0 (.bool true) L98.ch L98.nx:=qvc (vs:=[.bool true]) (n:=150) (k:=1) (sl':=L98.sl) isf35 rfl rfl rfl t156 (by decide) (by kernel_rfl) rfl
theorem awake{g:AH}:q0n Try.prog 35 [] g (fun e g'=>e= .ret (.bool true)∧Le g g'):=qu4 awake0 (fun e h' q=>⟨q.1,rfl⟩) (fun _=>rfl)
end Go.Proofs.Aw
