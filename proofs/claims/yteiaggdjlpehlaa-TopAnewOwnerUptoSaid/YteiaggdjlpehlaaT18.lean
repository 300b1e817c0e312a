/- The call duodecimotop.TopAnewOwner returns true for every argument and leaves it as it was.
Conditions: the argument holds at most 1048576 values and letters in all, each counted each time it is reached (the statement's own bound: TopAnewOwnerUptoSaid); its slices share no memory that anyone turns during the call, as the row's cells say. -/import Derived.Test.YteiaggdjlpehlaaT6
import Derived.Test.YteiaggdjlpehlaaT17
import Derived.Test.YteiaggdjlpehlaaT1
import Derived.ReadAgain
import Derived.ChangeSame
import Derived.ChangeArms
import Derived.ChangeSlices
import Derived.OpenShut
import Derived.RowKit
import Derived.Test.YteiaggdjlpehlaaRows
import Derived.WalkKit
import Derived.ProofKit
import Derived.JoinedCond
set_option linter.all false
open Go Go.J
set_option maxRecDepth 4000
set_option maxHeartbeats 2000000
set_option linter.all false
namespace Go.Proofs.JT
theorem qn7:q1y Try.prog 32 0 0 27:=q1y.of (by kernel_rfl)
theorem tZ27:(Try.prog.info? 27).map (·.size)=some 1:=by kernel_rfl
theorem qn8:q1y Try.prog 32 1 1 30:=q1y.of (by kernel_rfl)
theorem tZ30:(Try.prog.info? 30).map (·.size)=some 1:=by kernel_rfl
theorem tC30:Cell Try.prog 30:=by unfold Cell; kernel_rfl
theorem tS30:Try.prog.underlying 30=some (.slice 9):=by kernel_rfl
theorem tC3:Cell Try.prog 3:=by unfold Cell; kernel_rfl
theorem tZ9:(Try.prog.info? 9).map (·.size)=some 1:=by kernel_rfl
theorem tC9:Cell Try.prog 9:=by unfold Cell; kernel_rfl
theorem tN32:q26 Try.prog 32 (.agg [.slice none 0 (.exact 0),.slice none 0 (.exact 0)]):=q26.of (by kernel_rfl)
theorem tA32:Agg Try.prog 32 2:=by unfold Agg; kernel_rfl
theorem tA29:Agg Try.prog 29 14:=by unfold Agg; kernel_rfl
theorem isf3:IsFn Try.prog 3 Try.f3 (q0k Try.f3):=⟨Try.func3,rfl,by kernel_rfl⟩
noncomputable abbrev C3(p:List Nat):Code:=sel (q0k Try.f3) p
theorem isf4:IsFn Try.prog 4 Try.f4 (q0k Try.f4):=⟨Try.func4,rfl,by kernel_rfl⟩
noncomputable abbrev C4(p:List Nat):Code:=sel (q0k Try.f4) p
theorem isf5:IsFn Try.prog 5 Try.f5 (q0k Try.f5):=⟨Try.func5,rfl,by kernel_rfl⟩
noncomputable abbrev C5(p:List Nat):Code:=sel (q0k Try.f5) p
theorem isf34:IsFn Try.prog 34 Try.f34 (q0k Try.f34):=⟨Try.func34,rfl,by kernel_rfl⟩
noncomputable abbrev C34(p:List Nat):Code:=sel (q0k Try.f34) p
theorem isf35:IsFn Try.prog 35 Try.f35 (q0k Try.f35):=⟨Try.func35,rfl,by kernel_rfl⟩
noncomputable abbrev C35(p:List Nat):Code:=sel (q0k Try.f35) p
theorem c34{h:AH}{L:List Int}{K:List ByteArray}{p:Option (Nat×Nat)}{cp:Cap}{q:Option (Nat×Nat)}{cq:Cap}{p2:Option (Nat×Nat)}{cp2:Cap}{q2:Option (Nat×Nat)}{cq2:Cap}(l1:Lst h 0 p (L.map (AV.int .i64)))(l2:Lst h 0 q (K.map AV.str))(l3:Lst h 0 p2 (L.map (AV.int .i64)))(l4:Lst h 0 q2 (K.map AV.str))(hL:L.length≤4294967296)(hK:K.length≤4294967296):q0n Try.prog 34 [.agg [.slice p L.length cp,.slice q K.length cq],.agg [.slice p2 L.length cp2,.slice q2 K.length cq2]] h (fun e h'=>e= .ret (.bool true)∧Le h h'):=by
 refine q0s (N:=59) (sl:=[(0,_),(1,_)]) isf34 rfl (by show 2≤59; decide) rfl ?_
 refine q1p (x:=C34 [0]) (y:=C34 [1]) rfl ?_;refine q1v (l:=[0,1,2]) rfl rfl ?_;refine q07 rfl rfl (z6h (z:=[.slice p L.length cp,.slice q K.length cq]) rfl rfl (by decide) rfl rfl ?_)
 intro i1 h2 w3;refine q07 rfl rfl (z6h (z:=[.slice p2 L.length cp2,.slice q2 K.length cq2]) rfl rfl (by decide) rfl rfl ?_)
 intro i4 h5 w6;have ne7:i1≠i4:=q8c w6.free w3.own;refine q07 rfl rfl (q1u rfl rfl (by decide) rfl ?_)
 refine q0q ?_;refine q1p (x:=C34 [1,0]) (y:=C34 [1,1]) rfl ?_;refine q1p (x:=C34 [1,0,0]) (y:=C34 [1,0,1]) rfl ?_;refine q1v (l:=[0,1,2,3,4,5,6,7,8,9,10,11,12,13,14,15]) rfl rfl ?_;refine q07 rfl rfl (q15 qn7 tZ27 (by decide) rfl rfl (by decide) rfl ?_)
 have o8:Own h5 i1 [.slice p L.length cp,.slice q K.length cq]:=(w3.own.le w6.le);refine q07 rfl rfl (q7s tC27 rfl rfl (by decide) rfl o8.cells rfl ?_)
 refine q07 rfl rfl (qnh tS27 rfl rfl (by decide) rfl ?_)
 refine q07 rfl rfl (q15 qn7 tZ27 (by decide) rfl rfl (by decide) rfl ?_)
 refine q07 rfl rfl (q7s tC27 rfl rfl (by decide) rfl w6.own.cells rfl ?_)
 refine q07 rfl rfl (qnh tS27 rfl rfl (by decide) rfl ?_)
 refine q07 rfl rfl (qkr rfl rfl (by decide) rfl rfl ?_)
 refine q07 rfl rfl (q0w rfl rfl (by decide) rfl ?_)
 refine w_G rfl rfl rfl rfl rfl (q15 qn8 tZ30 (by decide) rfl rfl (by decide) rfl ?_)
 refine w_G rfl rfl rfl rfl rfl (q7s tC30 rfl rfl (by decide) rfl o8.cells rfl ?_)
 refine w_G rfl rfl rfl rfl rfl (qnh tS30 rfl rfl (by decide) rfl ?_)
 refine w_G rfl rfl rfl rfl rfl (q15 qn8 tZ30 (by decide) rfl rfl (by decide) rfl ?_)
 refine w_G rfl rfl rfl rfl rfl (q7s tC30 rfl rfl (by decide) rfl w6.own.cells rfl ?_)
 refine w_G rfl rfl rfl rfl rfl (qnh tS30 rfl rfl (by decide) rfl ?_)
 refine w_G rfl rfl rfl rfl rfl (qkr rfl rfl (by decide) rfl rfl ?_)
 refine q07 rfl rfl (z1u rfl rfl (by decide) rfl rfl ?_)
 refine q0q ?_;refine qog (cx:=C34 [1,0,1,0]) (cy:=C34 [1,0,1,1]) rfl rfl ?_;refine q8p rfl ?_;refine q1p (x:=C34 [1,1,0]) (y:=C34 [1,1,1]) rfl ?_;refine q1p (x:=C34 [1,1,0,0]) (y:=C34 [1,1,0,1]) rfl ?_;refine q1v (l:=[0]) rfl rfl ?_;refine q07 rfl rfl (q1u rfl rfl (by decide) rfl ?_)
 refine q0q ?_;refine q4i (x:=C34 [1,1,0,1,0]) rfl ?_;refine z25 (x:=C34 [1,1,0,1,0,0]) (fun(x5_9:Int)=>⟨[(2,.ptr (some (i1,0))),(3,.ptr (some (i4,0))),(5,.int .i64 x5_9)],h5,59,[]⟩) (fun(x5_9:Int)=>0≤x5_9∧0≤x5_9) (fun(x5_9:Int)=>((L.length:Int) - x5_9).toNat) 0 rfl ⟨rfl,rfl,rfl,rfl,rfl,rfl,trivial⟩ ⟨(by omega),(by omega)⟩ ?_
 intro x5_9 hI;obtain⟨hxx5_9,iv10⟩:0≤x5_9∧0≤x5_9:=hI;show J _ _ (C34 [1,1,0,1,0,0]) ⟨[(2,.ptr (some (i1,0))),(3,.ptr (some (i4,0))),(5,.int .i64 x5_9)],h5,59,[]⟩ _;refine q1p (x:=C34 [1,1,0,1,0,0,0]) (y:=C34 [1,1,0,1,0,0,1]) rfl ?_;refine q1p (x:=C34 [1,1,0,1,0,0,0,0]) (y:=C34 [1,1,0,1,0,0,0,1]) rfl ?_;refine q1v (l:=[0,1,2,3,4]) rfl rfl ?_;refine q07 rfl rfl (q0w rfl rfl (by decide) rfl ?_)
 refine q07 rfl rfl (q15 qn7 tZ27 (by decide) rfl rfl (by decide) rfl ?_)
 refine q07 rfl rfl (q7s tC27 rfl rfl (by decide) rfl o8.cells rfl ?_)
 refine q07 rfl rfl (qnh tS27 rfl rfl (by decide) rfl ?_)
 refine q07 rfl rfl (w_lt rfl rfl (by decide) rfl rfl ?_)
 refine q0q ?_;refine qjf (cx:=C34 [1,1,0,1,0,0,0,1,0]) (cy:=C34 [1,1,0,1,0,0,0,1,1]) rfl rfl (fun q11=>?_) (fun q11=>?_)
 · refine q8p rfl ?_
   refine q1p (x:=C34 [1,1,0,1,0,0,1,0]) (y:=C34 [1,1,0,1,0,0,1,1]) rfl ?_;refine q4i (x:=C34 [1,1,0,1,0,0,1,0,0]) rfl ?_;refine q1p (x:=C34 [1,1,0,1,0,0,1,0,0,0]) (y:=C34 [1,1,0,1,0,0,1,0,0,1]) rfl ?_;refine qu8 (qp5 (C34 [1,1,0,1,0,0,1,0,0,0])) [[(2,none)],[(30,some 0)],[(5,none)],[(31,some 1),(32,some 2)],[(33,some 3)],[(3,none)],[(35,some 5)],[(5,none)],[(36,some 6),(37,some 7)],[(38,some 8)],[(34,some 4),(39,some 9)]] ?_;refine d_op (j:=0) (d:=30) (sl:=[(2,.ptr (some (i1,0)))]) (h₁:=h5) rfl rfl rfl (by decide) rfl rfl rfl rfl (q15 qn7 tZ27 (by decide) rfl rfl (by decide) rfl ?_)
   refine q4w (V':=[.ptr (some (i1,0))]) (D':=[(0,0,false)]) rfl rfl rfl rfl rfl rfl ?_;refine d_op (j:=1) (d:=31) (sl:=[(30,.ptr (some (i1,0)))]) (h₁:=h5) rfl rfl rfl (by decide) rfl rfl rfl rfl (q7s tC27 rfl rfl (by decide) rfl o8.cells rfl ?_)
   refine q4w (V':=[.ptr (some (i1,0)),.slice p L.length cp]) (D':=[(0,0,false),(1,0,false)]) rfl rfl rfl rfl rfl rfl ?_;refine d_op (j:=2) (d:=32) (sl:=[(5,.int .i64 x5_9)]) (h₁:=h5) rfl rfl rfl (by decide) rfl rfl rfl rfl (q0w rfl rfl (by decide) rfl ?_)
   refine q4w (V':=[.ptr (some (i1,0)),.slice p L.length cp,.int .i64 x5_9]) (D':=[(0,0,false),(1,0,false),(2,0,false)]) rfl rfl rfl rfl rfl rfl ?_;obtain⟨i15,o16,cs14,rfl,hc12,hv13⟩:=l1.int (i:=x5_9) (by omega) (by omega)
   refine d_op (j:=3) (d:=33) (sl:=[(31,.slice (some (i15,o16)) L.length cp),(32,.int .i64 x5_9)]) (h₁:=h5) rfl rfl rfl (by decide) rfl rfl rfl rfl (q33 tS27 tZ3 rfl rfl (by decide) rfl rfl (by omega) ?_)
   refine q4w (V':=[.ptr (some (i1,0)),.slice (some (i15,o16)) L.length cp,.int .i64 x5_9,.ptr (some (i15,o16+x5_9.toNat * 1))]) (D':=[(0,0,false),(1,0,false),(2,0,false),(3,0,false)]) rfl rfl rfl rfl rfl rfl ?_;have l0_2_17:Le h h5:=w3.le.trans w6.le;refine d_op (j:=4) (d:=34) (sl:=[(33,.ptr (some (i15,o16+x5_9.toNat * 1)))]) (h₁:=h5) rfl rfl rfl (by decide) rfl rfl rfl rfl (q7s tC3 rfl rfl (by decide) rfl (l0_2_17.cells hc12) hv13 ?_)
   refine q4w (V':=[.ptr (some (i1,0)),.slice (some (i15,o16)) L.length cp,.int .i64 x5_9,.ptr (some (i15,o16+x5_9.toNat * 1)),.int .i64 (L.getD (x5_9).toNat 0)]) (D':=[(0,0,false),(1,0,false),(2,0,false),(3,0,false),(4,0,false)]) rfl rfl rfl rfl rfl rfl ?_;refine d_op (j:=5) (d:=35) (sl:=[(3,.ptr (some (i4,0)))]) (h₁:=h5) rfl rfl rfl (by decide) rfl rfl rfl rfl (q15 qn7 tZ27 (by decide) rfl rfl (by decide) rfl ?_)
   refine q4w (V':=[.ptr (some (i1,0)),.slice (some (i15,o16)) L.length cp,.int .i64 x5_9,.ptr (some (i15,o16+x5_9.toNat * 1)),.int .i64 (L.getD (x5_9).toNat 0),.ptr (some (i4,0))]) (D':=[(0,0,false),(1,0,false),(2,0,false),(3,0,false),(4,0,false),(5,0,false)]) rfl rfl rfl rfl rfl rfl ?_;refine d_op (j:=6) (d:=36) (sl:=[(35,.ptr (some (i4,0)))]) (h₁:=h5) rfl rfl rfl (by decide) rfl rfl rfl rfl (q7s tC27 rfl rfl (by decide) rfl w6.own.cells rfl ?_)
   refine q4w (V':=[.ptr (some (i1,0)),.slice (some (i15,o16)) L.length cp,.int .i64 x5_9,.ptr (some (i15,o16+x5_9.toNat * 1)),.int .i64 (L.getD (x5_9).toNat 0),.ptr (some (i4,0)),.slice p2 L.length cp2]) (D':=[(0,0,false),(1,0,false),(2,0,false),(3,0,false),(4,0,false),(5,0,false),(6,0,false)]) rfl rfl rfl rfl rfl rfl ?_;refine d_op (j:=7) (d:=37) (sl:=[(5,.int .i64 x5_9)]) (h₁:=h5) rfl rfl rfl (by decide) rfl rfl rfl rfl (q0w rfl rfl (by decide) rfl ?_)
   refine q4w (V':=[.ptr (some (i1,0)),.slice (some (i15,o16)) L.length cp,.int .i64 x5_9,.ptr (some (i15,o16+x5_9.toNat * 1)),.int .i64 (L.getD (x5_9).toNat 0),.ptr (some (i4,0)),.slice p2 L.length cp2,.int .i64 x5_9]) (D':=[(0,0,false),(1,0,false),(2,0,false),(3,0,false),(4,0,false),(5,0,false),(6,0,false),(7,0,false)]) rfl rfl rfl rfl rfl rfl ?_;obtain⟨i21,o22,cs20,rfl,hc18,hv19⟩:=l3.int (i:=x5_9) (by omega) (by omega)
   refine d_op (j:=8) (d:=38) (sl:=[(36,.slice (some (i21,o22)) L.length cp2),(37,.int .i64 x5_9)]) (h₁:=h5) rfl rfl rfl (by decide) rfl rfl rfl rfl (q33 tS27 tZ3 rfl rfl (by decide) rfl rfl (by omega) ?_)
   refine q4w (V':=[.ptr (some (i1,0)),.slice (some (i15,o16)) L.length cp,.int .i64 x5_9,.ptr (some (i15,o16+x5_9.toNat * 1)),.int .i64 (L.getD (x5_9).toNat 0),.ptr (some (i4,0)),.slice (some (i21,o22)) L.length cp2,.int .i64 x5_9,.ptr (some (i21,o22+x5_9.toNat * 1))]) (D':=[(0,0,false),(1,0,false),(2,0,false),(3,0,false),(4,0,false),(5,0,false),(6,0,false),(7,0,false),(8,0,false)]) rfl rfl rfl rfl rfl rfl ?_;refine d_op (j:=9) (d:=39) (sl:=[(38,.ptr (some (i21,o22+x5_9.toNat * 1)))]) (h₁:=h5) rfl rfl rfl (by decide) rfl rfl rfl rfl (q7s tC3 rfl rfl (by decide) rfl (l0_2_17.cells hc18) hv19 ?_)
   refine q4w (V':=[.ptr (some (i1,0)),.slice (some (i15,o16)) L.length cp,.int .i64 x5_9,.ptr (some (i15,o16+x5_9.toNat * 1)),.int .i64 (L.getD (x5_9).toNat 0),.ptr (some (i4,0)),.slice (some (i21,o22)) L.length cp2,.int .i64 x5_9,.ptr (some (i21,o22+x5_9.toNat * 1)),.int .i64 (L.getD (x5_9).toNat 0)]) (D':=[(0,0,false),(1,0,false),(2,0,false),(3,0,false),(4,0,false),(5,0,false),(6,0,false),(7,0,false),(8,0,false),(9,0,false)]) rfl rfl rfl rfl rfl rfl ?_;refine d_op (j:=10) (d:=40) (sl:=[(34,.int .i64 (L.getD (x5_9).toNat 0)),(39,.int .i64 (L.getD (x5_9).toNat 0))]) (h₁:=h5) rfl rfl rfl (by decide) rfl rfl rfl rfl (qkr rfl rfl (by decide) rfl rfl ?_)
   refine q4w (V':=[.ptr (some (i1,0)),.slice (some (i15,o16)) L.length cp,.int .i64 x5_9,.ptr (some (i15,o16+x5_9.toNat * 1)),.int .i64 (L.getD (x5_9).toNat 0),.ptr (some (i4,0)),.slice (some (i21,o22)) L.length cp2,.int .i64 x5_9,.ptr (some (i21,o22+x5_9.toNat * 1)),.int .i64 (L.getD (x5_9).toNat 0),.bool false]) (D':=[(0,0,false),(1,0,false),(2,0,false),(3,0,false),(4,0,false),(5,0,false),(6,0,false),(7,0,false),(8,0,false),(9,0,false),(10,0,false)]) rfl rfl rfl rfl rfl rfl ?_;refine z23 (effs:=[]) (fin:=[(2,none),(3,none),(5,none),(40,some 10)]) (slF:=[(2,.ptr (some (i1,0))),(3,.ptr (some (i4,0))),(5,.int .i64 x5_9),(40,.bool false)]) rfl mixed (by kernel_rfl) (by kernel_rfl) rfl rfl ?_
   refine qog (cx:=C34 [1,1,0,1,0,0,1,0,0,1,0]) (cy:=C34 [1,1,0,1,0,0,1,0,0,1,1]) rfl rfl ?_;refine q8p rfl ?_;refine q1v (l:=[0,1,2]) rfl rfl ?_;refine q07 rfl rfl (q0w rfl rfl (by decide) rfl ?_)
   refine q07 rfl rfl (z1r rfl rfl (by decide) rfl rfl (by omega) ?_)
   refine q07 rfl rfl (q1u rfl rfl (by decide) rfl ?_)
   refine q0q ?_;exact⟨(x5_9+1),⟨⟨(by omega),(by omega)⟩,by omega⟩,rfl,rfl,rfl,rfl,rfl,rfl,trivial⟩
 · refine qgv rfl ?_
   refine qct (qct (ql7 rfl ?_));refine q1p (x:=C34 [1,1,1,0]) (y:=C34 [1,1,1,1]) rfl ?_;refine q1p (x:=C34 [1,1,1,0,0]) (y:=C34 [1,1,1,0,1]) rfl ?_;refine q1v (l:=[0]) rfl rfl ?_;refine q07 rfl rfl (q1u rfl rfl (by decide) rfl ?_)
   refine q0q ?_;refine q4i (x:=C34 [1,1,1,0,1,0]) rfl ?_;refine z25 (x:=C34 [1,1,1,0,1,0,0]) (fun(x6_23:Int)=>⟨[(2,.ptr (some (i1,0))),(3,.ptr (some (i4,0))),(6,.int .i64 x6_23)],h5,59,[]⟩) (fun(x6_23:Int)=>0≤x6_23∧0≤x6_23) (fun(x6_23:Int)=>((K.length:Int) - x6_23).toNat) 0 rfl ⟨rfl,rfl,rfl,rfl,rfl,rfl,trivial⟩ ⟨(by omega),(by omega)⟩ ?_
   intro x6_23 hI;obtain⟨hxx6_23,iv24⟩:0≤x6_23∧0≤x6_23:=hI;show J _ _ (C34 [1,1,1,0,1,0,0]) ⟨[(2,.ptr (some (i1,0))),(3,.ptr (some (i4,0))),(6,.int .i64 x6_23)],h5,59,[]⟩ _;refine q1p (x:=C34 [1,1,1,0,1,0,0,0]) (y:=C34 [1,1,1,0,1,0,0,1]) rfl ?_;refine q1p (x:=C34 [1,1,1,0,1,0,0,0,0]) (y:=C34 [1,1,1,0,1,0,0,0,1]) rfl ?_;refine q1v (l:=[0,1,2,3,4]) rfl rfl ?_;refine q07 rfl rfl (q0w rfl rfl (by decide) rfl ?_)
   refine q07 rfl rfl (q15 qn8 tZ30 (by decide) rfl rfl (by decide) rfl ?_)
   refine q07 rfl rfl (q7s tC30 rfl rfl (by decide) rfl o8.cells rfl ?_)
   refine q07 rfl rfl (qnh tS30 rfl rfl (by decide) rfl ?_)
   refine q07 rfl rfl (w_lt rfl rfl (by decide) rfl rfl ?_)
   refine q0q ?_;refine qjf (cx:=C34 [1,1,1,0,1,0,0,0,1,0]) (cy:=C34 [1,1,1,0,1,0,0,0,1,1]) rfl rfl (fun q25=>?_) (fun q25=>?_)
   · refine q8p rfl ?_
     refine q1p (x:=C34 [1,1,1,0,1,0,0,1,0]) (y:=C34 [1,1,1,0,1,0,0,1,1]) rfl ?_;refine q4i (x:=C34 [1,1,1,0,1,0,0,1,0,0]) rfl ?_;refine q1p (x:=C34 [1,1,1,0,1,0,0,1,0,0,0]) (y:=C34 [1,1,1,0,1,0,0,1,0,0,1]) rfl ?_;refine qu8 (qp5 (C34 [1,1,1,0,1,0,0,1,0,0,0])) [[(2,none)],[(48,some 0)],[(6,none)],[(49,some 1),(50,some 2)],[(51,some 3)],[(3,none)],[(53,some 5)],[(6,none)],[(54,some 6),(55,some 7)],[(56,some 8)],[(52,some 4),(57,some 9)]] ?_;refine d_op (j:=0) (d:=48) (sl:=[(2,.ptr (some (i1,0)))]) (h₁:=h5) rfl rfl rfl (by decide) rfl rfl rfl rfl (q15 qn8 tZ30 (by decide) rfl rfl (by decide) rfl ?_)
     refine q4w (V':=[.ptr (some (i1,1))]) (D':=[(0,0,false)]) rfl rfl rfl rfl rfl rfl ?_;refine d_op (j:=1) (d:=49) (sl:=[(48,.ptr (some (i1,1)))]) (h₁:=h5) rfl rfl rfl (by decide) rfl rfl rfl rfl (q7s tC30 rfl rfl (by decide) rfl o8.cells rfl ?_)
     refine q4w (V':=[.ptr (some (i1,1)),.slice q K.length cq]) (D':=[(0,0,false),(1,0,false)]) rfl rfl rfl rfl rfl rfl ?_;refine d_op (j:=2) (d:=50) (sl:=[(6,.int .i64 x6_23)]) (h₁:=h5) rfl rfl rfl (by decide) rfl rfl rfl rfl (q0w rfl rfl (by decide) rfl ?_)
     refine q4w (V':=[.ptr (some (i1,1)),.slice q K.length cq,.int .i64 x6_23]) (D':=[(0,0,false),(1,0,false),(2,0,false)]) rfl rfl rfl rfl rfl rfl ?_;obtain⟨i29,o30,cs28,rfl,hc26,hv27⟩:=l2.str (i:=x6_23) (by omega) (by omega)
     refine d_op (j:=3) (d:=51) (sl:=[(49,.slice (some (i29,o30)) K.length cq),(50,.int .i64 x6_23)]) (h₁:=h5) rfl rfl rfl (by decide) rfl rfl rfl rfl (q33 tS30 tZ9 rfl rfl (by decide) rfl rfl (by omega) ?_)
     refine q4w (V':=[.ptr (some (i1,1)),.slice (some (i29,o30)) K.length cq,.int .i64 x6_23,.ptr (some (i29,o30+x6_23.toNat * 1))]) (D':=[(0,0,false),(1,0,false),(2,0,false),(3,0,false)]) rfl rfl rfl rfl rfl rfl ?_;have l0_2_31:Le h h5:=w3.le.trans w6.le;refine d_op (j:=4) (d:=52) (sl:=[(51,.ptr (some (i29,o30+x6_23.toNat * 1)))]) (h₁:=h5) rfl rfl rfl (by decide) rfl rfl rfl rfl (q7s tC9 rfl rfl (by decide) rfl (l0_2_31.cells hc26) hv27 ?_)
     refine q4w (V':=[.ptr (some (i1,1)),.slice (some (i29,o30)) K.length cq,.int .i64 x6_23,.ptr (some (i29,o30+x6_23.toNat * 1)),.str (K.getD (x6_23).toNat ByteArray.empty)]) (D':=[(0,0,false),(1,0,false),(2,0,false),(3,0,false),(4,0,false)]) rfl rfl rfl rfl rfl rfl ?_;refine d_op (j:=5) (d:=53) (sl:=[(3,.ptr (some (i4,0)))]) (h₁:=h5) rfl rfl rfl (by decide) rfl rfl rfl rfl (q15 qn8 tZ30 (by decide) rfl rfl (by decide) rfl ?_)
     refine q4w (V':=[.ptr (some (i1,1)),.slice (some (i29,o30)) K.length cq,.int .i64 x6_23,.ptr (some (i29,o30+x6_23.toNat * 1)),.str (K.getD (x6_23).toNat ByteArray.empty),.ptr (some (i4,1))]) (D':=[(0,0,false),(1,0,false),(2,0,false),(3,0,false),(4,0,false),(5,0,false)]) rfl rfl rfl rfl rfl rfl ?_;refine d_op (j:=6) (d:=54) (sl:=[(53,.ptr (some (i4,1)))]) (h₁:=h5) rfl rfl rfl (by decide) rfl rfl rfl rfl (q7s tC30 rfl rfl (by decide) rfl w6.own.cells rfl ?_)
     refine q4w (V':=[.ptr (some (i1,1)),.slice (some (i29,o30)) K.length cq,.int .i64 x6_23,.ptr (some (i29,o30+x6_23.toNat * 1)),.str (K.getD (x6_23).toNat ByteArray.empty),.ptr (some (i4,1)),.slice q2 K.length cq2]) (D':=[(0,0,false),(1,0,false),(2,0,false),(3,0,false),(4,0,false),(5,0,false),(6,0,false)]) rfl rfl rfl rfl rfl rfl ?_;refine d_op (j:=7) (d:=55) (sl:=[(6,.int .i64 x6_23)]) (h₁:=h5) rfl rfl rfl (by decide) rfl rfl rfl rfl (q0w rfl rfl (by decide) rfl ?_)
     refine q4w (V':=[.ptr (some (i1,1)),.slice (some (i29,o30)) K.length cq,.int .i64 x6_23,.ptr (some (i29,o30+x6_23.toNat * 1)),.str (K.getD (x6_23).toNat ByteArray.empty),.ptr (some (i4,1)),.slice q2 K.length cq2,.int .i64 x6_23]) (D':=[(0,0,false),(1,0,false),(2,0,false),(3,0,false),(4,0,false),(5,0,false),(6,0,false),(7,0,false)]) rfl rfl rfl rfl rfl rfl ?_;obtain⟨i35,o36,cs34,rfl,hc32,hv33⟩:=l4.str (i:=x6_23) (by omega) (by omega)
     refine d_op (j:=8) (d:=56) (sl:=[(54,.slice (some (i35,o36)) K.length cq2),(55,.int .i64 x6_23)]) (h₁:=h5) rfl rfl rfl (by decide) rfl rfl rfl rfl (q33 tS30 tZ9 rfl rfl (by decide) rfl rfl (by omega) ?_)
     refine q4w (V':=[.ptr (some (i1,1)),.slice (some (i29,o30)) K.length cq,.int .i64 x6_23,.ptr (some (i29,o30+x6_23.toNat * 1)),.str (K.getD (x6_23).toNat ByteArray.empty),.ptr (some (i4,1)),.slice (some (i35,o36)) K.length cq2,.int .i64 x6_23,.ptr (some (i35,o36+x6_23.toNat * 1))]) (D':=[(0,0,false),(1,0,false),(2,0,false),(3,0,false),(4,0,false),(5,0,false),(6,0,false),(7,0,false),(8,0,false)]) rfl rfl rfl rfl rfl rfl ?_;refine d_op (j:=9) (d:=57) (sl:=[(56,.ptr (some (i35,o36+x6_23.toNat * 1)))]) (h₁:=h5) rfl rfl rfl (by decide) rfl rfl rfl rfl (q7s tC9 rfl rfl (by decide) rfl (l0_2_31.cells hc32) hv33 ?_)
     refine q4w (V':=[.ptr (some (i1,1)),.slice (some (i29,o30)) K.length cq,.int .i64 x6_23,.ptr (some (i29,o30+x6_23.toNat * 1)),.str (K.getD (x6_23).toNat ByteArray.empty),.ptr (some (i4,1)),.slice (some (i35,o36)) K.length cq2,.int .i64 x6_23,.ptr (some (i35,o36+x6_23.toNat * 1)),.str (K.getD (x6_23).toNat ByteArray.empty)]) (D':=[(0,0,false),(1,0,false),(2,0,false),(3,0,false),(4,0,false),(5,0,false),(6,0,false),(7,0,false),(8,0,false),(9,0,false)]) rfl rfl rfl rfl rfl rfl ?_;refine d_op (j:=10) (d:=58) (sl:=[(52,.str (K.getD (x6_23).toNat ByteArray.empty)),(57,.str (K.getD (x6_23).toNat ByteArray.empty))]) (h₁:=h5) rfl rfl rfl (by decide) rfl rfl rfl rfl (qzb rfl rfl (by decide) rfl rfl ?_)
     refine q4w (V':=[.ptr (some (i1,1)),.slice (some (i29,o30)) K.length cq,.int .i64 x6_23,.ptr (some (i29,o30+x6_23.toNat * 1)),.str (K.getD (x6_23).toNat ByteArray.empty),.ptr (some (i4,1)),.slice (some (i35,o36)) K.length cq2,.int .i64 x6_23,.ptr (some (i35,o36+x6_23.toNat * 1)),.str (K.getD (x6_23).toNat ByteArray.empty),.bool false]) (D':=[(0,0,false),(1,0,false),(2,0,false),(3,0,false),(4,0,false),(5,0,false),(6,0,false),(7,0,false),(8,0,false),(9,0,false),(10,0,false)]) rfl rfl rfl rfl rfl rfl ?_;refine z23 (effs:=[]) (fin:=[(2,none),(3,none),(6,none),(58,some 10)]) (slF:=[(2,.ptr (some (i1,0))),(3,.ptr (some (i4,0))),(6,.int .i64 x6_23),(58,.bool false)]) rfl mixed (by kernel_rfl) (by kernel_rfl) rfl rfl ?_
     refine qog (cx:=C34 [1,1,1,0,1,0,0,1,0,0,1,0]) (cy:=C34 [1,1,1,0,1,0,0,1,0,0,1,1]) rfl rfl ?_;refine q8p rfl ?_;refine q1v (l:=[0,1,2]) rfl rfl ?_;refine q07 rfl rfl (q0w rfl rfl (by decide) rfl ?_)
     refine q07 rfl rfl (z1r rfl rfl (by decide) rfl rfl (by omega) ?_)
     refine q07 rfl rfl (q1u rfl rfl (by decide) rfl ?_)
     refine q0q ?_;exact⟨(x6_23+1),⟨⟨(by omega),(by omega)⟩,by omega⟩,rfl,rfl,rfl,rfl,rfl,rfl,trivial⟩
   · refine qgv rfl ?_
     refine qct (qct (ql7 rfl ?_));refine q1p (x:=C34 [1,1,1,1,0]) (y:=C34 [1,1,1,1,1]) rfl ?_;refine q1v (l:=[0]) rfl rfl ?_;refine q07 rfl rfl (q1u rfl rfl (by decide) rfl ?_)
     refine q0q ?_;refine quc rfl ?_;refine qf4 rfl ?_;have l0_2_37:Le h h5:=w3.le.trans w6.le;exact⟨rfl,l0_2_37⟩
theorem c5{G:AH}{call:AV}(hcall:∀ M a,M.wf→G.next≤a→(∀ i c,G.get i=some c→M.get i=some c)→G.next≤M.next→(∀ i c,M.get i=some c→i≠a→i<a∧c.sup≤a)→Own M a [.slice none 0 (.exact 0),.slice none 0 (.exact 0)]→JApp Try.prog call [.ptr (some (a,0))] M (fun e H=> ∃ w,e= .ret w∧Puts Try.prog M a H w)):
 q0n Try.prog 5 [call] G (fun e G'=>e= .ret (.bool true)∧Le G G'):=q2k fun gw=>by
 refine qkv fun gs=>?_
 simp only[supL]at gs;refine q0s (N:=15) (sl:=[(0,_)]) isf5 rfl (by show 1≤15; decide) rfl ?_
 refine q1p (x:=C5 [0]) (y:=C5 [1]) rfl ?_;refine q1v (l:=[0]) rfl rfl ?_;refine q07 rfl rfl (q1u rfl rfl (by decide) rfl ?_)
 refine q0q ?_;refine q1p (x:=C5 [1,0]) (y:=C5 [1,1]) rfl ?_;refine q1v (l:=[0,1]) rfl rfl ?_;refine q07 rfl rfl (qgb (zc:=[.slice none 0 (.exact 0),.slice none 0 (.exact 0)]) tN32 rfl rfl rfl (by decide) ?_)
 intro a G1 n1;refine q07 rfl rfl (qgb (zc:=[.slice none 0 (.exact 0),.slice none 0 (.exact 0)]) tN32 rfl rfl rfl (by decide) ?_)
 intro b G2 n2;refine q0q ?_;obtain⟨is1,nx1,new1,old1⟩:=n1;obtain⟨is2,nx2,new2,old2⟩:=n2;have hab:a≠b:=by omega
 have ga:G2.get a=some (.own [.slice none 0 (.exact 0),.slice none 0 (.exact 0)]):=(old2 a hab).trans new1
 have gG:∀ i c,G.get i=some c→G2.get i=some c∧i≠a∧i≠b:=fun i c hi=>by
  have:=(gw i c hi).1;have e1:i≠a:=by omega
  have e2:i≠b:=by omega
  exact⟨(old2 i e2).trans ((old1 i e1).trans hi),e1,e2⟩
 have back:∀ i c,G2.get i=some c→i≠a→i≠b→G.get i=some c:=fun i c hi e1 e2=>(old1 i e1).symm.trans ((old2 i e2).symm.trans hi)
 refine q1p (x:=C5 [1,1,0]) (y:=C5 [1,1,1]) rfl ?_;refine q1v (l:=[0,1,2]) rfl rfl ?_;refine q07 rfl rfl (q0w rfl rfl (by decide) rfl ?_)
 refine q07 rfl rfl (qb6 fun hw=>?_)
 have g2w:G2.wf:=hw.2.1;have mw:(G2.del b).wf:=AH.za0 g2w;have ha2:a<G2.next:=(g2w a _ ga).1
 obtain⟨e0,H0,⟨w,rfl,keep,p,c,q,d,L,K,t,wipe⟩,h0w,_,h0n,hc⟩:=JApp.fix (hcall (G2.del b) a mw (by omega) (fun i c hi=>by rw[AH.z9z (gG i c hi).2.2]; exact(gG i c hi).1) (by simp only[AH.del]; omega) (fun i c hi hia=>by
  obtain⟨e1,e2⟩:=AH.z9y hi;have:=gw i c (back i c e2 hia e1);omega) (by show(G2.del b).get a=_; rw[AH.z9z hab]; exact ga)) mw (by simp only[AH.del]; omega) (by simp only[supL,AV.sup,supA,AH.del]; omega)
 refine qb3 rfl rfl (by decide) rfl rfl (qsc hc g2w (by show call.sup≤_; omega) (by simp only[supL,AV.sup,supA]; omega) new2) ?_
 rintro e1 H1 ⟨rfl,fr⟩;refine q07 rfl rfl (q1u rfl rfl (by decide) rfl ?_)
 refine q0q ?_;refine q1p (x:=C5 [1,1,1,0]) (y:=C5 [1,1,1,1]) rfl ?_;refine q1v (l:=[0,1]) rfl rfl ?_;refine q07 rfl rfl (q0w rfl rfl (by decide) rfl ?_)
 refine q07 rfl rfl (qb3 rfl rfl (by decide) rfl rfl (wipe H1 (fun i c hi hg=>(fr.new i hi).trans hg)) ?_)
 rintro e2 H2 ⟨⟨u,rfl⟩,k1,k2⟩;refine q0q ?_;have a1:H1.get a=H0.get a:=fr.old a _ hab ga;have b1:H1.get b=some (.own [.slice none 0 (.exact 0),.slice none 0 (.exact 0)]):=fr.box.trans new2;have hb2:b<G2.next:=(g2w b _ new2).1
 have keepG:∀ i c,(G2.del b).get i=some c→i≠a→H2.get i=some c:=fun i c hi hia=>by
  obtain⟨e1,e2⟩:=AH.z9y hi;exact k2 i c ((fr.old i c e1 e2).trans (keep i c hi hia)) (.inl (g2w i c e2).1)
 obtain⟨t1,t2,t3,t4,t5⟩:=t;have oa2:Own H2 a [.slice p L.length c,.slice q K.length d]:=k2 a _ (a1.trans t1) (.inl ha2)
 have s:Second (G2.del b) a b [.slice none 0 (.exact 0),.slice none 0 (.exact 0)] H2:=⟨mw,by rw[AH.z9z hab]; exact ga,fun i c hi hia=>by
  obtain⟨e1,e2⟩:=AH.z9y hi;have:=gw i c (back i c e2 hia e1);omega,rfl,by simp[AH.del],keepG,k2 b _ b1 (.inl hb2),by have:=fr.next; simp only[AH.del]at h0n ⊢; omega,by have:=fr.next; simp only[AH.del]at h0n; omega⟩
 refine q1p (x:=C5 [1,1,1,1,0]) (y:=C5 [1,1,1,1,1]) rfl ?_;refine q1v (l:=[0,1]) rfl rfl ?_;refine q07 rfl rfl (q0w rfl rfl (by decide) rfl ?_)
 refine q07 rfl rfl (qb3 rfl rfl (by decide) rfl rfl (qsb hc s (by show call.sup≤_; omega) keep) ?_)
 rintro e3 H3 ⟨hr,ag⟩;obtain⟨u3,rfl⟩:=hr w rfl;refine q0q ?_;obtain⟨p',q',ob3,l3,l4,_,_⟩:=ag.txt ⟨t1,t2,t3,t4,t5⟩;have oa3:Own H3 a [.slice p L.length c,.slice q K.length d]:=ag.le.get a _ (by rw[AH.z9z hab]; exact oa2)
 have mv:∀ {r:Option (Nat×Nat)} {vs:List AV},Lst H0 (G2.del b).next r vs→(r=p∨r=q)→Lst H3 0 r vs:=fun {r vs} l hr=>(l.move (h':=H3) fun i c hi hg ho=>by
  have e1:H1.get i=some c:=(fr.new i hi).trans hg;have e2:H2.get i=some c:=k2 i c e1 (.inr (by rcases hr with e | e<;>subst e<;>first | exact .inl ho | exact .inr ho))
  have hne:i≠b:=by simp only[AH.del]at hi; omega
  exact ag.le.get i c (by rw[AH.z9z hne]; exact e2)).zero
 refine q1p (x:=C5 [1,1,1,1,1,0]) (y:=C5 [1,1,1,1,1,1]) rfl ?_;refine q1v (l:=[0,1,2,3]) rfl rfl ?_;refine q07 rfl rfl (qpg (l:=[.slice p L.length c,.slice q K.length d]) tA32 rfl rfl (by decide) rfl oa3.cells (by simp) rfl ?_)
 refine q07 rfl rfl (qpg (l:=[.slice p' L.length c,.slice q' K.length d]) tA32 rfl rfl (by decide) rfl ob3.cells (by simp) rfl ?_)
 refine q07 rfl rfl (q1h isf34 rfl rfl (by decide) rfl (c34 (mv t2 (.inl rfl)) (mv t3 (.inr rfl)) l3 l4 t4 t5) ?_)
 rintro e4 H4 ⟨rfl,le4⟩;refine q07 rfl rfl (q1u rfl rfl (by decide) rfl ?_)
 refine q0q ?_;refine quc rfl ?_;refine qf4 rfl ?_;refine⟨rfl,Le.trans ⟨?_,fun i c hi=>?_⟩ le4⟩
 · have:=ag.le.next; have:=s.next; simp only[AH.del]at *; omega
 · obtain⟨e1,e2,e3⟩:=gG i c hi
   exact ag.le.get i c (by rw[AH.z9z e3]; exact keepG i c (by rw[AH.z9z e3]; exact e1) e2)
theorem c3{h:AH}{prx:Int}{nox:Int}{opx:Option (Nat×Nat)}{onx:Nat}{copx:Nat}{mpx:Option (Nat×Nat)}{mnx:Nat}{cmpx:Nat}{spx:Option (Nat×Nat)}{snx:Nat}{cspx:Nat}{pry:Int}{noy:Int}{opy:Option (Nat×Nat)}{ony:Nat}{copy:Nat}{mpy:Option (Nat×Nat)}{mny:Nat}{cmpy:Nat}{spy:Option (Nat×Nat)}{sny:Nat}{cspy:Nat}{dp:Option (Nat×Nat)}{dn:Nat}{cdp:Nat}{qa:Int}{qb:Int}{qy:Int}(bprx:(-9223372036854775808)≤prx∧prx≤9223372036854775807)(bnox:(-9223372036854775808)≤nox∧nox≤9223372036854775807)(sopx:SlV h opx onx 3 (okL h [.str,.int (-9223372036854775808) 9223372036854775807,.int (-9223372036854775808) 9223372036854775807]))(mopx:onx≤1048576)(xopx:onx≤copx)(smpx:SlV h mpx mnx 4 (okL h [.int (-9223372036854775808) 9223372036854775807,.int (-9223372036854775808) 9223372036854775807,.int (-9223372036854775808) 9223372036854775807,.int (-9223372036854775808) 9223372036854775807]))(mmpx:mnx≤1048576)(xmpx:mnx≤cmpx)(sspx:SlV h spx snx 3 (okL h [.int (-9223372036854775808) 9223372036854775807,.int (-9223372036854775808) 9223372036854775807,.int (-9223372036854775808) 9223372036854775807]))(mspx:snx≤1048576)(xspx:snx≤cspx)(bpry:(-9223372036854775808)≤pry∧pry≤9223372036854775807)(bnoy:(-9223372036854775808)≤noy∧noy≤9223372036854775807)(sopy:SlV h opy ony 3 (okL h [.str,.int (-9223372036854775808) 9223372036854775807,.int (-9223372036854775808) 9223372036854775807]))(mopy:ony≤1048576)(xopy:ony≤copy)(smpy:SlV h mpy mny 4 (okL h [.int (-9223372036854775808) 9223372036854775807,.int (-9223372036854775808) 9223372036854775807,.int (-9223372036854775808) 9223372036854775807,.int (-9223372036854775808) 9223372036854775807]))(mmpy:mny≤1048576)(xmpy:mny≤cmpy)(sspy:SlV h spy sny 3 (okL h [.int (-9223372036854775808) 9223372036854775807,.int (-9223372036854775808) 9223372036854775807,.int (-9223372036854775808) 9223372036854775807]))(mspy:sny≤1048576)(xspy:sny≤cspy)(sdp:SlV h dp dn 1 (okL h [.int (-9223372036854775808) 9223372036854775807]))(mdp:dn≤1048576)(xdp:dn≤cdp)(bqa:(-9223372036854775808)≤qa∧qa≤9223372036854775807)(bqb:(-9223372036854775808)≤qb∧qb≤9223372036854775807)(bqy:(-9223372036854775808)≤qy∧qy≤9223372036854775807)(hA:Go.K.ArgOk h Go.Proofs.KT.argTy [.int .i64 prx,.int .i64 nox,.slice opx onx (.exact copx),.slice mpx mnx (.exact cmpx),.slice spx snx (.exact cspx),.int .i64 pry,.int .i64 noy,.slice opy ony (.exact copy),.slice mpy mny (.exact cmpy),.slice spy sny (.exact cspy),.slice dp dn (.exact cdp),.int .i64 qa,.int .i64 qb,.int .i64 qy]):q0n Try.prog 3 [.agg [.int .i64 prx,.int .i64 nox,.slice opx onx (.exact copx),.slice mpx mnx (.exact cmpx),.slice spx snx (.exact cspx),.int .i64 pry,.int .i64 noy,.slice opy ony (.exact copy),.slice mpy mny (.exact cmpy),.slice spy sny (.exact cspy),.slice dp dn (.exact cdp),.int .i64 qa,.int .i64 qb,.int .i64 qy]] h (fun e _=>e= .ret (.bool true)):=q2k fun hw=>by
 refine qkv fun gs=>?_
 have hx1:(AV.agg [.int .i64 prx,.int .i64 nox,.slice opx onx (.exact copx),.slice mpx mnx (.exact cmpx),.slice spx snx (.exact cspx),.int .i64 pry,.int .i64 noy,.slice opy ony (.exact copy),.slice mpy mny (.exact cmpy),.slice spy sny (.exact cspy),.slice dp dn (.exact cdp),.int .i64 qa,.int .i64 qb,.int .i64 qy]).sup≤h.next:=by simp only[supL]at gs; omega
 have hx2:supL [.int .i64 prx,.int .i64 nox,.slice opx onx (.exact copx),.slice mpx mnx (.exact cmpx),.slice spx snx (.exact cspx),.int .i64 pry,.int .i64 noy,.slice opy ony (.exact copy),.slice mpy mny (.exact cmpy),.slice spy sny (.exact cspy),.slice dp dn (.exact cdp),.int .i64 qa,.int .i64 qb,.int .i64 qy]≤h.next:=hx1;refine q0s (N:=49) (sl:=[(0,_)]) isf3 rfl (by show 1≤49; decide) rfl ?_
 refine q1p (x:=C3 [0]) (y:=C3 [1]) rfl ?_;refine q1v (l:=[0,1]) rfl rfl ?_;refine q07 rfl rfl (z8u (z:=[.int .i64 prx,.int .i64 nox,.slice opx onx (.exact copx),.slice mpx mnx (.exact cmpx),.slice spx snx (.exact cspx),.int .i64 pry,.int .i64 noy,.slice opy ony (.exact copy),.slice mpy mny (.exact cmpy),.slice spy sny (.exact cspy),.slice dp dn (.exact cdp),.int .i64 qa,.int .i64 qb,.int .i64 qy]) rfl rfl (by decide) rfl rfl ?_)
 intro xb G0 n0;refine q07 rfl rfl (q1u rfl rfl (by decide) rfl ?_)
 refine q0q ?_;refine q1p (x:=C3 [1,0]) (y:=C3 [1,1]) rfl ?_;refine q1v (l:=[0,1]) rfl rfl ?_;refine q07 rfl rfl (qgb (zc:=[.slice none 0 (.exact 0),.slice none 0 (.exact 0)]) tN32 rfl rfl rfl (by decide) ?_)
 intro a G1 n1;refine q07 rfl rfl (qgb (zc:=[.slice none 0 (.exact 0),.slice none 0 (.exact 0)]) tN32 rfl rfl rfl (by decide) ?_)
 intro b G2 n2;refine q0q ?_;refine q1p (x:=C3 [1,1,0]) (y:=C3 [1,1,1]) rfl ?_;refine q1v (l:=[0,1]) rfl rfl ?_;refine q07 rfl rfl (qb6 fun hw2=>?_)
 have xG:Own G2 xb [.int .i64 prx,.int .i64 nox,.slice opx onx (.exact copx),.slice mpx mnx (.exact cmpx),.slice spx snx (.exact cspx),.int .i64 pry,.int .i64 noy,.slice opy ony (.exact copy),.slice mpy mny (.exact cmpy),.slice spy sny (.exact cspy),.slice dp dn (.exact cdp),.int .i64 qa,.int .i64 qb,.int .i64 qy]:=by show G2.get xb=_; rw[n2.old xb (by have:=n0.is; have:=n1.is; have:=n2.is; have:=n0.next; have:=n1.next; omega),n1.old xb (by have:=n0.is; have:=n1.is; have:=n0.next; omega)]; exact n0.new
 refine(qpg (l:=[.int .i64 prx,.int .i64 nox,.slice opx onx (.exact copx),.slice mpx mnx (.exact cmpx),.slice spx snx (.exact cspx),.int .i64 pry,.int .i64 noy,.slice opy ony (.exact copy),.slice mpy mny (.exact cmpy),.slice spy sny (.exact cspy),.slice dp dn (.exact cdp),.int .i64 qa,.int .i64 qb,.int .i64 qy]) tA29 rfl rfl (by decide) rfl xG.cells (by simp) rfl ?_)
 refine q07 rfl rfl (qb6 fun hw3=>?_)
 have g2w:G2.wf:=hw3.2.1;obtain⟨H0,p0,c0,q0,d0,L,K,tx,hfx,h0w,h0n,keep,hca⟩:=Go.K.first_allK (P:=Try.prog) (f:=4) hw n0 n1 n2 g2w hx1 (fun M ma kG mn oa=>Go.K.all_puts (Go.K.allL_mem (L:=[]) trivial) mixed Go.Proofs.KT.qAll hA hx1 hw ma kG mn oa)
 refine(q1h isf4 rfl rfl (by decide) rfl hca ?_)
 rintro e1 H1 ⟨rfl,fr⟩;obtain⟨lH,ox,oa,ob,nxa,nxb,nab,h1n⟩:=qqr hw n0 n1 n2 tx h0n keep fr;refine q0q ?_;refine q1p (x:=C3 [1,1,1,0]) (y:=C3 [1,1,1,1]) rfl ?_;refine q1v (l:=[0,1,2,3,4,5,6,7,8,9,10,11,12,13,14,15,16,17,18,19,20,21,22,23,24,25,26,27,28,29,30]) rfl rfl ?_;refine q07 rfl rfl (q34 rfl rfl (by decide) rfl rfl ?_)
 have l0_1_8:Le h H1:=lH;refine q07 rfl rfl (q1h isf5 rfl rfl (by decide) rfl (q2k fun gw=>c5 (fun M a mw ma kG mn kM ob=>c6 (Go.K.ArgOk.le hA l0_1_8) gw ma kG mn ob ox)) ?_)
 rintro e9 h10 ⟨rfl,le11⟩;refine q07 rfl rfl (q0w rfl rfl (by decide) rfl ?_)
 refine w_G rfl rfl rfl rfl rfl (q34 rfl rfl (by decide) rfl rfl ?_)
 have o12:Own h10 xb [.int .i64 prx,.int .i64 nox,.slice opx onx (.exact copx),.slice mpx mnx (.exact cmpx),.slice spx snx (.exact cspx),.int .i64 pry,.int .i64 noy,.slice opy ony (.exact copy),.slice mpy mny (.exact cmpy),.slice spy sny (.exact cspy),.slice dp dn (.exact cdp),.int .i64 qa,.int .i64 qb,.int .i64 qy]:=(ox.le le11);have l0_2_13:Le h h10:=l0_1_8.trans le11;refine w_G rfl rfl rfl rfl rfl (q1h isf5 rfl rfl (by decide) rfl (q2k fun gw=>c5 (fun M a mw ma kG mn kM ob=>c11 (Go.K.ArgOk.le hA l0_2_13) gw ma kG mn ob o12)) ?_)
 rintro e14 h15 ⟨rfl,le16⟩;refine q07 rfl rfl (q4f rfl rfl (by decide) rfl rfl ?_)
 refine q07 rfl rfl (q0w rfl rfl (by decide) rfl ?_)
 refine w_G rfl rfl rfl rfl rfl (q34 rfl rfl (by decide) rfl rfl ?_)
 have o17:Own h15 xb [.int .i64 prx,.int .i64 nox,.slice opx onx (.exact copx),.slice mpx mnx (.exact cmpx),.slice spx snx (.exact cspx),.int .i64 pry,.int .i64 noy,.slice opy ony (.exact copy),.slice mpy mny (.exact cmpy),.slice spy sny (.exact cspy),.slice dp dn (.exact cdp),.int .i64 qa,.int .i64 qb,.int .i64 qy]:=(o12.le le16);have l0_3_18:Le h h15:=l0_2_13.trans le16;refine w_G rfl rfl rfl rfl rfl (q1h isf5 rfl rfl (by decide) rfl (q2k fun gw=>c5 (fun M a mw ma kG mn kM ob=>c16 (Go.K.ArgOk.le hA l0_3_18) gw ma kG mn ob o17)) ?_)
 rintro e19 h20 ⟨rfl,le21⟩;refine q07 rfl rfl (q4f rfl rfl (by decide) rfl rfl ?_)
 refine q07 rfl rfl (q0w rfl rfl (by decide) rfl ?_)
 refine w_G rfl rfl rfl rfl rfl (q34 rfl rfl (by decide) rfl rfl ?_)
 have o22:Own h20 xb [.int .i64 prx,.int .i64 nox,.slice opx onx (.exact copx),.slice mpx mnx (.exact cmpx),.slice spx snx (.exact cspx),.int .i64 pry,.int .i64 noy,.slice opy ony (.exact copy),.slice mpy mny (.exact cmpy),.slice spy sny (.exact cspy),.slice dp dn (.exact cdp),.int .i64 qa,.int .i64 qb,.int .i64 qy]:=(o17.le le21);have l0_4_23:Le h h20:=l0_3_18.trans le21;refine w_G rfl rfl rfl rfl rfl (q1h isf5 rfl rfl (by decide) rfl (q2k fun gw=>c5 (fun M a mw ma kG mn kM ob=>c18 (Go.K.ArgOk.le hA l0_4_23) gw ma kG mn ob o22)) ?_)
 rintro e24 h25 ⟨rfl,le26⟩;refine q07 rfl rfl (q4f rfl rfl (by decide) rfl rfl ?_)
 refine q07 rfl rfl (q0w rfl rfl (by decide) rfl ?_)
 refine w_G rfl rfl rfl rfl rfl (q34 rfl rfl (by decide) rfl rfl ?_)
 have o27:Own h25 xb [.int .i64 prx,.int .i64 nox,.slice opx onx (.exact copx),.slice mpx mnx (.exact cmpx),.slice spx snx (.exact cspx),.int .i64 pry,.int .i64 noy,.slice opy ony (.exact copy),.slice mpy mny (.exact cmpy),.slice spy sny (.exact cspy),.slice dp dn (.exact cdp),.int .i64 qa,.int .i64 qb,.int .i64 qy]:=(o22.le le26);have l0_5_28:Le h h25:=l0_4_23.trans le26;refine w_G rfl rfl rfl rfl rfl (q1h isf5 rfl rfl (by decide) rfl (q2k fun gw=>c5 (fun M a mw ma kG mn kM ob=>c20 (Go.K.ArgOk.le hA l0_5_28) gw ma kG mn ob o27)) ?_)
 rintro e29 h30 ⟨rfl,le31⟩;refine q07 rfl rfl (q4f rfl rfl (by decide) rfl rfl ?_)
 refine q07 rfl rfl (q0w rfl rfl (by decide) rfl ?_)
 refine w_G rfl rfl rfl rfl rfl (q34 rfl rfl (by decide) rfl rfl ?_)
 have o32:Own h30 xb [.int .i64 prx,.int .i64 nox,.slice opx onx (.exact copx),.slice mpx mnx (.exact cmpx),.slice spx snx (.exact cspx),.int .i64 pry,.int .i64 noy,.slice opy ony (.exact copy),.slice mpy mny (.exact cmpy),.slice spy sny (.exact cspy),.slice dp dn (.exact cdp),.int .i64 qa,.int .i64 qb,.int .i64 qy]:=(o27.le le31);have l0_6_33:Le h h30:=l0_5_28.trans le31;refine w_G rfl rfl rfl rfl rfl (q1h isf5 rfl rfl (by decide) rfl (q2k fun gw=>c5 (fun M a mw ma kG mn kM ob=>c23 (Go.K.ArgOk.le hA l0_6_33) gw ma kG mn ob o32)) ?_)
 rintro e34 h35 ⟨rfl,le36⟩;refine q07 rfl rfl (q4f rfl rfl (by decide) rfl rfl ?_)
 refine q07 rfl rfl (q0w rfl rfl (by decide) rfl ?_)
 refine w_G rfl rfl rfl rfl rfl (q34 rfl rfl (by decide) rfl rfl ?_)
 have o37:Own h35 xb [.int .i64 prx,.int .i64 nox,.slice opx onx (.exact copx),.slice mpx mnx (.exact cmpx),.slice spx snx (.exact cspx),.int .i64 pry,.int .i64 noy,.slice opy ony (.exact copy),.slice mpy mny (.exact cmpy),.slice spy sny (.exact cspy),.slice dp dn (.exact cdp),.int .i64 qa,.int .i64 qb,.int .i64 qy]:=(o32.le le36);have l0_7_38:Le h h35:=l0_6_33.trans le36;refine w_G rfl rfl rfl rfl rfl (q1h isf5 rfl rfl (by decide) rfl (q2k fun gw=>c5 (fun M a mw ma kG mn kM ob=>c28 (Go.K.ArgOk.le hA l0_7_38) gw ma kG mn ob o37)) ?_)
 rintro e39 h40 ⟨rfl,le41⟩;refine q07 rfl rfl (q4f rfl rfl (by decide) rfl rfl ?_)
 refine q07 rfl rfl (q0w rfl rfl (by decide) rfl ?_)
 refine w_G rfl rfl rfl rfl rfl (q34 rfl rfl (by decide) rfl rfl ?_)
 have o42:Own h40 xb [.int .i64 prx,.int .i64 nox,.slice opx onx (.exact copx),.slice mpx mnx (.exact cmpx),.slice spx snx (.exact cspx),.int .i64 pry,.int .i64 noy,.slice opy ony (.exact copy),.slice mpy mny (.exact cmpy),.slice spy sny (.exact cspy),.slice dp dn (.exact cdp),.int .i64 qa,.int .i64 qb,.int .i64 qy]:=(o37.le le41);have l0_8_43:Le h h40:=l0_7_38.trans le41;refine w_G rfl rfl rfl rfl rfl (q1h isf5 rfl rfl (by decide) rfl (q2k fun gw=>c5 (fun M a mw ma kG mn kM ob=>c31 (Go.K.ArgOk.le hA l0_8_43) gw ma kG mn ob o42)) ?_)
 rintro e44 h45 ⟨rfl,le46⟩;refine q07 rfl rfl (q4f rfl rfl (by decide) rfl rfl ?_)
 refine q07 rfl rfl (q1u rfl rfl (by decide) rfl ?_)
 refine q0q ?_;refine q1p (x:=C3 [1,1,1,1,0]) (y:=C3 [1,1,1,1,1]) rfl ?_;refine q1v (l:=[0,1]) rfl rfl ?_;have o47:Own h45 xb [.int .i64 prx,.int .i64 nox,.slice opx onx (.exact copx),.slice mpx mnx (.exact cmpx),.slice spx snx (.exact cspx),.int .i64 pry,.int .i64 noy,.slice opy ony (.exact copy),.slice mpy mny (.exact cmpy),.slice spy sny (.exact cspy),.slice dp dn (.exact cdp),.int .i64 qa,.int .i64 qb,.int .i64 qy]:=(o42.le le46);refine q07 rfl rfl (qpg (l:=[.int .i64 prx,.int .i64 nox,.slice opx onx (.exact copx),.slice mpx mnx (.exact cmpx),.slice spx snx (.exact cspx),.int .i64 pry,.int .i64 noy,.slice opy ony (.exact copy),.slice mpy mny (.exact cmpy),.slice spy sny (.exact cspy),.slice dp dn (.exact cdp),.int .i64 qa,.int .i64 qb,.int .i64 qy]) tA29 rfl rfl (by decide) rfl o47.cells (by simp) rfl ?_)
 have l1_3_48:Le H1 h15:=le11.trans le16;have l1_4_49:Le H1 h20:=l1_3_48.trans le21;have l1_5_50:Le H1 h25:=l1_4_49.trans le26;have l1_6_51:Le H1 h30:=l1_5_50.trans le31;have l1_7_52:Le H1 h35:=l1_6_51.trans le36;have l1_8_53:Le H1 h40:=l1_7_52.trans le41;have l1_9_54:Le H1 h45:=l1_8_53.trans le46;refine q07 rfl rfl (q1h isf4 rfl rfl (by decide) rfl (qtn hw n0 n1 n2 g2w hx1 hx2 tx hfx h0n keep fr l1_9_54) ?_)
 rintro e2 h55 ⟨⟨v2,rfl⟩,oa3,⟨p1,q1,ob3,la,lb,lc,ld⟩,tL,tK⟩;refine q0q ?_;refine q1p (x:=C3 [1,1,1,1,1,0]) (y:=C3 [1,1,1,1,1,1]) rfl ?_;refine q1v (l:=[0,1,2,3,4,5,6,7,8,9]) rfl rfl ?_;refine q07 rfl rfl (q0w rfl rfl (by decide) rfl ?_)
 refine q07 rfl rfl (q0w rfl rfl (by decide) rfl ?_)
 refine w_G rfl rfl rfl rfl rfl (qpg (l:=[.slice p0 L.length c0,.slice q0 K.length d0]) tA32 rfl rfl (by decide) rfl oa3.cells (by simp) rfl ?_)
 refine w_G rfl rfl rfl rfl rfl (qpg (l:=[.slice p1 L.length c0,.slice q1 K.length d0]) tA32 rfl rfl (by decide) rfl ob3.cells (by simp) rfl ?_)
 refine w_G rfl rfl rfl rfl rfl (q1h isf34 rfl rfl (by decide) rfl (c34 la lb lc ld tL tK) ?_)
 rintro e3 h56 ⟨rfl,le57⟩;refine q07 rfl rfl (q4f rfl rfl (by decide) rfl rfl ?_)
 refine q07 rfl rfl (q0w rfl rfl (by decide) rfl ?_)
 refine w_G rfl rfl rfl rfl rfl (q1h isf35 rfl rfl (by decide) rfl Go.Proofs.Aw.awake ?_)
 rintro e4 h58 ⟨rfl,le59⟩;refine q07 rfl rfl (q4f rfl rfl (by decide) rfl rfl ?_)
 refine q07 rfl rfl (q1u rfl rfl (by decide) rfl ?_)
 refine q0q ?_;refine quc rfl ?_;refine qf4 rfl ?_;exact rfl
theorem law(h:AH)(avs:List AV)(ha:okL h [.int (-9223372036854775808) 9223372036854775807,.int (-9223372036854775808) 9223372036854775807,.sl [.str,.int (-9223372036854775808) 9223372036854775807,.int (-9223372036854775808) 9223372036854775807],.sl [.int (-9223372036854775808) 9223372036854775807,.int (-9223372036854775808) 9223372036854775807,.int (-9223372036854775808) 9223372036854775807,.int (-9223372036854775808) 9223372036854775807],.sl [.int (-9223372036854775808) 9223372036854775807,.int (-9223372036854775808) 9223372036854775807,.int (-9223372036854775808) 9223372036854775807],.int (-9223372036854775808) 9223372036854775807,.int (-9223372036854775808) 9223372036854775807,.sl [.str,.int (-9223372036854775808) 9223372036854775807,.int (-9223372036854775808) 9223372036854775807],.sl [.int (-9223372036854775808) 9223372036854775807,.int (-9223372036854775808) 9223372036854775807,.int (-9223372036854775808) 9223372036854775807,.int (-9223372036854775808) 9223372036854775807],.sl [.int (-9223372036854775808) 9223372036854775807,.int (-9223372036854775808) 9223372036854775807,.int (-9223372036854775808) 9223372036854775807],.sl [.int (-9223372036854775808) 9223372036854775807],.int (-9223372036854775808) 9223372036854775807,.int (-9223372036854775808) 9223372036854775807,.int (-9223372036854775808) 9223372036854775807] avs):q0n Try.prog 3 [.agg avs] h (fun e _=>e= .ret (.bool true)):=by
 have hA:Go.K.ArgOk h Go.Proofs.KT.argTy avs:=Go.K.argOk_of ha;obtain⟨_,_,rfl,⟨n1,rfl,lon1,hin1⟩,_,_,rfl,⟨n2,rfl,lon2,hin2⟩,_,_,rfl,⟨p3,m4,c5,rfl,hcc5,hmm4,sv6⟩,_,_,rfl,⟨p8,m9,c10,rfl,hcc10,hmm9,sv11⟩,_,_,rfl,⟨p13,m14,c15,rfl,hcc15,hmm14,sv16⟩,_,_,rfl,⟨n18,rfl,lon18,hin18⟩,_,_,rfl,⟨n19,rfl,lon19,hin19⟩,_,_,rfl,⟨p20,m21,c22,rfl,hcc22,hmm21,sv23⟩,_,_,rfl,⟨p25,m26,c27,rfl,hcc27,hmm26,sv28⟩,_,_,rfl,⟨p30,m31,c32,rfl,hcc32,hmm31,sv33⟩,_,_,rfl,⟨p35,m36,c37,rfl,hcc37,hmm36,sv38⟩,_,_,rfl,⟨n40,rfl,lon40,hin40⟩,_,_,rfl,⟨n41,rfl,lon41,hin41⟩,_,_,rfl,⟨n42,rfl,lon42,hin42⟩,rfl⟩:=ha
 replace sv6:SlV h p3 m4 3 (okL h [.str,.int (-9223372036854775808) 9223372036854775807,.int (-9223372036854775808) 9223372036854775807]):=sv6
 replace sv11:SlV h p8 m9 4 (okL h [.int (-9223372036854775808) 9223372036854775807,.int (-9223372036854775808) 9223372036854775807,.int (-9223372036854775808) 9223372036854775807,.int (-9223372036854775808) 9223372036854775807]):=sv11
 replace sv16:SlV h p13 m14 3 (okL h [.int (-9223372036854775808) 9223372036854775807,.int (-9223372036854775808) 9223372036854775807,.int (-9223372036854775808) 9223372036854775807]):=sv16
 replace sv23:SlV h p20 m21 3 (okL h [.str,.int (-9223372036854775808) 9223372036854775807,.int (-9223372036854775808) 9223372036854775807]):=sv23
 replace sv28:SlV h p25 m26 4 (okL h [.int (-9223372036854775808) 9223372036854775807,.int (-9223372036854775808) 9223372036854775807,.int (-9223372036854775808) 9223372036854775807,.int (-9223372036854775808) 9223372036854775807]):=sv28
 replace sv33:SlV h p30 m31 3 (okL h [.int (-9223372036854775808) 9223372036854775807,.int (-9223372036854775808) 9223372036854775807,.int (-9223372036854775808) 9223372036854775807]):=sv33
 replace sv38:SlV h p35 m36 1 (okL h [.int (-9223372036854775808) 9223372036854775807]):=sv38
 exact Go.Proofs.JT.c3 ⟨lon1,hin1⟩ ⟨lon2,hin2⟩ sv6 hmm4 hcc5 sv11 hmm9 hcc10 sv16 hmm14 hcc15 ⟨lon18,hin18⟩ ⟨lon19,hin19⟩ sv23 hmm21 hcc22 sv28 hmm26 hcc27 sv33 hmm31 hcc32 sv38 hmm36 hcc37 ⟨lon40,hin40⟩ ⟨lon41,hin41⟩ ⟨lon42,hin42⟩ hA
end Go.Proofs.JT
namespace Go.J
def qa5(g:TypeId→Option (List Ty))(P:Program):Nat→List Field→Option (List Ty)
 | _,[]=>some []
 | off,f :: r=>if f.offset=off then(g f.type).bind fun a=>if a.length=P.cellsOf f.type then(qa5 g P (off+a.length) r).map fun b=>a++b else none else none
def qp9(a:List Ty):Nat→List Ty
 | 0=>[]
 | n+1=>a++qp9 a n
theorem qcp(a:List Ty):∀ n,(qp9 a n).length=n * a.length
 | 0=>by simp[qp9]
 | n+1=>by simp[qp9,qcp a n,zc7]; omega
def qnc(P:Program):Nat→Bool→TypeId→Option (List Ty)
 | 0,_,_=>none
 | k+1,top,t=>match P.underlying t with
   | some .bool=>some [.bool]
   | some (.int .i64)=>some [.int q3o q3n]
   | some .string=>some [.str]
   | some (.slice e)=>if top then(qnc P k false e).bind fun es=>if es.length=P.cellsOf e∧0<es.length then some [.sl es] else none else none
   | some (.struct fs)=>(qa5 (qnc P k top) P 0 fs.toList).bind fun l=>if l.length=P.cellsOf t then some l else none
   | some (.array n e)=>(qnc P k top e).bind fun es=>if es.length=P.cellsOf e∧n * es.length=P.cellsOf t then some (qp9 es n) else none
   | _=>none
mutual
def bulk{H:Type}:DataW H→Nat
 | .lit (.string bytes)=>bytes.length+1
 | .lit _=>1
 | .nil=>1
 | .ptr d=>bulk d+1
 | .slice elems spare=>qcz elems+qcz spare+1
 | .agg parts=>qcz parts+1
 | .iface _ d=>bulk d+1
 | .map _=>1
 | .held _=>1
def qcz{H:Type}:List (DataW H)→Nat
 | []=>0
 | d :: r=>bulk d+qcz r
end
theorem qzu{H:Type}(d:DataW H):0<bulk d:=by
 unfold bulk;split<;>omega
theorem q9t{H:Type}:∀ {l:List (DataW H)} {i:Nat} {d:DataW H},l[i]?=some d→bulk d≤qcz l
 | [],i,d,h=>by simp at h
 | x :: l,0,d,h=>by simp at h; subst h; simp only[qcz]; omega
 | x :: l,i+1,d,h=>by
   have:=q9t (l:=l) (i:=i) (d:=d) (by simpa using h)
   simp only[qcz]; omega
theorem qcc{H:Type}:∀ (l:List (DataW H)),l.length≤qcz l
 | []=>zbl _
 | x :: l=>by
   have:=qcc l;have:=qzu x;simp only[qcz,zce]; omega
def qs9(h:AH):Prop:= ∀ i c,h.get i=some c→c.isRo=true
def Reads(w:World)(ts:List Ty)(cs:List Value):Prop:=
 ∀ ρ h,HRel ρ h w→qs9 h→h.wf→ ∃ ρ' h' avs,HRel ρ' h' w∧qs9 h'∧h'.wf∧Le h h'∧ρ.ext ρ' h.next∧q04 ρ' avs=cs∧supL avs≤h'.next∧okL h' ts avs
theorem qht{h:AH}:∀ {a b:List Ty} {l m:List AV},okL h a l→okL h b m→okL h (a++b) (l++m)
 | [],b,l,m,h1,h2=>by simp only[okL]at h1; subst h1; simpa using h2
 | t :: a,b,l,m,h1,h2=>by
   simp only[okL]at h1;obtain⟨v,r,rfl,h3,h4⟩:=h1;exact⟨v,r++m,rfl,h3,qht h4 h2⟩
theorem Reads.nil{w:World}:Reads w [] []:=fun ρ h a b c=>⟨ρ,h,[],a,b,c,.refl _,.refl _ _,rfl,zbl _,rfl⟩
theorem Reads.append{w:World}{a b:List Ty}{l m:List Value}(h1:Reads w a l)(h2:Reads w b m):Reads w (a++b) (l++m):=by
 intro ρ h p q r;obtain⟨ρ1,h1',avs,a1,a2,a3,a4,a5,a6,a7,a8⟩:=h1 ρ h p q r;obtain⟨ρ2,h2',bvs,b1,b2,b3,b4,b5,b6,b7,b8⟩:=h2 ρ1 h1' a1 a2 a3;refine⟨ρ2,h2',avs++bvs,b1,b2,b3,a4.trans b4,a5.trans b5 a4.next,?_,?_,qht (a8.le b4) b8⟩
 · rw[q51,q0u b5 avs a7,a6,b6]
 · have:=b4.next
   rw[q1r]; omega
theorem Reads.lit{w:World}{t:Ty}{v:Value}{a:AV}(hc:∀ ρ,conc ρ a=v)(hs:a.sup=0)(ho:∀ h,okV h t a):Reads w [t] [v]:=fun ρ h p q r=>
 ⟨ρ,h,[a],p,q,r,.refl _,.refl _ _,by simp[q04,hc],by simp[supL,hs],a,[],rfl,ho h,rfl⟩
theorem Reads.many{w:World}{es:List Ty}:∀ (l:List (List Value)),(∀ cs∈l,Reads w es cs)→ ∀ ρ h,HRel ρ h w→qs9 h→h.wf→
 ∃ ρ' h' avss,HRel ρ' h' w∧qs9 h'∧h'.wf∧Le h h'∧ρ.ext ρ' h.next∧q04 ρ' (List.flatten avss)=l.flatten∧supL (List.flatten avss)≤h'.next∧avss.length=l.length∧ ∀ x∈avss,okL h' es x
 | [],_,ρ,h,p,q,r=>⟨ρ,h,[],p,q,r,.refl _,.refl _ _,rfl,zbl _,rfl,fun x hx=>by simp at hx⟩
 | c :: l,hl,ρ,h,p,q,r=>by
   obtain⟨ρ1,h1',avs,a1,a2,a3,a4,a5,a6,a7,a8⟩:=hl c (zbq ..) ρ h p q r;obtain⟨ρ2,h2',avss,b1,b2,b3,b4,b5,b6,b7,b8,b9⟩:=Reads.many l (fun cs hc=>hl cs (zbh _ hc)) ρ1 h1' a1 a2 a3
   refine⟨ρ2,h2',avs :: avss,b1,b2,b3,a4.trans b4,a5.trans b5 a4.next,?_,?_,by simp[b8],?_⟩
   · rw[List.flatten_cons,List.flatten_cons,q51,q0u b5 avs a7,a6,b6]
   · have:=b4.next
     rw[List.flatten_cons,q1r]; omega
   · intro x hx
     rcases zbm.1 hx with rfl | hx
     · exact a8.le b4
     · exact b9 x hx
theorem qeu{α:Type}{m:Nat}:∀ {l:List (List α)},(∀ x∈l,x.length=m)→ ∀ {i:Nat} {x:List α},l[i]?=some x→(l.flatten.drop (i * m)).take m=x
 | [],_,i,x,h=>by simp at h
 | y :: l,hl,0,x,h=>by
   simp at h; subst h;have:=hl y (zbq ..);simp[←this]
 | y :: l,hl,i+1,x,h=>by
   have hy:=hl y (zbq ..);rw[List.flatten_cons,zc7,Nat.one_mul,Nat.add_comm (i * m),←List.drop_drop,←hy,List.drop_left,hy];exact qeu (fun z hz=>hl z (zbh _ hz)) (by simpa using h)
theorem q6a{α:Type}{m:Nat}:∀ {l:List (List α)},(∀ x∈l,x.length=m)→l.flatten.length=l.length * m
 | [],_=>by simp
 | y :: l,hl=>by
   rw[List.flatten_cons,zc8,hl y (zbq ..),q6a (fun z hz=>hl z (zbh _ hz)),zce,zc7]; omega
theorem qhc{α:Type}{m:Nat}(hm:0<m):∀ {l:List (List α)},(∀ x∈l,x.length=m)→ ∀ (i:Nat),l.flatten[i]?=(l[i / m]?).bind fun x=>x[i % m]?
 | [],_,i=>by simp
 | y :: l,hl,i=>by
   have hy:=hl y (zbq ..);rw[List.flatten_cons]
   by_cases c:i<m
   · rw[zck (by omega),Nat.div_eq_of_lt c,Nat.mod_eq_of_lt c]; rfl
   · rw[zcl (by omega),hy,qhc hm (fun z hz=>hl z (zbh _ hz))]
     have e:i=(i - m)+m:=by omega
     have e1:i / m=(i - m) / m+1:=by
      conv=>lhs; rw[e]
      exact Nat.add_div_right _ hm
     have e2:i % m=(i - m) % m:=by
      conv=>lhs; rw[e]
      exact Nat.add_mod_right _ _
     rw[e1,e2]; rfl
def AH.addRo(h:AH)(cs:List AV):AH:=⟨h.next+1,fun i=>if i=h.next then some (.ro cs) else h.get i⟩
def Ren.at(ρ:Ren)(n:Nat)(a:Addr):Ren:=⟨fun i=>if i=n then a.block else ρ.blk i,fun i=>if i=n then a.off else ρ.off i,ρ.cap⟩
theorem Reads.slice{w:World}{es:List Ty}{a:Addr}{len cap:Nat}{l:List (List Value)}(hsp:a.spot=none)(hn:l.length=len)(hcap:len≤cap)(hmax:len≤1048576)(hpos:0<es.length)(hl:∀ cs∈l,cs.length=es.length∧Reads w es cs)
 (hcell:∀ i,i<len * es.length→w.cell? ⟨a.block,a.off+i,none⟩=l.flatten[i]?):Reads w [.sl es] [.slice (some a) len cap]:=by
 intro ρ h p q r;rcases zc5 len with rfl | hpl
 ·
  refine⟨ρ.at h.next a,⟨h.next+1,h.get⟩,[.slice (some (h.next,0)) 0 (.exact cap)],?_,q,fun i c hc=>?_,⟨by simp,fun j c hj=>hj⟩,?_,?_,by simp[supL,AV.sup,supA],_,[],rfl,⟨_,_,_,rfl,hcap,by omega,.zero⟩,rfl⟩
  · refine⟨fun id c hc=>Real.ext (n:=h.next) (p.1 id c hc) (fun i hi=>?_) (r id c hc).1 (r id c hc).2,fun i j ci cj _ hi hj hro=>by rw[q i ci hi]at hro; cases hro⟩
    simp[Ren.at,Nat.ne_of_lt hi]
  · have:=r i c hc; exact⟨Nat.lt_succ_of_lt this.1,Nat.le_succ_of_le this.2⟩
  · intro i hi; simp[Ren.at,Nat.ne_of_lt hi]
  · have:a=⟨a.block,a.off,none⟩:=by cases a; simp at hsp; simp[hsp]
    simp only[q04,conc,zbp,Ren.addr,Ren.at,if_true,Nat.add_zero,Cap.conc];rw[←this]
 · obtain⟨ρ1,h1,avss,a1,a2,a3,a4,a5,a6,a7,a8,a9⟩:=Reads.many l (fun cs hc=>(hl cs hc).2) ρ h p q r
   have hx:ρ1.ext (ρ1.at h1.next a) h1.next:=fun i hi=>by simp[Ren.at,Nat.ne_of_lt hi]
   have hle:Le h1 (h1.addRo avss.flatten):=⟨by simp[AH.addRo],fun j c hj=>by
    have:=(a3 j c hj).1;simp only[AH.addRo];rw[if_neg (by omega)]; exact hj⟩
   have hlen:∀ x∈avss,x.length=es.length:=fun x hx=>qhu (a9 x hx)
   refine⟨ρ1.at h1.next a,h1.addRo avss.flatten,[.slice (some (h1.next,0)) len (.exact cap)],⟨fun id c hc=>?_,fun i j ci cj _ hi _ hro=>?_⟩,fun i c hc=>?_,fun i c hc=>?_,a4.trans hle,a5.trans hx a4.next,?_,?_,?_⟩
   · simp only[AH.addRo]at hc
     split at hc
     · rename_i e
       subst e;cases hc;refine⟨?_,fun i v hv=>?_⟩
       · simp only[Ren.at,if_true]
         have hc0:=hcell 0 (Nat.mul_pos hpl hpos)
         obtain⟨x,hx0⟩:∃ x,l.flatten[0]?=some x:=by
          have:0<l.flatten.length:=by rw[q6a (fun x hx=>(hl x hx).1),hn]; exact Nat.mul_pos hpl hpos
          exact⟨_,zcg this⟩
         rw[hx0]at hc0;simp only[World.cell?]at hc0;split at hc0
         · rename_i hb
           exact(zch.1 hb).1
         · cases hc0
       · have hi:i<len * es.length:=by
          have:=(zci.1 hv).1;rw[q6a hlen,a8,hn]at this; exact this
         have hvs:v.sup≤h1.next:=q6m a7 hv;rw[q2d hx v hvs];simp only[Ren.at,if_true];rw[hcell i hi,←a6,q2f,hv,zbp]
     · exact Real.ext (a1.1 id c hc) hx (a3 id c hc).1 (a3 id c hc).2
   · simp only[AH.addRo]at hi
     split at hi
     · cases hi; cases hro
     · rw[a2 i ci hi]at hro; cases hro
   · simp only[AH.addRo]at hc
     split at hc
     · cases hc; rfl
     · exact a2 i c hc
   · simp only[AH.addRo]at hc
     split at hc
     · rename_i e
       cases hc;refine⟨by simp[AH.addRo,e],?_⟩
       simp only[Chunk.sup,AH.addRo]; omega
     · have:=a3 i c hc
       exact⟨Nat.lt_succ_of_lt this.1,Nat.le_succ_of_le this.2⟩
   · have:a=⟨a.block,a.off,none⟩:=by cases a; simp at hsp; simp[hsp]
     simp only[q04,conc,zbp,Ren.addr,Ren.at,if_true,Nat.add_zero,Cap.conc];rw[←this]
   · simp[supL,AV.sup,supA,AH.addRo]
   · refine⟨_,[],rfl,⟨_,_,_,rfl,hcap,hmax,fun _=>⟨h1.next,0,avss.flatten,rfl,by simp[AH.cells,AH.addRo],?_,fun i h0 hi=>?_⟩⟩,rfl⟩
     · rw[q6a hlen,a8,hn]; omega
     · have hi':i.toNat<avss.length:=by omega
       refine⟨avss[i.toNat],hlen _ (List.getElem_mem hi'),(a9 _ (List.getElem_mem hi')).le hle,?_⟩;rw[zbv];exact qeu hlen (zcg hi')
section
variable{H:Type}{enc:TypeId×Value→H}{P:Program}{w:World}
def Plain(top:Bool)(cs:List Value):Prop:=top=true→ ∀ a n c,Value.slice (some a) n c∈cs→a.spot=none
theorem Plain.part{top:Bool}{cs:List Value}(h:Plain top cs)(i n:Nat):Plain top ((cs.drop i).take n):=fun ht a n c hm=>h ht a n c (List.mem_of_mem_drop (List.mem_of_mem_take hm))
theorem q8q{top:Bool}{g:TypeId→Option (List Ty)}{cs:List Value}(hg:∀ t ts cs',g t=some ts→Plain top cs'→ ∀ {n:Nat} {d:DataW H} {ps:List MemPlace},DataW.trod enc P w 0 (fun _=>true) true n t cs'=some (d,ps)→bulk d≤1048576→cs'.length=ts.length∧Reads w ts cs')(hpl:Plain top cs):
 ∀ (fs:List Field) (off:Nat) (ts:List Ty) (xs:List (DataW H×List MemPlace)) (n:Nat),qa5 g P off fs=some ts→
   (∀ (i:Nat) (f:Field),fs[i]?=some f→DataW.trod enc P w 0 (fun _=>true) true n f.type ((cs.drop f.offset).take (P.cellsOf f.type))=xs[i]?)→fs.length≤xs.length→(∀ x∈xs,bulk x.1≤1048576)→
   ((cs.drop off).take ts.length).length=ts.length∧Reads w ts ((cs.drop off).take ts.length)
 | [],off,ts,xs,n,h,_,_,_=>by simp only[qa5,zbe]at h; subst h; exact⟨by simp,by simpa using Reads.nil⟩
 | f :: fs,off,ts,xs,n,h,hx,hlen,hb=>by
   simp only[qa5]at h;split at h
   · rename_i ho
     obtain⟨a,h1,h2⟩:=Option.bind_eq_some_iff.1 h;split at h2
     · rename_i hal
       obtain⟨b,h3,rfl⟩:=zbw.1 h2;cases xs with
       | nil=>simp at hlen
       | cons x xs=>
         have hx0:=hx 0 f rfl;simp only[List.getElem?_cons_zero]at hx0;rw[ho,←hal]at hx0;have r1:=hg f.type a ((cs.drop off).take a.length) h1 (hpl.part _ _) (d:=x.1) (ps:=x.2) hx0 (hb x (zbq ..));have r2:=q8q hg hpl fs (off+a.length) b xs n h3 (fun i f' hf=>by simpa using hx (i+1) f' (by simpa using hf)) (by simpa using hlen) (fun y hy=>hb y (zbh _ hy))
         have e:(cs.drop off).take (a++b).length=(cs.drop off).take a.length++(cs.drop (off+a.length)).take b.length:=by
          rw[zc8,List.take_add,List.drop_drop]
         rw[e];exact⟨by rw[zc8,zc8,r1.1,r2.1],r1.2.append r2.2⟩
     · cases h2
   · cases h
theorem qmv{es:List Ty}{cs:List Value}:∀ (n off:Nat),(∀ i,i<n→Reads w es ((cs.drop (off+i * es.length)).take es.length))→Reads w (qp9 es n) ((cs.drop off).take (n * es.length))
 | 0,off,_=>by simpa [qp9]using Reads.nil
 | n+1,off,h=>by
   have r1:=h 0 (by omega)
   have r2:=qmv n (off+es.length) (fun i hi=>by
    have:=h (i+1) (by omega)
    have e:off+(i+1) * es.length=off+es.length+i * es.length:=by rw[zc7,Nat.one_mul]; omega
    rwa[e]at this)
   have e:(cs.drop off).take ((n+1) * es.length)=(cs.drop off).take es.length++(cs.drop (off+es.length)).take (n * es.length):=by
    rw[zc7,Nat.one_mul,Nat.add_comm (n * es.length),List.take_add,List.drop_drop]
   rw[e];have e0:off+0 * es.length=off:=by omega
   rw[e0]at r1;exact r1.append r2
theorem get_of_cells?{base:Nat}{a:Addr}{n:Nat}{cs:List Value}(h:w.cells? base a n=some cs):cs.length=n∧ ∀ i,i<n→w.cell? (a.add i)=cs[i]?:=
 ⟨(World.cells?_some h).2.1,fun i hi=>(World.cells?_some h).2.2 i hi⟩
theorem qdo:∀ (k:Nat) (top:Bool) (t:TypeId) (ts:List Ty) (cs:List Value),qnc P k top t=some ts→Plain top cs→ ∀ {n:Nat} {d:DataW H} {ps:List MemPlace},
 DataW.trod enc P w 0 (fun _=>true) true n t cs=some (d,ps)→bulk d≤1048576→cs.length=ts.length∧Reads w ts cs
 | 0,top,t,ts,cs,h=>by simp[qnc]at h
 | k+1,top,t,ts,cs,h=>by
   intro hpl n d ps hd hb;simp only[qnc]at h;split at h
   · rename_i hu
     cases h;obtain⟨b,rfl,_⟩:=DataW.trod_bool hu hd;exact⟨rfl,.lit (a:= .bool b) (fun _=>rfl) rfl (fun _=>⟨b,rfl⟩)⟩
   · rename_i hu
     cases h;obtain⟨z,rfl,_,hz⟩:=DataW.trod_int hu hd;simp only[Lit.wf,zbf,decide_eq_true_eq]at hz;exact⟨rfl,.lit (a:= .int .i64 z) (fun _=>rfl) rfl (fun _=>⟨z,rfl,by have:=hz.1; simpa [IntKind.min,IntKind.signed,IntKind.bits]using this,by have:=hz.2; simpa [IntKind.max,IntKind.signed,IntKind.bits]using this⟩)⟩
   · rename_i hu
     cases h;obtain⟨s,rfl,hx,_⟩:=DataW.trod_string hu hd;cases hx;simp only[bulk]at hb;have e:s.data.toList.length=s.size:=by rw[Array.length_toList]; rfl
     exact⟨rfl,.lit (a:= .str s) (fun _=>rfl) rfl (fun _=>⟨s,rfl,by omega⟩)⟩
   · rename_i e hu
     split at h
     · obtain⟨es,h1,h2⟩:=Option.bind_eq_some_iff.1 h
       split at h2
       · rename_i hes
         cases h2;rcases DataW.trod_slice hu hd with⟨rfl,_⟩ | ⟨a,len,cap,elems,rest,m,_,rfl,hx,_,hl,hc,hn,hel,hsp,_⟩
         · exact⟨rfl,fun ρ h p q r=>⟨ρ,h,[.slice none 0 (.exact 0)],p,q,r,.refl _,.refl _ _,by simp[q04,conc,Cap.conc],by simp[supL,AV.sup,supA],_,[],rfl,⟨_,_,_,rfl,zbi _,by omega,.zero⟩,rfl⟩⟩
         · cases hx
           simp only[bulk]at hb
           have hlen:len≤1048576:=by
            have:=qcc (elems.map (·.1));rw[List.length_map,hn]at this; omega
           refine⟨rfl,?_⟩;have hspot:a.spot=none:=hpl (by assumption) a len cap (by simp)
           have each:∀ i,i<len→ ∃ cs',w.cells? 0 (a.add (i * P.cellsOf e)) (P.cellsOf e)=some cs'∧cs'.length=es.length∧Reads w es cs':=by
            intro i hi;have h3:=hel i hi;rw[zcg (by omega)]at h3
            obtain⟨cs',h4,h5⟩:=Option.bind_eq_some_iff.1 h3;refine⟨cs',h4,?_⟩
            have hb':bulk (elems[i]'(by omega)).1≤1048576:=by
             have:=q9t (l:=elems.map (·.1)) (i:=i) (d:=(elems[i]'(by omega)).1) (by simp[zcg (show i<elems.length by omega)])
             omega
            exact qdo k false e es cs' h1 (fun ht=>by cases ht) (d:=(elems[i]'(by omega)).1) (ps:=(elems[i]'(by omega)).2) h5 hb'
           let g:Nat→List Value:=fun i=>(w.cells? 0 (a.add (i * P.cellsOf e)) (P.cellsOf e)).getD []
           have hm:∀ x∈(List.range len).map g,x.length=es.length∧Reads w es x:=by
            intro x hx;obtain⟨i,hi,rfl⟩:=zcd.1 hx;obtain⟨cs',q1,q2,q3⟩:=each i (List.mem_range.1 hi);have:g i=cs':=by simp[g,q1]
            rw[this]; exact⟨q2,q3⟩
           refine Reads.slice (l:=(List.range len).map g) hspot (by simp) hl hlen hes.2 hm fun i hi=>?_
           rw[qhc hes.2 (fun x hx=>(hm x hx).1)]
           have hq:i / es.length<len:=Nat.div_lt_of_lt_mul (by rw[Nat.mul_comm]; exact hi)
           have hr:i % es.length<es.length:=Nat.mod_lt _ hes.2;obtain⟨cs',q1,q2,q3⟩:=each _ hq;have h6:((List.range len).map g)[i / es.length]?=some cs':=by simp[hq,g,q1]
           rw[h6,Option.bind_some];have h7:=(get_of_cells? q1).2 (i % es.length) (by rw[←hes.1]; exact hr)
           rw[←h7];congr 1;have e1:=Nat.div_add_mod i es.length;rw[Nat.mul_comm]at e1;rw[←hes.1];cases a with
           | mk b o sp=>
             simp only at hspot;subst hspot;unfold Addr.add;split<;>split<;>simp_all<;>omega
       · cases h2
     · cases h
   · rename_i fs hu
     obtain⟨l,h1,h2⟩:=Option.bind_eq_some_iff.1 h;split at h2
     · rename_i hl
       cases h2;obtain⟨xs,m,_,hx,hlen,hxl,hxs⟩:=DataW.trod_struct hu hd;cases hx;simp only[bulk]at hb
       have:=q8q (fun t ts cs' h3 h4 n d ps h5 h6=>qdo k top t ts cs' h3 h4 h5 h6) hpl fs.toList 0 ts xs m h1 (fun i f hf=>hxs i f (by simpa using hf)) (by simp[hxl]) (fun x hx=>by
        obtain⟨i,hi⟩:=List.getElem?_of_mem hx;have:=q9t (l:=xs.map (·.1)) (i:=i) (d:=x.1) (by simp[hi])
        omega)
       have e:(cs.drop 0).take ts.length=cs:=by rw[List.drop_zero,List.take_of_length_le (by omega)]
       rw[e]at this;exact this
     · cases h2
   · rename_i n' e hu
     obtain⟨es,h1,h2⟩:=Option.bind_eq_some_iff.1 h;split at h2
     · rename_i hes
       cases h2;obtain⟨xs,m,_,hx,hlen,hxl,hxs⟩:=DataW.trod_array hu hd;cases hx;simp only[bulk]at hb;have hl:cs.length=n' * es.length:=by omega
       refine⟨by rw[qcp]; exact hl,?_⟩
       have:=qmv (w:=w) (es:=es) (cs:=cs) n' 0 (fun i hi=>by
        have h3:=hxs i hi;rw[zcg (by omega),←hes.1]at h3
        have hb':bulk (xs[i]'(by omega)).1≤1048576:=by
         have:=q9t (l:=xs.map (·.1)) (i:=i) (d:=(xs[i]'(by omega)).1) (by simp[zcg (show i<xs.length by omega)])
         omega
        rw[zbv];exact(qdo k top e es _ h1 (hpl.part _ _) (d:=(xs[i]'(by omega)).1) (ps:=(xs[i]'(by omega)).2) h3 hb').2)
       have e:(cs.drop 0).take (n' * es.length)=cs:=by rw[List.drop_zero,List.take_of_length_le (by omega)]
       rw[e]at this;exact this
     · cases h2
   · cases h
end
structure Same(W W':World):Prop where
 os:W'.os=W.os
 output:W'.output=W.output
 size:W.heap.size≤W'.heap.size
 heap:∀ B,B<W.heap.size→W'.heap[B]?=W.heap[B]?
theorem Same.frozen{W W':World}(h:Same W W'){b o:Nat}(hb:b<W.heap.size):W'.frozen? ⟨b,o,none⟩=W.frozen? ⟨b,o,none⟩:=by
 simp[World.frozen?,h.heap b hb]
theorem Same.at{W W':World}(h:Same W W'):∀ {p:MemPlace},p.block<W.heap.size→W.sameAt W' p
 | .cell b o,hb=>by simp only[MemPlace.block]at hb; simp[World.sameAt,World.cell?,h.heap b hb]
 | .map b,hb=>by simp only[MemPlace.block]at hb; simp[World.sameAt,h.heap b hb]
theorem Same.kept{W W':World}(h:Same W W')(may:MemPlace→Prop):W.keptBut W' may:=by
 refine⟨h.os,h.output,fun i hi=>?_⟩
 rw[h.heap i hi];cases W.heap[i]? with
 | none=>simp
 | some o=>cases o<;>simp
theorem qsi{H:Type}{enc:TypeId×Value→H}{P:Program}{W:World}{f:FuncId}{k n:Nat}{t:TypeId}{ts:List Ty}{cs:Array Value}{d:DataW H}{ps:List MemPlace}(hty:qnc P k true t=some ts)(hpl:Plain true cs.toList)
 (hd:DataW.trod enc P W 0 (fun _=>true) true n t cs.toList=some (d,ps))(hb:bulk d≤1048576)
 (hj:∀ h avs,qs9 h→okL h ts avs→q0n P f [.agg avs] h (fun e _=>e= .ret (.bool true))):
 Calls P f #[.agg cs] W fun e W'=>e= .returned (.bool true)∧Same W W':=by
 obtain⟨ρ,h,avs,a1,a2,a3,_,_,a6,a7,a8⟩:=(qdo k true t ts cs.toList hty hpl hd hb).2 ⟨fun _=>0,fun _=>0,fun _=>0⟩ ⟨0,fun _=>none⟩ ⟨fun id c hc=>(nomatch hc),fun i j ci cj _ hi=>(nomatch hi)⟩ (fun i c hc=>(nomatch hc)) (fun i c hc=>(nomatch hc))
 obtain⟨e,h',b1,b2,b3,rfl,b5⟩:=hj h avs a2 a8 a3 (by simp only[supL,AV.sup]; omega)
 refine callsIn_wide (n:=0) |>.1 ?_;have:=b5 ρ W 0 a1;have e1:(q04 ρ [.agg avs]).toArray= #[.agg cs]:=by simp[q04,conc,a6]
 rw[e1]at this;refine this.mono fun e' W' ⟨ρ',he,hr,hf⟩=>⟨he,hf.1.1,hf.1.2.2,hf.2.1,fun B hB=>hf.2.2.1 B hB fun id c hc hro=>?_⟩
 rw[a2 id c hc]at hro; cases hro
def qje(P:Program)(t:TypeId):Bool:=match P.underlying t with | some (.struct _)=>true | _=>false
theorem qfs{P:Program}{W:World}{r:Reach}{base:Nat}{t:TypeId}{v:Value}(hst:qje P t=true)(h:Value.okWide P W r base t v):∃ cs,v= .agg cs∧Plain true cs.toList:=by
 obtain⟨fs,ht⟩:∃ fs,P.underlying t=some (.struct fs):=by
  unfold qje at hst;split at hst
  · exact⟨_,by assumption⟩
  · cases hst
 unfold Value.okWide at h;rw[ht]at h;obtain⟨cs,rfl,_,ts,_,_,h3⟩:=h;refine⟨cs,rfl,fun _ a n c hm=>?_⟩
 obtain⟨i,hi⟩:=List.getElem?_of_mem hm;obtain⟨u,_,h5⟩:=h3 i _ (by simpa using hi)
 unfold Cell.okWide at h5;split at h5<;>simp_all
 unfold Cell.ok at h5;split at h5<;>simp_all
 exact h5.2.2.2.1
open Go.ChangeShapes Go.WideShapes Go.RowKit in
theorem z1c{H:Type}{enc:TypeId×Value→H}{P:Program}{W W':World}{f:Func}{s:ChangeSpec}{apart fresh handsOn again:Bool}{args:Array Value}{ds gs:List (DataW H)}{before:List MemPlace}{tb:TypeId}
 (hW:DataW.Whole enc P f.params.toList s.vars apart W args.toList ds gs before)(hs:Same W W')(hv:s.vars=[])(hfn:s.fn H (ds++gs)= {results:=[.lit (.bool true)],args:=ds})
 (hr:f.resultTypes= #[tb])(htb:P.underlying tb=some .bool)(K:Kids P (· <P.types.size))(hz:∀ t e,t<P.types.size→P.underlying t=some (.slice e)→0<P.cellsOf e)(hlt:∀ t∈f.params.toList,t<P.types.size):
 s.post enc P f apart fresh handsOn again W args (.bool true) W':=by
 have hW0:=hW;obtain⟨p,q,hA,hV,he,hfz,hnd⟩:=hW;rw[hv]at hV;obtain⟨rfl,rfl⟩:=trodVars_none hV;rw[zcr]at he;subst he;have hpb:∀ x∈before,x.block<W.heap.size:=fun x hx=>hA.lt x hx
 have hA':DataW.TrodAll enc P W' 0 (fun _=>true) true f.params.toList args.toList ds before:=by
  clear hfn hW0 hfz hnd hlt;revert hA hpb;generalize f.params.toList=ts,args.toList=vs;intro hA
  induction ts generalizing vs ds before with
  | nil=>intro _; obtain⟨rfl,rfl,rfl⟩:=trodAll_nil hA; exact trodAll_mk0
  | cons t ts ih=>
    intro hpb;obtain⟨v,vs1,d,ds1,a,b,rfl,rfl,rfl,⟨n,h1⟩,h2⟩:=trodAll_cons hA;exact⟨a,b,⟨n,DataW.trod_carry n t _ _ h1 fun x hx=>hs.at (hpb x (List.mem_append_left _ hx))⟩,ih _ h2 (fun x hx=>hpb x (List.mem_append_right _ hx)),rfl⟩
 have hargs:∀ sp:Nat→Bool,(∀ x∈before,sp x.block=true)→DataW.TrodAll enc P W' 0 sp true f.params.toList args.toList ds before:=fun sp hsp=>hA'.respare K hz hlt hsp
 have hres:∀ (b:Nat) (sp:Nat→Bool) (hd:Bool),DataW.TrodAll enc P W' b sp hd f.resultTypes.toList ((Value.bool true).resultList f.resultTypes.size) [.lit (.bool true)] []:=fun b sp hd=>by
  rw[hr];exact trodAll_cons_mk (shut_bool htb true) trodAll_mk0
 have hok:∀ (j:Nat) (t:TypeId) (r:Value),f.resultTypes[j]?=some t→((Value.bool true).resultList f.resultTypes.size)[j]?=some r→Value.okWide P W' .any 0 t r:=ok_one hr rfl (okWide_bool_mk htb true);refine⟨ds,[],before,[],before,[],hW0,?_,?_,?_,World.keptBut_mono (fun x hx=>⟨hx,.inr (.inl hx)⟩) (hs.kept (· ∈before)),fun _=>⟨hok,[.lit (.bool true)]++ds,[],([]++before)++[],⟨[]++before,[],?_,?_,rfl,?_,?_⟩,?_⟩⟩
 · rw[hfn]; exact hres _ _ _
 · rw[hfn]; exact hargs _ (fun x hx=>by simpa using hpb x hx)
 · rw[hfn,hv]; rfl
 · exact trodAll_append (hargs _ fun _ _=>rfl) (hres _ _ _)
 · rw[hv]; rfl
 · intro b off hx
   have hx':MemPlace.cell b off∈before:=by simpa using hx
   rw[hs.frozen (b:=b) (o:=off) (hpb _ hx')];exact hfz b off hx'
 · intro ha
   simpa using hnd ha
 · intro x hx _
   simpa using hx
end Go.J
namespace Go.Proofs.Yteiaggdjlpehlaa
open Go.ChangeShapes Go.WideShapes Go.ChangeAt Go.RowKit Go.J
mutual
theorem qb1{H:Type}:∀ (d:DataW H),bulk d≤Rows.uptoBulk d
 | .lit l=>by cases l<;>simp[bulk,Rows.uptoBulk]
 | .nil=>by simp[bulk,Rows.uptoBulk]
 | .ptr d=>by simp only[bulk,Rows.uptoBulk]; have:=qb1 d; omega
 | .slice e s=>by simp only[bulk,Rows.uptoBulk]; have:=q8l e; have:=q8l s; omega
 | .agg p=>by simp only[bulk,Rows.uptoBulk]; have:=q8l p; omega
 | .iface _ d=>by simp only[bulk,Rows.uptoBulk]; have:=qb1 d; omega
 | .map _=>by simp[bulk,Rows.uptoBulk]
 | .held _=>by simp[bulk,Rows.uptoBulk]
theorem q8l{H:Type}:∀ (l:List (DataW H)),qcz l≤Rows.uptoBulkAll l
 | []=>by simp[qcz,Rows.uptoBulkAll]
 | d :: r=>by simp only[qcz,Rows.uptoBulkAll]; have:=qb1 d; have:=q8l r; omega
end
theorem ownK:ownKnob Try.prog.godebug=none:=by kernel_rfl
theorem kids:Kids Try.prog (· <Try.prog.types.size):=kids_rows (by kernel_rfl) (by kernel_rfl)
theorem full:∀ t e,t<Try.prog.types.size→Try.prog.underlying t=some (.slice e)→0<Try.prog.cellsOf e:=slices_full_of _ (by kernel_rfl)
def z2a:List Ty:=[.int q3o q3n,.int q3o q3n,.sl [.str,.int q3o q3n,.int q3o q3n],.sl [.int q3o q3n,.int q3o q3n,.int q3o q3n,.int q3o q3n],.sl [.int q3o q3n,.int q3o q3n,.int q3o q3n],.int q3o q3n,.int q3o q3n,.sl [.str,.int q3o q3n,.int q3o q3n],.sl [.int q3o q3n,.int q3o q3n,.int q3o q3n,.int q3o q3n],.sl [.int q3o q3n,.int q3o q3n,.int q3o q3n],.sl [.int q3o q3n],.int q3o q3n,.int q3o q3n,.int q3o q3n]
theorem qur:qnc Try.prog 8 true 29=some z2a:=by kernel_rfl
theorem z9o:qje Try.prog 29=true:=by kernel_rfl
theorem law(h:AH)(avs:List AV)(_:qs9 h)(ha:okL h z2a avs):q0n Try.prog 3 [.agg avs] h (fun e _=>e= .ret (.bool true)):=Go.Proofs.JT.law h avs ha
set_option maxRecDepth 100000 in
theorem z02(H:Type)(enc:TypeId×Value→H)(W:World)(base:Nat)(args:Array Value)(ds gs:List (DataW H))(before:List MemPlace)
 (hval:∀ (j:Nat) t v,Try.f3.params[j]?=some t→args[j]?=some v→Value.okWide Try.prog W .any base t v)
 (hW:DataW.Whole enc Try.prog Try.f3.params.toList Rows.topAnewOwnerSpec.vars false W args.toList ds gs before)(hk:Rows.uptoSmall H (ds++gs)=true):
 Calls Try.prog 3 args W fun e W'=> ∃ v,e= .returned v∧Rows.topAnewOwnerSpec.post enc Try.prog Try.f3 false true false false W args v W':=by
 have hW':=hW;obtain⟨p,q,hA0,hV,rfl,hfz,hnd⟩:=hW;have hA:DataW.TrodAll enc Try.prog W 0 (fun _=>true) true Try.f3.params.toList args.toList ds p:=hA0
 rw[Try.params3]at hA hval;obtain⟨v0,vs0,d0,ds0,p0,q0,hargs,rfl,rfl,h0,r0⟩:=trodAll_cons hA;obtain⟨rfl,rfl,rfl⟩:=trodAll_nil r0;obtain rfl:args= #[v0]:=by cases args; simp_all
 obtain⟨rfl,rfl⟩:=trodVars_none hV;have hv0:Value.okWide Try.prog W .any base 29 v0:=hval 0 29 v0 rfl rfl;obtain⟨cs,rfl,hpl⟩:=qfs z9o hv0;obtain⟨n,hd⟩:=h0
 have hb:bulk d0≤1048576:=by
  unfold Rows.uptoSmall at hk;rw[decide_eq_true_iff]at hk;have h1:Rows.uptoBulkAll [d0]≤1048576:=by rw[zcr]at hk; exact hk
  have:=qb1 d0;simp only[Rows.uptoBulkAll]at h1;omega
 refine(qsi (f:=3) qur hpl (by simpa [Value.cells]using hd) hb law).mono fun e W' ⟨he,hs⟩=>?_
 subst he;exact⟨_,rfl,z1c hW' hs rfl rfl (by kernel_rfl) Try.underlying4 kids full (fun t ht=>by rw[Try.params3]at ht; simp at ht; subst ht; exact of_decide_eq_true (by kernel_rfl))⟩
set_option maxRecDepth 100000 in
theorem lifted(os:Os)(started:os.Started)(H:Type)(enc:TypeId×Value→H)(F:Stop.Interp):
 ReturnsInHanded {} Try.checked os 3 .any ((Rows.OpenSpec.upto Rows.topAnewOwnerSpec).pre6 enc Try.prog Try.f3 Rows.topAnewOwnerUptoRow.domain false) (((Rows.OpenSpec.upto Rows.topAnewOwnerSpec).at F).post enc Try.prog Try.f3 false true false false):=by
 refine returnsInHanded_of_cond (C:=Try.checked) (s:=Rows.OpenSpec.upto Rows.topAnewOwnerSpec) (k:=Rows.uptoSmall) rfl ownK started (by kernel_rfl) Try.func3
  (OpenSpec.witness (enc:=enc) (C:=Try.checked) (s:=Rows.OpenSpec.upto Rows.topAnewOwnerSpec) (k:=Rows.uptoSmall) rfl false ⟨#[], #[.agg #[.int .i64 0,.int .i64 0,.slice none 0 0,.slice none 0 0,.slice none 0 0,.int .i64 0,.int .i64 0,.slice none 0 0,.slice none 0 0,.slice none 0 0,.slice none 0 0,.int .i64 0,.int .i64 0,.int .i64 0]],[]⟩ 8 (by kernel_rfl) (by kernel_rfl) (by kernel_rfl)
    (x:=([.agg [.agg [.lit (.int .i64 0),.lit (.int .i64 0),.nil,.nil,.nil],.agg [.lit (.int .i64 0),.lit (.int .i64 0),.nil,.nil,.nil],.nil,.lit (.int .i64 0),.lit (.int .i64 0),.lit (.int .i64 0)]],[],[])) (by kernel_rfl) rfl (by kernel_rfl)) ?_
 intro W base args ds gs before hval hW _ hk _;exact z02 H enc W base args ds gs before hval hW hk
theorem proved:Rows.TopAnewOwnerUptoSaid:=
 OpenClaim.holds_of_cond 3 Try.f3 rfl rfl rfl rfl rfl rfl rfl ⟨rfl,rfl,rfl,rfl,rfl⟩ rfl rfl rfl rfl rfl (by kernel_rfl) Try.func3 (by kernel_rfl)
  (of_decide_eq_true (by kernel_rfl)) (by unfold Func.isWrapper; first | (rw[if_pos (by decide+kernel)]; kernel_rfl) | (rw[if_neg (by decide+kernel)]; exact⟨rfl,rfl⟩))
  (fun os started H enc _ F=>lifted os started H enc F)
end Go.Proofs.Yteiaggdjlpehlaa
