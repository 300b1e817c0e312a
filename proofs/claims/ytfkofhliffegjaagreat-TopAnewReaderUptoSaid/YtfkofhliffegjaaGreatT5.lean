import Derived.Test.YtfkofhliffegjaaGreatT3
import Derived.Test.YtfkofhliffegjaaGreatT2
import Derived.Test.YtfkofhliffegjaaGreatProg
set_option linter.all false
open Go Go.J
set_option maxRecDepth 4000
set_option maxHeartbeats 2000000
set_option linter.unusedSimpArgs false
set_option linter.unusedVariables false
namespace Go.Proofs.JT
theorem mixed : Tryz.prog.follows .mixedOrders = true := by kernel_rfl
theorem tS28 : Tryz.prog.underlying 28 = some (.slice 3) := by kernel_rfl
theorem tZ3 : (Tryz.prog.info? 3).map (·.size) = some 1 := by kernel_rfl
theorem tC3 : Cell Tryz.prog 3 := by unfold Cell; kernel_rfl
theorem tS22 : Tryz.prog.underlying 22 = some (.slice 70) := by kernel_rfl
theorem tZ70 : (Tryz.prog.info? 70).map (·.size) = some 5 := by kernel_rfl
theorem tA70 : Agg Tryz.prog 70 5 := by unfold Agg; kernel_rfl
theorem tS23 : Tryz.prog.underlying 23 = some (.slice 76) := by kernel_rfl
theorem tZ76 : (Tryz.prog.info? 76).map (·.size) = some 2 := by kernel_rfl
theorem tA76 : Agg Tryz.prog 76 2 := by unfold Agg; kernel_rfl
theorem tX9 : Tryz.prog.underlying 9 = some .string := by kernel_rfl
theorem tF70_0 : fieldIs Tryz.prog 70 0 0 9 := fieldIs.of (by kernel_rfl)
theorem tZ9 : (Tryz.prog.info? 9).map (·.size) = some 1 := by kernel_rfl
theorem tC9 : Cell Tryz.prog 9 := by unfold Cell; kernel_rfl
theorem tF76_0 : fieldIs Tryz.prog 76 0 0 9 := fieldIs.of (by kernel_rfl)
theorem tF27_0 : fieldIs Tryz.prog 27 0 0 22 := fieldIs.of (by kernel_rfl)
theorem tZ22 : (Tryz.prog.info? 22).map (·.size) = some 1 := by kernel_rfl
theorem tC22 : Cell Tryz.prog 22 := by unfold Cell; kernel_rfl
theorem tN70 : zeroIs Tryz.prog 70 (.agg [.str ByteArray.empty, .int .i64 0, .int .i64 0, .int .i64 0, .bool false]) := zeroIs.of (by kernel_rfl)
theorem tF70_1 : fieldIs Tryz.prog 70 1 1 3 := fieldIs.of (by kernel_rfl)
theorem tN3 : zeroIs Tryz.prog 3 (.int .i64 0) := zeroIs.of (by kernel_rfl)
theorem tF70_2 : fieldIs Tryz.prog 70 2 2 68 := fieldIs.of (by kernel_rfl)
theorem tZ68 : (Tryz.prog.info? 68).map (·.size) = some 2 := by kernel_rfl
theorem tF68_0 : fieldIs Tryz.prog 68 0 0 3 := fieldIs.of (by kernel_rfl)
theorem tF68_1 : fieldIs Tryz.prog 68 1 1 3 := fieldIs.of (by kernel_rfl)
theorem tF27_1 : fieldIs Tryz.prog 27 1 1 23 := fieldIs.of (by kernel_rfl)
theorem tZ23 : (Tryz.prog.info? 23).map (·.size) = some 1 := by kernel_rfl
theorem tC23 : Cell Tryz.prog 23 := by unfold Cell; kernel_rfl
theorem tN76 : zeroIs Tryz.prog 76 (.agg [.str ByteArray.empty, .int .i64 0]) := zeroIs.of (by kernel_rfl)
theorem tF76_1 : fieldIs Tryz.prog 76 1 1 3 := fieldIs.of (by kernel_rfl)
theorem tF27_2 : fieldIs Tryz.prog 27 2 2 24 := fieldIs.of (by kernel_rfl)
theorem tZ24 : (Tryz.prog.info? 24).map (·.size) = some 1 := by kernel_rfl
theorem tC24 : Cell Tryz.prog 24 := by unfold Cell; kernel_rfl
theorem tS24 : Tryz.prog.underlying 24 = some (.slice 80) := by kernel_rfl
theorem tZ80 : (Tryz.prog.info? 80).map (·.size) = some 2 := by kernel_rfl
theorem tA80 : Agg Tryz.prog 80 2 := by unfold Agg; kernel_rfl
theorem tN80 : zeroIs Tryz.prog 80 (.agg [.int .i64 0, .bool false]) := zeroIs.of (by kernel_rfl)
theorem tF80_0 : fieldIs Tryz.prog 80 0 0 3 := fieldIs.of (by kernel_rfl)
theorem tF27_3 : fieldIs Tryz.prog 27 3 3 25 := fieldIs.of (by kernel_rfl)
theorem tZ25 : (Tryz.prog.info? 25).map (·.size) = some 1 := by kernel_rfl
theorem tC25 : Cell Tryz.prog 25 := by unfold Cell; kernel_rfl
theorem tS25 : Tryz.prog.underlying 25 = some (.slice 82) := by kernel_rfl
theorem tZ82 : (Tryz.prog.info? 82).map (·.size) = some 4 := by kernel_rfl
theorem tA82 : Agg Tryz.prog 82 4 := by unfold Agg; kernel_rfl
theorem tN82 : zeroIs Tryz.prog 82 (.agg [.int .i64 0, .int .i64 0, .int .i64 0, .int .i64 0]) := zeroIs.of (by kernel_rfl)
theorem tF82_0 : fieldIs Tryz.prog 82 0 0 3 := fieldIs.of (by kernel_rfl)
theorem tF82_1 : fieldIs Tryz.prog 82 1 1 3 := fieldIs.of (by kernel_rfl)
theorem tF82_2 : fieldIs Tryz.prog 82 2 2 3 := fieldIs.of (by kernel_rfl)
theorem tF82_3 : fieldIs Tryz.prog 82 3 3 3 := fieldIs.of (by kernel_rfl)
theorem tC137 : Cell Tryz.prog 137 := by unfold Cell; kernel_rfl
theorem tF70_3 : fieldIs Tryz.prog 70 3 4 4 := fieldIs.of (by kernel_rfl)
theorem tC4 : Cell Tryz.prog 4 := by unfold Cell; kernel_rfl
theorem tF80_1 : fieldIs Tryz.prog 80 1 1 4 := fieldIs.of (by kernel_rfl)
theorem tZ4 : (Tryz.prog.info? 4).map (·.size) = some 1 := by kernel_rfl
theorem tC83 : Cell Tryz.prog 83 := by unfold Cell; kernel_rfl
theorem tF98_1 : fieldIs Tryz.prog 98 1 4 95 := fieldIs.of (by kernel_rfl)
theorem tZ95 : (Tryz.prog.info? 95).map (·.size) = some 48 := by kernel_rfl
theorem tR95 : Tryz.prog.underlying 95 = some (.array 8 94) := by kernel_rfl
theorem tZ94 : (Tryz.prog.info? 94).map (·.size) = some 6 := by kernel_rfl
theorem tR94 : Tryz.prog.underlying 94 = some (.array 6 3) := by kernel_rfl
theorem tA68 : Agg Tryz.prog 68 2 := by unfold Agg; kernel_rfl
theorem tF98_2 : fieldIs Tryz.prog 98 2 52 96 := fieldIs.of (by kernel_rfl)
theorem tZ96 : (Tryz.prog.info? 96).map (·.size) = some 1 := by kernel_rfl
theorem tC96 : Cell Tryz.prog 96 := by unfold Cell; kernel_rfl
theorem tS96 : Tryz.prog.underlying 96 = some (.slice 129) := by kernel_rfl
theorem tZ129 : (Tryz.prog.info? 129).map (·.size) = some 2 := by kernel_rfl
theorem tA129 : Agg Tryz.prog 129 2 := by unfold Agg; kernel_rfl
theorem tN129 : zeroIs Tryz.prog 129 (.agg [.int .i64 0, .nilFunc]) := zeroIs.of (by kernel_rfl)
theorem tF129_1 : fieldIs Tryz.prog 129 1 1 127 := fieldIs.of (by kernel_rfl)
theorem tZ127 : (Tryz.prog.info? 127).map (·.size) = some 1 := by kernel_rfl
theorem tC127 : Cell Tryz.prog 127 := by unfold Cell; kernel_rfl
theorem tF129_0 : fieldIs Tryz.prog 129 0 0 3 := fieldIs.of (by kernel_rfl)
theorem tA27 : Agg Tryz.prog 27 4 := by unfold Agg; kernel_rfl
theorem tP98 : structIs Tryz.prog 98 [(0, 4), (4, 48), (52, 1)] := structIs.of (by kernel_rfl)
theorem tN98 : zeroIs Tryz.prog 98 (.agg [.slice none 0 (.exact 0), .slice none 0 (.exact 0), .slice none 0 (.exact 0), .slice none 0 (.exact 0), .int .i64 0, .int .i64 0, .int .i64 0, .int .i64 0, .int .i64 0, .int .i64 0, .int .i64 0, .int .i64 0, .int .i64 0, .int .i64 0, .int .i64 0, .int .i64 0, .int .i64 0, .int .i64 0, .int .i64 0, .int .i64 0, .int .i64 0, .int .i64 0, .int .i64 0, .int .i64 0, .int .i64 0, .int .i64 0, .int .i64 0, .int .i64 0, .int .i64 0, .int .i64 0, .int .i64 0, .int .i64 0, .int .i64 0, .int .i64 0, .int .i64 0, .int .i64 0, .int .i64 0, .int .i64 0, .int .i64 0, .int .i64 0, .int .i64 0, .int .i64 0, .int .i64 0, .int .i64 0, .int .i64 0, .int .i64 0, .int .i64 0, .int .i64 0, .int .i64 0, .int .i64 0, .int .i64 0, .int .i64 0, .slice none 0 (.exact 0)]) := zeroIs.of (by kernel_rfl)
theorem tN83 : zeroIs Tryz.prog 83 (.ptr none) := zeroIs.of (by kernel_rfl)
theorem tZ83 : (Tryz.prog.info? 83).map (·.size) = some 1 := by kernel_rfl
theorem tN137 : zeroIs Tryz.prog 137 (.nilFunc) := zeroIs.of (by kernel_rfl)
theorem tZ137 : (Tryz.prog.info? 137).map (·.size) = some 1 := by kernel_rfl
theorem tP129 : structIs Tryz.prog 129 [(0, 1), (1, 1)] := structIs.of (by kernel_rfl)
theorem tF98_0 : fieldIs Tryz.prog 98 0 0 27 := fieldIs.of (by kernel_rfl)
theorem tZ27 : (Tryz.prog.info? 27).map (·.size) = some 4 := by kernel_rfl
theorem tG28_28 : AppT Tryz.prog 28 28 3 1 8 (.int .i64 0) := ⟨by kernel_rfl, notInt.of (by kernel_rfl), by kernel_rfl, tN3, rfl, by decide⟩
theorem tI154 : Tryz.prog.underlying 154 = some (.int .u64) := by kernel_rfl
theorem tI5 : Tryz.prog.underlying 5 = some (.int .u8) := by kernel_rfl
theorem tU5 : Tryz.prog.underlying 5 = some (.int .u8) := by kernel_rfl
theorem tI3 : Tryz.prog.underlying 3 = some (.int .i64) := by kernel_rfl
theorem tI149 : Tryz.prog.underlying 149 = some (.int .u64) := by kernel_rfl
theorem isf7 : IsFn Tryz.prog 7 Tryz.f7 (dn (bodyOf Tryz.f7) []) := ⟨Tryz.func7, rfl, by kernel_rfl⟩
noncomputable abbrev C7 (p : List Nat) : Code := dn (bodyOf Tryz.f7) p
theorem isf12 : IsFn Tryz.prog 12 Tryz.f12 (dn (bodyOf Tryz.f12) []) := ⟨Tryz.func12, rfl, by kernel_rfl⟩
noncomputable abbrev C12 (p : List Nat) : Code := dn (bodyOf Tryz.f12) p
theorem isf40 : IsFn Tryz.prog 40 Tryz.f40 (dn (bodyOf Tryz.f40) []) := ⟨Tryz.func40, rfl, by kernel_rfl⟩
noncomputable abbrev C40 (p : List Nat) : Code := dn (bodyOf Tryz.f40) p
theorem isf41 : IsFn Tryz.prog 41 Tryz.f41 (dn (bodyOf Tryz.f41) []) := ⟨Tryz.func41, rfl, by kernel_rfl⟩
noncomputable abbrev C41 (p : List Nat) : Code := dn (bodyOf Tryz.f41) p
theorem isf42 : IsFn Tryz.prog 42 Tryz.f42 (dn (bodyOf Tryz.f42) []) := ⟨Tryz.func42, rfl, by kernel_rfl⟩
noncomputable abbrev C42 (p : List Nat) : Code := dn (bodyOf Tryz.f42) p
theorem isf43 : IsFn Tryz.prog 43 Tryz.f43 (dn (bodyOf Tryz.f43) []) := ⟨Tryz.func43, rfl, by kernel_rfl⟩
noncomputable abbrev C43 (p : List Nat) : Code := dn (bodyOf Tryz.f43) p
theorem isf44 : IsFn Tryz.prog 44 Tryz.f44 (dn (bodyOf Tryz.f44) []) := ⟨Tryz.func44, rfl, by kernel_rfl⟩
noncomputable abbrev C44 (p : List Nat) : Code := dn (bodyOf Tryz.f44) p
theorem isf45 : IsFn Tryz.prog 45 Tryz.f45 (dn (bodyOf Tryz.f45) []) := ⟨Tryz.func45, rfl, by kernel_rfl⟩
noncomputable abbrev C45 (p : List Nat) : Code := dn (bodyOf Tryz.f45) p
theorem isf46 : IsFn Tryz.prog 46 Tryz.f46 (dn (bodyOf Tryz.f46) []) := ⟨Tryz.func46, rfl, by kernel_rfl⟩
noncomputable abbrev C46 (p : List Nat) : Code := dn (bodyOf Tryz.f46) p
theorem isf47 : IsFn Tryz.prog 47 Tryz.f47 (dn (bodyOf Tryz.f47) []) := ⟨Tryz.func47, rfl, by kernel_rfl⟩
noncomputable abbrev C47 (p : List Nat) : Code := dn (bodyOf Tryz.f47) p
theorem isf60 : IsFn Tryz.prog 60 Tryz.f60 (dn (bodyOf Tryz.f60) []) := ⟨Tryz.func60, rfl, by kernel_rfl⟩
noncomputable abbrev C60 (p : List Nat) : Code := dn (bodyOf Tryz.f60) p
theorem isf65 : IsFn Tryz.prog 65 Tryz.f65 (dn (bodyOf Tryz.f65) []) := ⟨Tryz.func65, rfl, by kernel_rfl⟩
noncomputable abbrev C65 (p : List Nat) : Code := dn (bodyOf Tryz.f65) p
theorem isf66 : IsFn Tryz.prog 66 Tryz.f66 (dn (bodyOf Tryz.f66) []) := ⟨Tryz.func66, rfl, by kernel_rfl⟩
noncomputable abbrev C66 (p : List Nat) : Code := dn (bodyOf Tryz.f66) p
theorem isf68 : IsFn Tryz.prog 68 Tryz.f68 (dn (bodyOf Tryz.f68) []) := ⟨Tryz.func68, rfl, by kernel_rfl⟩
noncomputable abbrev C68 (p : List Nat) : Code := dn (bodyOf Tryz.f68) p
theorem isf77 : IsFn Tryz.prog 77 Tryz.f77 (dn (bodyOf Tryz.f77) []) := ⟨Tryz.func77, rfl, by kernel_rfl⟩
noncomputable abbrev C77 (p : List Nat) : Code := dn (bodyOf Tryz.f77) p
theorem isf78 : IsFn Tryz.prog 78 Tryz.f78 (dn (bodyOf Tryz.f78) []) := ⟨Tryz.func78, rfl, by kernel_rfl⟩
noncomputable abbrev C78 (p : List Nat) : Code := dn (bodyOf Tryz.f78) p
theorem isf79 : IsFn Tryz.prog 79 Tryz.f79 (dn (bodyOf Tryz.f79) []) := ⟨Tryz.func79, rfl, by kernel_rfl⟩
noncomputable abbrev C79 (p : List Nat) : Code := dn (bodyOf Tryz.f79) p
theorem isf80 : IsFn Tryz.prog 80 Tryz.f80 (dn (bodyOf Tryz.f80) []) := ⟨Tryz.func80, rfl, by kernel_rfl⟩
noncomputable abbrev C80 (p : List Nat) : Code := dn (bodyOf Tryz.f80) p
theorem isf82 : IsFn Tryz.prog 82 Tryz.f82 (dn (bodyOf Tryz.f82) []) := ⟨Tryz.func82, rfl, by kernel_rfl⟩
noncomputable abbrev C82 (p : List Nat) : Code := dn (bodyOf Tryz.f82) p
theorem isf83 : IsFn Tryz.prog 83 Tryz.f83 (dn (bodyOf Tryz.f83) []) := ⟨Tryz.func83, rfl, by kernel_rfl⟩
noncomputable abbrev C83 (p : List Nat) : Code := dn (bodyOf Tryz.f83) p
theorem isf85 : IsFn Tryz.prog 85 Tryz.f85 (dn (bodyOf Tryz.f85) []) := ⟨Tryz.func85, rfl, by kernel_rfl⟩
noncomputable abbrev C85 (p : List Nat) : Code := dn (bodyOf Tryz.f85) p
theorem isf86 : IsFn Tryz.prog 86 Tryz.f86 (dn (bodyOf Tryz.f86) []) := ⟨Tryz.func86, rfl, by kernel_rfl⟩
noncomputable abbrev C86 (p : List Nat) : Code := dn (bodyOf Tryz.f86) p
theorem isf87 : IsFn Tryz.prog 87 Tryz.f87 (dn (bodyOf Tryz.f87) []) := ⟨Tryz.func87, rfl, by kernel_rfl⟩
noncomputable abbrev C87 (p : List Nat) : Code := dn (bodyOf Tryz.f87) p
theorem isf88 : IsFn Tryz.prog 88 Tryz.f88 (dn (bodyOf Tryz.f88) []) := ⟨Tryz.func88, rfl, by kernel_rfl⟩
noncomputable abbrev C88 (p : List Nat) : Code := dn (bodyOf Tryz.f88) p
theorem isf89 : IsFn Tryz.prog 89 Tryz.f89 (dn (bodyOf Tryz.f89) []) := ⟨Tryz.func89, rfl, by kernel_rfl⟩
noncomputable abbrev C89 (p : List Nat) : Code := dn (bodyOf Tryz.f89) p
theorem isf90 : IsFn Tryz.prog 90 Tryz.f90 (dn (bodyOf Tryz.f90) []) := ⟨Tryz.func90, rfl, by kernel_rfl⟩
noncomputable abbrev C90 (p : List Nat) : Code := dn (bodyOf Tryz.f90) p
theorem isf100 : IsFn Tryz.prog 100 Tryz.f100 (dn (bodyOf Tryz.f100) []) := ⟨Tryz.func100, rfl, by kernel_rfl⟩
noncomputable abbrev C100 (p : List Nat) : Code := dn (bodyOf Tryz.f100) p
theorem isf101 : IsFn Tryz.prog 101 Tryz.f101 (dn (bodyOf Tryz.f101) []) := ⟨Tryz.func101, rfl, by kernel_rfl⟩
noncomputable abbrev C101 (p : List Nat) : Code := dn (bodyOf Tryz.f101) p
theorem isf102 : IsFn Tryz.prog 102 Tryz.f102 (dn (bodyOf Tryz.f102) []) := ⟨Tryz.func102, rfl, by kernel_rfl⟩
noncomputable abbrev C102 (p : List Nat) : Code := dn (bodyOf Tryz.f102) p
theorem isf105 : IsFn Tryz.prog 105 Tryz.f105 (dn (bodyOf Tryz.f105) []) := ⟨Tryz.func105, rfl, by kernel_rfl⟩
noncomputable abbrev C105 (p : List Nat) : Code := dn (bodyOf Tryz.f105) p
theorem c100 {h : AH} {E N : List AV → Prop} {p : Option (Nat × Nat)} {n : Nat} {c : Cap} {fv : AV} (sp : SlV h p n 1 E) (mp : n ≤ 1048576) (hf : ∀ h1 l, Le h h1 → E l → l.length = 1 → JApp Tryz.prog fv [l.headD .nilFunc] h1 (fun e h2 => ∃ b, e = .ret (.bool b) ∧ Le h1 h2 ∧ (b = false → N l))) : JCall Tryz.prog 100 [.slice p n c, fv] h (fun e h' => ∃ r : Int, e = .ret (.int .i64 r) ∧ -1 ≤ r ∧ r < n ∧ Le h h' ∧ (r < 0 → SlV h p n 1 (fun l => E l ∧ N l))) := by
 refine JCall_of_J (N := 19) (sl := [(0, _), (1, _)]) isf100 rfl (by show 2 ≤ 19; decide) rfl ?_
 refine Sr (Lz (w_assign ?_))
 refine Sq (Sr ?_)
 refine Lo (w_move ?_)
 refine Lo (w_len tS28 ?_)
 refine Lz (w_move ?_)
 refine Bk ?_
 refine J_for2 (x := C100 [0, 0, 1, 0, 1]) (fun (x8_2 : Int) (h3 : AH) => ⟨[(0, .slice p n c), (1, fv), (7, .int .i64 ((n : Nat) : Int)), (8, .int .i64 x8_2)], h3, 19, []⟩) (fun (x8_2 : Int) (h3 : AH) => 0 ≤ x8_2 ∧ x8_2 ≤ n ∧ Le h h3 ∧ SlV h p x8_2.toNat 1 (fun l => E l ∧ N l)) (fun (x8_2 : Int) (h3 : AH) => (((n : Nat) : Int) - x8_2).toNat) 0 h rfl ⟨rfl, rfl, rfl, rfl, rfl, rfl, rfl, trivial⟩ ⟨(by omega), (by omega), .refl _, (SlV.zero)⟩ ?_
 intro x8_2 h3 hI
 obtain ⟨hxx8_2, iv6, le4, iv5⟩ : 0 ≤ x8_2 ∧ x8_2 ≤ n ∧ Le h h3 ∧ SlV h p x8_2.toNat 1 (fun l => E l ∧ N l) := hI
 show J _ _ (C100 [0, 0, 1, 0, 1]) ⟨[(0, .slice p n c), (1, fv), (7, .int .i64 ((n : Nat) : Int)), (8, .int .i64 x8_2)], h3, 19, []⟩ _
 refine Sr (Lz (w_lt ?_))
 refine Sq ?_
 refine Cn (fun q7 => ?_) (fun q7 => ?_)
 · refine Sk ?_
   refine Sq (Bk ?_)
   refine Sr (Lo (w_move ?_))
   refine Lz (w_assign ?_)
   refine Sr (Lo (w_move ?_))
   refine Lo (w_move ?_)
   refine Lo (w_move ?_)
   obtain ⟨i8, o9, cs10, l11, rfl, hc12, hl13, hk14, hE15, ht16⟩ := sp.at (i := x8_2) (by omega) (by omega)
   refine Lo (w_indexAddrS tS28 tZ3 ?_)
   have hc17 := le4.cells hc12
   obtain ⟨v18, rfl⟩ := len1 hk14
   refine Lo (w_ldC tC3 hc17 ?_ (hv := cell_of_take0 ht16 rfl))
   refine Lo (w_callV' ?_ (hR := by exact hf h3 [v18] le4 hE15 rfl))
   rintro e19 h20 ⟨b21, rfl, le22, k23⟩
   refine Ln ?_
   refine Cb (fun q24 => ?_) (fun q24 => ?_)
   · subst q24
     refine Sr (Lo (w_move ?_))
     refine Lz (w_assign ?_)
     refine Rt ?_
     refine blk_r (then_r (then_r (blk_r (then_r ?_))))
     refine leave_ret rfl ?_
     have l0_2_25 : Le h h20 := le4.trans le22
     exact ⟨_, rfl, by omega, by omega, l0_2_25, fun q => absurd q (by omega)⟩
   · subst q24
     refine Sk ?_
     refine Rg (Lo (w_add ?_))
     refine Lz (w_move ?_)
     have l0_2_26 : Le h h20 := le4.trans le22
     exact ⟨(x8_2 + 1), h20, ⟨⟨(by omega), (by omega), l0_2_26, (SlV.snoc sp iv5 (by omega) (by omega) rfl hc12 hk14 ⟨hE15, (k23 rfl)⟩ ht16)⟩, by omega⟩, rfl, rfl, rfl, rfl, rfl, rfl, rfl, trivial⟩
 · refine Ex ?_
   refine then_x (then_x (blk_eq rfl ?_))
   refine Sr (Lz (w_assign ?_))
   refine Rt ?_
   refine leave_ret rfl ?_
   exact ⟨_, rfl, by omega, by omega, le4, fun _ => by rw [show n = x8_2.toNat by omega]; exact iv5⟩
theorem c77 {h : AH} {E N : List AV → Prop} {p : Option (Nat × Nat)} {n : Nat} {c : Cap} {fv : AV} (sp : SlV h p n 5 E) (mp : n ≤ 1048576) (hf : ∀ h1 l, Le h h1 → E l → l.length = 5 → JApp Tryz.prog fv [.agg l] h1 (fun e h2 => ∃ b, e = .ret (.bool b) ∧ Le h1 h2 ∧ (b = false → N l))) : JCall Tryz.prog 77 [.slice p n c, fv] h (fun e h' => ∃ r : Int, e = .ret (.int .i64 r) ∧ -1 ≤ r ∧ r < n ∧ Le h h' ∧ (r < 0 → SlV h p n 5 (fun l => E l ∧ N l))) := by
 refine JCall_of_J (N := 19) (sl := [(0, _), (1, _)]) isf77 rfl (by show 2 ≤ 19; decide) rfl ?_
 refine Sr (Lz (w_assign ?_))
 refine Sq (Sr ?_)
 refine Lo (w_move ?_)
 refine Lo (w_len tS22 ?_)
 refine Lz (w_move ?_)
 refine Bk ?_
 refine J_for2 (x := C77 [0, 0, 1, 0, 1]) (fun (x8_28 : Int) (h29 : AH) => ⟨[(0, .slice p n c), (1, fv), (7, .int .i64 ((n : Nat) : Int)), (8, .int .i64 x8_28)], h29, 19, []⟩) (fun (x8_28 : Int) (h29 : AH) => 0 ≤ x8_28 ∧ x8_28 ≤ n ∧ Le h h29 ∧ SlV h p x8_28.toNat 5 (fun l => E l ∧ N l)) (fun (x8_28 : Int) (h29 : AH) => (((n : Nat) : Int) - x8_28).toNat) 0 h rfl ⟨rfl, rfl, rfl, rfl, rfl, rfl, rfl, trivial⟩ ⟨(by omega), (by omega), .refl _, (SlV.zero)⟩ ?_
 intro x8_28 h29 hI
 obtain ⟨hxx8_28, iv32, le30, iv31⟩ : 0 ≤ x8_28 ∧ x8_28 ≤ n ∧ Le h h29 ∧ SlV h p x8_28.toNat 5 (fun l => E l ∧ N l) := hI
 show J _ _ (C77 [0, 0, 1, 0, 1]) ⟨[(0, .slice p n c), (1, fv), (7, .int .i64 ((n : Nat) : Int)), (8, .int .i64 x8_28)], h29, 19, []⟩ _
 refine Sr (Lz (w_lt ?_))
 refine Sq ?_
 refine Cn (fun q33 => ?_) (fun q33 => ?_)
 · refine Sk ?_
   refine Sq (Bk ?_)
   refine Sr (Lo (w_move ?_))
   refine Lz (w_assign ?_)
   refine Sr (Lo (w_move ?_))
   refine Lo (w_move ?_)
   refine Lo (w_move ?_)
   obtain ⟨i34, o35, cs36, l37, rfl, hc38, hl39, hk40, hE41, ht42⟩ := sp.at (i := x8_28) (by omega) (by omega)
   refine Lo (w_indexAddrS tS22 tZ70 ?_)
   have hc43 := le30.cells hc38
   refine Lo (w_ldA tA70 hc43 ?_ (hn := hl39) (hl := ht42))
   refine Lo (w_callV' ?_ (hR := by exact hf h29 l37 le30 hE41 hk40))
   rintro e44 h45 ⟨b46, rfl, le47, k48⟩
   refine Ln ?_
   refine Cb (fun q49 => ?_) (fun q49 => ?_)
   · subst q49
     refine Sr (Lo (w_move ?_))
     refine Lz (w_assign ?_)
     refine Rt ?_
     refine blk_r (then_r (then_r (blk_r (then_r ?_))))
     refine leave_ret rfl ?_
     have l0_2_50 : Le h h45 := le30.trans le47
     exact ⟨_, rfl, by omega, by omega, l0_2_50, fun q => absurd q (by omega)⟩
   · subst q49
     refine Sk ?_
     refine Rg (Lo (w_add ?_))
     refine Lz (w_move ?_)
     have l0_2_51 : Le h h45 := le30.trans le47
     exact ⟨(x8_28 + 1), h45, ⟨⟨(by omega), (by omega), l0_2_51, (SlV.snoc sp iv31 (by omega) (by omega) rfl hc38 hk40 ⟨hE41, (k48 rfl)⟩ ht42)⟩, by omega⟩, rfl, rfl, rfl, rfl, rfl, rfl, rfl, trivial⟩
 · refine Ex ?_
   refine then_x (then_x (blk_eq rfl ?_))
   refine Sr (Lz (w_assign ?_))
   refine Rt ?_
   refine leave_ret rfl ?_
   exact ⟨_, rfl, by omega, by omega, le30, fun _ => by rw [show n = x8_28.toNat by omega]; exact iv31⟩
theorem c80 {h : AH} {E N : List AV → Prop} {p : Option (Nat × Nat)} {n : Nat} {c : Cap} {fv : AV} (sp : SlV h p n 2 E) (mp : n ≤ 1048576) (hf : ∀ h1 l, Le h h1 → E l → l.length = 2 → JApp Tryz.prog fv [.agg l] h1 (fun e h2 => ∃ b, e = .ret (.bool b) ∧ Le h1 h2 ∧ (b = false → N l))) : JCall Tryz.prog 80 [.slice p n c, fv] h (fun e h' => ∃ r : Int, e = .ret (.int .i64 r) ∧ -1 ≤ r ∧ r < n ∧ Le h h' ∧ (r < 0 → SlV h p n 2 (fun l => E l ∧ N l))) := by
 refine JCall_of_J (N := 19) (sl := [(0, _), (1, _)]) isf80 rfl (by show 2 ≤ 19; decide) rfl ?_
 refine Sr (Lz (w_assign ?_))
 refine Sq (Sr ?_)
 refine Lo (w_move ?_)
 refine Lo (w_len tS23 ?_)
 refine Lz (w_move ?_)
 refine Bk ?_
 refine J_for2 (x := C80 [0, 0, 1, 0, 1]) (fun (x8_53 : Int) (h54 : AH) => ⟨[(0, .slice p n c), (1, fv), (7, .int .i64 ((n : Nat) : Int)), (8, .int .i64 x8_53)], h54, 19, []⟩) (fun (x8_53 : Int) (h54 : AH) => 0 ≤ x8_53 ∧ x8_53 ≤ n ∧ Le h h54 ∧ SlV h p x8_53.toNat 2 (fun l => E l ∧ N l)) (fun (x8_53 : Int) (h54 : AH) => (((n : Nat) : Int) - x8_53).toNat) 0 h rfl ⟨rfl, rfl, rfl, rfl, rfl, rfl, rfl, trivial⟩ ⟨(by omega), (by omega), .refl _, (SlV.zero)⟩ ?_
 intro x8_53 h54 hI
 obtain ⟨hxx8_53, iv57, le55, iv56⟩ : 0 ≤ x8_53 ∧ x8_53 ≤ n ∧ Le h h54 ∧ SlV h p x8_53.toNat 2 (fun l => E l ∧ N l) := hI
 show J _ _ (C80 [0, 0, 1, 0, 1]) ⟨[(0, .slice p n c), (1, fv), (7, .int .i64 ((n : Nat) : Int)), (8, .int .i64 x8_53)], h54, 19, []⟩ _
 refine Sr (Lz (w_lt ?_))
 refine Sq ?_
 refine Cn (fun q58 => ?_) (fun q58 => ?_)
 · refine Sk ?_
   refine Sq (Bk ?_)
   refine Sr (Lo (w_move ?_))
   refine Lz (w_assign ?_)
   refine Sr (Lo (w_move ?_))
   refine Lo (w_move ?_)
   refine Lo (w_move ?_)
   obtain ⟨i59, o60, cs61, l62, rfl, hc63, hl64, hk65, hE66, ht67⟩ := sp.at (i := x8_53) (by omega) (by omega)
   refine Lo (w_indexAddrS tS23 tZ76 ?_)
   have hc68 := le55.cells hc63
   refine Lo (w_ldA tA76 hc68 ?_ (hn := hl64) (hl := ht67))
   refine Lo (w_callV' ?_ (hR := by exact hf h54 l62 le55 hE66 hk65))
   rintro e69 h70 ⟨b71, rfl, le72, k73⟩
   refine Ln ?_
   refine Cb (fun q74 => ?_) (fun q74 => ?_)
   · subst q74
     refine Sr (Lo (w_move ?_))
     refine Lz (w_assign ?_)
     refine Rt ?_
     refine blk_r (then_r (then_r (blk_r (then_r ?_))))
     refine leave_ret rfl ?_
     have l0_2_75 : Le h h70 := le55.trans le72
     exact ⟨_, rfl, by omega, by omega, l0_2_75, fun q => absurd q (by omega)⟩
   · subst q74
     refine Sk ?_
     refine Rg (Lo (w_add ?_))
     refine Lz (w_move ?_)
     have l0_2_76 : Le h h70 := le55.trans le72
     exact ⟨(x8_53 + 1), h70, ⟨⟨(by omega), (by omega), l0_2_76, (SlV.snoc sp iv56 (by omega) (by omega) rfl hc63 hk65 ⟨hE66, (k73 rfl)⟩ ht67)⟩, by omega⟩, rfl, rfl, rfl, rfl, rfl, rfl, rfl, trivial⟩
 · refine Ex ?_
   refine then_x (then_x (blk_eq rfl ?_))
   refine Sr (Lz (w_assign ?_))
   refine Rt ?_
   refine leave_ret rfl ?_
   exact ⟨_, rfl, by omega, by omega, le55, fun _ => by rw [show n = x8_53.toNat by omega]; exact iv56⟩
theorem c78 {h : AH} {E N : List AV → Prop} {p : Option (Nat × Nat)} {n : Nat} {c : Cap} {fv : AV} (sp : SlV h p n 1 E) (mp : n ≤ 1048576) (hf : ∀ h1 l, Le h h1 → E l → l.length = 1 → JApp Tryz.prog fv [l.headD .nilFunc] h1 (fun e h2 => ∃ b, e = .ret (.bool b) ∧ Le h1 h2 ∧ (b = false → N l))) : JCall Tryz.prog 78 [.slice p n c, fv] h (fun e h' => ∃ r : Bool, e = .ret (.bool r) ∧ Le h h' ∧ (r = false → SlV h p n 1 (fun l => E l ∧ N l))) := by
 refine JCall_of_J (N := 9) (sl := [(0, _), (1, _)]) isf78 rfl (by show 2 ≤ 9; decide) rfl ?_
 refine Sr (Lz (w_assign ?_))
 refine Sr (Lo (w_move ?_))
 refine Lo (w_move ?_)
 refine Lo (w_call' isf100 ?_ (hR := by exact c100 (N := N) sp (by omega) hf))
 rintro e78 h79 ⟨n80, rfl, lon80, hin80, le81, k82⟩
 refine Lo (w_ge ?_)
 have k83 : decide (0 ≤ n80) = false → SlV h p n 1 (fun l => E l ∧ N l) := fun q => k82 (by simpa using q)
 refine Lz (w_assign ?_)
 refine Rt ?_
 refine leave_ret rfl ?_
 exact ⟨_, rfl, le81, fun q => k83 (by simpa using q)⟩
theorem c41 {h : AH} {E N : List AV → Prop} {p : Option (Nat × Nat)} {n : Nat} {c : Cap} {fv : AV} (sp : SlV h p n 5 E) (mp : n ≤ 1048576) (hf : ∀ h1 l, Le h h1 → E l → l.length = 5 → JApp Tryz.prog fv [.agg l] h1 (fun e h2 => ∃ b, e = .ret (.bool b) ∧ Le h1 h2 ∧ (b = false → N l))) : JCall Tryz.prog 41 [.slice p n c, fv] h (fun e h' => ∃ r : Bool, e = .ret (.bool r) ∧ Le h h' ∧ (r = false → SlV h p n 5 (fun l => E l ∧ N l))) := by
 refine JCall_of_J (N := 9) (sl := [(0, _), (1, _)]) isf41 rfl (by show 2 ≤ 9; decide) rfl ?_
 refine Sr (Lz (w_assign ?_))
 refine Sr (Lo (w_move ?_))
 refine Lo (w_move ?_)
 refine Lo (w_call' isf77 ?_ (hR := by exact c77 (N := N) sp (by omega) hf))
 rintro e85 h86 ⟨n87, rfl, lon87, hin87, le88, k89⟩
 refine Lo (w_ge ?_)
 have k90 : decide (0 ≤ n87) = false → SlV h p n 5 (fun l => E l ∧ N l) := fun q => k89 (by simpa using q)
 refine Lz (w_assign ?_)
 refine Rt ?_
 refine leave_ret rfl ?_
 exact ⟨_, rfl, le88, fun q => k90 (by simpa using q)⟩
theorem c44 {h : AH} {E N : List AV → Prop} {p : Option (Nat × Nat)} {n : Nat} {c : Cap} {fv : AV} (sp : SlV h p n 2 E) (mp : n ≤ 1048576) (hf : ∀ h1 l, Le h h1 → E l → l.length = 2 → JApp Tryz.prog fv [.agg l] h1 (fun e h2 => ∃ b, e = .ret (.bool b) ∧ Le h1 h2 ∧ (b = false → N l))) : JCall Tryz.prog 44 [.slice p n c, fv] h (fun e h' => ∃ r : Bool, e = .ret (.bool r) ∧ Le h h' ∧ (r = false → SlV h p n 2 (fun l => E l ∧ N l))) := by
 refine JCall_of_J (N := 9) (sl := [(0, _), (1, _)]) isf44 rfl (by show 2 ≤ 9; decide) rfl ?_
 refine Sr (Lz (w_assign ?_))
 refine Sr (Lo (w_move ?_))
 refine Lo (w_move ?_)
 refine Lo (w_call' isf80 ?_ (hR := by exact c80 (N := N) sp (by omega) hf))
 rintro e92 h93 ⟨n94, rfl, lon94, hin94, le95, k96⟩
 refine Lo (w_ge ?_)
 have k97 : decide (0 ≤ n94) = false → SlV h p n 2 (fun l => E l ∧ N l) := fun q => k96 (by simpa using q)
 refine Lz (w_assign ?_)
 refine Rt ?_
 refine leave_ret rfl ?_
 exact ⟨_, rfl, le95, fun q => k97 (by simpa using q)⟩
theorem c40 {h : AH}  {s : ByteArray} (hs : s.size ≤ 1048576) : JCall Tryz.prog 40 [.str s] h (fun e h' => ∃ (r : Bool), e = .ret (.bool r) ∧ Le h h') := by
 refine JCall_of_J (N := 40) (sl := [(0, _)]) isf40 rfl (by show 1 ≤ 40; decide) rfl ?_
 refine Sr (Lz (w_assign ?_))
 refine Sq (Sr ?_)
 refine Lo (w_move ?_)
 refine Lz (x_rangeStr tX9 ?_)
 intro i1 h2 w3
 refine Bk ?_
 refine J_for2 (x := C40 [0, 0, 1, 0, 1]) (fun (pos4 : Nat) (h6 : AH) => ⟨[(0, .str s), (6, .ptr (some (i1, 0)))], h6, 40, []⟩) (fun (pos4 : Nat) (h6 : AH) => LeM [i1] h2 h6 ∧ h6.get i1 = some (.siter s pos4)) (fun (pos4 : Nat) (h6 : AH) => s.size - pos4) 0 h2 rfl ⟨rfl, rfl, rfl, rfl, rfl, trivial⟩ ⟨.refl _ _, (w3.get)⟩ ?_
 intro pos4 h6 hI
 obtain ⟨lm7, g5⟩ : LeM [i1] h2 h6 ∧ h6.get i1 = some (.siter s pos4) := hI
 show J _ _ (C40 [0, 0, 1, 0, 1]) ⟨[(0, .str s), (6, .ptr (some (i1, 0)))], h6, 40, []⟩ _
 refine Sr ?_
 refine Lo (x_nextStr g5 ?_ ?_)
 · intro q8 n9 pos10 q11 h12 bt13 g14
   refine Lz (w_extract ?_)
   refine Sq ?_
   refine Ct ?_
   refine Sk ?_
   refine Bk (Sr ?_)
   refine Lo (w_extract ?_)
   refine Lo (w_extract ?_)
   refine Lo (w_assign ?_)
   refine Lz (w_assign ?_)
   refine Bk (Sr ?_)
   refine Lo (w_move ?_)
   refine Lo (w_ge ?_)
   refine Lo (w_move ?_)
   refine k_splitD (d := 14) rfl (fun q15 => ?_) (fun q15 => ?_)
   · refine Gl (w_move ?_)
     refine Gl (w_le ?_)
     refine Lo (w_pick_t ?_)
     refine Lz (w_assign ?_)
     refine Cn (fun q16 => ?_) (fun q16 => ?_)
     · refine Sk ?_
       exact ⟨pos10, h12, ⟨⟨(((LeM.refl [i1] h2).turnM lm7 (by simp)).butM bt13 (by simp)), g14⟩, by omega⟩, rfl, rfl, rfl, rfl, rfl, trivial⟩
     · refine Sr (Lo (w_move ?_))
       refine Lo (w_gt ?_)
       refine Lo (w_move ?_)
       refine k_splitD (d := 21) rfl (fun q17 => ?_) (fun q17 => ?_)
       · refine Gl (w_move ?_)
         refine Gl (w_ge ?_)
         refine Gl (w_move ?_)
         refine k_splitD (d := 24) rfl (fun q18 => ?_) (fun q18 => ?_)
         · refine Gl (w_move ?_)
           refine Gl (w_le ?_)
           refine Gl (w_pick_t ?_)
           refine Gl (w_move ?_)
           refine k_splitD (d := 28) rfl (fun q19 => ?_) (fun q19 => ?_)
           · refine Ws ?_
             refine Ws ?_
             refine Gl (w_pick_t ?_)
             refine Lo (w_pick_t ?_)
             refine Lz (w_assign ?_)
             refine Ct ?_
             refine Sk ?_
             exact ⟨pos10, h12, ⟨⟨(((LeM.refl [i1] h2).turnM lm7 (by simp)).butM bt13 (by simp)), g14⟩, by omega⟩, rfl, rfl, rfl, rfl, rfl, trivial⟩
           · refine Gl (w_move ?_)
             refine Gl (w_eq ?_)
             refine Gl (w_pick_f ?_)
             refine Lo (w_pick_t ?_)
             refine Lz (w_assign ?_)
             refine Cn (fun q20 => ?_) (fun q20 => ?_)
             · refine Sk ?_
               exact ⟨pos10, h12, ⟨⟨(((LeM.refl [i1] h2).turnM lm7 (by simp)).butM bt13 (by simp)), g14⟩, by omega⟩, rfl, rfl, rfl, rfl, rfl, trivial⟩
             · refine Sr (Lz (w_assign ?_))
               refine Rt ?_
               refine blk_r (blk_r (then_r (blk_r (then_r ?_))))
               refine leave_ret rfl ?_
               have l0_2_21 : Le h h6 := w3.le.turn lm7 (by simp only [List.mem_cons, List.not_mem_nil, or_false, forall_eq_or_imp, forall_eq]; exact w3.free)
               have l0_3_22 : Le h h12 := l0_2_21.but bt13 w3.free
               exact ⟨_, rfl, l0_3_22⟩
         · refine Ws ?_
           refine Ws ?_
           refine Gl (w_pick_f ?_)
           refine Gl (w_move ?_)
           refine Gl (w_move ?_)
           refine Gl (w_eq ?_)
           refine Gl (w_pick_f ?_)
           refine Lo (w_pick_t ?_)
           refine Lz (w_assign ?_)
           refine Cn (fun q23 => ?_) (fun q23 => ?_)
           · refine Sk ?_
             exact ⟨pos10, h12, ⟨⟨(((LeM.refl [i1] h2).turnM lm7 (by simp)).butM bt13 (by simp)), g14⟩, by omega⟩, rfl, rfl, rfl, rfl, rfl, trivial⟩
           · refine Sr (Lz (w_assign ?_))
             refine Rt ?_
             refine blk_r (blk_r (then_r (blk_r (then_r ?_))))
             refine leave_ret rfl ?_
             have l0_2_24 : Le h h6 := w3.le.turn lm7 (by simp only [List.mem_cons, List.not_mem_nil, or_false, forall_eq_or_imp, forall_eq]; exact w3.free)
             have l0_3_25 : Le h h12 := l0_2_24.but bt13 w3.free
             exact ⟨_, rfl, l0_3_25⟩
       · refine Ws ?_
         refine Ws ?_
         refine Ws ?_
         refine Wu ?_
         refine Wu ?_
         refine Ws ?_
         refine Ws ?_
         refine Wu ?_
         refine Wu ?_
         refine Ws ?_
         refine Lo (w_pick_f ?_)
         refine Lz (w_assign ?_)
         refine Cf ?_
         refine Sr (Lz (w_assign ?_))
         refine Rt ?_
         refine blk_r (blk_r (then_r (blk_r (then_r ?_))))
         refine leave_ret rfl ?_
         have l0_2_26 : Le h h6 := w3.le.turn lm7 (by simp only [List.mem_cons, List.not_mem_nil, or_false, forall_eq_or_imp, forall_eq]; exact w3.free)
         have l0_3_27 : Le h h12 := l0_2_26.but bt13 w3.free
         exact ⟨_, rfl, l0_3_27⟩
   · refine Ws ?_
     refine Ws ?_
     refine Lo (w_pick_f ?_)
     refine Lz (w_assign ?_)
     refine Cf ?_
     refine Sr (Lo (w_move ?_))
     refine Lo (w_gt ?_)
     refine Lo (w_move ?_)
     refine k_splitD (d := 21) rfl (fun q28 => ?_) (fun q28 => ?_)
     · refine Gl (w_move ?_)
       refine Gl (w_ge ?_)
       refine Gl (w_move ?_)
       refine k_splitD (d := 24) rfl (fun q29 => ?_) (fun q29 => ?_)
       · refine Gl (w_move ?_)
         refine Gl (w_le ?_)
         refine Gl (w_pick_t ?_)
         refine Gl (w_move ?_)
         refine k_splitD (d := 28) rfl (fun q30 => ?_) (fun q30 => ?_)
         · refine Ws ?_
           refine Ws ?_
           refine Gl (w_pick_t ?_)
           refine Lo (w_pick_t ?_)
           refine Lz (w_assign ?_)
           refine Ct ?_
           refine Sk ?_
           exact ⟨pos10, h12, ⟨⟨(((LeM.refl [i1] h2).turnM lm7 (by simp)).butM bt13 (by simp)), g14⟩, by omega⟩, rfl, rfl, rfl, rfl, rfl, trivial⟩
         · refine Gl (w_move ?_)
           refine Gl (w_eq ?_)
           refine Gl (w_pick_f ?_)
           refine Lo (w_pick_t ?_)
           refine Lz (w_assign ?_)
           refine Cn (fun q31 => ?_) (fun q31 => ?_)
           · refine Sk ?_
             exact ⟨pos10, h12, ⟨⟨(((LeM.refl [i1] h2).turnM lm7 (by simp)).butM bt13 (by simp)), g14⟩, by omega⟩, rfl, rfl, rfl, rfl, rfl, trivial⟩
           · refine Sr (Lz (w_assign ?_))
             refine Rt ?_
             refine blk_r (blk_r (then_r (blk_r (then_r ?_))))
             refine leave_ret rfl ?_
             have l0_2_32 : Le h h6 := w3.le.turn lm7 (by simp only [List.mem_cons, List.not_mem_nil, or_false, forall_eq_or_imp, forall_eq]; exact w3.free)
             have l0_3_33 : Le h h12 := l0_2_32.but bt13 w3.free
             exact ⟨_, rfl, l0_3_33⟩
       · refine Ws ?_
         refine Ws ?_
         refine Gl (w_pick_f ?_)
         refine Gl (w_move ?_)
         refine Gl (w_move ?_)
         refine Gl (w_eq ?_)
         refine Gl (w_pick_f ?_)
         refine Lo (w_pick_t ?_)
         refine Lz (w_assign ?_)
         refine Cn (fun q34 => ?_) (fun q34 => ?_)
         · refine Sk ?_
           exact ⟨pos10, h12, ⟨⟨(((LeM.refl [i1] h2).turnM lm7 (by simp)).butM bt13 (by simp)), g14⟩, by omega⟩, rfl, rfl, rfl, rfl, rfl, trivial⟩
         · refine Sr (Lz (w_assign ?_))
           refine Rt ?_
           refine blk_r (blk_r (then_r (blk_r (then_r ?_))))
           refine leave_ret rfl ?_
           have l0_2_35 : Le h h6 := w3.le.turn lm7 (by simp only [List.mem_cons, List.not_mem_nil, or_false, forall_eq_or_imp, forall_eq]; exact w3.free)
           have l0_3_36 : Le h h12 := l0_2_35.but bt13 w3.free
           exact ⟨_, rfl, l0_3_36⟩
     · refine Ws ?_
       refine Ws ?_
       refine Ws ?_
       refine Wu ?_
       refine Wu ?_
       refine Ws ?_
       refine Ws ?_
       refine Wu ?_
       refine Wu ?_
       refine Ws ?_
       refine Lo (w_pick_f ?_)
       refine Lz (w_assign ?_)
       refine Cf ?_
       refine Sr (Lz (w_assign ?_))
       refine Rt ?_
       refine blk_r (blk_r (then_r (blk_r (then_r ?_))))
       refine leave_ret rfl ?_
       have l0_2_37 : Le h h6 := w3.le.turn lm7 (by simp only [List.mem_cons, List.not_mem_nil, or_false, forall_eq_or_imp, forall_eq]; exact w3.free)
       have l0_3_38 : Le h h12 := l0_2_37.but bt13 w3.free
       exact ⟨_, rfl, l0_3_38⟩
 · intro q39
   refine Lz (w_extract ?_)
   refine Sq ?_
   refine Cf ?_
   refine Ex ?_
   refine then_x (then_x (blk_eq rfl ?_))
   refine Sr (Lo (w_move ?_))
   refine Lo (x_sne ?_)
   intro b40
   refine Lo (w_move ?_)
   refine k_splitB (d := 35) rfl (fun q41 => ?_) (fun q41 => ?_)
   · refine Gl (w_move ?_)
     refine Gl (w_lenStr tX9 ?_)
     refine Gl (w_le ?_)
     refine Lo (w_pick_t ?_)
     refine Lz (w_assign ?_)
     refine Rt ?_
     refine leave_ret rfl ?_
     have l0_2_42 : Le h h6 := w3.le.turn lm7 (by simp only [List.mem_cons, List.not_mem_nil, or_false, forall_eq_or_imp, forall_eq]; exact w3.free)
     exact ⟨_, rfl, l0_2_42⟩
   · refine Ws ?_
     refine Ws ?_
     refine Ws ?_
     refine Lo (w_pick_f ?_)
     refine Lz (w_assign ?_)
     refine Rt ?_
     refine leave_ret rfl ?_
     have l0_2_43 : Le h h6 := w3.le.turn lm7 (by simp only [List.mem_cons, List.not_mem_nil, or_false, forall_eq_or_imp, forall_eq]; exact w3.free)
     exact ⟨_, rfl, l0_2_43⟩
theorem c79 {h : AH}  {n : Int} {a : Nat} {lo : Int} {b : Nat} {hi : Int} (oa : Own h a [.int .i64 lo]) (ob : Own h b [.int .i64 hi]) : JCall Tryz.prog 79 [.int .i64 n, .ptr (some (a, 0)), .ptr (some (b, 0))] h (fun e h' => ∃ (r : Bool), e = .ret (.bool r) ∧ Le h h' ∧ (r = false → lo ≤ n ∧ n ≤ hi)) := by
 refine JCall_of_J (N := 13) (sl := [(0, _), (1, _), (2, _)]) isf79 rfl (by show 3 ≤ 13; decide) rfl ?_
 refine Sr (Lz (w_assign ?_))
 refine Sr (Lo (w_move ?_))
 refine Lo (w_ldC tC3 oa.cells ?_)
 refine Lo (w_lt ?_)
 refine Lo (w_move ?_)
 refine k_splitD (d := 8) rfl (fun q1 => ?_) (fun q1 => ?_)
 · refine Ws ?_
   refine Ws ?_
   refine Ws ?_
   refine Lo (w_pick_t ?_)
   refine Lz (w_assign ?_)
   refine Rt ?_
   refine leave_ret rfl ?_
   exact ⟨_, rfl, (Le.refl _), (fun q => by simp at q <;> omega)⟩
 · refine Gl (w_move ?_)
   refine Gl (w_ldC tC3 ob.cells ?_)
   refine Gl (w_gt ?_)
   refine Lo (w_pick_f ?_)
   refine Lz (w_assign ?_)
   refine Rt ?_
   refine leave_ret rfl ?_
   exact ⟨_, rfl, (Le.refl _), (fun q => by simp at q <;> omega)⟩
theorem c43 {h : AH}  {lo : Int} {hi : Int} {p : Option (Nat × Nat)} {n : Nat} {cp : Cap} (sp : SlV h p n 1 (okL h [.i])) (mp : n ≤ 1048576) : JCall Tryz.prog 43 [.int .i64 lo, .int .i64 hi, .slice p n cp] h (fun e h' => ∃ (r : Bool), e = .ret (.bool r) ∧ Le h h' ∧ (r = false → SlV h' p n 1 (okL h' [.int lo hi]))) := by
 refine JCall_of_J (N := 10) (sl := [(0, _), (1, _), (2, _)]) isf43 rfl (by show 3 ≤ 10; decide) rfl ?_
 refine Sr (Lo (x_box (z := [.int .i64 lo]) ?_))
 intro i2 h3 w4
 refine Lo (x_box (z := [.int .i64 hi]) ?_)
 intro i5 h6 w7
 have ne8 : i2 ≠ i5 := ne_of_free w7.free w4.own
 refine Lz (w_assign ?_)
 refine Sr (Lo (w_move ?_))
 refine Lo (w_makeFunc ?_)
 have l0_2_9 : Le h h6 := w4.le.trans w7.le
 have o10 : Own h6 i2 [.int .i64 lo] := (w4.own.le w7.le)
 refine Lo (w_call' isf78 ?_ (hR := by exact c78 (N := okL h [.int lo hi]) (sp.le l0_2_9) (by omega) (fun h1 l hle hE hl => by obtain ⟨_, _, rfl, ⟨n, rfl, _, _⟩, rfl⟩ := hE; exact JApp_fn isf79 ((c79 (o10.le hle) (w7.own.le hle)).mono fun e h2 ⟨b, k1, k2, k3⟩ => ⟨b, k1, k2, fun q => ⟨_, _, rfl, ⟨_, rfl, k3 q⟩, rfl⟩⟩))))
 rintro e11 h12 ⟨b13, rfl, le14, k15⟩
 refine Lz (w_assign ?_)
 refine Rt ?_
 refine leave_ret rfl ?_
 have l0_3_16 : Le h h12 := l0_2_9.trans le14
 exact ⟨_, rfl, l0_3_16, (fun q => SlV.leT (k15 q) le14)⟩
theorem c42 {h : AH}  {xs : ByteArray} {xa : Int} {xb : Int} {xc : Int} {xd : Bool} {a : Nat} {ys : ByteArray} {ya : Int} {yb : Int} {yc : Int} {yd : Bool} (hxs : xs.size ≤ 1048576) (hys : ys.size ≤ 1048576) (oa : Own h a [.str ys, .int .i64 ya, .int .i64 yb, .int .i64 yc, .bool yd]) : JCall Tryz.prog 42 [.agg [.str xs, .int .i64 xa, .int .i64 xb, .int .i64 xc, .bool xd], .ptr (some (a, 0))] h (fun e h' => ∃ (r : Bool), e = .ret (.bool r) ∧ Le h h') := by
 refine JCall_of_J (N := 9) (sl := [(0, _), (1, _)]) isf42 rfl (by show 2 ≤ 9; decide) rfl ?_
 refine Sr (Lo (x_box (z := [.str xs, .int .i64 xa, .int .i64 xb, .int .i64 xc, .bool xd]) ?_))
 intro i1 h2 w3
 have ne4 : a ≠ i1 := ne_of_free w3.free oa
 refine Lz (w_assign ?_)
 refine Sr (Lo (w_fieldAddr tF70_0 tZ9 ?_))
 refine Lo (w_ldC tC9 w3.own.cells ?_)
 refine Lo (w_fieldAddr tF70_0 tZ9 ?_)
 have o5 : Own h2 a [.str ys, .int .i64 ya, .int .i64 yb, .int .i64 yc, .bool yd] := (oa.le w3.le)
 refine Lo (w_ldC tC9 o5.cells ?_)
 refine Lo (x_seq ?_)
 intro b6
 refine Lz (w_assign ?_)
 refine Rt ?_
 refine leave_ret rfl ?_
 exact ⟨_, rfl, w3.le⟩
theorem c45 {h : AH}  {xs : ByteArray} {xa : Int} {a : Nat} {ys : ByteArray} {ya : Int} (hxs : xs.size ≤ 1048576) (hys : ys.size ≤ 1048576) (oa : Own h a [.str ys, .int .i64 ya]) : JCall Tryz.prog 45 [.agg [.str xs, .int .i64 xa], .ptr (some (a, 0))] h (fun e h' => ∃ (r : Bool), e = .ret (.bool r) ∧ Le h h') := by
 refine JCall_of_J (N := 9) (sl := [(0, _), (1, _)]) isf45 rfl (by show 2 ≤ 9; decide) rfl ?_
 refine Sr (Lo (x_box (z := [.str xs, .int .i64 xa]) ?_))
 intro i1 h2 w3
 have ne4 : a ≠ i1 := ne_of_free w3.free oa
 refine Lz (w_assign ?_)
 refine Sr (Lo (w_fieldAddr tF76_0 tZ9 ?_))
 refine Lo (w_ldC tC9 w3.own.cells ?_)
 refine Lo (w_fieldAddr tF76_0 tZ9 ?_)
 have o5 : Own h2 a [.str ys, .int .i64 ya] := (oa.le w3.le)
 refine Lo (w_ldC tC9 o5.cells ?_)
 refine Lo (x_seq ?_)
 intro b6
 refine Lz (w_assign ?_)
 refine Rt ?_
 refine leave_ret rfl ?_
 exact ⟨_, rfl, w3.le⟩
theorem c7 {h : AH}  {bp : Option (Nat × Nat)} {bn : Nat} {cbp : Nat} {rp : Option (Nat × Nat)} {rn : Nat} {crp : Nat} {ep : Option (Nat × Nat)} {en : Nat} {cep : Nat} {qp : Option (Nat × Nat)} {qn : Nat} {cqp : Nat} (sbp : SlV h bp bn 5 (okL h [.str, .i, .i, .i, .bool])) (mbp : bn ≤ 1048576) (xbp : bn ≤ cbp) (srp : SlV h rp rn 2 (okL h [.str, .i])) (mrp : rn ≤ 1048576) (xrp : rn ≤ crp) (sep : SlV h ep en 2 (okL h [.i, .bool])) (mep : en ≤ 1048576) (xep : en ≤ cep) (sqp : SlV h qp qn 4 (okL h [.i, .i, .i, .i])) (mqp : qn ≤ 1048576) (xqp : qn ≤ cqp) : JCall Tryz.prog 7 [.agg [.slice bp bn (.exact cbp), .slice rp rn (.exact crp), .slice ep en (.exact cep), .slice qp qn (.exact cqp)]] h (fun e h' => ∃ (part : Int) (at_ : Int) (er : Int), e = .ret (.tuple [.int .i64 part, .int .i64 at_, .int .i64 er]) ∧ ((-9223372036854775808) ≤ part ∧ part ≤ 9223372036854775807) ∧ ((-9223372036854775808) ≤ at_ ∧ at_ ≤ 9223372036854775807) ∧ ((-9223372036854775808) ≤ er ∧ er ≤ 9223372036854775807) ∧ Le h h' ∧ (er = 0 → (bn ≤ 8 ∧ SlV h' bp bn 5 (okL h [.str, .int 0 5, .int 0 1000, .int 0 1000, .bool])) ∧ (rn ≤ 8 ∧ SlV h' rp rn 2 (okL h [.str, .int 0 5])) ∧ (en ≤ 6 ∧ SlV h' ep en 2 (okL h [.int 0 100, .bool])) ∧ (qn ≤ 8 ∧ SlV h' qp qn 4 (okL h [.int 0 ((rn : Int) - 1), .int 0 ((bn : Int) - 1), .int 1 12, .int 0 100])))) := by
 refine JCall_of_J (N := 161) (sl := [(0, _)]) isf7 rfl (by show 1 ≤ 161; decide) rfl ?_
 refine Sr (Lo (x_box (z := [.slice bp bn (.exact cbp), .slice rp rn (.exact crp), .slice ep en (.exact cep), .slice qp qn (.exact cqp)]) ?_))
 intro i5 h6 w7
 refine Lo (w_assign ?_)
 refine Lo (w_assign ?_)
 refine Lz (w_assign ?_)
 refine Sq (Sr ?_)
 refine Lo (w_fieldAddr tF27_0 tZ22 ?_)
 refine Lo (w_ldC tC22 w7.own.cells ?_)
 refine Lo (w_len tS22 ?_)
 refine Lz (w_gt ?_)
 refine Cn (fun q8 => ?_) (fun q8 => ?_)
 · refine Sr (Lo (w_assign ?_))
   refine Lo (w_assign ?_)
   refine Lz (w_assign ?_)
   refine Rt ?_
   refine then_r ?_
   refine leave_ret rfl ?_
   exact ⟨_, _, _, rfl, (by omega), (by omega), (by omega), w7.le, (fun q => absurd q (by decide))⟩
 · refine Sk ?_
   refine Sq (Sr ?_)
   refine Lo (w_fieldAddr tF27_0 tZ22 ?_)
   refine Lo (w_ldC tC22 w7.own.cells ?_)
   refine Lo (w_len tS22 ?_)
   refine Lz (w_move ?_)
   refine Bk ?_
   refine J_for2 (x := C7 [0, 0, 1, 0, 1, 1]) (fun (x20_9 : Int) (h10 : AH) => ⟨[(1, .ptr (some (i5, 0))), (18, .slice bp bn (.exact cbp)), (19, .int .i64 ((bn : Nat) : Int)), (20, .int .i64 x20_9)], h10, 161, []⟩) (fun (x20_9 : Int) (h10 : AH) => 0 ≤ x20_9 ∧ x20_9 ≤ bn ∧ Le h6 h10 ∧ SlV h10 bp x20_9.toNat 5 (okL h [.str, .int 0 5, .int 0 1000, .int 0 1000, .bool])) (fun (x20_9 : Int) (h10 : AH) => (((bn : Nat) : Int) - x20_9).toNat) 0 h6 rfl ⟨rfl, rfl, rfl, rfl, rfl, rfl, rfl, trivial⟩ ⟨(by omega), (by omega), .refl _, (SlV.zero)⟩ ?_
   intro x20_9 h10 hI
   obtain ⟨hxx20_9, iv13, le11, iv12⟩ : 0 ≤ x20_9 ∧ x20_9 ≤ bn ∧ Le h6 h10 ∧ SlV h10 bp x20_9.toNat 5 (okL h [.str, .int 0 5, .int 0 1000, .int 0 1000, .bool]) := hI
   show J _ _ (C7 [0, 0, 1, 0, 1, 1]) ⟨[(1, .ptr (some (i5, 0))), (18, .slice bp bn (.exact cbp)), (19, .int .i64 ((bn : Nat) : Int)), (20, .int .i64 x20_9)], h10, 161, []⟩ _
   refine Sr (Lz (w_lt ?_))
   refine Sq ?_
   refine Cn (fun q14 => ?_) (fun q14 => ?_)
   · refine Sk ?_
     refine Sq (Bk ?_)
     refine Sr (Lo (w_move ?_))
     have l0_2_15 : Le h h10 := w7.le.trans le11
     obtain ⟨i23, o24, cs22, l21, rfl, hc16, hl17, hk18, hE19, ht20⟩ := (sbp.le l0_2_15).at (i := x20_9) (by omega) (by omega)
     obtain ⟨_, _, rfl, ⟨s25, rfl, hs25⟩, _, _, rfl, ⟨n26, rfl, lon26, hin26⟩, _, _, rfl, ⟨n27, rfl, lon27, hin27⟩, _, _, rfl, ⟨n28, rfl, lon28, hin28⟩, _, _, rfl, ⟨b29, rfl⟩, rfl⟩ := hE19
     refine Lo (w_indexAddrS tS22 tZ70 ?_)
     refine Lo (w_ldA tA70 hc16 ?_ (hn := hl17) (hl := ht20))
     refine Lo (x_alloc (zc := [.str ByteArray.empty, .int .i64 0, .int .i64 0, .int .i64 0, .bool false]) tN70 ?_)
     intro i30 h31 w32
     have o33 : Own h10 i5 [.slice (some (i23, o24)) bn (.exact cbp), .slice rp rn (.exact crp), .slice ep en (.exact cep), .slice qp qn (.exact cqp)] := (w7.own.le le11)
     have ne34 : i5 ≠ i30 := ne_of_free w32.free o33
     refine Lo (w_assign ?_)
     refine Lz (x_store (vc := [.str s25, .int .i64 n26, .int .i64 n27, .int .i64 n28, .bool b29]) (cs' := [.str s25, .int .i64 n26, .int .i64 n27, .int .i64 n28, .bool b29]) tZ70 w32.own ?_)
     intro h35 bt36 o37
     refine Bk (Sr ?_)
     refine Lo (w_fieldAddr tF70_0 tZ9 ?_)
     refine Lo (w_ldC tC9 o37.cells ?_)
     refine Lo (w_call' isf40 ?_ (hR := by exact c40 (by assumption)))
     rintro e38 h39 ⟨b40, rfl, le41⟩
     refine Lo (w_not ?_)
     refine Lz (w_assign ?_)
     refine Cb (fun q42 => ?_) (fun q42 => ?_)
     · have q43 : b40 = false := by simpa using q42
       subst q43
       refine Sr (Lo (w_move ?_))
       refine Lo (w_assign ?_)
       refine Lo (w_assign ?_)
       refine Lz (w_assign ?_)
       refine Rt ?_
       refine blk_r (blk_r (then_r (then_r (blk_r (then_r ?_)))))
       refine leave_ret rfl ?_
       have l0_3_44 : Le h h31 := l0_2_15.trans w32.le
       have l0_4_45 : Le h h35 := l0_3_44.but bt36 (l0_2_15.free w32.free)
       have l0_5_46 : Le h h39 := l0_4_45.trans le41
       exact ⟨_, _, _, rfl, (by omega), (by omega), (by omega), l0_5_46, (fun q => absurd q (by decide))⟩
     · have q47 : b40 = true := by simpa using q42
       subst q47
       refine Sr (Lo (w_fieldAddr tF27_0 tZ22 ?_))
       have o48 : Own h39 i5 [.slice (some (i23, o24)) bn (.exact cbp), .slice rp rn (.exact crp), .slice ep en (.exact cep), .slice qp qn (.exact cqp)] := (((o33.le w32.le).but bt36 ne34).le le41)
       refine Lo (w_ldC tC22 o48.cells ?_)
       refine Lo (w_move ?_)
       refine Lo (w_sliceX (l := 0) (hi := x20_9.toNat) (m := cbp) tS22 tZ70 ?_ (p2 := by simp <;> omega) (hnm := by exact fun h => by simp at h))
       have l0_3_49 : Le h h31 := l0_2_15.trans w32.le
       have l0_4_50 : Le h h35 := l0_3_49.but bt36 (l0_2_15.free w32.free)
       have l0_5_51 : Le h h39 := l0_4_50.trans le41
       have sv52 : SlV h39 _ (x20_9.toNat - 0) 5 (okL h [.str, .i, .i, .i, .bool]) := (sbp.le l0_5_51).slice (m := cbp) (Nat.zero_le (x20_9.toNat)) (by omega : x20_9.toNat ≤ bn) (by omega)
       generalize (if cbp = 0 then (some (i23, o24)) else Option.map (fun q : Nat × Nat => (q.1, q.2 + 0 * 5)) (some (i23, o24))) = p54 at sv52 ⊢
       refine Lo (w_makeFunc ?_)
       have o55 : Own h39 i30 [.str s25, .int .i64 n26, .int .i64 n27, .int .i64 n28, .bool b29] := (o37.le le41)
       refine Lo (w_call' isf41 ?_ (hR := by exact c41 (N := (fun _ => True)) sv52 (by omega) (fun h1 l hle hE hl => by obtain ⟨_, _, rfl, ⟨s56, rfl, hs56⟩, _, _, rfl, ⟨n57, rfl, lon57, hin57⟩, _, _, rfl, ⟨n58, rfl, lon58, hin58⟩, _, _, rfl, ⟨n59, rfl, lon59, hin59⟩, _, _, rfl, ⟨b60, rfl⟩, rfl⟩ := hE; exact JApp_fn isf42 ((c42 (by assumption) (by assumption) (o55.le hle)).mono fun e h2 ⟨b, k1, k2⟩ => ⟨b, k1, k2, fun _ => trivial⟩))))
       rintro e61 h62 ⟨b63, rfl, le64, k65⟩
       refine Lz (w_assign ?_)
       refine Cb (fun q66 => ?_) (fun q66 => ?_)
       · subst q66
         refine Sr (Lo (w_move ?_))
         refine Lo (w_assign ?_)
         refine Lo (w_assign ?_)
         refine Lz (w_assign ?_)
         refine Rt ?_
         refine blk_r (blk_r (then_r (then_r (blk_r (then_r ?_)))))
         refine leave_ret rfl ?_
         have l0_6_67 : Le h h62 := l0_5_51.trans le64
         exact ⟨_, _, _, rfl, (by omega), (by omega), (by omega), l0_6_67, (fun q => absurd q (by decide))⟩
       · subst q66
         refine Sr (Lo (w_fieldAddr tF70_1 tZ3 ?_))
         have o68 : Own h62 i30 [.str s25, .int .i64 n26, .int .i64 n27, .int .i64 n28, .bool b29] := (o55.le le64)
         refine Lo (w_ldC tC3 o68.cells ?_)
         refine Lo (x_buildSlice (out := [.int .i64 n26]) tS28 tZ3 tN3 ?_)
         intro i69 h70 w71
         have o72 : Own h62 i5 [.slice (some (i23, o24)) bn (.exact cbp), .slice rp rn (.exact crp), .slice ep en (.exact cep), .slice qp qn (.exact cqp)] := (o48.le le64)
         have ne73 : i5 ≠ i69 := ne_of_free w71.free o72
         have ne74 : i30 ≠ i69 := ne_of_free w71.free o68
         refine Lo (w_call' isf43 ?_ (hR := by exact c43 (w71.own.sl1 rfl (by simp only [List.mem_cons, List.not_mem_nil, or_false, forall_eq_or_imp, forall_eq, okL, okV]; exact ⟨_, _, rfl, ⟨_, rfl, by omega, by omega⟩, rfl⟩)) (by omega)))
         rintro e75 h76 ⟨b77, rfl, le78, k79⟩
         refine Lo (w_move ?_)
         refine k_splitB (d := 44) rfl (fun q80 => ?_) (fun q80 => ?_)
         · subst q80
           refine Ws ?_
           refine Ws ?_
           refine Ws ?_
           refine Ws ?_
           refine Ws ?_
           refine Ws ?_
           refine Ws ?_
           refine Ws ?_
           refine Lo (w_pick_t ?_)
           refine Lz (w_assign ?_)
           refine Ct ?_
           refine Sr (Lo (w_move ?_))
           refine Lo (w_assign ?_)
           refine Lo (w_assign ?_)
           refine Lz (w_assign ?_)
           refine Rt ?_
           refine blk_r (blk_r (then_r (then_r (blk_r (then_r ?_)))))
           refine leave_ret rfl ?_
           have l0_6_81 : Le h h62 := l0_5_51.trans le64
           have l0_7_82 : Le h h70 := l0_6_81.trans w71.le
           have l0_8_83 : Le h h76 := l0_7_82.trans le78
           exact ⟨_, _, _, rfl, (by omega), (by omega), (by omega), l0_8_83, (fun q => absurd q (by decide))⟩
         · subst q80
           have o84 : Own h76 i69 [.int .i64 n26] := (w71.own.le le78)
           have sv85 := SlV.le (k79 rfl) (Le.refl _)
           have r86 := okL1_int (sv85.ofOwn o84 (k := 0) (by decide) rfl)
           refine Gl (w_fieldAddr tF70_2 tZ68 ?_)
           refine Gl (w_fieldAddr tF68_0 tZ3 ?_)
           have o87 : Own h76 i30 [.str s25, .int .i64 n26, .int .i64 n27, .int .i64 n28, .bool b29] := ((o68.le w71.le).le le78)
           refine Gl (w_ldC tC3 o87.cells ?_)
           refine Gl (w_fieldAddr tF70_2 tZ68 ?_)
           refine Gl (w_fieldAddr tF68_1 tZ3 ?_)
           refine Gl (w_ldC tC3 o87.cells ?_)
           refine Gl (x_buildSlice (out := [.int .i64 n27, .int .i64 n28]) tS28 tZ3 tN3 ?_)
           intro i88 h89 w90
           have o91 : Own h76 i5 [.slice (some (i23, o24)) bn (.exact cbp), .slice rp rn (.exact crp), .slice ep en (.exact cep), .slice qp qn (.exact cqp)] := ((o72.le w71.le).le le78)
           have ne92 : i5 ≠ i88 := ne_of_free w90.free o91
           have ne93 : i30 ≠ i88 := ne_of_free w90.free o87
           have ne94 : i69 ≠ i88 := ne_of_free w90.free o84
           refine Gl (w_call' isf43 ?_ (hR := by exact c43 (w90.own.sl1 rfl (by simp only [List.mem_cons, List.not_mem_nil, or_false, forall_eq_or_imp, forall_eq, okL, okV]; exact ⟨⟨_, _, rfl, ⟨_, rfl, by omega, by omega⟩, rfl⟩, ⟨_, _, rfl, ⟨_, rfl, by omega, by omega⟩, rfl⟩⟩)) (by omega)))
           rintro e95 h96 ⟨b97, rfl, le98, k99⟩
           refine Lo (w_pick_f ?_)
           refine Lz (w_assign ?_)
           refine Cb (fun q100 => ?_) (fun q100 => ?_)
           · subst q100
             refine Sr (Lo (w_move ?_))
             refine Lo (w_assign ?_)
             refine Lo (w_assign ?_)
             refine Lz (w_assign ?_)
             refine Rt ?_
             refine blk_r (blk_r (then_r (then_r (blk_r (then_r ?_)))))
             refine leave_ret rfl ?_
             have l0_6_101 : Le h h62 := l0_5_51.trans le64
             have l0_7_102 : Le h h70 := l0_6_101.trans w71.le
             have l0_8_103 : Le h h76 := l0_7_102.trans le78
             have l0_9_104 : Le h h89 := l0_8_103.trans w90.le
             have l0_10_105 : Le h h96 := l0_9_104.trans le98
             exact ⟨_, _, _, rfl, (by omega), (by omega), (by omega), l0_10_105, (fun q => absurd q (by decide))⟩
           · subst q100
             have o106 : Own h96 i88 [.int .i64 n27, .int .i64 n28] := (w90.own.le le98)
             have sv107 := SlV.le (k99 rfl) (Le.refl _)
             have r108 := okL1_int (sv107.ofOwn o106 (k := 0) (by decide) rfl)
             have r109 := okL1_int (sv107.ofOwn o106 (k := 1) (by decide) rfl)
             refine Sr (Lo (w_fieldAddr tF70_2 tZ68 ?_))
             refine Lo (w_fieldAddr tF68_0 tZ3 ?_)
             have o110 : Own h96 i30 [.str s25, .int .i64 n26, .int .i64 n27, .int .i64 n28, .bool b29] := ((o87.le w90.le).le le98)
             refine Lo (w_ldC tC3 o110.cells ?_)
             refine Lo (w_fieldAddr tF70_2 tZ68 ?_)
             refine Lo (w_fieldAddr tF68_1 tZ3 ?_)
             refine Lo (w_ldC tC3 o110.cells ?_)
             refine Lo (w_gt ?_)
             refine Lz (w_assign ?_)
             refine Cn (fun q111 => ?_) (fun q111 => ?_)
             · refine Sr (Lo (w_move ?_))
               refine Lo (w_assign ?_)
               refine Lo (w_assign ?_)
               refine Lz (w_assign ?_)
               refine Rt ?_
               refine blk_r (blk_r (then_r (then_r (blk_r (then_r ?_)))))
               refine leave_ret rfl ?_
               have l0_6_112 : Le h h62 := l0_5_51.trans le64
               have l0_7_113 : Le h h70 := l0_6_112.trans w71.le
               have l0_8_114 : Le h h76 := l0_7_113.trans le78
               have l0_9_115 : Le h h89 := l0_8_114.trans w90.le
               have l0_10_116 : Le h h96 := l0_9_115.trans le98
               exact ⟨_, _, _, rfl, (by omega), (by omega), (by omega), l0_10_116, (fun q => absurd q (by decide))⟩
             · refine Sk ?_
               refine Rg (Lo (w_add ?_))
               refine Lz (w_move ?_)
               have l1_3_117 : Le h6 h31 := le11.trans w32.le
               have l1_4_118 : Le h6 h35 := l1_3_117.but bt36 (le11.free w32.free)
               have l1_5_119 : Le h6 h39 := l1_4_118.trans le41
               have l1_6_120 : Le h6 h62 := l1_5_119.trans le64
               have l1_7_121 : Le h6 h70 := l1_6_120.trans w71.le
               have l1_8_122 : Le h6 h76 := l1_7_121.trans le78
               have l1_9_123 : Le h6 h89 := l1_8_122.trans w90.le
               have l1_10_124 : Le h6 h96 := l1_9_123.trans le98
               have l2_4_125 : Le h10 h35 := w32.le.but bt36 w32.free
               have l2_5_126 : Le h10 h39 := l2_4_125.trans le41
               have l2_6_127 : Le h10 h62 := l2_5_126.trans le64
               have l2_7_128 : Le h10 h70 := l2_6_127.trans w71.le
               have l2_8_129 : Le h10 h76 := l2_7_128.trans le78
               have l2_9_130 : Le h10 h89 := l2_8_129.trans w90.le
               have l2_10_131 : Le h10 h96 := l2_9_130.trans le98
               exact ⟨(x20_9 + 1), h96, ⟨⟨(by omega), (by omega), l1_10_124, ((SlV.snoc (n := bn) (sbp.le l0_2_15) (iv12.le (Le.refl _)) (by omega) (by omega) rfl hc16 rfl ⟨_, _, rfl, ⟨_, rfl, by assumption⟩, _, _, rfl, ⟨_, rfl, by omega, by omega⟩, _, _, rfl, ⟨_, rfl, by omega, by omega⟩, _, _, rfl, ⟨_, rfl, by omega, by omega⟩, _, _, rfl, ⟨_, rfl⟩, rfl⟩ ht20).le l2_10_131)⟩, by omega⟩, rfl, rfl, rfl, rfl, rfl, rfl, rfl, trivial⟩
   · refine Ex ?_
     refine then_x (then_x (blk_eq rfl ?_))
     refine Sq (Sr ?_)
     refine Lo (w_fieldAddr tF27_1 tZ23 ?_)
     have o132 : Own h10 i5 [.slice bp bn (.exact cbp), .slice rp rn (.exact crp), .slice ep en (.exact cep), .slice qp qn (.exact cqp)] := (w7.own.le le11)
     refine Lo (w_ldC tC23 o132.cells ?_)
     refine Lo (w_len tS23 ?_)
     refine Lz (w_gt ?_)
     refine Cn (fun q133 => ?_) (fun q133 => ?_)
     · refine Sr (Lo (w_assign ?_))
       refine Lo (w_assign ?_)
       refine Lz (w_assign ?_)
       refine Rt ?_
       refine then_r ?_
       refine leave_ret rfl ?_
       have l0_2_134 : Le h h10 := w7.le.trans le11
       exact ⟨_, _, _, rfl, (by omega), (by omega), (by omega), l0_2_134, (fun q => absurd q (by decide))⟩
     · refine Sk ?_
       refine Sq (Sr ?_)
       refine Lo (w_fieldAddr tF27_1 tZ23 ?_)
       refine Lo (w_ldC tC23 o132.cells ?_)
       refine Lo (w_len tS23 ?_)
       refine Lz (w_move ?_)
       refine Bk ?_
       refine J_for2 (x := C7 [0, 0, 1, 0, 1, 1, 1, 1]) (fun (x72_135 : Int) (h136 : AH) => ⟨[(1, .ptr (some (i5, 0))), (70, .slice rp rn (.exact crp)), (71, .int .i64 ((rn : Nat) : Int)), (72, .int .i64 x72_135)], h136, 161, []⟩) (fun (x72_135 : Int) (h136 : AH) => 0 ≤ x72_135 ∧ x72_135 ≤ rn ∧ Le h10 h136 ∧ SlV h136 rp x72_135.toNat 2 (okL h [.str, .int 0 5])) (fun (x72_135 : Int) (h136 : AH) => (((rn : Nat) : Int) - x72_135).toNat) 0 h10 rfl ⟨rfl, rfl, rfl, rfl, rfl, rfl, rfl, trivial⟩ ⟨(by omega), (by omega), .refl _, (SlV.zero)⟩ ?_
       intro x72_135 h136 hI
       obtain ⟨hxx72_135, iv139, le137, iv138⟩ : 0 ≤ x72_135 ∧ x72_135 ≤ rn ∧ Le h10 h136 ∧ SlV h136 rp x72_135.toNat 2 (okL h [.str, .int 0 5]) := hI
       show J _ _ (C7 [0, 0, 1, 0, 1, 1, 1, 1]) ⟨[(1, .ptr (some (i5, 0))), (70, .slice rp rn (.exact crp)), (71, .int .i64 ((rn : Nat) : Int)), (72, .int .i64 x72_135)], h136, 161, []⟩ _
       refine Sr (Lz (w_lt ?_))
       refine Sq ?_
       refine Cn (fun q140 => ?_) (fun q140 => ?_)
       · refine Sk ?_
         refine Sq (Bk ?_)
         refine Sr (Lo (w_move ?_))
         have l0_2_141 : Le h h10 := w7.le.trans le11
         have l0_3_142 : Le h h136 := l0_2_141.trans le137
         obtain ⟨i150, o151, cs149, l148, rfl, hc143, hl144, hk145, hE146, ht147⟩ := (srp.le l0_3_142).at (i := x72_135) (by omega) (by omega)
         obtain ⟨_, _, rfl, ⟨s152, rfl, hs152⟩, _, _, rfl, ⟨n153, rfl, lon153, hin153⟩, rfl⟩ := hE146
         refine Lo (w_indexAddrS tS23 tZ76 ?_)
         refine Lo (w_ldA tA76 hc143 ?_ (hn := hl144) (hl := ht147))
         refine Lo (x_alloc (zc := [.str ByteArray.empty, .int .i64 0]) tN76 ?_)
         intro i154 h155 w156
         have o157 : Own h136 i5 [.slice bp bn (.exact cbp), .slice (some (i150, o151)) rn (.exact crp), .slice ep en (.exact cep), .slice qp qn (.exact cqp)] := (o132.le le137)
         have ne158 : i5 ≠ i154 := ne_of_free w156.free o157
         refine Lo (w_assign ?_)
         refine Lz (x_store (vc := [.str s152, .int .i64 n153]) (cs' := [.str s152, .int .i64 n153]) tZ76 w156.own ?_)
         intro h159 bt160 o161
         refine Bk (Sr ?_)
         refine Lo (w_fieldAddr tF76_0 tZ9 ?_)
         refine Lo (w_ldC tC9 o161.cells ?_)
         refine Lo (w_call' isf40 ?_ (hR := by exact c40 (by assumption)))
         rintro e162 h163 ⟨b164, rfl, le165⟩
         refine Lo (w_not ?_)
         refine Lz (w_assign ?_)
         refine Cb (fun q166 => ?_) (fun q166 => ?_)
         · have q167 : b164 = false := by simpa using q166
           subst q167
           refine Sr (Lo (w_move ?_))
           refine Lo (w_assign ?_)
           refine Lo (w_assign ?_)
           refine Lz (w_assign ?_)
           refine Rt ?_
           refine blk_r (blk_r (then_r (then_r (blk_r (then_r ?_)))))
           refine leave_ret rfl ?_
           have l0_4_168 : Le h h155 := l0_3_142.trans w156.le
           have l0_5_169 : Le h h159 := l0_4_168.but bt160 (l0_3_142.free w156.free)
           have l0_6_170 : Le h h163 := l0_5_169.trans le165
           exact ⟨_, _, _, rfl, (by omega), (by omega), (by omega), l0_6_170, (fun q => absurd q (by decide))⟩
         · have q171 : b164 = true := by simpa using q166
           subst q171
           refine Sr (Lo (w_fieldAddr tF27_1 tZ23 ?_))
           have o172 : Own h163 i5 [.slice bp bn (.exact cbp), .slice (some (i150, o151)) rn (.exact crp), .slice ep en (.exact cep), .slice qp qn (.exact cqp)] := (((o157.le w156.le).but bt160 ne158).le le165)
           refine Lo (w_ldC tC23 o172.cells ?_)
           refine Lo (w_move ?_)
           refine Lo (w_sliceX (l := 0) (hi := x72_135.toNat) (m := crp) tS23 tZ76 ?_ (p2 := by simp <;> omega) (hnm := by exact fun h => by simp at h))
           have l0_4_173 : Le h h155 := l0_3_142.trans w156.le
           have l0_5_174 : Le h h159 := l0_4_173.but bt160 (l0_3_142.free w156.free)
           have l0_6_175 : Le h h163 := l0_5_174.trans le165
           have sv176 : SlV h163 _ (x72_135.toNat - 0) 2 (okL h [.str, .i]) := (srp.le l0_6_175).slice (m := crp) (Nat.zero_le (x72_135.toNat)) (by omega : x72_135.toNat ≤ rn) (by omega)
           generalize (if crp = 0 then (some (i150, o151)) else Option.map (fun q : Nat × Nat => (q.1, q.2 + 0 * 2)) (some (i150, o151))) = p178 at sv176 ⊢
           refine Lo (w_makeFunc ?_)
           have o179 : Own h163 i154 [.str s152, .int .i64 n153] := (o161.le le165)
           refine Lo (w_call' isf44 ?_ (hR := by exact c44 (N := (fun _ => True)) sv176 (by omega) (fun h1 l hle hE hl => by obtain ⟨_, _, rfl, ⟨s180, rfl, hs180⟩, _, _, rfl, ⟨n181, rfl, lon181, hin181⟩, rfl⟩ := hE; exact JApp_fn isf45 ((c45 (by assumption) (by assumption) (o179.le hle)).mono fun e h2 ⟨b, k1, k2⟩ => ⟨b, k1, k2, fun _ => trivial⟩))))
           rintro e182 h183 ⟨b184, rfl, le185, k186⟩
           refine Lz (w_assign ?_)
           refine Cb (fun q187 => ?_) (fun q187 => ?_)
           · subst q187
             refine Sr (Lo (w_move ?_))
             refine Lo (w_assign ?_)
             refine Lo (w_assign ?_)
             refine Lz (w_assign ?_)
             refine Rt ?_
             refine blk_r (blk_r (then_r (then_r (blk_r (then_r ?_)))))
             refine leave_ret rfl ?_
             have l0_7_188 : Le h h183 := l0_6_175.trans le185
             exact ⟨_, _, _, rfl, (by omega), (by omega), (by omega), l0_7_188, (fun q => absurd q (by decide))⟩
           · subst q187
             refine Sr (Lo (w_fieldAddr tF76_1 tZ3 ?_))
             have o189 : Own h183 i154 [.str s152, .int .i64 n153] := (o179.le le185)
             refine Lo (w_ldC tC3 o189.cells ?_)
             refine Lo (x_buildSlice (out := [.int .i64 n153]) tS28 tZ3 tN3 ?_)
             intro i190 h191 w192
             have o193 : Own h183 i5 [.slice bp bn (.exact cbp), .slice (some (i150, o151)) rn (.exact crp), .slice ep en (.exact cep), .slice qp qn (.exact cqp)] := (o172.le le185)
             have ne194 : i5 ≠ i190 := ne_of_free w192.free o193
             have ne195 : i154 ≠ i190 := ne_of_free w192.free o189
             refine Lo (w_call' isf43 ?_ (hR := by exact c43 (w192.own.sl1 rfl (by simp only [List.mem_cons, List.not_mem_nil, or_false, forall_eq_or_imp, forall_eq, okL, okV]; exact ⟨_, _, rfl, ⟨_, rfl, by omega, by omega⟩, rfl⟩)) (by omega)))
             rintro e196 h197 ⟨b198, rfl, le199, k200⟩
             refine Lz (w_assign ?_)
             refine Cb (fun q201 => ?_) (fun q201 => ?_)
             · subst q201
               refine Sr (Lo (w_move ?_))
               refine Lo (w_assign ?_)
               refine Lo (w_assign ?_)
               refine Lz (w_assign ?_)
               refine Rt ?_
               refine blk_r (blk_r (then_r (then_r (blk_r (then_r ?_)))))
               refine leave_ret rfl ?_
               have l0_7_202 : Le h h183 := l0_6_175.trans le185
               have l0_8_203 : Le h h191 := l0_7_202.trans w192.le
               have l0_9_204 : Le h h197 := l0_8_203.trans le199
               exact ⟨_, _, _, rfl, (by omega), (by omega), (by omega), l0_9_204, (fun q => absurd q (by decide))⟩
             · subst q201
               have o205 : Own h197 i190 [.int .i64 n153] := (w192.own.le le199)
               have sv206 := SlV.le (k200 rfl) (Le.refl _)
               have r207 := okL1_int (sv206.ofOwn o205 (k := 0) (by decide) rfl)
               refine Sk ?_
               refine Rg (Lo (w_add ?_))
               refine Lz (w_move ?_)
               have l2_4_208 : Le h10 h155 := le137.trans w156.le
               have l2_5_209 : Le h10 h159 := l2_4_208.but bt160 (le137.free w156.free)
               have l2_6_210 : Le h10 h163 := l2_5_209.trans le165
               have l2_7_211 : Le h10 h183 := l2_6_210.trans le185
               have l2_8_212 : Le h10 h191 := l2_7_211.trans w192.le
               have l2_9_213 : Le h10 h197 := l2_8_212.trans le199
               have l3_5_214 : Le h136 h159 := w156.le.but bt160 w156.free
               have l3_6_215 : Le h136 h163 := l3_5_214.trans le165
               have l3_7_216 : Le h136 h183 := l3_6_215.trans le185
               have l3_8_217 : Le h136 h191 := l3_7_216.trans w192.le
               have l3_9_218 : Le h136 h197 := l3_8_217.trans le199
               exact ⟨(x72_135 + 1), h197, ⟨⟨(by omega), (by omega), l2_9_213, ((SlV.snoc (n := rn) (srp.le l0_3_142) (iv138.le (Le.refl _)) (by omega) (by omega) rfl hc143 rfl ⟨_, _, rfl, ⟨_, rfl, by assumption⟩, _, _, rfl, ⟨_, rfl, by omega, by omega⟩, rfl⟩ ht147).le l3_9_218)⟩, by omega⟩, rfl, rfl, rfl, rfl, rfl, rfl, rfl, trivial⟩
       · refine Ex ?_
         refine then_x (then_x (blk_eq rfl ?_))
         refine Sq (Sr ?_)
         refine Lo (w_fieldAddr tF27_2 tZ24 ?_)
         have o219 : Own h136 i5 [.slice bp bn (.exact cbp), .slice rp rn (.exact crp), .slice ep en (.exact cep), .slice qp qn (.exact cqp)] := (o132.le le137)
         refine Lo (w_ldC tC24 o219.cells ?_)
         refine Lo (w_len tS24 ?_)
         refine Lz (w_gt ?_)
         refine Cn (fun q220 => ?_) (fun q220 => ?_)
         · refine Sr (Lo (w_assign ?_))
           refine Lo (w_assign ?_)
           refine Lz (w_assign ?_)
           refine Rt ?_
           refine then_r ?_
           refine leave_ret rfl ?_
           have l0_2_221 : Le h h10 := w7.le.trans le11
           have l0_3_222 : Le h h136 := l0_2_221.trans le137
           exact ⟨_, _, _, rfl, (by omega), (by omega), (by omega), l0_3_222, (fun q => absurd q (by decide))⟩
         · refine Sk ?_
           refine Sq (Sr ?_)
           refine Lo (w_fieldAddr tF27_2 tZ24 ?_)
           refine Lo (w_ldC tC24 o219.cells ?_)
           refine Lo (w_len tS24 ?_)
           refine Lz (w_move ?_)
           refine Bk ?_
           refine J_for2 (x := C7 [0, 0, 1, 0, 1, 1, 1, 1, 1, 1]) (fun (x105_223 : Int) (h224 : AH) => ⟨[(1, .ptr (some (i5, 0))), (103, .slice ep en (.exact cep)), (104, .int .i64 ((en : Nat) : Int)), (105, .int .i64 x105_223)], h224, 161, []⟩) (fun (x105_223 : Int) (h224 : AH) => 0 ≤ x105_223 ∧ x105_223 ≤ en ∧ Le h136 h224 ∧ SlV h224 ep x105_223.toNat 2 (okL h [.int 0 100, .bool])) (fun (x105_223 : Int) (h224 : AH) => (((en : Nat) : Int) - x105_223).toNat) 0 h136 rfl ⟨rfl, rfl, rfl, rfl, rfl, rfl, rfl, trivial⟩ ⟨(by omega), (by omega), .refl _, (SlV.zero)⟩ ?_
           intro x105_223 h224 hI
           obtain ⟨hxx105_223, iv227, le225, iv226⟩ : 0 ≤ x105_223 ∧ x105_223 ≤ en ∧ Le h136 h224 ∧ SlV h224 ep x105_223.toNat 2 (okL h [.int 0 100, .bool]) := hI
           show J _ _ (C7 [0, 0, 1, 0, 1, 1, 1, 1, 1, 1]) ⟨[(1, .ptr (some (i5, 0))), (103, .slice ep en (.exact cep)), (104, .int .i64 ((en : Nat) : Int)), (105, .int .i64 x105_223)], h224, 161, []⟩ _
           refine Sr (Lz (w_lt ?_))
           refine Sq ?_
           refine Cn (fun q228 => ?_) (fun q228 => ?_)
           · refine Sk ?_
             refine Sq (Bk ?_)
             refine Sr (Lo (w_move ?_))
             have l0_2_229 : Le h h10 := w7.le.trans le11
             have l0_3_230 : Le h h136 := l0_2_229.trans le137
             have l0_4_231 : Le h h224 := l0_3_230.trans le225
             obtain ⟨i239, o240, cs238, l237, rfl, hc232, hl233, hk234, hE235, ht236⟩ := (sep.le l0_4_231).at (i := x105_223) (by omega) (by omega)
             obtain ⟨_, _, rfl, ⟨n241, rfl, lon241, hin241⟩, _, _, rfl, ⟨b242, rfl⟩, rfl⟩ := hE235
             refine Lo (w_indexAddrS tS24 tZ80 ?_)
             refine Lo (w_ldA tA80 hc232 ?_ (hn := hl233) (hl := ht236))
             refine Lo (x_alloc (zc := [.int .i64 0, .bool false]) tN80 ?_)
             intro i243 h244 w245
             have o246 : Own h224 i5 [.slice bp bn (.exact cbp), .slice rp rn (.exact crp), .slice (some (i239, o240)) en (.exact cep), .slice qp qn (.exact cqp)] := (o219.le le225)
             have ne247 : i5 ≠ i243 := ne_of_free w245.free o246
             refine Lo (w_assign ?_)
             refine Lz (x_store (vc := [.int .i64 n241, .bool b242]) (cs' := [.int .i64 n241, .bool b242]) tZ80 w245.own ?_)
             intro h248 bt249 o250
             refine Sr (Lo (w_fieldAddr tF80_0 tZ3 ?_))
             refine Lo (w_ldC tC3 o250.cells ?_)
             refine Lo (x_buildSlice (out := [.int .i64 n241]) tS28 tZ3 tN3 ?_)
             intro i251 h252 w253
             have o254 : Own h248 i5 [.slice bp bn (.exact cbp), .slice rp rn (.exact crp), .slice (some (i239, o240)) en (.exact cep), .slice qp qn (.exact cqp)] := ((o246.le w245.le).but bt249 ne247)
             have ne255 : i5 ≠ i251 := ne_of_free w253.free o254
             have ne256 : i243 ≠ i251 := ne_of_free w253.free o250
             refine Lo (w_call' isf43 ?_ (hR := by exact c43 (w253.own.sl1 rfl (by simp only [List.mem_cons, List.not_mem_nil, or_false, forall_eq_or_imp, forall_eq, okL, okV]; exact ⟨_, _, rfl, ⟨_, rfl, by omega, by omega⟩, rfl⟩)) (by omega)))
             rintro e257 h258 ⟨b259, rfl, le260, k261⟩
             refine Ln ?_
             refine Cb (fun q262 => ?_) (fun q262 => ?_)
             · subst q262
               refine Sr (Lo (w_move ?_))
               refine Lo (w_assign ?_)
               refine Lo (w_assign ?_)
               refine Lz (w_assign ?_)
               refine Rt ?_
               refine blk_r (then_r (then_r (blk_r (then_r ?_))))
               refine leave_ret rfl ?_
               have l0_5_263 : Le h h244 := l0_4_231.trans w245.le
               have l0_6_264 : Le h h248 := l0_5_263.but bt249 (l0_4_231.free w245.free)
               have l0_7_265 : Le h h252 := l0_6_264.trans w253.le
               have l0_8_266 : Le h h258 := l0_7_265.trans le260
               exact ⟨_, _, _, rfl, (by omega), (by omega), (by omega), l0_8_266, (fun q => absurd q (by decide))⟩
             · subst q262
               have o267 : Own h258 i251 [.int .i64 n241] := (w253.own.le le260)
               have sv268 := SlV.le (k261 rfl) (Le.refl _)
               have r269 := okL1_int (sv268.ofOwn o267 (k := 0) (by decide) rfl)
               refine Sk ?_
               refine Rg (Lo (w_add ?_))
               refine Lz (w_move ?_)
               have l3_5_270 : Le h136 h244 := le225.trans w245.le
               have l3_6_271 : Le h136 h248 := l3_5_270.but bt249 (le225.free w245.free)
               have l3_7_272 : Le h136 h252 := l3_6_271.trans w253.le
               have l3_8_273 : Le h136 h258 := l3_7_272.trans le260
               have l4_6_274 : Le h224 h248 := w245.le.but bt249 w245.free
               have l4_7_275 : Le h224 h252 := l4_6_274.trans w253.le
               have l4_8_276 : Le h224 h258 := l4_7_275.trans le260
               exact ⟨(x105_223 + 1), h258, ⟨⟨(by omega), (by omega), l3_8_273, ((SlV.snoc (n := en) (sep.le l0_4_231) (iv226.le (Le.refl _)) (by omega) (by omega) rfl hc232 rfl ⟨_, _, rfl, ⟨_, rfl, by omega, by omega⟩, _, _, rfl, ⟨_, rfl⟩, rfl⟩ ht236).le l4_8_276)⟩, by omega⟩, rfl, rfl, rfl, rfl, rfl, rfl, rfl, trivial⟩
           · refine Ex ?_
             refine then_x (then_x (blk_eq rfl ?_))
             refine Sq (Sr ?_)
             refine Lo (w_fieldAddr tF27_3 tZ25 ?_)
             have o277 : Own h224 i5 [.slice bp bn (.exact cbp), .slice rp rn (.exact crp), .slice ep en (.exact cep), .slice qp qn (.exact cqp)] := (o219.le le225)
             refine Lo (w_ldC tC25 o277.cells ?_)
             refine Lo (w_len tS25 ?_)
             refine Lz (w_gt ?_)
             refine Cn (fun q278 => ?_) (fun q278 => ?_)
             · refine Sr (Lo (w_assign ?_))
               refine Lo (w_assign ?_)
               refine Lz (w_assign ?_)
               refine Rt ?_
               refine then_r ?_
               refine leave_ret rfl ?_
               have l0_2_279 : Le h h10 := w7.le.trans le11
               have l0_3_280 : Le h h136 := l0_2_279.trans le137
               have l0_4_281 : Le h h224 := l0_3_280.trans le225
               exact ⟨_, _, _, rfl, (by omega), (by omega), (by omega), l0_4_281, (fun q => absurd q (by decide))⟩
             · refine Sk ?_
               refine Sq (Sr ?_)
               refine Lo (w_fieldAddr tF27_3 tZ25 ?_)
               refine Lo (w_ldC tC25 o277.cells ?_)
               refine Lo (w_len tS25 ?_)
               refine Lz (w_move ?_)
               refine Bk ?_
               refine J_for2 (x := C7 [0, 0, 1, 0, 1, 1, 1, 1, 1, 1, 1, 1]) (fun (x123_282 : Int) (h283 : AH) => ⟨[(1, .ptr (some (i5, 0))), (121, .slice qp qn (.exact cqp)), (122, .int .i64 ((qn : Nat) : Int)), (123, .int .i64 x123_282)], h283, 161, []⟩) (fun (x123_282 : Int) (h283 : AH) => 0 ≤ x123_282 ∧ x123_282 ≤ qn ∧ Le h224 h283 ∧ SlV h283 qp x123_282.toNat 4 (okL h [.int 0 ((rn : Int) - 1), .int 0 ((bn : Int) - 1), .int 1 12, .int 0 100])) (fun (x123_282 : Int) (h283 : AH) => (((qn : Nat) : Int) - x123_282).toNat) 0 h224 rfl ⟨rfl, rfl, rfl, rfl, rfl, rfl, rfl, trivial⟩ ⟨(by omega), (by omega), .refl _, (SlV.zero)⟩ ?_
               intro x123_282 h283 hI
               obtain ⟨hxx123_282, iv286, le284, iv285⟩ : 0 ≤ x123_282 ∧ x123_282 ≤ qn ∧ Le h224 h283 ∧ SlV h283 qp x123_282.toNat 4 (okL h [.int 0 ((rn : Int) - 1), .int 0 ((bn : Int) - 1), .int 1 12, .int 0 100]) := hI
               show J _ _ (C7 [0, 0, 1, 0, 1, 1, 1, 1, 1, 1, 1, 1]) ⟨[(1, .ptr (some (i5, 0))), (121, .slice qp qn (.exact cqp)), (122, .int .i64 ((qn : Nat) : Int)), (123, .int .i64 x123_282)], h283, 161, []⟩ _
               refine Sr (Lz (w_lt ?_))
               refine Sq ?_
               refine Cn (fun q287 => ?_) (fun q287 => ?_)
               · refine Sk ?_
                 refine Sq (Bk ?_)
                 refine Sr (Lo (w_move ?_))
                 have l0_2_288 : Le h h10 := w7.le.trans le11
                 have l0_3_289 : Le h h136 := l0_2_288.trans le137
                 have l0_4_290 : Le h h224 := l0_3_289.trans le225
                 have l0_5_291 : Le h h283 := l0_4_290.trans le284
                 obtain ⟨i299, o300, cs298, l297, rfl, hc292, hl293, hk294, hE295, ht296⟩ := (sqp.le l0_5_291).at (i := x123_282) (by omega) (by omega)
                 obtain ⟨_, _, rfl, ⟨n301, rfl, lon301, hin301⟩, _, _, rfl, ⟨n302, rfl, lon302, hin302⟩, _, _, rfl, ⟨n303, rfl, lon303, hin303⟩, _, _, rfl, ⟨n304, rfl, lon304, hin304⟩, rfl⟩ := hE295
                 refine Lo (w_indexAddrS tS25 tZ82 ?_)
                 refine Lo (w_ldA tA82 hc292 ?_ (hn := hl293) (hl := ht296))
                 refine Lo (x_alloc (zc := [.int .i64 0, .int .i64 0, .int .i64 0, .int .i64 0]) tN82 ?_)
                 intro i305 h306 w307
                 have o308 : Own h283 i5 [.slice bp bn (.exact cbp), .slice rp rn (.exact crp), .slice ep en (.exact cep), .slice (some (i299, o300)) qn (.exact cqp)] := (o277.le le284)
                 have ne309 : i5 ≠ i305 := ne_of_free w307.free o308
                 refine Lo (w_assign ?_)
                 refine Lz (x_store (vc := [.int .i64 n301, .int .i64 n302, .int .i64 n303, .int .i64 n304]) (cs' := [.int .i64 n301, .int .i64 n302, .int .i64 n303, .int .i64 n304]) tZ82 w307.own ?_)
                 intro h310 bt311 o312
                 refine Bk (Sr ?_)
                 refine Lo (w_fieldAddr tF27_1 tZ23 ?_)
                 have o313 : Own h310 i5 [.slice bp bn (.exact cbp), .slice rp rn (.exact crp), .slice ep en (.exact cep), .slice (some (i299, o300)) qn (.exact cqp)] := ((o308.le w307.le).but bt311 ne309)
                 refine Lo (w_ldC tC23 o313.cells ?_)
                 refine Lo (w_len tS23 ?_)
                 refine Lo (w_sub ?_)
                 refine Lo (w_fieldAddr tF82_0 tZ3 ?_)
                 refine Lo (w_ldC tC3 o312.cells ?_)
                 refine Lo (x_buildSlice (out := [.int .i64 n301]) tS28 tZ3 tN3 ?_)
                 intro i314 h315 w316
                 have ne317 : i5 ≠ i314 := ne_of_free w316.free o313
                 have ne318 : i305 ≠ i314 := ne_of_free w316.free o312
                 refine Lo (w_call' isf43 ?_ (hR := by exact c43 (w316.own.sl1 rfl (by simp only [List.mem_cons, List.not_mem_nil, or_false, forall_eq_or_imp, forall_eq, okL, okV]; exact ⟨_, _, rfl, ⟨_, rfl, by omega, by omega⟩, rfl⟩)) (by omega)))
                 rintro e319 h320 ⟨b321, rfl, le322, k323⟩
                 refine Lo (w_move ?_)
                 refine k_splitB (d := 137) rfl (fun q324 => ?_) (fun q324 => ?_)
                 · subst q324
                   refine Ws ?_
                   refine Ws ?_
                   refine Ws ?_
                   refine Ws ?_
                   refine Ws ?_
                   refine Ws ?_
                   refine Ws ?_
                   refine Ws ?_
                   refine Lo (w_pick_t ?_)
                   refine Lz (w_assign ?_)
                   refine Ct ?_
                   refine Sr (Lo (w_move ?_))
                   refine Lo (w_assign ?_)
                   refine Lo (w_assign ?_)
                   refine Lz (w_assign ?_)
                   refine Rt ?_
                   refine blk_r (blk_r (then_r (then_r (blk_r (then_r ?_)))))
                   refine leave_ret rfl ?_
                   have l0_6_325 : Le h h306 := l0_5_291.trans w307.le
                   have l0_7_326 : Le h h310 := l0_6_325.but bt311 (l0_5_291.free w307.free)
                   have l0_8_327 : Le h h315 := l0_7_326.trans w316.le
                   have l0_9_328 : Le h h320 := l0_8_327.trans le322
                   exact ⟨_, _, _, rfl, (by omega), (by omega), (by omega), l0_9_328, (fun q => absurd q (by decide))⟩
                 · subst q324
                   have o329 : Own h320 i314 [.int .i64 n301] := (w316.own.le le322)
                   have sv330 := SlV.le (k323 rfl) (Le.refl _)
                   have r331 := okL1_int (sv330.ofOwn o329 (k := 0) (by decide) rfl)
                   refine Gl (w_fieldAddr tF27_0 tZ22 ?_)
                   have o332 : Own h320 i5 [.slice bp bn (.exact cbp), .slice rp rn (.exact crp), .slice ep en (.exact cep), .slice (some (i299, o300)) qn (.exact cqp)] := ((o313.le w316.le).le le322)
                   refine Gl (w_ldC tC22 o332.cells ?_)
                   refine Gl (w_len tS22 ?_)
                   refine Gl (w_sub ?_)
                   refine Gl (w_fieldAddr tF82_1 tZ3 ?_)
                   have o333 : Own h320 i305 [.int .i64 n301, .int .i64 n302, .int .i64 n303, .int .i64 n304] := ((o312.le w316.le).le le322)
                   refine Gl (w_ldC tC3 o333.cells ?_)
                   refine Gl (x_buildSlice (out := [.int .i64 n302]) tS28 tZ3 tN3 ?_)
                   intro i334 h335 w336
                   have ne337 : i5 ≠ i334 := ne_of_free w336.free o332
                   have ne338 : i305 ≠ i334 := ne_of_free w336.free o333
                   have ne339 : i314 ≠ i334 := ne_of_free w336.free o329
                   refine Gl (w_call' isf43 ?_ (hR := by exact c43 (w336.own.sl1 rfl (by simp only [List.mem_cons, List.not_mem_nil, or_false, forall_eq_or_imp, forall_eq, okL, okV]; exact ⟨_, _, rfl, ⟨_, rfl, by omega, by omega⟩, rfl⟩)) (by omega)))
                   rintro e340 h341 ⟨b342, rfl, le343, k344⟩
                   refine Lo (w_pick_f ?_)
                   refine Lz (w_assign ?_)
                   refine Cb (fun q345 => ?_) (fun q345 => ?_)
                   · subst q345
                     refine Sr (Lo (w_move ?_))
                     refine Lo (w_assign ?_)
                     refine Lo (w_assign ?_)
                     refine Lz (w_assign ?_)
                     refine Rt ?_
                     refine blk_r (blk_r (then_r (then_r (blk_r (then_r ?_)))))
                     refine leave_ret rfl ?_
                     have l0_6_346 : Le h h306 := l0_5_291.trans w307.le
                     have l0_7_347 : Le h h310 := l0_6_346.but bt311 (l0_5_291.free w307.free)
                     have l0_8_348 : Le h h315 := l0_7_347.trans w316.le
                     have l0_9_349 : Le h h320 := l0_8_348.trans le322
                     have l0_10_350 : Le h h335 := l0_9_349.trans w336.le
                     have l0_11_351 : Le h h341 := l0_10_350.trans le343
                     exact ⟨_, _, _, rfl, (by omega), (by omega), (by omega), l0_11_351, (fun q => absurd q (by decide))⟩
                   · subst q345
                     have o352 : Own h341 i334 [.int .i64 n302] := (w336.own.le le343)
                     have sv353 := SlV.le (k344 rfl) (Le.refl _)
                     have r354 := okL1_int (sv353.ofOwn o352 (k := 0) (by decide) rfl)
                     refine Sr (Lo (w_fieldAddr tF82_2 tZ3 ?_))
                     have o355 : Own h341 i305 [.int .i64 n301, .int .i64 n302, .int .i64 n303, .int .i64 n304] := ((o333.le w336.le).le le343)
                     refine Lo (w_ldC tC3 o355.cells ?_)
                     refine Lo (x_buildSlice (out := [.int .i64 n303]) tS28 tZ3 tN3 ?_)
                     intro i356 h357 w358
                     have o359 : Own h341 i5 [.slice bp bn (.exact cbp), .slice rp rn (.exact crp), .slice ep en (.exact cep), .slice (some (i299, o300)) qn (.exact cqp)] := ((o332.le w336.le).le le343)
                     have ne360 : i5 ≠ i356 := ne_of_free w358.free o359
                     have ne361 : i305 ≠ i356 := ne_of_free w358.free o355
                     have o362 : Own h341 i314 [.int .i64 n301] := ((o329.le w336.le).le le343)
                     have ne363 : i314 ≠ i356 := ne_of_free w358.free o362
                     have ne364 : i334 ≠ i356 := ne_of_free w358.free o352
                     refine Lo (w_call' isf43 ?_ (hR := by exact c43 (w358.own.sl1 rfl (by simp only [List.mem_cons, List.not_mem_nil, or_false, forall_eq_or_imp, forall_eq, okL, okV]; exact ⟨_, _, rfl, ⟨_, rfl, by omega, by omega⟩, rfl⟩)) (by omega)))
                     rintro e365 h366 ⟨b367, rfl, le368, k369⟩
                     refine Lo (w_move ?_)
                     refine k_splitB (d := 153) rfl (fun q370 => ?_) (fun q370 => ?_)
                     · subst q370
                       refine Ws ?_
                       refine Ws ?_
                       refine Ws ?_
                       refine Ws ?_
                       refine Lo (w_pick_t ?_)
                       refine Lz (w_assign ?_)
                       refine Ct ?_
                       refine Sr (Lo (w_move ?_))
                       refine Lo (w_assign ?_)
                       refine Lo (w_assign ?_)
                       refine Lz (w_assign ?_)
                       refine Rt ?_
                       refine blk_r (blk_r (then_r (then_r (blk_r (then_r ?_)))))
                       refine leave_ret rfl ?_
                       have l0_6_371 : Le h h306 := l0_5_291.trans w307.le
                       have l0_7_372 : Le h h310 := l0_6_371.but bt311 (l0_5_291.free w307.free)
                       have l0_8_373 : Le h h315 := l0_7_372.trans w316.le
                       have l0_9_374 : Le h h320 := l0_8_373.trans le322
                       have l0_10_375 : Le h h335 := l0_9_374.trans w336.le
                       have l0_11_376 : Le h h341 := l0_10_375.trans le343
                       have l0_12_377 : Le h h357 := l0_11_376.trans w358.le
                       have l0_13_378 : Le h h366 := l0_12_377.trans le368
                       exact ⟨_, _, _, rfl, (by omega), (by omega), (by omega), l0_13_378, (fun q => absurd q (by decide))⟩
                     · subst q370
                       have o379 : Own h366 i356 [.int .i64 n303] := (w358.own.le le368)
                       have sv380 := SlV.le (k369 rfl) (Le.refl _)
                       have r381 := okL1_int (sv380.ofOwn o379 (k := 0) (by decide) rfl)
                       refine Gl (w_fieldAddr tF82_3 tZ3 ?_)
                       have o382 : Own h366 i305 [.int .i64 n301, .int .i64 n302, .int .i64 n303, .int .i64 n304] := ((o355.le w358.le).le le368)
                       refine Gl (w_ldC tC3 o382.cells ?_)
                       refine Gl (x_buildSlice (out := [.int .i64 n304]) tS28 tZ3 tN3 ?_)
                       intro i383 h384 w385
                       have o386 : Own h366 i5 [.slice bp bn (.exact cbp), .slice rp rn (.exact crp), .slice ep en (.exact cep), .slice (some (i299, o300)) qn (.exact cqp)] := ((o359.le w358.le).le le368)
                       have ne387 : i5 ≠ i383 := ne_of_free w385.free o386
                       have ne388 : i305 ≠ i383 := ne_of_free w385.free o382
                       have o389 : Own h366 i314 [.int .i64 n301] := ((o362.le w358.le).le le368)
                       have ne390 : i314 ≠ i383 := ne_of_free w385.free o389
                       have o391 : Own h366 i334 [.int .i64 n302] := ((o352.le w358.le).le le368)
                       have ne392 : i334 ≠ i383 := ne_of_free w385.free o391
                       have ne393 : i356 ≠ i383 := ne_of_free w385.free o379
                       refine Gl (w_call' isf43 ?_ (hR := by exact c43 (w385.own.sl1 rfl (by simp only [List.mem_cons, List.not_mem_nil, or_false, forall_eq_or_imp, forall_eq, okL, okV]; exact ⟨_, _, rfl, ⟨_, rfl, by omega, by omega⟩, rfl⟩)) (by omega)))
                       rintro e394 h395 ⟨b396, rfl, le397, k398⟩
                       refine Lo (w_pick_f ?_)
                       refine Lz (w_assign ?_)
                       refine Cb (fun q399 => ?_) (fun q399 => ?_)
                       · subst q399
                         refine Sr (Lo (w_move ?_))
                         refine Lo (w_assign ?_)
                         refine Lo (w_assign ?_)
                         refine Lz (w_assign ?_)
                         refine Rt ?_
                         refine blk_r (blk_r (then_r (then_r (blk_r (then_r ?_)))))
                         refine leave_ret rfl ?_
                         have l0_6_400 : Le h h306 := l0_5_291.trans w307.le
                         have l0_7_401 : Le h h310 := l0_6_400.but bt311 (l0_5_291.free w307.free)
                         have l0_8_402 : Le h h315 := l0_7_401.trans w316.le
                         have l0_9_403 : Le h h320 := l0_8_402.trans le322
                         have l0_10_404 : Le h h335 := l0_9_403.trans w336.le
                         have l0_11_405 : Le h h341 := l0_10_404.trans le343
                         have l0_12_406 : Le h h357 := l0_11_405.trans w358.le
                         have l0_13_407 : Le h h366 := l0_12_406.trans le368
                         have l0_14_408 : Le h h384 := l0_13_407.trans w385.le
                         have l0_15_409 : Le h h395 := l0_14_408.trans le397
                         exact ⟨_, _, _, rfl, (by omega), (by omega), (by omega), l0_15_409, (fun q => absurd q (by decide))⟩
                       · subst q399
                         have o410 : Own h395 i383 [.int .i64 n304] := (w385.own.le le397)
                         have sv411 := SlV.le (k398 rfl) (Le.refl _)
                         have r412 := okL1_int (sv411.ofOwn o410 (k := 0) (by decide) rfl)
                         refine Sk ?_
                         refine Rg (Lo (w_add ?_))
                         refine Lz (w_move ?_)
                         have l4_6_413 : Le h224 h306 := le284.trans w307.le
                         have l4_7_414 : Le h224 h310 := l4_6_413.but bt311 (le284.free w307.free)
                         have l4_8_415 : Le h224 h315 := l4_7_414.trans w316.le
                         have l4_9_416 : Le h224 h320 := l4_8_415.trans le322
                         have l4_10_417 : Le h224 h335 := l4_9_416.trans w336.le
                         have l4_11_418 : Le h224 h341 := l4_10_417.trans le343
                         have l4_12_419 : Le h224 h357 := l4_11_418.trans w358.le
                         have l4_13_420 : Le h224 h366 := l4_12_419.trans le368
                         have l4_14_421 : Le h224 h384 := l4_13_420.trans w385.le
                         have l4_15_422 : Le h224 h395 := l4_14_421.trans le397
                         have l5_7_423 : Le h283 h310 := w307.le.but bt311 w307.free
                         have l5_8_424 : Le h283 h315 := l5_7_423.trans w316.le
                         have l5_9_425 : Le h283 h320 := l5_8_424.trans le322
                         have l5_10_426 : Le h283 h335 := l5_9_425.trans w336.le
                         have l5_11_427 : Le h283 h341 := l5_10_426.trans le343
                         have l5_12_428 : Le h283 h357 := l5_11_427.trans w358.le
                         have l5_13_429 : Le h283 h366 := l5_12_428.trans le368
                         have l5_14_430 : Le h283 h384 := l5_13_429.trans w385.le
                         have l5_15_431 : Le h283 h395 := l5_14_430.trans le397
                         exact ⟨(x123_282 + 1), h395, ⟨⟨(by omega), (by omega), l4_15_422, ((SlV.snoc (n := qn) (sqp.le l0_5_291) (iv285.le (Le.refl _)) (by omega) (by omega) rfl hc292 rfl ⟨_, _, rfl, ⟨_, rfl, by omega, by omega⟩, _, _, rfl, ⟨_, rfl, by omega, by omega⟩, _, _, rfl, ⟨_, rfl, by omega, by omega⟩, _, _, rfl, ⟨_, rfl, by omega, by omega⟩, rfl⟩ ht296).le l5_15_431)⟩, by omega⟩, rfl, rfl, rfl, rfl, rfl, rfl, rfl, trivial⟩
               · refine Ex ?_
                 refine then_x (then_x (blk_eq rfl ?_))
                 refine Sr (Lo (w_assign ?_))
                 refine Lo (w_assign ?_)
                 refine Lz (w_assign ?_)
                 refine Rt ?_
                 refine leave_ret rfl ?_
                 have l0_2_432 : Le h h10 := w7.le.trans le11
                 have l0_3_433 : Le h h136 := l0_2_432.trans le137
                 have l0_4_434 : Le h h224 := l0_3_433.trans le225
                 have l0_5_435 : Le h h283 := l0_4_434.trans le284
                 have l2_4_436 : Le h10 h224 := le137.trans le225
                 have l2_5_437 : Le h10 h283 := l2_4_436.trans le284
                 have l3_5_438 : Le h136 h283 := le225.trans le284
                 exact ⟨_, _, _, rfl, (by omega), (by omega), (by omega), l0_5_435, (fun _ => ⟨⟨by omega, (by rw [show bn = x20_9.toNat by omega]; exact iv12.le l2_5_437)⟩, ⟨by omega, (by rw [show rn = x72_135.toNat by omega]; exact iv138.le l3_5_438)⟩, ⟨by omega, (by rw [show en = x105_223.toNat by omega]; exact iv226.le le284)⟩, ⟨by omega, (by rw [show qn = x123_282.toNat by omega]; exact iv285.le (Le.refl _))⟩⟩)⟩
theorem c87 {h : AH}  {rq : Int} {a : Nat} {bp : Option (Nat × Nat)} {bn : Nat} {cbp : Cap} {rp : Option (Nat × Nat)} {rn : Nat} {crp : Cap} {ep : Option (Nat × Nat)} {en : Nat} {cep : Cap} {qp : Option (Nat × Nat)} {qn : Nat} {cqp : Cap} (brq : 0 ≤ rq ∧ rq ≤ ((qn : Int) - 1)) (sbp : SlV h bp bn 5 (okL h [.str, .int 0 5, .int 0 1000, .int 0 1000, .bool])) (mbp : bn ≤ 1048576) (srp : SlV h rp rn 2 (okL h [.str, .int 0 5])) (mrp : rn ≤ 1048576) (sep : SlV h ep en 2 (okL h [.int 0 100, .bool])) (mep : en ≤ 1048576) (sqp : SlV h qp qn 4 (okL h [.int 0 ((rn : Int) - 1), .int 0 ((bn : Int) - 1), .int 1 12, .int 0 100])) (mqp : qn ≤ 1048576) (oa : Own h a [.slice bp bn cbp, .slice rp rn crp, .slice ep en cep, .slice qp qn cqp]) : JCall Tryz.prog 87 [.int .i64 rq, .ptr (some (a, 0))] h (fun e h' => ∃ (zs : ByteArray) (za : Int) (zb : Int) (zc : Int) (zd : Bool), e = .ret (.agg [.str zs, .int .i64 za, .int .i64 zb, .int .i64 zc, .bool zd]) ∧ zs.size ≤ 1048576 ∧ (0 ≤ za ∧ za ≤ 5) ∧ (0 ≤ zb ∧ zb ≤ 1000) ∧ (0 ≤ zc ∧ zc ≤ 1000) ∧ Le h h') := by
 refine JCall_of_J (N := 14) (sl := [(0, _), (1, _)]) isf87 rfl (by show 2 ≤ 14; decide) rfl ?_
 refine Sr (Lz (x_alloc (zc := [.str ByteArray.empty, .int .i64 0, .int .i64 0, .int .i64 0, .bool false]) tN70 ?_))
 intro i5 h6 w7
 have ne8 : a ≠ i5 := ne_of_free w7.free oa
 refine Sq ?_
 refine J_drawS (opsAt (C87 [0, 1])) [[(1, none)], [(4, some 0)], [(1, none)], [(6, some 2)], [(0, none)], [(7, some 3), (8, some 4)], [(9, some 5)], [(10, some 6)], [(5, some 1), (11, some 7)], [(12, some 8)], [(3, none), (13, some 9)]] ?_
 refine Dp (w_fieldAddr tF27_0 tZ22 ⟨rfl, rfl⟩) ?_
 have o9 : Own h6 a [.slice bp bn cbp, .slice rp rn crp, .slice ep en cep, .slice qp qn cqp] := (oa.le w7.le)
 refine Dp (w_ldC tC22 o9.cells ⟨rfl, rfl⟩) ?_
 refine Dp (w_fieldAddr tF27_3 tZ25 ⟨rfl, rfl⟩) ?_
 refine Dp (w_ldC tC25 o9.cells ⟨rfl, rfl⟩) ?_
 refine Dp (w_move ⟨rfl, rfl⟩) ?_
 obtain ⟨i17, o18, cs16, l15, rfl, hc10, hl11, hk12, hE13, ht14⟩ := (sqp.le w7.le).at (i := rq) (by omega) (by omega)
 obtain ⟨_, _, rfl, ⟨n19, rfl, lon19, hin19⟩, _, _, rfl, ⟨n20, rfl, lon20, hin20⟩, _, _, rfl, ⟨n21, rfl, lon21, hin21⟩, _, _, rfl, ⟨n22, rfl, lon22, hin22⟩, rfl⟩ := hE13
 refine Dp (w_indexAddrS tS25 tZ82 ⟨rfl, rfl⟩) ?_
 refine Dp (w_fieldAddr tF82_1 tZ3 ⟨rfl, rfl⟩) ?_
 refine Dp (w_ldC tC3 hc10 ⟨rfl, rfl⟩ (hv := cell_of_take (k := 1) ht14 rfl)) ?_
 obtain ⟨i30, o31, cs29, l28, rfl, hc23, hl24, hk25, hE26, ht27⟩ := (sbp.le w7.le).at (i := n20) (by omega) (by omega)
 obtain ⟨_, _, rfl, ⟨s32, rfl, hs32⟩, _, _, rfl, ⟨n33, rfl, lon33, hin33⟩, _, _, rfl, ⟨n34, rfl, lon34, hin34⟩, _, _, rfl, ⟨n35, rfl, lon35, hin35⟩, _, _, rfl, ⟨b36, rfl⟩, rfl⟩ := hE26
 refine Dp (w_indexAddrS tS22 tZ70 ⟨rfl, rfl⟩) ?_
 refine Dp (w_ldA tA70 hc23 ⟨rfl, rfl⟩ (hn := hl24) (hl := ht27)) ?_
 refine Da (h₁ := h6) (x_store (vc := [.str s32, .int .i64 n33, .int .i64 n34, .int .i64 n35, .bool b36]) (cs' := [.str s32, .int .i64 n33, .int .i64 n34, .int .i64 n35, .bool b36]) tZ70 w7.own ?_)
 intro h37 bt38 o39
 refine Ao ?_
 refine JD_end (effs := [10]) (fin := [(3, none)]) (slF := [(3, .ptr (some (i5, 0)))]) rfl mixed (by kernel_rfl) (by kernel_rfl) rfl rfl ?_
 refine Rt ?_
 refine leave_ret (resL_cons (resV_cellA (l := [.str s32, .int .i64 n33, .int .i64 n34, .int .i64 n35, .bool b36]) rfl o39.cells tA70 (by simp) rfl) resL_nil) ?_
 have l0_2_40 : Le h h37 := w7.le.but bt38 w7.free
 exact ⟨_, _, _, _, _, rfl, (by assumption), (by omega), (by omega), (by omega), l0_2_40⟩
theorem c88 {h : AH}  {rq : Int} {st : Int} {f : Nat} {a : Nat} {bp : Option (Nat × Nat)} {bn : Nat} {cbp : Cap} {rp : Option (Nat × Nat)} {rn : Nat} {crp : Cap} {ep : Option (Nat × Nat)} {en : Nat} {cep : Cap} {qp : Option (Nat × Nat)} {qn : Nat} {cqp : Cap} (brq : 0 ≤ rq ∧ rq ≤ ((qn : Int) - 1)) (of : Own h f [.fn (.func 87) [] [.ptr (some (a, 0))]]) (sbp : SlV h bp bn 5 (okL h [.str, .int 0 5, .int 0 1000, .int 0 1000, .bool])) (mbp : bn ≤ 1048576) (srp : SlV h rp rn 2 (okL h [.str, .int 0 5])) (mrp : rn ≤ 1048576) (sep : SlV h ep en 2 (okL h [.int 0 100, .bool])) (mep : en ≤ 1048576) (sqp : SlV h qp qn 4 (okL h [.int 0 ((rn : Int) - 1), .int 0 ((bn : Int) - 1), .int 1 12, .int 0 100])) (mqp : qn ≤ 1048576) (oa : Own h a [.slice bp bn cbp, .slice rp rn crp, .slice ep en cep, .slice qp qn cqp]) : JCall Tryz.prog 88 [.int .i64 rq, .int .i64 st, .ptr (some (f, 0)), .ptr (some (a, 0))] h (fun e h' => ∃ (r : Bool), e = .ret (.bool r) ∧ Le h h') := by
 refine JCall_of_J (N := 23) (sl := [(0, _), (1, _), (2, _), (3, _)]) isf88 rfl (by show 4 ≤ 23; decide) rfl ?_
 refine Sr (Lz (w_assign ?_))
 refine Sq ?_
 refine J_drawS (opsAt (C88 [0, 1])) [[(2, none)], [(0, none)], [(7, some 0), (8, some 1)], [(9, some 2)], [(3, none)], [(11, some 4)], [(3, none)], [(13, some 6)], [(0, none)], [(14, some 7), (15, some 8)], [(16, some 9)], [(17, some 10)], [(12, some 5), (18, some 11)], [(19, some 12)], [(20, some 13)], [(10, some 3), (21, some 14)], [(22, some 15)]] ?_
 refine Dp (w_ldC tC137 of.cells ⟨rfl, rfl⟩) ?_
 refine Dp (w_move ⟨rfl, rfl⟩) ?_
 refine De (h₁ := h) (w_callV' ?_ (hR := by exact JApp_fn isf87 (c87 (by omega) (sbp.leL (Le.refl _) (Le.refl _)) (by omega) (srp.leL (Le.refl _) (Le.refl _)) (by omega) (sep.leL (Le.refl _) (Le.refl _)) (by omega) (sqp.leL (Le.refl _) (Le.refl _)) (by omega) oa)))
 rintro e5 h6 ⟨s7, n8, n9, n10, b11, rfl, hs7, hbn8, hbn9, hbn10, le12⟩
 refine Eo ?_
 refine Dp (w_fieldC tF70_1 tC3 ⟨rfl, rfl⟩) ?_
 refine Dp (w_fieldAddr tF27_1 tZ23 ⟨rfl, rfl⟩) ?_
 have o13 : Own h6 a [.slice bp bn cbp, .slice rp rn crp, .slice ep en cep, .slice qp qn cqp] := (oa.le le12)
 refine Dp (w_ldC tC23 o13.cells ⟨rfl, rfl⟩) ?_
 refine Dp (w_fieldAddr tF27_3 tZ25 ⟨rfl, rfl⟩) ?_
 refine Dp (w_ldC tC25 o13.cells ⟨rfl, rfl⟩) ?_
 refine Dp (w_move ⟨rfl, rfl⟩) ?_
 obtain ⟨i21, o22, cs20, l19, rfl, hc14, hl15, hk16, hE17, ht18⟩ := sqp.at (i := rq) (by omega) (by omega)
 obtain ⟨_, _, rfl, ⟨n23, rfl, lon23, hin23⟩, _, _, rfl, ⟨n24, rfl, lon24, hin24⟩, _, _, rfl, ⟨n25, rfl, lon25, hin25⟩, _, _, rfl, ⟨n26, rfl, lon26, hin26⟩, rfl⟩ := hE17
 refine Dp (w_indexAddrS tS25 tZ82 ⟨rfl, rfl⟩) ?_
 refine Dp (w_fieldAddr tF82_0 tZ3 ⟨rfl, rfl⟩) ?_
 refine Dp (w_ldC tC3 (le12.cells hc14) ⟨rfl, rfl⟩ (hv := cell_of_take0 ht18 rfl)) ?_
 obtain ⟨i34, o35, cs33, l32, rfl, hc27, hl28, hk29, hE30, ht31⟩ := srp.at (i := n23) (by omega) (by omega)
 obtain ⟨_, _, rfl, ⟨s36, rfl, hs36⟩, _, _, rfl, ⟨n37, rfl, lon37, hin37⟩, rfl⟩ := hE30
 refine Dp (w_indexAddrS tS23 tZ76 ⟨rfl, rfl⟩) ?_
 refine Dp (w_fieldAddr tF76_1 tZ3 ⟨rfl, rfl⟩) ?_
 refine Dp (w_ldC tC3 (le12.cells hc27) ⟨rfl, rfl⟩ (hv := cell_of_take (k := 1) ht31 rfl)) ?_
 refine Dp (w_gt ⟨rfl, rfl⟩) ?_
 refine Dp (w_assign ⟨rfl, rfl⟩) ?_
 refine Ra 4 0 (w_fieldAddr tF27_1 tZ23 ⟨rfl, rfl⟩) ?_
 refine Ra 5 0 (w_ldC tC23 oa.cells ⟨rfl, rfl⟩) ?_
 refine Ra 6 0 (w_fieldAddr tF27_3 tZ25 ⟨rfl, rfl⟩) ?_
 refine Ra 7 0 (w_ldC tC25 oa.cells ⟨rfl, rfl⟩) ?_
 refine Ra 8 0 (w_move ⟨rfl, rfl⟩) ?_
 refine Ra 9 0 (w_indexAddrS tS25 tZ82 ⟨rfl, rfl⟩) ?_
 refine Ra 10 0 (w_fieldAddr tF82_0 tZ3 ⟨rfl, rfl⟩) ?_
 refine Ra 11 0 (w_ldC tC3 hc14 ⟨rfl, rfl⟩ (hv := cell_of_take0 ht18 rfl)) ?_
 refine Ra 12 0 (w_indexAddrS tS23 tZ76 ⟨rfl, rfl⟩) ?_
 refine Ra 13 0 (w_fieldAddr tF76_1 tZ3 ⟨rfl, rfl⟩) ?_
 refine Ra 14 0 (w_ldC tC3 hc27 ⟨rfl, rfl⟩ (hv := cell_of_take (k := 1) ht31 rfl)) ?_
 refine JD_end (effs := [2]) (fin := [(6, some 16)]) (slF := [(6, .bool (decide (n37 < n8)))]) rfl mixed (by kernel_rfl) (by kernel_rfl) rfl rfl ?_
 refine Rt ?_
 refine leave_ret rfl ?_
 exact ⟨_, rfl, le12⟩
theorem c89 {h : AH}  {rq : Int} {st : Int} {f : Nat} {a : Nat} {bp : Option (Nat × Nat)} {bn : Nat} {cbp : Cap} {rp : Option (Nat × Nat)} {rn : Nat} {crp : Cap} {ep : Option (Nat × Nat)} {en : Nat} {cep : Cap} {qp : Option (Nat × Nat)} {qn : Nat} {cqp : Cap} (brq : 0 ≤ rq ∧ rq ≤ ((qn : Int) - 1)) (bst : 0 ≤ st ∧ st ≤ ((en : Int) - 1)) (of : Own h f [.fn (.func 87) [] [.ptr (some (a, 0))]]) (sbp : SlV h bp bn 5 (okL h [.str, .int 0 5, .int 0 1000, .int 0 1000, .bool])) (mbp : bn ≤ 1048576) (srp : SlV h rp rn 2 (okL h [.str, .int 0 5])) (mrp : rn ≤ 1048576) (sep : SlV h ep en 2 (okL h [.int 0 100, .bool])) (mep : en ≤ 1048576) (sqp : SlV h qp qn 4 (okL h [.int 0 ((rn : Int) - 1), .int 0 ((bn : Int) - 1), .int 1 12, .int 0 100])) (mqp : qn ≤ 1048576) (oa : Own h a [.slice bp bn cbp, .slice rp rn crp, .slice ep en cep, .slice qp qn cqp]) : JCall Tryz.prog 89 [.int .i64 rq, .int .i64 st, .ptr (some (f, 0)), .ptr (some (a, 0))] h (fun e h' => ∃ (r : Bool), e = .ret (.bool r) ∧ Le h h') := by
 refine JCall_of_J (N := 19) (sl := [(0, _), (1, _), (2, _), (3, _)]) isf89 rfl (by show 4 ≤ 19; decide) rfl ?_
 refine Sr (Lz (w_assign ?_))
 refine Sr (Lo (w_ldC tC137 of.cells ?_))
 refine Lo (w_move ?_)
 refine Lo (w_callV' ?_ (hR := by exact JApp_fn isf87 (c87 (by omega) (sbp.leL (Le.refl _) (Le.refl _)) (by omega) (srp.leL (Le.refl _) (Le.refl _)) (by omega) (sep.leL (Le.refl _) (Le.refl _)) (by omega) (sqp.leL (Le.refl _) (Le.refl _)) (by omega) oa)))
 rintro e5 h6 ⟨s7, n8, n9, n10, b11, rfl, hs7, hbn8, hbn9, hbn10, le12⟩
 refine Lo (w_fieldC tF70_3 tC4 ?_)
 refine Lo (w_move ?_)
 refine k_splitB (d := 11) rfl (fun q13 => ?_) (fun q13 => ?_)
 · refine Gl (w_fieldAddr tF27_2 tZ24 ?_)
   have o14 : Own h6 a [.slice bp bn cbp, .slice rp rn crp, .slice ep en cep, .slice qp qn cqp] := (oa.le le12)
   refine Gl (w_ldC tC24 o14.cells ?_)
   refine Gl (w_move ?_)
   obtain ⟨i22, o23, cs21, l20, rfl, hc15, hl16, hk17, hE18, ht19⟩ := (sep.le le12).at (i := st) (by omega) (by omega)
   obtain ⟨_, _, rfl, ⟨n24, rfl, lon24, hin24⟩, _, _, rfl, ⟨b25, rfl⟩, rfl⟩ := hE18
   refine Gl (w_indexAddrS tS24 tZ80 ?_)
   refine Gl (w_fieldAddr tF80_1 tZ4 ?_)
   refine Gl (w_ldC tC4 hc15 ?_ (hv := cell_of_take (k := 1) ht19 rfl))
   refine Lo (w_pick_t ?_)
   refine Lz (w_assign ?_)
   refine Rt ?_
   refine leave_ret rfl ?_
   exact ⟨_, rfl, le12⟩
 · refine Ws ?_
   refine Ws ?_
   refine Ws ?_
   refine Ws ?_
   refine Ws ?_
   refine Ws ?_
   refine Lo (w_pick_f ?_)
   refine Lz (w_assign ?_)
   refine Rt ?_
   refine leave_ret rfl ?_
   exact ⟨_, rfl, le12⟩
theorem c90 {h : AH}  {rq : Int} {st : Int} {gy : Nat} {f : Nat} {a : Nat} {bp : Option (Nat × Nat)} {bn : Nat} {cbp : Cap} {rp : Option (Nat × Nat)} {rn : Nat} {crp : Cap} {ep : Option (Nat × Nat)} {en : Nat} {cep : Cap} {qp : Option (Nat × Nat)} {qn : Nat} {cqp : Cap} {x : Nat} {cs : List AV} (brq : 0 ≤ rq ∧ rq ≤ ((qn : Int) - 1)) (bst : 0 ≤ st ∧ st ≤ ((en : Int) - 1)) (ogy : Own h gy [.ptr (some (x, 0))]) (of : Own h f [.fn (.func 87) [] [.ptr (some (a, 0))]]) (sbp : SlV h bp bn 5 (okL h [.str, .int 0 5, .int 0 1000, .int 0 1000, .bool])) (mbp : bn ≤ 1048576) (srp : SlV h rp rn 2 (okL h [.str, .int 0 5])) (mrp : rn ≤ 1048576) (sep : SlV h ep en 2 (okL h [.int 0 100, .bool])) (mep : en ≤ 1048576) (sqp : SlV h qp qn 4 (okL h [.int 0 ((rn : Int) - 1), .int 0 ((bn : Int) - 1), .int 1 12, .int 0 100])) (mqp : qn ≤ 1048576) (oa : Own h a [.slice bp bn cbp, .slice rp rn crp, .slice ep en cep, .slice qp qn cqp]) (hx : h.cells x = some cs) (lx : cs.length = 53) (gx : Rng cs 4 52 0 1200) (e0 : qn ≤ 8) (e1 : en ≤ 6) : JCall Tryz.prog 90 [.int .i64 rq, .int .i64 st, .ptr (some (gy, 0)), .ptr (some (f, 0))] h (fun e h' => ∃ (r : Bool), e = .ret (.bool r) ∧ Le h h') := by
 refine JCall_of_J (N := 21) (sl := [(0, _), (1, _), (2, _), (3, _)]) isf90 rfl (by show 4 ≤ 21; decide) rfl ?_
 refine Sr (Lz (w_assign ?_))
 refine Sq ?_
 refine J_drawS (opsAt (C90 [0, 1])) [[(2, none)], [(0, none)], [(1, none)], [(7, some 0)], [(10, some 3)], [(8, some 1), (11, some 4)], [(9, some 2), (12, some 5)], [(13, some 6)], [(3, none)], [(0, none)], [(15, some 8), (16, some 9)], [(17, some 10)], [(18, some 11)], [(14, some 7), (19, some 12)], [(20, some 13)]] ?_
 refine Dp (w_ldC tC83 ogy.cells ⟨rfl, rfl⟩) ?_
 refine Dp (w_move ⟨rfl, rfl⟩) ?_
 refine Dp (w_move ⟨rfl, rfl⟩) ?_
 refine Dp (w_nilCheck_ptr ⟨rfl, rfl⟩) ?_
 refine Dp (w_fieldAddr tF98_1 tZ95 ⟨rfl, rfl⟩) ?_
 refine Dp (w_indexAddrA tR95 tZ94 ⟨rfl, rfl⟩) ?_
 refine Dp (w_indexAddrA tR94 tZ3 ⟨rfl, rfl⟩) ?_
 obtain ⟨n5, hv6, lon5, hin5⟩ := gx (4 + rq.toNat * 6 + st.toNat * 1) (by omega) (by omega)
 refine Dp (w_ldC tC3 hx ⟨rfl, rfl⟩ (hv := hv6)) ?_
 refine Dp (w_ldC tC137 of.cells ⟨rfl, rfl⟩) ?_
 refine Dp (w_move ⟨rfl, rfl⟩) ?_
 refine De (h₁ := h) (w_callV' ?_ (hR := by exact JApp_fn isf87 (c87 (by omega) (sbp.leL (Le.refl _) (Le.refl _)) (by omega) (srp.leL (Le.refl _) (Le.refl _)) (by omega) (sep.leL (Le.refl _) (Le.refl _)) (by omega) (sqp.leL (Le.refl _) (Le.refl _)) (by omega) oa)))
 rintro e7 h8 ⟨s9, n10, n11, n12, b13, rfl, hs9, hbn10, hbn11, hbn12, le14⟩
 refine Eo ?_
 refine Dp (w_fieldA (l := [.int .i64 n11, .int .i64 n12]) tF70_2 tA68 ⟨rfl, rfl⟩) ?_
 refine Dp (w_fieldC tF68_0 tC3 ⟨rfl, rfl⟩) ?_
 refine Dp (w_gt ⟨rfl, rfl⟩) ?_
 refine Dp (w_assign ⟨rfl, rfl⟩) ?_
 have o15 : Own h8 gy [.ptr (some (x, 0))] := (ogy.le le14)
 refine Ra 0 1 (w_ldC tC83 o15.cells ⟨rfl, rfl⟩) ?_
 refine Ra 1 1 (w_move ⟨rfl, rfl⟩) ?_
 refine Ra 2 1 (w_move ⟨rfl, rfl⟩) ?_
 refine Ra 3 1 (w_nilCheck_ptr ⟨rfl, rfl⟩) ?_
 refine Ra 4 1 (w_fieldAddr tF98_1 tZ95 ⟨rfl, rfl⟩) ?_
 refine Ra 5 1 (w_indexAddrA tR95 tZ94 ⟨rfl, rfl⟩) ?_
 refine Ra 6 1 (w_indexAddrA tR94 tZ3 ⟨rfl, rfl⟩) ?_
 have o16 : h8.cells x = some cs := (le14.cells hx)
 refine Ra 7 1 (w_ldC tC3 o16 ⟨rfl, rfl⟩ (hv := hv6)) ?_
 refine JD_end (effs := [10]) (fin := [(6, some 14)]) (slF := [(6, .bool (decide (n11 < n5)))]) rfl mixed (by kernel_rfl) (by kernel_rfl) rfl rfl ?_
 refine Rt ?_
 refine leave_ret rfl ?_
 exact ⟨_, rfl, le14⟩
def RoomOK (h : AH) (x bn rn en qn : Nat) : Prop :=
 ∃ (cs : List AV) (bp rp ep qp : Option (Nat × Nat)) (cb cr ce cq : Cap) (ri f a gy : Nat), h.cells x = some cs ∧ cs.length = 53 ∧ Rng cs 4 52 0 1200 ∧
  cs[0]? = some (.slice bp bn cb) ∧ cs[1]? = some (.slice rp rn cr) ∧ cs[2]? = some (.slice ep en ce) ∧ cs[3]? = some (.slice qp qn cq) ∧ cs[52]? = some (.slice (some (ri, 0)) 3 (.exact 3)) ∧
  Own h ri [.int .i64 1, .fn (.func 88) [] [.ptr (some (f, 0)), .ptr (some (a, 0))], .int .i64 2, .fn (.func 89) [] [.ptr (some (f, 0)), .ptr (some (a, 0))], .int .i64 3, .fn (.func 90) [] [.ptr (some (gy, 0)), .ptr (some (f, 0))]] ∧
  Own h f [.fn (.func 87) [] [.ptr (some (a, 0))]] ∧ Own h gy [.ptr (some (x, 0))] ∧ Own h a [.slice bp bn cb, .slice rp rn cr, .slice ep en ce, .slice qp qn cq] ∧
  bn ≤ 8 ∧ rn ≤ 8 ∧ en ≤ 6 ∧ qn ≤ 8 ∧ SlV h bp bn 5 (okL h [.str, .int 0 5, .int 0 1000, .int 0 1000, .bool]) ∧ SlV h rp rn 2 (okL h [.str, .int 0 5]) ∧ SlV h ep en 2 (okL h [.int 0 100, .bool]) ∧ SlV h qp qn 4 (okL h [.int 0 ((rn : Int) - 1), .int 0 ((bn : Int) - 1), .int 1 12, .int 0 100])
theorem RoomOK.bounds {h : AH} {x bn rn en qn : Nat} (r : RoomOK h x bn rn en qn) : bn ≤ 8 ∧ rn ≤ 8 ∧ en ≤ 6 ∧ qn ≤ 8 := by
 obtain ⟨cs, bp, rp, ep, qp, cb, cr, ce, cq, ri, f, a, gy, h1, h2, h3, h4, h5, h6, h7, h8, h9, h10, h11, h12, m1, m2, m3, m4, s1, s2, s3, s4⟩ := r
 exact ⟨m1, m2, m3, m4⟩
theorem RoomOK.le {h h' : AH} {x bn rn en qn : Nat} (r : RoomOK h x bn rn en qn) (l : Le h h') : RoomOK h' x bn rn en qn := by
 obtain ⟨cs, bp, rp, ep, qp, cb, cr, ce, cq, ri, f, a, gy, h1, h2, h3, h4, h5, h6, h7, h8, h9, h10, h11, h12, m1, m2, m3, m4, s1, s2, s3, s4⟩ := r
 exact ⟨cs, bp, rp, ep, qp, cb, cr, ce, cq, ri, f, a, gy, l.cells h1, h2, h3, h4, h5, h6, h7, h8, h9.le l, h10.le l, h11.le l, h12.le l, m1, m2, m3, m4, s1.leL l l, s2.leL l l, s3.leL l l, s4.leL l l⟩
theorem c47 {h : AH}  {x bn rn en qn : Nat} {rq : Int} {st : Int} (hroom : RoomOK h x bn rn en qn) (brq : 0 ≤ rq ∧ rq ≤ ((qn : Int) - 1)) (bst : 0 ≤ st ∧ st ≤ ((en : Int) - 1)) : JCall Tryz.prog 47 [.ptr (some (x, 0)), .int .i64 rq, .int .i64 st] h (fun e h' => ∃ (r : Int), e = .ret (.int .i64 r) ∧ ((-9223372036854775808) ≤ r ∧ r ≤ 9223372036854775807) ∧ Le h h') := by
 refine JCall_of_J (N := 26) (sl := [(0, _), (1, _), (2, _)]) isf47 rfl (by show 3 ≤ 26; decide) rfl ?_
 have hroom0 := hroom
 obtain ⟨cs, bp, rp, ep, qp, cb, cr, ce, cq, ri, f, a, gy, hx, lx, gx_, k0, k1, k2, k3, k52, ori, of, og, oa, ex⟩ := hroom
 obtain ⟨mbn, mrn, men, mqn, sbp, srp, sep, sqp⟩ := ex
 refine Sr (Lz (w_assign ?_))
 refine Sq (Sr ?_)
 refine Lo (w_move ?_)
 refine Lo (w_nilCheck_ptr ?_)
 refine Lo (w_fieldAddr tF98_2 tZ96 ?_)
 refine Lo (w_ldC tC96 hx ?_ (hv := k52))
 refine Lo (w_len tS96 ?_)
 refine Lz (w_move ?_)
 refine Bk ?_
 refine J_for2 (x := C47 [0, 0, 1, 0, 1]) (fun (x14_5 : Int) (h6 : AH) => ⟨[(1, .int .i64 rq), (2, .int .i64 st), (12, .slice (some (ri, 0)) 3 (.exact 3)), (13, .int .i64 (3 : Int)), (14, .int .i64 x14_5)], h6, 26, []⟩) (fun (x14_5 : Int) (h6 : AH) => 0 ≤ x14_5 ∧ Le h h6) (fun (x14_5 : Int) (h6 : AH) => ((3 : Int) - x14_5).toNat) 0 h rfl ⟨rfl, rfl, rfl, rfl, rfl, rfl, rfl, rfl, trivial⟩ ⟨(by omega), .refl _⟩ ?_
 intro x14_5 h6 hI
 obtain ⟨hxx14_5, le7⟩ : 0 ≤ x14_5 ∧ Le h h6 := hI
 show J _ _ (C47 [0, 0, 1, 0, 1]) ⟨[(1, .int .i64 rq), (2, .int .i64 st), (12, .slice (some (ri, 0)) 3 (.exact 3)), (13, .int .i64 (3 : Int)), (14, .int .i64 x14_5)], h6, 26, []⟩ _
 refine Sr (Lz (w_lt ?_))
 refine Sq ?_
 refine Cn (fun q8 => ?_) (fun q8 => ?_)
 · refine Sk ?_
   refine Sq (Bk ?_)
   refine Sr ?_
   rcases (show x14_5 = 0 ∨ x14_5 = 1 ∨ x14_5 = 2 by omega) with e9 | e9 | e9
   · subst e9
     refine Lo (w_indexAddrS tS96 tZ129 ?_)
     have o10 : Own h6 ri [.int .i64 1, .fn (.func 88) [] [.ptr (some (f, 0)), .ptr (some (a, 0))], .int .i64 2, .fn (.func 89) [] [.ptr (some (f, 0)), .ptr (some (a, 0))], .int .i64 3, .fn (.func 90) [] [.ptr (some (gy, 0)), .ptr (some (f, 0))]] := (ori.le le7)
     refine Lo (w_ldA (l := [.int .i64 1, .fn (.func 88) [] [.ptr (some (f, 0)), .ptr (some (a, 0))]]) tA129 o10.cells ?_)
     refine Lo (x_alloc (zc := [.int .i64 0, .nilFunc]) tN129 ?_)
     intro i11 h12 w13
     have o14 : Own h6 a [.slice bp bn cb, .slice rp rn cr, .slice ep en ce, .slice qp qn cq] := (oa.le le7)
     have ne15 : a ≠ i11 := ne_of_free w13.free o14
     have o16 : Own h6 f [.fn (.func 87) [] [.ptr (some (a, 0))]] := (of.le le7)
     have ne17 : f ≠ i11 := ne_of_free w13.free o16
     have o18 : Own h6 gy [.ptr (some (x, 0))] := (og.le le7)
     have ne19 : gy ≠ i11 := ne_of_free w13.free o18
     have ne20 : ri ≠ i11 := ne_of_free w13.free o10
     have o21 : h6.cells x = some cs := (le7.cells hx)
     have ne22 : x ≠ i11 := ne_of_cells w13.free o21
     refine Lz (x_store (vc := [.int .i64 1, .fn (.func 88) [] [.ptr (some (f, 0)), .ptr (some (a, 0))]]) (cs' := [.int .i64 1, .fn (.func 88) [] [.ptr (some (f, 0)), .ptr (some (a, 0))]]) tZ129 w13.own ?_)
     intro h23 bt24 o25
     refine Sr (Lo (w_fieldAddr tF129_1 tZ127 ?_))
     refine Lo (w_ldC tC127 o25.cells ?_)
     refine Lo (w_move ?_)
     refine Lo (w_move ?_)
     have o26 : Own h23 f [.fn (.func 87) [] [.ptr (some (a, 0))]] := ((o16.le w13.le).but bt24 ne17)
     have o27 : Own h23 a [.slice bp bn cb, .slice rp rn cr, .slice ep en ce, .slice qp qn cq] := ((o14.le w13.le).but bt24 ne15)
     have l0_2_28 : Le h h12 := le7.trans w13.le
     have l0_3_29 : Le h h23 := l0_2_28.but bt24 (le7.free w13.free)
     refine Lo (w_callV' ?_ (hR := by exact JApp_fn isf88 (c88 (by omega) o26 (sbp.leL l0_3_29 l0_3_29) (by omega) (srp.leL l0_3_29 l0_3_29) (by omega) (sep.leL l0_3_29 l0_3_29) (by omega) (sqp.leL l0_3_29 l0_3_29) (by omega) o27)))
     rintro e30 h31 ⟨b32, rfl, le33⟩
     refine Ln ?_
     refine Cb (fun q34 => ?_) (fun q34 => ?_)
     · subst q34
       refine Sr (Lo (w_fieldAddr tF129_0 tZ3 ?_))
       have o35 : Own h31 i11 [.int .i64 1, .fn (.func 88) [] [.ptr (some (f, 0)), .ptr (some (a, 0))]] := (o25.le le33)
       refine Lo (w_ldC tC3 o35.cells ?_)
       refine Lz (w_assign ?_)
       refine Rt ?_
       refine blk_r (then_r (then_r (blk_r (then_r ?_))))
       refine leave_ret rfl ?_
       have l0_4_36 : Le h h31 := l0_3_29.trans le33
       exact ⟨_, rfl, (by omega), l0_4_36⟩
     · subst q34
       refine Sk ?_
       refine Rg (Lo (w_add ?_))
       refine Lz (w_move ?_)
       have l0_4_37 : Le h h31 := l0_3_29.trans le33
       exact ⟨(0 + 1), h31, ⟨⟨(by omega), l0_4_37⟩, by omega⟩, rfl, rfl, rfl, rfl, rfl, rfl, rfl, rfl, trivial⟩
   · subst e9
     refine Lo (w_indexAddrS tS96 tZ129 ?_)
     have o38 : Own h6 ri [.int .i64 1, .fn (.func 88) [] [.ptr (some (f, 0)), .ptr (some (a, 0))], .int .i64 2, .fn (.func 89) [] [.ptr (some (f, 0)), .ptr (some (a, 0))], .int .i64 3, .fn (.func 90) [] [.ptr (some (gy, 0)), .ptr (some (f, 0))]] := (ori.le le7)
     refine Lo (w_ldA (l := [.int .i64 2, .fn (.func 89) [] [.ptr (some (f, 0)), .ptr (some (a, 0))]]) tA129 o38.cells ?_)
     refine Lo (x_alloc (zc := [.int .i64 0, .nilFunc]) tN129 ?_)
     intro i39 h40 w41
     have o42 : Own h6 a [.slice bp bn cb, .slice rp rn cr, .slice ep en ce, .slice qp qn cq] := (oa.le le7)
     have ne43 : a ≠ i39 := ne_of_free w41.free o42
     have o44 : Own h6 f [.fn (.func 87) [] [.ptr (some (a, 0))]] := (of.le le7)
     have ne45 : f ≠ i39 := ne_of_free w41.free o44
     have o46 : Own h6 gy [.ptr (some (x, 0))] := (og.le le7)
     have ne47 : gy ≠ i39 := ne_of_free w41.free o46
     have ne48 : ri ≠ i39 := ne_of_free w41.free o38
     have o49 : h6.cells x = some cs := (le7.cells hx)
     have ne50 : x ≠ i39 := ne_of_cells w41.free o49
     refine Lz (x_store (vc := [.int .i64 2, .fn (.func 89) [] [.ptr (some (f, 0)), .ptr (some (a, 0))]]) (cs' := [.int .i64 2, .fn (.func 89) [] [.ptr (some (f, 0)), .ptr (some (a, 0))]]) tZ129 w41.own ?_)
     intro h51 bt52 o53
     refine Sr (Lo (w_fieldAddr tF129_1 tZ127 ?_))
     refine Lo (w_ldC tC127 o53.cells ?_)
     refine Lo (w_move ?_)
     refine Lo (w_move ?_)
     have o54 : Own h51 f [.fn (.func 87) [] [.ptr (some (a, 0))]] := ((o44.le w41.le).but bt52 ne45)
     have o55 : Own h51 a [.slice bp bn cb, .slice rp rn cr, .slice ep en ce, .slice qp qn cq] := ((o42.le w41.le).but bt52 ne43)
     have l0_2_56 : Le h h40 := le7.trans w41.le
     have l0_3_57 : Le h h51 := l0_2_56.but bt52 (le7.free w41.free)
     refine Lo (w_callV' ?_ (hR := by exact JApp_fn isf89 (c89 (by omega) (by omega) o54 (sbp.leL l0_3_57 l0_3_57) (by omega) (srp.leL l0_3_57 l0_3_57) (by omega) (sep.leL l0_3_57 l0_3_57) (by omega) (sqp.leL l0_3_57 l0_3_57) (by omega) o55)))
     rintro e58 h59 ⟨b60, rfl, le61⟩
     refine Ln ?_
     refine Cb (fun q62 => ?_) (fun q62 => ?_)
     · subst q62
       refine Sr (Lo (w_fieldAddr tF129_0 tZ3 ?_))
       have o63 : Own h59 i39 [.int .i64 2, .fn (.func 89) [] [.ptr (some (f, 0)), .ptr (some (a, 0))]] := (o53.le le61)
       refine Lo (w_ldC tC3 o63.cells ?_)
       refine Lz (w_assign ?_)
       refine Rt ?_
       refine blk_r (then_r (then_r (blk_r (then_r ?_))))
       refine leave_ret rfl ?_
       have l0_4_64 : Le h h59 := l0_3_57.trans le61
       exact ⟨_, rfl, (by omega), l0_4_64⟩
     · subst q62
       refine Sk ?_
       refine Rg (Lo (w_add ?_))
       refine Lz (w_move ?_)
       have l0_4_65 : Le h h59 := l0_3_57.trans le61
       exact ⟨(1 + 1), h59, ⟨⟨(by omega), l0_4_65⟩, by omega⟩, rfl, rfl, rfl, rfl, rfl, rfl, rfl, rfl, trivial⟩
   · subst e9
     refine Lo (w_indexAddrS tS96 tZ129 ?_)
     have o66 : Own h6 ri [.int .i64 1, .fn (.func 88) [] [.ptr (some (f, 0)), .ptr (some (a, 0))], .int .i64 2, .fn (.func 89) [] [.ptr (some (f, 0)), .ptr (some (a, 0))], .int .i64 3, .fn (.func 90) [] [.ptr (some (gy, 0)), .ptr (some (f, 0))]] := (ori.le le7)
     refine Lo (w_ldA (l := [.int .i64 3, .fn (.func 90) [] [.ptr (some (gy, 0)), .ptr (some (f, 0))]]) tA129 o66.cells ?_)
     refine Lo (x_alloc (zc := [.int .i64 0, .nilFunc]) tN129 ?_)
     intro i67 h68 w69
     have o70 : Own h6 a [.slice bp bn cb, .slice rp rn cr, .slice ep en ce, .slice qp qn cq] := (oa.le le7)
     have ne71 : a ≠ i67 := ne_of_free w69.free o70
     have o72 : Own h6 f [.fn (.func 87) [] [.ptr (some (a, 0))]] := (of.le le7)
     have ne73 : f ≠ i67 := ne_of_free w69.free o72
     have o74 : Own h6 gy [.ptr (some (x, 0))] := (og.le le7)
     have ne75 : gy ≠ i67 := ne_of_free w69.free o74
     have ne76 : ri ≠ i67 := ne_of_free w69.free o66
     have o77 : h6.cells x = some cs := (le7.cells hx)
     have ne78 : x ≠ i67 := ne_of_cells w69.free o77
     refine Lz (x_store (vc := [.int .i64 3, .fn (.func 90) [] [.ptr (some (gy, 0)), .ptr (some (f, 0))]]) (cs' := [.int .i64 3, .fn (.func 90) [] [.ptr (some (gy, 0)), .ptr (some (f, 0))]]) tZ129 w69.own ?_)
     intro h79 bt80 o81
     refine Sr (Lo (w_fieldAddr tF129_1 tZ127 ?_))
     refine Lo (w_ldC tC127 o81.cells ?_)
     refine Lo (w_move ?_)
     refine Lo (w_move ?_)
     have o82 : Own h79 gy [.ptr (some (x, 0))] := ((o74.le w69.le).but bt80 ne75)
     have o83 : Own h79 f [.fn (.func 87) [] [.ptr (some (a, 0))]] := ((o72.le w69.le).but bt80 ne73)
     have o84 : Own h79 a [.slice bp bn cb, .slice rp rn cr, .slice ep en ce, .slice qp qn cq] := ((o70.le w69.le).but bt80 ne71)
     have l0_2_85 : Le h h68 := le7.trans w69.le
     have l0_3_86 : Le h h79 := l0_2_85.but bt80 (le7.free w69.free)
     have o87 : h79.cells x = some cs := (bt80.cells ne78 (w69.le.cells o77))
     refine Lo (w_callV' ?_ (hR := by exact JApp_fn isf90 (c90 (by omega) (by omega) o82 o83 (sbp.leL l0_3_86 l0_3_86) (by omega) (srp.leL l0_3_86 l0_3_86) (by omega) (sep.leL l0_3_86 l0_3_86) (by omega) (sqp.leL l0_3_86 l0_3_86) (by omega) o84 o87 lx gx_ (by omega) (by omega))))
     rintro e88 h89 ⟨b90, rfl, le91⟩
     refine Ln ?_
     refine Cb (fun q92 => ?_) (fun q92 => ?_)
     · subst q92
       refine Sr (Lo (w_fieldAddr tF129_0 tZ3 ?_))
       have o93 : Own h89 i67 [.int .i64 3, .fn (.func 90) [] [.ptr (some (gy, 0)), .ptr (some (f, 0))]] := (o81.le le91)
       refine Lo (w_ldC tC3 o93.cells ?_)
       refine Lz (w_assign ?_)
       refine Rt ?_
       refine blk_r (then_r (then_r (blk_r (then_r ?_))))
       refine leave_ret rfl ?_
       have l0_4_94 : Le h h89 := l0_3_86.trans le91
       exact ⟨_, rfl, (by omega), l0_4_94⟩
     · subst q92
       refine Sk ?_
       refine Rg (Lo (w_add ?_))
       refine Lz (w_move ?_)
       have l0_4_95 : Le h h89 := l0_3_86.trans le91
       exact ⟨(2 + 1), h89, ⟨⟨(by omega), l0_4_95⟩, by omega⟩, rfl, rfl, rfl, rfl, rfl, rfl, rfl, rfl, trivial⟩
 · refine Ex ?_
   refine then_x (then_x (blk_eq rfl ?_))
   refine Sr (Lz (w_assign ?_))
   refine Rt ?_
   refine leave_ret rfl ?_
   exact ⟨_, rfl, (by omega), le7⟩
theorem c68 {h : AH}  {bp : Option (Nat × Nat)} {bn : Nat} {cbp : Cap} {rp : Option (Nat × Nat)} {rn : Nat} {crp : Cap} {ep : Option (Nat × Nat)} {en : Nat} {cep : Cap} {qp : Option (Nat × Nat)} {qn : Nat} {cqp : Cap} (sbp : SlV h bp bn 5 (okL h [.str, .int 0 5, .int 0 1000, .int 0 1000, .bool])) (mbp : bn ≤ 1048576) (srp : SlV h rp rn 2 (okL h [.str, .int 0 5])) (mrp : rn ≤ 1048576) (sep : SlV h ep en 2 (okL h [.int 0 100, .bool])) (mep : en ≤ 1048576) (sqp : SlV h qp qn 4 (okL h [.int 0 ((rn : Int) - 1), .int 0 ((bn : Int) - 1), .int 1 12, .int 0 100])) (mqp : qn ≤ 1048576) (e0 : bn ≤ 8) (e1 : rn ≤ 8) (e2 : en ≤ 6) (e3 : qn ≤ 8) : JCall Tryz.prog 68 [.agg [.slice bp bn cbp, .slice rp rn crp, .slice ep en cep, .slice qp qn cqp]] h (fun e h' => ∃ (x : Nat), e = .ret (.ptr (some (x, 0))) ∧ RoomOK h' x bn rn en qn ∧ Le h h') := by
 refine JCall_of_J (N := 54) (sl := [(0, _)]) isf68 rfl (by show 1 ≤ 54; decide) rfl ?_
 refine Sr (Lo (x_box (z := [.slice bp bn cbp, .slice rp rn crp, .slice ep en cep, .slice qp qn cqp]) ?_))
 intro i5 h6 w7
 refine Lz (w_assign ?_)
 refine Sr (Lo (w_ldA (l := [.slice bp bn cbp, .slice rp rn crp, .slice ep en cep, .slice qp qn cqp]) tA27 w7.own.cells ?_))
 refine Lo (w_build (out := [.slice bp bn cbp, .slice rp rn crp, .slice ep en cep, .slice qp qn cqp, .int .i64 0, .int .i64 0, .int .i64 0, .int .i64 0, .int .i64 0, .int .i64 0, .int .i64 0, .int .i64 0, .int .i64 0, .int .i64 0, .int .i64 0, .int .i64 0, .int .i64 0, .int .i64 0, .int .i64 0, .int .i64 0, .int .i64 0, .int .i64 0, .int .i64 0, .int .i64 0, .int .i64 0, .int .i64 0, .int .i64 0, .int .i64 0, .int .i64 0, .int .i64 0, .int .i64 0, .int .i64 0, .int .i64 0, .int .i64 0, .int .i64 0, .int .i64 0, .int .i64 0, .int .i64 0, .int .i64 0, .int .i64 0, .int .i64 0, .int .i64 0, .int .i64 0, .int .i64 0, .int .i64 0, .int .i64 0, .int .i64 0, .int .i64 0, .int .i64 0, .int .i64 0, .int .i64 0, .int .i64 0, .slice none 0 (.exact 0)]) tP98 tN98 ?_)
 refine Lo (x_box (z := [.slice bp bn cbp, .slice rp rn crp, .slice ep en cep, .slice qp qn cqp, .int .i64 0, .int .i64 0, .int .i64 0, .int .i64 0, .int .i64 0, .int .i64 0, .int .i64 0, .int .i64 0, .int .i64 0, .int .i64 0, .int .i64 0, .int .i64 0, .int .i64 0, .int .i64 0, .int .i64 0, .int .i64 0, .int .i64 0, .int .i64 0, .int .i64 0, .int .i64 0, .int .i64 0, .int .i64 0, .int .i64 0, .int .i64 0, .int .i64 0, .int .i64 0, .int .i64 0, .int .i64 0, .int .i64 0, .int .i64 0, .int .i64 0, .int .i64 0, .int .i64 0, .int .i64 0, .int .i64 0, .int .i64 0, .int .i64 0, .int .i64 0, .int .i64 0, .int .i64 0, .int .i64 0, .int .i64 0, .int .i64 0, .int .i64 0, .int .i64 0, .int .i64 0, .int .i64 0, .int .i64 0, .slice none 0 (.exact 0)]) ?_)
 intro i8 h9 w10
 have ne11 : i5 ≠ i8 := ne_of_free w10.free w7.own
 refine Lo (x_alloc (zc := [.ptr none]) tN83 ?_)
 intro i12 h13 w14
 have o15 : Own h9 i5 [.slice bp bn cbp, .slice rp rn crp, .slice ep en cep, .slice qp qn cqp] := (w7.own.le w10.le)
 have ne16 : i5 ≠ i12 := ne_of_free w14.free o15
 have ne17 : i8 ≠ i12 := ne_of_free w14.free w10.own
 refine Lz (x_store (vc := [.ptr (some (i8, 0))]) (cs' := [.ptr (some (i8, 0))]) tZ83 w14.own ?_)
 intro h18 bt19 o20
 refine Sq (Sr ?_)
 refine Lo (w_fieldAddr tF27_3 tZ25 ?_)
 have o21 : Own h18 i5 [.slice bp bn cbp, .slice rp rn crp, .slice ep en cep, .slice qp qn cqp] := ((o15.le w14.le).but bt19 ne16)
 refine Lo (w_ldC tC25 o21.cells ?_)
 refine Lo (w_len tS25 ?_)
 refine Lz (w_move ?_)
 refine Bk ?_
 have o23 : Own h18 i8 [.slice bp bn cbp, .slice rp rn crp, .slice ep en cep, .slice qp qn cqp, .int .i64 0, .int .i64 0, .int .i64 0, .int .i64 0, .int .i64 0, .int .i64 0, .int .i64 0, .int .i64 0, .int .i64 0, .int .i64 0, .int .i64 0, .int .i64 0, .int .i64 0, .int .i64 0, .int .i64 0, .int .i64 0, .int .i64 0, .int .i64 0, .int .i64 0, .int .i64 0, .int .i64 0, .int .i64 0, .int .i64 0, .int .i64 0, .int .i64 0, .int .i64 0, .int .i64 0, .int .i64 0, .int .i64 0, .int .i64 0, .int .i64 0, .int .i64 0, .int .i64 0, .int .i64 0, .int .i64 0, .int .i64 0, .int .i64 0, .int .i64 0, .int .i64 0, .int .i64 0, .int .i64 0, .int .i64 0, .int .i64 0, .int .i64 0, .int .i64 0, .int .i64 0, .int .i64 0, .int .i64 0, .slice none 0 (.exact 0)] := ((w10.own.le w14.le).but bt19 ne17)
 refine J_for3 (x := C68 [0, 0, 1, 0, 1, 1]) (fun (x15_22 : Int) (cs24 : List AV) (h32 : AH) => ⟨[(1, .ptr (some (i5, 0))), (3, .ptr (some (i12, 0))), (13, .slice qp qn cqp), (14, .int .i64 ((qn : Nat) : Int)), (15, .int .i64 x15_22)], h32, 54, []⟩) (fun (x15_22 : Int) (cs24 : List AV) (h32 : AH) => 0 ≤ x15_22 ∧ cs24.length = 53 ∧ cs24[0]? = some (.slice bp bn cbp) ∧ cs24[1]? = some (.slice rp rn crp) ∧ cs24[2]? = some (.slice ep en cep) ∧ cs24[3]? = some (.slice qp qn cqp) ∧ Rng cs24 4 52 0 1200 ∧ LeM [i8] h18 h32 ∧ Own h32 i8 cs24) (fun (x15_22 : Int) (cs24 : List AV) (h32 : AH) => (((qn : Nat) : Int) - x15_22).toNat) 0 [.slice bp bn cbp, .slice rp rn crp, .slice ep en cep, .slice qp qn cqp, .int .i64 0, .int .i64 0, .int .i64 0, .int .i64 0, .int .i64 0, .int .i64 0, .int .i64 0, .int .i64 0, .int .i64 0, .int .i64 0, .int .i64 0, .int .i64 0, .int .i64 0, .int .i64 0, .int .i64 0, .int .i64 0, .int .i64 0, .int .i64 0, .int .i64 0, .int .i64 0, .int .i64 0, .int .i64 0, .int .i64 0, .int .i64 0, .int .i64 0, .int .i64 0, .int .i64 0, .int .i64 0, .int .i64 0, .int .i64 0, .int .i64 0, .int .i64 0, .int .i64 0, .int .i64 0, .int .i64 0, .int .i64 0, .int .i64 0, .int .i64 0, .int .i64 0, .int .i64 0, .int .i64 0, .int .i64 0, .int .i64 0, .int .i64 0, .int .i64 0, .int .i64 0, .int .i64 0, .int .i64 0, .slice none 0 (.exact 0)] h18 rfl ⟨rfl, rfl, rfl, rfl, rfl, rfl, rfl, rfl, trivial⟩ ⟨(by omega), (rfl), (rfl), (rfl), (rfl), (rfl), (Rng.rep (pre := [.slice bp bn cbp, .slice rp rn crp, .slice ep en cep, .slice qp qn cqp]) (m := 48) (z := 0) (post := [.slice none 0 (.exact 0)]) rfl rfl rfl (by decide) (by decide)), .refl _ _, (o23)⟩ ?_
 intro x15_22 cs24 h32 hI
 obtain ⟨hxx15_22, ln26, kn27, kn28, kn29, kn30, rg31, lm33, o25⟩ : 0 ≤ x15_22 ∧ cs24.length = 53 ∧ cs24[0]? = some (.slice bp bn cbp) ∧ cs24[1]? = some (.slice rp rn crp) ∧ cs24[2]? = some (.slice ep en cep) ∧ cs24[3]? = some (.slice qp qn cqp) ∧ Rng cs24 4 52 0 1200 ∧ LeM [i8] h18 h32 ∧ Own h32 i8 cs24 := hI
 show J _ _ (C68 [0, 0, 1, 0, 1, 1]) ⟨[(1, .ptr (some (i5, 0))), (3, .ptr (some (i12, 0))), (13, .slice qp qn cqp), (14, .int .i64 ((qn : Nat) : Int)), (15, .int .i64 x15_22)], h32, 54, []⟩ _
 refine Sr (Lz (w_lt ?_))
 refine Sq ?_
 refine Cn (fun q34 => ?_) (fun q34 => ?_)
 · refine Sk ?_
   refine Sq (Bk ?_)
   refine Sr (Lo (w_move ?_))
   have l0_2_35 : Le h h9 := w7.le.trans w10.le
   have l0_3_36 : Le h h13 := l0_2_35.trans w14.le
   have l0_4_37 : Le h h18 := l0_3_36.but bt19 (l0_2_35.free w14.free)
   have l0_5_38 : Le h h32 := l0_4_37.turn lm33 (by simp only [List.mem_cons, List.not_mem_nil, or_false, forall_eq_or_imp, forall_eq]; exact (w7.le.free w10.free))
   obtain ⟨i46, o47, cs45, l44, rfl, hc39, hl40, hk41, hE42, ht43⟩ := (sqp.le l0_5_38).at (i := x15_22) (by omega) (by omega)
   obtain ⟨_, _, rfl, ⟨n48, rfl, lon48, hin48⟩, _, _, rfl, ⟨n49, rfl, lon49, hin49⟩, _, _, rfl, ⟨n50, rfl, lon50, hin50⟩, _, _, rfl, ⟨n51, rfl, lon51, hin51⟩, rfl⟩ := hE42
   refine Lo (w_indexAddrS tS25 tZ82 ?_)
   refine Lo (w_ldA tA82 hc39 ?_ (hn := hl40) (hl := ht43))
   refine Lo (x_alloc (zc := [.int .i64 0, .int .i64 0, .int .i64 0, .int .i64 0]) tN82 ?_)
   intro i52 h53 w54
   have o55 : Own h32 i5 [.slice bp bn cbp, .slice rp rn crp, .slice ep en cep, .slice (some (i46, o47)) qn cqp] := (o21.leM lm33 (by simp only [List.mem_cons, List.not_mem_nil, or_false, not_or]; exact ne11))
   have ne56 : i5 ≠ i52 := ne_of_free w54.free o55
   have ne57 : i8 ≠ i52 := ne_of_free w54.free o25
   have o58 : Own h32 i12 [.ptr (some (i8, 0))] := (o20.leM lm33 (by simp only [List.mem_cons, List.not_mem_nil, or_false, not_or]; exact ne17.symm))
   have ne59 : i12 ≠ i52 := ne_of_free w54.free o58
   refine Lo (w_assign ?_)
   refine Lz (x_store (vc := [.int .i64 n48, .int .i64 n49, .int .i64 n50, .int .i64 n51]) (cs' := [.int .i64 n48, .int .i64 n49, .int .i64 n50, .int .i64 n51]) tZ82 w54.own ?_)
   intro h60 bt61 o62
   refine Sr (Lo (w_fieldAddr tF27_2 tZ24 ?_))
   have o63 : Own h60 i5 [.slice bp bn cbp, .slice rp rn crp, .slice ep en cep, .slice (some (i46, o47)) qn cqp] := ((o55.le w54.le).but bt61 ne56)
   refine Lo (w_ldC tC24 o63.cells ?_)
   refine Lo (w_len tS24 ?_)
   refine Lz (w_move ?_)
   refine Bk ?_
   have o65 : Own h60 i12 [.ptr (some (i8, 0))] := ((o58.le w54.le).but bt61 ne59)
   have o66 : Own h60 i8 cs24 := ((o25.le w54.le).but bt61 ne57)
   refine J_for3 (x := C68 [0, 0, 1, 1, 0, 0, 1, 1, 0, 0, 1, 0, 1, 1]) (fun (x23_64 : Int) (cs67 : List AV) (h75 : AH) => ⟨[(1, .ptr (some (i5, 0))), (3, .ptr (some (i12, 0))), (13, .slice (some (i46, o47)) qn cqp), (14, .int .i64 ((qn : Nat) : Int)), (15, .int .i64 x15_22), (5, .ptr (some (i52, 0))), (4, .int .i64 x15_22), (21, .slice ep en cep), (22, .int .i64 ((en : Nat) : Int)), (23, .int .i64 x23_64)], h75, 54, []⟩) (fun (x23_64 : Int) (cs67 : List AV) (h75 : AH) => 0 ≤ x23_64 ∧ cs67.length = 53 ∧ cs67[0]? = some (.slice bp bn cbp) ∧ cs67[1]? = some (.slice rp rn crp) ∧ cs67[2]? = some (.slice ep en cep) ∧ cs67[3]? = some (.slice (some (i46, o47)) qn cqp) ∧ Rng cs67 4 52 0 1200 ∧ LeM [i8] h60 h75 ∧ Own h75 i8 cs67) (fun (x23_64 : Int) (cs67 : List AV) (h75 : AH) => (((en : Nat) : Int) - x23_64).toNat) 0 cs24 h60 rfl ⟨rfl, rfl, rfl, rfl, rfl, rfl, rfl, rfl, rfl, rfl, rfl, rfl, rfl, trivial⟩ ⟨(by omega), (ln26), (kn27), (kn28), (kn29), (kn30), (rg31), .refl _ _, (o66)⟩ ?_
   intro x23_64 cs67 h75 hI
   obtain ⟨hxx23_64, ln69, kn70, kn71, kn72, kn73, rg74, lm76, o68⟩ : 0 ≤ x23_64 ∧ cs67.length = 53 ∧ cs67[0]? = some (.slice bp bn cbp) ∧ cs67[1]? = some (.slice rp rn crp) ∧ cs67[2]? = some (.slice ep en cep) ∧ cs67[3]? = some (.slice (some (i46, o47)) qn cqp) ∧ Rng cs67 4 52 0 1200 ∧ LeM [i8] h60 h75 ∧ Own h75 i8 cs67 := hI
   show J _ _ (C68 [0, 0, 1, 1, 0, 0, 1, 1, 0, 0, 1, 0, 1, 1]) ⟨[(1, .ptr (some (i5, 0))), (3, .ptr (some (i12, 0))), (13, .slice (some (i46, o47)) qn cqp), (14, .int .i64 ((qn : Nat) : Int)), (15, .int .i64 x15_22), (5, .ptr (some (i52, 0))), (4, .int .i64 x15_22), (21, .slice ep en cep), (22, .int .i64 ((en : Nat) : Int)), (23, .int .i64 x23_64)], h75, 54, []⟩ _
   refine Sr (Lz (w_lt ?_))
   refine Sq ?_
   refine Cn (fun q77 => ?_) (fun q77 => ?_)
   · refine Sk ?_
     refine Sq (Bk ?_)
     refine Sr (Lo (w_move ?_))
     have l0_6_78 : Le h h53 := l0_5_38.trans w54.le
     have fr79 : h.get i52 = none := (w7.le.free (w10.le.free (w14.le.free (bt19.free ne59.symm (lm33.free (by simp only [List.mem_cons, List.not_mem_nil, or_false, not_or]; exact ne57.symm) w54.free)))))
     have l0_7_80 : Le h h60 := l0_6_78.but bt61 fr79
     have l0_8_81 : Le h h75 := l0_7_80.turn lm76 (by simp only [List.mem_cons, List.not_mem_nil, or_false, forall_eq_or_imp, forall_eq]; exact (w7.le.free w10.free))
     obtain ⟨i89, o90, cs88, l87, rfl, hc82, hl83, hk84, hE85, ht86⟩ := (sep.le l0_8_81).at (i := x23_64) (by omega) (by omega)
     obtain ⟨_, _, rfl, ⟨n91, rfl, lon91, hin91⟩, _, _, rfl, ⟨b92, rfl⟩, rfl⟩ := hE85
     refine Lo (w_indexAddrS tS24 tZ80 ?_)
     refine Lo (w_ldA tA80 hc82 ?_ (hn := hl83) (hl := ht86))
     refine Lo (x_alloc (zc := [.int .i64 0, .bool false]) tN80 ?_)
     intro i93 h94 w95
     have o96 : Own h75 i5 [.slice bp bn cbp, .slice rp rn crp, .slice (some (i89, o90)) en cep, .slice (some (i46, o47)) qn cqp] := (o63.leM lm76 (by simp only [List.mem_cons, List.not_mem_nil, or_false, not_or]; exact ne11))
     have ne97 : i5 ≠ i93 := ne_of_free w95.free o96
     have ne98 : i8 ≠ i93 := ne_of_free w95.free o68
     have o99 : Own h75 i12 [.ptr (some (i8, 0))] := (((o58.le w54.le).but bt61 ne59).leM lm76 (by simp only [List.mem_cons, List.not_mem_nil, or_false, not_or]; exact ne17.symm))
     have ne100 : i12 ≠ i93 := ne_of_free w95.free o99
     have o101 : Own h75 i52 [.int .i64 n48, .int .i64 n49, .int .i64 n50, .int .i64 n51] := (o62.leM lm76 (by simp only [List.mem_cons, List.not_mem_nil, or_false, not_or]; exact ne57.symm))
     have ne102 : i52 ≠ i93 := ne_of_free w95.free o101
     refine Lo (w_assign ?_)
     refine Lz (x_store (vc := [.int .i64 n91, .bool b92]) (cs' := [.int .i64 n91, .bool b92]) tZ80 w95.own ?_)
     intro h103 bt104 o105
     refine J_drawS (opsAt (C68 [1, 0, 0, 1, 1, 0, 0, 1, 1, 0, 0, 1, 1, 0, 0, 1, 0, 1, 1])) [[(3, none)], [(4, none)], [(6, none)], [(5, none)], [(31, some 3)], [(7, none)], [(33, some 5)], [(32, some 4), (34, some 6)], [(28, some 0)], [(36, some 8)], [(29, some 1), (37, some 9)], [(30, some 2), (38, some 10)], [(35, some 7), (39, some 11)]] ?_
     have o106 : Own h103 i12 [.ptr (some (i8, 0))] := ((o99.le w95.le).but bt104 ne100)
     refine Dp (w_ldC tC83 o106.cells ⟨rfl, rfl⟩) ?_
     refine Dp (w_move ⟨rfl, rfl⟩) ?_
     refine Dp (w_move ⟨rfl, rfl⟩) ?_
     refine Dp (w_fieldAddr tF82_2 tZ3 ⟨rfl, rfl⟩) ?_
     have o107 : Own h103 i52 [.int .i64 n48, .int .i64 n49, .int .i64 n50, .int .i64 n51] := ((o101.le w95.le).but bt104 ne102)
     refine Dp (w_ldC tC3 o107.cells ⟨rfl, rfl⟩) ?_
     refine Dp (w_fieldAddr tF80_0 tZ3 ⟨rfl, rfl⟩) ?_
     refine Dp (w_ldC tC3 o105.cells ⟨rfl, rfl⟩) ?_
     have mr108 := mul_rng (a := n50) (b := n91) (A := 12) (B := 100) (by omega) (by omega) (by omega) (by omega)
     refine Dp (w_mul ⟨rfl, rfl⟩) ?_
     refine Dp (w_nilCheck_ptr ⟨rfl, rfl⟩) ?_
     refine Dp (w_fieldAddr tF98_1 tZ95 ⟨rfl, rfl⟩) ?_
     refine Dp (w_indexAddrA tR95 tZ94 ⟨rfl, rfl⟩) ?_
     refine Dp (w_indexAddrA tR94 tZ3 ⟨rfl, rfl⟩) ?_
     have o109 : Own h103 i8 cs67 := ((o68.le w95.le).but bt104 ne98)
     refine Da (h₁ := h103) (x_store (vc := [.int .i64 (n50 * n91)]) (cs' := (splice cs67 (4 + x15_22.toNat * 6 + x23_64.toNat * 1) [.int .i64 (n50 * n91)])) tZ3 o109 ?_ (hle := by omega))
     intro h110 bt111 o112
     have ln113 : (splice cs67 (4 + x15_22.toNat * 6 + x23_64.toNat * 1) [.int .i64 (n50 * n91)]).length = 53 := splice_len1 (by omega : 4 + x15_22.toNat * 6 + x23_64.toNat * 1 < cs67.length) ln69
     have kn114 : (splice cs67 (4 + x15_22.toNat * 6 + x23_64.toNat * 1) [.int .i64 (n50 * n91)])[0]? = some (.slice bp bn cbp) := (splice_ne (by omega : 4 + x15_22.toNat * 6 + x23_64.toNat * 1 < cs67.length) (by omega)).trans kn70
     have kn115 : (splice cs67 (4 + x15_22.toNat * 6 + x23_64.toNat * 1) [.int .i64 (n50 * n91)])[1]? = some (.slice rp rn crp) := (splice_ne (by omega : 4 + x15_22.toNat * 6 + x23_64.toNat * 1 < cs67.length) (by omega)).trans kn71
     have kn116 : (splice cs67 (4 + x15_22.toNat * 6 + x23_64.toNat * 1) [.int .i64 (n50 * n91)])[2]? = some (.slice (some (i89, o90)) en cep) := (splice_ne (by omega : 4 + x15_22.toNat * 6 + x23_64.toNat * 1 < cs67.length) (by omega)).trans kn72
     have kn117 : (splice cs67 (4 + x15_22.toNat * 6 + x23_64.toNat * 1) [.int .i64 (n50 * n91)])[3]? = some (.slice (some (i46, o47)) qn cqp) := (splice_ne (by omega : 4 + x15_22.toNat * 6 + x23_64.toNat * 1 < cs67.length) (by omega)).trans kn73
     have rg118 : Rng (splice cs67 (4 + x15_22.toNat * 6 + x23_64.toNat * 1) [.int .i64 (n50 * n91)]) 4 52 0 1200 := Rng.set rg74 (by omega : 4 + x15_22.toNat * 6 + x23_64.toNat * 1 < cs67.length) (by omega) (by omega)
     refine Ao ?_
     refine JD_end (effs := [12]) (fin := [(1, none), (3, none), (13, none), (14, none), (15, none), (5, none), (4, none), (21, none), (22, none), (23, none)]) (slF := [(1, .ptr (some (i5, 0))), (3, .ptr (some (i12, 0))), (13, .slice (some (i46, o47)) qn cqp), (14, .int .i64 ((qn : Nat) : Int)), (15, .int .i64 x15_22), (5, .ptr (some (i52, 0))), (4, .int .i64 x15_22), (21, .slice (some (i89, o90)) en cep), (22, .int .i64 ((en : Nat) : Int)), (23, .int .i64 x23_64)]) rfl mixed (by kernel_rfl) (by kernel_rfl) rfl rfl ?_
     refine Rg (Lo (w_add ?_))
     refine Lz (w_move ?_)
     have fr119 : h60.get i93 = none := (lm76.free (by simp only [List.mem_cons, List.not_mem_nil, or_false, not_or]; exact ne98.symm) w95.free)
     exact ⟨(x23_64 + 1), (splice cs67 (4 + x15_22.toNat * 6 + x23_64.toNat * 1) [.int .i64 (n50 * n91)]), h110, ⟨⟨(by omega), ln113, kn114, kn115, kn116, kn117, rg118, (((((LeM.refl [i8] h60).turnM lm76 (by simp)).le w95.le).butF bt104 fr119).butM bt111 (by simp)), o112⟩, by omega⟩, rfl, rfl, rfl, rfl, rfl, rfl, rfl, rfl, rfl, rfl, rfl, rfl, rfl, trivial⟩
   · refine Ex ?_
     refine then_x (then_x (blk_eq rfl ?_))
     refine Rg (Lo (w_add ?_))
     refine Lz (w_move ?_)
     have fr120 : h18.get i52 = none := (lm33.free (by simp only [List.mem_cons, List.not_mem_nil, or_false, not_or]; exact ne57.symm) w54.free)
     exact ⟨(x15_22 + 1), cs67, h75, ⟨⟨(by omega), ln69, kn70, kn71, kn72, kn73, rg74, (((((LeM.refl [i8] h18).turnM lm33 (by simp)).le w54.le).butF bt61 fr120).turnM lm76 (by simp)), o68⟩, by omega⟩, rfl, rfl, rfl, rfl, rfl, rfl, rfl, rfl, trivial⟩
 · refine Ex ?_
   refine then_x (then_x (blk_eq rfl ?_))
   refine Sr (Lo (w_makeFunc ?_))
   refine Lo (x_alloc (zc := [.nilFunc]) tN137 ?_)
   intro i121 h122 w123
   have o124 : Own h32 i5 [.slice bp bn cbp, .slice rp rn crp, .slice ep en cep, .slice qp qn cqp] := (o21.leM lm33 (by simp only [List.mem_cons, List.not_mem_nil, or_false, not_or]; exact ne11))
   have ne125 : i5 ≠ i121 := ne_of_free w123.free o124
   have ne126 : i8 ≠ i121 := ne_of_free w123.free o25
   have o127 : Own h32 i12 [.ptr (some (i8, 0))] := (o20.leM lm33 (by simp only [List.mem_cons, List.not_mem_nil, or_false, not_or]; exact ne17.symm))
   have ne128 : i12 ≠ i121 := ne_of_free w123.free o127
   refine Lz (x_store (vc := [.fn (.func 87) [] [.ptr (some (i5, 0))]]) (cs' := [.fn (.func 87) [] [.ptr (some (i5, 0))]]) tZ137 w123.own ?_)
   intro h129 bt130 o131
   refine Sr ?_
   have o132 : Own h129 i12 [.ptr (some (i8, 0))] := ((o127.le w123.le).but bt130 ne128)
   refine Lo (w_ldC tC83 o132.cells ?_)
   refine Lo (w_makeFunc ?_)
   refine Lo (w_build (out := [.int .i64 1, .fn (.func 88) [] [.ptr (some (i121, 0)), .ptr (some (i5, 0))]]) tP129 tN129 ?_)
   refine Lo (w_makeFunc ?_)
   refine Lo (w_build (out := [.int .i64 2, .fn (.func 89) [] [.ptr (some (i121, 0)), .ptr (some (i5, 0))]]) tP129 tN129 ?_)
   refine Lo (w_makeFunc ?_)
   refine Lo (w_build (out := [.int .i64 3, .fn (.func 90) [] [.ptr (some (i12, 0)), .ptr (some (i121, 0))]]) tP129 tN129 ?_)
   refine Lo (x_buildSlice (out := [.int .i64 1, .fn (.func 88) [] [.ptr (some (i121, 0)), .ptr (some (i5, 0))], .int .i64 2, .fn (.func 89) [] [.ptr (some (i121, 0)), .ptr (some (i5, 0))], .int .i64 3, .fn (.func 90) [] [.ptr (some (i12, 0)), .ptr (some (i121, 0))]]) tS96 tZ129 tN129 ?_)
   intro i133 h134 w135
   have o136 : Own h129 i5 [.slice bp bn cbp, .slice rp rn crp, .slice ep en cep, .slice qp qn cqp] := ((o124.le w123.le).but bt130 ne125)
   have ne137 : i5 ≠ i133 := ne_of_free w135.free o136
   have o138 : Own h129 i8 cs24 := ((o25.le w123.le).but bt130 ne126)
   have ne139 : i8 ≠ i133 := ne_of_free w135.free o138
   have ne140 : i12 ≠ i133 := ne_of_free w135.free o132
   have ne141 : i121 ≠ i133 := ne_of_free w135.free o131
   refine Lo (w_nilCheck_ptr ?_)
   refine Lo (w_fieldAddr tF98_2 tZ96 ?_)
   have o142 : Own h134 i8 cs24 := (o138.le w135.le)
   refine Lz (x_store (vc := [.slice (some (i133, 0)) 3 (.exact 3)]) (cs' := (splice cs24 52 [.slice (some (i133, 0)) 3 (.exact 3)])) tZ96 o142 ?_ (hle := by omega))
   intro h143 bt144 o145
   have ln146 : (splice cs24 52 [.slice (some (i133, 0)) 3 (.exact 3)]).length = 53 := splice_len1 (by omega : 52 < cs24.length) ln26
   have kn147 : (splice cs24 52 [.slice (some (i133, 0)) 3 (.exact 3)])[0]? = some (.slice bp bn cbp) := (splice_ne (by omega : 52 < cs24.length) (by omega)).trans kn27
   have kn148 : (splice cs24 52 [.slice (some (i133, 0)) 3 (.exact 3)])[1]? = some (.slice rp rn crp) := (splice_ne (by omega : 52 < cs24.length) (by omega)).trans kn28
   have kn149 : (splice cs24 52 [.slice (some (i133, 0)) 3 (.exact 3)])[2]? = some (.slice ep en cep) := (splice_ne (by omega : 52 < cs24.length) (by omega)).trans kn29
   have kn150 : (splice cs24 52 [.slice (some (i133, 0)) 3 (.exact 3)])[3]? = some (.slice qp qn cqp) := (splice_ne (by omega : 52 < cs24.length) (by omega)).trans kn30
   have rg151 : Rng (splice cs24 52 [.slice (some (i133, 0)) 3 (.exact 3)]) 4 52 0 1200 := Rng.put rg31 (by omega : 52 < cs24.length) (by omega)
   have kn152 : (splice cs24 52 [.slice (some (i133, 0)) 3 (.exact 3)])[52]? = some (.slice (some (i133, 0)) 3 (.exact 3)) := splice_eq (by omega : 52 < cs24.length)
   refine Sr ?_
   have o153 : Own h143 i12 [.ptr (some (i8, 0))] := ((o132.le w135.le).but bt144 ne17.symm)
   refine Lo (w_ldC tC83 o153.cells ?_)
   refine Lz (w_assign ?_)
   refine Rt ?_
   refine leave_ret rfl ?_
   have o154 : Own h143 i133 [.int .i64 1, .fn (.func 88) [] [.ptr (some (i121, 0)), .ptr (some (i5, 0))], .int .i64 2, .fn (.func 89) [] [.ptr (some (i121, 0)), .ptr (some (i5, 0))], .int .i64 3, .fn (.func 90) [] [.ptr (some (i12, 0)), .ptr (some (i121, 0))]] := (w135.own.but bt144 ne139.symm)
   have o155 : Own h143 i121 [.fn (.func 87) [] [.ptr (some (i5, 0))]] := ((o131.le w135.le).but bt144 ne126.symm)
   have o156 : Own h143 i5 [.slice bp bn cbp, .slice rp rn crp, .slice ep en cep, .slice qp qn cqp] := ((o136.le w135.le).but bt144 ne11)
   have l0_2_157 : Le h h9 := w7.le.trans w10.le
   have l0_3_158 : Le h h13 := l0_2_157.trans w14.le
   have l0_4_159 : Le h h18 := l0_3_158.but bt19 (l0_2_157.free w14.free)
   have l0_5_160 : Le h h32 := l0_4_159.turn lm33 (by simp only [List.mem_cons, List.not_mem_nil, or_false, forall_eq_or_imp, forall_eq]; exact (w7.le.free w10.free))
   have l0_6_161 : Le h h122 := l0_5_160.trans w123.le
   have fr162 : h.get i121 = none := (w7.le.free (w10.le.free (w14.le.free (bt19.free ne128.symm (lm33.free (by simp only [List.mem_cons, List.not_mem_nil, or_false, not_or]; exact ne126.symm) w123.free)))))
   have l0_7_163 : Le h h129 := l0_6_161.but bt130 fr162
   have l0_8_164 : Le h h134 := l0_7_163.trans w135.le
   have l0_9_165 : Le h h143 := l0_8_164.but bt144 (w7.le.free w10.free)
   exact ⟨_, rfl, ⟨_, _, _, _, _, _, _, _, _, i133, i121, i5, i12, o145.cells, ln146, rg151, kn147, kn148, kn149, kn150, kn152, o154, o155, o153, o156, by omega, by omega, by omega, by omega, (sbp.leL l0_9_165 l0_9_165), (srp.leL l0_9_165 l0_9_165), (sep.leL l0_9_165 l0_9_165), (sqp.leL l0_9_165 l0_9_165)⟩, l0_9_165⟩
theorem c46 {h : AH}  {bp : Option (Nat × Nat)} {bn : Nat} {cbp : Nat} {rp : Option (Nat × Nat)} {rn : Nat} {crp : Nat} {ep : Option (Nat × Nat)} {en : Nat} {cep : Nat} {qp : Option (Nat × Nat)} {qn : Nat} {cqp : Nat} {p : Option (Nat × Nat)} {n : Nat} {cp : Cap} (sbp : SlV h bp bn 5 (okL h [.str, .i, .i, .i, .bool])) (mbp : bn ≤ 1048576) (xbp : bn ≤ cbp) (srp : SlV h rp rn 2 (okL h [.str, .i])) (mrp : rn ≤ 1048576) (xrp : rn ≤ crp) (sep : SlV h ep en 2 (okL h [.i, .bool])) (mep : en ≤ 1048576) (xep : en ≤ cep) (sqp : SlV h qp qn 4 (okL h [.i, .i, .i, .i])) (mqp : qn ≤ 1048576) (xqp : qn ≤ cqp) (sp : SlV h p n 1 (okL h [.i])) (mp : n ≤ 1048576) : JCall Tryz.prog 46 [.agg [.slice bp bn (.exact cbp), .slice rp rn (.exact crp), .slice ep en (.exact cep), .slice qp qn (.exact cqp)], .slice p n cp] h (fun e h' => ∃ (v : AV) (er : Int), e = .ret (.tuple [v, .int .i64 er]) ∧ ((-9223372036854775808) ≤ er ∧ er ≤ 9223372036854775807) ∧ Le h h' ∧ (er = 0 → ∃ x, v = .ptr (some (x, 0)) ∧ RoomOK h' x bn rn en qn ∧ SlV h' p n 1 (okL h' [.int 0 ((qn : Int) - 1)]) ∧ SlV h' bp bn 5 (okL h' [.str, .int 0 5, .int 0 1000, .int 0 1000, .bool]) ∧ SlV h' rp rn 2 (okL h' [.str, .int 0 5]) ∧ SlV h' ep en 2 (okL h' [.int 0 100, .bool]) ∧ SlV h' qp qn 4 (okL h' [.int 0 ((rn : Int) - 1), .int 0 ((bn : Int) - 1), .int 1 12, .int 0 100]))) := by
 refine JCall_of_J (N := 43) (sl := [(0, _), (1, _)]) isf46 rfl (by show 2 ≤ 43; decide) rfl ?_
 refine Sr (Lo (x_box (z := [.slice bp bn (.exact cbp), .slice rp rn (.exact crp), .slice ep en (.exact cep), .slice qp qn (.exact cqp)]) ?_))
 intro i6 h7 w8
 refine Lo (w_assign ?_)
 refine Lz (w_assign ?_)
 refine Sq (Sr ?_)
 refine Lo (w_ldA (l := [.slice bp bn (.exact cbp), .slice rp rn (.exact crp), .slice ep en (.exact cep), .slice qp qn (.exact cqp)]) tA27 w8.own.cells ?_)
 refine Lo (w_call' isf7 ?_ (hR := by exact c7 (sbp.leL w8.le w8.le) (by omega) (by omega) (srp.leL w8.le w8.le) (by omega) (by omega) (sep.leL w8.le w8.le) (by omega) (by omega) (sqp.leL w8.le w8.le) (by omega) (by omega)))
 rintro e9 h10 ⟨n11, n12, n13, rfl, hbn11, hbn12, hbn13, le14, k15⟩
 refine Lo (w_move ?_)
 refine Lo (w_extract ?_)
 refine Lo (w_extract ?_)
 refine Lo (w_extract ?_)
 refine Lo (w_assign ?_)
 refine Lo (w_assign ?_)
 refine Lz (w_assign ?_)
 refine Sr (Lo (w_move ?_))
 refine Lz (w_ne ?_)
 refine Cn (fun q16 => ?_) (fun q16 => ?_)
 · refine Sr (Lo (w_move ?_))
   refine Lo (w_assign ?_)
   refine Lz (w_assign ?_)
   refine Rt ?_
   refine then_r ?_
   refine leave_ret rfl ?_
   have l0_2_17 : Le h h10 := w8.le.trans le14
   exact ⟨_, _, rfl, (by omega), l0_2_17, (fun q => absurd q (by omega))⟩
 · obtain ⟨⟨mx18, sv19⟩, ⟨mx21, sv22⟩, ⟨mx24, sv25⟩, ⟨mx27, sv28⟩⟩ := k15 (by omega)
   refine Sk ?_
   refine Sq (Sr ?_)
   refine Lo (w_fieldAddr tF27_3 tZ25 ?_)
   have o30 : Own h10 i6 [.slice bp bn (.exact cbp), .slice rp rn (.exact crp), .slice ep en (.exact cep), .slice qp qn (.exact cqp)] := (w8.own.le le14)
   refine Lo (w_ldC tC25 o30.cells ?_)
   refine Lo (w_len tS25 ?_)
   refine Lo (w_sub ?_)
   refine Lo (w_move ?_)
   have l0_2_31 : Le h h10 := w8.le.trans le14
   refine Lo (w_call' isf43 ?_ (hR := by exact c43 (sp.leL l0_2_31 l0_2_31) (by omega)))
   rintro e32 h33 ⟨b34, rfl, le35, k36⟩
   refine Ln ?_
   refine Cb (fun q37 => ?_) (fun q37 => ?_)
   · subst q37
     refine Sr (Lo (w_assign ?_))
     refine Lz (w_assign ?_)
     refine Rt ?_
     refine then_r ?_
     refine leave_ret rfl ?_
     have l0_3_38 : Le h h33 := l0_2_31.trans le35
     exact ⟨_, _, rfl, (by omega), l0_3_38, (fun q => absurd q (by omega))⟩
   · subst q37
     have sv40 := k36 rfl
     refine Sk ?_
     refine Sq (Sr ?_)
     refine Lz (w_assign ?_)
     refine Bk ?_
     refine J_for1 (x := C46 [0, 0, 1, 0, 1, 1, 1]) (fun (x9_41 : Int) => ⟨[(1, .slice p n cp), (2, .ptr (some (i6, 0))), (9, .int .i64 x9_41)], h33, 43, []⟩) (fun (x9_41 : Int) => 1 ≤ x9_41) (fun (x9_41 : Int) => ((n : Int) - x9_41).toNat) 1 rfl ⟨rfl, rfl, rfl, rfl, rfl, rfl, trivial⟩ (by omega) ?_
     intro x9_41 hI
     obtain hxx9_41 : 1 ≤ x9_41 := hI
     show J _ _ (C46 [0, 0, 1, 0, 1, 1, 1]) ⟨[(1, .slice p n cp), (2, .ptr (some (i6, 0))), (9, .int .i64 x9_41)], h33, 43, []⟩ _
     refine Sq (Sr ?_)
     refine Lo (w_move ?_)
     refine Lo (w_move ?_)
     refine Lo (w_len tS28 ?_)
     refine Lz (w_lt ?_)
     refine Cn (fun q42 => ?_) (fun q42 => ?_)
     · refine Sk ?_
       refine Sq (Bk ?_)
       refine Sq ?_
       refine J_drawS (opsAt (C46 [0, 0, 0, 1, 0, 0, 1, 0, 1, 1, 1])) [[(1, none)], [(9, none)], [(31, some 0), (32, some 1)], [(33, some 2)], [(1, none)], [(9, none)], [(36, some 5)], [(35, some 4), (37, some 6)], [(38, some 7)], [(34, some 3), (39, some 8)]] ?_
       refine Dp (w_move ⟨rfl, rfl⟩) ?_
       refine Dp (w_move ⟨rfl, rfl⟩) ?_
       obtain ⟨i50, o51, cs49, l48, rfl, hc43, hl44, hk45, hE46, ht47⟩ := sv40.at (i := x9_41) (by omega) (by omega)
       obtain ⟨_, _, rfl, ⟨n52, rfl, lon52, hin52⟩, rfl⟩ := hE46
       refine Dp (w_indexAddrS tS28 tZ3 ⟨rfl, rfl⟩) ?_
       refine Dp (w_ldC tC3 hc43 ⟨rfl, rfl⟩ (hv := cell_of_take0 ht47 rfl)) ?_
       refine Dp (w_move ⟨rfl, rfl⟩) ?_
       refine Dp (w_move ⟨rfl, rfl⟩) ?_
       refine Dp (w_sub ⟨rfl, rfl⟩) ?_
       obtain ⟨cs59, l58, hc53, hl54, hk55, hE56, ht57⟩ := sv40.atS (i := x9_41 - 1) (by omega) (by omega)
       obtain ⟨_, _, rfl, ⟨n60, rfl, lon60, hin60⟩, rfl⟩ := hE56
       refine Dp (w_indexAddrS tS28 tZ3 ⟨rfl, rfl⟩) ?_
       refine Dp (w_ldC tC3 hc53 ⟨rfl, rfl⟩ (hv := cell_of_take0 ht57 rfl)) ?_
       refine Dp (w_le ⟨rfl, rfl⟩) ?_
       refine JD_end (effs := []) (fin := [(1, none), (2, none), (9, none), (40, some 9)]) (slF := [(1, .slice (some (i50, o51)) n cp), (2, .ptr (some (i6, 0))), (9, .int .i64 x9_41), (40, .bool (decide (n52 ≤ n60)))]) rfl mixed (by kernel_rfl) (by kernel_rfl) rfl rfl ?_
       refine Cn (fun q61 => ?_) (fun q61 => ?_)
       · refine Sr (Lo (w_assign ?_))
         refine Lz (w_assign ?_)
         refine Rt ?_
         refine blk_r (then_r (then_r (blk_r (then_r ?_))))
         refine leave_ret rfl ?_
         have l0_3_62 : Le h h33 := l0_2_31.trans le35
         exact ⟨_, _, rfl, (by omega), l0_3_62, (fun q => absurd q (by omega))⟩
       · refine Sk ?_
         refine Rg (Lo (w_move ?_))
         refine Lo (w_add ?_)
         refine Lz (w_assign ?_)
         exact ⟨(x9_41 + 1), ⟨(by omega), by omega⟩, rfl, rfl, rfl, rfl, rfl, rfl, trivial⟩
     · refine Ex ?_
       refine then_x (then_x (blk_eq rfl ?_))
       refine Sr ?_
       have o63 : Own h33 i6 [.slice bp bn (.exact cbp), .slice rp rn (.exact crp), .slice ep en (.exact cep), .slice qp qn (.exact cqp)] := (o30.le le35)
       refine Lo (w_ldA (l := [.slice bp bn (.exact cbp), .slice rp rn (.exact crp), .slice ep en (.exact cep), .slice qp qn (.exact cqp)]) tA27 o63.cells ?_)
       have l1_3_64 : Le h7 h33 := le14.trans le35
       refine Lo (w_call' isf68 ?_ (hR := by exact c68 (sv19.leL le35 l1_3_64) (by omega) (sv22.leL le35 l1_3_64) (by omega) (sv25.leL le35 l1_3_64) (by omega) (sv28.leL le35 l1_3_64) (by omega) (by omega) (by omega) (by omega) (by omega)))
       rintro e65 h66 ⟨x67, rfl, room68, le69⟩
       refine Lo (w_assign ?_)
       refine Lz (w_assign ?_)
       refine Rt ?_
       refine leave_ret rfl ?_
       have l0_3_70 : Le h h33 := l0_2_31.trans le35
       have l0_4_71 : Le h h66 := l0_3_70.trans le69
       have o72 : Own h66 i6 [.slice bp bn (.exact cbp), .slice rp rn (.exact crp), .slice ep en (.exact cep), .slice qp qn (.exact cqp)] := (o63.le le69)
       have l2_4_73 : Le h10 h66 := le35.trans le69
       have l1_4_74 : Le h7 h66 := l1_3_64.trans le69
       exact ⟨_, _, rfl, (by omega), l0_4_71, (fun _ => ⟨_, rfl, room68, ((sv40.leL le69 le69).imp (fun l _ hl => (by obtain ⟨_, _, rfl, ⟨m0, rfl, u0, v0⟩, rfl⟩ := hl; exact ⟨_, _, rfl, ⟨_, rfl, by omega, by omega⟩, rfl⟩))), (sv19.leL l2_4_73 l1_4_74), (sv22.leL l2_4_73 l1_4_74), (sv25.leL l2_4_73 l1_4_74), (sv28.leL l2_4_73 l1_4_74)⟩)⟩
theorem c12 {h : AH}  {bp : Option (Nat × Nat)} {bn : Nat} {cbp : Nat} {rp : Option (Nat × Nat)} {rn : Nat} {crp : Nat} {ep : Option (Nat × Nat)} {en : Nat} {cep : Nat} {qp : Option (Nat × Nat)} {qn : Nat} {cqp : Nat} {rq : Int} {st : Int} (sbp : SlV h bp bn 5 (okL h [.str, .i, .i, .i, .bool])) (mbp : bn ≤ 1048576) (xbp : bn ≤ cbp) (srp : SlV h rp rn 2 (okL h [.str, .i])) (mrp : rn ≤ 1048576) (xrp : rn ≤ crp) (sep : SlV h ep en 2 (okL h [.i, .bool])) (mep : en ≤ 1048576) (xep : en ≤ cep) (sqp : SlV h qp qn 4 (okL h [.i, .i, .i, .i])) (mqp : qn ≤ 1048576) (xqp : qn ≤ cqp) (brq : (-9223372036854775808) ≤ rq ∧ rq ≤ 9223372036854775807) (bst : (-9223372036854775808) ≤ st ∧ st ≤ 9223372036854775807) : JCall Tryz.prog 12 [.agg [.slice bp bn (.exact cbp), .slice rp rn (.exact crp), .slice ep en (.exact cep), .slice qp qn (.exact cqp)], .int .i64 rq, .int .i64 st] h (fun e h' => ∃ (r : Int) (er : Int), e = .ret (.tuple [.int .i64 r, .int .i64 er]) ∧ ((-9223372036854775808) ≤ r ∧ r ≤ 9223372036854775807) ∧ ((-9223372036854775808) ≤ er ∧ er ≤ 9223372036854775807) ∧ Le h h') := by
 refine JCall_of_J (N := 41) (sl := [(0, _), (1, _), (2, _)]) isf12 rfl (by show 3 ≤ 41; decide) rfl ?_
 refine Sr (Lo (x_box (z := [.slice bp bn (.exact cbp), .slice rp rn (.exact crp), .slice ep en (.exact cep), .slice qp qn (.exact cqp)]) ?_))
 intro i5 h6 w7
 refine Lo (w_assign ?_)
 refine Lz (w_assign ?_)
 refine Sr (Lo (w_ldA (l := [.slice bp bn (.exact cbp), .slice rp rn (.exact crp), .slice ep en (.exact cep), .slice qp qn (.exact cqp)]) tA27 w7.own.cells ?_))
 refine Lo (x_buildSlice (out := []) tS28 tZ3 tN3 ?_)
 intro i8 h9 w10
 have ne11 : i5 ≠ i8 := ne_of_free w10.free w7.own
 have l0_2_12 : Le h h9 := w7.le.trans w10.le
 refine Lo (w_call' isf46 ?_ (hR := by exact c46 (sbp.leL l0_2_12 l0_2_12) (by omega) (by omega) (srp.leL l0_2_12 l0_2_12) (by omega) (by omega) (sep.leL l0_2_12 l0_2_12) (by omega) (by omega) (sqp.leL l0_2_12 l0_2_12) (by omega) (by omega) SlV.zero (by omega)))
 rintro e13 h14 ⟨v15, n16, rfl, hbn16, le17, k18⟩
 refine Lo (w_move ?_)
 refine Lo (w_extract ?_)
 refine Lo (w_extract ?_)
 refine Lo (w_assign ?_)
 refine Lz (w_assign ?_)
 refine Sq (Bk ?_)
 refine Sr (Lo (w_move ?_))
 refine Lo (w_ne ?_)
 refine Lz (w_assign ?_)
 refine Cn (fun q19 => ?_) (fun q19 => ?_)
 · refine Sr (Lo (w_move ?_))
   refine Lo (w_assign ?_)
   refine Lz (w_assign ?_)
   refine Rt ?_
   refine blk_r (then_r ?_)
   refine leave_ret rfl ?_
   have l0_3_20 : Le h h14 := l0_2_12.trans le17
   exact ⟨_, _, rfl, (by omega), (by omega), l0_3_20⟩
 · obtain ⟨x21, rfl, room22, sv23, sv24, sv25, sv26, sv27⟩ := k18 (by omega)
   obtain ⟨mbx21, mrx21, mex21, mqx21⟩ := room22.bounds
   refine Sr (Lo (w_fieldAddr tF27_3 tZ25 ?_))
   have o32 : Own h14 i5 [.slice bp bn (.exact cbp), .slice rp rn (.exact crp), .slice ep en (.exact cep), .slice qp qn (.exact cqp)] := ((w7.own.le w10.le).le le17)
   refine Lo (w_ldC tC25 o32.cells ?_)
   refine Lo (w_len tS25 ?_)
   refine Lo (w_sub ?_)
   refine Lo (w_move ?_)
   refine Lo (x_buildSlice (out := [.int .i64 rq]) tS28 tZ3 tN3 ?_)
   intro i33 h34 w35
   have ne36 : i5 ≠ i33 := ne_of_free w35.free o32
   have o37 : Own h14 i8 [] := (w10.own.le le17)
   have ne38 : i8 ≠ i33 := ne_of_free w35.free o37
   refine Lo (w_call' isf43 ?_ (hR := by exact c43 (w35.own.sl1 rfl (by simp only [List.mem_cons, List.not_mem_nil, or_false, forall_eq_or_imp, forall_eq, okL, okV]; exact ⟨_, _, rfl, ⟨_, rfl, by omega, by omega⟩, rfl⟩)) (by omega)))
   rintro e39 h40 ⟨b41, rfl, le42, k43⟩
   refine Lo (w_move ?_)
   refine k_splitB (d := 28) rfl (fun q44 => ?_) (fun q44 => ?_)
   · subst q44
     refine Ws ?_
     refine Ws ?_
     refine Ws ?_
     refine Ws ?_
     refine Ws ?_
     refine Ws ?_
     refine Ws ?_
     refine Lo (w_pick_t ?_)
     refine Lz (w_assign ?_)
     refine Ct ?_
     refine Sr (Lo (w_assign ?_))
     refine Lz (w_assign ?_)
     refine Rt ?_
     refine blk_r (then_r ?_)
     refine leave_ret rfl ?_
     have l0_3_45 : Le h h14 := l0_2_12.trans le17
     have l0_4_46 : Le h h34 := l0_3_45.trans w35.le
     have l0_5_47 : Le h h40 := l0_4_46.trans le42
     exact ⟨_, _, rfl, (by omega), (by omega), l0_5_47⟩
   · subst q44
     have o48 : Own h40 i33 [.int .i64 rq] := (w35.own.le le42)
     have sv49 := SlV.le (k43 rfl) (Le.refl _)
     have r50 := okL1_int (sv49.ofOwn o48 (k := 0) (by decide) rfl)
     refine Gl (w_fieldAddr tF27_2 tZ24 ?_)
     have o51 : Own h40 i5 [.slice bp bn (.exact cbp), .slice rp rn (.exact crp), .slice ep en (.exact cep), .slice qp qn (.exact cqp)] := ((o32.le w35.le).le le42)
     refine Gl (w_ldC tC24 o51.cells ?_)
     refine Gl (w_len tS24 ?_)
     refine Gl (w_sub ?_)
     refine Gl (w_move ?_)
     refine Gl (x_buildSlice (out := [.int .i64 st]) tS28 tZ3 tN3 ?_)
     intro i52 h53 w54
     have ne55 : i5 ≠ i52 := ne_of_free w54.free o51
     have o56 : Own h40 i8 [] := ((o37.le w35.le).le le42)
     have ne57 : i8 ≠ i52 := ne_of_free w54.free o56
     have ne58 : i33 ≠ i52 := ne_of_free w54.free o48
     refine Gl (w_call' isf43 ?_ (hR := by exact c43 (w54.own.sl1 rfl (by simp only [List.mem_cons, List.not_mem_nil, or_false, forall_eq_or_imp, forall_eq, okL, okV]; exact ⟨_, _, rfl, ⟨_, rfl, by omega, by omega⟩, rfl⟩)) (by omega)))
     rintro e59 h60 ⟨b61, rfl, le62, k63⟩
     refine Lo (w_pick_f ?_)
     refine Lz (w_assign ?_)
     refine Cb (fun q64 => ?_) (fun q64 => ?_)
     · subst q64
       refine Sr (Lo (w_assign ?_))
       refine Lz (w_assign ?_)
       refine Rt ?_
       refine blk_r (then_r ?_)
       refine leave_ret rfl ?_
       have l0_3_65 : Le h h14 := l0_2_12.trans le17
       have l0_4_66 : Le h h34 := l0_3_65.trans w35.le
       have l0_5_67 : Le h h40 := l0_4_66.trans le42
       have l0_6_68 : Le h h53 := l0_5_67.trans w54.le
       have l0_7_69 : Le h h60 := l0_6_68.trans le62
       exact ⟨_, _, rfl, (by omega), (by omega), l0_7_69⟩
     · subst q64
       have o70 : Own h60 i52 [.int .i64 st] := (w54.own.le le62)
       have sv71 := SlV.le (k63 rfl) (Le.refl _)
       have r72 := okL1_int (sv71.ofOwn o70 (k := 0) (by decide) rfl)
       refine Sk ?_
       refine Sr (Lo (w_move ?_))
       refine Lo (w_move ?_)
       refine Lo (w_move ?_)
       have l3_5_73 : Le h14 h40 := w35.le.trans le42
       have l3_6_74 : Le h14 h53 := l3_5_73.trans w54.le
       have l3_7_75 : Le h14 h60 := l3_6_74.trans le62
       refine Lo (w_call' isf47 ?_ (hR := by exact c47 (room22.le l3_7_75) (by omega) (by omega)))
       rintro e76 h77 ⟨n78, rfl, hbn78, le79⟩
       refine Lo (w_assign ?_)
       refine Lz (w_assign ?_)
       refine Rt ?_
       refine leave_ret rfl ?_
       have l0_3_80 : Le h h14 := l0_2_12.trans le17
       have l0_4_81 : Le h h34 := l0_3_80.trans w35.le
       have l0_5_82 : Le h h40 := l0_4_81.trans le42
       have l0_6_83 : Le h h53 := l0_5_82.trans w54.le
       have l0_7_84 : Le h h60 := l0_6_83.trans le62
       have l0_8_85 : Le h h77 := l0_7_84.trans le79
       exact ⟨_, _, rfl, (by omega), (by omega), l0_8_85⟩
theorem c102 {h : AH}  {x : Int}  : JCall Tryz.prog 102 [.int .i64 x] h (fun e h' => ∃ (r : Bool), e = .ret (.bool r) ∧ Le h h') := by
 refine JCall_of_J (N := 6) (sl := [(0, _)]) isf102 rfl (by show 1 ≤ 6; decide) rfl ?_
 refine Sr (Lz (w_assign ?_))
 refine Sr (Lo (w_move ?_))
 refine Lo (w_move ?_)
 refine Lo (w_ne ?_)
 refine Lz (w_assign ?_)
 refine Rt ?_
 refine leave_ret rfl ?_
 exact ⟨_, rfl, (Le.refl _)⟩
theorem c86 {h : AH}  {x : Int} {y : Int}  : JCall Tryz.prog 86 [.int .i64 x, .int .i64 y] h (fun e h' => ∃ (r : Int), e = .ret (.int .i64 r) ∧ (-1 ≤ r ∧ r ≤ 1) ∧ Le h h') := by
 refine JCall_of_J (N := 20) (sl := [(0, _), (1, _)]) isf86 rfl (by show 2 ≤ 20; decide) rfl ?_
 refine Sr (Lz (w_assign ?_))
 refine Sr (Lo (w_move ?_))
 refine Lo (w_call' isf102 ?_ (hR := by exact c102))
 rintro e1 h2 ⟨b3, rfl, le4⟩
 refine Lz (w_assign ?_)
 refine Sr (Lo (w_move ?_))
 refine Lo (w_call' isf102 ?_ (hR := by exact c102))
 rintro e5 h6 ⟨b7, rfl, le8⟩
 refine Lz (w_assign ?_)
 refine Sq (Sr ?_)
 refine Lz (w_move ?_)
 refine Cb (fun q9 => ?_) (fun q9 => ?_)
 · subst q9
   refine Sq (Sr ?_)
   refine Lz (w_move ?_)
   refine Cb (fun q10 => ?_) (fun q10 => ?_)
   · subst q10
     refine Sr (Lz (w_assign ?_))
     refine Rt ?_
     refine then_r (then_r ?_)
     refine leave_ret rfl ?_
     have l0_2_11 : Le h h6 := le4.trans le8
     exact ⟨_, rfl, (by omega), l0_2_11⟩
   · subst q10
     refine Sk ?_
     refine Sr (Lz (w_assign ?_))
     refine Rt ?_
     refine then_r ?_
     refine leave_ret rfl ?_
     have l0_2_12 : Le h h6 := le4.trans le8
     exact ⟨_, rfl, (by omega), l0_2_12⟩
 · subst q9
   refine Sk ?_
   refine Sq (Sr ?_)
   refine Lz (w_move ?_)
   refine Cb (fun q13 => ?_) (fun q13 => ?_)
   · subst q13
     refine Sr (Lz (w_assign ?_))
     refine Rt ?_
     refine then_r ?_
     refine leave_ret rfl ?_
     have l0_2_14 : Le h h6 := le4.trans le8
     exact ⟨_, rfl, (by omega), l0_2_14⟩
   · subst q13
     refine Sk ?_
     refine Sq (Sr ?_)
     refine Lo (w_move ?_)
     refine Lo (w_move ?_)
     refine Lz (w_lt ?_)
     refine Cn (fun q15 => ?_) (fun q15 => ?_)
     · refine Sr (Lz (w_assign ?_))
       refine Rt ?_
       refine then_r ?_
       refine leave_ret rfl ?_
       have l0_2_16 : Le h h6 := le4.trans le8
       exact ⟨_, rfl, (by omega), l0_2_16⟩
     · refine Sk ?_
       refine Sq (Sr ?_)
       refine Lo (w_move ?_)
       refine Lo (w_move ?_)
       refine Lz (w_gt ?_)
       refine Cn (fun q17 => ?_) (fun q17 => ?_)
       · refine Sr (Lz (w_assign ?_))
         refine Rt ?_
         refine then_r ?_
         refine leave_ret rfl ?_
         have l0_2_18 : Le h h6 := le4.trans le8
         exact ⟨_, rfl, (by omega), l0_2_18⟩
       · refine Sk ?_
         refine Sr (Lz (w_assign ?_))
         refine Rt ?_
         refine leave_ret rfl ?_
         have l0_2_19 : Le h h6 := le4.trans le8
         exact ⟨_, rfl, (by omega), l0_2_19⟩
theorem c83 {h : AH}  {p : Option (Nat × Nat)} {n : Nat} {cp : Cap} {v : Int} (sp : SlV h p n 1 (okL h [.i])) (mp : n ≤ 1048576) : JCall Tryz.prog 83 [.slice p n cp, .int .i64 v] h (fun e h' => ∃ (r : Int), e = .ret (.int .i64 r) ∧ (-1 ≤ r ∧ r ≤ ((n : Int) - 1)) ∧ Le h h') := by
 refine JCall_of_J (N := 19) (sl := [(0, _), (1, _)]) isf83 rfl (by show 2 ≤ 19; decide) rfl ?_
 refine Sr (Lz (w_assign ?_))
 refine Sq (Sr ?_)
 refine Lo (w_move ?_)
 refine Lo (w_len tS28 ?_)
 refine Lz (w_move ?_)
 refine Bk ?_
 refine J_for1 (x := C83 [0, 0, 1, 0, 1]) (fun (x8_2 : Int) => ⟨[(0, .slice p n cp), (1, .int .i64 v), (7, .int .i64 ((n : Nat) : Int)), (8, .int .i64 x8_2)], h, 19, []⟩) (fun (x8_2 : Int) => 0 ≤ x8_2) (fun (x8_2 : Int) => (((n : Nat) : Int) - x8_2).toNat) 0 rfl ⟨rfl, rfl, rfl, rfl, rfl, rfl, rfl, trivial⟩ (by omega) ?_
 intro x8_2 hI
 obtain hxx8_2 : 0 ≤ x8_2 := hI
 show J _ _ (C83 [0, 0, 1, 0, 1]) ⟨[(0, .slice p n cp), (1, .int .i64 v), (7, .int .i64 ((n : Nat) : Int)), (8, .int .i64 x8_2)], h, 19, []⟩ _
 refine Sr (Lz (w_lt ?_))
 refine Sq ?_
 refine Cn (fun q3 => ?_) (fun q3 => ?_)
 · refine Sk ?_
   refine Sq (Bk ?_)
   refine Sr (Lo (w_move ?_))
   refine Lz (w_assign ?_)
   refine Sr (Lo (w_move ?_))
   refine Lo (w_move ?_)
   refine Lo (w_move ?_)
   obtain ⟨i11, o12, cs10, l9, rfl, hc4, hl5, hk6, hE7, ht8⟩ := sp.at (i := x8_2) (by omega) (by omega)
   obtain ⟨_, _, rfl, ⟨n13, rfl, lon13, hin13⟩, rfl⟩ := hE7
   refine Lo (w_indexAddrS tS28 tZ3 ?_)
   refine Lo (w_ldC tC3 hc4 ?_ (hv := cell_of_take0 ht8 rfl))
   refine Lz (w_eq ?_)
   refine Cn (fun q14 => ?_) (fun q14 => ?_)
   · refine Sr (Lo (w_move ?_))
     refine Lz (w_assign ?_)
     refine Rt ?_
     refine blk_r (then_r (then_r (blk_r (then_r ?_))))
     refine leave_ret rfl ?_
     exact ⟨_, rfl, (by omega), (Le.refl _)⟩
   · refine Sk ?_
     refine Rg (Lo (w_add ?_))
     refine Lz (w_move ?_)
     exact ⟨(x8_2 + 1), ⟨(by omega), by omega⟩, rfl, rfl, rfl, rfl, rfl, rfl, rfl, trivial⟩
 · refine Ex ?_
   refine then_x (then_x (blk_eq rfl ?_))
   refine Sr (Lz (w_assign ?_))
   refine Rt ?_
   refine leave_ret rfl ?_
   exact ⟨_, rfl, (by omega), (Le.refl _)⟩
theorem c60 {h : AH}  {p : Option (Nat × Nat)} {n : Nat} {cp : Cap} {v : Int} (sp : SlV h p n 1 (okL h [.i])) (mp : n ≤ 1048576) : JCall Tryz.prog 60 [.slice p n cp, .int .i64 v] h (fun e h' => ∃ (r : Bool), e = .ret (.bool r) ∧ Le h h') := by
 refine JCall_of_J (N := 9) (sl := [(0, _), (1, _)]) isf60 rfl (by show 2 ≤ 9; decide) rfl ?_
 refine Sr (Lz (w_assign ?_))
 refine Sr (Lo (w_move ?_))
 refine Lo (w_move ?_)
 refine Lo (w_call' isf83 ?_ (hR := by exact c83 (sp.leL (Le.refl _) (Le.refl _)) (by omega)))
 rintro e2 h3 ⟨n4, rfl, hbn4, le5⟩
 refine Lo (w_ge ?_)
 refine Lz (w_assign ?_)
 refine Rt ?_
 refine leave_ret rfl ?_
 exact ⟨_, rfl, le5⟩
theorem c65 {h : AH}  {p : Option (Nat × Nat)} {n : Nat} {cp : Cap} {q : Option (Nat × Nat)} {m : Nat} {cq : Cap} (sp : SlV h p n 1 (okL h [.i])) (mp : n ≤ 1048576) (sq : SlV h q m 1 (okL h [.i])) (mq : m ≤ 1048576) : JCall Tryz.prog 65 [.slice p n cp, .slice q m cq] h (fun e h' => ∃ (r : Int), e = .ret (.int .i64 r) ∧ (-1 ≤ r ∧ r ≤ 1) ∧ Le h h') := by
 refine JCall_of_J (N := 36) (sl := [(0, _), (1, _)]) isf65 rfl (by show 2 ≤ 36; decide) rfl ?_
 refine Sr (Lz (w_assign ?_))
 refine Sq (Sr ?_)
 refine Lo (w_move ?_)
 refine Lo (w_len tS28 ?_)
 refine Lz (w_move ?_)
 refine Bk ?_
 refine J_for2 (x := C65 [0, 0, 1, 0, 1]) (fun (x11_3 : Int) (h4 : AH) => ⟨[(0, .slice p n cp), (1, .slice q m cq), (9, .slice p n cp), (10, .int .i64 ((n : Nat) : Int)), (11, .int .i64 x11_3)], h4, 36, []⟩) (fun (x11_3 : Int) (h4 : AH) => 0 ≤ x11_3 ∧ Le h h4) (fun (x11_3 : Int) (h4 : AH) => (((n : Nat) : Int) - x11_3).toNat) 0 h rfl ⟨rfl, rfl, rfl, rfl, rfl, rfl, rfl, rfl, trivial⟩ ⟨(by omega), .refl _⟩ ?_
 intro x11_3 h4 hI
 obtain ⟨hxx11_3, le5⟩ : 0 ≤ x11_3 ∧ Le h h4 := hI
 show J _ _ (C65 [0, 0, 1, 0, 1]) ⟨[(0, .slice p n cp), (1, .slice q m cq), (9, .slice p n cp), (10, .int .i64 ((n : Nat) : Int)), (11, .int .i64 x11_3)], h4, 36, []⟩ _
 refine Sr (Lz (w_lt ?_))
 refine Sq ?_
 refine Cn (fun q6 => ?_) (fun q6 => ?_)
 · refine Sk ?_
   refine Sq (Bk ?_)
   refine Sr (Lo (w_move ?_))
   obtain ⟨i14, o15, cs13, l12, rfl, hc7, hl8, hk9, hE10, ht11⟩ := (sp.le le5).at (i := x11_3) (by omega) (by omega)
   obtain ⟨_, _, rfl, ⟨n16, rfl, lon16, hin16⟩, rfl⟩ := hE10
   refine Lo (w_indexAddrS tS28 tZ3 ?_)
   refine Lo (w_ldC tC3 hc7 ?_ (hv := cell_of_take0 ht11 rfl))
   refine Lo (w_assign ?_)
   refine Lz (w_assign ?_)
   refine Sq (Sr ?_)
   refine Lo (w_move ?_)
   refine Lo (w_move ?_)
   refine Lo (w_len tS28 ?_)
   refine Lz (w_ge ?_)
   refine Cn (fun q17 => ?_) (fun q17 => ?_)
   · refine Sr (Lz (w_assign ?_))
     refine Rt ?_
     refine then_r (blk_r (then_r (then_r (blk_r (then_r ?_)))))
     refine leave_ret rfl ?_
     exact ⟨_, rfl, (by omega), le5⟩
   · refine Sk ?_
     refine Sr (Lo (w_move ?_))
     refine Lo (w_move ?_)
     obtain ⟨i25, o26, cs24, l23, rfl, hc18, hl19, hk20, hE21, ht22⟩ := (sq.le le5).at (i := x11_3) (by omega) (by omega)
     obtain ⟨_, _, rfl, ⟨n27, rfl, lon27, hin27⟩, rfl⟩ := hE21
     refine Lo (w_indexAddrS tS28 tZ3 ?_)
     refine Lo (w_ldC tC3 hc18 ?_ (hv := cell_of_take0 ht22 rfl))
     refine Lz (w_assign ?_)
     refine Sr (Lo (w_move ?_))
     refine Lo (w_move ?_)
     refine Lo (w_call' isf86 ?_ (hR := by exact c86))
     rintro e28 h29 ⟨n30, rfl, hbn30, le31⟩
     refine Lz (w_assign ?_)
     refine Sr (Lo (w_move ?_))
     refine Lz (w_ne ?_)
     refine Cn (fun q32 => ?_) (fun q32 => ?_)
     · refine Sr (Lo (w_move ?_))
       refine Lz (w_assign ?_)
       refine Rt ?_
       refine blk_r (then_r (then_r (blk_r (then_r ?_))))
       refine leave_ret rfl ?_
       have l0_2_33 : Le h h29 := le5.trans le31
       exact ⟨_, rfl, (by omega), l0_2_33⟩
     · refine Sk ?_
       refine Rg (Lo (w_add ?_))
       refine Lz (w_move ?_)
       have l0_2_34 : Le h h29 := le5.trans le31
       exact ⟨(x11_3 + 1), h29, ⟨⟨(by omega), l0_2_34⟩, by omega⟩, rfl, rfl, rfl, rfl, rfl, rfl, rfl, rfl, trivial⟩
 · refine Ex ?_
   refine then_x (then_x (blk_eq rfl ?_))
   refine Sq (Sr ?_)
   refine Lo (w_move ?_)
   refine Lo (w_len tS28 ?_)
   refine Lo (w_move ?_)
   refine Lo (w_len tS28 ?_)
   refine Lz (w_lt ?_)
   refine Cn (fun q35 => ?_) (fun q35 => ?_)
   · refine Sr (Lz (w_assign ?_))
     refine Rt ?_
     refine then_r ?_
     refine leave_ret rfl ?_
     exact ⟨_, rfl, (by omega), le5⟩
   · refine Sk ?_
     refine Sr (Lz (w_assign ?_))
     refine Rt ?_
     refine leave_ret rfl ?_
     exact ⟨_, rfl, (by omega), le5⟩
theorem c82 {h : AH}  {x bn rn en qn : Nat} {p : Option (Nat × Nat)} {n : Nat} {cp : Cap} (hroom : RoomOK h x bn rn en qn) (sp : SlV h p n 1 (okL h [.int 0 ((qn : Int) - 1)])) (mp : n ≤ 1048576) : JCall Tryz.prog 82 [.ptr (some (x, 0)), .slice p n cp] h (fun e h' => ∃ (r : Int), e = .ret (.int .i64 r) ∧ (0 ≤ r ∧ r ≤ (100 * (n : Int))) ∧ Le h h') := by
 refine JCall_of_J (N := 26) (sl := [(0, _), (1, _)]) isf82 rfl (by show 2 ≤ 26; decide) rfl ?_
 have hroom0 := hroom
 obtain ⟨cs, bp, rp, ep, qp, cb, cr, ce, cq, ri, f, a, gy, hx, lx, gx_, k0, k1, k2, k3, k52, ori, of, og, oa, ex⟩ := hroom
 obtain ⟨mbn, mrn, men, mqn, sbp, srp, sep, sqp⟩ := ex
 refine Sr (Lz (w_assign ?_))
 refine Sq (Sr ?_)
 refine Lo (w_move ?_)
 refine Lo (w_len tS28 ?_)
 refine Lz (w_move ?_)
 refine Bk ?_
 refine J_for2 (x := C82 [0, 0, 1, 0, 1]) (fun (x4_6 : Int) (x9_7 : Int) => ⟨[(0, .ptr (some (x, 0))), (4, .int .i64 x4_6), (7, .slice p n cp), (8, .int .i64 ((n : Nat) : Int)), (9, .int .i64 x9_7)], h, 26, []⟩) (fun (x4_6 : Int) (x9_7 : Int) => 0 ≤ x9_7 ∧ (0 ≤ x4_6 ∧ x4_6 ≤ 100 * x9_7 ∧ x9_7 ≤ n)) (fun (x4_6 : Int) (x9_7 : Int) => (((n : Nat) : Int) - x9_7).toNat) 0 0 rfl ⟨rfl, rfl, rfl, rfl, rfl, rfl, rfl, rfl, trivial⟩ ⟨(by omega), (by omega)⟩ ?_
 intro x4_6 x9_7 hI
 obtain ⟨hxx9_7, iv8⟩ : 0 ≤ x9_7 ∧ (0 ≤ x4_6 ∧ x4_6 ≤ 100 * x9_7 ∧ x9_7 ≤ n) := hI
 show J _ _ (C82 [0, 0, 1, 0, 1]) ⟨[(0, .ptr (some (x, 0))), (4, .int .i64 x4_6), (7, .slice p n cp), (8, .int .i64 ((n : Nat) : Int)), (9, .int .i64 x9_7)], h, 26, []⟩ _
 refine Sr (Lz (w_lt ?_))
 refine Sq ?_
 refine Cn (fun q9 => ?_) (fun q9 => ?_)
 · refine Sk ?_
   refine Sq (Bk ?_)
   refine Sr ?_
   obtain ⟨i17, o18, cs16, l15, rfl, hc10, hl11, hk12, hE13, ht14⟩ := sp.at (i := x9_7) (by omega) (by omega)
   obtain ⟨_, _, rfl, ⟨n19, rfl, lon19, hin19⟩, rfl⟩ := hE13
   refine Lo (w_indexAddrS tS28 tZ3 ?_)
   refine Lo (w_ldC tC3 hc10 ?_ (hv := cell_of_take0 ht14 rfl))
   refine Lz (w_assign ?_)
   refine Rg (Lo (w_move ?_))
   refine Lo (w_move ?_)
   refine Lo (w_nilCheck_ptr ?_)
   refine Lo (w_fieldAddr tF98_0 tZ27 ?_)
   refine Lo (w_fieldAddr tF27_3 tZ25 ?_)
   refine Lo (w_ldC tC25 hx ?_ (hv := k3))
   refine Lo (w_move ?_)
   obtain ⟨i27, o28, cs26, l25, rfl, hc20, hl21, hk22, hE23, ht24⟩ := sqp.at (i := n19) (by omega) (by omega)
   obtain ⟨_, _, rfl, ⟨n29, rfl, lon29, hin29⟩, _, _, rfl, ⟨n30, rfl, lon30, hin30⟩, _, _, rfl, ⟨n31, rfl, lon31, hin31⟩, _, _, rfl, ⟨n32, rfl, lon32, hin32⟩, rfl⟩ := hE23
   refine Lo (w_indexAddrS tS25 tZ82 ?_)
   refine Lo (w_fieldAddr tF82_3 tZ3 ?_)
   refine Lo (w_ldC tC3 hc20 ?_ (hv := cell_of_take (k := 3) ht24 rfl))
   refine Lo (w_add ?_)
   refine Lz (w_assign ?_)
   refine Rg (Lo (w_add ?_))
   refine Lz (w_move ?_)
   exact ⟨(x4_6 + n32), (x9_7 + 1), ⟨⟨(by omega), (by omega)⟩, by omega⟩, rfl, rfl, rfl, rfl, rfl, rfl, rfl, rfl, trivial⟩
 · refine Ex ?_
   refine then_x (then_x (blk_eq rfl ?_))
   refine Sr (Lo (w_move ?_))
   refine Lz (w_assign ?_)
   refine Rt ?_
   refine leave_ret rfl ?_
   exact ⟨_, rfl, (by omega), (Le.refl _)⟩
theorem c66 {h : AH}  {p : Option (Nat × Nat)} {n : Nat} {cp : Cap} {q : Option (Nat × Nat)} {m : Nat} {cq : Cap} (sp : SlV h p n 1 (okL h [.i])) (mp : n ≤ 1048576) (sq : SlV h q m 1 (okL h [.i])) (mq : m ≤ 1048576) : JCall Tryz.prog 66 [.slice p n cp, .slice q m cq] h (fun e h' => ∃ (v : AV) (k : Nat), e = .ret (v) ∧ Bld h h' v k 1 (okL h [.i]) ∧ Le h h' ∧ k ≤ n) := by
 refine JCall_of_J (N := 23) (sl := [(0, _), (1, _)]) isf66 rfl (by show 2 ≤ 23; decide) rfl ?_
 refine Sr (Lz (w_assign ?_))
 refine Sq (Sr ?_)
 refine Lo (w_move ?_)
 refine Lo (w_len tS28 ?_)
 refine Lz (w_move ?_)
 refine Bk ?_
 refine J_for4 (x := C66 [0, 0, 1, 0, 1]) (fun (x4_3 : AV) (m4 : Nat) (x9_6 : Int) (h8 : AH) => ⟨[(1, .slice q m cq), (4, x4_3), (7, .slice p n cp), (8, .int .i64 ((n : Nat) : Int)), (9, .int .i64 x9_6)], h8, 23, []⟩) (fun (x4_3 : AV) (m4 : Nat) (x9_6 : Int) (h8 : AH) => Bld h h8 x4_3 m4 1 (okL h [.i]) ∧ 0 ≤ x9_6 ∧ (x9_6 ≤ n ∧ ((m4 : Nat) : Int) ≤ x9_6) ∧ Le h h8) (fun (x4_3 : AV) (m4 : Nat) (x9_6 : Int) (h8 : AH) => (((n : Nat) : Int) - x9_6).toNat) (.slice none 0 (.exact 0)) 0 0 h rfl ⟨rfl, rfl, rfl, rfl, rfl, rfl, rfl, rfl, trivial⟩ ⟨(Bld.nil), (by omega), (by omega), .refl _⟩ ?_
 intro x4_3 m4 x9_6 h8 hI
 obtain ⟨bl5, hxx9_6, iv7, le9⟩ : Bld h h8 x4_3 m4 1 (okL h [.i]) ∧ 0 ≤ x9_6 ∧ (x9_6 ≤ n ∧ ((m4 : Nat) : Int) ≤ x9_6) ∧ Le h h8 := hI
 show J _ _ (C66 [0, 0, 1, 0, 1]) ⟨[(1, .slice q m cq), (4, x4_3), (7, .slice p n cp), (8, .int .i64 ((n : Nat) : Int)), (9, .int .i64 x9_6)], h8, 23, []⟩ _
 refine Sr (Lz (w_lt ?_))
 refine Sq ?_
 refine Cn (fun q10 => ?_) (fun q10 => ?_)
 · refine Sk ?_
   refine Sq (Bk ?_)
   refine Sr ?_
   obtain ⟨i18, o19, cs17, l16, rfl, hc11, hl12, hk13, hE14, ht15⟩ := (sp.le le9).at (i := x9_6) (by omega) (by omega)
   obtain ⟨_, _, rfl, ⟨n20, rfl, lon20, hin20⟩, rfl⟩ := hE14
   refine Lo (w_indexAddrS tS28 tZ3 ?_)
   refine Lo (w_ldC tC3 hc11 ?_ (hv := cell_of_take0 ht15 rfl))
   refine Lz (w_assign ?_)
   refine Sr (Lo (w_move ?_))
   refine Lo (w_move ?_)
   refine Lo (w_call' isf60 ?_ (hR := by exact c60 (sq.leL le9 le9) (by omega)))
   rintro e21 h22 ⟨b23, rfl, le24⟩
   refine Lz (w_not ?_)
   refine Cb (fun q25 => ?_) (fun q25 => ?_)
   · have q26 : b23 = false := by simpa using q25
     subst q26
     refine Rg (Lo (w_move ?_))
     refine Lo (w_move ?_)
     refine Lo (x_buildSlice (out := [.int .i64 n20]) tS28 tZ3 tN3 ?_)
     intro i27 h28 w29
     have l0_2_30 : Le h h22 := le9.trans le24
     have l0_3_31 : Le h h28 := l0_2_30.trans w29.le
     refine Lo (x_append (hB := h) (E := okL h [.i]) tG28_28 ((bl5.le le24).le w29.le) l0_3_31 (w29.own.slE rfl ⟨_, _, rfl, ⟨_, rfl, by omega, by omega⟩, rfl⟩) ?_ (hq := by exact fun h => absurd h (by decide)) (hE := by exact fun _ h => okL_one h))
     intro v32 h33 bl34 le35 st36
     refine Lz (w_assign ?_)
     refine Rg (Lo (w_add ?_))
     refine Lz (w_move ?_)
     have l0_4_37 : Le h h33 := le35
     exact ⟨v32, (m4 + 1), (x9_6 + 1), h33, ⟨⟨bl34, (by omega), (by omega), l0_4_37⟩, by omega⟩, rfl, rfl, rfl, rfl, rfl, rfl, rfl, rfl, trivial⟩
   · have q38 : b23 = true := by simpa using q25
     subst q38
     refine Sk ?_
     refine Rg (Lo (w_add ?_))
     refine Lz (w_move ?_)
     have l0_2_39 : Le h h22 := le9.trans le24
     exact ⟨x4_3, m4, (x9_6 + 1), h22, ⟨⟨(bl5.le le24), (by omega), (by omega), l0_2_39⟩, by omega⟩, rfl, rfl, rfl, rfl, rfl, rfl, rfl, rfl, trivial⟩
 · refine Ex ?_
   refine then_x (then_x (blk_eq rfl ?_))
   refine Sr (Lo (w_move ?_))
   refine Lz (w_assign ?_)
   refine Rt ?_
   refine leave_ret rfl ?_
   exact ⟨_, _, rfl, bl5, le9, (by omega)⟩
theorem c105 {h : AH}  {x : Int} (bx : 0 ≤ x ∧ x ≤ 18446744073709551615) : JCall Tryz.prog 105 [.int .u64 x] h (fun e h' => ∃ (r : Int), e = .ret (.int .i64 r) ∧ (0 ≤ r ∧ r ≤ 400) ∧ Le h h') := by
 refine JCall_of_J (N := 25) (sl := [(0, _)]) isf105 rfl (by show 1 ≤ 25; decide) rfl ?_
 refine Sr (Lz (w_assign ?_))
 refine Sq (Sr ?_)
 refine Lo (w_move ?_)
 refine Lz (w_ge ?_)
 refine Cn (fun q1 => ?_) (fun q1 => ?_)
 · refine Sr (Lo (w_move ?_))
   refine Lo (w_shr ?_)
   generalize shrI .u64 x 32 = n2
   refine Lz (w_assign ?_)
   refine Rg (Lz (w_assign ?_))
   refine Sq (Sr ?_)
   refine Lo (w_move ?_)
   refine Lz (w_ge ?_)
   refine Cn (fun q3 => ?_) (fun q3 => ?_)
   · refine Sr (Lo (w_move ?_))
     refine Lo (w_shr ?_)
     generalize shrI .u64 n2 16 = n4
     refine Lz (w_assign ?_)
     refine Rg (Lo (w_move ?_))
     refine Lo (w_add ?_)
     refine Lz (w_assign ?_)
     refine Sq (Sr ?_)
     refine Lo (w_move ?_)
     refine Lz (w_ge ?_)
     refine Cn (fun q5 => ?_) (fun q5 => ?_)
     · refine Sr (Lo (w_move ?_))
       refine Lo (w_shr ?_)
       generalize shrI .u64 n4 8 = n6
       refine Lz (w_assign ?_)
       refine Rg (Lo (w_move ?_))
       refine Lo (w_add ?_)
       refine Lz (w_assign ?_)
       refine Sr (Lo (w_move ?_))
       refine Lo (w_move ?_)
       refine Lo (w_conv tI154 tI5 ?_)
       have rn7 := wrap_u8 n6
       generalize wrapI .u8 n6 = n7 at rn7 ⊢
       refine Lo (x_indexStrK (N := 256) tX9 ?_ (hN := by kernel_rfl))
       intro n8 lon8 hin8
       refine Lo (x_conv64 tU5 tI3 ?_)
       refine Lo (w_add ?_)
       refine Lz (w_assign ?_)
       refine Rt ?_
       refine leave_ret rfl ?_
       exact ⟨_, rfl, (by omega), (Le.refl _)⟩
     · refine Sk ?_
       refine Sr (Lo (w_move ?_))
       refine Lo (w_move ?_)
       refine Lo (w_conv tI154 tI5 ?_)
       have rn9 := wrap_u8 n4
       generalize wrapI .u8 n4 = n9 at rn9 ⊢
       refine Lo (x_indexStrK (N := 256) tX9 ?_ (hN := by kernel_rfl))
       intro n10 lon10 hin10
       refine Lo (x_conv64 tU5 tI3 ?_)
       refine Lo (w_add ?_)
       refine Lz (w_assign ?_)
       refine Rt ?_
       refine leave_ret rfl ?_
       exact ⟨_, rfl, (by omega), (Le.refl _)⟩
   · refine Sk ?_
     refine Sq (Sr ?_)
     refine Lo (w_move ?_)
     refine Lz (w_ge ?_)
     refine Cn (fun q11 => ?_) (fun q11 => ?_)
     · refine Sr (Lo (w_move ?_))
       refine Lo (w_shr ?_)
       generalize shrI .u64 n2 8 = n12
       refine Lz (w_assign ?_)
       refine Rg (Lo (w_move ?_))
       refine Lo (w_add ?_)
       refine Lz (w_assign ?_)
       refine Sr (Lo (w_move ?_))
       refine Lo (w_move ?_)
       refine Lo (w_conv tI154 tI5 ?_)
       have rn13 := wrap_u8 n12
       generalize wrapI .u8 n12 = n13 at rn13 ⊢
       refine Lo (x_indexStrK (N := 256) tX9 ?_ (hN := by kernel_rfl))
       intro n14 lon14 hin14
       refine Lo (x_conv64 tU5 tI3 ?_)
       refine Lo (w_add ?_)
       refine Lz (w_assign ?_)
       refine Rt ?_
       refine leave_ret rfl ?_
       exact ⟨_, rfl, (by omega), (Le.refl _)⟩
     · refine Sk ?_
       refine Sr (Lo (w_move ?_))
       refine Lo (w_move ?_)
       refine Lo (w_conv tI154 tI5 ?_)
       have rn15 := wrap_u8 n2
       generalize wrapI .u8 n2 = n15 at rn15 ⊢
       refine Lo (x_indexStrK (N := 256) tX9 ?_ (hN := by kernel_rfl))
       intro n16 lon16 hin16
       refine Lo (x_conv64 tU5 tI3 ?_)
       refine Lo (w_add ?_)
       refine Lz (w_assign ?_)
       refine Rt ?_
       refine leave_ret rfl ?_
       exact ⟨_, rfl, (by omega), (Le.refl _)⟩
 · refine Sk ?_
   refine Sq (Sr ?_)
   refine Lo (w_move ?_)
   refine Lz (w_ge ?_)
   refine Cn (fun q17 => ?_) (fun q17 => ?_)
   · refine Sr (Lo (w_move ?_))
     refine Lo (w_shr ?_)
     generalize shrI .u64 x 16 = n18
     refine Lz (w_assign ?_)
     refine Rg (Lo (w_move ?_))
     refine Lo (w_add ?_)
     refine Lz (w_assign ?_)
     refine Sq (Sr ?_)
     refine Lo (w_move ?_)
     refine Lz (w_ge ?_)
     refine Cn (fun q19 => ?_) (fun q19 => ?_)
     · refine Sr (Lo (w_move ?_))
       refine Lo (w_shr ?_)
       generalize shrI .u64 n18 8 = n20
       refine Lz (w_assign ?_)
       refine Rg (Lo (w_move ?_))
       refine Lo (w_add ?_)
       refine Lz (w_assign ?_)
       refine Sr (Lo (w_move ?_))
       refine Lo (w_move ?_)
       refine Lo (w_conv tI154 tI5 ?_)
       have rn21 := wrap_u8 n20
       generalize wrapI .u8 n20 = n21 at rn21 ⊢
       refine Lo (x_indexStrK (N := 256) tX9 ?_ (hN := by kernel_rfl))
       intro n22 lon22 hin22
       refine Lo (x_conv64 tU5 tI3 ?_)
       refine Lo (w_add ?_)
       refine Lz (w_assign ?_)
       refine Rt ?_
       refine leave_ret rfl ?_
       exact ⟨_, rfl, (by omega), (Le.refl _)⟩
     · refine Sk ?_
       refine Sr (Lo (w_move ?_))
       refine Lo (w_move ?_)
       refine Lo (w_conv tI154 tI5 ?_)
       have rn23 := wrap_u8 n18
       generalize wrapI .u8 n18 = n23 at rn23 ⊢
       refine Lo (x_indexStrK (N := 256) tX9 ?_ (hN := by kernel_rfl))
       intro n24 lon24 hin24
       refine Lo (x_conv64 tU5 tI3 ?_)
       refine Lo (w_add ?_)
       refine Lz (w_assign ?_)
       refine Rt ?_
       refine leave_ret rfl ?_
       exact ⟨_, rfl, (by omega), (Le.refl _)⟩
   · refine Sk ?_
     refine Sq (Sr ?_)
     refine Lo (w_move ?_)
     refine Lz (w_ge ?_)
     refine Cn (fun q25 => ?_) (fun q25 => ?_)
     · refine Sr (Lo (w_move ?_))
       refine Lo (w_shr ?_)
       generalize shrI .u64 x 8 = n26
       refine Lz (w_assign ?_)
       refine Rg (Lo (w_move ?_))
       refine Lo (w_add ?_)
       refine Lz (w_assign ?_)
       refine Sr (Lo (w_move ?_))
       refine Lo (w_move ?_)
       refine Lo (w_conv tI154 tI5 ?_)
       have rn27 := wrap_u8 n26
       generalize wrapI .u8 n26 = n27 at rn27 ⊢
       refine Lo (x_indexStrK (N := 256) tX9 ?_ (hN := by kernel_rfl))
       intro n28 lon28 hin28
       refine Lo (x_conv64 tU5 tI3 ?_)
       refine Lo (w_add ?_)
       refine Lz (w_assign ?_)
       refine Rt ?_
       refine leave_ret rfl ?_
       exact ⟨_, rfl, (by omega), (Le.refl _)⟩
     · refine Sk ?_
       refine Sr (Lo (w_move ?_))
       refine Lo (w_move ?_)
       refine Lo (w_conv tI154 tI5 ?_)
       have rn29 := wrap_u8 x
       generalize wrapI .u8 x = n29 at rn29 ⊢
       refine Lo (x_indexStrK (N := 256) tX9 ?_ (hN := by kernel_rfl))
       intro n30 lon30 hin30
       refine Lo (x_conv64 tU5 tI3 ?_)
       refine Lo (w_add ?_)
       refine Lz (w_assign ?_)
       refine Rt ?_
       refine leave_ret rfl ?_
       exact ⟨_, rfl, (by omega), (Le.refl _)⟩
theorem c101 {h : AH}  {x : Int} (bx : 0 ≤ x ∧ x ≤ 18446744073709551615) : JCall Tryz.prog 101 [.int .u64 x] h (fun e h' => ∃ (r : Int), e = .ret (.int .i64 r) ∧ (0 ≤ r ∧ r ≤ 400) ∧ Le h h') := by
 refine JCall_of_J (N := 8) (sl := [(0, _)]) isf101 rfl (by show 1 ≤ 8; decide) rfl ?_
 refine Sr (Lz (w_assign ?_))
 refine Sq ?_
 refine Cf ?_
 refine Sk ?_
 refine Sr (Lo (w_move ?_))
 refine Lo (w_call' isf105 ?_ (hR := by exact c105 (by omega)))
 rintro e1 h2 ⟨n3, rfl, hbn3, le4⟩
 refine Lz (w_assign ?_)
 refine Rt ?_
 refine leave_ret rfl ?_
 exact ⟨_, rfl, (by omega), le4⟩
theorem c85 {h : AH} {k : Nat} {s : Int} (e0 : k ≤ 8) (e1 : 0 ≤ s) (e2 : s < 2 ^ k) : JCall Tryz.prog 85 [.int .i64 s] h (fun e h' => ∃ (v : AV) (z : Nat), e = .ret (v) ∧ Bld h h' v z 1 (okL h [.int 0 ((k : Int) - 1)]) ∧ Le h h' ∧ z ≤ 400) := by
 refine JCall_of_J (N := 21) (sl := [(0, _)]) isf85 rfl (by show 1 ≤ 21; decide) rfl ?_
 refine Sr (Lz (w_assign ?_))
 refine Sq (Sr ?_)
 refine Lo (w_move ?_)
 refine Lo (w_conv tI3 tI149 ?_)
 have rn1 := wrap_u64 s
 generalize wrapI .u64 s = n1 at rn1 ⊢
 refine Lo (w_call' isf101 ?_ (hR := by exact c101 (by omega)))
 rintro e2 h3 ⟨n4, rfl, hbn4, le5⟩
 refine Lz (w_move ?_)
 refine Bk ?_
 refine J_for4 (x := C85 [0, 0, 1, 0, 1]) (fun (x2_6 : AV) (m7 : Nat) (x7_9 : Int) (h11 : AH) => ⟨[(0, .int .i64 s), (2, x2_6), (6, .int .i64 n4), (7, .int .i64 x7_9)], h11, 21, []⟩) (fun (x2_6 : AV) (m7 : Nat) (x7_9 : Int) (h11 : AH) => Bld h3 h11 x2_6 m7 1 (okL h3 [.int 0 ((k : Int) - 1)]) ∧ 0 ≤ x7_9 ∧ (x7_9 ≤ 400 ∧ ((m7 : Nat) : Int) ≤ x7_9) ∧ Le h3 h11) (fun (x2_6 : AV) (m7 : Nat) (x7_9 : Int) (h11 : AH) => (n4 - x7_9).toNat) (.slice none 0 (.exact 0)) 0 0 h3 rfl ⟨rfl, rfl, rfl, rfl, rfl, rfl, rfl, trivial⟩ ⟨(Bld.nil), (by omega), (by omega), .refl _⟩ ?_
 intro x2_6 m7 x7_9 h11 hI
 obtain ⟨bl8, hxx7_9, iv10, le12⟩ : Bld h3 h11 x2_6 m7 1 (okL h3 [.int 0 ((k : Int) - 1)]) ∧ 0 ≤ x7_9 ∧ (x7_9 ≤ 400 ∧ ((m7 : Nat) : Int) ≤ x7_9) ∧ Le h3 h11 := hI
 show J _ _ (C85 [0, 0, 1, 0, 1]) ⟨[(0, .int .i64 s), (2, x2_6), (6, .int .i64 n4), (7, .int .i64 x7_9)], h11, 21, []⟩ _
 refine Sr (Lz (w_lt ?_))
 refine Sq ?_
 refine Cn (fun q13 => ?_) (fun q13 => ?_)
 · refine Sk ?_
   refine Sq (Bk ?_)
   refine Sr (Lo (w_move ?_))
   refine Lz (w_assign ?_)
   refine Sr (Lo (w_move ?_))
   refine Lo (w_move ?_)
   refine Lo (w_shr ?_)
   refine Lo (w_and ?_)
   refine Lz (w_eq ?_)
   refine Cn (fun q14 => ?_) (fun q14 => ?_)
   · refine Rg (Lo (w_move ?_))
     refine Lo (w_move ?_)
     have bl15 := bit_lt (k := k) (by omega) e1 e2 (by omega) (by assumption)
     refine Lo (x_buildSlice (out := [.int .i64 x7_9]) tS28 tZ3 tN3 ?_)
     intro i16 h17 w18
     have l1_3_19 : Le h3 h17 := le12.trans w18.le
     refine Lo (x_append (hB := h3) (E := okL h3 [.int 0 ((k : Int) - 1)]) tG28_28 (bl8.le w18.le) l1_3_19 (w18.own.slE rfl ⟨_, _, rfl, ⟨_, rfl, by omega, by omega⟩, rfl⟩) ?_ (hq := by exact fun h => absurd h (by decide)) (hE := by exact fun _ h => okL_one h))
     intro v20 h21 bl22 le23 st24
     refine Lz (w_assign ?_)
     refine Rg (Lo (w_add ?_))
     refine Lz (w_move ?_)
     have l1_4_25 : Le h3 h21 := le23
     exact ⟨v20, (m7 + 1), (x7_9 + 1), h21, ⟨⟨bl22, (by omega), (by omega), l1_4_25⟩, by omega⟩, rfl, rfl, rfl, rfl, rfl, rfl, rfl, trivial⟩
   · refine Sk ?_
     refine Rg (Lo (w_add ?_))
     refine Lz (w_move ?_)
     exact ⟨x2_6, m7, (x7_9 + 1), h11, ⟨⟨bl8, (by omega), (by omega), le12⟩, by omega⟩, rfl, rfl, rfl, rfl, rfl, rfl, rfl, trivial⟩
 · refine Ex ?_
   refine then_x (then_x (blk_eq rfl ?_))
   refine Sr (Lo (w_move ?_))
   refine Lz (w_assign ?_)
   refine Rt ?_
   refine leave_ret rfl ?_
   have l0_2_26 : Le h h11 := le5.trans le12
   exact ⟨_, _, rfl, (bl8.base le5), l0_2_26, (by omega)⟩
end Go.Proofs.JT
