import Derived.Test.YtfkofhliffegjaaGreatT4
import Derived.Test.YtfkofhliffegjaaGreatT3
import Derived.Test.YtfkofhliffegjaaGreatT5
set_option linter.all false
open Go Go.J
set_option maxRecDepth 4000
set_option maxHeartbeats 2000000
set_option linter.unusedSimpArgs false
set_option linter.unusedVariables false
namespace Go.Proofs.JT
theorem tM134 : MapKey Tryz.prog 134 (KeyV [.bool, .int .i64]) keyEq := MapKey.flat (d := 30) (by decide) (by kernel_rfl) (by kernel_rfl)
theorem tT132 : Tryz.prog.underlying 132 = some (.map 134 3) := by kernel_rfl
theorem tP134 : structIs Tryz.prog 134 [(0, 1), (1, 1)] := structIs.of (by kernel_rfl)
theorem tN134 : zeroIs Tryz.prog 134 (.agg [.bool false, .int .i64 0]) := zeroIs.of (by kernel_rfl)
theorem tZ134 : (Tryz.prog.info? 134).map (·.size) = some 2 := by kernel_rfl
theorem tA134 : Agg Tryz.prog 134 2 := by unfold Agg; kernel_rfl
theorem tE134 : FlatEq Tryz.prog 134 [.bool, .int .i64] := ⟨by kernel_rfl, by kernel_rfl, by kernel_rfl⟩
theorem tC28 : Cell Tryz.prog 28 := by unfold Cell; kernel_rfl
theorem tB3 : (Tryz.prog.info? 3).map (fun i => (i.size, i.bytes)) = some (1, 8) := by kernel_rfl
theorem tZ28 : (Tryz.prog.info? 28).map (·.size) = some 1 := by kernel_rfl
theorem tC130 : Cell Tryz.prog 130 := by unfold Cell; kernel_rfl
theorem tN28 : zeroIs Tryz.prog 28 (.slice none 0 (.exact 0)) := zeroIs.of (by kernel_rfl)
theorem tN130 : zeroIs Tryz.prog 130 (.nilFunc) := zeroIs.of (by kernel_rfl)
theorem tZ130 : (Tryz.prog.info? 130).map (·.size) = some 1 := by kernel_rfl
theorem tS53 : Tryz.prog.underlying 53 = some (.slice 68) := by kernel_rfl
theorem tN68 : zeroIs Tryz.prog 68 (.agg [.int .i64 0, .int .i64 0]) := zeroIs.of (by kernel_rfl)
theorem tG53_53 : AppT Tryz.prog 53 53 68 2 16 (.agg [.int .i64 0, .int .i64 0]) := ⟨by kernel_rfl, notInt.of (by kernel_rfl), by kernel_rfl, tN68, rfl, by decide⟩
theorem tC110 : Cell Tryz.prog 110 := by unfold Cell; kernel_rfl
theorem tC111 : Cell Tryz.prog 111 := by unfold Cell; kernel_rfl
theorem tG22_22 : AppT Tryz.prog 22 22 70 5 48 (.agg [.str ByteArray.empty, .int .i64 0, .int .i64 0, .int .i64 0, .bool false]) := ⟨by kernel_rfl, notInt.of (by kernel_rfl), by kernel_rfl, tN70, rfl, by decide⟩
theorem tN27 : zeroIs Tryz.prog 27 (.agg [.slice none 0 (.exact 0), .slice none 0 (.exact 0), .slice none 0 (.exact 0), .slice none 0 (.exact 0)]) := zeroIs.of (by kernel_rfl)
theorem isf14 : IsFn Tryz.prog 14 Tryz.f14 (dn (bodyOf Tryz.f14) []) := ⟨Tryz.func14, rfl, by kernel_rfl⟩
noncomputable abbrev C14 (p : List Nat) : Code := dn (bodyOf Tryz.f14) p
theorem isf17 : IsFn Tryz.prog 17 Tryz.f17 (dn (bodyOf Tryz.f17) []) := ⟨Tryz.func17, rfl, by kernel_rfl⟩
noncomputable abbrev C17 (p : List Nat) : Code := dn (bodyOf Tryz.f17) p
theorem isf22 : IsFn Tryz.prog 22 Tryz.f22 (dn (bodyOf Tryz.f22) []) := ⟨Tryz.func22, rfl, by kernel_rfl⟩
noncomputable abbrev C22 (p : List Nat) : Code := dn (bodyOf Tryz.f22) p
theorem isf27 : IsFn Tryz.prog 27 Tryz.f27 (dn (bodyOf Tryz.f27) []) := ⟨Tryz.func27, rfl, by kernel_rfl⟩
noncomputable abbrev C27 (p : List Nat) : Code := dn (bodyOf Tryz.f27) p
theorem isf30 : IsFn Tryz.prog 30 Tryz.f30 (dn (bodyOf Tryz.f30) []) := ⟨Tryz.func30, rfl, by kernel_rfl⟩
noncomputable abbrev C30 (p : List Nat) : Code := dn (bodyOf Tryz.f30) p
theorem isf33 : IsFn Tryz.prog 33 Tryz.f33 (dn (bodyOf Tryz.f33) []) := ⟨Tryz.func33, rfl, by kernel_rfl⟩
noncomputable abbrev C33 (p : List Nat) : Code := dn (bodyOf Tryz.f33) p
theorem isf36 : IsFn Tryz.prog 36 Tryz.f36 (dn (bodyOf Tryz.f36) []) := ⟨Tryz.func36, rfl, by kernel_rfl⟩
noncomputable abbrev C36 (p : List Nat) : Code := dn (bodyOf Tryz.f36) p
theorem isf48 : IsFn Tryz.prog 48 Tryz.f48 (dn (bodyOf Tryz.f48) []) := ⟨Tryz.func48, rfl, by kernel_rfl⟩
noncomputable abbrev C48 (p : List Nat) : Code := dn (bodyOf Tryz.f48) p
theorem isf49 : IsFn Tryz.prog 49 Tryz.f49 (dn (bodyOf Tryz.f49) []) := ⟨Tryz.func49, rfl, by kernel_rfl⟩
noncomputable abbrev C49 (p : List Nat) : Code := dn (bodyOf Tryz.f49) p
theorem isf53 : IsFn Tryz.prog 53 Tryz.f53 (dn (bodyOf Tryz.f53) []) := ⟨Tryz.func53, rfl, by kernel_rfl⟩
noncomputable abbrev C53 (p : List Nat) : Code := dn (bodyOf Tryz.f53) p
theorem isf58 : IsFn Tryz.prog 58 Tryz.f58 (dn (bodyOf Tryz.f58) []) := ⟨Tryz.func58, rfl, by kernel_rfl⟩
noncomputable abbrev C58 (p : List Nat) : Code := dn (bodyOf Tryz.f58) p
theorem isf59 : IsFn Tryz.prog 59 Tryz.f59 (dn (bodyOf Tryz.f59) []) := ⟨Tryz.func59, rfl, by kernel_rfl⟩
noncomputable abbrev C59 (p : List Nat) : Code := dn (bodyOf Tryz.f59) p
theorem isf61 : IsFn Tryz.prog 61 Tryz.f61 (dn (bodyOf Tryz.f61) []) := ⟨Tryz.func61, rfl, by kernel_rfl⟩
noncomputable abbrev C61 (p : List Nat) : Code := dn (bodyOf Tryz.f61) p
theorem isf62 : IsFn Tryz.prog 62 Tryz.f62 (dn (bodyOf Tryz.f62) []) := ⟨Tryz.func62, rfl, by kernel_rfl⟩
noncomputable abbrev C62 (p : List Nat) : Code := dn (bodyOf Tryz.f62) p
theorem isf63 : IsFn Tryz.prog 63 Tryz.f63 (dn (bodyOf Tryz.f63) []) := ⟨Tryz.func63, rfl, by kernel_rfl⟩
noncomputable abbrev C63 (p : List Nat) : Code := dn (bodyOf Tryz.f63) p
theorem isf64 : IsFn Tryz.prog 64 Tryz.f64 (dn (bodyOf Tryz.f64) []) := ⟨Tryz.func64, rfl, by kernel_rfl⟩
noncomputable abbrev C64 (p : List Nat) : Code := dn (bodyOf Tryz.f64) p
theorem isf67 : IsFn Tryz.prog 67 Tryz.f67 (dn (bodyOf Tryz.f67) []) := ⟨Tryz.func67, rfl, by kernel_rfl⟩
noncomputable abbrev C67 (p : List Nat) : Code := dn (bodyOf Tryz.f67) p
theorem isf81 : IsFn Tryz.prog 81 Tryz.f81 (dn (bodyOf Tryz.f81) []) := ⟨Tryz.func81, rfl, by kernel_rfl⟩
noncomputable abbrev C81 (p : List Nat) : Code := dn (bodyOf Tryz.f81) p
theorem isf84 : IsFn Tryz.prog 84 Tryz.f84 (dn (bodyOf Tryz.f84) []) := ⟨Tryz.func84, rfl, by kernel_rfl⟩
noncomputable abbrev C84 (p : List Nat) : Code := dn (bodyOf Tryz.f84) p
theorem c53 {h : AH}  {x bn rn en qn : Nat} {p : Option (Nat × Nat)} {n : Nat} {cp : Cap} (hroom : RoomOK h x bn rn en qn) (sp : SlV h p n 1 (okL h [.int 0 ((qn : Int) - 1)])) (mp : n ≤ 1048576) : JCall Tryz.prog 53 [.ptr (some (x, 0)), .slice p n cp] h (fun e h' => ∃ (r : Bool), e = .ret (.bool r) ∧ Le h h') := by
 refine JCall_of_J (N := 63) (sl := [(0, _), (1, _)]) isf53 rfl (by show 2 ≤ 63; decide) rfl ?_
 have hroom0 := hroom
 obtain ⟨cs, bp, rp, ep, qp, cb, cr, ce, cq, ri, f, a, gy, hx, lx, gx_, k0, k1, k2, k3, k52, ori, of, og, oa, ex⟩ := hroom
 obtain ⟨mbn, mrn, men, mqn, sbp, srp, sep, sqp⟩ := ex
 refine Sr (Lz (w_assign ?_))
 refine Sr (Lo (x_makeMap ?_))
 intro i6 h7 w8
 have ne9 : a ≠ i6 := ne_of_free w8.free oa
 have ne10 : f ≠ i6 := ne_of_free w8.free of
 have ne11 : gy ≠ i6 := ne_of_free w8.free og
 have ne12 : ri ≠ i6 := ne_of_free w8.free ori
 have ne13 : x ≠ i6 := ne_of_cells w8.free hx
 refine Lz (w_assign ?_)
 refine Sq (Sr ?_)
 refine Lo (w_move ?_)
 refine Lo (w_len tS28 ?_)
 refine Lz (w_move ?_)
 refine Bk ?_
 refine J_for4 (x := C53 [0, 0, 1, 0, 1, 1]) (fun (x13_14 : Int) (es15 : List (AV × AV × Nat)) (cl16 : Nat) (h20 : AH) => ⟨[(0, .ptr (some (x, 0))), (5, .map (some i6)), (11, .slice p n cp), (12, .int .i64 ((n : Nat) : Int)), (13, .int .i64 x13_14)], h20, 63, []⟩) (fun (x13_14 : Int) (es15 : List (AV × AV × Nat)) (cl16 : Nat) (h20 : AH) => 0 ≤ x13_14 ∧ (∀ e ∈ es15, (KeyV [.bool, .int .i64]) e.1) ∧ (∀ e ∈ es15, VInt e.2.1) ∧ LeM [i6] h7 h20 ∧ h20.get i6 = some (.map es15 cl16)) (fun (x13_14 : Int) (es15 : List (AV × AV × Nat)) (cl16 : Nat) (h20 : AH) => (((n : Nat) : Int) - x13_14).toNat) 0 [] 0 h7 rfl ⟨rfl, rfl, rfl, rfl, rfl, rfl, rfl, rfl, trivial⟩ ⟨(by omega), ((fun _ h => nomatch h)), ((fun _ h => nomatch h)), .refl _ _, (w8.get)⟩ ?_
 intro x13_14 es15 cl16 h20 hI
 obtain ⟨hxx13_14, hK17, hV18, lm21, g19⟩ : 0 ≤ x13_14 ∧ (∀ e ∈ es15, (KeyV [.bool, .int .i64]) e.1) ∧ (∀ e ∈ es15, VInt e.2.1) ∧ LeM [i6] h7 h20 ∧ h20.get i6 = some (.map es15 cl16) := hI
 show J _ _ (C53 [0, 0, 1, 0, 1, 1]) ⟨[(0, .ptr (some (x, 0))), (5, .map (some i6)), (11, .slice p n cp), (12, .int .i64 ((n : Nat) : Int)), (13, .int .i64 x13_14)], h20, 63, []⟩ _
 refine Sr (Lz (w_lt ?_))
 refine Sq ?_
 refine Cn (fun q22 => ?_) (fun q22 => ?_)
 · refine Sk ?_
   refine Sq (Bk ?_)
   refine Sr ?_
   have l0_2_23 : Le h h20 := w8.le.turn lm21 (by simp only [List.mem_cons, List.not_mem_nil, or_false, forall_eq_or_imp, forall_eq]; exact w8.free)
   obtain ⟨i31, o32, cs30, l29, rfl, hc24, hl25, hk26, hE27, ht28⟩ := (sp.le l0_2_23).at (i := x13_14) (by omega) (by omega)
   obtain ⟨_, _, rfl, ⟨n33, rfl, lon33, hin33⟩, rfl⟩ := hE27
   refine Lo (w_indexAddrS tS28 tZ3 ?_)
   refine Lo (w_ldC tC3 hc24 ?_ (hv := cell_of_take0 ht28 rfl))
   refine Lz (w_assign ?_)
   refine Sq ?_
   refine J_drawF (opsAt (C53 [0, 1, 0, 0, 1, 1, 0, 0, 1, 0, 1, 1])) [[(0, none)], [(17, some 0)], [(18, some 1)], [(19, some 2)], [(20, some 3)], [(7, none)], [(21, some 4), (22, some 5)], [(23, some 6)], [(24, some 7)], [(25, some 8)], [(0, none)], [(27, some 10)], [(28, some 11)], [(29, some 12)], [(30, some 13)], [(7, none)], [(31, some 14), (32, some 15)], [(33, some 16)], [(34, some 17)], [(35, some 18)], [], [], [(8, some 20), (26, some 9)], [(9, some 21), (36, some 19)]] ?_
   refine f_p1 (j := 0) (d := 17) (sl := [(0, .ptr (some (x, 0)))]) (h := h20) rfl rfl rfl (by decide) rfl rfl rfl rfl rfl (w_move ?_)
   refine FP_ok (V' := [.ptr (some (x, 0))]) (K' := [.p1]) rfl rfl rfl rfl rfl rfl ?_
   refine f_p1 (j := 1) (d := 18) (sl := [(17, .ptr (some (x, 0)))]) (h := h20) rfl rfl rfl (by decide) rfl rfl rfl rfl rfl (w_nilCheck_ptr ?_)
   refine FP_ok (V' := [.ptr (some (x, 0)), .ptr (some (x, 0))]) (K' := [.p1, .p1]) rfl rfl rfl rfl rfl rfl ?_
   refine f_p1 (j := 2) (d := 19) (sl := [(18, .ptr (some (x, 0)))]) (h := h20) rfl rfl rfl (by decide) rfl rfl rfl rfl rfl (w_fieldAddr tF98_0 tZ27 ?_)
   refine FP_ok (V' := [.ptr (some (x, 0)), .ptr (some (x, 0)), .ptr (some (x, 0))]) (K' := [.p1, .p1, .p1]) rfl rfl rfl rfl rfl rfl ?_
   refine f_p1 (j := 3) (d := 20) (sl := [(19, .ptr (some (x, 0)))]) (h := h20) rfl rfl rfl (by decide) rfl rfl rfl rfl rfl (w_fieldAddr tF27_3 tZ25 ?_)
   refine FP_ok (V' := [.ptr (some (x, 0)), .ptr (some (x, 0)), .ptr (some (x, 0)), .ptr (some (x, 3))]) (K' := [.p1, .p1, .p1, .p1]) rfl rfl rfl rfl rfl rfl ?_
   have o34 : h20.cells x = some cs := (l0_2_23.cells hx)
   refine f_p1 (j := 4) (d := 21) (sl := [(20, .ptr (some (x, 3)))]) (h := h20) rfl rfl rfl (by decide) rfl rfl rfl rfl rfl (w_ldC tC25 o34 ?_ (hv := k3))
   refine FP_ok (V' := [.ptr (some (x, 0)), .ptr (some (x, 0)), .ptr (some (x, 0)), .ptr (some (x, 3)), .slice qp qn cq]) (K' := [.p1, .p1, .p1, .p1, .p1]) rfl rfl rfl rfl rfl rfl ?_
   refine f_p1 (j := 5) (d := 22) (sl := [(7, .int .i64 n33)]) (h := h20) rfl rfl rfl (by decide) rfl rfl rfl rfl rfl (w_move ?_)
   refine FP_ok (V' := [.ptr (some (x, 0)), .ptr (some (x, 0)), .ptr (some (x, 0)), .ptr (some (x, 3)), .slice qp qn cq, .int .i64 n33]) (K' := [.p1, .p1, .p1, .p1, .p1, .p1]) rfl rfl rfl rfl rfl rfl ?_
   obtain ⟨i42, o43, cs41, l40, rfl, hc35, hl36, hk37, hE38, ht39⟩ := (sqp.le l0_2_23).at (i := n33) (by omega) (by omega)
   obtain ⟨_, _, rfl, ⟨n44, rfl, lon44, hin44⟩, _, _, rfl, ⟨n45, rfl, lon45, hin45⟩, _, _, rfl, ⟨n46, rfl, lon46, hin46⟩, _, _, rfl, ⟨n47, rfl, lon47, hin47⟩, rfl⟩ := hE38
   refine f_p1 (j := 6) (d := 23) (sl := [(21, .slice (some (i42, o43)) qn cq), (22, .int .i64 n33)]) (h := h20) rfl rfl rfl (by decide) rfl rfl rfl rfl rfl (w_indexAddrS tS25 tZ82 ?_)
   refine FP_ok (V' := [.ptr (some (x, 0)), .ptr (some (x, 0)), .ptr (some (x, 0)), .ptr (some (x, 3)), .slice (some (i42, o43)) qn cq, .int .i64 n33, .ptr (some (i42, o43 + n33.toNat * 4))]) (K' := [.p1, .p1, .p1, .p1, .p1, .p1, .p1]) rfl rfl rfl rfl rfl rfl ?_
   refine f_p1 (j := 7) (d := 24) (sl := [(23, .ptr (some (i42, o43 + n33.toNat * 4)))]) (h := h20) rfl rfl rfl (by decide) rfl rfl rfl rfl rfl (w_fieldAddr tF82_0 tZ3 ?_)
   refine FP_ok (V' := [.ptr (some (x, 0)), .ptr (some (x, 0)), .ptr (some (x, 0)), .ptr (some (x, 3)), .slice (some (i42, o43)) qn cq, .int .i64 n33, .ptr (some (i42, o43 + n33.toNat * 4)), .ptr (some (i42, o43 + n33.toNat * 4 + 0))]) (K' := [.p1, .p1, .p1, .p1, .p1, .p1, .p1, .p1]) rfl rfl rfl rfl rfl rfl ?_
   refine f_p1 (j := 8) (d := 25) (sl := [(24, .ptr (some (i42, o43 + n33.toNat * 4 + 0)))]) (h := h20) rfl rfl rfl (by decide) rfl rfl rfl rfl rfl (w_ldC tC3 hc35 ?_ (hv := cell_of_take0 ht39 rfl))
   refine FP_ok (V' := [.ptr (some (x, 0)), .ptr (some (x, 0)), .ptr (some (x, 0)), .ptr (some (x, 3)), .slice (some (i42, o43)) qn cq, .int .i64 n33, .ptr (some (i42, o43 + n33.toNat * 4)), .ptr (some (i42, o43 + n33.toNat * 4 + 0)), .int .i64 n44]) (K' := [.p1, .p1, .p1, .p1, .p1, .p1, .p1, .p1, .p1]) rfl rfl rfl rfl rfl rfl ?_
   refine f_p1 (j := 9) (d := 26) (sl := [(25, .int .i64 n44)]) (h := h20) rfl rfl rfl (by decide) rfl rfl rfl rfl rfl (w_build (out := [.bool false, .int .i64 n44]) tP134 tN134 ?_)
   refine FP_ok (V' := [.ptr (some (x, 0)), .ptr (some (x, 0)), .ptr (some (x, 0)), .ptr (some (x, 3)), .slice (some (i42, o43)) qn cq, .int .i64 n33, .ptr (some (i42, o43 + n33.toNat * 4)), .ptr (some (i42, o43 + n33.toNat * 4 + 0)), .int .i64 n44, .agg [.bool false, .int .i64 n44]]) (K' := [.p1, .p1, .p1, .p1, .p1, .p1, .p1, .p1, .p1, .p1]) rfl rfl rfl rfl rfl rfl ?_
   refine f_p1 (j := 10) (d := 27) (sl := [(0, .ptr (some (x, 0)))]) (h := h20) rfl rfl rfl (by decide) rfl rfl rfl rfl rfl (w_move ?_)
   refine FP_ok (V' := [.ptr (some (x, 0)), .ptr (some (x, 0)), .ptr (some (x, 0)), .ptr (some (x, 3)), .slice (some (i42, o43)) qn cq, .int .i64 n33, .ptr (some (i42, o43 + n33.toNat * 4)), .ptr (some (i42, o43 + n33.toNat * 4 + 0)), .int .i64 n44, .agg [.bool false, .int .i64 n44], .ptr (some (x, 0))]) (K' := [.p1, .p1, .p1, .p1, .p1, .p1, .p1, .p1, .p1, .p1, .p1]) rfl rfl rfl rfl rfl rfl ?_
   refine f_p1 (j := 11) (d := 28) (sl := [(27, .ptr (some (x, 0)))]) (h := h20) rfl rfl rfl (by decide) rfl rfl rfl rfl rfl (w_nilCheck_ptr ?_)
   refine FP_ok (V' := [.ptr (some (x, 0)), .ptr (some (x, 0)), .ptr (some (x, 0)), .ptr (some (x, 3)), .slice (some (i42, o43)) qn cq, .int .i64 n33, .ptr (some (i42, o43 + n33.toNat * 4)), .ptr (some (i42, o43 + n33.toNat * 4 + 0)), .int .i64 n44, .agg [.bool false, .int .i64 n44], .ptr (some (x, 0)), .ptr (some (x, 0))]) (K' := [.p1, .p1, .p1, .p1, .p1, .p1, .p1, .p1, .p1, .p1, .p1, .p1]) rfl rfl rfl rfl rfl rfl ?_
   refine f_p1 (j := 12) (d := 29) (sl := [(28, .ptr (some (x, 0)))]) (h := h20) rfl rfl rfl (by decide) rfl rfl rfl rfl rfl (w_fieldAddr tF98_0 tZ27 ?_)
   refine FP_ok (V' := [.ptr (some (x, 0)), .ptr (some (x, 0)), .ptr (some (x, 0)), .ptr (some (x, 3)), .slice (some (i42, o43)) qn cq, .int .i64 n33, .ptr (some (i42, o43 + n33.toNat * 4)), .ptr (some (i42, o43 + n33.toNat * 4 + 0)), .int .i64 n44, .agg [.bool false, .int .i64 n44], .ptr (some (x, 0)), .ptr (some (x, 0)), .ptr (some (x, 0))]) (K' := [.p1, .p1, .p1, .p1, .p1, .p1, .p1, .p1, .p1, .p1, .p1, .p1, .p1]) rfl rfl rfl rfl rfl rfl ?_
   refine f_p1 (j := 13) (d := 30) (sl := [(29, .ptr (some (x, 0)))]) (h := h20) rfl rfl rfl (by decide) rfl rfl rfl rfl rfl (w_fieldAddr tF27_3 tZ25 ?_)
   refine FP_ok (V' := [.ptr (some (x, 0)), .ptr (some (x, 0)), .ptr (some (x, 0)), .ptr (some (x, 3)), .slice (some (i42, o43)) qn cq, .int .i64 n33, .ptr (some (i42, o43 + n33.toNat * 4)), .ptr (some (i42, o43 + n33.toNat * 4 + 0)), .int .i64 n44, .agg [.bool false, .int .i64 n44], .ptr (some (x, 0)), .ptr (some (x, 0)), .ptr (some (x, 0)), .ptr (some (x, 3))]) (K' := [.p1, .p1, .p1, .p1, .p1, .p1, .p1, .p1, .p1, .p1, .p1, .p1, .p1, .p1]) rfl rfl rfl rfl rfl rfl ?_
   refine f_p1 (j := 14) (d := 31) (sl := [(30, .ptr (some (x, 3)))]) (h := h20) rfl rfl rfl (by decide) rfl rfl rfl rfl rfl (w_ldC tC25 o34 ?_ (hv := k3))
   refine FP_ok (V' := [.ptr (some (x, 0)), .ptr (some (x, 0)), .ptr (some (x, 0)), .ptr (some (x, 3)), .slice (some (i42, o43)) qn cq, .int .i64 n33, .ptr (some (i42, o43 + n33.toNat * 4)), .ptr (some (i42, o43 + n33.toNat * 4 + 0)), .int .i64 n44, .agg [.bool false, .int .i64 n44], .ptr (some (x, 0)), .ptr (some (x, 0)), .ptr (some (x, 0)), .ptr (some (x, 3)), .slice (some (i42, o43)) qn cq]) (K' := [.p1, .p1, .p1, .p1, .p1, .p1, .p1, .p1, .p1, .p1, .p1, .p1, .p1, .p1, .p1]) rfl rfl rfl rfl rfl rfl ?_
   refine f_p1 (j := 15) (d := 32) (sl := [(7, .int .i64 n33)]) (h := h20) rfl rfl rfl (by decide) rfl rfl rfl rfl rfl (w_move ?_)
   refine FP_ok (V' := [.ptr (some (x, 0)), .ptr (some (x, 0)), .ptr (some (x, 0)), .ptr (some (x, 3)), .slice (some (i42, o43)) qn cq, .int .i64 n33, .ptr (some (i42, o43 + n33.toNat * 4)), .ptr (some (i42, o43 + n33.toNat * 4 + 0)), .int .i64 n44, .agg [.bool false, .int .i64 n44], .ptr (some (x, 0)), .ptr (some (x, 0)), .ptr (some (x, 0)), .ptr (some (x, 3)), .slice (some (i42, o43)) qn cq, .int .i64 n33]) (K' := [.p1, .p1, .p1, .p1, .p1, .p1, .p1, .p1, .p1, .p1, .p1, .p1, .p1, .p1, .p1, .p1]) rfl rfl rfl rfl rfl rfl ?_
   obtain ⟨cs54, l53, hc48, hl49, hk50, hE51, ht52⟩ := (sqp.le l0_2_23).atS (i := n33) (by omega) (by omega)
   obtain ⟨_, _, rfl, ⟨n55, rfl, lon55, hin55⟩, _, _, rfl, ⟨n56, rfl, lon56, hin56⟩, _, _, rfl, ⟨n57, rfl, lon57, hin57⟩, _, _, rfl, ⟨n58, rfl, lon58, hin58⟩, rfl⟩ := hE51
   refine f_p1 (j := 16) (d := 33) (sl := [(31, .slice (some (i42, o43)) qn cq), (32, .int .i64 n33)]) (h := h20) rfl rfl rfl (by decide) rfl rfl rfl rfl rfl (w_indexAddrS tS25 tZ82 ?_)
   refine FP_ok (V' := [.ptr (some (x, 0)), .ptr (some (x, 0)), .ptr (some (x, 0)), .ptr (some (x, 3)), .slice (some (i42, o43)) qn cq, .int .i64 n33, .ptr (some (i42, o43 + n33.toNat * 4)), .ptr (some (i42, o43 + n33.toNat * 4 + 0)), .int .i64 n44, .agg [.bool false, .int .i64 n44], .ptr (some (x, 0)), .ptr (some (x, 0)), .ptr (some (x, 0)), .ptr (some (x, 3)), .slice (some (i42, o43)) qn cq, .int .i64 n33, .ptr (some (i42, o43 + n33.toNat * 4))]) (K' := [.p1, .p1, .p1, .p1, .p1, .p1, .p1, .p1, .p1, .p1, .p1, .p1, .p1, .p1, .p1, .p1, .p1]) rfl rfl rfl rfl rfl rfl ?_
   refine f_p1 (j := 17) (d := 34) (sl := [(33, .ptr (some (i42, o43 + n33.toNat * 4)))]) (h := h20) rfl rfl rfl (by decide) rfl rfl rfl rfl rfl (w_fieldAddr tF82_1 tZ3 ?_)
   refine FP_ok (V' := [.ptr (some (x, 0)), .ptr (some (x, 0)), .ptr (some (x, 0)), .ptr (some (x, 3)), .slice (some (i42, o43)) qn cq, .int .i64 n33, .ptr (some (i42, o43 + n33.toNat * 4)), .ptr (some (i42, o43 + n33.toNat * 4 + 0)), .int .i64 n44, .agg [.bool false, .int .i64 n44], .ptr (some (x, 0)), .ptr (some (x, 0)), .ptr (some (x, 0)), .ptr (some (x, 3)), .slice (some (i42, o43)) qn cq, .int .i64 n33, .ptr (some (i42, o43 + n33.toNat * 4)), .ptr (some (i42, o43 + n33.toNat * 4 + 1))]) (K' := [.p1, .p1, .p1, .p1, .p1, .p1, .p1, .p1, .p1, .p1, .p1, .p1, .p1, .p1, .p1, .p1, .p1, .p1]) rfl rfl rfl rfl rfl rfl ?_
   refine f_p1 (j := 18) (d := 35) (sl := [(34, .ptr (some (i42, o43 + n33.toNat * 4 + 1)))]) (h := h20) rfl rfl rfl (by decide) rfl rfl rfl rfl rfl (w_ldC tC3 hc48 ?_ (hv := cell_of_take (k := 1) ht52 rfl))
   refine FP_ok (V' := [.ptr (some (x, 0)), .ptr (some (x, 0)), .ptr (some (x, 0)), .ptr (some (x, 3)), .slice (some (i42, o43)) qn cq, .int .i64 n33, .ptr (some (i42, o43 + n33.toNat * 4)), .ptr (some (i42, o43 + n33.toNat * 4 + 0)), .int .i64 n44, .agg [.bool false, .int .i64 n44], .ptr (some (x, 0)), .ptr (some (x, 0)), .ptr (some (x, 0)), .ptr (some (x, 3)), .slice (some (i42, o43)) qn cq, .int .i64 n33, .ptr (some (i42, o43 + n33.toNat * 4)), .ptr (some (i42, o43 + n33.toNat * 4 + 1)), .int .i64 n56]) (K' := [.p1, .p1, .p1, .p1, .p1, .p1, .p1, .p1, .p1, .p1, .p1, .p1, .p1, .p1, .p1, .p1, .p1, .p1, .p1]) rfl rfl rfl rfl rfl rfl ?_
   refine f_p1 (j := 19) (d := 36) (sl := [(35, .int .i64 n56)]) (h := h20) rfl rfl rfl (by decide) rfl rfl rfl rfl rfl (w_build (out := [.bool true, .int .i64 n56]) tP134 tN134 ?_)
   refine FP_ok (V' := [.ptr (some (x, 0)), .ptr (some (x, 0)), .ptr (some (x, 0)), .ptr (some (x, 3)), .slice (some (i42, o43)) qn cq, .int .i64 n33, .ptr (some (i42, o43 + n33.toNat * 4)), .ptr (some (i42, o43 + n33.toNat * 4 + 0)), .int .i64 n44, .agg [.bool false, .int .i64 n44], .ptr (some (x, 0)), .ptr (some (x, 0)), .ptr (some (x, 0)), .ptr (some (x, 3)), .slice (some (i42, o43)) qn cq, .int .i64 n33, .ptr (some (i42, o43 + n33.toNat * 4)), .ptr (some (i42, o43 + n33.toNat * 4 + 1)), .int .i64 n56, .agg [.bool true, .int .i64 n56]]) (K' := [.p1, .p1, .p1, .p1, .p1, .p1, .p1, .p1, .p1, .p1, .p1, .p1, .p1, .p1, .p1, .p1, .p1, .p1, .p1, .p1]) rfl rfl rfl rfl rfl rfl ?_
   obtain ⟨i59, e60⟩ : ∃ i, i = h20.next + 0 := ⟨_, rfl⟩
   refine f_alloc (N := i59) (zc := [.bool false, .int .i64 0]) (V' := [.ptr (some (x, 0)), .ptr (some (x, 0)), .ptr (some (x, 0)), .ptr (some (x, 3)), .slice (some (i42, o43)) qn cq, .int .i64 n33, .ptr (some (i42, o43 + n33.toNat * 4)), .ptr (some (i42, o43 + n33.toNat * 4 + 0)), .int .i64 n44, .agg [.bool false, .int .i64 n44], .ptr (some (x, 0)), .ptr (some (x, 0)), .ptr (some (x, 0)), .ptr (some (x, 3)), .slice (some (i42, o43)) qn cq, .int .i64 n33, .ptr (some (i42, o43 + n33.toNat * 4)), .ptr (some (i42, o43 + n33.toNat * 4 + 1)), .int .i64 n56, .agg [.bool true, .int .i64 n56], .ptr (some (i59, 0))]) (K' := [.p1, .p1, .p1, .p1, .p1, .p1, .p1, .p1, .p1, .p1, .p1, .p1, .p1, .p1, .p1, .p1, .p1, .p1, .p1, .p1, .f i59 [.bool false, .int .i64 0]]) tN134 rfl rfl rfl rfl rfl (by decide) rfl rfl e60 rfl rfl rfl ?_
   obtain ⟨i61, e62⟩ : ∃ i, i = h20.next + 1 := ⟨_, rfl⟩
   refine f_alloc (N := i61) (zc := [.bool false, .int .i64 0]) (V' := [.ptr (some (x, 0)), .ptr (some (x, 0)), .ptr (some (x, 0)), .ptr (some (x, 3)), .slice (some (i42, o43)) qn cq, .int .i64 n33, .ptr (some (i42, o43 + n33.toNat * 4)), .ptr (some (i42, o43 + n33.toNat * 4 + 0)), .int .i64 n44, .agg [.bool false, .int .i64 n44], .ptr (some (x, 0)), .ptr (some (x, 0)), .ptr (some (x, 0)), .ptr (some (x, 3)), .slice (some (i42, o43)) qn cq, .int .i64 n33, .ptr (some (i42, o43 + n33.toNat * 4)), .ptr (some (i42, o43 + n33.toNat * 4 + 1)), .int .i64 n56, .agg [.bool true, .int .i64 n56], .ptr (some (i59, 0)), .ptr (some (i61, 0))]) (K' := [.p1, .p1, .p1, .p1, .p1, .p1, .p1, .p1, .p1, .p1, .p1, .p1, .p1, .p1, .p1, .p1, .p1, .p1, .p1, .p1, .f i59 [.bool false, .int .i64 0], .f i61 [.bool false, .int .i64 0]]) tN134 rfl rfl rfl rfl rfl (by decide) rfl rfl e62 rfl rfl rfl ?_
   refine f_sto (a := 20) (ix := 9) (N := i59) (cs := [.bool false, .int .i64 0]) (cs' := [.bool false, .int .i64 n44]) (sl := [(8, .ptr (some (i59, 0))), (26, .agg [.bool false, .int .i64 n44])]) (V' := [.ptr (some (x, 0)), .ptr (some (x, 0)), .ptr (some (x, 0)), .ptr (some (x, 3)), .slice (some (i42, o43)) qn cq, .int .i64 n33, .ptr (some (i42, o43 + n33.toNat * 4)), .ptr (some (i42, o43 + n33.toNat * 4 + 0)), .int .i64 n44, .agg [.bool false, .int .i64 n44], .ptr (some (x, 0)), .ptr (some (x, 0)), .ptr (some (x, 0)), .ptr (some (x, 3)), .slice (some (i42, o43)) qn cq, .int .i64 n33, .ptr (some (i42, o43 + n33.toNat * 4)), .ptr (some (i42, o43 + n33.toNat * 4 + 1)), .int .i64 n56, .agg [.bool true, .int .i64 n56], .ptr (some (i59, 0)), .ptr (some (i61, 0)), .tuple []]) (K' := [.p1, .p1, .p1, .p1, .p1, .p1, .p1, .p1, .p1, .p1, .p1, .p1, .p1, .p1, .p1, .p1, .p1, .p1, .p1, .p1, .f i59 [.bool false, .int .i64 0], .f i61 [.bool false, .int .i64 0], .s 20 9 i59 (h20.next + 2) [.bool false, .int .i64 0] [.bool false, .int .i64 n44]]) tZ134 rfl rfl rfl rfl rfl rfl rfl rfl rfl rfl rfl rfl rfl rfl rfl rfl rfl rfl ?_
   refine f_sto (a := 21) (ix := 19) (N := i61) (cs := [.bool false, .int .i64 0]) (cs' := [.bool true, .int .i64 n56]) (sl := [(9, .ptr (some (i61, 0))), (36, .agg [.bool true, .int .i64 n56])]) (V' := [.ptr (some (x, 0)), .ptr (some (x, 0)), .ptr (some (x, 0)), .ptr (some (x, 3)), .slice (some (i42, o43)) qn cq, .int .i64 n33, .ptr (some (i42, o43 + n33.toNat * 4)), .ptr (some (i42, o43 + n33.toNat * 4 + 0)), .int .i64 n44, .agg [.bool false, .int .i64 n44], .ptr (some (x, 0)), .ptr (some (x, 0)), .ptr (some (x, 0)), .ptr (some (x, 3)), .slice (some (i42, o43)) qn cq, .int .i64 n33, .ptr (some (i42, o43 + n33.toNat * 4)), .ptr (some (i42, o43 + n33.toNat * 4 + 1)), .int .i64 n56, .agg [.bool true, .int .i64 n56], .ptr (some (i59, 0)), .ptr (some (i61, 0)), .tuple [], .tuple []]) (K' := [.p1, .p1, .p1, .p1, .p1, .p1, .p1, .p1, .p1, .p1, .p1, .p1, .p1, .p1, .p1, .p1, .p1, .p1, .p1, .p1, .f i59 [.bool false, .int .i64 0], .f i61 [.bool false, .int .i64 0], .s 20 9 i59 (h20.next + 2) [.bool false, .int .i64 0] [.bool false, .int .i64 n44], .s 21 19 i61 (h20.next + 2) [.bool false, .int .i64 0] [.bool true, .int .i64 n56]]) tZ134 rfl rfl rfl rfl rfl rfl rfl rfl rfl rfl rfl rfl rfl rfl rfl rfl rfl rfl ?_
   refine JF_end (fin := [(0, none), (5, none), (11, none), (12, none), (13, none), (8, some 20), (9, some 21)]) (slF := [(0, .ptr (some (x, 0))), (5, .map (some i6)), (11, .slice (some (i31, o32)) n cp), (12, .int .i64 ((n : Nat) : Int)), (13, .int .i64 x13_14), (8, .ptr (some (i59, 0))), (9, .ptr (some (i61, 0)))]) (L := [(i59, [.bool false, .int .i64 n44]), (i61, [.bool true, .int .i64 n56])]) rfl mixed (by kernel_rfl) (by rfl) rfl rfl ?_
   refine NewC.cons fun h63 w64 => ?_
   have o65 : Own h20 a [.slice bp bn cb, .slice rp rn cr, .slice ep en ce, .slice (some (i42, o43)) qn cq] := ((oa.le w8.le).leM lm21 (by simp only [List.mem_cons, List.not_mem_nil, or_false, not_or]; exact ne9))
   have ne66 : a ≠ i59 := ne_of_free w64.free o65
   have o67 : Own h20 f [.fn (.func 87) [] [.ptr (some (a, 0))]] := ((of.le w8.le).leM lm21 (by simp only [List.mem_cons, List.not_mem_nil, or_false, not_or]; exact ne10))
   have ne68 : f ≠ i59 := ne_of_free w64.free o67
   have o69 : Own h20 gy [.ptr (some (x, 0))] := ((og.le w8.le).leM lm21 (by simp only [List.mem_cons, List.not_mem_nil, or_false, not_or]; exact ne11))
   have ne70 : gy ≠ i59 := ne_of_free w64.free o69
   have o71 : Own h20 ri [.int .i64 1, .fn (.func 88) [] [.ptr (some (f, 0)), .ptr (some (a, 0))], .int .i64 2, .fn (.func 89) [] [.ptr (some (f, 0)), .ptr (some (a, 0))], .int .i64 3, .fn (.func 90) [] [.ptr (some (gy, 0)), .ptr (some (f, 0))]] := ((ori.le w8.le).leM lm21 (by simp only [List.mem_cons, List.not_mem_nil, or_false, not_or]; exact ne12))
   have ne72 : ri ≠ i59 := ne_of_free w64.free o71
   have ne73 : x ≠ i59 := ne_of_cells w64.free o34
   have ne74 : i6 ≠ i59 := ne_of_free w64.free g19
   refine NewC.cons fun h75 w76 => ?_
   have o77 : Own h63 a [.slice bp bn cb, .slice rp rn cr, .slice ep en ce, .slice (some (i42, o43)) qn cq] := (o65.le w64.le)
   have ne78 : a ≠ i61 := ne_of_free w76.free o77
   have o79 : Own h63 f [.fn (.func 87) [] [.ptr (some (a, 0))]] := (o67.le w64.le)
   have ne80 : f ≠ i61 := ne_of_free w76.free o79
   have o81 : Own h63 gy [.ptr (some (x, 0))] := (o69.le w64.le)
   have ne82 : gy ≠ i61 := ne_of_free w76.free o81
   have o83 : Own h63 ri [.int .i64 1, .fn (.func 88) [] [.ptr (some (f, 0)), .ptr (some (a, 0))], .int .i64 2, .fn (.func 89) [] [.ptr (some (f, 0)), .ptr (some (a, 0))], .int .i64 3, .fn (.func 90) [] [.ptr (some (gy, 0)), .ptr (some (f, 0))]] := (o71.le w64.le)
   have ne84 : ri ≠ i61 := ne_of_free w76.free o83
   have o85 : h63.cells x = some cs := (w64.le.cells o34)
   have ne86 : x ≠ i61 := ne_of_cells w76.free o85
   have o87 : h63.get i6 = some (.map es15 cl16) := (w64.le.get _ _ g19)
   have ne88 : i6 ≠ i61 := ne_of_free w76.free o87
   have ne89 : i59 ≠ i61 := ne_of_free w76.free w64.own
   refine NewC.nil ?_
   refine Sq (Sq ?_)
   refine J_drawS (opsAt (C53 [0, 0, 1, 1, 0, 0, 1, 1, 0, 0, 1, 0, 1, 1])) [[(5, none)], [(8, none)], [(37, some 0), (38, some 1)], [(39, some 2)], [(37, some 0), (38, some 1)], [(41, some 4)], [(37, some 0), (40, some 3), (42, some 5)]] ?_
   refine Dp (w_move ⟨rfl, rfl⟩) ?_
   have o90 : Own h75 i59 [.bool false, .int .i64 n44] := (w64.own.le w76.le)
   refine Dp (w_ldA (l := [.bool false, .int .i64 n44]) tA134 o90.cells ⟨rfl, rfl⟩) ?_
   have o91 : h75.get i6 = some (.map es15 cl16) := (w76.le.get _ _ o87)
   obtain ⟨n92, hm93⟩ : VInt (mget keyEq es15 (.agg [.bool false, .int .i64 n44]) (.int .i64 0)) := mget_V hV18 ⟨_, rfl⟩
   refine Dp (x_lookupI tT132 tN3 tM134 o91 hK17 hm93 ⟨rfl, rfl⟩ (hk := by exact ⟨rfl, _, rfl, ⟨_, _, rfl, ⟨_, rfl⟩, ⟨_, _, rfl, ⟨_, rfl⟩, rfl⟩⟩⟩)) ?_
   refine Dq (h₁ := h75) (w_addw ?_)
   have rn94 := wrap_i64 (n92 + 1)
   refine Po ?_
   refine De (h₁ := h75) (x_mapEntryI (V := VInt) tT132 tN3 tM134 o91 hK17 hV18 hm93 ?_ (hk := by exact ⟨rfl, _, rfl, ⟨_, _, rfl, ⟨_, rfl⟩, ⟨_, _, rfl, ⟨_, rfl⟩, rfl⟩⟩⟩) (hzV := by exact ⟨_, rfl⟩))
   intro es95 cl96 b97 h98 bt99 g100 hK101 hV102 hb103 hm104
   refine Eo ?_
   refine Dp (w_extract ⟨rfl, rfl⟩) ?_
   refine Da (h₁ := h98) (x_entryStoreI (V := VInt) g100 hK101 hV102 hb103 ?_ (hvV := by exact ⟨_, rfl⟩))
   intro es105 h106 bt107 g108 hK109 hV110
   refine Ao ?_
   refine Ra 2 1 (x_lookupI tT132 tN3 tM134 g100 hK101 hm104 ⟨rfl, rfl⟩ (hk := by exact ⟨rfl, _, rfl, ⟨_, _, rfl, ⟨_, rfl⟩, ⟨_, _, rfl, ⟨_, rfl⟩, rfl⟩⟩⟩)) ?_
   refine Ra 3 1 (w_addw ⟨rfl, rfl⟩) ?_
   refine JD_end (effs := [4, 6]) (fin := [(0, none), (5, none), (11, none), (12, none), (13, none), (8, none), (9, none)]) (slF := [(0, .ptr (some (x, 0))), (5, .map (some i6)), (11, .slice (some (i31, o32)) n cp), (12, .int .i64 ((n : Nat) : Int)), (13, .int .i64 x13_14), (8, .ptr (some (i59, 0))), (9, .ptr (some (i61, 0)))]) rfl mixed (by kernel_rfl) (by kernel_rfl) rfl rfl ?_
   refine Sr ?_
   have o112 : Own h106 i59 [.bool false, .int .i64 n44] := ((o90.but bt99 ne74.symm).but bt107 ne74.symm)
   refine Lo (w_ldA (l := [.bool false, .int .i64 n44]) tA134 o112.cells ?_)
   have o113 : Own h106 i61 [.bool true, .int .i64 n56] := ((w76.own.but bt99 ne88.symm).but bt107 ne88.symm)
   refine Lo (w_ldA (l := [.bool true, .int .i64 n56]) tA134 o113.cells ?_)
   refine Lo (x_eqF tE134 ?_)
   intro b114
   refine Lo (w_move ?_)
   refine k_splitB (d := 46) rfl (fun q115 => ?_) (fun q115 => ?_)
   · refine Ws ?_
     refine Ws ?_
     refine Ws ?_
     refine Ws ?_
     refine Lz (w_pick_t ?_)
     refine Ct ?_
     refine Sr (Lz (w_assign ?_))
     refine Rt ?_
     refine then_r (blk_r (then_r (then_r (blk_r (then_r ?_)))))
     refine leave_ret rfl ?_
     have l0_3_116 : Le h h63 := l0_2_23.trans w64.le
     have l0_4_117 : Le h h75 := l0_3_116.trans w76.le
     have l0_5_118 : Le h h98 := l0_4_117.but bt99 w8.free
     have l0_6_119 : Le h h106 := l0_5_118.but bt107 w8.free
     exact ⟨_, rfl, l0_6_119⟩
   · refine Gl (w_move ?_)
     refine Gl (w_ldA (l := [.bool false, .int .i64 n44]) tA134 o112.cells ?_)
     obtain ⟨n120, hm121⟩ : VInt (mget keyEq es105 (.agg [.bool false, .int .i64 n44]) (.int .i64 0)) := mget_V hV110 ⟨_, rfl⟩
     refine Gl (x_lookupI tT132 tN3 tM134 g108 hK109 hm121 ?_ (hk := by exact ⟨rfl, _, rfl, ⟨_, _, rfl, ⟨_, rfl⟩, ⟨_, _, rfl, ⟨_, rfl⟩, rfl⟩⟩⟩))
     refine Gl (w_gt ?_)
     refine Lz (w_pick_f ?_)
     refine Cn (fun q122 => ?_) (fun q122 => ?_)
     · refine Sr (Lz (w_assign ?_))
       refine Rt ?_
       refine then_r (blk_r (then_r (then_r (blk_r (then_r ?_)))))
       refine leave_ret rfl ?_
       have l0_3_123 : Le h h63 := l0_2_23.trans w64.le
       have l0_4_124 : Le h h75 := l0_3_123.trans w76.le
       have l0_5_125 : Le h h98 := l0_4_124.but bt99 w8.free
       have l0_6_126 : Le h h106 := l0_5_125.but bt107 w8.free
       exact ⟨_, rfl, l0_6_126⟩
     · refine Sk ?_
       refine Sq ?_
       refine J_drawS (opsAt (C53 [0, 1, 1, 1, 0, 0, 1, 1, 0, 0, 1, 0, 1, 1])) [[(5, none)], [(9, none)], [(52, some 0), (53, some 1)], [(54, some 2)], [(52, some 0), (53, some 1)], [(56, some 4)], [(52, some 0), (55, some 3), (57, some 5)]] ?_
       refine Dp (w_move ⟨rfl, rfl⟩) ?_
       refine Dp (w_ldA (l := [.bool true, .int .i64 n56]) tA134 o113.cells ⟨rfl, rfl⟩) ?_
       obtain ⟨n127, hm128⟩ : VInt (mget keyEq es105 (.agg [.bool true, .int .i64 n56]) (.int .i64 0)) := mget_V hV110 ⟨_, rfl⟩
       refine Dp (x_lookupI tT132 tN3 tM134 g108 hK109 hm128 ⟨rfl, rfl⟩ (hk := by exact ⟨rfl, _, rfl, ⟨_, _, rfl, ⟨_, rfl⟩, ⟨_, _, rfl, ⟨_, rfl⟩, rfl⟩⟩⟩)) ?_
       refine Dq (h₁ := h106) (w_addw ?_)
       have rn129 := wrap_i64 (n127 + 1)
       refine Po ?_
       refine De (h₁ := h106) (x_mapEntryI (V := VInt) tT132 tN3 tM134 g108 hK109 hV110 hm128 ?_ (hk := by exact ⟨rfl, _, rfl, ⟨_, _, rfl, ⟨_, rfl⟩, ⟨_, _, rfl, ⟨_, rfl⟩, rfl⟩⟩⟩) (hzV := by exact ⟨_, rfl⟩))
       intro es130 cl131 b132 h133 bt134 g135 hK136 hV137 hb138 hm139
       refine Eo ?_
       refine Dp (w_extract ⟨rfl, rfl⟩) ?_
       refine Da (h₁ := h133) (x_entryStoreI (V := VInt) g135 hK136 hV137 hb138 ?_ (hvV := by exact ⟨_, rfl⟩))
       intro es140 h141 bt142 g143 hK144 hV145
       refine Ao ?_
       refine Ra 2 1 (x_lookupI tT132 tN3 tM134 g135 hK136 hm139 ⟨rfl, rfl⟩ (hk := by exact ⟨rfl, _, rfl, ⟨_, _, rfl, ⟨_, rfl⟩, ⟨_, _, rfl, ⟨_, rfl⟩, rfl⟩⟩⟩)) ?_
       refine Ra 3 1 (w_addw ⟨rfl, rfl⟩) ?_
       refine JD_end (effs := [4, 6]) (fin := [(0, none), (5, none), (11, none), (12, none), (13, none), (9, none), (47, none), (48, none), (49, none), (50, none)]) (slF := [(0, .ptr (some (x, 0))), (5, .map (some i6)), (11, .slice (some (i31, o32)) n cp), (12, .int .i64 ((n : Nat) : Int)), (13, .int .i64 x13_14), (9, .ptr (some (i61, 0))), (47, .map (some i6)), (48, .agg [.bool false, .int .i64 n44]), (49, .int .i64 n120), (50, .bool (decide (1 < n120)))]) rfl mixed (by kernel_rfl) (by kernel_rfl) rfl rfl ?_
       refine Sr (Lo (w_move ?_))
       have o147 : Own h141 i61 [.bool true, .int .i64 n56] := ((o113.but bt134 ne88.symm).but bt142 ne88.symm)
       refine Lo (w_ldA (l := [.bool true, .int .i64 n56]) tA134 o147.cells ?_)
       obtain ⟨n148, hm149⟩ : VInt (mget keyEq es140 (.agg [.bool true, .int .i64 n56]) (.int .i64 0)) := mget_V hV145 ⟨_, rfl⟩
       refine Lo (x_lookupI tT132 tN3 tM134 g143 hK144 hm149 ?_ (hk := by exact ⟨rfl, _, rfl, ⟨_, _, rfl, ⟨_, rfl⟩, ⟨_, _, rfl, ⟨_, rfl⟩, rfl⟩⟩⟩))
       refine Lz (w_gt ?_)
       refine Cn (fun q150 => ?_) (fun q150 => ?_)
       · refine Sr (Lz (w_assign ?_))
         refine Rt ?_
         refine blk_r (then_r (then_r (blk_r (then_r ?_))))
         refine leave_ret rfl ?_
         have l0_3_151 : Le h h63 := l0_2_23.trans w64.le
         have l0_4_152 : Le h h75 := l0_3_151.trans w76.le
         have l0_5_153 : Le h h98 := l0_4_152.but bt99 w8.free
         have l0_6_154 : Le h h106 := l0_5_153.but bt107 w8.free
         have l0_7_155 : Le h h133 := l0_6_154.but bt134 w8.free
         have l0_8_156 : Le h h141 := l0_7_155.but bt142 w8.free
         exact ⟨_, rfl, l0_8_156⟩
       · refine Sk ?_
         refine Rg (Lo (w_add ?_))
         refine Lz (w_move ?_)
         exact ⟨(x13_14 + 1), es140, cl131, h141, ⟨⟨(by omega), hK144, hV145, ((((((((LeM.refl [i6] h7).turnM lm21 (by simp)).le w64.le).le w76.le).butM bt99 (by simp)).butM bt107 (by simp)).butM bt134 (by simp)).butM bt142 (by simp)), g143⟩, by omega⟩, rfl, rfl, rfl, rfl, rfl, rfl, rfl, rfl, trivial⟩
 · refine Ex ?_
   refine then_x (then_x (blk_eq rfl ?_))
   refine Sr (Lz (w_assign ?_))
   refine Rt ?_
   refine leave_ret rfl ?_
   have l0_2_157 : Le h h20 := w8.le.turn lm21 (by simp only [List.mem_cons, List.not_mem_nil, or_false, forall_eq_or_imp, forall_eq]; exact w8.free)
   exact ⟨_, rfl, l0_2_157⟩
theorem c81 {hB : AH}  {L : Nat} {ar : Nat} {O : Nat} {B : Nat} {R : Nat} {Q : Nat} {N : Nat} {x bn rn en qn : Nat} {p : Option (Nat × Nat)} {n : Nat} {cp : Cap} (nLar : L ≠ ar) (nLO : L ≠ O) (narO : ar ≠ O) (nLB : L ≠ B) (narB : ar ≠ B) (nOB : O ≠ B) (nLR : L ≠ R) (narR : ar ≠ R) (nOR : O ≠ R) (nBR : B ≠ R) (nLQ : L ≠ Q) (narQ : ar ≠ Q) (nOQ : O ≠ Q) (nBQ : B ≠ Q) (nRQ : R ≠ Q) (nLN : L ≠ N) (narN : ar ≠ N) (nON : O ≠ N) (nBN : B ≠ N) (nRN : R ≠ N) (nQN : Q ≠ N) (hroom : RoomOK hB x bn rn en qn) (sp : SlV hB p n 1 (okL hB [.int 0 ((qn : Int) - 1)])) (mp : n ≤ 1048576) : ∀ (k : Nat) {h : AH} {g : Sig} {i : Int} {tk : Int} {sm : Int} (hk : ((n : Int) - i).toNat = k) (ht : HT hB g h) (gL : g L = some (.cells [.i])) (gar : g ar = some (.arr [.int 0 5] n)) (gO : g O = some (.cells [.is (.slice (some (ar, 0)) n (.exact n))])) (gB : g B = some (.cells [.ls [.int 0 5] 0 n])) (gR : g R = some (.cells [.is (.ptr (some (x, 0)))])) (gQ : g Q = some (.cells [.is (.slice p n cp)])) (gN : g N = some (.cells [.is (.fn (.func 81) [] [.ptr (some (L, 0)), .ptr (some (O, 0)), .ptr (some (B, 0)), .ptr (some (R, 0)), .ptr (some (Q, 0)), .ptr (some (N, 0))])])) (bi : 0 ≤ i ∧ i ≤ (n : Int)) (btk : (-9223372036854775808) ≤ tk ∧ tk ≤ 9223372036854775807) (bsm : (-9223372036854775808) ≤ sm ∧ sm ≤ 9223372036854775807), JCall Tryz.prog 81 [.int .i64 i, .int .i64 tk, .int .i64 sm, .ptr (some (L, 0)), .ptr (some (O, 0)), .ptr (some (B, 0)), .ptr (some (R, 0)), .ptr (some (Q, 0)), .ptr (some (N, 0))] h (fun e h' => ∃ g' , e = .ret (.tuple []) ∧ Stp hB g h g' h') := by
 intro k
 induction k using Nat.strongRecOn with
 | ind k ih =>
 intro h g i tk sm hk ht gL gar gO gB gR gQ gN bi btk bsm
 refine JCall_of_J (N := 81) (sl := [(0, _), (1, _), (2, _), (3, _), (4, _), (5, _), (6, _), (7, _), (8, _)]) isf81 rfl (by show 9 ≤ 81; decide) rfl ?_
 have hroom0 := hroom
 obtain ⟨cs, bp, rp, ep, qp, cb, cr, ce, cq, ri, f, a, gy, hx, lx, gx_, k0, k1, k2, k3, k52, ori, of, og, oa, ex⟩ := hroom
 obtain ⟨mbn, mrn, men, mqn, sbp, srp, sep, sqp⟩ := ex
 refine Sq (Sr ?_)
 obtain ⟨_, o6, ⟨_, _, rfl, ⟨n7, rfl, lon7, hin7⟩, rfl⟩⟩ := ht.refl.ht.cells gL
 refine Lo (w_ldC tC3 o6.cells ?_)
 refine Lo (w_ge ?_)
 refine Lo (w_move ?_)
 refine k_splitD (d := 15) rfl (fun q8 => ?_) (fun q8 => ?_)
 · refine Gl (w_move ?_)
   refine Gl (w_ldC tC3 o6.cells ?_)
   refine Gl (w_ge ?_)
   refine Lz (w_pick_t ?_)
   refine Cn (fun q9 => ?_) (fun q9 => ?_)
   · refine Rt ?_
     refine then_r ?_
     refine leave_ret rfl ?_
     exact ⟨_, rfl, ht.refl⟩
   · refine Sk ?_
     refine Sq (Sr ?_)
     refine Lo (w_move ?_)
     obtain ⟨_, o10, ⟨_, _, rfl, rfl, rfl⟩⟩ := ht.refl.ht.cells gO
     refine Lo (w_ldC tC28 o10.cells ?_)
     refine Lo (w_len tS28 ?_)
     refine Lz (w_eq ?_)
     refine Cn (fun q11 => ?_) (fun q11 => ?_)
     · refine Sr (Lo (w_ldC tC28 o10.cells ?_))
       refine Lo (w_len tS28 ?_)
       refine Lo (x_makeSlice (l := n) (c := n) tS28 tB3 tN3 ?_)
       intro i12 h13 w14
       have o15 : Own h a [.slice bp bn cb, .slice rp rn cr, .slice ep en ce, .slice qp qn cq] := (oa.le ht.refl.ht.le)
       have ne16 : a ≠ i12 := ne_of_free w14.free o15
       have o17 : Own h f [.fn (.func 87) [] [.ptr (some (a, 0))]] := (of.le ht.refl.ht.le)
       have ne18 : f ≠ i12 := ne_of_free w14.free o17
       have o19 : Own h gy [.ptr (some (x, 0))] := (og.le ht.refl.ht.le)
       have ne20 : gy ≠ i12 := ne_of_free w14.free o19
       have o21 : Own h ri [.int .i64 1, .fn (.func 88) [] [.ptr (some (f, 0)), .ptr (some (a, 0))], .int .i64 2, .fn (.func 89) [] [.ptr (some (f, 0)), .ptr (some (a, 0))], .int .i64 3, .fn (.func 90) [] [.ptr (some (gy, 0)), .ptr (some (f, 0))]] := (ori.le ht.refl.ht.le)
       have ne22 : ri ≠ i12 := ne_of_free w14.free o21
       have o23 : h.cells x = some cs := (ht.refl.ht.le.cells hx)
       have ne24 : x ≠ i12 := ne_of_cells w14.free o23
       have ne25 : L ≠ i12 := ne_of_free w14.free o6
       have ne26 : O ≠ i12 := ne_of_free w14.free o10
       have u27 : g i12 = none := ht.refl.ht.un0 w14.free
       have o28 : SlO h13 i12 n 1 (okL h [.int 0 5]) := SlO.zeros w14.own rfl ⟨_, _, rfl, ⟨_, rfl, by omega, by omega⟩, rfl⟩
       have st29 : Stp hB g h g h13 := ht.refl.le w14.le
       have ne30 : i12 ≠ ar := ne_sig u27 gar
       have ne31 : i12 ≠ B := ne_sig u27 gB
       have ne32 : i12 ≠ R := ne_sig u27 gR
       have ne33 : i12 ≠ Q := ne_sig u27 gQ
       have ne34 : i12 ≠ N := ne_sig u27 gN
       obtain ⟨g35, st36, sl37, gc38, gx39⟩ := st29.regA (e := [.int 0 5]) (ht.refl.newN ⟨w14.free, Nat.le_trans (Nat.le_refl _) w14.ge⟩) u27 o28 rfl (fun _ h => h)
       have lk40 : LsK g35 [.int 0 5] (some (i12, 0)) n := .inr ⟨i12, 0, _, rfl, gc38, by omega⟩
       obtain ⟨_, o42, ⟨_, _, rfl, ⟨p43, m44, c45, rfl, lom44, hmm44, lk46⟩, rfl⟩⟩ := st36.ht.cells ((sl37) _ _ gB)
       replace lk46 : LsK g35 [.int 0 5] p43 m44 := lk46
       refine Lz (x_store (vc := [.slice (some (i12, 0)) n (.exact n)]) (cs' := [.slice (some (i12, 0)) n (.exact n)]) tZ28 o42 ?_)
       intro h48 bt49 o50
       refine Sr (Lo (w_ldC tC28 o50.cells ?_))
       have o51 : Own h48 O [.slice (some (ar, 0)) n (.exact n)] := ((o10.le w14.le).but bt49 nOB)
       refine Lo (w_ldC tC28 o51.cells ?_)
       have o52 : SlO h48 i12 n 1 (okL h [.int 0 5]) := (o28.but bt49 ne31)
       have st53 : Stp hB g h g35 h48 := st36.turn ((LeM.refl [B] h13).butM bt49 (by simp)) (by simp only [List.mem_cons, List.not_mem_nil, or_false, forall_eq_or_imp, forall_eq]; exact .inr (TOk.own o50 ((sl37) _ _ gB) ⟨_, _, rfl, ⟨_, _, _, rfl, by omega, by omega, lk40⟩, rfl⟩))
       have o54 : SlW h48 ar n 1 (okTL hB g35 [.int 0 5]) := st53.ht.arr ((sl37) _ _ gar)
       refine Lz (x_copyO (E := okL h [.int 0 5]) tS28 tZ3 o52 (o54.slV.imp fun _ _ h => h) o54.q ?_ (hE := by exact fun _ h => okL_one h))
       intro n55 h56 lon55 hin55 bt57 o58
       refine Sr (Lo (w_move ?_))
       have o59 : Own h56 L [.int .i64 n7] := (((o6.le w14.le).but bt49 nLB).but bt57 ne25)
       refine Lz (x_store (vc := [.int .i64 sm]) (cs' := [.int .i64 sm]) tZ3 o59 ?_)
       intro h60 bt61 o62
       refine Rt ?_
       refine then_r ?_
       refine leave_ret rfl ?_
       have o63 : SlO h60 i12 n 1 (okL h [.int 0 5]) := (o58.but bt61 ne25.symm)
       have st64 : Stp hB g h g35 h60 := st53.turn (((LeM.refl [i12, L] h48).butM bt57 (by simp)).butM bt61 (by simp)) (by simp only [List.mem_cons, List.not_mem_nil, or_false, forall_eq_or_imp, forall_eq]; exact ⟨.inr (TOk.slo o63 gc38 rfl (fun _ h => h)), .inr (TOk.own o62 ((sl37) _ _ gL) ⟨_, _, rfl, ⟨_, rfl, by omega, by omega⟩, rfl⟩)⟩)
       exact ⟨_, rfl, st64⟩
     · refine Sk ?_
       refine Sr ?_
       obtain ⟨_, o65, ⟨_, _, rfl, rfl, rfl⟩⟩ := ht.refl.ht.cells gR
       refine Lo (w_ldC tC83 o65.cells ?_)
       refine Lo (w_nilCheck_ptr ?_)
       refine Lo (w_fieldAddr tF98_0 tZ27 ?_)
       refine Lo (w_fieldAddr tF27_2 tZ24 ?_)
       have o66 : h.cells x = some cs := (ht.refl.ht.le.cells hx)
       refine Lo (w_ldC tC24 o66 ?_ (hv := k2))
       refine Lo (w_len tS24 ?_)
       refine Lz (w_move ?_)
       refine Bk ?_
       refine J_for3 (x := C81 [0, 0, 1, 1, 1]) (fun (x37_67 : Int) (h68 : AH) (g69 : Sig) => ⟨[(0, .int .i64 i), (1, .int .i64 tk), (2, .int .i64 sm), (4, .ptr (some (O, 0))), (6, .ptr (some (R, 0))), (7, .ptr (some (Q, 0))), (8, .ptr (some (N, 0))), (36, .int .i64 ((en : Nat) : Int)), (37, .int .i64 x37_67)], h68, 81, []⟩) (fun (x37_67 : Int) (h68 : AH) (g69 : Sig) => 0 ≤ x37_67 ∧ Stp hB g h g69 h68) (fun (x37_67 : Int) (h68 : AH) (g69 : Sig) => (((en : Nat) : Int) - x37_67).toNat) 0 h g rfl ⟨rfl, rfl, rfl, rfl, rfl, rfl, rfl, rfl, rfl, rfl, rfl, rfl, trivial⟩ ⟨(by omega), (ht.refl.ht.refl)⟩ ?_
       intro x37_67 h68 g69 hI
       obtain ⟨hxx37_67, st70⟩ : 0 ≤ x37_67 ∧ Stp hB g h g69 h68 := hI
       show J _ _ (C81 [0, 0, 1, 1, 1]) ⟨[(0, .int .i64 i), (1, .int .i64 tk), (2, .int .i64 sm), (4, .ptr (some (O, 0))), (6, .ptr (some (R, 0))), (7, .ptr (some (Q, 0))), (8, .ptr (some (N, 0))), (36, .int .i64 ((en : Nat) : Int)), (37, .int .i64 x37_67)], h68, 81, []⟩ _
       refine Sr (Lz (w_lt ?_))
       refine Sq ?_
       refine Cn (fun q71 => ?_) (fun q71 => ?_)
       · refine Sk ?_
         refine Sq (Bk ?_)
         refine Sr (Lo (w_move ?_))
         refine Lz (w_assign ?_)
         refine Sq (Sq ?_)
         obtain ⟨_, o72, ⟨_, _, rfl, rfl, rfl⟩⟩ := st70.ht.cells ((st70.sub) _ _ gR)
         obtain ⟨_, o73, ⟨_, _, rfl, rfl, rfl⟩⟩ := st70.ht.cells ((st70.sub) _ _ gQ)
         refine J_drawS (opsAt (C81 [0, 0, 1, 0, 0, 1, 1, 0, 0, 1, 1, 1])) [[(1, none)], [(12, none)], [(40, some 0), (41, some 1)], [(42, some 2)], [(43, some 3)], [(44, some 4)], [(6, none), (45, some 5)], [(7, none), (45, some 5)], [(0, none), (45, some 5)], [(47, some 7), (48, some 8), (45, some 5)], [(49, some 9), (45, some 5)], [(12, none), (45, some 5)], [(46, some 6), (50, some 10), (51, some 11), (45, some 5)], [(52, some 12), (45, some 5)], [(45, some 5), (53, some 13)]] ?_
         refine Dp (w_move ⟨rfl, rfl⟩) ?_
         refine Dp (w_move ⟨rfl, rfl⟩) ?_
         refine Dp (w_shr ⟨rfl, rfl⟩) ?_
         refine Dq (h₁ := h68) (w_and ?_)
         have rn75 := bit_i64 .and (shrI .i64 tk x37_67) 1
         refine Po ?_
         refine Dp (w_eq ⟨rfl, rfl⟩) ?_
         refine Dp (w_move ⟨rfl, rfl⟩) ?_
         by_cases q76 : (bitI .and .i64 (shrI .i64 tk x37_67) 1) = 1
         · rw [decide_eq_true q76]
           refine Dk ?_
           refine Dk ?_
           refine Dk ?_
           refine Dk ?_
           refine Dk ?_
           refine Dk ?_
           refine Dk ?_
           refine Dk ?_
           refine Dp (w_pick_t ⟨rfl, rfl⟩) ?_
           refine JD_end (effs := []) (fin := [(0, none), (1, none), (2, none), (4, none), (6, none), (7, none), (8, none), (36, none), (37, none), (12, none), (46, some 6), (47, some 7), (48, some 8), (49, some 9), (50, some 10), (51, some 11), (52, some 12), (53, some 13), (54, some 14)]) (slF := [(0, .int .i64 i), (1, .int .i64 tk), (2, .int .i64 sm), (4, .ptr (some (O, 0))), (6, .ptr (some (R, 0))), (7, .ptr (some (Q, 0))), (8, .ptr (some (N, 0))), (36, .int .i64 ((en : Nat) : Int)), (37, .int .i64 x37_67), (12, .int .i64 x37_67), (46, .tuple []), (47, .tuple []), (48, .tuple []), (49, .tuple []), (50, .tuple []), (51, .tuple []), (52, .tuple []), (53, .tuple []), (54, .bool true)]) rfl mixed (by kernel_rfl) (by kernel_rfl) rfl rfl ?_
           refine Ct ?_
           refine Ex ?_
           refine then_x (blk_eq rfl ?_)
           refine Rg (Lo (w_add ?_))
           refine Lz (w_move ?_)
           exact ⟨(x37_67 + 1), h68, g69, ⟨⟨(by omega), st70⟩, by omega⟩, rfl, rfl, rfl, rfl, rfl, rfl, rfl, rfl, rfl, rfl, rfl, rfl, trivial⟩
         · rw [decide_eq_false q76]
           refine Dp (w_ldC tC83 o72.cells ⟨rfl, rfl⟩) ?_
           refine Dp (w_ldC tC28 o73.cells ⟨rfl, rfl⟩) ?_
           refine Dp (w_move ⟨rfl, rfl⟩) ?_
           obtain ⟨i84, o85, cs83, l82, rfl, hc77, hl78, hk79, hE80, ht81⟩ := (sp.le st70.ht.le).at (i := i) (by omega) (by omega)
           obtain ⟨_, _, rfl, ⟨n86, rfl, lon86, hin86⟩, rfl⟩ := hE80
           refine Dp (w_indexAddrS tS28 tZ3 ⟨rfl, rfl⟩) ?_
           refine Dp (w_ldC tC3 hc77 ⟨rfl, rfl⟩ (hv := cell_of_take0 ht81 rfl)) ?_
           refine Dp (w_move ⟨rfl, rfl⟩) ?_
           refine De (h₁ := h68) (w_call' isf47 ?_ (hR := by exact c47 (hroom0.le st70.ht.le) (by omega) (by omega)))
           rintro e87 h88 ⟨n89, rfl, hbn89, le90⟩
           refine Eo ?_
           refine Dp (w_ne ⟨rfl, rfl⟩) ?_
           refine Dp (w_pick_f ⟨rfl, rfl⟩) ?_
           refine JD_end (effs := [12]) (fin := [(0, none), (1, none), (2, none), (4, none), (6, none), (7, none), (8, none), (36, none), (37, none), (12, none), (46, some 6), (47, some 7), (48, some 8), (49, some 9), (50, some 10), (51, some 11), (52, some 12), (53, some 13), (54, some 14)]) (slF := [(0, .int .i64 i), (1, .int .i64 tk), (2, .int .i64 sm), (4, .ptr (some (O, 0))), (6, .ptr (some (R, 0))), (7, .ptr (some (Q, 0))), (8, .ptr (some (N, 0))), (36, .int .i64 ((en : Nat) : Int)), (37, .int .i64 x37_67), (12, .int .i64 x37_67), (46, .ptr (some (x, 0))), (47, .slice (some (i84, o85)) n cp), (48, .int .i64 i), (49, .ptr (some (i84, o85 + i.toNat * 1))), (50, .int .i64 n86), (51, .int .i64 x37_67), (52, .int .i64 n89), (53, .bool (decide (¬ n89 = 0))), (54, .bool (decide (¬ n89 = 0)))]) rfl mixed (by kernel_rfl) (by kernel_rfl) rfl rfl ?_
           refine Cn (fun q91 => ?_) (fun q91 => ?_)
           · refine Ex ?_
             refine then_x (blk_eq rfl ?_)
             refine Rg (Lo (w_add ?_))
             refine Lz (w_move ?_)
             have st92 : Stp hB g h g69 h88 := st70.le le90
             exact ⟨(x37_67 + 1), h88, g69, ⟨⟨(by omega), st92⟩, by omega⟩, rfl, rfl, rfl, rfl, rfl, rfl, rfl, rfl, rfl, rfl, rfl, rfl, trivial⟩
           · refine Sk ?_
             refine Sr ?_
             have st93 : Stp hB g h g69 h88 := st70.le le90
             obtain ⟨_, o94, ⟨_, _, rfl, rfl, rfl⟩⟩ := st93.ht.cells ((st70.sub) _ _ gO)
             refine Lo (w_ldC tC28 o94.cells ?_)
             refine Lo (w_move ?_)
             refine Lo (w_move ?_)
             have o95 : SlW h88 ar n 1 (okTL hB g69 [.int 0 5]) := st93.ht.arr ((st70.sub) _ _ gar)
             refine Lo (w_indexAddrS tS28 tZ3 ?_)
             refine Lz (x_storeT (e := [.int 0 5]) (k := i) (j := 0) tZ3 o95 ?_ (hoff := by show _ = _ * 1 + _; omega) (hv := by exact ⟨_, rfl, by omega, by omega⟩))
             intro h96 bt97 o98
             replace o98 : SlW h96 ar n 1 (okTL hB g69 [.int 0 5]) := o98
             have st99 : Stp hB g h g69 h96 := st93.turn ((LeM.refl [ar] h88).butM bt97 (by simp)) (by simp only [List.mem_cons, List.not_mem_nil, or_false, forall_eq_or_imp, forall_eq]; exact .inr (TOk.slw o98 ((st70.sub) _ _ gar) rfl (fun _ h => h)))
             obtain ⟨_, o100, ⟨_, _, rfl, rfl, rfl⟩⟩ := st99.ht.cells ((st70.sub) _ _ gN)
             have o101 : Own h96 R [.ptr (some (x, 0))] := ((o72.le le90).but bt97 narR.symm)
             have o102 : Own h96 Q [.slice (some (i84, o85)) n cp] := ((o73.le le90).but bt97 narQ.symm)
             refine J_drawS (opsAt (C81 [1, 1, 1, 0, 0, 1, 1, 0, 0, 1, 1, 1])) [[(8, none)], [(0, none)], [(60, some 1)], [(1, none)], [(12, none)], [(63, some 4)], [(62, some 3), (64, some 5)], [(2, none)], [(6, none)], [(7, none)], [(0, none)], [(68, some 9), (69, some 10)], [(70, some 11)], [(12, none)], [(67, some 8)], [(73, some 14)], [(71, some 12), (74, some 15)], [(72, some 13), (75, some 16)], [(76, some 17)], [(66, some 7), (77, some 18)], [(59, some 0), (61, some 2), (65, some 6), (78, some 19)]] ?_
             refine Dp (w_ldC tC130 o100.cells ⟨rfl, rfl⟩) ?_
             refine Dp (w_move ⟨rfl, rfl⟩) ?_
             refine Dp (w_add ⟨rfl, rfl⟩) ?_
             refine Dp (w_move ⟨rfl, rfl⟩) ?_
             refine Dp (w_move ⟨rfl, rfl⟩) ?_
             refine Dq (h₁ := h96) (w_shl ?_)
             have rn103 := shl_i64 1 x37_67
             refine Po ?_
             refine Dq (h₁ := h96) (w_or ?_)
             have rn104 := bit_i64 .or tk (shlI .i64 1 x37_67)
             refine Po ?_
             refine Dp (w_move ⟨rfl, rfl⟩) ?_
             refine Dp (w_ldC tC83 o101.cells ⟨rfl, rfl⟩) ?_
             refine Dp (w_ldC tC28 o102.cells ⟨rfl, rfl⟩) ?_
             refine Dp (w_move ⟨rfl, rfl⟩) ?_
             obtain ⟨cs111, l110, hc105, hl106, hk107, hE108, ht109⟩ := (sp.le st99.ht.le).atS (i := i) (by omega) (by omega)
             obtain ⟨_, _, rfl, ⟨n112, rfl, lon112, hin112⟩, rfl⟩ := hE108
             refine Dp (w_indexAddrS tS28 tZ3 ⟨rfl, rfl⟩) ?_
             refine Dp (w_ldC tC3 hc105 ⟨rfl, rfl⟩ (hv := cell_of_take0 ht109 rfl)) ?_
             refine Dp (w_move ⟨rfl, rfl⟩) ?_
             refine Dp (w_nilCheck_ptr ⟨rfl, rfl⟩) ?_
             refine Dp (w_fieldAddr tF98_1 tZ95 ⟨rfl, rfl⟩) ?_
             refine Dp (w_indexAddrA tR95 tZ94 ⟨rfl, rfl⟩) ?_
             refine Dp (w_indexAddrA tR94 tZ3 ⟨rfl, rfl⟩) ?_
             have o113 : h96.cells x = some cs := (st99.ht.le.cells hx)
             obtain ⟨n114, hv115, lon114, hin114⟩ := gx_ (4 + n112.toNat * 6 + x37_67.toNat * 1) (by omega) (by omega)
             refine Dp (w_ldC tC3 o113 ⟨rfl, rfl⟩ (hv := hv115)) ?_
             refine Dq (h₁ := h96) (w_addw ?_)
             have rn116 := wrap_i64 (sm + n114)
             refine Po ?_
             refine De (h₁ := h96) (w_callV' ?_ (hR := by exact JApp_fn isf81 (ih _ (by omega) rfl st99.ht ((st70.sub) _ _ gL) ((st70.sub) _ _ gar) ((st70.sub) _ _ gO) ((st70.sub) _ _ gB) ((st70.sub) _ _ gR) ((st70.sub) _ _ gQ) ((st70.sub) _ _ gN) (by omega) (by omega) (by omega))))
             rintro e117 h118 ⟨g119, rfl, sc120⟩
             have st121 := st99.trans sc120
             refine Eo ?_
             refine JD_end (effs := [20]) (fin := [(0, none), (1, none), (2, none), (4, none), (6, none), (7, none), (8, none), (36, none), (37, none), (46, none), (47, none), (48, none), (49, none), (50, none), (51, none), (52, none), (53, none)]) (slF := [(0, .int .i64 i), (1, .int .i64 tk), (2, .int .i64 sm), (4, .ptr (some (O, 0))), (6, .ptr (some (R, 0))), (7, .ptr (some (Q, 0))), (8, .ptr (some (N, 0))), (36, .int .i64 ((en : Nat) : Int)), (37, .int .i64 x37_67), (46, .ptr (some (x, 0))), (47, .slice (some (i84, o85)) n cp), (48, .int .i64 i), (49, .ptr (some (i84, o85 + i.toNat * 1))), (50, .int .i64 n86), (51, .int .i64 x37_67), (52, .int .i64 n89), (53, .bool (decide (¬ n89 = 0)))]) rfl mixed (by kernel_rfl) (by kernel_rfl) rfl rfl ?_
             refine Rg (Lo (w_add ?_))
             refine Lz (w_move ?_)
             exact ⟨(x37_67 + 1), h118, g119, ⟨⟨(by omega), st121⟩, by omega⟩, rfl, rfl, rfl, rfl, rfl, rfl, rfl, rfl, rfl, rfl, rfl, rfl, trivial⟩
       · refine Ex ?_
         refine then_x (then_x (blk_eq rfl ?_))
         refine leave_normal rfl ?_
         exact ⟨_, rfl, (ht.refl.trans st70)⟩
 · refine Ws ?_
   refine Ws ?_
   refine Ws ?_
   refine Lz (w_pick_f ?_)
   refine Cf ?_
   refine Sk ?_
   refine Sq (Sr ?_)
   refine Lo (w_move ?_)
   obtain ⟨_, o122, ⟨_, _, rfl, rfl, rfl⟩⟩ := ht.refl.ht.cells gO
   refine Lo (w_ldC tC28 o122.cells ?_)
   refine Lo (w_len tS28 ?_)
   refine Lz (w_eq ?_)
   refine Cn (fun q123 => ?_) (fun q123 => ?_)
   · refine Sr (Lo (w_ldC tC28 o122.cells ?_))
     refine Lo (w_len tS28 ?_)
     refine Lo (x_makeSlice (l := n) (c := n) tS28 tB3 tN3 ?_)
     intro i124 h125 w126
     have o127 : Own h a [.slice bp bn cb, .slice rp rn cr, .slice ep en ce, .slice qp qn cq] := (oa.le ht.refl.ht.le)
     have ne128 : a ≠ i124 := ne_of_free w126.free o127
     have o129 : Own h f [.fn (.func 87) [] [.ptr (some (a, 0))]] := (of.le ht.refl.ht.le)
     have ne130 : f ≠ i124 := ne_of_free w126.free o129
     have o131 : Own h gy [.ptr (some (x, 0))] := (og.le ht.refl.ht.le)
     have ne132 : gy ≠ i124 := ne_of_free w126.free o131
     have o133 : Own h ri [.int .i64 1, .fn (.func 88) [] [.ptr (some (f, 0)), .ptr (some (a, 0))], .int .i64 2, .fn (.func 89) [] [.ptr (some (f, 0)), .ptr (some (a, 0))], .int .i64 3, .fn (.func 90) [] [.ptr (some (gy, 0)), .ptr (some (f, 0))]] := (ori.le ht.refl.ht.le)
     have ne134 : ri ≠ i124 := ne_of_free w126.free o133
     have o135 : h.cells x = some cs := (ht.refl.ht.le.cells hx)
     have ne136 : x ≠ i124 := ne_of_cells w126.free o135
     have ne137 : L ≠ i124 := ne_of_free w126.free o6
     have ne138 : O ≠ i124 := ne_of_free w126.free o122
     have u139 : g i124 = none := ht.refl.ht.un0 w126.free
     have o140 : SlO h125 i124 n 1 (okL h [.int 0 5]) := SlO.zeros w126.own rfl ⟨_, _, rfl, ⟨_, rfl, by omega, by omega⟩, rfl⟩
     have st141 : Stp hB g h g h125 := ht.refl.le w126.le
     have ne142 : i124 ≠ ar := ne_sig u139 gar
     have ne143 : i124 ≠ B := ne_sig u139 gB
     have ne144 : i124 ≠ R := ne_sig u139 gR
     have ne145 : i124 ≠ Q := ne_sig u139 gQ
     have ne146 : i124 ≠ N := ne_sig u139 gN
     obtain ⟨g147, st148, sl149, gc150, gx151⟩ := st141.regA (e := [.int 0 5]) (ht.refl.newN ⟨w126.free, Nat.le_trans (Nat.le_refl _) w126.ge⟩) u139 o140 rfl (fun _ h => h)
     have lk152 : LsK g147 [.int 0 5] (some (i124, 0)) n := .inr ⟨i124, 0, _, rfl, gc150, by omega⟩
     obtain ⟨_, o154, ⟨_, _, rfl, ⟨p155, m156, c157, rfl, lom156, hmm156, lk158⟩, rfl⟩⟩ := st148.ht.cells ((sl149) _ _ gB)
     replace lk158 : LsK g147 [.int 0 5] p155 m156 := lk158
     refine Lz (x_store (vc := [.slice (some (i124, 0)) n (.exact n)]) (cs' := [.slice (some (i124, 0)) n (.exact n)]) tZ28 o154 ?_)
     intro h160 bt161 o162
     refine Sr (Lo (w_ldC tC28 o162.cells ?_))
     have o163 : Own h160 O [.slice (some (ar, 0)) n (.exact n)] := ((o122.le w126.le).but bt161 nOB)
     refine Lo (w_ldC tC28 o163.cells ?_)
     have o164 : SlO h160 i124 n 1 (okL h [.int 0 5]) := (o140.but bt161 ne143)
     have st165 : Stp hB g h g147 h160 := st148.turn ((LeM.refl [B] h125).butM bt161 (by simp)) (by simp only [List.mem_cons, List.not_mem_nil, or_false, forall_eq_or_imp, forall_eq]; exact .inr (TOk.own o162 ((sl149) _ _ gB) ⟨_, _, rfl, ⟨_, _, _, rfl, by omega, by omega, lk152⟩, rfl⟩))
     have o166 : SlW h160 ar n 1 (okTL hB g147 [.int 0 5]) := st165.ht.arr ((sl149) _ _ gar)
     refine Lz (x_copyO (E := okL h [.int 0 5]) tS28 tZ3 o164 (o166.slV.imp fun _ _ h => h) o166.q ?_ (hE := by exact fun _ h => okL_one h))
     intro n167 h168 lon167 hin167 bt169 o170
     refine Sr (Lo (w_move ?_))
     have o171 : Own h168 L [.int .i64 n7] := (((o6.le w126.le).but bt161 nLB).but bt169 ne137)
     refine Lz (x_store (vc := [.int .i64 sm]) (cs' := [.int .i64 sm]) tZ3 o171 ?_)
     intro h172 bt173 o174
     refine Rt ?_
     refine then_r ?_
     refine leave_ret rfl ?_
     have o175 : SlO h172 i124 n 1 (okL h [.int 0 5]) := (o170.but bt173 ne137.symm)
     have st176 : Stp hB g h g147 h172 := st165.turn (((LeM.refl [i124, L] h160).butM bt169 (by simp)).butM bt173 (by simp)) (by simp only [List.mem_cons, List.not_mem_nil, or_false, forall_eq_or_imp, forall_eq]; exact ⟨.inr (TOk.slo o175 gc150 rfl (fun _ h => h)), .inr (TOk.own o174 ((sl149) _ _ gL) ⟨_, _, rfl, ⟨_, rfl, by omega, by omega⟩, rfl⟩)⟩)
     exact ⟨_, rfl, st176⟩
   · refine Sk ?_
     refine Sr ?_
     obtain ⟨_, o177, ⟨_, _, rfl, rfl, rfl⟩⟩ := ht.refl.ht.cells gR
     refine Lo (w_ldC tC83 o177.cells ?_)
     refine Lo (w_nilCheck_ptr ?_)
     refine Lo (w_fieldAddr tF98_0 tZ27 ?_)
     refine Lo (w_fieldAddr tF27_2 tZ24 ?_)
     have o178 : h.cells x = some cs := (ht.refl.ht.le.cells hx)
     refine Lo (w_ldC tC24 o178 ?_ (hv := k2))
     refine Lo (w_len tS24 ?_)
     refine Lz (w_move ?_)
     refine Bk ?_
     refine J_for3 (x := C81 [0, 0, 1, 1, 1]) (fun (x37_179 : Int) (h180 : AH) (g181 : Sig) => ⟨[(0, .int .i64 i), (1, .int .i64 tk), (2, .int .i64 sm), (4, .ptr (some (O, 0))), (6, .ptr (some (R, 0))), (7, .ptr (some (Q, 0))), (8, .ptr (some (N, 0))), (36, .int .i64 ((en : Nat) : Int)), (37, .int .i64 x37_179)], h180, 81, []⟩) (fun (x37_179 : Int) (h180 : AH) (g181 : Sig) => 0 ≤ x37_179 ∧ Stp hB g h g181 h180) (fun (x37_179 : Int) (h180 : AH) (g181 : Sig) => (((en : Nat) : Int) - x37_179).toNat) 0 h g rfl ⟨rfl, rfl, rfl, rfl, rfl, rfl, rfl, rfl, rfl, rfl, rfl, rfl, trivial⟩ ⟨(by omega), (ht.refl.ht.refl)⟩ ?_
     intro x37_179 h180 g181 hI
     obtain ⟨hxx37_179, st182⟩ : 0 ≤ x37_179 ∧ Stp hB g h g181 h180 := hI
     show J _ _ (C81 [0, 0, 1, 1, 1]) ⟨[(0, .int .i64 i), (1, .int .i64 tk), (2, .int .i64 sm), (4, .ptr (some (O, 0))), (6, .ptr (some (R, 0))), (7, .ptr (some (Q, 0))), (8, .ptr (some (N, 0))), (36, .int .i64 ((en : Nat) : Int)), (37, .int .i64 x37_179)], h180, 81, []⟩ _
     refine Sr (Lz (w_lt ?_))
     refine Sq ?_
     refine Cn (fun q183 => ?_) (fun q183 => ?_)
     · refine Sk ?_
       refine Sq (Bk ?_)
       refine Sr (Lo (w_move ?_))
       refine Lz (w_assign ?_)
       refine Sq (Sq ?_)
       obtain ⟨_, o184, ⟨_, _, rfl, rfl, rfl⟩⟩ := st182.ht.cells ((st182.sub) _ _ gR)
       obtain ⟨_, o185, ⟨_, _, rfl, rfl, rfl⟩⟩ := st182.ht.cells ((st182.sub) _ _ gQ)
       refine J_drawS (opsAt (C81 [0, 0, 1, 0, 0, 1, 1, 0, 0, 1, 1, 1])) [[(1, none)], [(12, none)], [(40, some 0), (41, some 1)], [(42, some 2)], [(43, some 3)], [(44, some 4)], [(6, none), (45, some 5)], [(7, none), (45, some 5)], [(0, none), (45, some 5)], [(47, some 7), (48, some 8), (45, some 5)], [(49, some 9), (45, some 5)], [(12, none), (45, some 5)], [(46, some 6), (50, some 10), (51, some 11), (45, some 5)], [(52, some 12), (45, some 5)], [(45, some 5), (53, some 13)]] ?_
       refine Dp (w_move ⟨rfl, rfl⟩) ?_
       refine Dp (w_move ⟨rfl, rfl⟩) ?_
       refine Dp (w_shr ⟨rfl, rfl⟩) ?_
       refine Dq (h₁ := h180) (w_and ?_)
       have rn187 := bit_i64 .and (shrI .i64 tk x37_179) 1
       refine Po ?_
       refine Dp (w_eq ⟨rfl, rfl⟩) ?_
       refine Dp (w_move ⟨rfl, rfl⟩) ?_
       by_cases q188 : (bitI .and .i64 (shrI .i64 tk x37_179) 1) = 1
       · rw [decide_eq_true q188]
         refine Dk ?_
         refine Dk ?_
         refine Dk ?_
         refine Dk ?_
         refine Dk ?_
         refine Dk ?_
         refine Dk ?_
         refine Dk ?_
         refine Dp (w_pick_t ⟨rfl, rfl⟩) ?_
         refine JD_end (effs := []) (fin := [(0, none), (1, none), (2, none), (4, none), (6, none), (7, none), (8, none), (36, none), (37, none), (12, none), (46, some 6), (47, some 7), (48, some 8), (49, some 9), (50, some 10), (51, some 11), (52, some 12), (53, some 13), (54, some 14)]) (slF := [(0, .int .i64 i), (1, .int .i64 tk), (2, .int .i64 sm), (4, .ptr (some (O, 0))), (6, .ptr (some (R, 0))), (7, .ptr (some (Q, 0))), (8, .ptr (some (N, 0))), (36, .int .i64 ((en : Nat) : Int)), (37, .int .i64 x37_179), (12, .int .i64 x37_179), (46, .tuple []), (47, .tuple []), (48, .tuple []), (49, .tuple []), (50, .tuple []), (51, .tuple []), (52, .tuple []), (53, .tuple []), (54, .bool true)]) rfl mixed (by kernel_rfl) (by kernel_rfl) rfl rfl ?_
         refine Ct ?_
         refine Ex ?_
         refine then_x (blk_eq rfl ?_)
         refine Rg (Lo (w_add ?_))
         refine Lz (w_move ?_)
         exact ⟨(x37_179 + 1), h180, g181, ⟨⟨(by omega), st182⟩, by omega⟩, rfl, rfl, rfl, rfl, rfl, rfl, rfl, rfl, rfl, rfl, rfl, rfl, trivial⟩
       · rw [decide_eq_false q188]
         refine Dp (w_ldC tC83 o184.cells ⟨rfl, rfl⟩) ?_
         refine Dp (w_ldC tC28 o185.cells ⟨rfl, rfl⟩) ?_
         refine Dp (w_move ⟨rfl, rfl⟩) ?_
         obtain ⟨i196, o197, cs195, l194, rfl, hc189, hl190, hk191, hE192, ht193⟩ := (sp.le st182.ht.le).at (i := i) (by omega) (by omega)
         obtain ⟨_, _, rfl, ⟨n198, rfl, lon198, hin198⟩, rfl⟩ := hE192
         refine Dp (w_indexAddrS tS28 tZ3 ⟨rfl, rfl⟩) ?_
         refine Dp (w_ldC tC3 hc189 ⟨rfl, rfl⟩ (hv := cell_of_take0 ht193 rfl)) ?_
         refine Dp (w_move ⟨rfl, rfl⟩) ?_
         refine De (h₁ := h180) (w_call' isf47 ?_ (hR := by exact c47 (hroom0.le st182.ht.le) (by omega) (by omega)))
         rintro e199 h200 ⟨n201, rfl, hbn201, le202⟩
         refine Eo ?_
         refine Dp (w_ne ⟨rfl, rfl⟩) ?_
         refine Dp (w_pick_f ⟨rfl, rfl⟩) ?_
         refine JD_end (effs := [12]) (fin := [(0, none), (1, none), (2, none), (4, none), (6, none), (7, none), (8, none), (36, none), (37, none), (12, none), (46, some 6), (47, some 7), (48, some 8), (49, some 9), (50, some 10), (51, some 11), (52, some 12), (53, some 13), (54, some 14)]) (slF := [(0, .int .i64 i), (1, .int .i64 tk), (2, .int .i64 sm), (4, .ptr (some (O, 0))), (6, .ptr (some (R, 0))), (7, .ptr (some (Q, 0))), (8, .ptr (some (N, 0))), (36, .int .i64 ((en : Nat) : Int)), (37, .int .i64 x37_179), (12, .int .i64 x37_179), (46, .ptr (some (x, 0))), (47, .slice (some (i196, o197)) n cp), (48, .int .i64 i), (49, .ptr (some (i196, o197 + i.toNat * 1))), (50, .int .i64 n198), (51, .int .i64 x37_179), (52, .int .i64 n201), (53, .bool (decide (¬ n201 = 0))), (54, .bool (decide (¬ n201 = 0)))]) rfl mixed (by kernel_rfl) (by kernel_rfl) rfl rfl ?_
         refine Cn (fun q203 => ?_) (fun q203 => ?_)
         · refine Ex ?_
           refine then_x (blk_eq rfl ?_)
           refine Rg (Lo (w_add ?_))
           refine Lz (w_move ?_)
           have st204 : Stp hB g h g181 h200 := st182.le le202
           exact ⟨(x37_179 + 1), h200, g181, ⟨⟨(by omega), st204⟩, by omega⟩, rfl, rfl, rfl, rfl, rfl, rfl, rfl, rfl, rfl, rfl, rfl, rfl, trivial⟩
         · refine Sk ?_
           refine Sr ?_
           have st205 : Stp hB g h g181 h200 := st182.le le202
           obtain ⟨_, o206, ⟨_, _, rfl, rfl, rfl⟩⟩ := st205.ht.cells ((st182.sub) _ _ gO)
           refine Lo (w_ldC tC28 o206.cells ?_)
           refine Lo (w_move ?_)
           refine Lo (w_move ?_)
           have o207 : SlW h200 ar n 1 (okTL hB g181 [.int 0 5]) := st205.ht.arr ((st182.sub) _ _ gar)
           refine Lo (w_indexAddrS tS28 tZ3 ?_)
           refine Lz (x_storeT (e := [.int 0 5]) (k := i) (j := 0) tZ3 o207 ?_ (hoff := by show _ = _ * 1 + _; omega) (hv := by exact ⟨_, rfl, by omega, by omega⟩))
           intro h208 bt209 o210
           replace o210 : SlW h208 ar n 1 (okTL hB g181 [.int 0 5]) := o210
           have st211 : Stp hB g h g181 h208 := st205.turn ((LeM.refl [ar] h200).butM bt209 (by simp)) (by simp only [List.mem_cons, List.not_mem_nil, or_false, forall_eq_or_imp, forall_eq]; exact .inr (TOk.slw o210 ((st182.sub) _ _ gar) rfl (fun _ h => h)))
           obtain ⟨_, o212, ⟨_, _, rfl, rfl, rfl⟩⟩ := st211.ht.cells ((st182.sub) _ _ gN)
           have o213 : Own h208 R [.ptr (some (x, 0))] := ((o184.le le202).but bt209 narR.symm)
           have o214 : Own h208 Q [.slice (some (i196, o197)) n cp] := ((o185.le le202).but bt209 narQ.symm)
           refine J_drawS (opsAt (C81 [1, 1, 1, 0, 0, 1, 1, 0, 0, 1, 1, 1])) [[(8, none)], [(0, none)], [(60, some 1)], [(1, none)], [(12, none)], [(63, some 4)], [(62, some 3), (64, some 5)], [(2, none)], [(6, none)], [(7, none)], [(0, none)], [(68, some 9), (69, some 10)], [(70, some 11)], [(12, none)], [(67, some 8)], [(73, some 14)], [(71, some 12), (74, some 15)], [(72, some 13), (75, some 16)], [(76, some 17)], [(66, some 7), (77, some 18)], [(59, some 0), (61, some 2), (65, some 6), (78, some 19)]] ?_
           refine Dp (w_ldC tC130 o212.cells ⟨rfl, rfl⟩) ?_
           refine Dp (w_move ⟨rfl, rfl⟩) ?_
           refine Dp (w_add ⟨rfl, rfl⟩) ?_
           refine Dp (w_move ⟨rfl, rfl⟩) ?_
           refine Dp (w_move ⟨rfl, rfl⟩) ?_
           refine Dq (h₁ := h208) (w_shl ?_)
           have rn215 := shl_i64 1 x37_179
           refine Po ?_
           refine Dq (h₁ := h208) (w_or ?_)
           have rn216 := bit_i64 .or tk (shlI .i64 1 x37_179)
           refine Po ?_
           refine Dp (w_move ⟨rfl, rfl⟩) ?_
           refine Dp (w_ldC tC83 o213.cells ⟨rfl, rfl⟩) ?_
           refine Dp (w_ldC tC28 o214.cells ⟨rfl, rfl⟩) ?_
           refine Dp (w_move ⟨rfl, rfl⟩) ?_
           obtain ⟨cs223, l222, hc217, hl218, hk219, hE220, ht221⟩ := (sp.le st211.ht.le).atS (i := i) (by omega) (by omega)
           obtain ⟨_, _, rfl, ⟨n224, rfl, lon224, hin224⟩, rfl⟩ := hE220
           refine Dp (w_indexAddrS tS28 tZ3 ⟨rfl, rfl⟩) ?_
           refine Dp (w_ldC tC3 hc217 ⟨rfl, rfl⟩ (hv := cell_of_take0 ht221 rfl)) ?_
           refine Dp (w_move ⟨rfl, rfl⟩) ?_
           refine Dp (w_nilCheck_ptr ⟨rfl, rfl⟩) ?_
           refine Dp (w_fieldAddr tF98_1 tZ95 ⟨rfl, rfl⟩) ?_
           refine Dp (w_indexAddrA tR95 tZ94 ⟨rfl, rfl⟩) ?_
           refine Dp (w_indexAddrA tR94 tZ3 ⟨rfl, rfl⟩) ?_
           have o225 : h208.cells x = some cs := (st211.ht.le.cells hx)
           obtain ⟨n226, hv227, lon226, hin226⟩ := gx_ (4 + n224.toNat * 6 + x37_179.toNat * 1) (by omega) (by omega)
           refine Dp (w_ldC tC3 o225 ⟨rfl, rfl⟩ (hv := hv227)) ?_
           refine Dq (h₁ := h208) (w_addw ?_)
           have rn228 := wrap_i64 (sm + n226)
           refine Po ?_
           refine De (h₁ := h208) (w_callV' ?_ (hR := by exact JApp_fn isf81 (ih _ (by omega) rfl st211.ht ((st182.sub) _ _ gL) ((st182.sub) _ _ gar) ((st182.sub) _ _ gO) ((st182.sub) _ _ gB) ((st182.sub) _ _ gR) ((st182.sub) _ _ gQ) ((st182.sub) _ _ gN) (by omega) (by omega) (by omega))))
           rintro e229 h230 ⟨g231, rfl, sc232⟩
           have st233 := st211.trans sc232
           refine Eo ?_
           refine JD_end (effs := [20]) (fin := [(0, none), (1, none), (2, none), (4, none), (6, none), (7, none), (8, none), (36, none), (37, none), (46, none), (47, none), (48, none), (49, none), (50, none), (51, none), (52, none), (53, none)]) (slF := [(0, .int .i64 i), (1, .int .i64 tk), (2, .int .i64 sm), (4, .ptr (some (O, 0))), (6, .ptr (some (R, 0))), (7, .ptr (some (Q, 0))), (8, .ptr (some (N, 0))), (36, .int .i64 ((en : Nat) : Int)), (37, .int .i64 x37_179), (46, .ptr (some (x, 0))), (47, .slice (some (i196, o197)) n cp), (48, .int .i64 i), (49, .ptr (some (i196, o197 + i.toNat * 1))), (50, .int .i64 n198), (51, .int .i64 x37_179), (52, .int .i64 n201), (53, .bool (decide (¬ n201 = 0)))]) rfl mixed (by kernel_rfl) (by kernel_rfl) rfl rfl ?_
           refine Rg (Lo (w_add ?_))
           refine Lz (w_move ?_)
           exact ⟨(x37_179 + 1), h230, g231, ⟨⟨(by omega), st233⟩, by omega⟩, rfl, rfl, rfl, rfl, rfl, rfl, rfl, rfl, rfl, rfl, rfl, rfl, trivial⟩
     · refine Ex ?_
       refine then_x (then_x (blk_eq rfl ?_))
       refine leave_normal rfl ?_
       exact ⟨_, rfl, (ht.refl.trans st182)⟩
theorem c49 {h : AH}  {x bn rn en qn : Nat} {p : Option (Nat × Nat)} {n : Nat} {cp : Cap} (hroom : RoomOK h x bn rn en qn) (sp : SlV h p n 1 (okL h [.int 0 ((qn : Int) - 1)])) (mp : n ≤ 1048576) : JCall Tryz.prog 49 [.ptr (some (x, 0)), .slice p n cp] h (fun e h' => ∃ (v : AV) (k : Nat) (li : Int), e = .ret (.tuple [v, .int .i64 li]) ∧ Frs h h' v k 1 (okL h' [.int 0 5]) ∧ k ≤ 1048576 ∧ ((-9223372036854775808) ≤ li ∧ li ≤ 9223372036854775807) ∧ Le h h') := by
 refine JCall_of_J (N := 21) (sl := [(0, _), (1, _)]) isf49 rfl (by show 2 ≤ 21; decide) rfl ?_
 obtain ⟨mbx, mrx, mex, mqx⟩ := hroom.bounds
 refine Sr (Lo (x_box (z := [.ptr (some (x, 0))]) ?_))
 intro i2 h3 w4
 have u5 : Sig.nil i2 = none := (HT.start h).refl.ht.un0 w4.free
 refine Lo (x_box (z := [.slice p n cp]) ?_)
 intro i6 h7 w8
 have ne9 : i2 ≠ i6 := ne_of_free w8.free w4.own
 have u10 : Sig.nil i6 = none := (HT.start h).refl.ht.un0 (w4.le.free w8.free)
 refine Lo (x_alloc (zc := [.slice none 0 (.exact 0)]) tN28 ?_)
 intro i11 h12 w13
 have o14 : Own h7 i2 [.ptr (some (x, 0))] := (w4.own.le w8.le)
 have ne15 : i2 ≠ i11 := ne_of_free w13.free o14
 have ne16 : i6 ≠ i11 := ne_of_free w13.free w8.own
 have l0_2_18 : Le h h7 := w4.le.trans w8.le
 have u17 : Sig.nil i11 = none := (HT.start h).refl.ht.un0 (l0_2_18.free w13.free)
 refine Lz (x_alloc (zc := [.int .i64 0]) tN3 ?_)
 intro i19 h20 w21
 have o22 : Own h12 i2 [.ptr (some (x, 0))] := (o14.le w13.le)
 have ne23 : i2 ≠ i19 := ne_of_free w21.free o22
 have o24 : Own h12 i6 [.slice p n cp] := (w8.own.le w13.le)
 have ne25 : i6 ≠ i19 := ne_of_free w21.free o24
 have ne26 : i11 ≠ i19 := ne_of_free w21.free w13.own
 have l0_3_28 : Le h h12 := l0_2_18.trans w13.le
 have u27 : Sig.nil i19 = none := (HT.start h).refl.ht.un0 (l0_3_28.free w21.free)
 refine Sr (Lz (x_store (vc := [.int .i64 (-1)]) (cs' := [.int .i64 (-1)]) tZ3 w21.own ?_))
 intro h29 bt30 o31
 refine Sq (Sr ?_)
 have o32 : Own h29 i2 [.ptr (some (x, 0))] := ((o22.le w21.le).but bt30 ne23)
 refine Lo (w_ldC tC83 o32.cells ?_)
 have o33 : Own h29 i6 [.slice p n cp] := ((o24.le w21.le).but bt30 ne25)
 refine Lo (w_ldC tC28 o33.cells ?_)
 have l0_4_34 : Le h h20 := l0_3_28.trans w21.le
 have l0_5_35 : Le h h29 := l0_4_34.but bt30 (l0_3_28.free w21.free)
 refine Lo (w_call' isf53 ?_ (hR := by exact c53 (hroom.le l0_5_35) (sp.leL l0_5_35 l0_5_35) (by omega)))
 rintro e36 h37 ⟨b38, rfl, le39⟩
 refine Lz (w_not ?_)
 refine Cb (fun q40 => ?_) (fun q40 => ?_)
 · have q41 : b38 = false := by simpa using q40
   subst q41
   refine Sq ?_
   refine J_drawS (opsAt (C49 [0, 0, 1, 0, 1, 1])) [[(5, none)], [(4, none)], [(5, none), (12, some 0)]] ?_
   have o42 : Own h37 i19 [.int .i64 (-1)] := (o31.le le39)
   refine Dp (w_ldC tC3 o42.cells ⟨rfl, rfl⟩) ?_
   have o43 : Own h37 i11 [.slice none 0 (.exact 0)] := (((w13.own.le w21.le).but bt30 ne26).le le39)
   refine Da (h₁ := h37) (x_store (vc := [.slice none 0 (.exact 0)]) (cs' := [.slice none 0 (.exact 0)]) tZ28 o43 ?_)
   intro h44 bt45 o46
   refine Ao ?_
   have o47 : Own h44 i19 [.int .i64 (-1)] := (o42.but bt45 ne26.symm)
   refine Da (h₁ := h44) (x_store (vc := [.int .i64 (-1)]) (cs' := [.int .i64 (-1)]) tZ3 o47 ?_)
   intro h48 bt49 o50
   refine Ao ?_
   have o51 : Own h44 i19 [.int .i64 (-1)] := (o42.but bt45 ne26.symm)
   refine Ra 0 1 (w_ldC tC3 o51.cells ⟨rfl, rfl⟩) ?_
   refine JD_end (effs := [1, 2]) (fin := [(4, none), (5, none)]) (slF := [(4, .ptr (some (i11, 0))), (5, .ptr (some (i19, 0)))]) rfl mixed (by kernel_rfl) (by kernel_rfl) rfl rfl ?_
   refine Rt ?_
   refine then_r ?_
   have o52 : Own h48 i11 [.slice none 0 (.exact 0)] := (o46.but bt49 ne26)
   refine leave_ret (resL_cons (resV_cell rfl o52.cells tC28 rfl) (resL_cons (resV_cell rfl o50.cells tC3 rfl) resL_nil)) ?_
   have l0_6_53 : Le h h37 := l0_5_35.trans le39
   have l0_7_54 : Le h h44 := l0_6_53.but bt45 (l0_2_18.free w13.free)
   have l0_8_55 : Le h h48 := l0_7_54.but bt49 (l0_3_28.free w21.free)
   exact ⟨_, _, _, rfl, Frs.nil, (by omega), (by omega), l0_8_55⟩
 · have q56 : b38 = true := by simpa using q40
   subst q56
   refine Sk ?_
   refine Sr ?_
   have o57 : Own h37 i6 [.slice p n cp] := (o33.le le39)
   refine Lo (w_ldC tC28 o57.cells ?_)
   refine Lo (w_len tS28 ?_)
   refine Lo (x_makeSlice (l := n) (c := n) tS28 tB3 tN3 ?_)
   intro i58 h59 w60
   have o61 : Own h37 i2 [.ptr (some (x, 0))] := (o32.le le39)
   have ne62 : i2 ≠ i58 := ne_of_free w60.free o61
   have ne63 : i6 ≠ i58 := ne_of_free w60.free o57
   have o64 : Own h37 i11 [.slice none 0 (.exact 0)] := (((w13.own.le w21.le).but bt30 ne26).le le39)
   have ne65 : i11 ≠ i58 := ne_of_free w60.free o64
   have o66 : Own h37 i19 [.int .i64 (-1)] := (o31.le le39)
   have ne67 : i19 ≠ i58 := ne_of_free w60.free o66
   have fr69 : h.get i58 = none := (w4.le.free (w8.le.free (w13.le.free (w21.le.free (bt30.free ne67.symm (le39.free w60.free))))))
   have u68 : Sig.nil i58 = none := (HT.start h).refl.ht.un0 fr69
   have o70 : SlO h59 i58 n 1 (okL h [.int 0 5]) := SlO.zeros w60.own rfl ⟨_, _, rfl, ⟨_, rfl, by omega, by omega⟩, rfl⟩
   refine Lo (x_alloc (zc := [.slice none 0 (.exact 0)]) tN28 ?_)
   intro i71 h72 w73
   have o74 : Own h59 i2 [.ptr (some (x, 0))] := (o61.le w60.le)
   have ne75 : i2 ≠ i71 := ne_of_free w73.free o74
   have o76 : Own h59 i6 [.slice p n cp] := (o57.le w60.le)
   have ne77 : i6 ≠ i71 := ne_of_free w73.free o76
   have o78 : Own h59 i11 [.slice none 0 (.exact 0)] := (o64.le w60.le)
   have ne79 : i11 ≠ i71 := ne_of_free w73.free o78
   have o80 : Own h59 i19 [.int .i64 (-1)] := (o66.le w60.le)
   have ne81 : i19 ≠ i71 := ne_of_free w73.free o80
   have ne82 : i58 ≠ i71 := o70.ne w73.free
   have fr84 : h.get i71 = none := (w4.le.free (w8.le.free (w13.le.free (w21.le.free (bt30.free ne81.symm (le39.free (w60.le.free w73.free)))))))
   have u83 : Sig.nil i71 = none := (HT.start h).refl.ht.un0 fr84
   refine Lz (x_store (vc := [.slice (some (i58, 0)) n (.exact n)]) (cs' := [.slice (some (i58, 0)) n (.exact n)]) tZ28 w73.own ?_)
   intro h85 bt86 o87
   refine Sr (Lz (x_alloc (zc := [.nilFunc]) tN130 ?_))
   intro i88 h89 w90
   have o91 : Own h85 i2 [.ptr (some (x, 0))] := ((o74.le w73.le).but bt86 ne75)
   have ne92 : i2 ≠ i88 := ne_of_free w90.free o91
   have o93 : Own h85 i6 [.slice p n cp] := ((o76.le w73.le).but bt86 ne77)
   have ne94 : i6 ≠ i88 := ne_of_free w90.free o93
   have o95 : Own h85 i11 [.slice none 0 (.exact 0)] := ((o78.le w73.le).but bt86 ne79)
   have ne96 : i11 ≠ i88 := ne_of_free w90.free o95
   have o97 : Own h85 i19 [.int .i64 (-1)] := ((o80.le w73.le).but bt86 ne81)
   have ne98 : i19 ≠ i88 := ne_of_free w90.free o97
   have o99 : SlO h85 i58 n 1 (okL h [.int 0 5]) := ((o70.le w73.le).but bt86 ne82)
   have ne100 : i58 ≠ i88 := o99.ne w90.free
   have ne101 : i71 ≠ i88 := ne_of_free w90.free o87
   have fr103 : h.get i88 = none := (w4.le.free (w8.le.free (w13.le.free (w21.le.free (bt30.free ne98.symm (le39.free (w60.le.free (w73.le.free (bt86.free ne101.symm w90.free)))))))))
   have u102 : Sig.nil i88 = none := (HT.start h).refl.ht.un0 fr103
   refine Sr (Lo (w_makeFunc ?_))
   refine Lz (x_store (vc := [.fn (.func 81) [] [.ptr (some (i19, 0)), .ptr (some (i71, 0)), .ptr (some (i11, 0)), .ptr (some (i2, 0)), .ptr (some (i6, 0)), .ptr (some (i88, 0))]]) (cs' := [.fn (.func 81) [] [.ptr (some (i19, 0)), .ptr (some (i71, 0)), .ptr (some (i11, 0)), .ptr (some (i2, 0)), .ptr (some (i6, 0)), .ptr (some (i88, 0))]]) tZ130 w90.own ?_)
   intro h104 bt105 o106
   refine Sr (Lo (w_ldC tC130 o106.cells ?_))
   have l0_6_107 : Le h h37 := l0_5_35.trans le39
   have l0_7_108 : Le h h59 := l0_6_107.trans w60.le
   have l0_8_109 : Le h h72 := l0_7_108.trans w73.le
   have l0_9_110 : Le h h85 := l0_8_109.but bt86 fr84
   have l0_10_111 : Le h h89 := l0_9_110.trans w90.le
   have l0_11_112 : Le h h104 := l0_10_111.but bt105 fr103
   have st113 : Stp h Sig.nil h Sig.nil h104 := (HT.start h).refl.le l0_11_112
   have o114 : Own h104 i71 [.slice (some (i58, 0)) n (.exact n)] := ((o87.le w90.le).but bt105 ne101)
   have o115 : Own h104 i19 [.int .i64 (-1)] := ((o97.le w90.le).but bt105 ne98)
   obtain ⟨g116, st117, sl118, gc119, gx120⟩ := st113.regO (ts := [.i]) ((HT.start h).refl.newN ⟨(l0_3_28.free w21.free), Nat.le_trans (Nat.le_trans (Nat.le_trans w4.le.next w8.le.next) w13.le.next) w21.ge⟩) u27 o115 ⟨_, _, rfl, ⟨_, rfl, by omega, by omega⟩, rfl⟩
   have o121 : SlO h104 i58 n 1 (okL h [.int 0 5]) := ((o99.le w90.le).but bt105 ne100)
   obtain ⟨g122, st123, sl124, gc125, gx126⟩ := st117.regA (e := [.int 0 5]) ((HT.start h).refl.newN ⟨fr69, Nat.le_trans (Nat.le_trans (Nat.le_trans (Nat.le_trans (Nat.le_trans (Nat.le_trans w4.le.next w8.le.next) w13.le.next) w21.le.next) bt30.next) le39.next) w60.ge⟩) ((gx120 _ ne67.symm).trans u68) o121 rfl (fun _ h => h)
   obtain ⟨g127, st128, sl129, gc130, gx131⟩ := st123.regO (ts := [.is (.slice (some (i58, 0)) n (.exact n))]) ((HT.start h).refl.newN ⟨fr84, Nat.le_trans (Nat.le_trans (Nat.le_trans (Nat.le_trans (Nat.le_trans (Nat.le_trans (Nat.le_trans w4.le.next w8.le.next) w13.le.next) w21.le.next) bt30.next) le39.next) w60.le.next) w73.ge⟩) ((gx126 _ ne82.symm).trans ((gx120 _ ne81.symm).trans u83)) o114 ⟨_, _, rfl, rfl, rfl⟩
   have o132 : Own h104 i11 [.slice none 0 (.exact 0)] := ((o95.le w90.le).but bt105 ne96)
   obtain ⟨g133, st134, sl135, gc136, gx137⟩ := st128.regO (ts := [.ls [.int 0 5] 0 n]) ((HT.start h).refl.newN ⟨(l0_2_18.free w13.free), Nat.le_trans (Nat.le_trans w4.le.next w8.le.next) w13.ge⟩) ((gx131 _ ne79).trans ((gx126 _ ne65).trans ((gx120 _ ne26).trans u17))) o132 ⟨_, _, rfl, ⟨_, _, _, rfl, by omega, by omega, .inl ⟨rfl, rfl⟩⟩, rfl⟩
   have o138 : Own h104 i2 [.ptr (some (x, 0))] := ((o91.le w90.le).but bt105 ne92)
   obtain ⟨g139, st140, sl141, gc142, gx143⟩ := st134.regO (ts := [.is (.ptr (some (x, 0)))]) ((HT.start h).refl.newN ⟨w4.free, Nat.le_trans (Nat.le_refl _) w4.ge⟩) ((gx137 _ ne15).trans ((gx131 _ ne75).trans ((gx126 _ ne62).trans ((gx120 _ ne23).trans u5)))) o138 ⟨_, _, rfl, rfl, rfl⟩
   have o144 : Own h104 i6 [.slice p n cp] := ((o93.le w90.le).but bt105 ne94)
   obtain ⟨g145, st146, sl147, gc148, gx149⟩ := st140.regO (ts := [.is (.slice p n cp)]) ((HT.start h).refl.newN ⟨(w4.le.free w8.free), Nat.le_trans w4.le.next w8.ge⟩) ((gx143 _ ne9.symm).trans ((gx137 _ ne16).trans ((gx131 _ ne77).trans ((gx126 _ ne63).trans ((gx120 _ ne25).trans u10))))) o144 ⟨_, _, rfl, rfl, rfl⟩
   obtain ⟨g150, st151, sl152, gc153, gx154⟩ := st146.regO (ts := [.is (.fn (.func 81) [] [.ptr (some (i19, 0)), .ptr (some (i71, 0)), .ptr (some (i11, 0)), .ptr (some (i2, 0)), .ptr (some (i6, 0)), .ptr (some (i88, 0))])]) ((HT.start h).refl.newN ⟨fr103, Nat.le_trans (Nat.le_trans (Nat.le_trans (Nat.le_trans (Nat.le_trans (Nat.le_trans (Nat.le_trans (Nat.le_trans (Nat.le_trans w4.le.next w8.le.next) w13.le.next) w21.le.next) bt30.next) le39.next) w60.le.next) w73.le.next) bt86.next) w90.ge⟩) ((gx149 _ ne94.symm).trans ((gx143 _ ne92.symm).trans ((gx137 _ ne96.symm).trans ((gx131 _ ne101.symm).trans ((gx126 _ ne100.symm).trans ((gx120 _ ne98.symm).trans u102)))))) o106 ⟨_, _, rfl, rfl, rfl⟩
   refine Lo (w_callV' ?_ (hR := by exact JApp_fn isf81 (c81 ne67 ne81 ne82 ne26.symm ne65.symm ne79.symm ne23.symm ne62.symm ne75.symm ne15.symm ne25.symm ne63.symm ne77.symm ne16.symm ne9 ne98 ne100 ne101 ne96 ne92 ne94 hroom sp (by omega) _ rfl st151.ht (((((((sl124.trans sl129).trans sl135).trans sl141).trans sl147).trans sl152)) _ _ gc119) ((((((sl129.trans sl135).trans sl141).trans sl147).trans sl152)) _ _ gc125) (((((sl135.trans sl141).trans sl147).trans sl152)) _ _ gc130) ((((sl141.trans sl147).trans sl152)) _ _ gc136) (((sl147.trans sl152)) _ _ gc142) ((sl152) _ _ gc148) gc153 (by omega) (by omega) (by omega))))
   rintro e155 h156 ⟨g157, rfl, sc158⟩
   have st159 := st151.trans sc158
   refine Ln ?_
   refine Sq ?_
   obtain ⟨_, o160, ⟨_, _, rfl, ⟨p161, m162, c163, rfl, lom162, hmm162, lk164⟩, rfl⟩⟩ := st159.ht.cells (((((sl141.trans sl147).trans sl152).trans sc158.sub)) _ _ gc136)
   replace lk164 : LsK g157 [.int 0 5] p161 m162 := lk164
   obtain ⟨_, o166, ⟨_, _, rfl, ⟨n167, rfl, lon167, hin167⟩, rfl⟩⟩ := st159.ht.cells ((((((((sl124.trans sl129).trans sl135).trans sl141).trans sl147).trans sl152).trans sc158.sub)) _ _ gc119)
   refine J_drawS (opsAt (C49 [0, 1, 1, 1, 1, 1, 1, 1])) [[(4, none)], [(5, none)], [(4, none), (19, some 0)], [(5, none), (20, some 1)]] ?_
   refine Dp (w_ldC tC28 o160.cells ⟨rfl, rfl⟩) ?_
   refine Dp (w_ldC tC3 o166.cells ⟨rfl, rfl⟩) ?_
   refine Da (h₁ := h156) (x_store (vc := [.slice p161 m162 c163]) (cs' := [.slice p161 m162 c163]) tZ28 o160 ?_)
   intro h168 bt169 o170
   refine Ao ?_
   have o171 : Own h168 i19 [.int .i64 n167] := (o166.but bt169 ne26.symm)
   refine Da (h₁ := h168) (x_store (vc := [.int .i64 n167]) (cs' := [.int .i64 n167]) tZ3 o171 ?_)
   intro h172 bt173 o174
   refine Ao ?_
   have o175 : Own h168 i19 [.int .i64 n167] := (o166.but bt169 ne26.symm)
   refine Ra 1 1 (w_ldC tC3 o175.cells ⟨rfl, rfl⟩) ?_
   refine JD_end (effs := [2, 3]) (fin := [(4, none), (5, none)]) (slF := [(4, .ptr (some (i11, 0))), (5, .ptr (some (i19, 0)))]) rfl mixed (by kernel_rfl) (by kernel_rfl) rfl rfl ?_
   refine Rt ?_
   have o176 : Own h172 i11 [.slice p161 m162 c163] := (o170.but bt173 ne26)
   refine leave_ret (resL_cons (resV_cell rfl o176.cells tC28 rfl) (resL_cons (resV_cell rfl o174.cells tC3 rfl) resL_nil)) ?_
   have st177 : Stp h Sig.nil h g157 h172 := st159.turn (((LeM.refl [i11, i19] h156).butM bt169 (by simp)).butM bt173 (by simp)) (by simp only [List.mem_cons, List.not_mem_nil, or_false, forall_eq_or_imp, forall_eq]; exact ⟨.inr (TOk.own o176 (((((sl141.trans sl147).trans sl152).trans sc158.sub)) _ _ gc136) ⟨_, _, rfl, ⟨_, _, _, rfl, by omega, by omega, lk164⟩, rfl⟩), .inr (TOk.own o174 ((((((((sl124.trans sl129).trans sl135).trans sl141).trans sl147).trans sl152).trans sc158.sub)) _ _ gc119) ⟨_, _, rfl, ⟨_, rfl, by omega, by omega⟩, rfl⟩)⟩)
   exact ⟨_, _, _, rfl, ((st177.frs lk164).imp fun _ _ h => h), (by omega), (by omega), st177.ht.le⟩
theorem c48 {h : AH}  {x bn rn en qn : Nat} {p : Option (Nat × Nat)} {n : Nat} {cp : Cap} (hroom : RoomOK h x bn rn en qn) (sp : SlV h p n 1 (okL h [.int 0 ((qn : Int) - 1)])) (mp : n ≤ 1048576) : JCall Tryz.prog 48 [.ptr (some (x, 0)), .slice p n cp] h (fun e h' => ∃ (r : Bool), e = .ret (.bool r) ∧ Le h h') := by
 refine JCall_of_J (N := 15) (sl := [(0, _), (1, _)]) isf48 rfl (by show 2 ≤ 15; decide) rfl ?_
 obtain ⟨mbx, mrx, mex, mqx⟩ := hroom.bounds
 refine Sr (Lz (w_assign ?_))
 refine Sr (Lo (w_move ?_))
 refine Lo (w_move ?_)
 refine Lo (w_call' isf49 ?_ (hR := by exact c49 hroom (sp.leL (Le.refl _) (Le.refl _)) (by omega)))
 rintro e2 h3 ⟨v4, m5, n9, rfl, fr6, hmm5, hbn9, le10⟩
 obtain ⟨p7, c8, rfl, sv11, _⟩ := id fr6
 refine Lo (w_move ?_)
 refine Lo (w_extract ?_)
 refine Lo (w_extract ?_)
 refine Lo (w_assign ?_)
 refine Lz (w_assign ?_)
 refine Sr (Lo (w_move ?_))
 refine Lo (w_ge ?_)
 refine Lz (w_assign ?_)
 refine Rt ?_
 refine leave_ret rfl ?_
 exact ⟨_, rfl, le10⟩
theorem c14 {h : AH}  {bp : Option (Nat × Nat)} {bn : Nat} {cbp : Nat} {rp : Option (Nat × Nat)} {rn : Nat} {crp : Nat} {ep : Option (Nat × Nat)} {en : Nat} {cep : Nat} {qp : Option (Nat × Nat)} {qn : Nat} {cqp : Nat} {p : Option (Nat × Nat)} {n : Nat} {cp : Cap} (sbp : SlV h bp bn 5 (okL h [.str, .i, .i, .i, .bool])) (mbp : bn ≤ 1048576) (xbp : bn ≤ cbp) (srp : SlV h rp rn 2 (okL h [.str, .i])) (mrp : rn ≤ 1048576) (xrp : rn ≤ crp) (sep : SlV h ep en 2 (okL h [.i, .bool])) (mep : en ≤ 1048576) (xep : en ≤ cep) (sqp : SlV h qp qn 4 (okL h [.i, .i, .i, .i])) (mqp : qn ≤ 1048576) (xqp : qn ≤ cqp) (sp : SlV h p n 1 (okL h [.i])) (mp : n ≤ 1048576) : JCall Tryz.prog 14 [.agg [.slice bp bn (.exact cbp), .slice rp rn (.exact crp), .slice ep en (.exact cep), .slice qp qn (.exact cqp)], .slice p n cp] h (fun e h' => ∃ (r : Bool) (er : Int), e = .ret (.tuple [.bool r, .int .i64 er]) ∧ ((-9223372036854775808) ≤ er ∧ er ≤ 9223372036854775807) ∧ Le h h') := by
 refine JCall_of_J (N := 20) (sl := [(0, _), (1, _)]) isf14 rfl (by show 2 ≤ 20; decide) rfl ?_
 refine Sr (Lo (x_box (z := [.slice bp bn (.exact cbp), .slice rp rn (.exact crp), .slice ep en (.exact cep), .slice qp qn (.exact cqp)]) ?_))
 intro i6 h7 w8
 refine Lo (w_assign ?_)
 refine Lz (w_assign ?_)
 refine Sr (Lo (w_ldA (l := [.slice bp bn (.exact cbp), .slice rp rn (.exact crp), .slice ep en (.exact cep), .slice qp qn (.exact cqp)]) tA27 w8.own.cells ?_))
 refine Lo (w_move ?_)
 refine Lo (w_call' isf46 ?_ (hR := by exact c46 (sbp.leL w8.le w8.le) (by omega) (by omega) (srp.leL w8.le w8.le) (by omega) (by omega) (sep.leL w8.le w8.le) (by omega) (by omega) (sqp.leL w8.le w8.le) (by omega) (by omega) (sp.leL w8.le w8.le) (by omega)))
 rintro e9 h10 ⟨v11, n12, rfl, hbn12, le13, k14⟩
 refine Lo (w_move ?_)
 refine Lo (w_extract ?_)
 refine Lo (w_extract ?_)
 refine Lo (w_assign ?_)
 refine Lz (w_assign ?_)
 refine Sq (Sr ?_)
 refine Lo (w_move ?_)
 refine Lz (w_ne ?_)
 refine Cn (fun q15 => ?_) (fun q15 => ?_)
 · refine Sr (Lo (w_move ?_))
   refine Lo (w_assign ?_)
   refine Lz (w_assign ?_)
   refine Rt ?_
   refine then_r ?_
   refine leave_ret rfl ?_
   have l0_2_16 : Le h h10 := w8.le.trans le13
   exact ⟨_, _, rfl, (by omega), l0_2_16⟩
 · obtain ⟨x17, rfl, room18, sv19, sv20, sv21, sv22, sv23⟩ := k14 (by omega)
   obtain ⟨mbx17, mrx17, mex17, mqx17⟩ := room18.bounds
   refine Sk ?_
   refine Sr (Lo (w_move ?_))
   refine Lo (w_move ?_)
   refine Lo (w_call' isf48 ?_ (hR := by exact c48 room18 (sv19.leL (Le.refl _) (Le.refl _)) (by omega)))
   rintro e29 h30 ⟨b31, rfl, le32⟩
   refine Lo (w_assign ?_)
   refine Lz (w_assign ?_)
   refine Rt ?_
   refine leave_ret rfl ?_
   have l0_2_33 : Le h h10 := w8.le.trans le13
   have l0_3_34 : Le h h30 := l0_2_33.trans le32
   exact ⟨_, _, rfl, (by omega), l0_3_34⟩
theorem c17 {h : AH}  {bp : Option (Nat × Nat)} {bn : Nat} {cbp : Nat} {rp : Option (Nat × Nat)} {rn : Nat} {crp : Nat} {ep : Option (Nat × Nat)} {en : Nat} {cep : Nat} {qp : Option (Nat × Nat)} {qn : Nat} {cqp : Nat} {p : Option (Nat × Nat)} {n : Nat} {cp : Cap} (sbp : SlV h bp bn 5 (okL h [.str, .i, .i, .i, .bool])) (mbp : bn ≤ 1048576) (xbp : bn ≤ cbp) (srp : SlV h rp rn 2 (okL h [.str, .i])) (mrp : rn ≤ 1048576) (xrp : rn ≤ crp) (sep : SlV h ep en 2 (okL h [.i, .bool])) (mep : en ≤ 1048576) (xep : en ≤ cep) (sqp : SlV h qp qn 4 (okL h [.i, .i, .i, .i])) (mqp : qn ≤ 1048576) (xqp : qn ≤ cqp) (sp : SlV h p n 1 (okL h [.i])) (mp : n ≤ 1048576) : JCall Tryz.prog 17 [.agg [.slice bp bn (.exact cbp), .slice rp rn (.exact crp), .slice ep en (.exact cep), .slice qp qn (.exact cqp)], .slice p n cp] h (fun e h' => ∃ (v : AV) (k : Nat) (li : Int) (er : Int), e = .ret (.tuple [v, .int .i64 li, .int .i64 er]) ∧ Frs h h' v k 1 (okL h' [.int 0 5]) ∧ k ≤ 1048576 ∧ ((-9223372036854775808) ≤ li ∧ li ≤ 9223372036854775807) ∧ ((-9223372036854775808) ≤ er ∧ er ≤ 9223372036854775807) ∧ Le h h') := by
 refine JCall_of_J (N := 27) (sl := [(0, _), (1, _)]) isf17 rfl (by show 2 ≤ 27; decide) rfl ?_
 refine Sr (Lo (x_box (z := [.slice bp bn (.exact cbp), .slice rp rn (.exact crp), .slice ep en (.exact cep), .slice qp qn (.exact cqp)]) ?_))
 intro i6 h7 w8
 refine Lo (w_assign ?_)
 refine Lo (w_assign ?_)
 refine Lz (w_assign ?_)
 refine Sr (Lo (w_ldA (l := [.slice bp bn (.exact cbp), .slice rp rn (.exact crp), .slice ep en (.exact cep), .slice qp qn (.exact cqp)]) tA27 w8.own.cells ?_))
 refine Lo (w_move ?_)
 refine Lo (w_call' isf46 ?_ (hR := by exact c46 (sbp.leL w8.le w8.le) (by omega) (by omega) (srp.leL w8.le w8.le) (by omega) (by omega) (sep.leL w8.le w8.le) (by omega) (by omega) (sqp.leL w8.le w8.le) (by omega) (by omega) (sp.leL w8.le w8.le) (by omega)))
 rintro e9 h10 ⟨v11, n12, rfl, hbn12, le13, k14⟩
 refine Lo (w_move ?_)
 refine Lo (w_extract ?_)
 refine Lo (w_extract ?_)
 refine Lo (w_assign ?_)
 refine Lz (w_assign ?_)
 refine Sq (Sr ?_)
 refine Lo (w_move ?_)
 refine Lz (w_ne ?_)
 refine Cn (fun q15 => ?_) (fun q15 => ?_)
 · refine Sr (Lo (w_move ?_))
   refine Lo (w_assign ?_)
   refine Lo (w_assign ?_)
   refine Lz (w_assign ?_)
   refine Rt ?_
   refine then_r ?_
   refine leave_ret rfl ?_
   have l0_2_16 : Le h h10 := w8.le.trans le13
   exact ⟨_, _, _, _, rfl, Frs.nil, (by omega), (by omega), (by omega), l0_2_16⟩
 · obtain ⟨x17, rfl, room18, sv19, sv20, sv21, sv22, sv23⟩ := k14 (by omega)
   obtain ⟨mbx17, mrx17, mex17, mqx17⟩ := room18.bounds
   refine Sk ?_
   refine Sq (Sr ?_)
   refine Lo (w_move ?_)
   refine Lo (w_move ?_)
   refine Lo (w_call' isf49 ?_ (hR := by exact c49 room18 (sv19.leL (Le.refl _) (Le.refl _)) (by omega)))
   rintro e29 h30 ⟨v31, m32, n36, rfl, fr33, hmm32, hbn36, le37⟩
   obtain ⟨p34, c35, rfl, sv38, _⟩ := id fr33
   refine Lo (w_move ?_)
   refine Lo (w_extract ?_)
   refine Lo (w_extract ?_)
   refine Lo (w_assign ?_)
   refine Lz (w_assign ?_)
   refine Sr (Lo (w_move ?_))
   refine Lz (w_lt ?_)
   refine Cn (fun q40 => ?_) (fun q40 => ?_)
   · refine Sr (Lo (w_assign ?_))
     refine Lo (w_assign ?_)
     refine Lz (w_assign ?_)
     refine Rt ?_
     refine then_r ?_
     refine leave_ret rfl ?_
     have l0_2_41 : Le h h10 := w8.le.trans le13
     have l0_3_42 : Le h h30 := l0_2_41.trans le37
     exact ⟨_, _, _, _, rfl, Frs.nil, (by omega), (by omega), (by omega), l0_3_42⟩
   · refine Sk ?_
     refine Sr (Lo (w_move ?_))
     refine Lo (w_move ?_)
     refine Lo (w_assign ?_)
     refine Lo (w_assign ?_)
     refine Lz (w_assign ?_)
     refine Rt ?_
     refine leave_ret rfl ?_
     have l0_2_43 : Le h h10 := w8.le.trans le13
     have l0_3_44 : Le h h30 := l0_2_43.trans le37
     exact ⟨_, _, _, _, rfl, (fr33.base l0_2_43), (by omega), (by omega), (by omega), l0_3_44⟩
theorem c22 {h : AH}  {bp : Option (Nat × Nat)} {bn : Nat} {cbp : Nat} {rp : Option (Nat × Nat)} {rn : Nat} {crp : Nat} {ep : Option (Nat × Nat)} {en : Nat} {cep : Nat} {qp : Option (Nat × Nat)} {qn : Nat} {cqp : Nat} {p : Option (Nat × Nat)} {n : Nat} {cp : Cap} {q : Option (Nat × Nat)} {m : Nat} {cq : Cap} (sbp : SlV h bp bn 5 (okL h [.str, .i, .i, .i, .bool])) (mbp : bn ≤ 1048576) (xbp : bn ≤ cbp) (srp : SlV h rp rn 2 (okL h [.str, .i])) (mrp : rn ≤ 1048576) (xrp : rn ≤ crp) (sep : SlV h ep en 2 (okL h [.i, .bool])) (mep : en ≤ 1048576) (xep : en ≤ cep) (sqp : SlV h qp qn 4 (okL h [.i, .i, .i, .i])) (mqp : qn ≤ 1048576) (xqp : qn ≤ cqp) (sp : SlV h p n 1 (okL h [.i])) (mp : n ≤ 1048576) (sq : SlV h q m 1 (okL h [.i])) (mq : m ≤ 1048576) : JCall Tryz.prog 22 [.agg [.slice bp bn (.exact cbp), .slice rp rn (.exact crp), .slice ep en (.exact cep), .slice qp qn (.exact cqp)], .slice p n cp, .slice q m cq] h (fun e h' => ∃ (v : AV) (k : Nat) (er : Int), e = .ret (.tuple [v, .int .i64 er]) ∧ Frs h h' v k 2 (okL h' [.i, .i]) ∧ k ≤ 1048576 ∧ ((-9223372036854775808) ≤ er ∧ er ≤ 9223372036854775807) ∧ Le h h') := by
 refine JCall_of_J (N := 134) (sl := [(0, _), (1, _), (2, _)]) isf22 rfl (by show 3 ≤ 134; decide) rfl ?_
 refine Sr (Lo (x_box (z := [.slice bp bn (.exact cbp), .slice rp rn (.exact crp), .slice ep en (.exact cep), .slice qp qn (.exact cqp)]) ?_))
 intro i7 h8 w9
 refine Lo (w_assign ?_)
 refine Lz (w_assign ?_)
 refine Sr (Lo (w_ldA (l := [.slice bp bn (.exact cbp), .slice rp rn (.exact crp), .slice ep en (.exact cep), .slice qp qn (.exact cqp)]) tA27 w9.own.cells ?_))
 refine Lo (w_move ?_)
 refine Lo (w_call' isf46 ?_ (hR := by exact c46 (sbp.leL w9.le w9.le) (by omega) (by omega) (srp.leL w9.le w9.le) (by omega) (by omega) (sep.leL w9.le w9.le) (by omega) (by omega) (sqp.leL w9.le w9.le) (by omega) (by omega) (sp.leL w9.le w9.le) (by omega)))
 rintro e10 h11 ⟨v12, n13, rfl, hbn13, le14, k15⟩
 refine Lo (w_move ?_)
 refine Lo (w_extract ?_)
 refine Lo (w_extract ?_)
 refine Lo (w_assign ?_)
 refine Lz (w_assign ?_)
 refine Sq (Bk ?_)
 refine Sr (Lo (w_move ?_))
 refine Lo (w_ne ?_)
 refine Lz (w_assign ?_)
 refine Cn (fun q16 => ?_) (fun q16 => ?_)
 · refine Sr (Lo (w_move ?_))
   refine Lo (w_assign ?_)
   refine Lz (w_assign ?_)
   refine Rt ?_
   refine blk_r (then_r ?_)
   refine leave_ret rfl ?_
   have l0_2_17 : Le h h11 := w9.le.trans le14
   exact ⟨_, _, _, rfl, Frs.nil, (by omega), (by omega), l0_2_17⟩
 · obtain ⟨x18, rfl, room19, sv20, sv21, sv22, sv23, sv24⟩ := k15 (by omega)
   obtain ⟨mbx18, mrx18, mex18, mqx18⟩ := room19.bounds
   refine Sr (Lo (w_move ?_))
   refine Lo (w_len tS28 ?_)
   refine Lo (w_move ?_)
   refine Lo (w_len tS28 ?_)
   refine Lo (w_ne ?_)
   refine Lz (w_assign ?_)
   refine Cn (fun q30 => ?_) (fun q30 => ?_)
   · refine Sr (Lo (w_assign ?_))
     refine Lz (w_assign ?_)
     refine Rt ?_
     refine blk_r (then_r ?_)
     refine leave_ret rfl ?_
     have l0_2_31 : Le h h11 := w9.le.trans le14
     exact ⟨_, _, _, rfl, Frs.nil, (by omega), (by omega), l0_2_31⟩
   · refine Sr (Lo (w_fieldAddr tF27_2 tZ24 ?_))
     have o32 : Own h11 i7 [.slice bp bn (.exact cbp), .slice rp rn (.exact crp), .slice ep en (.exact cep), .slice qp qn (.exact cqp)] := (w9.own.le le14)
     refine Lo (w_ldC tC24 o32.cells ?_)
     refine Lo (w_len tS24 ?_)
     refine Lo (w_sub ?_)
     refine Lo (w_move ?_)
     have l0_2_33 : Le h h11 := w9.le.trans le14
     refine Lo (w_call' isf43 ?_ (hR := by exact c43 (sq.leL l0_2_33 l0_2_33) (by omega)))
     rintro e34 h35 ⟨b36, rfl, le37, k38⟩
     refine Lz (w_assign ?_)
     refine Cb (fun q39 => ?_) (fun q39 => ?_)
     · subst q39
       refine Sr (Lo (w_assign ?_))
       refine Lz (w_assign ?_)
       refine Rt ?_
       refine blk_r (then_r ?_)
       refine leave_ret rfl ?_
       have l0_3_40 : Le h h35 := l0_2_33.trans le37
       exact ⟨_, _, _, rfl, Frs.nil, (by omega), (by omega), l0_3_40⟩
     · subst q39
       have sv42 := k38 rfl
       refine Sk ?_
       refine Sr (Lz (w_assign ?_))
       refine Sq (Sr ?_)
       refine Lo (w_move ?_)
       refine Lo (w_len tS28 ?_)
       refine Lz (w_move ?_)
       refine Bk ?_
       refine J_for2 (x := C22 [0, 0, 1, 0, 1, 1, 1, 1]) (fun (x9_44 : Int) (x42_45 : Int) => ⟨[(1, .slice p n cp), (2, .slice q m cq), (3, .ptr (some (i7, 0))), (6, .slice none 0 (.exact 0)), (8, .ptr (some (x18, 0))), (9, .int .i64 x9_44), (40, .slice q m cq), (41, .int .i64 ((m : Nat) : Int)), (42, .int .i64 x42_45)], h35, 134, []⟩) (fun (x9_44 : Int) (x42_45 : Int) => 0 ≤ x42_45) (fun (x9_44 : Int) (x42_45 : Int) => (((m : Nat) : Int) - x42_45).toNat) 0 0 rfl ⟨rfl, rfl, rfl, rfl, rfl, rfl, rfl, rfl, rfl, rfl, rfl, rfl, trivial⟩ (by omega) ?_
       intro x9_44 x42_45 hI
       obtain hxx42_45 : 0 ≤ x42_45 := hI
       show J _ _ (C22 [0, 0, 1, 0, 1, 1, 1, 1]) ⟨[(1, .slice p n cp), (2, .slice q m cq), (3, .ptr (some (i7, 0))), (6, .slice none 0 (.exact 0)), (8, .ptr (some (x18, 0))), (9, .int .i64 x9_44), (40, .slice q m cq), (41, .int .i64 ((m : Nat) : Int)), (42, .int .i64 x42_45)], h35, 134, []⟩ _
       refine Sr (Lz (w_lt ?_))
       refine Sq ?_
       refine Cn (fun q46 => ?_) (fun q46 => ?_)
       · refine Sk ?_
         refine Sq (Bk ?_)
         refine Sr ?_
         obtain ⟨i54, o55, cs53, l52, rfl, hc47, hl48, hk49, hE50, ht51⟩ := sv42.at (i := x42_45) (by omega) (by omega)
         obtain ⟨_, _, rfl, ⟨n56, rfl, lon56, hin56⟩, rfl⟩ := hE50
         refine Lo (w_indexAddrS tS28 tZ3 ?_)
         refine Lo (w_ldC tC3 hc47 ?_ (hv := cell_of_take0 ht51 rfl))
         refine Lz (w_assign ?_)
         refine Sq (Sr ?_)
         refine Lo (w_move ?_)
         refine Lo (w_move ?_)
         refine Lo (w_shr ?_)
         generalize shrI .i64 x9_44 n56 = n57
         refine Lo (w_and ?_)
         have rn58 := bit_i64 .and n57 1
         generalize bitI .and .i64 n57 1 = n58 at rn58 ⊢
         refine Lz (w_eq ?_)
         refine Cn (fun q59 => ?_) (fun q59 => ?_)
         · refine Sr (Lo (w_assign ?_))
           refine Lz (w_assign ?_)
           refine Rt ?_
           refine then_r (blk_r (then_r (then_r (blk_r (then_r ?_)))))
           refine leave_ret rfl ?_
           have l0_3_60 : Le h h35 := l0_2_33.trans le37
           exact ⟨_, _, _, rfl, Frs.nil, (by omega), (by omega), l0_3_60⟩
         · refine Sk ?_
           refine Rg (Lo (w_move ?_))
           refine Lo (w_move ?_)
           refine Lo (w_shl ?_)
           have rn61 := shl_i64 1 n56
           generalize shlI .i64 1 n56 = n61 at rn61 ⊢
           refine Lo (w_or ?_)
           have rn62 := bit_i64 .or x9_44 n61
           generalize bitI .or .i64 x9_44 n61 = n62 at rn62 ⊢
           refine Lz (w_assign ?_)
           refine Rg (Lo (w_add ?_))
           refine Lz (w_move ?_)
           exact ⟨n62, (x42_45 + 1), ⟨(by omega), by omega⟩, rfl, rfl, rfl, rfl, rfl, rfl, rfl, rfl, rfl, rfl, rfl, rfl, trivial⟩
       · refine Ex ?_
         refine then_x (then_x (blk_eq rfl ?_))
         refine Sq (Sr ?_)
         refine Lo (w_move ?_)
         refine Lo (w_move ?_)
         refine Lo (w_call' isf53 ?_ (hR := by exact c53 (room19.le le37) (sv20.leL le37 le37) (by omega)))
         rintro e63 h64 ⟨b65, rfl, le66⟩
         refine Lz (w_not ?_)
         refine Cb (fun q67 => ?_) (fun q67 => ?_)
         · have q68 : b65 = false := by simpa using q67
           subst q68
           refine Sr (Lo (w_assign ?_))
           refine Lz (w_assign ?_)
           refine Rt ?_
           refine then_r ?_
           refine leave_ret rfl ?_
           have l0_3_69 : Le h h35 := l0_2_33.trans le37
           have l0_4_70 : Le h h64 := l0_3_69.trans le66
           exact ⟨_, _, _, rfl, Frs.nil, (by omega), (by omega), l0_4_70⟩
         · have q71 : b65 = true := by simpa using q67
           subst q71
           refine Sk ?_
           refine Sq (Sr ?_)
           refine Lo (w_fieldAddr tF27_0 tZ22 ?_)
           have o72 : Own h64 i7 [.slice bp bn (.exact cbp), .slice rp rn (.exact crp), .slice ep en (.exact cep), .slice qp qn (.exact cqp)] := ((o32.le le37).le le66)
           refine Lo (w_ldC tC22 o72.cells ?_)
           refine Lo (w_len tS22 ?_)
           refine Lz (w_move ?_)
           refine Bk ?_
           refine J_for4 (x := C22 [0, 0, 1, 0, 1, 1, 1, 1, 1, 1]) (fun (x6_73 : AV) (m74 : Nat) (x63_76 : Int) (h78 : AH) => ⟨[(1, .slice p n cp), (2, .slice q m cq), (3, .ptr (some (i7, 0))), (6, x6_73), (8, .ptr (some (x18, 0))), (61, .slice bp bn (.exact cbp)), (62, .int .i64 ((bn : Nat) : Int)), (63, .int .i64 x63_76)], h78, 134, []⟩) (fun (x6_73 : AV) (m74 : Nat) (x63_76 : Int) (h78 : AH) => Bld h64 h78 x6_73 m74 2 (okL h64 [.i, .i]) ∧ 0 ≤ x63_76 ∧ (((m74 : Nat) : Int) = x63_76 ∧ x63_76 ≤ bn) ∧ Le h64 h78) (fun (x6_73 : AV) (m74 : Nat) (x63_76 : Int) (h78 : AH) => (((bn : Nat) : Int) - x63_76).toNat) (.slice none 0 (.exact 0)) 0 0 h64 rfl ⟨rfl, rfl, rfl, rfl, rfl, rfl, rfl, rfl, rfl, rfl, rfl, trivial⟩ ⟨(Bld.nil), (by omega), (by omega), .refl _⟩ ?_
           intro x6_73 m74 x63_76 h78 hI
           obtain ⟨bl75, hxx63_76, iv77, le79⟩ : Bld h64 h78 x6_73 m74 2 (okL h64 [.i, .i]) ∧ 0 ≤ x63_76 ∧ (((m74 : Nat) : Int) = x63_76 ∧ x63_76 ≤ bn) ∧ Le h64 h78 := hI
           show J _ _ (C22 [0, 0, 1, 0, 1, 1, 1, 1, 1, 1]) ⟨[(1, .slice p n cp), (2, .slice q m cq), (3, .ptr (some (i7, 0))), (6, x6_73), (8, .ptr (some (x18, 0))), (61, .slice bp bn (.exact cbp)), (62, .int .i64 ((bn : Nat) : Int)), (63, .int .i64 x63_76)], h78, 134, []⟩ _
           refine Sr (Lz (w_lt ?_))
           refine Sq ?_
           refine Cn (fun q80 => ?_) (fun q80 => ?_)
           · refine Sk ?_
             refine Sq (Bk ?_)
             refine Sr ?_
             have l2_4_81 : Le h11 h64 := le37.trans le66
             have l2_5_82 : Le h11 h78 := l2_4_81.trans le79
             obtain ⟨i90, o91, cs89, l88, rfl, hc83, hl84, hk85, hE86, ht87⟩ := (sv21.le l2_5_82).at (i := x63_76) (by omega) (by omega)
             obtain ⟨_, _, rfl, ⟨s92, rfl, hs92⟩, _, _, rfl, ⟨n93, rfl, lon93, hin93⟩, _, _, rfl, ⟨n94, rfl, lon94, hin94⟩, _, _, rfl, ⟨n95, rfl, lon95, hin95⟩, _, _, rfl, ⟨b96, rfl⟩, rfl⟩ := hE86
             refine Lo (w_indexAddrS tS22 tZ70 ?_)
             refine Lo (w_ldA tA70 hc83 ?_ (hn := hl84) (hl := ht87))
             refine Lo (x_alloc (zc := [.str ByteArray.empty, .int .i64 0, .int .i64 0, .int .i64 0, .bool false]) tN70 ?_)
             intro i97 h98 w99
             have o100 : Own h78 i7 [.slice (some (i90, o91)) bn (.exact cbp), .slice rp rn (.exact crp), .slice ep en (.exact cep), .slice qp qn (.exact cqp)] := (o72.le le79)
             have ne101 : i7 ≠ i97 := ne_of_free w99.free o100
             have u102 : Sig.nil i97 = none := (HT.start h64).refl.ht.un0 (le79.free w99.free)
             refine Lz (x_store (vc := [.str s92, .int .i64 n93, .int .i64 n94, .int .i64 n95, .bool b96]) (cs' := [.str s92, .int .i64 n93, .int .i64 n94, .int .i64 n95, .bool b96]) tZ70 w99.own ?_)
             intro h103 bt104 o105
             refine Rg (Lo (w_move ?_))
             refine Lo (w_fieldAddr tF70_2 tZ68 ?_)
             refine Lo (w_ldA (l := [.int .i64 n94, .int .i64 n95]) tA68 o105.cells ?_)
             refine Lo (x_buildSlice (out := [.int .i64 n94, .int .i64 n95]) tS53 tZ68 tN68 ?_)
             intro i106 h107 w108
             have o109 : Own h103 i7 [.slice (some (i90, o91)) bn (.exact cbp), .slice rp rn (.exact crp), .slice ep en (.exact cep), .slice qp qn (.exact cqp)] := ((o100.le w99.le).but bt104 ne101)
             have ne110 : i7 ≠ i106 := ne_of_free w108.free o109
             have ne111 : i97 ≠ i106 := ne_of_free w108.free o105
             have fr113 : h64.get i106 = none := (le79.free (w99.le.free (bt104.free ne111.symm w108.free)))
             have u112 : Sig.nil i106 = none := (HT.start h64).refl.ht.un0 fr113
             have l4_6_114 : Le h64 h98 := le79.trans w99.le
             have l4_7_115 : Le h64 h103 := l4_6_114.but bt104 (le79.free w99.free)
             have l4_8_116 : Le h64 h107 := l4_7_115.trans w108.le
             refine Lo (x_append (hB := h64) (E := okL h64 [.i, .i]) tG53_53 (((bl75.le w99.le).butO bt104 w99.own).le w108.le) l4_8_116 (w108.own.slE rfl ⟨_, _, rfl, ⟨_, rfl, by omega, by omega⟩, _, _, rfl, ⟨_, rfl, by omega, by omega⟩, rfl⟩) ?_ (hq := by exact fun h => absurd h (by decide)) (hE := by exact fun _ h => okL_one h))
             intro v117 h118 bl119 le120 st121
             refine Lz (w_assign ?_)
             refine Rg (Lo (w_add ?_))
             refine Lz (w_move ?_)
             have l4_9_123 : Le h64 h118 := le120
             have st122 : Stp h64 Sig.nil h64 Sig.nil h118 := (HT.start h64).refl.le l4_9_123
             exact ⟨v117, (m74 + 1), (x63_76 + 1), h118, ⟨⟨bl119, (by omega), (by omega), st122.ht.le⟩, by omega⟩, rfl, rfl, rfl, rfl, rfl, rfl, rfl, rfl, rfl, rfl, rfl, trivial⟩
           · refine Ex ?_
             refine then_x (then_x (blk_eq rfl ?_))
             refine Sq (Sq ?_)
             have st124 : Stp h64 Sig.nil h64 Sig.nil h78 := (HT.start h64).refl.le le79
             obtain ⟨g125, p126, c127, st128, sl129, rfl, lk130, gx131⟩ := st124.regL (e := [.i, .i]) bl75 (fun _ n => (HT.start h64).refl.newN n) (fun _ _ n => (HT.start h64).refl.ht.un0 n.1) rfl (fun _ h => h)
             have o132 : Own h78 i7 [.slice bp bn (.exact cbp), .slice rp rn (.exact crp), .slice ep en (.exact cep), .slice qp qn (.exact cqp)] := (o72.le le79)
             refine Rg (Lo (w_move ?_))
             refine Lo (w_len tS28 ?_)
             refine Lz (w_move ?_)
             refine Bk ?_
             refine J_for3 (x := C22 [0, 0, 1, 0, 1, 1, 1, 1, 1, 1, 1]) (fun (x75_135 : Int) (h136 : AH) (g137 : Sig) => ⟨[(2, .slice q m cq), (3, .ptr (some (i7, 0))), (6, .slice p126 m74 c127), (8, .ptr (some (x18, 0))), (73, .slice p n cp), (74, .int .i64 ((n : Nat) : Int)), (75, .int .i64 x75_135)], h136, 134, []⟩) (fun (x75_135 : Int) (h136 : AH) (g137 : Sig) => 0 ≤ x75_135 ∧ Stp h64 g125 h78 g137 h136) (fun (x75_135 : Int) (h136 : AH) (g137 : Sig) => (((n : Nat) : Int) - x75_135).toNat) 0 h78 g125 rfl ⟨rfl, rfl, rfl, rfl, rfl, rfl, rfl, rfl, rfl, rfl, trivial⟩ ⟨(by omega), (st128.ht.refl)⟩ ?_
             intro x75_135 h136 g137 hI
             obtain ⟨hxx75_135, st138⟩ : 0 ≤ x75_135 ∧ Stp h64 g125 h78 g137 h136 := hI
             show J _ _ (C22 [0, 0, 1, 0, 1, 1, 1, 1, 1, 1, 1]) ⟨[(2, .slice q m cq), (3, .ptr (some (i7, 0))), (6, .slice p126 m74 c127), (8, .ptr (some (x18, 0))), (73, .slice p n cp), (74, .int .i64 ((n : Nat) : Int)), (75, .int .i64 x75_135)], h136, 134, []⟩ _
             refine Sr (Lz (w_lt ?_))
             refine Sq ?_
             refine Cn (fun q139 => ?_) (fun q139 => ?_)
             · refine Sk ?_
               refine Sq (Bk ?_)
               refine Sr (Lo (w_move ?_))
               have l2_4_140 : Le h11 h64 := le37.trans le66
               obtain ⟨i148, o149, cs147, l146, rfl, hc141, hl142, hk143, hE144, ht145⟩ := (sv20.le (l2_4_140.trans st138.ht.le)).at (i := x75_135) (by omega) (by omega)
               obtain ⟨_, _, rfl, ⟨n150, rfl, lon150, hin150⟩, rfl⟩ := hE144
               refine Lo (w_indexAddrS tS28 tZ3 ?_)
               refine Lo (w_ldC tC3 hc141 ?_ (hv := cell_of_take0 ht145 rfl))
               refine Lo (w_assign ?_)
               refine Lz (w_assign ?_)
               refine Sq (Sr ?_)
               refine Lo (w_move ?_)
               refine Lo (w_move ?_)
               refine Lo (w_move ?_)
               refine Lo (w_move ?_)
               obtain ⟨i158, o159, cs157, l156, rfl, hc151, hl152, hk153, hE154, ht155⟩ := (sv42.le (le66.trans st138.ht.le)).at (i := x75_135) (by omega) (by omega)
               obtain ⟨_, _, rfl, ⟨n160, rfl, lon160, hin160⟩, rfl⟩ := hE154
               refine Lo (w_indexAddrS tS28 tZ3 ?_)
               refine Lo (w_ldC tC3 hc151 ?_ (hv := cell_of_take0 ht155 rfl))
               refine Lo (w_call' isf47 ?_ (hR := by exact c47 (room19.le (l2_4_140.trans st138.ht.le)) (by omega) (by omega)))
               rintro e161 h162 ⟨n163, rfl, hbn163, le164⟩
               refine Lz (w_ne ?_)
               refine Cn (fun q165 => ?_) (fun q165 => ?_)
               · refine Sr (Lo (w_assign ?_))
                 refine Lz (w_assign ?_)
                 refine Rt ?_
                 refine then_r (blk_r (then_r (then_r (blk_r (then_r ?_)))))
                 refine leave_ret rfl ?_
                 have st166 : Stp h64 g125 h78 g137 h162 := st138.le le164
                 have l0_3_167 : Le h h35 := l0_2_33.trans le37
                 have l0_4_168 : Le h h64 := l0_3_167.trans le66
                 exact ⟨_, _, _, rfl, Frs.nil, (by omega), (by omega), (l0_4_168.trans st166.ht.le)⟩
               · refine Sk ?_
                 refine Sr (Lo (w_move ?_))
                 refine Lo (w_fieldAddr tF27_3 tZ25 ?_)
                 have o169 : Own h162 i7 [.slice bp bn (.exact cbp), .slice rp rn (.exact crp), .slice ep en (.exact cep), .slice qp qn (.exact cqp)] := ((st138.own o132 ((gx131 _ ⟨_, o132⟩).trans (rfl : Sig.nil i7 = none))).le le164)
                 refine Lo (w_ldC tC25 o169.cells ?_)
                 refine Lo (w_move ?_)
                 have st170 : Stp h64 g125 h78 g137 h162 := st138.le le164
                 obtain ⟨i178, o179, cs177, l176, rfl, hc171, hl172, hk173, hE174, ht175⟩ := (sv24.le (l2_4_140.trans st170.ht.le)).at (i := n150) (by omega) (by omega)
                 obtain ⟨_, _, rfl, ⟨n180, rfl, lon180, hin180⟩, _, _, rfl, ⟨n181, rfl, lon181, hin181⟩, _, _, rfl, ⟨n182, rfl, lon182, hin182⟩, _, _, rfl, ⟨n183, rfl, lon183, hin183⟩, rfl⟩ := hE174
                 refine Lo (w_indexAddrS tS25 tZ82 ?_)
                 refine Lo (w_fieldAddr tF82_1 tZ3 ?_)
                 refine Lo (w_ldC tC3 hc171 ?_ (hv := cell_of_take (k := 1) ht175 rfl))
                 obtain ⟨i184, k185, m186, rfl, gi187, hle188⟩ := LsK.pos (lk130.mono (st138.sub)) (by omega)
                 obtain ⟨cs196, l195, hc190, hl191, hk192, hE193, ht194⟩ := (st170.ht.sl (lk130.mono (st138.sub))).atS (i := n181) (by omega) (by omega)
                 obtain ⟨_, _, rfl, ⟨n197, rfl, lon197, hin197⟩, _, _, rfl, ⟨n198, rfl, lon198, hin198⟩, rfl⟩ := hE193
                 refine Lo (w_indexAddrS tS53 tZ68 ?_)
                 refine Lz (w_assign ?_)
                 refine Sq ?_
                 refine J_drawS (opsAt (C22 [0, 1, 1, 1, 0, 0, 1, 1, 0, 0, 1, 0, 1, 1, 1, 1, 1, 1, 1])) [[(16, none)], [(96, some 0)], [(97, some 1)], [(98, some 2)], [(8, none)], [(15, none)], [(2, none)], [(14, none)], [(102, some 6), (103, some 7)], [(104, some 8)], [(100, some 4)], [(106, some 10)], [(101, some 5), (107, some 11)], [(105, some 9), (108, some 12)], [(109, some 13)], [(99, some 3), (110, some 14)], [(96, some 0)], [(112, some 16)], [(111, some 15), (113, some 17)]] ?_
                 refine Dp (w_move ⟨rfl, rfl⟩) ?_
                 refine Dp (w_nilCheck_ptr ⟨rfl, rfl⟩) ?_
                 refine Dp (w_fieldAddr tF68_0 tZ3 ⟨rfl, rfl⟩) ?_
                 refine Dp (w_ldC tC3 hc190 ⟨rfl, rfl⟩ (hv := cell_of_take0 ht194 rfl)) ?_
                 refine Dp (w_move ⟨rfl, rfl⟩) ?_
                 refine Dp (w_move ⟨rfl, rfl⟩) ?_
                 refine Dp (w_move ⟨rfl, rfl⟩) ?_
                 refine Dp (w_move ⟨rfl, rfl⟩) ?_
                 obtain ⟨cs205, l204, hc199, hl200, hk201, hE202, ht203⟩ := (sv42.le (le66.trans st170.ht.le)).atS (i := x75_135) (by omega) (by omega)
                 obtain ⟨_, _, rfl, ⟨n206, rfl, lon206, hin206⟩, rfl⟩ := hE202
                 refine Dp (w_indexAddrS tS28 tZ3 ⟨rfl, rfl⟩) ?_
                 refine Dp (w_ldC tC3 hc199 ⟨rfl, rfl⟩ (hv := cell_of_take0 ht203 rfl)) ?_
                 refine Dp (w_nilCheck_ptr ⟨rfl, rfl⟩) ?_
                 refine Dp (w_fieldAddr tF98_1 tZ95 ⟨rfl, rfl⟩) ?_
                 refine Dp (w_indexAddrA tR95 tZ94 ⟨rfl, rfl⟩) ?_
                 refine Dp (w_indexAddrA tR94 tZ3 ⟨rfl, rfl⟩) ?_
                 obtain ⟨cs207, bp208, rp209, ep210, qp211, cb212, cr213, ce214, cq215, ri216, f217, a218, gy219, hx220, lx221, gx222, ka223, kb224, kc225, kd226, ke227, o228, o2229, o3230, o4231, ma232, mb233, mc234, md235, sa236, sb237, sc238, sd239⟩ := id room19
                 have o244 : h162.cells x18 = some cs207 := ((l2_4_140.trans st170.ht.le).cells hx220)
                 obtain ⟨n245, hv246, lon245, hin245⟩ := gx222 (4 + n150.toNat * 6 + n206.toNat * 1) (by omega) (by omega)
                 refine Dp (w_ldC tC3 o244 ⟨rfl, rfl⟩ (hv := hv246)) ?_
                 refine Dq (h₁ := h162) (w_subw ?_)
                 have rn247 := wrap_i64 (n197 - n245)
                 refine Po ?_
                 refine Dp (w_nilCheck_ptr ⟨rfl, rfl⟩) ?_
                 refine Dp (w_fieldAddr tF68_0 tZ3 ⟨rfl, rfl⟩) ?_
                 have o248 : SlW h162 i184 m186 2 (okTL h64 g137 [.i, .i]) := st170.ht.arr gi187
                 refine Da (h₁ := h162) (x_storeT (e := [.i, .i]) (k := ((k185 : Nat) : Int) + n181) (j := 0) tZ3 o248 ?_ (hoff := by show _ = _ * 2 + _; (try simp only [List.length_cons, List.length_nil]); omega) (hv := by exact ⟨_, rfl, by omega, by omega⟩))
                 intro h249 bt250 o251
                 replace o251 : SlW h249 i184 m186 2 (okTL h64 g137 [.i, .i]) := o251
                 refine Ao ?_
                 refine JD_end (effs := [18]) (fin := [(2, none), (3, none), (6, none), (8, none), (73, none), (74, none), (75, none), (14, none), (15, none), (16, none)]) (slF := [(2, .slice (some (i158, o159)) m cq), (3, .ptr (some (i7, 0))), (6, .slice (some (i184, k185 * 2)) m74 c127), (8, .ptr (some (x18, 0))), (73, .slice (some (i148, o149)) n cp), (74, .int .i64 ((n : Nat) : Int)), (75, .int .i64 x75_135), (14, .int .i64 x75_135), (15, .int .i64 n150), (16, .ptr (some (i184, k185 * 2 + n181.toNat * 2)))]) rfl mixed (by kernel_rfl) (by kernel_rfl) rfl rfl ?_
                 refine J_drawS (opsAt (C22 [1, 1, 1, 1, 0, 0, 1, 1, 0, 0, 1, 0, 1, 1, 1, 1, 1, 1, 1])) [[(16, none)], [(114, some 0)], [(115, some 1)], [(116, some 2)], [(8, none)], [(15, none)], [(2, none)], [(14, none)], [(120, some 6), (121, some 7)], [(122, some 8)], [(118, some 4)], [(124, some 10)], [(119, some 5), (125, some 11)], [(123, some 9), (126, some 12)], [(127, some 13)], [(117, some 3), (128, some 14)], [(114, some 0)], [(130, some 16)], [(129, some 15), (131, some 17)]] ?_
                 refine Dp (w_move ⟨rfl, rfl⟩) ?_
                 refine Dp (w_nilCheck_ptr ⟨rfl, rfl⟩) ?_
                 refine Dp (w_fieldAddr tF68_1 tZ3 ⟨rfl, rfl⟩) ?_
                 obtain ⟨cs258, l257, hc252, hl253, hk254, hE255, ht256⟩ := o251.slV.atS (i := ((k185 : Nat) : Int) + n181) (by omega) (by omega)
                 obtain ⟨_, _, rfl, ⟨n259, rfl, lon259, hin259⟩, _, _, rfl, ⟨n260, rfl, lon260, hin260⟩, rfl⟩ := hE255
                 refine Dp (w_ldC tC3 hc252 ⟨rfl, rfl⟩ (hv := cell_at ht256 (k := 1) rfl (by omega))) ?_
                 refine Dp (w_move ⟨rfl, rfl⟩) ?_
                 refine Dp (w_move ⟨rfl, rfl⟩) ?_
                 refine Dp (w_move ⟨rfl, rfl⟩) ?_
                 refine Dp (w_move ⟨rfl, rfl⟩) ?_
                 have st261 : Stp h64 g125 h78 g137 h249 := st170.turn ((LeM.refl [i184] h162).butM bt250 (by simp)) (by simp only [List.mem_cons, List.not_mem_nil, or_false, forall_eq_or_imp, forall_eq]; exact .inr (TOk.slw o251 gi187 rfl (fun _ h => h)))
                 obtain ⟨cs268, l267, hc262, hl263, hk264, hE265, ht266⟩ := (sv42.le (le66.trans st261.ht.le)).atS (i := x75_135) (by omega) (by omega)
                 obtain ⟨_, _, rfl, ⟨n269, rfl, lon269, hin269⟩, rfl⟩ := hE265
                 refine Dp (w_indexAddrS tS28 tZ3 ⟨rfl, rfl⟩) ?_
                 refine Dp (w_ldC tC3 hc262 ⟨rfl, rfl⟩ (hv := cell_of_take0 ht266 rfl)) ?_
                 refine Dp (w_nilCheck_ptr ⟨rfl, rfl⟩) ?_
                 refine Dp (w_fieldAddr tF98_1 tZ95 ⟨rfl, rfl⟩) ?_
                 refine Dp (w_indexAddrA tR95 tZ94 ⟨rfl, rfl⟩) ?_
                 refine Dp (w_indexAddrA tR94 tZ3 ⟨rfl, rfl⟩) ?_
                 have o270 : h249.cells x18 = some cs207 := ((l2_4_140.trans st261.ht.le).cells hx220)
                 obtain ⟨n271, hv272, lon271, hin271⟩ := gx222 (4 + n150.toNat * 6 + n269.toNat * 1) (by omega) (by omega)
                 refine Dp (w_ldC tC3 o270 ⟨rfl, rfl⟩ (hv := hv272)) ?_
                 refine Dq (h₁ := h249) (w_subw ?_)
                 have rn273 := wrap_i64 (n260 - n271)
                 refine Po ?_
                 refine Dp (w_nilCheck_ptr ⟨rfl, rfl⟩) ?_
                 refine Dp (w_fieldAddr tF68_1 tZ3 ⟨rfl, rfl⟩) ?_
                 refine Da (h₁ := h249) (x_storeT (e := [.i, .i]) (k := ((k185 : Nat) : Int) + n181) (j := 1) tZ3 o251 ?_ (hoff := by show _ = _ * 2 + _; (try simp only [List.length_cons, List.length_nil]); omega) (hv := by exact ⟨_, rfl, by omega, by omega⟩))
                 intro h274 bt275 o276
                 replace o276 : SlW h274 i184 m186 2 (okTL h64 g137 [.i, .i]) := o276
                 refine Ao ?_
                 refine JD_end (effs := [18]) (fin := [(2, none), (3, none), (6, none), (8, none), (73, none), (74, none), (75, none)]) (slF := [(2, .slice (some (i158, o159)) m cq), (3, .ptr (some (i7, 0))), (6, .slice (some (i184, k185 * 2)) m74 c127), (8, .ptr (some (x18, 0))), (73, .slice (some (i148, o149)) n cp), (74, .int .i64 ((n : Nat) : Int)), (75, .int .i64 x75_135)]) rfl mixed (by kernel_rfl) (by kernel_rfl) rfl rfl ?_
                 refine Rg (Lo (w_add ?_))
                 refine Lz (w_move ?_)
                 have st277 : Stp h64 g125 h78 g137 h274 := st261.turn ((LeM.refl [i184] h249).butM bt275 (by simp)) (by simp only [List.mem_cons, List.not_mem_nil, or_false, forall_eq_or_imp, forall_eq]; exact .inr (TOk.slw o276 gi187 rfl (fun _ h => h)))
                 exact ⟨(x75_135 + 1), h274, g137, ⟨⟨(by omega), st277⟩, by omega⟩, rfl, rfl, rfl, rfl, rfl, rfl, rfl, rfl, rfl, rfl, trivial⟩
             · refine Ex ?_
               refine then_x (then_x (blk_eq rfl ?_))
               refine Sr (Lo (w_move ?_))
               refine Lo (w_assign ?_)
               refine Lz (w_assign ?_)
               refine Rt ?_
               refine leave_ret rfl ?_
               have l0_3_278 : Le h h35 := l0_2_33.trans le37
               have l0_4_279 : Le h h64 := l0_3_278.trans le66
               exact ⟨_, _, _, rfl, ((((st128.trans st138).frs (lk130.mono (st138.sub))).imp fun _ _ h => h).base l0_4_279), (by omega), (by omega), (l0_4_279.trans st138.ht.le)⟩
theorem c58 {hB h : AH} {v : AV} {n : Nat} {E : List AV → Prop} (hb : Bld hB h v n 1 E) : JCall Tryz.prog 58 [v] h (fun e h' => ∃ p, e = .ret (.slice p n (.exact n)) ∧ SlV h' p n 1 E ∧ (n = 0 → p = none ∨ ∃ id off cs, p = some (id, off) ∧ h'.cells id = some cs ∧ off ≤ cs.length) ∧ Le h h') := by
 rcases hb with ⟨rfl, rfl⟩ | ⟨i, cs, rfl, gr, nw, hl, el⟩
 · refine JCall_of_J (N := 9) (sl := [(0, _)]) isf58 rfl (by show 1 ≤ 9; decide) rfl ?_
   refine Sr (Lz (w_assign ?_))
   refine Sr (Lo (w_move ?_))
   refine Lo (w_move ?_)
   refine Lo (w_len tS28 ?_)
   refine Lo (w_move ?_)
   refine Lo (w_len tS28 ?_)
   refine Lo (w_sliceX (l := 0) (hi := (0 : Int).toNat) (m := (0 : Int).toNat) tS28 tZ3 ?_ (p2 := by simp <;> omega) (p3 := by simp <;> omega) (hnm := by exact fun _ => rfl))
   refine Lz (w_assign ?_)
   refine Rt ?_
   refine leave_ret rfl ?_
   exact ⟨none, rfl, SlV.zero, fun _ => .inl rfl, Le.refl _⟩
 · refine JCall_of_J (N := 9) (sl := [(0, _)]) isf58 rfl (by show 1 ≤ 9; decide) rfl ?_
   refine Sr (Lz (w_assign ?_))
   refine Sr (Lo (w_move ?_))
   refine Lo (w_move ?_)
   refine Lo (w_len tS28 ?_)
   refine Lo (w_move ?_)
   refine Lo (w_len tS28 ?_)
   refine Lo (x_sliceGM (hi := n) (m := n) tS28 tZ3 gr ?_)
   refine Lz (w_assign ?_)
   refine Rt ?_
   refine leave_ret rfl ?_
   exact ⟨_, rfl, ⟨fun h0 => ⟨_, _, _, rfl, gr.cells, by omega, fun k k0 k1 => by simpa using el k k0 k1⟩, fun _ => .inr ⟨_, _, _, rfl, gr.cells, Nat.zero_le _⟩, Le.refl _⟩⟩
theorem c27 {h : AH}  {bp : Option (Nat × Nat)} {bn : Nat} {cbp : Nat} {rp : Option (Nat × Nat)} {rn : Nat} {crp : Nat} {ep : Option (Nat × Nat)} {en : Nat} {cep : Nat} {qp : Option (Nat × Nat)} {qn : Nat} {cqp : Nat} (sbp : SlV h bp bn 5 (okL h [.str, .i, .i, .i, .bool])) (mbp : bn ≤ 1048576) (xbp : bn ≤ cbp) (srp : SlV h rp rn 2 (okL h [.str, .i])) (mrp : rn ≤ 1048576) (xrp : rn ≤ crp) (sep : SlV h ep en 2 (okL h [.i, .bool])) (mep : en ≤ 1048576) (xep : en ≤ cep) (sqp : SlV h qp qn 4 (okL h [.i, .i, .i, .i])) (mqp : qn ≤ 1048576) (xqp : qn ≤ cqp) : JCall Tryz.prog 27 [.agg [.slice bp bn (.exact cbp), .slice rp rn (.exact crp), .slice ep en (.exact cep), .slice qp qn (.exact cqp)]] h (fun e h' => ∃ (v : AV) (k : Nat) (er : Int), e = .ret (.tuple [v, .int .i64 er]) ∧ Frs h h' v k 1 (okL h' [.i]) ∧ k ≤ 1048576 ∧ ((-9223372036854775808) ≤ er ∧ er ≤ 9223372036854775807) ∧ Le h h') := by
 refine JCall_of_J (N := 32) (sl := [(0, _)]) isf27 rfl (by show 1 ≤ 32; decide) rfl ?_
 refine Sr (Lo (x_box (z := [.slice bp bn (.exact cbp), .slice rp rn (.exact crp), .slice ep en (.exact cep), .slice qp qn (.exact cqp)]) ?_))
 intro i5 h6 w7
 refine Lo (w_assign ?_)
 refine Lz (w_assign ?_)
 refine Sr (Lo (w_ldA (l := [.slice bp bn (.exact cbp), .slice rp rn (.exact crp), .slice ep en (.exact cep), .slice qp qn (.exact cqp)]) tA27 w7.own.cells ?_))
 refine Lo (w_call' isf46 ?_ (hR := by exact c46 (sbp.leL w7.le w7.le) (by omega) (by omega) (srp.leL w7.le w7.le) (by omega) (by omega) (sep.leL w7.le w7.le) (by omega) (by omega) (sqp.leL w7.le w7.le) (by omega) (by omega) SlV.zero (by omega)))
 rintro e8 h9 ⟨v10, n11, rfl, hbn11, le12, k13⟩
 refine Lo (w_move ?_)
 refine Lo (w_extract ?_)
 refine Lo (w_extract ?_)
 refine Lo (w_assign ?_)
 refine Lz (w_assign ?_)
 refine Sq (Sr ?_)
 refine Lo (w_move ?_)
 refine Lz (w_ne ?_)
 refine Cn (fun q14 => ?_) (fun q14 => ?_)
 · refine Sr (Lo (w_move ?_))
   refine Lo (w_assign ?_)
   refine Lz (w_assign ?_)
   refine Rt ?_
   refine then_r ?_
   refine leave_ret rfl ?_
   have l0_2_15 : Le h h9 := w7.le.trans le12
   exact ⟨_, _, _, rfl, Frs.nil, (by omega), (by omega), l0_2_15⟩
 · obtain ⟨x16, rfl, room17, sv18, sv19, sv20, sv21, sv22⟩ := k13 (by omega)
   obtain ⟨mbx16, mrx16, mex16, mqx16⟩ := room17.bounds
   refine Sk ?_
   refine Sq (Sr ?_)
   refine Lo (w_fieldAddr tF27_3 tZ25 ?_)
   have o27 : Own h9 i5 [.slice bp bn (.exact cbp), .slice rp rn (.exact crp), .slice ep en (.exact cep), .slice qp qn (.exact cqp)] := (w7.own.le le12)
   refine Lo (w_ldC tC25 o27.cells ?_)
   refine Lo (w_len tS25 ?_)
   refine Lz (w_move ?_)
   refine Bk ?_
   refine J_for4 (x := C27 [0, 0, 1, 0, 1, 1, 1]) (fun (x2_28 : AV) (m29 : Nat) (x18_31 : Int) (h33 : AH) => ⟨[(2, x2_28), (4, .ptr (some (x16, 0))), (17, .int .i64 ((qn : Nat) : Int)), (18, .int .i64 x18_31)], h33, 32, []⟩) (fun (x2_28 : AV) (m29 : Nat) (x18_31 : Int) (h33 : AH) => Bld h9 h33 x2_28 m29 1 (okL h9 [.int 0 ((qn : Int) - 1)]) ∧ 0 ≤ x18_31 ∧ (((m29 : Nat) : Int) ≤ x18_31 ∧ x18_31 ≤ qn) ∧ Le h9 h33) (fun (x2_28 : AV) (m29 : Nat) (x18_31 : Int) (h33 : AH) => (((qn : Nat) : Int) - x18_31).toNat) (.slice none 0 (.exact 0)) 0 0 h9 rfl ⟨rfl, rfl, rfl, rfl, rfl, rfl, rfl, trivial⟩ ⟨(Bld.nil), (by omega), (by omega), .refl _⟩ ?_
   intro x2_28 m29 x18_31 h33 hI
   obtain ⟨bl30, hxx18_31, iv32, le34⟩ : Bld h9 h33 x2_28 m29 1 (okL h9 [.int 0 ((qn : Int) - 1)]) ∧ 0 ≤ x18_31 ∧ (((m29 : Nat) : Int) ≤ x18_31 ∧ x18_31 ≤ qn) ∧ Le h9 h33 := hI
   show J _ _ (C27 [0, 0, 1, 0, 1, 1, 1]) ⟨[(2, x2_28), (4, .ptr (some (x16, 0))), (17, .int .i64 ((qn : Nat) : Int)), (18, .int .i64 x18_31)], h33, 32, []⟩ _
   refine Sr (Lz (w_lt ?_))
   refine Sq ?_
   refine Cn (fun q35 => ?_) (fun q35 => ?_)
   · refine Sk ?_
     refine Sq (Bk ?_)
     refine Sr (Lo (w_move ?_))
     refine Lz (w_assign ?_)
     refine Sr (Lo (w_move ?_))
     refine Lo (w_call' isf58 ?_ (hR := by exact c58 bl30))
     rintro e36 h37 ⟨p38, rfl, sv39, q40, le41⟩
     refine Lo (w_move ?_)
     refine Lo (x_buildSlice (out := [.int .i64 x18_31]) tS28 tZ3 tN3 ?_)
     intro i43 h44 w45
     have o46 : Own h37 i5 [.slice bp bn (.exact cbp), .slice rp rn (.exact crp), .slice ep en (.exact cep), .slice qp qn (.exact cqp)] := ((o27.le le34).le le41)
     have ne47 : i5 ≠ i43 := ne_of_free w45.free o46
     have l2_4_48 : Le h9 h37 := le34.trans le41
     have l2_5_49 : Le h9 h44 := l2_4_48.trans w45.le
     refine Lo (x_appendX (E := okL h44 [.int 0 ((qn : Int) - 1)]) tG28_28 (sv39.leL w45.le l2_5_49) (w45.own.slE rfl ⟨_, _, rfl, ⟨_, rfl, by omega, by omega⟩, rfl⟩) ?_ (hpq := by exact fun z => (q40 z).imp id fun ⟨a, b, c, h1, h2, h3⟩ => ⟨a, b, c, h1, w45.le.cells h2, h3⟩) (hq := by exact fun h => absurd h (by decide)))
     intro v50 h51 bl52 le53
     refine Lz (w_assign ?_)
     refine Sr (Lo (w_move ?_))
     refine Lo (w_move ?_)
     have l2_6_54 : Le h9 h51 := l2_5_49.trans le53
     obtain ⟨p55, c56, rfl, sv57⟩ := bl52.slc
     refine Lo (w_call' isf48 ?_ (hR := by exact c48 (room17.le l2_6_54) (sv57.leL (Le.refl _) le53) (by omega)))
     rintro e59 h60 ⟨b61, rfl, le62⟩
     refine Ln ?_
     refine Cb (fun q63 => ?_) (fun q63 => ?_)
     · subst q63
       refine Rg (Lo (w_move ?_))
       refine Lz (w_assign ?_)
       refine Rg (Lo (w_add ?_))
       refine Lz (w_move ?_)
       have l2_7_64 : Le h9 h60 := l2_6_54.trans le62
       exact ⟨(.slice p55 (m29 + 1) c56), (m29 + 1), (x18_31 + 1), h60, ⟨⟨(((bl52.le le62).base l2_5_49).imp fun _ _ h => h), (by omega), (by omega), l2_7_64⟩, by omega⟩, rfl, rfl, rfl, rfl, rfl, rfl, rfl, trivial⟩
     · subst q63
       refine Sk ?_
       refine Rg (Lo (w_add ?_))
       refine Lz (w_move ?_)
       have l2_7_65 : Le h9 h60 := l2_6_54.trans le62
       exact ⟨x2_28, m29, (x18_31 + 1), h60, ⟨⟨((((bl30.le le41).le w45.le).le le53).le le62), (by omega), (by omega), l2_7_65⟩, by omega⟩, rfl, rfl, rfl, rfl, rfl, rfl, rfl, trivial⟩
   · refine Ex ?_
     refine then_x (then_x (blk_eq rfl ?_))
     refine Sr (Lo (w_move ?_))
     refine Lo (w_assign ?_)
     refine Lz (w_assign ?_)
     refine Rt ?_
     refine leave_ret rfl ?_
     have l0_2_66 : Le h h9 := w7.le.trans le12
     have l0_3_67 : Le h h33 := l0_2_66.trans le34
     exact ⟨_, _, _, rfl, ((bl30.base l0_2_66).frs.imp (fun l _ hl => (by obtain ⟨_, _, rfl, ⟨m0, rfl, u0, v0⟩, rfl⟩ := hl; exact ⟨_, _, rfl, ⟨_, rfl, by omega, by omega⟩, rfl⟩))), (by omega), (by omega), l0_3_67⟩
theorem shl_pow {k : Nat} (h : k ≤ 8) : shlI .i64 1 (k : Int) = 2 ^ k := by
 rcases (show k = 0 ∨ k = 1 ∨ k = 2 ∨ k = 3 ∨ k = 4 ∨ k = 5 ∨ k = 6 ∨ k = 7 ∨ k = 8 by omega) with e | e | e | e | e | e | e | e | e <;> subst e <;> decide
theorem pow_le8 {k : Nat} (h : k ≤ 8) : ∃ N : Int, (2 : Int) ^ k = N ∧ 1 ≤ N ∧ N ≤ 256 := by
 rcases (show k = 0 ∨ k = 1 ∨ k = 2 ∨ k = 3 ∨ k = 4 ∨ k = 5 ∨ k = 6 ∨ k = 7 ∨ k = 8 by omega) with e | e | e | e | e | e | e | e | e <;> subst e <;> exact ⟨_, rfl, by decide, by decide⟩
theorem c84 {hB h : AH} {g : Sig}  {yv : AV} {Y : Bool → AH → Prop} {a b c d x bn rn en qn : Nat} {ofv wv : Int} {nfn : Fn} {nfa nfb : List AV} (ht : HT hB g h) (hroom : RoomOK hB x bn rn en qn) (mq : qn ≤ 8) (oa : Own hB a [.ptr (some (x, 0))]) (ob : Own hB b [.int .i64 ofv]) (oc : Own hB c [.int .i64 wv]) (od : Own hB d [.fn nfn nfa nfb]) (hnum : ∀ {h1 : AH} {p : Option (Nat × Nat)} {n : Nat} {c : Cap}, Le hB h1 → SlV h1 p n 1 (okL h1 [.int 0 ((qn : Int) - 1)]) → n ≤ 1048576 → JApp Tryz.prog (.fn nfn nfa nfb) [.slice p n c] h1 (fun e h2 => ∃ r : Int, e = .ret (.int .i64 r) ∧ ((-9223372036854775808) ≤ r ∧ r ≤ 9223372036854775807) ∧ Le h1 h2)) (hY : ∀ b h1 h2, Y b h1 → KeepOld h h1 h2 → Y b h2) (hy0 : Y true h) (hy : ∀ {g1 : Sig} {h1 : AH} {p : Option (Nat × Nat)} {n : Nat} {cp : Cap} {m : Int}, Stp hB g h g1 h1 → Y true h1 → LsK g1 [.int 0 ((qn : Int) - 1)] p n → n ≤ 400 → ((-9223372036854775808) ≤ m ∧ m ≤ 9223372036854775807) → JApp Tryz.prog yv [.slice p n cp, .int .i64 m] h1 (fun e h2 => ∃ b g2, e = .ret (.bool b) ∧ Stp hB g1 h1 g2 h2 ∧ Y b h2)) : JCall Tryz.prog 84 [yv, .ptr (some (a, 0)), .ptr (some (b, 0)), .ptr (some (c, 0)), .ptr (some (d, 0))] h (fun e h' => ∃ g' b, e = .ret (.tuple []) ∧ Stp hB g h g' h' ∧ Y b h') := by
 refine JCall_of_J (N := 43) (sl := [(0, _), (1, _), (2, _), (3, _), (4, _)]) isf84 rfl (by show 5 ≤ 43; decide) rfl ?_
 refine J_scope (x := C84 [0]) rfl ?_
 refine Sq ?_
 refine J_label rfl ?_
 refine Sr ?_
 have o1 : Own h a [.ptr (some (x, 0))] := (oa.le ht.refl.ht.le)
 refine Lo (w_ldC tC83 o1.cells ?_)
 refine Lo (w_nilCheck_ptr ?_)
 refine Lo (w_fieldAddr tF98_0 tZ27 ?_)
 refine Lo (w_fieldAddr tF27_3 tZ25 ?_)
 obtain ⟨cs2, bp3, rp4, ep5, qp6, cb7, cr8, ce9, cq10, ri11, f12, a13, gy14, hx15, lx16, gx17, ka18, kb19, kc20, kd21, ke22, o23, o224, o325, o426, ma27, mb28, mc29, md30, sa31, sb32, sc33, sd34⟩ := id hroom
 have o39 : h.cells x = some cs2 := (ht.refl.ht.le.cells hx15)
 refine Lo (w_ldC tC25 o39 ?_ (hv := kd21))
 refine Lo (w_len tS25 ?_)
 refine Lo (w_shl ?_)
 rw [shl_pow mq]
 obtain ⟨N, hpow, hN1, hN2⟩ := pow_le8 mq
 rw [hpow]
 refine Lz (w_move ?_)
 refine Bk ?_
 refine J_for3 (x := C84 [0, 0, 1, 1, 0]) (fun (x15_40 : Int) (h41 : AH) (g42 : Sig) => ⟨[(0, yv), (1, .ptr (some (a, 0))), (2, .ptr (some (b, 0))), (3, .ptr (some (c, 0))), (4, .ptr (some (d, 0))), (14, .int .i64 N), (15, .int .i64 x15_40)], h41, 43, []⟩) (fun (x15_40 : Int) (h41 : AH) (g42 : Sig) => 0 ≤ x15_40 ∧ Stp hB g h g42 h41 ∧ Y true h41) (fun (x15_40 : Int) (h41 : AH) (g42 : Sig) => (N - x15_40).toNat) 0 h g rfl ⟨rfl, rfl, rfl, rfl, rfl, rfl, rfl, rfl, rfl, rfl, trivial⟩ ⟨(by omega), (ht.refl.ht.refl), (hy0)⟩ ?_
 intro x15_40 h41 g42 hI
 obtain ⟨hxx15_40, st43, yb44⟩ : 0 ≤ x15_40 ∧ Stp hB g h g42 h41 ∧ Y true h41 := hI
 show J _ _ (C84 [0, 0, 1, 1, 0]) ⟨[(0, yv), (1, .ptr (some (a, 0))), (2, .ptr (some (b, 0))), (3, .ptr (some (c, 0))), (4, .ptr (some (d, 0))), (14, .int .i64 N), (15, .int .i64 x15_40)], h41, 43, []⟩ _
 refine Sr (Lz (w_lt ?_))
 refine Sq ?_
 refine Cn (fun q45 => ?_) (fun q45 => ?_)
 · refine Sk ?_
   refine Sq (Bk ?_)
   refine Sr (Lo (w_move ?_))
   refine Lz (w_assign ?_)
   refine Sq (Sr ?_)
   refine Lo (w_move ?_)
   have o46 : Own h41 b [.int .i64 ofv] := (ob.le st43.ht.le)
   refine Lo (w_ldC tC3 o46.cells ?_)
   refine Lo (w_andNot ?_)
   have rn47 := bit_i64 .andNot x15_40 ofv
   generalize bitI .andNot .i64 x15_40 ofv = n47 at rn47 ⊢
   refine Lo (w_ne ?_)
   refine Lo (w_move ?_)
   refine k_splitD (d := 22) rfl (fun q48 => ?_) (fun q48 => ?_)
   · refine Ws ?_
     refine Ws ?_
     refine Ws ?_
     refine Ws ?_
     refine Ws ?_
     refine Lz (w_pick_t ?_)
     refine Ct ?_
     refine Ex ?_
     refine then_x (blk_eq rfl ?_)
     refine Rg (Lo (w_add ?_))
     refine Lz (w_move ?_)
     exact ⟨(x15_40 + 1), h41, g42, ⟨⟨(by omega), st43, yb44⟩, by omega⟩, rfl, rfl, rfl, rfl, rfl, rfl, rfl, rfl, rfl, rfl, trivial⟩
   · refine Gl (w_move ?_)
     have o49 : Own h41 c [.int .i64 wv] := (oc.le st43.ht.le)
     refine Gl (w_ldC tC3 o49.cells ?_)
     refine Gl (w_and ?_)
     have rn50 := bit_i64 .and x15_40 wv
     generalize bitI .and .i64 x15_40 wv = n50 at rn50 ⊢
     refine Gl (w_ldC tC3 o49.cells ?_)
     refine Gl (w_ne ?_)
     refine Lz (w_pick_f ?_)
     refine Cn (fun q51 => ?_) (fun q51 => ?_)
     · refine Ex ?_
       refine then_x (blk_eq rfl ?_)
       refine Rg (Lo (w_add ?_))
       refine Lz (w_move ?_)
       exact ⟨(x15_40 + 1), h41, g42, ⟨⟨(by omega), st43, yb44⟩, by omega⟩, rfl, rfl, rfl, rfl, rfl, rfl, rfl, rfl, rfl, rfl, trivial⟩
     · refine Sk ?_
       refine Sr (Lo (w_move ?_))
       refine Lo (w_call' isf85 ?_ (hR := by exact c85 (k := qn) (by omega) (by omega) (by rw [hpow]; omega)))
       rintro e52 h53 ⟨v54, m55, rfl, bl56, le57, k58⟩
       refine Lz (w_assign ?_)
       refine Sq (Sr ?_)
       have st59 : Stp hB g h g42 h53 := st43.le le57
       have o60 : Own h53 a [.ptr (some (x, 0))] := (oa.le st59.ht.le)
       refine Lo (w_ldC tC83 o60.cells ?_)
       refine Lo (w_move ?_)
       obtain ⟨p61, c62, rfl, sv63⟩ := bl56.slc
       refine Lo (w_call' isf48 ?_ (hR := by exact c48 (hroom.le st59.ht.le) (sv63.leL (Le.refl _) le57) (by omega)))
       rintro e65 h66 ⟨b67, rfl, le68⟩
       refine Lz (w_not ?_)
       refine Cb (fun q69 => ?_) (fun q69 => ?_)
       · have q70 : b67 = false := by simpa using q69
         subst q70
         refine Ex ?_
         refine then_x (blk_eq rfl ?_)
         refine Rg (Lo (w_add ?_))
         refine Lz (w_move ?_)
         have st71 : Stp hB g h g42 h66 := st59.le le68
         have l2_4_72 : Le h41 h66 := le57.trans le68
         exact ⟨(x15_40 + 1), h66, g42, ⟨⟨(by omega), st71, (hY _ _ _ yb44 ((KeepOld.refl _ _).le l2_4_72))⟩, by omega⟩, rfl, rfl, rfl, rfl, rfl, rfl, rfl, rfl, rfl, rfl, trivial⟩
       · have q73 : b67 = true := by simpa using q69
         subst q73
         refine Sk ?_
         refine Sr (Lo (w_move ?_))
         refine Lo (w_move ?_)
         have st74 : Stp hB g h g42 h66 := st59.le le68
         have o75 : Own h66 d [.fn nfn nfa nfb] := (od.le st74.ht.le)
         refine Lo (w_ldC tC110 o75.cells ?_)
         refine Lo (w_move ?_)
         have l2_4_76 : Le h41 h66 := le57.trans le68
         refine Lo (w_callV' ?_ (hR := by exact hnum st74.ht.le (sv63.leL le68 l2_4_76) (by omega)))
         rintro e77 h78 ⟨n79, rfl, hbn79, le80⟩
         have st81 : Stp hB g h g42 h78 := st74.le le80
         obtain ⟨g82, st83, sl84, lk85, gx86⟩ := st81.regL2 (e := [.int 0 ((qn : Int) - 1)]) ((bl56.le le68).le le80) (fun _ n => st43.newN n) (fun _ _ n => st43.ht.un0 n.1) rfl (fun _ h => h)
         have l2_5_88 : Le h41 h78 := l2_4_76.trans le80
         refine Lo (w_callV' ?_ (hR := by exact hy (ht.refl.trans st83) (hY _ _ _ yb44 ((KeepOld.refl _ _).le l2_5_88)) lk85 (by omega) (by omega)))
         rintro e89 h90 ⟨b91, g92, rfl, sc93, yb94⟩
         have st95 := st83.trans sc93
         refine Lz (w_not ?_)
         refine Cb (fun q96 => ?_) (fun q96 => ?_)
         · have q97 : b91 = false := by simpa using q96
           subst q97
           refine Rt ?_
           refine blk_r (then_r (then_r (blk_r (scope_r ?_))))
           refine leave_ret rfl ?_
           exact ⟨_, _, rfl, (ht.refl.trans st95), yb94⟩
         · have q98 : b91 = true := by simpa using q96
           subst q98
           refine Sk ?_
           refine Rg (Lo (w_add ?_))
           refine Lz (w_move ?_)
           exact ⟨(x15_40 + 1), h90, g92, ⟨⟨(by omega), st95, yb94⟩, by omega⟩, rfl, rfl, rfl, rfl, rfl, rfl, rfl, rfl, rfl, rfl, trivial⟩
 · refine Ex ?_
   refine then_x (then_x (blk_eq rfl ?_))
   refine scope_n ?_
   refine leave_normal rfl ?_
   exact ⟨_, _, rfl, (ht.refl.trans st43), yb44⟩
theorem c62 {h : AH}  {x : Nat} {ofv : Int} {wv : Int} {nfn : Fn} {nfa nfb : List AV}  : JCall Tryz.prog 62 [.ptr (some (x, 0)), .int .i64 ofv, .int .i64 wv, .fn nfn nfa nfb] h (fun e h' => ∃ (a b c d : Nat), e = .ret (.fn (.func 84) [] [.ptr (some (a, 0)), .ptr (some (b, 0)), .ptr (some (c, 0)), .ptr (some (d, 0))]) ∧ Own h' a [.ptr (some (x, 0))] ∧ Own h' b [.int .i64 ofv] ∧ Own h' c [.int .i64 wv] ∧ Own h' d [.fn nfn nfa nfb] ∧ Le h h') := by
 refine JCall_of_J (N := 10) (sl := [(0, _), (1, _), (2, _), (3, _)]) isf62 rfl (by show 4 ≤ 10; decide) rfl ?_
 refine Sr (Lo (x_box (z := [.ptr (some (x, 0))]) ?_))
 intro i1 h2 w3
 refine Lo (x_box (z := [.int .i64 ofv]) ?_)
 intro i4 h5 w6
 have ne7 : i1 ≠ i4 := ne_of_free w6.free w3.own
 refine Lo (x_box (z := [.int .i64 wv]) ?_)
 intro i8 h9 w10
 have o11 : Own h5 i1 [.ptr (some (x, 0))] := (w3.own.le w6.le)
 have ne12 : i1 ≠ i8 := ne_of_free w10.free o11
 have ne13 : i4 ≠ i8 := ne_of_free w10.free w6.own
 refine Lo (x_box (z := [.fn nfn nfa nfb]) ?_)
 intro i14 h15 w16
 have o17 : Own h9 i1 [.ptr (some (x, 0))] := (o11.le w10.le)
 have ne18 : i1 ≠ i14 := ne_of_free w16.free o17
 have o19 : Own h9 i4 [.int .i64 ofv] := (w6.own.le w10.le)
 have ne20 : i4 ≠ i14 := ne_of_free w16.free o19
 have ne21 : i8 ≠ i14 := ne_of_free w16.free w10.own
 refine Lz (w_assign ?_)
 refine Sr (Lo (w_makeFunc ?_))
 refine Lz (w_assign ?_)
 refine Rt ?_
 refine leave_ret rfl ?_
 have o22 : Own h15 i1 [.ptr (some (x, 0))] := (o17.le w16.le)
 have o23 : Own h15 i4 [.int .i64 ofv] := (o19.le w16.le)
 have o24 : Own h15 i8 [.int .i64 wv] := (w10.own.le w16.le)
 have l0_2_25 : Le h h5 := w3.le.trans w6.le
 have l0_3_26 : Le h h9 := l0_2_25.trans w10.le
 have l0_4_27 : Le h h15 := l0_3_26.trans w16.le
 exact ⟨i1, i4, i8, i14, rfl, o22, o23, o24, w16.own, l0_4_27⟩
theorem c61 {h : AH}  {a b c d x bn rn en qn : Nat} {ofv wv : Int} {nfn : Fn} {nfa nfb : List AV} {cfn : Fn} {cfa cfb : List AV} (hroom : RoomOK h x bn rn en qn) (mq : qn ≤ 8) (oa : Own h a [.ptr (some (x, 0))]) (ob : Own h b [.int .i64 ofv]) (oc : Own h c [.int .i64 wv]) (od : Own h d [.fn nfn nfa nfb]) (hnum : ∀ {h1 : AH} {p : Option (Nat × Nat)} {n : Nat} {c : Cap}, Le h h1 → SlV h1 p n 1 (okL h1 [.int 0 ((qn : Int) - 1)]) → n ≤ 1048576 → JApp Tryz.prog (.fn nfn nfa nfb) [.slice p n c] h1 (fun e h2 => ∃ r : Int, e = .ret (.int .i64 r) ∧ ((-9223372036854775808) ≤ r ∧ r ≤ 9223372036854775807) ∧ Le h1 h2)) (hcmp : ∀ {h1 : AH} {p q : Option (Nat × Nat)} {n m : Nat} {c d : Cap}, Le h h1 → SlV h1 p n 1 (okL h1 [.int 0 ((qn : Int) - 1)]) → n ≤ 1048576 → SlV h1 q m 1 (okL h1 [.int 0 ((qn : Int) - 1)]) → m ≤ 1048576 → JApp Tryz.prog (.fn cfn cfa cfb) [.slice p n c, .slice q m d] h1 (fun e h2 => ∃ r : Int, e = .ret (.int .i64 r) ∧ Le h1 h2)) : JCall Tryz.prog 61 [.fn (.func 84) [] [.ptr (some (a, 0)), .ptr (some (b, 0)), .ptr (some (c, 0)), .ptr (some (d, 0))], .fn cfn cfa cfb] h (fun e h' => ∃ (v : AV) (k : Nat) (m : Int), e = .ret (.tuple [v, .int .i64 m]) ∧ Frs h h' v k 1 (okL h' [.int 0 ((qn : Int) - 1)]) ∧ k ≤ 1048576 ∧ ((-9223372036854775808) ≤ m ∧ m ≤ 9223372036854775807) ∧ Le h h') := by
 refine JCall_of_J (N := 30) (sl := [(0, _), (1, _)]) isf61 rfl (by show 2 ≤ 30; decide) rfl ?_
 refine Sr (Lo (x_box (z := [.fn cfn cfa cfb]) ?_))
 intro i1 h2 w3
 have ne4 : a ≠ i1 := ne_of_free w3.free oa
 have ne5 : b ≠ i1 := ne_of_free w3.free ob
 have ne6 : c ≠ i1 := ne_of_free w3.free oc
 have ne7 : d ≠ i1 := ne_of_free w3.free od
 have u8 : Sig.nil i1 = none := (HT.start h).refl.ht.un0 w3.free
 refine Lo (x_alloc (zc := [.slice none 0 (.exact 0)]) tN28 ?_)
 intro i9 h10 w11
 have o12 : Own h2 a [.ptr (some (x, 0))] := (oa.le w3.le)
 have ne13 : a ≠ i9 := ne_of_free w11.free o12
 have o14 : Own h2 b [.int .i64 ofv] := (ob.le w3.le)
 have ne15 : b ≠ i9 := ne_of_free w11.free o14
 have o16 : Own h2 c [.int .i64 wv] := (oc.le w3.le)
 have ne17 : c ≠ i9 := ne_of_free w11.free o16
 have o18 : Own h2 d [.fn nfn nfa nfb] := (od.le w3.le)
 have ne19 : d ≠ i9 := ne_of_free w11.free o18
 have ne20 : i1 ≠ i9 := ne_of_free w11.free w3.own
 have u21 : Sig.nil i9 = none := (HT.start h).refl.ht.un0 (w3.le.free w11.free)
 refine Lz (x_alloc (zc := [.int .i64 0]) tN3 ?_)
 intro i22 h23 w24
 have o25 : Own h10 a [.ptr (some (x, 0))] := (o12.le w11.le)
 have ne26 : a ≠ i22 := ne_of_free w24.free o25
 have o27 : Own h10 b [.int .i64 ofv] := (o14.le w11.le)
 have ne28 : b ≠ i22 := ne_of_free w24.free o27
 have o29 : Own h10 c [.int .i64 wv] := (o16.le w11.le)
 have ne30 : c ≠ i22 := ne_of_free w24.free o29
 have o31 : Own h10 d [.fn nfn nfa nfb] := (o18.le w11.le)
 have ne32 : d ≠ i22 := ne_of_free w24.free o31
 have o33 : Own h10 i1 [.fn cfn cfa cfb] := (w3.own.le w11.le)
 have ne34 : i1 ≠ i22 := ne_of_free w24.free o33
 have ne35 : i9 ≠ i22 := ne_of_free w24.free w11.own
 have l0_2_37 : Le h h10 := w3.le.trans w11.le
 have u36 : Sig.nil i22 = none := (HT.start h).refl.ht.un0 (l0_2_37.free w24.free)
 refine Sr (Lz (x_store (vc := [.int .i64 (-1)]) (cs' := [.int .i64 (-1)]) tZ3 w24.own ?_))
 intro h38 bt39 o40
 refine Sq (Sr ?_)
 refine Lz (w_move ?_)
 refine Bk ?_
 have o41 : Own h38 i9 [.slice none 0 (.exact 0)] := ((w11.own.le w24.le).but bt39 ne35)
 have l0_3_42 : Le h h23 := l0_2_37.trans w24.le
 have l0_4_43 : Le h h38 := l0_3_42.but bt39 (l0_2_37.free w24.free)
 have st44 : Stp h Sig.nil h Sig.nil h38 := (HT.start h).refl.le l0_4_43
 obtain ⟨g45, st46, sl47, gc48, gx49⟩ := st44.regO (ts := [.ls [.int 0 ((qn : Int) - 1)] 0 1048576]) ((HT.start h).refl.newN ⟨(w3.le.free w11.free), Nat.le_trans w3.le.next w11.ge⟩) u21 o41 ⟨_, _, rfl, ⟨_, _, _, rfl, by omega, by omega, .inl ⟨rfl, rfl⟩⟩, rfl⟩
 obtain ⟨g50, st51, sl52, gc53, gx54⟩ := st46.regO (ts := [.i]) ((HT.start h).refl.newN ⟨(l0_2_37.free w24.free), Nat.le_trans (Nat.le_trans w3.le.next w11.le.next) w24.ge⟩) ((gx49 _ ne35.symm).trans u36) o40 ⟨_, _, rfl, ⟨_, rfl, by omega, by omega⟩, rfl⟩
 refine J_wf fun hw55 => ?_
 refine J_range_outer (ps := #[9, 10]) (assign := C61 [0, 0, 1, 0, 1, 1]) (body := C61 [1, 0, 1, 0, 1, 1]) (sl' := [(3, .ptr (some (i1, 0))), (4, .ptr (some (i9, 0))), (5, .ptr (some (i22, 0)))]) rfl rfl isf84 ⟨rfl, rfl, rfl, trivial⟩ ?_
 intro m56 l57 h61 en60
 obtain ⟨h62, nm58, nl59⟩ := en60.news hw55.2.1
 have o63 : Own h38 a [.ptr (some (x, 0))] := ((o25.le w24.le).but bt39 ne26)
 have ne64 : a ≠ m56 := ne_of_free nm58.free o63
 have o65 : Own h38 b [.int .i64 ofv] := ((o27.le w24.le).but bt39 ne28)
 have ne66 : b ≠ m56 := ne_of_free nm58.free o65
 have o67 : Own h38 c [.int .i64 wv] := ((o29.le w24.le).but bt39 ne30)
 have ne68 : c ≠ m56 := ne_of_free nm58.free o67
 have o69 : Own h38 d [.fn nfn nfa nfb] := ((o31.le w24.le).but bt39 ne32)
 have ne70 : d ≠ m56 := ne_of_free nm58.free o69
 have o71 : Own h38 i1 [.fn cfn cfa cfb] := ((o33.le w24.le).but bt39 ne34)
 have ne72 : i1 ≠ m56 := ne_of_free nm58.free o71
 have ne73 : i9 ≠ m56 := ne_of_free nm58.free o41
 have ne74 : i22 ≠ m56 := ne_of_free nm58.free o40
 have u75 : g50 m56 = none := st51.ht.un0 nm58.free
 have o76 : Own h62 a [.ptr (some (x, 0))] := (o63.le nm58.le)
 have ne77 : a ≠ l57 := ne_of_free nl59.free o76
 have o78 : Own h62 b [.int .i64 ofv] := (o65.le nm58.le)
 have ne79 : b ≠ l57 := ne_of_free nl59.free o78
 have o80 : Own h62 c [.int .i64 wv] := (o67.le nm58.le)
 have ne81 : c ≠ l57 := ne_of_free nl59.free o80
 have o82 : Own h62 d [.fn nfn nfa nfb] := (o69.le nm58.le)
 have ne83 : d ≠ l57 := ne_of_free nl59.free o82
 have o84 : Own h62 i1 [.fn cfn cfa cfb] := (o71.le nm58.le)
 have ne85 : i1 ≠ l57 := ne_of_free nl59.free o84
 have o86 : Own h62 i9 [.slice none 0 (.exact 0)] := (o41.le nm58.le)
 have ne87 : i9 ≠ l57 := ne_of_free nl59.free o86
 have o88 : Own h62 i22 [.int .i64 (-1)] := (o40.le nm58.le)
 have ne89 : i22 ≠ l57 := ne_of_free nl59.free o88
 have ne90 : m56 ≠ l57 := ne_of_free nl59.free nm58.get
 have u91 : g50 l57 = none := st51.ht.un0 (nm58.le.free nl59.free)
 have l4_6_92 : Le h38 h61 := nm58.le.trans nl59.le
 have st93 : Stp h Sig.nil h g50 h61 := st51.le l4_6_92
 obtain ⟨g94, st95, sl96, gc97, gx98⟩ := st93.reg (ct := .raw (fun c => ∃ st pd, c = Chunk.loop st pd [(3, .ptr (some (i1, 0))), (4, .ptr (some (i9, 0))), (5, .ptr (some (i22, 0)))] 30 #[9, 10] (C61 [0, 0, 1, 0, 1, 1]) (C61 [1, 0, 1, 0, 1, 1]) m56)) (st51.newN ⟨(nm58.le.free nl59.free), Nat.le_trans nm58.le.next nl59.ge⟩) u91 nl59.get ⟨_, _, rfl⟩
 have hy99 : ∀ {g1 : Sig} {h1 : AH} {p : Option (Nat × Nat)} {n : Nat} {cp : Cap} {m : Int}, Stp h g94 h61 g1 h1 → (RY l57 (fun st pd => Chunk.loop st pd [(3, .ptr (some (i1, 0))), (4, .ptr (some (i9, 0))), (5, .ptr (some (i22, 0)))] 30 #[9, 10] (C61 [0, 0, 1, 0, 1, 1]) (C61 [1, 0, 1, 0, 1, 1]) m56) (fun _ => False)) true h1 → LsK g1 [.int 0 ((qn : Int) - 1)] p n → n ≤ 400 → ((-9223372036854775808) ≤ m ∧ m ≤ 9223372036854775807) → JApp Tryz.prog (.yield l57) [.slice p n cp, .int .i64 m] h1 (fun e h2 => ∃ b g2, e = .ret (.bool b) ∧ Stp h g1 h1 g2 h2 ∧ (RY l57 (fun st pd => Chunk.loop st pd [(3, .ptr (some (i1, 0))), (4, .ptr (some (i9, 0))), (5, .ptr (some (i22, 0)))] 30 #[9, 10] (C61 [0, 0, 1, 0, 1, 1]) (C61 [1, 0, 1, 0, 1, 1]) m56) (fun _ => False)) b h2) := by
  intro g100 h101 p104 n105 c106 n109 st102 y103 lk107 hm108 hbn109
  have o110 : Own h61 a [.ptr (some (x, 0))] := (o76.le nl59.le)
  have o111 : Own h61 b [.int .i64 ofv] := (o78.le nl59.le)
  have o112 : Own h61 c [.int .i64 wv] := (o80.le nl59.le)
  have o113 : Own h61 d [.fn nfn nfa nfb] := (o82.le nl59.le)
  have o114 : Own h61 i1 [.fn cfn cfa cfb] := (o84.le nl59.le)
  have o115 : h61.get m56 = some (.mark) := (nl59.le.get _ _ nm58.get)
  have st116 := st95.trans st102
  have o117 : Own h101 a [.ptr (some (x, 0))] := (st102.own o110 ((gx98 _ ne77).trans ((gx54 _ ne26).trans ((gx49 _ ne13).trans (rfl : Sig.nil a = none)))))
  have u118 : g100 a = none := st102.un o110 ((gx98 _ ne77).trans ((gx54 _ ne26).trans ((gx49 _ ne13).trans (rfl : Sig.nil a = none))))
  have o119 : Own h101 b [.int .i64 ofv] := (st102.own o111 ((gx98 _ ne79).trans ((gx54 _ ne28).trans ((gx49 _ ne15).trans (rfl : Sig.nil b = none)))))
  have u120 : g100 b = none := st102.un o111 ((gx98 _ ne79).trans ((gx54 _ ne28).trans ((gx49 _ ne15).trans (rfl : Sig.nil b = none))))
  have o121 : Own h101 c [.int .i64 wv] := (st102.own o112 ((gx98 _ ne81).trans ((gx54 _ ne30).trans ((gx49 _ ne17).trans (rfl : Sig.nil c = none)))))
  have u122 : g100 c = none := st102.un o112 ((gx98 _ ne81).trans ((gx54 _ ne30).trans ((gx49 _ ne17).trans (rfl : Sig.nil c = none))))
  have o123 : Own h101 d [.fn nfn nfa nfb] := (st102.own o113 ((gx98 _ ne83).trans ((gx54 _ ne32).trans ((gx49 _ ne19).trans (rfl : Sig.nil d = none)))))
  have u124 : g100 d = none := st102.un o113 ((gx98 _ ne83).trans ((gx54 _ ne32).trans ((gx49 _ ne19).trans (rfl : Sig.nil d = none))))
  have o125 : Own h101 i1 [.fn cfn cfa cfb] := (st102.own o114 ((gx98 _ ne85).trans ((gx54 _ ne34).trans ((gx49 _ ne20).trans u8))))
  have u126 : g100 i1 = none := st102.un o114 ((gx98 _ ne85).trans ((gx54 _ ne34).trans ((gx49 _ ne20).trans u8)))
  have o127 : h101.get m56 = some (.mark) := (st102.keep _ _ ((gx98 _ ne90).trans u75) o115).1
  have u128 : g100 m56 = none := st102.un o115 ((gx98 _ ne90).trans u75)
  have yl130 : h101.get l57 = some (Chunk.loop .ready none [(3, .ptr (some (i1, 0))), (4, .ptr (some (i9, 0))), (5, .ptr (some (i22, 0)))] 30 #[9, 10] (C61 [0, 0, 1, 0, 1, 1]) (C61 [1, 0, 1, 0, 1, 1]) m56) := y103
  refine JApp_yield (pd := none) yl130 rfl (by decide) ?_
  show J _ _ (C61 [0, 0, 1, 0, 1, 1]) ⟨[(10, .int .i64 n109), (9, .slice p104 n105 c106), (3, .ptr (some (i1, 0))), (4, .ptr (some (i9, 0))), (5, .ptr (some (i22, 0)))], h101, 30, []⟩ _
  refine Sr (Lz (w_assign ?_))
  refine Rg (Lz (w_assign ?_))
  refine ⟨_, _, _, _, _, _, _, yl130, fun h131 sb132 => ?_⟩
  refine J_sub (s' := ⟨[(3, .ptr (some (i1, 0))), (4, .ptr (some (i9, 0))), (5, .ptr (some (i22, 0))), (6, .slice p104 n105 c106), (7, .int .i64 n109)], h131, 30, []⟩) ⟨rfl, rfl, rfl, rfl, rfl, rfl, rfl, rfl, trivial⟩ ?_
  refine Bk (Sr ?_)
  refine Lo (w_move ?_)
  have st133 : Stp h g100 h101 g100 h131 := st102.ht.refl.turn ((LeM.refl [l57] h101).butM sb132.but (by simp)) (by simp only [List.mem_cons, List.not_mem_nil, or_false, forall_eq_or_imp, forall_eq]; exact .inr (⟨_, _, ((st102.sub) _ _ gc97), sb132.get, ⟨_, _, rfl⟩⟩))
  obtain ⟨_, o134, ⟨_, _, rfl, ⟨n135, rfl, lon135, hin135⟩, rfl⟩⟩ := st133.ht.cells (((sl96.trans st102.sub)) _ _ gc53)
  refine Lo (w_ldC tC3 o134.cells ?_)
  refine Lo (w_gt ?_)
  refine Lo (w_move ?_)
  refine k_splitD (d := 14) rfl (fun q136 => ?_) (fun q136 => ?_)
  · refine Ws ?_
    refine Ws ?_
    refine Ws ?_
    refine Ws ?_
    refine Wu ?_
    refine Wu ?_
    refine Wu ?_
    refine Wu ?_
    refine Wu ?_
    refine Ws ?_
    refine Lz (w_pick_t ?_)
    refine Ct ?_
    refine Rg (Lo (w_move ?_))
    refine Lo (w_move ?_)
    obtain ⟨_, o137, ⟨_, _, rfl, ⟨p138, m139, c140, rfl, lom139, hmm139, lk141⟩, rfl⟩⟩ := st133.ht.cells ((((sl52.trans sl96).trans st102.sub)) _ _ gc48)
    replace lk141 : LsK g100 [.int 0 ((qn : Int) - 1)] p138 m139 := lk141
    refine Lo (x_store (vc := [.slice p104 n105 c106]) (cs' := [.slice p104 n105 c106]) tZ28 o137 ?_)
    intro h143 bt144 o145
    have o146 : Own h143 i22 [.int .i64 n135] := (o134.but bt144 ne35.symm)
    refine Lz (x_store (vc := [.int .i64 n109]) (cs' := [.int .i64 n109]) tZ3 o146 ?_)
    intro h147 bt148 o149
    have o152 : h147.get l57 = some (Chunk.loop .busy none [(3, .ptr (some (i1, 0))), (4, .ptr (some (i9, 0))), (5, .ptr (some (i22, 0)))] 30 #[9, 10] (C61 [0, 0, 1, 0, 1, 1]) (C61 [1, 0, 1, 0, 1, 1]) m56) := (bt148.get _ _ ne89.symm (bt144.get _ _ ne87.symm sb132.get))
    refine ⟨_, _, _, _, _, _, _, o152, fun h150 sb151 => ?_⟩
    have o153 : Own h150 i9 [.slice p104 n105 c106] := ((o145.but bt148 ne35).but sb151.but ne87)
    have o154 : Own h150 i22 [.int .i64 n109] := (o149.but sb151.but ne89)
    have st155 : Stp h g100 h101 g100 h150 := st133.turn ((((LeM.refl [i9, i22, l57] h131).butM bt144 (by simp)).butM bt148 (by simp)).butM sb151.but (by simp)) (by simp only [List.mem_cons, List.not_mem_nil, or_false, forall_eq_or_imp, forall_eq]; exact ⟨.inr (TOk.own o153 ((((sl52.trans sl96).trans st102.sub)) _ _ gc48) ⟨_, _, rfl, ⟨_, _, _, rfl, by omega, by omega, lk107⟩, rfl⟩), .inr (TOk.own o154 (((sl96.trans st102.sub)) _ _ gc53) ⟨_, _, rfl, ⟨_, rfl, by omega, by omega⟩, rfl⟩), .inr (⟨_, _, ((st102.sub) _ _ gc97), sb151.get, ⟨_, _, rfl⟩⟩)⟩)
    exact ⟨true, _, rfl, st155, sb151.get⟩
  · refine Gl (w_move ?_)
    refine Gl (w_ldC tC3 o134.cells ?_)
    refine Gl (w_eq ?_)
    refine Gl (w_move ?_)
    refine k_splitD (d := 18) rfl (fun q156 => ?_) (fun q156 => ?_)
    · have o157 : Own h131 i1 [.fn cfn cfa cfb] := (o125.but sb132.but ne85)
      refine Gl (w_ldC tC111 o157.cells ?_)
      refine Gl (w_move ?_)
      obtain ⟨_, o158, ⟨_, _, rfl, ⟨p159, m160, c161, rfl, lom160, hmm160, lk162⟩, rfl⟩⟩ := st133.ht.cells ((((sl52.trans sl96).trans st102.sub)) _ _ gc48)
      replace lk162 : LsK g100 [.int 0 ((qn : Int) - 1)] p159 m160 := lk162
      refine Gl (w_ldC tC28 o158.cells ?_)
      refine Gl (w_callV' ?_ (hR := by exact hcmp st133.ht.le ((st133.ht.sl lk107).imp (fun l _ hl => (by obtain ⟨_, _, rfl, z0, rfl⟩ := hl; exact ⟨_, _, rfl, z0, rfl⟩))) (by omega) ((st133.ht.sl lk162).imp (fun l _ hl => (by obtain ⟨_, _, rfl, z0, rfl⟩ := hl; exact ⟨_, _, rfl, z0, rfl⟩))) (by omega)))
      rintro e164 h165 ⟨n166, rfl, le167⟩
      refine Gl (w_lt ?_)
      refine Gl (w_pick_t ?_)
      refine Lz (w_pick_f ?_)
      refine Cn (fun q168 => ?_) (fun q168 => ?_)
      · refine Rg (Lo (w_move ?_))
        refine Lo (w_move ?_)
        have o169 : Own h165 i9 [.slice p159 m160 c161] := (o158.le le167)
        refine Lo (x_store (vc := [.slice p104 n105 c106]) (cs' := [.slice p104 n105 c106]) tZ28 o169 ?_)
        intro h170 bt171 o172
        have o173 : Own h170 i22 [.int .i64 n135] := ((o134.le le167).but bt171 ne35.symm)
        refine Lz (x_store (vc := [.int .i64 n109]) (cs' := [.int .i64 n109]) tZ3 o173 ?_)
        intro h174 bt175 o176
        have o179 : h174.get l57 = some (Chunk.loop .busy none [(3, .ptr (some (i1, 0))), (4, .ptr (some (i9, 0))), (5, .ptr (some (i22, 0)))] 30 #[9, 10] (C61 [0, 0, 1, 0, 1, 1]) (C61 [1, 0, 1, 0, 1, 1]) m56) := (bt175.get _ _ ne89.symm (bt171.get _ _ ne87.symm (le167.get _ _ sb132.get)))
        refine ⟨_, _, _, _, _, _, _, o179, fun h177 sb178 => ?_⟩
        have o180 : Own h177 i9 [.slice p104 n105 c106] := ((o172.but bt175 ne35).but sb178.but ne87)
        have o181 : Own h177 i22 [.int .i64 n109] := (o176.but sb178.but ne89)
        have st182 : Stp h g100 h101 g100 h177 := st133.turn (((((LeM.refl [i9, i22, l57] h131).le le167).butM bt171 (by simp)).butM bt175 (by simp)).butM sb178.but (by simp)) (by simp only [List.mem_cons, List.not_mem_nil, or_false, forall_eq_or_imp, forall_eq]; exact ⟨.inr (TOk.own o180 ((((sl52.trans sl96).trans st102.sub)) _ _ gc48) ⟨_, _, rfl, ⟨_, _, _, rfl, by omega, by omega, lk107⟩, rfl⟩), .inr (TOk.own o181 (((sl96.trans st102.sub)) _ _ gc53) ⟨_, _, rfl, ⟨_, rfl, by omega, by omega⟩, rfl⟩), .inr (⟨_, _, ((st102.sub) _ _ gc97), sb178.get, ⟨_, _, rfl⟩⟩)⟩)
        exact ⟨true, _, rfl, st182, sb178.get⟩
      · refine Sk ?_
        have o185 : h165.get l57 = some (Chunk.loop .busy none [(3, .ptr (some (i1, 0))), (4, .ptr (some (i9, 0))), (5, .ptr (some (i22, 0)))] 30 #[9, 10] (C61 [0, 0, 1, 0, 1, 1]) (C61 [1, 0, 1, 0, 1, 1]) m56) := (le167.get _ _ sb132.get)
        refine ⟨_, _, _, _, _, _, _, o185, fun h183 sb184 => ?_⟩
        have st186 : Stp h g100 h101 g100 h183 := st133.turn (((LeM.refl [l57] h131).le le167).butM sb184.but (by simp)) (by simp only [List.mem_cons, List.not_mem_nil, or_false, forall_eq_or_imp, forall_eq]; exact .inr (⟨_, _, ((st102.sub) _ _ gc97), sb184.get, ⟨_, _, rfl⟩⟩))
        exact ⟨true, _, rfl, st186, sb184.get⟩
    · refine Ws ?_
      refine Ws ?_
      refine Ws ?_
      refine Ws ?_
      refine Ws ?_
      refine Gl (w_pick_f ?_)
      refine Lz (w_pick_f ?_)
      refine Cf ?_
      refine Sk ?_
      refine ⟨_, _, _, _, _, _, _, sb132.get, fun h187 sb188 => ?_⟩
      have st189 : Stp h g100 h101 g100 h187 := st133.turn ((LeM.refl [l57] h131).butM sb188.but (by simp)) (by simp only [List.mem_cons, List.not_mem_nil, or_false, forall_eq_or_imp, forall_eq]; exact .inr (⟨_, _, ((st102.sub) _ _ gc97), sb188.get, ⟨_, _, rfl⟩⟩))
      exact ⟨true, _, rfl, st189, sb188.get⟩
 refine JCall.mono (c84 (Y := (RY l57 (fun st pd => Chunk.loop st pd [(3, .ptr (some (i1, 0))), (4, .ptr (some (i9, 0))), (5, .ptr (some (i22, 0)))] 30 #[9, 10] (C61 [0, 0, 1, 0, 1, 1]) (C61 [1, 0, 1, 0, 1, 1]) m56) (fun _ => False))) st95.ht hroom (by omega) oa ob oc od hnum (RY.keep fun e => by rw [nl59.get] at e; cases e) nl59.get hy99) ?_
 rintro e190 h191 ⟨g192, b193, rfl, sc194, yb195⟩
 have o196 : Own h61 a [.ptr (some (x, 0))] := (o76.le nl59.le)
 have o197 : Own h61 b [.int .i64 ofv] := (o78.le nl59.le)
 have o198 : Own h61 c [.int .i64 wv] := (o80.le nl59.le)
 have o199 : Own h61 d [.fn nfn nfa nfb] := (o82.le nl59.le)
 have o200 : Own h61 i1 [.fn cfn cfa cfb] := (o84.le nl59.le)
 have o201 : h61.get m56 = some (.mark) := (nl59.le.get _ _ nm58.get)
 have st202 := st95.trans sc194
 have o203 : Own h191 a [.ptr (some (x, 0))] := (sc194.own o196 ((gx98 _ ne77).trans ((gx54 _ ne26).trans ((gx49 _ ne13).trans (rfl : Sig.nil a = none)))))
 have u204 : g192 a = none := sc194.un o196 ((gx98 _ ne77).trans ((gx54 _ ne26).trans ((gx49 _ ne13).trans (rfl : Sig.nil a = none))))
 have o205 : Own h191 b [.int .i64 ofv] := (sc194.own o197 ((gx98 _ ne79).trans ((gx54 _ ne28).trans ((gx49 _ ne15).trans (rfl : Sig.nil b = none)))))
 have u206 : g192 b = none := sc194.un o197 ((gx98 _ ne79).trans ((gx54 _ ne28).trans ((gx49 _ ne15).trans (rfl : Sig.nil b = none))))
 have o207 : Own h191 c [.int .i64 wv] := (sc194.own o198 ((gx98 _ ne81).trans ((gx54 _ ne30).trans ((gx49 _ ne17).trans (rfl : Sig.nil c = none)))))
 have u208 : g192 c = none := sc194.un o198 ((gx98 _ ne81).trans ((gx54 _ ne30).trans ((gx49 _ ne17).trans (rfl : Sig.nil c = none))))
 have o209 : Own h191 d [.fn nfn nfa nfb] := (sc194.own o199 ((gx98 _ ne83).trans ((gx54 _ ne32).trans ((gx49 _ ne19).trans (rfl : Sig.nil d = none)))))
 have u210 : g192 d = none := sc194.un o199 ((gx98 _ ne83).trans ((gx54 _ ne32).trans ((gx49 _ ne19).trans (rfl : Sig.nil d = none))))
 have o211 : Own h191 i1 [.fn cfn cfa cfb] := (sc194.own o200 ((gx98 _ ne85).trans ((gx54 _ ne34).trans ((gx49 _ ne20).trans u8))))
 have u212 : g192 i1 = none := sc194.un o200 ((gx98 _ ne85).trans ((gx54 _ ne34).trans ((gx49 _ ne20).trans u8)))
 have o213 : h191.get m56 = some (.mark) := (sc194.keep _ _ ((gx98 _ ne90).trans u75) o201).1
 have u214 : g192 m56 = none := sc194.un o201 ((gx98 _ ne90).trans u75)
 cases b193 with
 | false =>
   exact yb195.elim fun _ q => q.1.elim
 | true =>
   refine rangeEnd_true yb195 ?_
   dsimp only
   have fr219 : h.get l57 = none := (w3.le.free (w11.le.free (w24.le.free (bt39.free ne89.symm (nm58.le.free nl59.free)))))
   obtain ⟨g215, st216, sA217, gx218⟩ := st202.drop ((sc194.sub) _ _ gc97) ((HT.start h).refl.ht.un0 fr219) fr219
   have gc220 : g215 i9 = some (.cells [.ls [.int 0 ((qn : Int) - 1)] 0 1048576]) := (gx218 _ ne87).trans ((((sl52.trans sl96).trans sc194.sub)) _ _ gc48)
   have gc221 : g215 i22 = some (.cells [.i]) := (gx218 _ ne89).trans (((sl96.trans sc194.sub)) _ _ gc53)
   refine Sq ?_
   obtain ⟨_, o222, ⟨_, _, rfl, ⟨p223, m224, c225, rfl, lom224, hmm224, lk226⟩, rfl⟩⟩ := st216.ht.cells gc220
   replace lk226 : LsK g215 [.int 0 ((qn : Int) - 1)] p223 m224 := lk226
   obtain ⟨_, o228, ⟨_, _, rfl, ⟨n229, rfl, lon229, hin229⟩, rfl⟩⟩ := st216.ht.cells gc221
   refine J_drawS (opsAt (C61 [0, 1, 1, 1])) [[(4, none)], [(5, none)], [(4, none), (28, some 0)], [(5, none), (29, some 1)]] ?_
   refine Dp (w_ldC tC28 o222.cells ⟨rfl, rfl⟩) ?_
   refine Dp (w_ldC tC3 o228.cells ⟨rfl, rfl⟩) ?_
   refine Da (x_store (vc := [.slice p223 m224 c225]) (cs' := [.slice p223 m224 c225]) tZ28 o222 ?_)
   intro h230 bt231 o232
   refine Ao ?_
   have o233 : Own h230 i22 [.int .i64 n229] := (o228.but bt231 ne35.symm)
   refine Da (h₁ := h230) (x_store (vc := [.int .i64 n229]) (cs' := [.int .i64 n229]) tZ3 o233 ?_)
   intro h234 bt235 o236
   refine Ao ?_
   have o237 : Own h230 i22 [.int .i64 n229] := (o228.but bt231 ne35.symm)
   refine Ra 1 1 (w_ldC tC3 o237.cells ⟨rfl, rfl⟩) ?_
   refine JD_end (effs := [2, 3]) (fin := [(4, none), (5, none)]) (slF := [(4, .ptr (some (i9, 0))), (5, .ptr (some (i22, 0)))]) rfl mixed (by kernel_rfl) (by kernel_rfl) rfl rfl ?_
   refine Rt ?_
   have o238 : h234.get m56 = some (.mark) := (bt235.get _ _ ne74.symm (bt231.get _ _ ne73.symm ((AH.drop_but (h := h191) (m := l57)).get _ _ ne90 o213)))
   have o239 : Own (h234.drop m56) i9 [.slice p223 m224 c225] := ((o232.but bt235 ne35).but (AH.drop_but (h := h234) (m := m56)) ne73)
   have o240 : Own (h234.drop m56) i22 [.int .i64 n229] := (o236.but (AH.drop_but (h := h234) (m := m56)) ne74)
   refine leave_retM o238 (resL_cons (resV_cell rfl o239.cells tC28 rfl) (resL_cons (resV_cell rfl o240.cells tC3 rfl) resL_nil)) ?_
   have fr241 : h.get m56 = none := (w3.le.free (w11.le.free (w24.le.free (bt39.free ne74.symm nm58.free))))
   have st242 : Stp h Sig.nil h g215 (h234.drop m56) := st216.turn ((((LeM.refl [i9, i22, m56] (h191.drop l57)).butM bt231 (by simp)).butM bt235 (by simp)).butM (AH.drop_but (h := h234) (m := m56)) (by simp)) (by simp only [List.mem_cons, List.not_mem_nil, or_false, forall_eq_or_imp, forall_eq]; exact ⟨.inr (TOk.own o239 gc220 ⟨_, _, rfl, ⟨_, _, _, rfl, by omega, by omega, lk226⟩, rfl⟩), .inr (TOk.own o240 gc221 ⟨_, _, rfl, ⟨_, rfl, by omega, by omega⟩, rfl⟩), .inl ⟨((gx218 _ ne90).trans u214), fr241⟩⟩)
   exact ⟨_, _, _, rfl, ((st242.frs lk226).imp fun _ _ h => h), (by omega), (by omega), st242.ht.le⟩
theorem c59 {h : AH}  {x bn rn en qn : Nat} (hroom : RoomOK h x bn rn en qn) : JCall Tryz.prog 59 [.ptr (some (x, 0))] h (fun e h' => ∃ (v : AV) (k : Nat) (m : Int), e = .ret (.tuple [v, .int .i64 m]) ∧ Frs h h' v k 1 (okL h' [.int 0 ((qn : Int) - 1)]) ∧ k ≤ 1048576 ∧ ((-9223372036854775808) ≤ m ∧ m ≤ 9223372036854775807) ∧ Le h h') := by
 refine JCall_of_J (N := 11) (sl := [(0, _)]) isf59 rfl (by show 1 ≤ 11; decide) rfl ?_
 obtain ⟨mbx, mrx, mex, mqx⟩ := hroom.bounds
 refine Sr (Lo (w_assign ?_))
 refine Lz (w_assign ?_)
 refine Sr (Lo (w_move ?_))
 refine Lo (w_move ?_)
 refine Lo (w_makeFunc ?_)
 refine Lo (w_call' isf62 ?_ (hR := by exact c62))
 rintro e1 h2 ⟨i3, i4, i5, i6, rfl, o7, o8, o9, o10, le11⟩
 refine Lo (w_call' isf61 ?_ (hR := by exact c61 (hroom.le le11) (by omega) o7 o8 o9 o10 (fun le sv hn => JApp_fn isf82 ((c82 ((hroom.le le11).le le) sv hn).mono fun e h2 ⟨r, k1, k2, k3⟩ => ⟨r, k1, by omega, k3⟩)) (fun le s1 n1 s2 n2 => JApp_fn isf65 ((c65 (s1.imp (fun l _ hl => (by obtain ⟨_, _, rfl, ⟨m0, rfl, u0, v0⟩, rfl⟩ := hl; exact ⟨_, _, rfl, ⟨_, rfl, by omega, by omega⟩, rfl⟩))) n1 (s2.imp (fun l _ hl => (by obtain ⟨_, _, rfl, ⟨m0, rfl, u0, v0⟩, rfl⟩ := hl; exact ⟨_, _, rfl, ⟨_, rfl, by omega, by omega⟩, rfl⟩))) n2).mono fun e h2 ⟨r, k1, _, k3⟩ => ⟨r, k1, k3⟩))))
 rintro e12 h13 ⟨v14, m15, n19, rfl, fr16, hmm15, hbn19, le20⟩
 obtain ⟨p17, c18, rfl, sv21, _⟩ := id fr16
 refine Lo (w_extract ?_)
 refine Lo (w_extract ?_)
 refine Lo (w_assign ?_)
 refine Lz (w_assign ?_)
 refine Rt ?_
 refine leave_ret rfl ?_
 have l0_2_23 : Le h h13 := le11.trans le20
 exact ⟨_, _, _, rfl, (fr16.base le11), (by omega), (by omega), l0_2_23⟩
theorem c30 {h : AH}  {bp : Option (Nat × Nat)} {bn : Nat} {cbp : Nat} {rp : Option (Nat × Nat)} {rn : Nat} {crp : Nat} {ep : Option (Nat × Nat)} {en : Nat} {cep : Nat} {qp : Option (Nat × Nat)} {qn : Nat} {cqp : Nat} (sbp : SlV h bp bn 5 (okL h [.str, .i, .i, .i, .bool])) (mbp : bn ≤ 1048576) (xbp : bn ≤ cbp) (srp : SlV h rp rn 2 (okL h [.str, .i])) (mrp : rn ≤ 1048576) (xrp : rn ≤ crp) (sep : SlV h ep en 2 (okL h [.i, .bool])) (mep : en ≤ 1048576) (xep : en ≤ cep) (sqp : SlV h qp qn 4 (okL h [.i, .i, .i, .i])) (mqp : qn ≤ 1048576) (xqp : qn ≤ cqp) : JCall Tryz.prog 30 [.agg [.slice bp bn (.exact cbp), .slice rp rn (.exact crp), .slice ep en (.exact cep), .slice qp qn (.exact cqp)]] h (fun e h' => ∃ (v : AV) (k : Nat) (m : Int) (er : Int), e = .ret (.tuple [v, .int .i64 m, .int .i64 er]) ∧ Frs h h' v k 1 (okL h' [.i]) ∧ k ≤ 1048576 ∧ ((-9223372036854775808) ≤ m ∧ m ≤ 9223372036854775807) ∧ ((-9223372036854775808) ≤ er ∧ er ≤ 9223372036854775807) ∧ Le h h') := by
 refine JCall_of_J (N := 21) (sl := [(0, _)]) isf30 rfl (by show 1 ≤ 21; decide) rfl ?_
 refine Sr (Lo (x_box (z := [.slice bp bn (.exact cbp), .slice rp rn (.exact crp), .slice ep en (.exact cep), .slice qp qn (.exact cqp)]) ?_))
 intro i5 h6 w7
 refine Lo (w_assign ?_)
 refine Lo (w_assign ?_)
 refine Lz (w_assign ?_)
 refine Sr (Lo (w_ldA (l := [.slice bp bn (.exact cbp), .slice rp rn (.exact crp), .slice ep en (.exact cep), .slice qp qn (.exact cqp)]) tA27 w7.own.cells ?_))
 refine Lo (w_call' isf46 ?_ (hR := by exact c46 (sbp.leL w7.le w7.le) (by omega) (by omega) (srp.leL w7.le w7.le) (by omega) (by omega) (sep.leL w7.le w7.le) (by omega) (by omega) (sqp.leL w7.le w7.le) (by omega) (by omega) SlV.zero (by omega)))
 rintro e8 h9 ⟨v10, n11, rfl, hbn11, le12, k13⟩
 refine Lo (w_move ?_)
 refine Lo (w_extract ?_)
 refine Lo (w_extract ?_)
 refine Lo (w_assign ?_)
 refine Lz (w_assign ?_)
 refine Sq (Sr ?_)
 refine Lo (w_move ?_)
 refine Lz (w_ne ?_)
 refine Cn (fun q14 => ?_) (fun q14 => ?_)
 · refine Sr (Lo (w_move ?_))
   refine Lo (w_assign ?_)
   refine Lo (w_assign ?_)
   refine Lz (w_assign ?_)
   refine Rt ?_
   refine then_r ?_
   refine leave_ret rfl ?_
   have l0_2_15 : Le h h9 := w7.le.trans le12
   exact ⟨_, _, _, _, rfl, Frs.nil, (by omega), (by omega), (by omega), l0_2_15⟩
 · obtain ⟨x16, rfl, room17, sv18, sv19, sv20, sv21, sv22⟩ := k13 (by omega)
   obtain ⟨mbx16, mrx16, mex16, mqx16⟩ := room17.bounds
   refine Sk ?_
   refine Sr (Lo (w_move ?_))
   refine Lo (w_call' isf59 ?_ (hR := by exact c59 room17))
   rintro e27 h28 ⟨v29, m30, n34, rfl, fr31, hmm30, hbn34, le35⟩
   obtain ⟨p32, c33, rfl, sv36, _⟩ := id fr31
   refine Lo (w_move ?_)
   refine Lo (w_extract ?_)
   refine Lo (w_extract ?_)
   refine Lo (w_assign ?_)
   refine Lz (w_assign ?_)
   refine Sr (Lo (w_move ?_))
   refine Lo (w_move ?_)
   refine Lo (w_assign ?_)
   refine Lo (w_assign ?_)
   refine Lz (w_assign ?_)
   refine Rt ?_
   refine leave_ret rfl ?_
   have l0_2_38 : Le h h9 := w7.le.trans le12
   have l0_3_39 : Le h h28 := l0_2_38.trans le35
   exact ⟨_, _, _, _, rfl, ((fr31.base l0_2_38).imp (fun l _ hl => (by obtain ⟨_, _, rfl, ⟨m0, rfl, u0, v0⟩, rfl⟩ := hl; exact ⟨_, _, rfl, ⟨_, rfl, by omega, by omega⟩, rfl⟩))), (by omega), (by omega), (by omega), l0_3_39⟩
theorem c63 {h : AH}  {p : Option (Nat × Nat)} {n : Nat} {cp : Cap} (sp : SlV h p n 1 (okL h [.i])) (mp : n ≤ 1048576) : JCall Tryz.prog 63 [.slice p n cp] h (fun e h' => ∃ (r : Int), e = .ret (.int .i64 r) ∧ (0 ≤ r ∧ r ≤ 1048576) ∧ Le h h') := by
 refine JCall_of_J (N := 5) (sl := [(0, _)]) isf63 rfl (by show 1 ≤ 5; decide) rfl ?_
 refine Sr (Lz (w_assign ?_))
 refine Sr (Lo (w_move ?_))
 refine Lo (w_len tS28 ?_)
 refine Lz (w_assign ?_)
 refine Rt ?_
 refine leave_ret rfl ?_
 exact ⟨_, rfl, (by omega), (Le.refl _)⟩
theorem c64 {h : AH}  {p : Option (Nat × Nat)} {n : Nat} {cp : Cap} {q : Option (Nat × Nat)} {m : Nat} {cq : Cap} {gb : Nat} {u : Option (Nat × Nat)} {w : Nat} {cu : Cap} (sp : SlV h p n 1 (okL h [.i])) (mp : n ≤ 1048576) (sq : SlV h q m 1 (okL h [.i])) (mq : m ≤ 1048576) (su : SlV h u w 1 (okL h [.i])) (mu : w ≤ 1048576) (ogb : Own h gb [.slice u w cu]) : JCall Tryz.prog 64 [.slice p n cp, .slice q m cq, .ptr (some (gb, 0))] h (fun e h' => ∃ (r : Int), e = .ret (.int .i64 r) ∧ Le h h') := by
 refine JCall_of_J (N := 13) (sl := [(0, _), (1, _), (2, _)]) isf64 rfl (by show 3 ≤ 13; decide) rfl ?_
 refine Sr (Lz (w_assign ?_))
 refine Sq ?_
 refine J_drawS (opsAt (C64 [0, 1])) [[(2, none)], [(0, none)], [(6, some 0), (7, some 1)], [(2, none)], [(1, none)], [(9, some 3), (10, some 4)], [(8, some 2), (11, some 5)], [(12, some 6)]] ?_
 refine Dp (w_ldC tC28 ogb.cells ⟨rfl, rfl⟩) ?_
 refine Dp (w_move ⟨rfl, rfl⟩) ?_
 refine De (h₁ := h) (w_call' isf66 ?_ (hR := by exact c66 (su.leL (Le.refl _) (Le.refl _)) (by omega) (sp.leL (Le.refl _) (Le.refl _)) (by omega)))
 rintro e4 h5 ⟨v6, m7, rfl, bl8, le9, k10⟩
 refine Eo ?_
 have o11 : Own h5 gb [.slice u w cu] := (ogb.le le9)
 refine Dp (w_ldC tC28 o11.cells ⟨rfl, rfl⟩) ?_
 refine Dp (w_move ⟨rfl, rfl⟩) ?_
 refine De (h₁ := h5) (w_call' isf66 ?_ (hR := by exact c66 (su.leL le9 le9) (by omega) (sq.leL le9 le9) (by omega)))
 rintro e12 h13 ⟨v14, m15, rfl, bl16, le17, k18⟩
 refine Eo ?_
 obtain ⟨p19, c20, rfl, sv21⟩ := (bl8.le le17).slc
 have l0_2_23 : Le h h13 := le9.trans le17
 obtain ⟨p24, c25, rfl, sv26⟩ := bl16.slc
 refine De (h₁ := h13) (w_call' isf65 ?_ (hR := by exact c65 (sv21.leL (Le.refl _) l0_2_23) (by omega) (sv26.leL (Le.refl _) le17) (by omega)))
 rintro e28 h29 ⟨n30, rfl, hbn30, le31⟩
 refine Eo ?_
 refine Dp (w_assign ⟨rfl, rfl⟩) ?_
 refine Ra 3 0 (w_ldC tC28 ogb.cells ⟨rfl, rfl⟩) ?_
 refine Ra 4 0 (w_move ⟨rfl, rfl⟩) ?_
 refine JD_end (effs := [2, 5, 6]) (fin := [(5, some 7)]) (slF := [(5, .int .i64 n30)]) rfl mixed (by kernel_rfl) (by kernel_rfl) rfl rfl ?_
 refine Rt ?_
 refine leave_ret rfl ?_
 have l0_3_32 : Le h h29 := l0_2_23.trans le31
 exact ⟨_, rfl, l0_3_32⟩
theorem c33 {h : AH}  {bp : Option (Nat × Nat)} {bn : Nat} {cbp : Nat} {rp : Option (Nat × Nat)} {rn : Nat} {crp : Nat} {ep : Option (Nat × Nat)} {en : Nat} {cep : Nat} {qp : Option (Nat × Nat)} {qn : Nat} {cqp : Nat} {p : Option (Nat × Nat)} {n : Nat} {cp : Cap} {rq : Int} (sbp : SlV h bp bn 5 (okL h [.str, .i, .i, .i, .bool])) (mbp : bn ≤ 1048576) (xbp : bn ≤ cbp) (srp : SlV h rp rn 2 (okL h [.str, .i])) (mrp : rn ≤ 1048576) (xrp : rn ≤ crp) (sep : SlV h ep en 2 (okL h [.i, .bool])) (mep : en ≤ 1048576) (xep : en ≤ cep) (sqp : SlV h qp qn 4 (okL h [.i, .i, .i, .i])) (mqp : qn ≤ 1048576) (xqp : qn ≤ cqp) (sp : SlV h p n 1 (okL h [.i])) (mp : n ≤ 1048576) (brq : (-9223372036854775808) ≤ rq ∧ rq ≤ 9223372036854775807) : JCall Tryz.prog 33 [.agg [.slice bp bn (.exact cbp), .slice rp rn (.exact crp), .slice ep en (.exact cep), .slice qp qn (.exact cqp)], .slice p n cp, .int .i64 rq] h (fun e h' => ∃ (v : AV) (k : Nat) (er : Int), e = .ret (.tuple [v, .int .i64 er]) ∧ Frs h h' v k 1 (okL h' [.i]) ∧ k ≤ 1048576 ∧ ((-9223372036854775808) ≤ er ∧ er ≤ 9223372036854775807) ∧ Le h h') := by
 refine JCall_of_J (N := 75) (sl := [(0, _), (1, _), (2, _)]) isf33 rfl (by show 3 ≤ 75; decide) rfl ?_
 refine Sr (Lo (x_box (z := [.slice bp bn (.exact cbp), .slice rp rn (.exact crp), .slice ep en (.exact cep), .slice qp qn (.exact cqp)]) ?_))
 intro i6 h7 w8
 refine Lo (x_box (z := [.slice p n cp]) ?_)
 intro i9 h10 w11
 have ne12 : i6 ≠ i9 := ne_of_free w11.free w8.own
 refine Lo (w_assign ?_)
 refine Lz (w_assign ?_)
 refine Sr ?_
 have o13 : Own h10 i6 [.slice bp bn (.exact cbp), .slice rp rn (.exact crp), .slice ep en (.exact cep), .slice qp qn (.exact cqp)] := (w8.own.le w11.le)
 refine Lo (w_ldA (l := [.slice bp bn (.exact cbp), .slice rp rn (.exact crp), .slice ep en (.exact cep), .slice qp qn (.exact cqp)]) tA27 o13.cells ?_)
 refine Lo (w_ldC tC28 w11.own.cells ?_)
 have l0_2_14 : Le h h10 := w8.le.trans w11.le
 refine Lo (w_call' isf46 ?_ (hR := by exact c46 (sbp.leL l0_2_14 l0_2_14) (by omega) (by omega) (srp.leL l0_2_14 l0_2_14) (by omega) (by omega) (sep.leL l0_2_14 l0_2_14) (by omega) (by omega) (sqp.leL l0_2_14 l0_2_14) (by omega) (by omega) (sp.leL l0_2_14 l0_2_14) (by omega)))
 rintro e15 h16 ⟨v17, n18, rfl, hbn18, le19, k20⟩
 refine Lo (w_move ?_)
 refine Lo (w_extract ?_)
 refine Lo (w_extract ?_)
 refine Lo (w_assign ?_)
 refine Lz (w_assign ?_)
 refine Sq (Bk ?_)
 refine Sr (Lo (w_move ?_))
 refine Lo (w_ne ?_)
 refine Lz (w_assign ?_)
 refine Cn (fun q21 => ?_) (fun q21 => ?_)
 · refine Sr (Lo (w_move ?_))
   refine Lo (w_assign ?_)
   refine Lz (w_assign ?_)
   refine Rt ?_
   refine blk_r (then_r ?_)
   refine leave_ret rfl ?_
   have l0_3_22 : Le h h16 := l0_2_14.trans le19
   exact ⟨_, _, _, rfl, Frs.nil, (by omega), (by omega), l0_3_22⟩
 · obtain ⟨x23, rfl, room24, sv25, sv26, sv27, sv28, sv29⟩ := k20 (by omega)
   obtain ⟨mbx23, mrx23, mex23, mqx23⟩ := room24.bounds
   refine Sr (Lo (w_fieldAddr tF27_3 tZ25 ?_))
   have o35 : Own h16 i6 [.slice bp bn (.exact cbp), .slice rp rn (.exact crp), .slice ep en (.exact cep), .slice qp qn (.exact cqp)] := (o13.le le19)
   refine Lo (w_ldC tC25 o35.cells ?_)
   refine Lo (w_len tS25 ?_)
   refine Lo (w_sub ?_)
   refine Lo (w_move ?_)
   refine Lo (x_buildSlice (out := [.int .i64 rq]) tS28 tZ3 tN3 ?_)
   intro i36 h37 w38
   have ne39 : i6 ≠ i36 := ne_of_free w38.free o35
   have o40 : Own h16 i9 [.slice p n cp] := (w11.own.le le19)
   have ne41 : i9 ≠ i36 := ne_of_free w38.free o40
   refine Lo (w_call' isf43 ?_ (hR := by exact c43 (w38.own.sl1 rfl (by simp only [List.mem_cons, List.not_mem_nil, or_false, forall_eq_or_imp, forall_eq, okL, okV]; exact ⟨_, _, rfl, ⟨_, rfl, by omega, by omega⟩, rfl⟩)) (by omega)))
   rintro e42 h43 ⟨b44, rfl, le45, k46⟩
   refine Lz (w_assign ?_)
   refine Cb (fun q47 => ?_) (fun q47 => ?_)
   · subst q47
     refine Sr (Lo (w_assign ?_))
     refine Lz (w_assign ?_)
     refine Rt ?_
     refine blk_r (then_r ?_)
     refine leave_ret rfl ?_
     have l0_3_48 : Le h h16 := l0_2_14.trans le19
     have l0_4_49 : Le h h37 := l0_3_48.trans w38.le
     have l0_5_50 : Le h h43 := l0_4_49.trans le45
     exact ⟨_, _, _, rfl, Frs.nil, (by omega), (by omega), l0_5_50⟩
   · subst q47
     have o51 : Own h43 i36 [.int .i64 rq] := (w38.own.le le45)
     have sv52 := SlV.le (k46 rfl) (Le.refl _)
     have r53 := okL1_int (sv52.ofOwn o51 (k := 0) (by decide) rfl)
     refine Sr ?_
     have o54 : Own h43 i9 [.slice p n cp] := ((o40.le w38.le).le le45)
     refine Lo (w_ldC tC28 o54.cells ?_)
     refine Lo (w_move ?_)
     have l3_5_55 : Le h16 h43 := w38.le.trans le45
     refine Lo (w_call' isf60 ?_ (hR := by exact c60 ((sv25.leL l3_5_55 l3_5_55).imp (fun l _ hl => (by obtain ⟨_, _, rfl, ⟨m0, rfl, u0, v0⟩, rfl⟩ := hl; exact ⟨_, _, rfl, ⟨_, rfl, by omega, by omega⟩, rfl⟩))) (by omega)))
     rintro e56 h57 ⟨b58, rfl, le59⟩
     refine Lz (w_assign ?_)
     refine Cb (fun q60 => ?_) (fun q60 => ?_)
     · subst q60
       refine Sr (Lo (w_assign ?_))
       refine Lz (w_assign ?_)
       refine Rt ?_
       refine blk_r (then_r ?_)
       refine leave_ret rfl ?_
       have l0_3_61 : Le h h16 := l0_2_14.trans le19
       have l0_4_62 : Le h h37 := l0_3_61.trans w38.le
       have l0_5_63 : Le h h43 := l0_4_62.trans le45
       have l0_6_64 : Le h h57 := l0_5_63.trans le59
       exact ⟨_, _, _, rfl, Frs.nil, (by omega), (by omega), l0_6_64⟩
     · subst q60
       refine Sr (Lo (w_move ?_))
       have o65 : Own h57 i9 [.slice p n cp] := (o54.le le59)
       refine Lo (w_ldC tC28 o65.cells ?_)
       have l3_6_66 : Le h16 h57 := l3_5_55.trans le59
       refine Lo (w_call' isf48 ?_ (hR := by exact c48 (room24.le l3_6_66) (sv25.leL l3_6_66 l3_6_66) (by omega)))
       rintro e67 h68 ⟨b69, rfl, le70⟩
       refine Lo (w_not ?_)
       refine Lo (w_move ?_)
       refine k_splitB (d := 42) rfl (fun q71 => ?_) (fun q71 => ?_)
       · have q72 : b69 = false := by simpa using q71
         subst q72
         refine Ws ?_
         refine Ws ?_
         refine Ws ?_
         refine Ws ?_
         refine Ws ?_
         refine Lo (w_pick_t ?_)
         refine Lz (w_assign ?_)
         refine Ct ?_
         refine Sr (Lo (w_assign ?_))
         refine Lz (w_assign ?_)
         refine Rt ?_
         refine blk_r (then_r ?_)
         refine leave_ret rfl ?_
         have l0_3_73 : Le h h16 := l0_2_14.trans le19
         have l0_4_74 : Le h h37 := l0_3_73.trans w38.le
         have l0_5_75 : Le h h43 := l0_4_74.trans le45
         have l0_6_76 : Le h h57 := l0_5_75.trans le59
         have l0_7_77 : Le h h68 := l0_6_76.trans le70
         exact ⟨_, _, _, rfl, Frs.nil, (by omega), (by omega), l0_7_77⟩
       · have q78 : b69 = true := by simpa using q71
         subst q78
         refine Gl (w_move ?_)
         refine Gl (w_move ?_)
         refine Gl (x_buildSlice (out := [.int .i64 rq]) tS28 tZ3 tN3 ?_)
         intro i79 h80 w81
         have o82 : Own h68 i6 [.slice bp bn (.exact cbp), .slice rp rn (.exact crp), .slice ep en (.exact cep), .slice qp qn (.exact cqp)] := ((((o35.le w38.le).le le45).le le59).le le70)
         have ne83 : i6 ≠ i79 := ne_of_free w81.free o82
         have o84 : Own h68 i9 [.slice p n cp] := (o65.le le70)
         have ne85 : i9 ≠ i79 := ne_of_free w81.free o84
         have o86 : Own h68 i36 [.int .i64 rq] := ((o51.le le59).le le70)
         have ne87 : i36 ≠ i79 := ne_of_free w81.free o86
         have l3_7_88 : Le h16 h68 := l3_6_66.trans le70
         have l3_8_89 : Le h16 h80 := l3_7_88.trans w81.le
         refine Gl (w_call' isf48 ?_ (hR := by exact c48 (room24.le l3_8_89) (w81.own.sl1 rfl (by simp only [List.mem_cons, List.not_mem_nil, or_false, forall_eq_or_imp, forall_eq, okL, okV]; exact ⟨_, _, rfl, ⟨_, rfl, by omega, by omega⟩, rfl⟩)) (by omega)))
         rintro e90 h91 ⟨b92, rfl, le93⟩
         refine Gl (w_not ?_)
         refine Lo (w_pick_f ?_)
         refine Lz (w_assign ?_)
         refine Cb (fun q94 => ?_) (fun q94 => ?_)
         · have q95 : b92 = false := by simpa using q94
           subst q95
           refine Sr (Lo (w_assign ?_))
           refine Lz (w_assign ?_)
           refine Rt ?_
           refine blk_r (then_r ?_)
           refine leave_ret rfl ?_
           have l0_3_96 : Le h h16 := l0_2_14.trans le19
           have l0_4_97 : Le h h37 := l0_3_96.trans w38.le
           have l0_5_98 : Le h h43 := l0_4_97.trans le45
           have l0_6_99 : Le h h57 := l0_5_98.trans le59
           have l0_7_100 : Le h h68 := l0_6_99.trans le70
           have l0_8_101 : Le h h80 := l0_7_100.trans w81.le
           have l0_9_102 : Le h h91 := l0_8_101.trans le93
           exact ⟨_, _, _, rfl, Frs.nil, (by omega), (by omega), l0_9_102⟩
         · have q103 : b92 = true := by simpa using q94
           subst q103
           refine Sk ?_
           refine Sr (Lo (w_move ?_))
           refine Lo (w_shl ?_)
           have rn104 := shl_i64 1 rq
           generalize shlI .i64 1 rq = n104 at rn104 ⊢
           refine Lz (w_assign ?_)
           refine Sr (Lo (w_move ?_))
           refine Lz (w_assign ?_)
           refine Sq (Sr ?_)
           have o105 : Own h91 i9 [.slice p n cp] := ((o84.le w81.le).le le93)
           refine Lo (w_ldC tC28 o105.cells ?_)
           refine Lo (w_len tS28 ?_)
           refine Lz (w_move ?_)
           refine Bk ?_
           refine J_for2 (x := C33 [0, 0, 1, 0, 1, 1, 1, 1, 1]) (fun (x10_106 : Int) (x54_107 : Int) => ⟨[(4, .ptr (some (i9, 0))), (8, .ptr (some (x23, 0))), (9, .int .i64 n104), (10, .int .i64 x10_106), (52, .slice p n cp), (53, .int .i64 ((n : Nat) : Int)), (54, .int .i64 x54_107)], h91, 75, []⟩) (fun (x10_106 : Int) (x54_107 : Int) => 0 ≤ x54_107) (fun (x10_106 : Int) (x54_107 : Int) => (((n : Nat) : Int) - x54_107).toNat) n104 0 rfl ⟨rfl, rfl, rfl, rfl, rfl, rfl, rfl, rfl, rfl, rfl, trivial⟩ (by omega) ?_
           intro x10_106 x54_107 hI
           obtain hxx54_107 : 0 ≤ x54_107 := hI
           show J _ _ (C33 [0, 0, 1, 0, 1, 1, 1, 1, 1]) ⟨[(4, .ptr (some (i9, 0))), (8, .ptr (some (x23, 0))), (9, .int .i64 n104), (10, .int .i64 x10_106), (52, .slice p n cp), (53, .int .i64 ((n : Nat) : Int)), (54, .int .i64 x54_107)], h91, 75, []⟩ _
           refine Sr (Lz (w_lt ?_))
           refine Sq ?_
           refine Cn (fun q108 => ?_) (fun q108 => ?_)
           · refine Sk ?_
             refine Sq (Bk ?_)
             refine Sr ?_
             have l3_9_109 : Le h16 h91 := l3_8_89.trans le93
             obtain ⟨i117, o118, cs116, l115, rfl, hc110, hl111, hk112, hE113, ht114⟩ := (sv25.le l3_9_109).at (i := x54_107) (by omega) (by omega)
             obtain ⟨_, _, rfl, ⟨n119, rfl, lon119, hin119⟩, rfl⟩ := hE113
             refine Lo (w_indexAddrS tS28 tZ3 ?_)
             refine Lo (w_ldC tC3 hc110 ?_ (hv := cell_of_take0 ht114 rfl))
             refine Lz (w_assign ?_)
             refine Rg (Lo (w_move ?_))
             refine Lo (w_move ?_)
             refine Lo (w_shl ?_)
             have rn120 := shl_i64 1 n119
             generalize shlI .i64 1 n119 = n120 at rn120 ⊢
             refine Lo (w_or ?_)
             have rn121 := bit_i64 .or x10_106 n120
             generalize bitI .or .i64 x10_106 n120 = n121 at rn121 ⊢
             refine Lz (w_assign ?_)
             refine Rg (Lo (w_add ?_))
             refine Lz (w_move ?_)
             exact ⟨n121, (x54_107 + 1), ⟨(by omega), by omega⟩, rfl, rfl, rfl, rfl, rfl, rfl, rfl, rfl, rfl, rfl, trivial⟩
           · refine Ex ?_
             refine then_x (then_x (blk_eq rfl ?_))
             refine Sr (Lo (w_move ?_))
             refine Lo (w_move ?_)
             refine Lo (w_move ?_)
             refine Lo (w_call' isf62 ?_ (hR := by exact c62))
             rintro e122 h123 ⟨i124, i125, i126, i127, rfl, o128, o129, o130, o131, le132⟩
             refine Lo (w_makeFunc ?_)
             have l3_9_133 : Le h16 h91 := l3_8_89.trans le93
             have l3_10_134 : Le h16 h123 := l3_9_133.trans le132
             have o135 : Own h123 i9 [.slice p n cp] := (o105.le le132)
             refine Lo (w_call' isf61 ?_ (hR := by exact c61 (room24.le l3_10_134) (by omega) o128 o129 o130 o131 (fun le sv hn => JApp_fn isf63 ((c63 (sv.imp (fun l _ hl => (by obtain ⟨_, _, rfl, ⟨m0, rfl, u0, v0⟩, rfl⟩ := hl; exact ⟨_, _, rfl, ⟨_, rfl, by omega, by omega⟩, rfl⟩))) hn).mono fun e h2 ⟨r, k1, k2, k3⟩ => ⟨r, k1, by omega, k3⟩)) (fun le s1 n1 s2 n2 => JApp_fn isf64 ((c64 (s1.imp (fun l _ hl => (by obtain ⟨_, _, rfl, ⟨m0, rfl, u0, v0⟩, rfl⟩ := hl; exact ⟨_, _, rfl, ⟨_, rfl, by omega, by omega⟩, rfl⟩))) n1 (s2.imp (fun l _ hl => (by obtain ⟨_, _, rfl, ⟨m0, rfl, u0, v0⟩, rfl⟩ := hl; exact ⟨_, _, rfl, ⟨_, rfl, by omega, by omega⟩, rfl⟩))) n2 (SlV.leL ((sv25.leL l3_10_134 l3_10_134).imp (fun l _ hl => (by obtain ⟨_, _, rfl, ⟨m0, rfl, u0, v0⟩, rfl⟩ := hl; exact ⟨_, _, rfl, ⟨_, rfl, by omega, by omega⟩, rfl⟩))) le le) (by omega) (o135.le le)).mono fun e h2 ⟨r, k1, k3⟩ => ⟨r, k1, k3⟩))))
             rintro e136 h137 ⟨v138, m139, n143, rfl, fr140, hmm139, hbn143, le144⟩
             obtain ⟨p141, c142, rfl, sv145, _⟩ := id fr140
             refine Lo (w_move ?_)
             refine Lo (w_extract ?_)
             refine Lo (w_extract ?_)
             refine Lo (w_assign ?_)
             refine Lz (w_assign ?_)
             refine Sr ?_
             have o147 : Own h137 i9 [.slice p n cp] := (o135.le le144)
             refine Lo (w_ldC tC28 o147.cells ?_)
             refine Lo (w_move ?_)
             have l3_11_148 : Le h16 h137 := l3_10_134.trans le144
             refine Lo (w_call' isf66 ?_ (hR := by exact c66 ((sv25.leL l3_11_148 l3_11_148).imp (fun l _ hl => (by obtain ⟨_, _, rfl, ⟨m0, rfl, u0, v0⟩, rfl⟩ := hl; exact ⟨_, _, rfl, ⟨_, rfl, by omega, by omega⟩, rfl⟩))) (by omega) ((sv145.leL (Le.refl _) (Le.refl _)).imp (fun l _ hl => (by obtain ⟨_, _, rfl, ⟨m0, rfl, u0, v0⟩, rfl⟩ := hl; exact ⟨_, _, rfl, ⟨_, rfl, by omega, by omega⟩, rfl⟩))) (by omega)))
             rintro e149 h150 ⟨v151, m152, rfl, bl153, le154, k155⟩
             refine Lo (w_assign ?_)
             refine Lz (w_assign ?_)
             refine Rt ?_
             refine leave_ret rfl ?_
             have l0_3_156 : Le h h16 := l0_2_14.trans le19
             have l0_4_157 : Le h h37 := l0_3_156.trans w38.le
             have l0_5_158 : Le h h43 := l0_4_157.trans le45
             have l0_6_159 : Le h h57 := l0_5_158.trans le59
             have l0_7_160 : Le h h68 := l0_6_159.trans le70
             have l0_8_161 : Le h h80 := l0_7_160.trans w81.le
             have l0_9_162 : Le h h91 := l0_8_161.trans le93
             have l0_10_163 : Le h h123 := l0_9_162.trans le132
             have l0_11_164 : Le h h137 := l0_10_163.trans le144
             have l0_12_165 : Le h h150 := l0_11_164.trans le154
             exact ⟨_, _, _, rfl, (bl153.base l0_11_164).frs, (by omega), (by omega), l0_12_165⟩
theorem c67 {h : AH} {p : Option (Nat × Nat)} {n : Nat} {c : Cap} {E : List AV → Prop} (sp : SlV h p n 5 E) (mp : n ≤ 4294967296) : JCall Tryz.prog 67 [.slice p n c] h (fun e h' => ∃ v, e = .ret v ∧ FrW h h' v n 5 E ∧ Le h h') := by
 refine JCall_of_J (N := 8) (sl := [(0, _)]) isf67 rfl (by show 1 ≤ 8; decide) rfl ?_
 refine Sr (Lz (w_assign ?_))
 refine Sq (Sr ?_)
 refine Lo (w_move ?_)
 refine Lz (x_eqNil tS22 ?_)
 intro b1 hnil
 refine Cb (fun q2 => ?_) (fun q2 => ?_)
 · subst q2
   have hp0 := hnil rfl
   subst hp0
   have hn0 := sp.nil0
   subst hn0
   refine Sr (Lz (w_assign ?_))
   refine Rt ?_
   refine then_r ?_
   refine leave_ret rfl ?_
   exact ⟨_, rfl, .inl ⟨rfl, _, _, rfl, .inl rfl⟩, (Le.refl _)⟩
 · subst q2
   refine Sk ?_
   refine Sr (Lo (x_buildSlice (out := []) tS22 tZ70 tN70 ?_))
   intro i3 h4 w5
   refine Lo (w_move ?_)
   refine Lo (x_clone (hB := h) (E := E) tG22_22 (sp.le w5.le) (w5.newN) w5.own w5.le ?_)
   intro v6 h7 fw8 le9
   refine Lz (w_assign ?_)
   refine Rt ?_
   refine leave_ret rfl ?_
   have l0_2_10 : Le h h7 := w5.le.trans le9
   exact ⟨_, rfl, fw8, l0_2_10⟩
theorem c36 {h : AH}  {bp : Option (Nat × Nat)} {bn : Nat} {cbp : Nat} {rp : Option (Nat × Nat)} {rn : Nat} {crp : Nat} {ep : Option (Nat × Nat)} {en : Nat} {cep : Nat} {qp : Option (Nat × Nat)} {qn : Nat} {cqp : Nat} (sbp : SlV h bp bn 5 (okL h [.str, .i, .i, .i, .bool])) (mbp : bn ≤ 1048576) (xbp : bn ≤ cbp) (srp : SlV h rp rn 2 (okL h [.str, .i])) (mrp : rn ≤ 1048576) (xrp : rn ≤ crp) (sep : SlV h ep en 2 (okL h [.i, .bool])) (mep : en ≤ 1048576) (xep : en ≤ cep) (sqp : SlV h qp qn 4 (okL h [.i, .i, .i, .i])) (mqp : qn ≤ 1048576) (xqp : qn ≤ cqp) : JCall Tryz.prog 36 [.agg [.slice bp bn (.exact cbp), .slice rp rn (.exact crp), .slice ep en (.exact cep), .slice qp qn (.exact cqp)]] h (fun e h' => ∃ (bk : Int) (mo : Int) (er : Int), e = .ret (.tuple [.int .i64 bk, .int .i64 mo, .int .i64 er]) ∧ ((-9223372036854775808) ≤ bk ∧ bk ≤ 9223372036854775807) ∧ ((-9223372036854775808) ≤ mo ∧ mo ≤ 9223372036854775807) ∧ ((-9223372036854775808) ≤ er ∧ er ≤ 9223372036854775807) ∧ Le h h') := by
 refine JCall_of_J (N := 69) (sl := [(0, _)]) isf36 rfl (by show 1 ≤ 69; decide) rfl ?_
 refine Sr (Lo (x_box (z := [.slice bp bn (.exact cbp), .slice rp rn (.exact crp), .slice ep en (.exact cep), .slice qp qn (.exact cqp)]) ?_))
 intro i5 h6 w7
 refine Lo (w_assign ?_)
 refine Lo (w_assign ?_)
 refine Lz (w_assign ?_)
 refine Sr (Lo (w_ldA (l := [.slice bp bn (.exact cbp), .slice rp rn (.exact crp), .slice ep en (.exact cep), .slice qp qn (.exact cqp)]) tA27 w7.own.cells ?_))
 refine Lo (w_call' isf46 ?_ (hR := by exact c46 (sbp.leL w7.le w7.le) (by omega) (by omega) (srp.leL w7.le w7.le) (by omega) (by omega) (sep.leL w7.le w7.le) (by omega) (by omega) (sqp.leL w7.le w7.le) (by omega) (by omega) SlV.zero (by omega)))
 rintro e8 h9 ⟨v10, n11, rfl, hbn11, le12, k13⟩
 refine Lo (w_move ?_)
 refine Lo (w_extract ?_)
 refine Lo (w_extract ?_)
 refine Lo (w_assign ?_)
 refine Lz (w_assign ?_)
 refine Sq (Sr ?_)
 refine Lo (w_move ?_)
 refine Lz (w_ne ?_)
 refine Cn (fun q14 => ?_) (fun q14 => ?_)
 · refine Sr (Lo (w_move ?_))
   refine Lo (w_assign ?_)
   refine Lo (w_assign ?_)
   refine Lz (w_assign ?_)
   refine Rt ?_
   refine then_r ?_
   refine leave_ret rfl ?_
   have l0_2_15 : Le h h9 := w7.le.trans le12
   exact ⟨_, _, _, rfl, (by omega), (by omega), (by omega), l0_2_15⟩
 · obtain ⟨x16, rfl, room17, sv18, sv19, sv20, sv21, sv22⟩ := k13 (by omega)
   obtain ⟨mbx16, mrx16, mex16, mqx16⟩ := room17.bounds
   refine Sk ?_
   refine Sr (Lo (w_move ?_))
   refine Lo (w_call' isf59 ?_ (hR := by exact c59 room17))
   rintro e27 h28 ⟨v29, m30, n34, rfl, fr31, hmm30, hbn34, le35⟩
   obtain ⟨p32, c33, rfl, sv36, _⟩ := id fr31
   refine Lo (w_move ?_)
   refine Lo (w_extract ?_)
   refine Lo (w_extract ?_)
   refine Lo (w_assign ?_)
   refine Lz (w_assign ?_)
   refine Sq (Sr ?_)
   refine Lo (w_fieldAddr tF27_0 tZ22 ?_)
   have o38 : Own h28 i5 [.slice bp bn (.exact cbp), .slice rp rn (.exact crp), .slice ep en (.exact cep), .slice qp qn (.exact cqp)] := ((w7.own.le le12).le le35)
   refine Lo (w_ldC tC22 o38.cells ?_)
   refine Lo (w_len tS22 ?_)
   refine Lz (w_move ?_)
   refine Bk ?_
   refine J_for4 (x := C36 [0, 0, 1, 0, 1, 1, 1, 1]) (fun (x2_39 : Int) (x3_40 : Int) (x28_41 : Int) (h43 : AH) => ⟨[(1, .ptr (some (i5, 0))), (2, .int .i64 x2_39), (3, .int .i64 x3_40), (7, .int .i64 n34), (27, .int .i64 ((bn : Nat) : Int)), (28, .int .i64 x28_41)], h43, 69, []⟩) (fun (x2_39 : Int) (x3_40 : Int) (x28_41 : Int) (h43 : AH) => 0 ≤ x28_41 ∧ (0 ≤ x2_39 ∧ x2_39 ≤ 8 ∧ (-9223372036854775808) ≤ x3_40 ∧ x3_40 ≤ 9223372036854775807) ∧ Le h28 h43) (fun (x2_39 : Int) (x3_40 : Int) (x28_41 : Int) (h43 : AH) => (((bn : Nat) : Int) - x28_41).toNat) 0 0 0 h28 rfl ⟨rfl, rfl, rfl, rfl, rfl, rfl, rfl, rfl, rfl, trivial⟩ ⟨(by omega), (by omega), .refl _⟩ ?_
   intro x2_39 x3_40 x28_41 h43 hI
   obtain ⟨hxx28_41, iv42, le44⟩ : 0 ≤ x28_41 ∧ (0 ≤ x2_39 ∧ x2_39 ≤ 8 ∧ (-9223372036854775808) ≤ x3_40 ∧ x3_40 ≤ 9223372036854775807) ∧ Le h28 h43 := hI
   show J _ _ (C36 [0, 0, 1, 0, 1, 1, 1, 1]) ⟨[(1, .ptr (some (i5, 0))), (2, .int .i64 x2_39), (3, .int .i64 x3_40), (7, .int .i64 n34), (27, .int .i64 ((bn : Nat) : Int)), (28, .int .i64 x28_41)], h43, 69, []⟩ _
   refine Sr (Lz (w_lt ?_))
   refine Sq ?_
   refine Cn (fun q45 => ?_) (fun q45 => ?_)
   · refine Sk ?_
     refine Sq (Bk ?_)
     refine Sr (Lo (w_move ?_))
     refine Lz (w_assign ?_)
     refine Sr ?_
     have o46 : Own h43 i5 [.slice bp bn (.exact cbp), .slice rp rn (.exact crp), .slice ep en (.exact cep), .slice qp qn (.exact cqp)] := (o38.le le44)
     refine Lo (w_ldA (l := [.slice bp bn (.exact cbp), .slice rp rn (.exact crp), .slice ep en (.exact cep), .slice qp qn (.exact cqp)]) tA27 o46.cells ?_)
     refine Lo (x_alloc (zc := [.slice none 0 (.exact 0), .slice none 0 (.exact 0), .slice none 0 (.exact 0), .slice none 0 (.exact 0)]) tN27 ?_)
     intro i47 h48 w49
     have ne50 : i5 ≠ i47 := ne_of_free w49.free o46
     refine Lz (x_store (vc := [.slice bp bn (.exact cbp), .slice rp rn (.exact crp), .slice ep en (.exact cep), .slice qp qn (.exact cqp)]) (cs' := [.slice bp bn (.exact cbp), .slice rp rn (.exact crp), .slice ep en (.exact cep), .slice qp qn (.exact cqp)]) tZ27 w49.own ?_)
     intro h51 bt52 o53
     refine Sr (Lo (w_fieldAddr tF27_0 tZ22 ?_))
     have o54 : Own h51 i5 [.slice bp bn (.exact cbp), .slice rp rn (.exact crp), .slice ep en (.exact cep), .slice qp qn (.exact cqp)] := ((o46.le w49.le).but bt52 ne50)
     refine Lo (w_ldC tC22 o54.cells ?_)
     have l2_4_55 : Le h9 h43 := le35.trans le44
     have l2_5_56 : Le h9 h48 := l2_4_55.trans w49.le
     have l2_6_57 : Le h9 h51 := l2_5_56.but bt52 (l2_4_55.free w49.free)
     refine Lo (w_call' isf67 ?_ (hR := by exact c67 (E := okL h51 [.str, .int 0 5, .int 0 1000, .int 0 1000, .bool]) (sv19.leL l2_6_57 l2_6_57) (by omega)))
     rintro e58 h59 ⟨v60, rfl, fr61, le62⟩
     obtain ⟨i63, c64, rfl, nw65, sw66⟩ := FrW.pos fr61 (by omega)
     have ne67 : i5 ≠ i63 := ne_of_free nw65.1 o54
     have ne68 : i47 ≠ i63 := ne_of_free nw65.1 o53
     replace sw66 : SlW h59 i63 bn 5 (okTL h59 Sig.nil [.str, .int 0 5, .int 0 1000, .int 0 1000, .bool]) := sw66.imp fun _ h => h
     refine Lo (w_fieldAddr tF27_0 tZ22 ?_)
     have o69 : Own h59 i47 [.slice bp bn (.exact cbp), .slice rp rn (.exact crp), .slice ep en (.exact cep), .slice qp qn (.exact cqp)] := (o53.le le62)
     refine Lz (x_store (vc := [.slice (some (i63, 0)) bn c64]) (cs' := [.slice (some (i63, 0)) bn c64, .slice rp rn (.exact crp), .slice ep en (.exact cep), .slice qp qn (.exact cqp)]) tZ22 o69 ?_)
     intro h70 bt71 o72
     refine Sq ?_
     refine J_drawS (opsAt (C36 [0, 1, 1, 1, 0, 0, 1, 1, 0, 0, 1, 0, 1, 1, 1, 1])) [[(9, none)], [(36, some 0)], [(8, none)], [(9, none)], [(39, some 3)], [(8, none)], [(40, some 4), (41, some 5)], [(42, some 6)], [(43, some 7)], [(44, some 8)], [(37, some 1), (38, some 2)], [(46, some 10)], [(47, some 11)], [(45, some 9), (48, some 12)]] ?_
     refine Dp (w_fieldAddr tF27_0 tZ22 ⟨rfl, rfl⟩) ?_
     refine Dp (w_ldC tC22 o72.cells ⟨rfl, rfl⟩) ?_
     refine Dp (w_move ⟨rfl, rfl⟩) ?_
     refine Dp (w_fieldAddr tF27_0 tZ22 ⟨rfl, rfl⟩) ?_
     refine Dp (w_ldC tC22 o72.cells ⟨rfl, rfl⟩) ?_
     refine Dp (w_move ⟨rfl, rfl⟩) ?_
     refine Dp (w_indexAddrS tS22 tZ70 ⟨rfl, rfl⟩) ?_
     refine Dp (w_fieldAddr tF70_2 tZ68 ⟨rfl, rfl⟩) ?_
     refine Dp (w_fieldAddr tF68_1 tZ3 ⟨rfl, rfl⟩) ?_
     have o73 : SlW h70 i63 bn 5 (okTL h59 Sig.nil [.str, .int 0 5, .int 0 1000, .int 0 1000, .bool]) := (sw66.but bt71 ne68.symm)
     obtain ⟨cs80, l79, hc74, hl75, hk76, hE77, ht78⟩ := o73.slV.atS (i := x28_41) (by omega) (by omega)
     obtain ⟨_, _, rfl, ⟨s81, rfl, hs81⟩, _, _, rfl, ⟨n82, rfl, lon82, hin82⟩, _, _, rfl, ⟨n83, rfl, lon83, hin83⟩, _, _, rfl, ⟨n84, rfl, lon84, hin84⟩, _, _, rfl, ⟨b85, rfl⟩, rfl⟩ := hE77
     refine Dp (w_ldC tC3 hc74 ⟨rfl, rfl⟩ (hv := cell_of_take (k := 3) ht78 rfl)) ?_
     refine Dp (w_indexAddrS tS22 tZ70 ⟨rfl, rfl⟩) ?_
     refine Dp (w_fieldAddr tF70_2 tZ68 ⟨rfl, rfl⟩) ?_
     refine Dp (w_fieldAddr tF68_0 tZ3 ⟨rfl, rfl⟩) ?_
     refine Da (h₁ := h70) (x_storeT (e := [.str, .int 0 5, .int 0 1000, .int 0 1000, .bool]) (k := x28_41) (j := 2) tZ3 o73 ?_ (hoff := by show _ = _ * 5 + _; (try simp only [List.length_cons, List.length_nil]); omega) (hv := by exact ⟨_, rfl, by omega, by omega⟩))
     intro h86 bt87 o88
     replace o88 : SlW h86 i63 bn 5 (okTL h59 Sig.nil [.str, .int 0 5, .int 0 1000, .int 0 1000, .bool]) := o88
     refine Ao ?_
     refine JD_end (effs := [13]) (fin := [(1, none), (2, none), (3, none), (7, none), (27, none), (28, none), (8, none), (9, none)]) (slF := [(1, .ptr (some (i5, 0))), (2, .int .i64 x2_39), (3, .int .i64 x3_40), (7, .int .i64 n34), (27, .int .i64 ((bn : Nat) : Int)), (28, .int .i64 x28_41), (8, .int .i64 x28_41), (9, .ptr (some (i47, 0)))]) rfl mixed (by kernel_rfl) (by kernel_rfl) rfl rfl ?_
     refine Sr ?_
     have o89 : Own h86 i47 [.slice (some (i63, 0)) bn c64, .slice rp rn (.exact crp), .slice ep en (.exact cep), .slice qp qn (.exact cqp)] := (o72.but bt87 ne68)
     refine Lo (w_ldA (l := [.slice (some (i63, 0)) bn c64, .slice rp rn (.exact crp), .slice ep en (.exact cep), .slice qp qn (.exact cqp)]) tA27 o89.cells ?_)
     have l2_7_90 : Le h9 h59 := l2_6_57.trans le62
     have l2_8_91 : Le h9 h70 := l2_7_90.but bt71 (l2_4_55.free w49.free)
     have fr92 : h9.get i63 = none := (le35.free (le44.free (w49.le.free (bt52.free ne68.symm nw65.1))))
     have l2_9_93 : Le h9 h86 := l2_8_91.but bt87 fr92
     refine Lo (w_call' isf68 ?_ (hR := by exact c68 (o88.slV.imp fun _ _ h => h) (by omega) (sv20.leL l2_9_93 l2_9_93) (by omega) (sv21.leL l2_9_93 l2_9_93) (by omega) (sv22.leL l2_9_93 l2_9_93) (by omega) (by omega) (by omega) (by omega) (by omega)))
     rintro e94 h95 ⟨x96, rfl, room97, le98⟩
     refine Lo (w_call' isf59 ?_ (hR := by exact c59 room97))
     rintro e99 h100 ⟨v101, m102, n106, rfl, fr103, hmm102, hbn106, le107⟩
     obtain ⟨p104, c105, rfl, sv108, _⟩ := id fr103
     refine Lo (w_move ?_)
     refine Lo (w_extract ?_)
     refine Lo (w_extract ?_)
     refine Lo (w_assign ?_)
     refine Lz (w_assign ?_)
     refine Sr (Lo (w_move ?_))
     refine Lo (w_move ?_)
     refine Lo (w_subw ?_)
     have rn110 := wrap_i64 (n106 - n34)
     generalize wrapI .i64 (n106 - n34) = n110 at rn110 ⊢
     refine Lo (w_move ?_)
     refine Lz (w_gt ?_)
     refine Cn (fun q111 => ?_) (fun q111 => ?_)
     · refine Rg (Lo (w_move ?_))
       refine Lo (w_move ?_)
       refine Lo (w_move ?_)
       refine Lo (w_subw ?_)
       have rn112 := wrap_i64 (n106 - n34)
       generalize wrapI .i64 (n106 - n34) = n112 at rn112 ⊢
       refine Lo (w_assign ?_)
       refine Lz (w_assign ?_)
       refine Rg (Lo (w_add ?_))
       refine Lz (w_move ?_)
       have l3_5_113 : Le h28 h48 := le44.trans w49.le
       have l3_6_114 : Le h28 h51 := l3_5_113.but bt52 (le44.free w49.free)
       have l3_7_115 : Le h28 h59 := l3_6_114.trans le62
       have l3_8_116 : Le h28 h70 := l3_7_115.but bt71 (le44.free w49.free)
       have fr117 : h28.get i63 = none := (le44.free (w49.le.free (bt52.free ne68.symm nw65.1)))
       have l3_9_118 : Le h28 h86 := l3_8_116.but bt87 fr117
       have l3_10_119 : Le h28 h95 := l3_9_118.trans le98
       have l3_11_120 : Le h28 h100 := l3_10_119.trans le107
       exact ⟨x28_41, n112, (x28_41 + 1), h100, ⟨⟨(by omega), (by omega), l3_11_120⟩, by omega⟩, rfl, rfl, rfl, rfl, rfl, rfl, rfl, rfl, rfl, trivial⟩
     · refine Sk ?_
       refine Rg (Lo (w_add ?_))
       refine Lz (w_move ?_)
       have l3_5_121 : Le h28 h48 := le44.trans w49.le
       have l3_6_122 : Le h28 h51 := l3_5_121.but bt52 (le44.free w49.free)
       have l3_7_123 : Le h28 h59 := l3_6_122.trans le62
       have l3_8_124 : Le h28 h70 := l3_7_123.but bt71 (le44.free w49.free)
       have fr125 : h28.get i63 = none := (le44.free (w49.le.free (bt52.free ne68.symm nw65.1)))
       have l3_9_126 : Le h28 h86 := l3_8_124.but bt87 fr125
       have l3_10_127 : Le h28 h95 := l3_9_126.trans le98
       have l3_11_128 : Le h28 h100 := l3_10_127.trans le107
       exact ⟨x2_39, x3_40, (x28_41 + 1), h100, ⟨⟨(by omega), (by omega), l3_11_128⟩, by omega⟩, rfl, rfl, rfl, rfl, rfl, rfl, rfl, rfl, rfl, trivial⟩
   · refine Ex ?_
     refine then_x (then_x (blk_eq rfl ?_))
     refine Sq (Sr ?_)
     refine Lo (w_move ?_)
     refine Lz (w_eq ?_)
     refine Cn (fun q129 => ?_) (fun q129 => ?_)
     · refine Sr (Lo (w_assign ?_))
       refine Lo (w_assign ?_)
       refine Lz (w_assign ?_)
       refine Rt ?_
       refine then_r ?_
       refine leave_ret rfl ?_
       have l0_2_130 : Le h h9 := w7.le.trans le12
       have l0_3_131 : Le h h28 := l0_2_130.trans le35
       have l0_4_132 : Le h h43 := l0_3_131.trans le44
       exact ⟨_, _, _, rfl, (by omega), (by omega), (by omega), l0_4_132⟩
     · refine Sk ?_
       refine Sr (Lo (w_move ?_))
       refine Lo (w_move ?_)
       refine Lo (w_assign ?_)
       refine Lo (w_assign ?_)
       refine Lz (w_assign ?_)
       refine Rt ?_
       refine leave_ret rfl ?_
       have l0_2_133 : Le h h9 := w7.le.trans le12
       have l0_3_134 : Le h h28 := l0_2_133.trans le35
       have l0_4_135 : Le h h43 := l0_3_134.trans le44
       exact ⟨_, _, _, rfl, (by omega), (by omega), (by omega), l0_4_135⟩
end Go.Proofs.JT
open Go Go.J
set_option maxRecDepth 4000
set_option maxHeartbeats 2000000
set_option linter.unusedSimpArgs false
set_option linter.unusedVariables false
namespace Go.Proofs.JT
theorem tF33_0 : fieldIs Tryz.prog 33 0 0 28 := fieldIs.of (by kernel_rfl)
theorem tF33_1 : fieldIs Tryz.prog 33 1 1 31 := fieldIs.of (by kernel_rfl)
theorem tZ31 : (Tryz.prog.info? 31).map (·.size) = some 1 := by kernel_rfl
theorem tC31 : Cell Tryz.prog 31 := by unfold Cell; kernel_rfl
theorem tS31 : Tryz.prog.underlying 31 = some (.slice 9) := by kernel_rfl
theorem tN9 : zeroIs Tryz.prog 9 (.str ByteArray.empty) := zeroIs.of (by kernel_rfl)
theorem tG31_31 : AppT Tryz.prog 31 31 9 1 16 (.str ByteArray.empty) := ⟨by kernel_rfl, notInt.of (by kernel_rfl), by kernel_rfl, tN9, rfl, by decide⟩
theorem tF30_0 : fieldIs Tryz.prog 30 0 0 27 := fieldIs.of (by kernel_rfl)
theorem tF30_1 : fieldIs Tryz.prog 30 1 4 3 := fieldIs.of (by kernel_rfl)
theorem tF30_2 : fieldIs Tryz.prog 30 2 5 3 := fieldIs.of (by kernel_rfl)
theorem tF30_3 : fieldIs Tryz.prog 30 3 6 28 := fieldIs.of (by kernel_rfl)
theorem tF30_4 : fieldIs Tryz.prog 30 4 7 28 := fieldIs.of (by kernel_rfl)
theorem isf4 : IsFn Tryz.prog 4 Tryz.f4 (dn (bodyOf Tryz.f4) []) := ⟨Tryz.func4, rfl, by kernel_rfl⟩
noncomputable abbrev C4 (p : List Nat) : Code := dn (bodyOf Tryz.f4) p
theorem isf8 : IsFn Tryz.prog 8 Tryz.f8 (dn (bodyOf Tryz.f8) []) := ⟨Tryz.func8, rfl, by kernel_rfl⟩
noncomputable abbrev C8 (p : List Nat) : Code := dn (bodyOf Tryz.f8) p
theorem isf9 : IsFn Tryz.prog 9 Tryz.f9 (dn (bodyOf Tryz.f9) []) := ⟨Tryz.func9, rfl, by kernel_rfl⟩
noncomputable abbrev C9 (p : List Nat) : Code := dn (bodyOf Tryz.f9) p
theorem isf15 : IsFn Tryz.prog 15 Tryz.f15 (dn (bodyOf Tryz.f15) []) := ⟨Tryz.func15, rfl, by kernel_rfl⟩
noncomputable abbrev C15 (p : List Nat) : Code := dn (bodyOf Tryz.f15) p
theorem isf18 : IsFn Tryz.prog 18 Tryz.f18 (dn (bodyOf Tryz.f18) []) := ⟨Tryz.func18, rfl, by kernel_rfl⟩
noncomputable abbrev C18 (p : List Nat) : Code := dn (bodyOf Tryz.f18) p
theorem isf23 : IsFn Tryz.prog 23 Tryz.f23 (dn (bodyOf Tryz.f23) []) := ⟨Tryz.func23, rfl, by kernel_rfl⟩
noncomputable abbrev C23 (p : List Nat) : Code := dn (bodyOf Tryz.f23) p
theorem isf39 : IsFn Tryz.prog 39 Tryz.f39 (dn (bodyOf Tryz.f39) []) := ⟨Tryz.func39, rfl, by kernel_rfl⟩
noncomputable abbrev C39 (p : List Nat) : Code := dn (bodyOf Tryz.f39) p
theorem isf50 : IsFn Tryz.prog 50 Tryz.f50 (dn (bodyOf Tryz.f50) []) := ⟨Tryz.func50, rfl, by kernel_rfl⟩
noncomputable abbrev C50 (p : List Nat) : Code := dn (bodyOf Tryz.f50) p
theorem isf54 : IsFn Tryz.prog 54 Tryz.f54 (dn (bodyOf Tryz.f54) []) := ⟨Tryz.func54, rfl, by kernel_rfl⟩
noncomputable abbrev C54 (p : List Nat) : Code := dn (bodyOf Tryz.f54) p
theorem isf55 : IsFn Tryz.prog 55 Tryz.f55 (dn (bodyOf Tryz.f55) []) := ⟨Tryz.func55, rfl, by kernel_rfl⟩
noncomputable abbrev C55 (p : List Nat) : Code := dn (bodyOf Tryz.f55) p
theorem isf73 : IsFn Tryz.prog 73 Tryz.f73 (dn (bodyOf Tryz.f73) []) := ⟨Tryz.func73, rfl, by kernel_rfl⟩
noncomputable abbrev C73 (p : List Nat) : Code := dn (bodyOf Tryz.f73) p
theorem isf74 : IsFn Tryz.prog 74 Tryz.f74 (dn (bodyOf Tryz.f74) []) := ⟨Tryz.func74, rfl, by kernel_rfl⟩
noncomputable abbrev C74 (p : List Nat) : Code := dn (bodyOf Tryz.f74) p
theorem isf75 : IsFn Tryz.prog 75 Tryz.f75 (dn (bodyOf Tryz.f75) []) := ⟨Tryz.func75, rfl, by kernel_rfl⟩
noncomputable abbrev C75 (p : List Nat) : Code := dn (bodyOf Tryz.f75) p
theorem isf76 : IsFn Tryz.prog 76 Tryz.f76 (dn (bodyOf Tryz.f76) []) := ⟨Tryz.func76, rfl, by kernel_rfl⟩
noncomputable abbrev C76 (p : List Nat) : Code := dn (bodyOf Tryz.f76) p
theorem isf92 : IsFn Tryz.prog 92 Tryz.f92 (dn (bodyOf Tryz.f92) []) := ⟨Tryz.func92, rfl, by kernel_rfl⟩
noncomputable abbrev C92 (p : List Nat) : Code := dn (bodyOf Tryz.f92) p
theorem isf93 : IsFn Tryz.prog 93 Tryz.f93 (dn (bodyOf Tryz.f93) []) := ⟨Tryz.func93, rfl, by kernel_rfl⟩
noncomputable abbrev C93 (p : List Nat) : Code := dn (bodyOf Tryz.f93) p
theorem isf94 : IsFn Tryz.prog 94 Tryz.f94 (dn (bodyOf Tryz.f94) []) := ⟨Tryz.func94, rfl, by kernel_rfl⟩
noncomputable abbrev C94 (p : List Nat) : Code := dn (bodyOf Tryz.f94) p
theorem isf95 : IsFn Tryz.prog 95 Tryz.f95 (dn (bodyOf Tryz.f95) []) := ⟨Tryz.func95, rfl, by kernel_rfl⟩
noncomputable abbrev C95 (p : List Nat) : Code := dn (bodyOf Tryz.f95) p
theorem isf96 : IsFn Tryz.prog 96 Tryz.f96 (dn (bodyOf Tryz.f96) []) := ⟨Tryz.func96, rfl, by kernel_rfl⟩
noncomputable abbrev C96 (p : List Nat) : Code := dn (bodyOf Tryz.f96) p
theorem isf97 : IsFn Tryz.prog 97 Tryz.f97 (dn (bodyOf Tryz.f97) []) := ⟨Tryz.func97, rfl, by kernel_rfl⟩
noncomputable abbrev C97 (p : List Nat) : Code := dn (bodyOf Tryz.f97) p
theorem isf98 : IsFn Tryz.prog 98 Tryz.f98 (dn (bodyOf Tryz.f98) []) := ⟨Tryz.func98, rfl, by kernel_rfl⟩
noncomputable abbrev C98 (p : List Nat) : Code := dn (bodyOf Tryz.f98) p
theorem isf99 : IsFn Tryz.prog 99 Tryz.f99 (dn (bodyOf Tryz.f99) []) := ⟨Tryz.func99, rfl, by kernel_rfl⟩
noncomputable abbrev C99 (p : List Nat) : Code := dn (bodyOf Tryz.f99) p
theorem isf103 : IsFn Tryz.prog 103 Tryz.f103 (dn (bodyOf Tryz.f103) []) := ⟨Tryz.func103, rfl, by kernel_rfl⟩
noncomputable abbrev C103 (p : List Nat) : Code := dn (bodyOf Tryz.f103) p
theorem c8 {hB h : AH} {b n m : Nat} {x : Int} (hb : HB hB h b n m) (hn : n + 1 ≤ 4294967296) (hm : m + 0 ≤ 4294967296) (bx : (-9223372036854775808) ≤ x ∧ x ≤ 9223372036854775807) : JCall Tryz.prog 8 [.ptr (some (b, 0)), .int .i64 x] h (fun e h' => e = .ret (.tuple []) ∧ ∃ n2 m2, HB hB h' b n2 m2 ∧ n2 ≤ n + 1 ∧ m2 ≤ m + 0 ∧ LeO b h h') := by
 refine JCall_of_J (N := 14) (sl := [(0, _), (1, _)]) isf8 rfl (by show 2 ≤ 14; decide) rfl ?_
 refine Rg (Lo (w_move ?_))
 refine Lo (w_move ?_)
 refine Lo (w_nilCheck_ptr ?_)
 refine Lo (w_fieldAddr tF33_0 tZ28 ?_)
 obtain ⟨vn1, vs2, x3⟩ := id hb
 refine Lo (w_ldC tC28 x3.own.cells ?_)
 refine Lo (w_move ?_)
 refine Lo (x_buildSlice (out := [.int .i64 x]) tS28 tZ3 tN3 ?_)
 intro i4 h5 w6
 have ne7 : b ≠ i4 := hb.ne w6.free
 refine Lo (x_appendF (hB := hB) (E := EInt hB) tG28_28 (x3.step w6.le).ints (x3.step w6.le).le (w6.own.slE rfl ⟨_, _, rfl, ⟨_, rfl, by omega, by omega⟩, rfl⟩) ?_ (hq := by exact fun h => absurd h (by decide)) (hE := by exact fun _ h => okL_one h))
 intro v8 h9 bl10 le11 st12 fr13
 refine Lo (w_nilCheck_ptr ?_)
 refine Lo (w_fieldAddr tF33_0 tZ28 ?_)
 refine Lz (x_store (vc := [v8]) (cs' := [v8, vs2]) tZ28 (st12.ownG (x3.step w6.le).ints (x3.step w6.le).own) ?_ (hvc := bl10.cells1) (h1 := bl10.all1))
 intro h14 bt15 o16
 obtain ⟨hb17, lo18⟩ := x3.putN w6.le bl10 le11 st12 fr13 bt15 o16
 refine leave_normal rfl ?_
 exact ⟨rfl, _, _, hb17, by omega, by omega, ((LeO.refl b h).trans lo18)⟩
theorem c9 {hB h : AH} {b n m : Nat} {x : Int} (hb : HB hB h b n m) (hn : n + 1 ≤ 4294967296) (hm : m + 0 ≤ 4294967296) (bx : (-9223372036854775808) ≤ x ∧ x ≤ 9223372036854775807) : JCall Tryz.prog 9 [.ptr (some (b, 0)), .int .i64 x] h (fun e h' => e = .ret (.tuple []) ∧ ∃ n2 m2, HB hB h' b n2 m2 ∧ n2 ≤ n + 1 ∧ m2 ≤ m + 0 ∧ LeO b h h') := by
 refine JCall_of_J (N := 14) (sl := [(0, _), (1, _)]) isf9 rfl (by show 2 ≤ 14; decide) rfl ?_
 refine Rg (Lo (w_move ?_))
 refine Lo (w_move ?_)
 refine Lo (w_nilCheck_ptr ?_)
 refine Lo (w_fieldAddr tF33_0 tZ28 ?_)
 obtain ⟨vn1, vs2, x3⟩ := id hb
 refine Lo (w_ldC tC28 x3.own.cells ?_)
 refine Lo (w_move ?_)
 refine Lo (x_buildSlice (out := [.int .i64 x]) tS28 tZ3 tN3 ?_)
 intro i4 h5 w6
 have ne7 : b ≠ i4 := hb.ne w6.free
 refine Lo (x_appendF (hB := hB) (E := EInt hB) tG28_28 (x3.step w6.le).ints (x3.step w6.le).le (w6.own.slE rfl ⟨_, _, rfl, ⟨_, rfl, by omega, by omega⟩, rfl⟩) ?_ (hq := by exact fun h => absurd h (by decide)) (hE := by exact fun _ h => okL_one h))
 intro v8 h9 bl10 le11 st12 fr13
 refine Lo (w_nilCheck_ptr ?_)
 refine Lo (w_fieldAddr tF33_0 tZ28 ?_)
 refine Lz (x_store (vc := [v8]) (cs' := [v8, vs2]) tZ28 (st12.ownG (x3.step w6.le).ints (x3.step w6.le).own) ?_ (hvc := bl10.cells1) (h1 := bl10.all1))
 intro h14 bt15 o16
 obtain ⟨hb17, lo18⟩ := x3.putN w6.le bl10 le11 st12 fr13 bt15 o16
 refine leave_normal rfl ?_
 exact ⟨rfl, _, _, hb17, by omega, by omega, ((LeO.refl b h).trans lo18)⟩
theorem c103 {hB h : AH} {b n m : Nat} {x : ByteArray} (hb : HB hB h b n m) (hn : n + 0 ≤ 4294967296) (hm : m + 1 ≤ 4294967296) (hx : x.size ≤ 1048576) : JCall Tryz.prog 103 [.ptr (some (b, 0)), .str x] h (fun e h' => e = .ret (.tuple []) ∧ ∃ n2 m2, HB hB h' b n2 m2 ∧ n2 ≤ n + 0 ∧ m2 ≤ m + 1 ∧ LeO b h h') := by
 refine JCall_of_J (N := 14) (sl := [(0, _), (1, _)]) isf103 rfl (by show 2 ≤ 14; decide) rfl ?_
 refine Rg (Lo (w_move ?_))
 refine Lo (w_move ?_)
 refine Lo (w_nilCheck_ptr ?_)
 refine Lo (w_fieldAddr tF33_1 tZ31 ?_)
 obtain ⟨vn1, vs2, x3⟩ := id hb
 refine Lo (w_ldC tC31 x3.own.cells ?_)
 refine Lo (w_move ?_)
 refine Lo (x_buildSlice (out := [.str x]) tS31 tZ9 tN9 ?_)
 intro i4 h5 w6
 have ne7 : b ≠ i4 := hb.ne w6.free
 refine Lo (x_appendF (hB := hB) (E := EStr hB) tG31_31 (x3.step w6.le).strs (x3.step w6.le).le (w6.own.slE rfl ⟨_, _, rfl, ⟨_, rfl, by assumption⟩, rfl⟩) ?_ (hq := by exact fun h => absurd h (by decide)) (hE := by exact fun _ h => okL_one h))
 intro v8 h9 bl10 le11 st12 fr13
 refine Lo (w_nilCheck_ptr ?_)
 refine Lo (w_fieldAddr tF33_1 tZ31 ?_)
 refine Lz (x_store (vc := [v8]) (cs' := [vn1, v8]) tZ31 (st12.ownG (x3.step w6.le).strs (x3.step w6.le).own) ?_ (hvc := bl10.cells1) (h1 := bl10.all1))
 intro h14 bt15 o16
 obtain ⟨hb17, lo18⟩ := x3.putS w6.le bl10 le11 st12 fr13 bt15 o16
 refine leave_normal rfl ?_
 exact ⟨rfl, _, _, hb17, by omega, by omega, ((LeO.refl b h).trans lo18)⟩
theorem c15 {hB h : AH} {b n m : Nat} {x : Bool} (hb : HB hB h b n m) (hn : n + 1 ≤ 4294967296) (hm : m + 0 ≤ 4294967296)  : JCall Tryz.prog 15 [.ptr (some (b, 0)), .bool x] h (fun e h' => e = .ret (.tuple []) ∧ ∃ n2 m2, HB hB h' b n2 m2 ∧ n2 ≤ n + 1 ∧ m2 ≤ m + 0 ∧ LeO b h h') := by
 refine JCall_of_J (N := 16) (sl := [(0, _), (1, _)]) isf15 rfl (by show 2 ≤ 16; decide) rfl ?_
 refine Sr (Lz (w_assign ?_))
 refine Sq (Sr ?_)
 refine Lz (w_move ?_)
 refine Cb (fun q1 => ?_) (fun q1 => ?_)
 · subst q1
   refine Rg (Lz (w_assign ?_))
   refine Rg (Lo (w_move ?_))
   refine Lo (w_move ?_)
   refine Lo (w_nilCheck_ptr ?_)
   refine Lo (w_fieldAddr tF33_0 tZ28 ?_)
   obtain ⟨vn2, vs3, x4⟩ := id hb
   refine Lo (w_ldC tC28 x4.own.cells ?_)
   refine Lo (w_move ?_)
   refine Lo (x_buildSlice (out := [.int .i64 1]) tS28 tZ3 tN3 ?_)
   intro i5 h6 w7
   have ne8 : b ≠ i5 := hb.ne w7.free
   refine Lo (x_appendF (hB := hB) (E := EInt hB) tG28_28 (x4.step w7.le).ints (x4.step w7.le).le (w7.own.slE rfl ⟨_, _, rfl, ⟨_, rfl, by omega, by omega⟩, rfl⟩) ?_ (hq := by exact fun h => absurd h (by decide)) (hE := by exact fun _ h => okL_one h))
   intro v9 h10 bl11 le12 st13 fr14
   refine Lo (w_nilCheck_ptr ?_)
   refine Lo (w_fieldAddr tF33_0 tZ28 ?_)
   refine Lz (x_store (vc := [v9]) (cs' := [v9, vs3]) tZ28 (st13.ownG (x4.step w7.le).ints (x4.step w7.le).own) ?_ (hvc := bl11.cells1) (h1 := bl11.all1))
   intro h15 bt16 o17
   obtain ⟨hb18, lo19⟩ := x4.putN w7.le bl11 le12 st13 fr14 bt16 o17
   refine leave_normal rfl ?_
   exact ⟨rfl, _, _, hb18, by omega, by omega, ((LeO.refl b h).trans lo19)⟩
 · subst q1
   refine Sk ?_
   refine Rg (Lo (w_move ?_))
   refine Lo (w_move ?_)
   refine Lo (w_nilCheck_ptr ?_)
   refine Lo (w_fieldAddr tF33_0 tZ28 ?_)
   obtain ⟨vn20, vs21, x22⟩ := id hb
   refine Lo (w_ldC tC28 x22.own.cells ?_)
   refine Lo (w_move ?_)
   refine Lo (x_buildSlice (out := [.int .i64 0]) tS28 tZ3 tN3 ?_)
   intro i23 h24 w25
   have ne26 : b ≠ i23 := hb.ne w25.free
   refine Lo (x_appendF (hB := hB) (E := EInt hB) tG28_28 (x22.step w25.le).ints (x22.step w25.le).le (w25.own.slE rfl ⟨_, _, rfl, ⟨_, rfl, by omega, by omega⟩, rfl⟩) ?_ (hq := by exact fun h => absurd h (by decide)) (hE := by exact fun _ h => okL_one h))
   intro v27 h28 bl29 le30 st31 fr32
   refine Lo (w_nilCheck_ptr ?_)
   refine Lo (w_fieldAddr tF33_0 tZ28 ?_)
   refine Lz (x_store (vc := [v27]) (cs' := [v27, vs21]) tZ28 (st31.ownG (x22.step w25.le).ints (x22.step w25.le).own) ?_ (hvc := bl29.cells1) (h1 := bl29.all1))
   intro h33 bt34 o35
   obtain ⟨hb36, lo37⟩ := x22.putN w25.le bl29 le30 st31 fr32 bt34 o35
   refine leave_normal rfl ?_
   exact ⟨rfl, _, _, hb36, by omega, by omega, ((LeO.refl b h).trans lo37)⟩
theorem c50 {hB h : AH} {b n m : Nat} {p : Option (Nat × Nat)} {k : Nat} {cp : Cap} (hb : HB hB h b n m) (hn : n + 1048577 ≤ 4294967296) (hm : m + 0 ≤ 4294967296) (sp : SlV hB p k 1 (okL hB [.i])) (mp : k ≤ 1048576) : JCall Tryz.prog 50 [.ptr (some (b, 0)), .slice p k cp, .fn (.func 8) [] []] h (fun e h' => e = .ret (.tuple []) ∧ ∃ n2 m2, HB hB h' b n2 m2 ∧ n2 ≤ n + 1048577 ∧ m2 ≤ m + 0 ∧ LeO b h h') := by
 refine JCall_of_J (N := 31) (sl := [(0, _), (1, _), (2, _)]) isf50 rfl (by show 3 ≤ 31; decide) rfl ?_
 refine Sr (Lo (w_move ?_))
 refine Lo (w_move ?_)
 refine Lo (w_nilCheck_ptr ?_)
 refine Lo (w_fieldAddr tF33_0 tZ28 ?_)
 obtain ⟨vn2, vs3, x4⟩ := id hb
 refine Lo (w_ldC tC28 x4.own.cells ?_)
 refine Lo (w_move ?_)
 refine Lo (w_len tS28 ?_)
 refine Lo (x_buildSlice (out := [.int .i64 ((k : Nat) : Int)]) tS28 tZ3 tN3 ?_)
 intro i5 h6 w7
 have ne8 : b ≠ i5 := hb.ne w7.free
 refine Lo (x_appendF (hB := hB) (E := EInt hB) tG28_28 (x4.step w7.le).ints (x4.step w7.le).le (w7.own.slE rfl ⟨_, _, rfl, ⟨_, rfl, by omega, by omega⟩, rfl⟩) ?_ (hq := by exact fun h => absurd h (by decide)) (hE := by exact fun _ h => okL_one h))
 intro v9 h10 bl11 le12 st13 fr14
 refine Lo (w_nilCheck_ptr ?_)
 refine Lo (w_fieldAddr tF33_0 tZ28 ?_)
 refine Lz (x_store (vc := [v9]) (cs' := [v9, vs3]) tZ28 (st13.ownG (x4.step w7.le).ints (x4.step w7.le).own) ?_ (hvc := bl11.cells1) (h1 := bl11.all1))
 intro h15 bt16 o17
 obtain ⟨hb18, lo19⟩ := x4.putN w7.le bl11 le12 st13 fr14 bt16 o17
 refine Sr (Lz (w_assign ?_))
 refine Bk ?_
 refine J_for4 (x := C50 [0, 0, 1, 1]) (fun (x6_20 : Int) (h22 : AH) (n23 : Nat) (m24 : Nat) => ⟨[(0, .ptr (some (b, 0))), (1, .slice p k cp), (2, .fn (.func 8) [] []), (6, .int .i64 x6_20)], h22, 31, []⟩) (fun (x6_20 : Int) (h22 : AH) (n23 : Nat) (m24 : Nat) => 0 ≤ x6_20 ∧ x6_20 ≤ k ∧ HB hB h22 b n23 m24 ∧ LeO b h15 h22 ∧ ((n23 : Nat) : Int) ≤ ((n + 1 : Nat) : Int) + 1 * x6_20 ∧ ((m24 : Nat) : Int) ≤ ((m : Nat) : Int) + 0 * x6_20) (fun (x6_20 : Int) (h22 : AH) (n23 : Nat) (m24 : Nat) => ((k : Int) - x6_20).toNat) 0 h15 (n + 1) m rfl ⟨rfl, rfl, rfl, rfl, rfl, rfl, rfl, trivial⟩ ⟨(by omega), (by omega), (hb18), ((LeO.refl _ _)), (by omega), (by omega)⟩ ?_
 intro x6_20 h22 n23 m24 hI
 obtain ⟨hxx6_20, iv21, hb25, lo26, iv27, iv28⟩ : 0 ≤ x6_20 ∧ x6_20 ≤ k ∧ HB hB h22 b n23 m24 ∧ LeO b h15 h22 ∧ ((n23 : Nat) : Int) ≤ ((n + 1 : Nat) : Int) + 1 * x6_20 ∧ ((m24 : Nat) : Int) ≤ ((m : Nat) : Int) + 0 * x6_20 := hI
 show J _ _ (C50 [0, 0, 1, 1]) ⟨[(0, .ptr (some (b, 0))), (1, .slice p k cp), (2, .fn (.func 8) [] []), (6, .int .i64 x6_20)], h22, 31, []⟩ _
 refine Sq (Sr ?_)
 refine Lo (w_move ?_)
 refine Lo (w_move ?_)
 refine Lo (w_len tS28 ?_)
 refine Lz (w_lt ?_)
 refine Cn (fun q29 => ?_) (fun q29 => ?_)
 · refine Sk ?_
   refine Sq (Bk ?_)
   refine Rg (Lo (w_move ?_))
   refine Lo (w_move ?_)
   refine Lo (w_move ?_)
   refine Lo (w_move ?_)
   have l0_5_30 : Le hB h22 := hb25.leB
   obtain ⟨i38, o39, cs37, l36, rfl, hc31, hl32, hk33, hE34, ht35⟩ := (sp.le l0_5_30).at (i := x6_20) (by omega) (by omega)
   obtain ⟨_, _, rfl, ⟨n40, rfl, lon40, hin40⟩, rfl⟩ := hE34
   refine Lo (w_indexAddrS tS28 tZ3 ?_)
   refine Lo (w_ldC tC3 hc31 ?_ (hv := cell_of_take0 ht35 rfl))
   refine Lo (w_callV' ?_ (hR := by exact JApp_fn isf8 (c8 hb25 (by omega) (by omega) (by omega))))
   rintro e41 h42 ⟨rfl, n43, m44, hb45, k46, k47, lo48⟩
   refine Ln ?_
   refine Rg (Lo (w_move ?_))
   refine Lo (w_add ?_)
   refine Lz (w_assign ?_)
   exact ⟨(x6_20 + 1), h42, n43, m44, ⟨⟨(by omega), (by omega), hb45, (lo26.trans lo48), (by omega), (by omega)⟩, by omega⟩, rfl, rfl, rfl, rfl, rfl, rfl, rfl, trivial⟩
 · refine Ex ?_
   refine then_x (then_x (blk_eq rfl ?_))
   refine leave_normal rfl ?_
   exact ⟨rfl, _, _, hb25, by omega, by omega, (((LeO.refl b h).trans lo19).trans lo26)⟩
theorem c18 {hB h : AH} {b n m : Nat} {p : Option (Nat × Nat)} {k : Nat} {cp : Cap} (hb : HB hB h b n m) (hn : n + 1048577 ≤ 4294967296) (hm : m + 0 ≤ 4294967296) (sp : SlV hB p k 1 (okL hB [.i])) (mp : k ≤ 1048576) : JCall Tryz.prog 18 [.ptr (some (b, 0)), .slice p k cp] h (fun e h' => e = .ret (.tuple []) ∧ ∃ n2 m2, HB hB h' b n2 m2 ∧ n2 ≤ n + 1048577 ∧ m2 ≤ m + 0 ∧ LeO b h h') := by
 refine JCall_of_J (N := 7) (sl := [(0, _), (1, _)]) isf18 rfl (by show 2 ≤ 7; decide) rfl ?_
 refine Rg (Lo (w_move ?_))
 refine Lo (w_move ?_)
 refine Lo (w_call' isf50 ?_ (hR := by exact c50 hb (by omega) (by omega) sp (by omega)))
 rintro e2 h3 ⟨rfl, n4, m5, hb6, k7, k8, lo9⟩
 refine Ln ?_
 refine leave_normal rfl ?_
 exact ⟨rfl, _, _, hb6, by omega, by omega, ((LeO.refl b h).trans lo9)⟩
theorem c55 {hB h : AH} {b n m : Nat} {x : Int} {u : Int} (hb : HB hB h b n m) (hn : n + 2 ≤ 4294967296) (hm : m + 0 ≤ 4294967296) (bx : (-9223372036854775808) ≤ x ∧ x ≤ 9223372036854775807) (bu : (-9223372036854775808) ≤ u ∧ u ≤ 9223372036854775807) : JCall Tryz.prog 55 [.ptr (some (b, 0)), .agg [.int .i64 x, .int .i64 u]] h (fun e h' => e = .ret (.tuple []) ∧ ∃ n2 m2, HB hB h' b n2 m2 ∧ n2 ≤ n + 2 ∧ m2 ≤ m + 0 ∧ LeO b h h') := by
 refine JCall_of_J (N := 12) (sl := [(0, _), (1, _)]) isf55 rfl (by show 2 ≤ 12; decide) rfl ?_
 refine Sr (Lz (x_box (z := [.int .i64 x, .int .i64 u]) ?_))
 intro i1 h2 w3
 have ne4 : b ≠ i1 := hb.ne w3.free
 refine Sr (Lo (w_move ?_))
 refine Lo (w_fieldAddr tF68_0 tZ3 ?_)
 refine Lo (w_ldC tC3 w3.own.cells ?_)
 have lo5 : LeO b h h2 := ((LeO.refl b h).le w3.le)
 have o6 : HB hB h2 b n m := (hb.le w3.le)
 refine Lo (w_call' isf8 ?_ (hR := by exact c8 o6 (by omega) (by omega) (by omega)))
 rintro e7 h8 ⟨rfl, n9, m10, hb11, k12, k13, lo14⟩
 refine Ln ?_
 refine Rg (Lo (w_move ?_))
 refine Lo (w_fieldAddr tF68_1 tZ3 ?_)
 refine Lo (w_ldC tC3 (lo14.own w3.own ne4.symm).cells ?_)
 refine Lo (w_call' isf8 ?_ (hR := by exact c8 hb11 (by omega) (by omega) (by omega)))
 rintro e15 h16 ⟨rfl, n17, m18, hb19, k20, k21, lo22⟩
 refine Ln ?_
 refine leave_normal rfl ?_
 exact ⟨rfl, _, _, hb19, by omega, by omega, ((lo5.trans lo14).trans lo22)⟩
theorem c54 {hB h : AH} {b n m : Nat} {p : Option (Nat × Nat)} {k : Nat} {cp : Cap} (hb : HB hB h b n m) (hn : n + 2097153 ≤ 4294967296) (hm : m + 0 ≤ 4294967296) (sp : SlV hB p k 2 (okL hB [.i, .i])) (mp : k ≤ 1048576) : JCall Tryz.prog 54 [.ptr (some (b, 0)), .slice p k cp, .fn (.func 55) [] []] h (fun e h' => e = .ret (.tuple []) ∧ ∃ n2 m2, HB hB h' b n2 m2 ∧ n2 ≤ n + 2097153 ∧ m2 ≤ m + 0 ∧ LeO b h h') := by
 refine JCall_of_J (N := 31) (sl := [(0, _), (1, _), (2, _)]) isf54 rfl (by show 3 ≤ 31; decide) rfl ?_
 refine Sr (Lo (w_move ?_))
 refine Lo (w_move ?_)
 refine Lo (w_nilCheck_ptr ?_)
 refine Lo (w_fieldAddr tF33_0 tZ28 ?_)
 obtain ⟨vn2, vs3, x4⟩ := id hb
 refine Lo (w_ldC tC28 x4.own.cells ?_)
 refine Lo (w_move ?_)
 refine Lo (w_len tS53 ?_)
 refine Lo (x_buildSlice (out := [.int .i64 ((k : Nat) : Int)]) tS28 tZ3 tN3 ?_)
 intro i5 h6 w7
 have ne8 : b ≠ i5 := hb.ne w7.free
 refine Lo (x_appendF (hB := hB) (E := EInt hB) tG28_28 (x4.step w7.le).ints (x4.step w7.le).le (w7.own.slE rfl ⟨_, _, rfl, ⟨_, rfl, by omega, by omega⟩, rfl⟩) ?_ (hq := by exact fun h => absurd h (by decide)) (hE := by exact fun _ h => okL_one h))
 intro v9 h10 bl11 le12 st13 fr14
 refine Lo (w_nilCheck_ptr ?_)
 refine Lo (w_fieldAddr tF33_0 tZ28 ?_)
 refine Lz (x_store (vc := [v9]) (cs' := [v9, vs3]) tZ28 (st13.ownG (x4.step w7.le).ints (x4.step w7.le).own) ?_ (hvc := bl11.cells1) (h1 := bl11.all1))
 intro h15 bt16 o17
 obtain ⟨hb18, lo19⟩ := x4.putN w7.le bl11 le12 st13 fr14 bt16 o17
 refine Sr (Lz (w_assign ?_))
 refine Bk ?_
 refine J_for4 (x := C54 [0, 0, 1, 1]) (fun (x6_20 : Int) (h22 : AH) (n23 : Nat) (m24 : Nat) => ⟨[(0, .ptr (some (b, 0))), (1, .slice p k cp), (2, .fn (.func 55) [] []), (6, .int .i64 x6_20)], h22, 31, []⟩) (fun (x6_20 : Int) (h22 : AH) (n23 : Nat) (m24 : Nat) => 0 ≤ x6_20 ∧ x6_20 ≤ k ∧ HB hB h22 b n23 m24 ∧ LeO b h15 h22 ∧ ((n23 : Nat) : Int) ≤ ((n + 1 : Nat) : Int) + 2 * x6_20 ∧ ((m24 : Nat) : Int) ≤ ((m : Nat) : Int) + 0 * x6_20) (fun (x6_20 : Int) (h22 : AH) (n23 : Nat) (m24 : Nat) => ((k : Int) - x6_20).toNat) 0 h15 (n + 1) m rfl ⟨rfl, rfl, rfl, rfl, rfl, rfl, rfl, trivial⟩ ⟨(by omega), (by omega), (hb18), ((LeO.refl _ _)), (by omega), (by omega)⟩ ?_
 intro x6_20 h22 n23 m24 hI
 obtain ⟨hxx6_20, iv21, hb25, lo26, iv27, iv28⟩ : 0 ≤ x6_20 ∧ x6_20 ≤ k ∧ HB hB h22 b n23 m24 ∧ LeO b h15 h22 ∧ ((n23 : Nat) : Int) ≤ ((n + 1 : Nat) : Int) + 2 * x6_20 ∧ ((m24 : Nat) : Int) ≤ ((m : Nat) : Int) + 0 * x6_20 := hI
 show J _ _ (C54 [0, 0, 1, 1]) ⟨[(0, .ptr (some (b, 0))), (1, .slice p k cp), (2, .fn (.func 55) [] []), (6, .int .i64 x6_20)], h22, 31, []⟩ _
 refine Sq (Sr ?_)
 refine Lo (w_move ?_)
 refine Lo (w_move ?_)
 refine Lo (w_len tS53 ?_)
 refine Lz (w_lt ?_)
 refine Cn (fun q29 => ?_) (fun q29 => ?_)
 · refine Sk ?_
   refine Sq (Bk ?_)
   refine Rg (Lo (w_move ?_))
   refine Lo (w_move ?_)
   refine Lo (w_move ?_)
   refine Lo (w_move ?_)
   have l0_5_30 : Le hB h22 := hb25.leB
   obtain ⟨i38, o39, cs37, l36, rfl, hc31, hl32, hk33, hE34, ht35⟩ := (sp.le l0_5_30).at (i := x6_20) (by omega) (by omega)
   obtain ⟨_, _, rfl, ⟨n40, rfl, lon40, hin40⟩, _, _, rfl, ⟨n41, rfl, lon41, hin41⟩, rfl⟩ := hE34
   refine Lo (w_indexAddrS tS53 tZ68 ?_)
   refine Lo (w_ldA tA68 hc31 ?_ (hn := hl32) (hl := ht35))
   refine Lo (w_callV' ?_ (hR := by exact JApp_fn isf55 (c55 hb25 (by omega) (by omega) (by omega) (by omega))))
   rintro e42 h43 ⟨rfl, n44, m45, hb46, k47, k48, lo49⟩
   refine Ln ?_
   refine Rg (Lo (w_move ?_))
   refine Lo (w_add ?_)
   refine Lz (w_assign ?_)
   exact ⟨(x6_20 + 1), h43, n44, m45, ⟨⟨(by omega), (by omega), hb46, (lo26.trans lo49), (by omega), (by omega)⟩, by omega⟩, rfl, rfl, rfl, rfl, rfl, rfl, rfl, trivial⟩
 · refine Ex ?_
   refine then_x (then_x (blk_eq rfl ?_))
   refine leave_normal rfl ?_
   exact ⟨rfl, _, _, hb25, by omega, by omega, (((LeO.refl b h).trans lo19).trans lo26)⟩
theorem c23 {hB h : AH} {b n m : Nat} {p : Option (Nat × Nat)} {k : Nat} {cp : Cap} (hb : HB hB h b n m) (hn : n + 2097153 ≤ 4294967296) (hm : m + 0 ≤ 4294967296) (sp : SlV hB p k 2 (okL hB [.i, .i])) (mp : k ≤ 1048576) : JCall Tryz.prog 23 [.ptr (some (b, 0)), .slice p k cp] h (fun e h' => e = .ret (.tuple []) ∧ ∃ n2 m2, HB hB h' b n2 m2 ∧ n2 ≤ n + 2097153 ∧ m2 ≤ m + 0 ∧ LeO b h h') := by
 refine JCall_of_J (N := 7) (sl := [(0, _), (1, _)]) isf23 rfl (by show 2 ≤ 7; decide) rfl ?_
 refine Rg (Lo (w_move ?_))
 refine Lo (w_move ?_)
 refine Lo (w_call' isf54 ?_ (hR := by exact c54 hb (by omega) (by omega) sp (by omega)))
 rintro e2 h3 ⟨rfl, n4, m5, hb6, k7, k8, lo9⟩
 refine Ln ?_
 refine leave_normal rfl ?_
 exact ⟨rfl, _, _, hb6, by omega, by omega, ((LeO.refl b h).trans lo9)⟩
theorem c93 {hB h : AH} {b n m : Nat} {s : ByteArray} {c : Int} {lo : Int} {hi : Int} {l : Bool} (hb : HB hB h b n m) (hn : n + 4 ≤ 4294967296) (hm : m + 1 ≤ 4294967296) (hs : s.size ≤ 1048576) (bc : (-9223372036854775808) ≤ c ∧ c ≤ 9223372036854775807) (blo : (-9223372036854775808) ≤ lo ∧ lo ≤ 9223372036854775807) (bhi : (-9223372036854775808) ≤ hi ∧ hi ≤ 9223372036854775807) : JCall Tryz.prog 93 [.ptr (some (b, 0)), .agg [.str s, .int .i64 c, .int .i64 lo, .int .i64 hi, .bool l]] h (fun e h' => e = .ret (.tuple []) ∧ ∃ n2 m2, HB hB h' b n2 m2 ∧ n2 ≤ n + 4 ∧ m2 ≤ m + 1 ∧ LeO b h h') := by
 refine JCall_of_J (N := 20) (sl := [(0, _), (1, _)]) isf93 rfl (by show 2 ≤ 20; decide) rfl ?_
 refine Sr (Lz (x_box (z := [.str s, .int .i64 c, .int .i64 lo, .int .i64 hi, .bool l]) ?_))
 intro i1 h2 w3
 have ne4 : b ≠ i1 := hb.ne w3.free
 refine Sr (Lo (w_move ?_))
 refine Lo (w_fieldAddr tF70_0 tZ9 ?_)
 refine Lo (w_ldC tC9 w3.own.cells ?_)
 have lo5 : LeO b h h2 := ((LeO.refl b h).le w3.le)
 have o6 : HB hB h2 b n m := (hb.le w3.le)
 refine Lo (w_call' isf103 ?_ (hR := by exact c103 o6 (by omega) (by omega) (by assumption)))
 rintro e7 h8 ⟨rfl, n9, m10, hb11, k12, k13, lo14⟩
 refine Ln ?_
 refine Sr (Lo (w_move ?_))
 refine Lo (w_fieldAddr tF70_1 tZ3 ?_)
 refine Lo (w_ldC tC3 (lo14.own w3.own ne4.symm).cells ?_)
 refine Lo (w_call' isf8 ?_ (hR := by exact c8 hb11 (by omega) (by omega) (by omega)))
 rintro e15 h16 ⟨rfl, n17, m18, hb19, k20, k21, lo22⟩
 refine Ln ?_
 refine Sr (Lo (w_move ?_))
 refine Lo (w_fieldAddr tF70_2 tZ68 ?_)
 refine Lo (w_ldA (l := [.int .i64 lo, .int .i64 hi]) tA68 (lo22.own (lo14.own w3.own ne4.symm) ne4.symm).cells ?_)
 refine Lo (w_call' isf55 ?_ (hR := by exact c55 hb19 (by omega) (by omega) (by omega) (by omega)))
 rintro e23 h24 ⟨rfl, n25, m26, hb27, k28, k29, lo30⟩
 refine Ln ?_
 refine Rg (Lo (w_move ?_))
 refine Lo (w_fieldAddr tF70_3 tZ4 ?_)
 refine Lo (w_ldC tC4 (lo30.own (lo22.own (lo14.own w3.own ne4.symm) ne4.symm) ne4.symm).cells ?_)
 refine Lo (w_call' isf15 ?_ (hR := by exact c15 hb27 (by omega) (by omega)))
 rintro e31 h32 ⟨rfl, n33, m34, hb35, k36, k37, lo38⟩
 refine Ln ?_
 refine leave_normal rfl ?_
 exact ⟨rfl, _, _, hb35, by omega, by omega, ((((lo5.trans lo14).trans lo22).trans lo30).trans lo38)⟩
theorem c92 {hB h : AH} {b n m : Nat} {p : Option (Nat × Nat)} {k : Nat} {cp : Cap} (hb : HB hB h b n m) (hn : n + 4194305 ≤ 4294967296) (hm : m + 1048576 ≤ 4294967296) (sp : SlV hB p k 5 (okL hB [.str, .i, .i, .i, .bool])) (mp : k ≤ 1048576) : JCall Tryz.prog 92 [.ptr (some (b, 0)), .slice p k cp, .fn (.func 93) [] []] h (fun e h' => e = .ret (.tuple []) ∧ ∃ n2 m2, HB hB h' b n2 m2 ∧ n2 ≤ n + 4194305 ∧ m2 ≤ m + 1048576 ∧ LeO b h h') := by
 refine JCall_of_J (N := 31) (sl := [(0, _), (1, _), (2, _)]) isf92 rfl (by show 3 ≤ 31; decide) rfl ?_
 refine Sr (Lo (w_move ?_))
 refine Lo (w_move ?_)
 refine Lo (w_nilCheck_ptr ?_)
 refine Lo (w_fieldAddr tF33_0 tZ28 ?_)
 obtain ⟨vn2, vs3, x4⟩ := id hb
 refine Lo (w_ldC tC28 x4.own.cells ?_)
 refine Lo (w_move ?_)
 refine Lo (w_len tS22 ?_)
 refine Lo (x_buildSlice (out := [.int .i64 ((k : Nat) : Int)]) tS28 tZ3 tN3 ?_)
 intro i5 h6 w7
 have ne8 : b ≠ i5 := hb.ne w7.free
 refine Lo (x_appendF (hB := hB) (E := EInt hB) tG28_28 (x4.step w7.le).ints (x4.step w7.le).le (w7.own.slE rfl ⟨_, _, rfl, ⟨_, rfl, by omega, by omega⟩, rfl⟩) ?_ (hq := by exact fun h => absurd h (by decide)) (hE := by exact fun _ h => okL_one h))
 intro v9 h10 bl11 le12 st13 fr14
 refine Lo (w_nilCheck_ptr ?_)
 refine Lo (w_fieldAddr tF33_0 tZ28 ?_)
 refine Lz (x_store (vc := [v9]) (cs' := [v9, vs3]) tZ28 (st13.ownG (x4.step w7.le).ints (x4.step w7.le).own) ?_ (hvc := bl11.cells1) (h1 := bl11.all1))
 intro h15 bt16 o17
 obtain ⟨hb18, lo19⟩ := x4.putN w7.le bl11 le12 st13 fr14 bt16 o17
 refine Sr (Lz (w_assign ?_))
 refine Bk ?_
 refine J_for4 (x := C92 [0, 0, 1, 1]) (fun (x6_20 : Int) (h22 : AH) (n23 : Nat) (m24 : Nat) => ⟨[(0, .ptr (some (b, 0))), (1, .slice p k cp), (2, .fn (.func 93) [] []), (6, .int .i64 x6_20)], h22, 31, []⟩) (fun (x6_20 : Int) (h22 : AH) (n23 : Nat) (m24 : Nat) => 0 ≤ x6_20 ∧ x6_20 ≤ k ∧ HB hB h22 b n23 m24 ∧ LeO b h15 h22 ∧ ((n23 : Nat) : Int) ≤ ((n + 1 : Nat) : Int) + 4 * x6_20 ∧ ((m24 : Nat) : Int) ≤ ((m : Nat) : Int) + 1 * x6_20) (fun (x6_20 : Int) (h22 : AH) (n23 : Nat) (m24 : Nat) => ((k : Int) - x6_20).toNat) 0 h15 (n + 1) m rfl ⟨rfl, rfl, rfl, rfl, rfl, rfl, rfl, trivial⟩ ⟨(by omega), (by omega), (hb18), ((LeO.refl _ _)), (by omega), (by omega)⟩ ?_
 intro x6_20 h22 n23 m24 hI
 obtain ⟨hxx6_20, iv21, hb25, lo26, iv27, iv28⟩ : 0 ≤ x6_20 ∧ x6_20 ≤ k ∧ HB hB h22 b n23 m24 ∧ LeO b h15 h22 ∧ ((n23 : Nat) : Int) ≤ ((n + 1 : Nat) : Int) + 4 * x6_20 ∧ ((m24 : Nat) : Int) ≤ ((m : Nat) : Int) + 1 * x6_20 := hI
 show J _ _ (C92 [0, 0, 1, 1]) ⟨[(0, .ptr (some (b, 0))), (1, .slice p k cp), (2, .fn (.func 93) [] []), (6, .int .i64 x6_20)], h22, 31, []⟩ _
 refine Sq (Sr ?_)
 refine Lo (w_move ?_)
 refine Lo (w_move ?_)
 refine Lo (w_len tS22 ?_)
 refine Lz (w_lt ?_)
 refine Cn (fun q29 => ?_) (fun q29 => ?_)
 · refine Sk ?_
   refine Sq (Bk ?_)
   refine Rg (Lo (w_move ?_))
   refine Lo (w_move ?_)
   refine Lo (w_move ?_)
   refine Lo (w_move ?_)
   have l0_5_30 : Le hB h22 := hb25.leB
   obtain ⟨i38, o39, cs37, l36, rfl, hc31, hl32, hk33, hE34, ht35⟩ := (sp.le l0_5_30).at (i := x6_20) (by omega) (by omega)
   obtain ⟨_, _, rfl, ⟨s40, rfl, hs40⟩, _, _, rfl, ⟨n41, rfl, lon41, hin41⟩, _, _, rfl, ⟨n42, rfl, lon42, hin42⟩, _, _, rfl, ⟨n43, rfl, lon43, hin43⟩, _, _, rfl, ⟨b44, rfl⟩, rfl⟩ := hE34
   refine Lo (w_indexAddrS tS22 tZ70 ?_)
   refine Lo (w_ldA tA70 hc31 ?_ (hn := hl32) (hl := ht35))
   refine Lo (w_callV' ?_ (hR := by exact JApp_fn isf93 (c93 hb25 (by omega) (by omega) (by assumption) (by omega) (by omega) (by omega))))
   rintro e45 h46 ⟨rfl, n47, m48, hb49, k50, k51, lo52⟩
   refine Ln ?_
   refine Rg (Lo (w_move ?_))
   refine Lo (w_add ?_)
   refine Lz (w_assign ?_)
   exact ⟨(x6_20 + 1), h46, n47, m48, ⟨⟨(by omega), (by omega), hb49, (lo26.trans lo52), (by omega), (by omega)⟩, by omega⟩, rfl, rfl, rfl, rfl, rfl, rfl, rfl, trivial⟩
 · refine Ex ?_
   refine then_x (then_x (blk_eq rfl ?_))
   refine leave_normal rfl ?_
   exact ⟨rfl, _, _, hb25, by omega, by omega, (((LeO.refl b h).trans lo19).trans lo26)⟩
theorem c73 {hB h : AH} {b n m : Nat} {p : Option (Nat × Nat)} {k : Nat} {cp : Cap} (hb : HB hB h b n m) (hn : n + 4194305 ≤ 4294967296) (hm : m + 1048576 ≤ 4294967296) (sp : SlV hB p k 5 (okL hB [.str, .i, .i, .i, .bool])) (mp : k ≤ 1048576) : JCall Tryz.prog 73 [.ptr (some (b, 0)), .slice p k cp] h (fun e h' => e = .ret (.tuple []) ∧ ∃ n2 m2, HB hB h' b n2 m2 ∧ n2 ≤ n + 4194305 ∧ m2 ≤ m + 1048576 ∧ LeO b h h') := by
 refine JCall_of_J (N := 7) (sl := [(0, _), (1, _)]) isf73 rfl (by show 2 ≤ 7; decide) rfl ?_
 refine Rg (Lo (w_move ?_))
 refine Lo (w_move ?_)
 refine Lo (w_call' isf92 ?_ (hR := by exact c92 hb (by omega) (by omega) sp (by omega)))
 rintro e2 h3 ⟨rfl, n4, m5, hb6, k7, k8, lo9⟩
 refine Ln ?_
 refine leave_normal rfl ?_
 exact ⟨rfl, _, _, hb6, by omega, by omega, ((LeO.refl b h).trans lo9)⟩
theorem c95 {hB h : AH} {b n m : Nat} {s : ByteArray} {x : Int} (hb : HB hB h b n m) (hn : n + 1 ≤ 4294967296) (hm : m + 1 ≤ 4294967296) (hs : s.size ≤ 1048576) (bx : (-9223372036854775808) ≤ x ∧ x ≤ 9223372036854775807) : JCall Tryz.prog 95 [.ptr (some (b, 0)), .agg [.str s, .int .i64 x]] h (fun e h' => e = .ret (.tuple []) ∧ ∃ n2 m2, HB hB h' b n2 m2 ∧ n2 ≤ n + 1 ∧ m2 ≤ m + 1 ∧ LeO b h h') := by
 refine JCall_of_J (N := 12) (sl := [(0, _), (1, _)]) isf95 rfl (by show 2 ≤ 12; decide) rfl ?_
 refine Sr (Lz (x_box (z := [.str s, .int .i64 x]) ?_))
 intro i1 h2 w3
 have ne4 : b ≠ i1 := hb.ne w3.free
 refine Sr (Lo (w_move ?_))
 refine Lo (w_fieldAddr tF76_0 tZ9 ?_)
 refine Lo (w_ldC tC9 w3.own.cells ?_)
 have lo5 : LeO b h h2 := ((LeO.refl b h).le w3.le)
 have o6 : HB hB h2 b n m := (hb.le w3.le)
 refine Lo (w_call' isf103 ?_ (hR := by exact c103 o6 (by omega) (by omega) (by assumption)))
 rintro e7 h8 ⟨rfl, n9, m10, hb11, k12, k13, lo14⟩
 refine Ln ?_
 refine Rg (Lo (w_move ?_))
 refine Lo (w_fieldAddr tF76_1 tZ3 ?_)
 refine Lo (w_ldC tC3 (lo14.own w3.own ne4.symm).cells ?_)
 refine Lo (w_call' isf8 ?_ (hR := by exact c8 hb11 (by omega) (by omega) (by omega)))
 rintro e15 h16 ⟨rfl, n17, m18, hb19, k20, k21, lo22⟩
 refine Ln ?_
 refine leave_normal rfl ?_
 exact ⟨rfl, _, _, hb19, by omega, by omega, ((lo5.trans lo14).trans lo22)⟩
theorem c94 {hB h : AH} {b n m : Nat} {p : Option (Nat × Nat)} {k : Nat} {cp : Cap} (hb : HB hB h b n m) (hn : n + 1048577 ≤ 4294967296) (hm : m + 1048576 ≤ 4294967296) (sp : SlV hB p k 2 (okL hB [.str, .i])) (mp : k ≤ 1048576) : JCall Tryz.prog 94 [.ptr (some (b, 0)), .slice p k cp, .fn (.func 95) [] []] h (fun e h' => e = .ret (.tuple []) ∧ ∃ n2 m2, HB hB h' b n2 m2 ∧ n2 ≤ n + 1048577 ∧ m2 ≤ m + 1048576 ∧ LeO b h h') := by
 refine JCall_of_J (N := 31) (sl := [(0, _), (1, _), (2, _)]) isf94 rfl (by show 3 ≤ 31; decide) rfl ?_
 refine Sr (Lo (w_move ?_))
 refine Lo (w_move ?_)
 refine Lo (w_nilCheck_ptr ?_)
 refine Lo (w_fieldAddr tF33_0 tZ28 ?_)
 obtain ⟨vn2, vs3, x4⟩ := id hb
 refine Lo (w_ldC tC28 x4.own.cells ?_)
 refine Lo (w_move ?_)
 refine Lo (w_len tS23 ?_)
 refine Lo (x_buildSlice (out := [.int .i64 ((k : Nat) : Int)]) tS28 tZ3 tN3 ?_)
 intro i5 h6 w7
 have ne8 : b ≠ i5 := hb.ne w7.free
 refine Lo (x_appendF (hB := hB) (E := EInt hB) tG28_28 (x4.step w7.le).ints (x4.step w7.le).le (w7.own.slE rfl ⟨_, _, rfl, ⟨_, rfl, by omega, by omega⟩, rfl⟩) ?_ (hq := by exact fun h => absurd h (by decide)) (hE := by exact fun _ h => okL_one h))
 intro v9 h10 bl11 le12 st13 fr14
 refine Lo (w_nilCheck_ptr ?_)
 refine Lo (w_fieldAddr tF33_0 tZ28 ?_)
 refine Lz (x_store (vc := [v9]) (cs' := [v9, vs3]) tZ28 (st13.ownG (x4.step w7.le).ints (x4.step w7.le).own) ?_ (hvc := bl11.cells1) (h1 := bl11.all1))
 intro h15 bt16 o17
 obtain ⟨hb18, lo19⟩ := x4.putN w7.le bl11 le12 st13 fr14 bt16 o17
 refine Sr (Lz (w_assign ?_))
 refine Bk ?_
 refine J_for4 (x := C94 [0, 0, 1, 1]) (fun (x6_20 : Int) (h22 : AH) (n23 : Nat) (m24 : Nat) => ⟨[(0, .ptr (some (b, 0))), (1, .slice p k cp), (2, .fn (.func 95) [] []), (6, .int .i64 x6_20)], h22, 31, []⟩) (fun (x6_20 : Int) (h22 : AH) (n23 : Nat) (m24 : Nat) => 0 ≤ x6_20 ∧ x6_20 ≤ k ∧ HB hB h22 b n23 m24 ∧ LeO b h15 h22 ∧ ((n23 : Nat) : Int) ≤ ((n + 1 : Nat) : Int) + 1 * x6_20 ∧ ((m24 : Nat) : Int) ≤ ((m : Nat) : Int) + 1 * x6_20) (fun (x6_20 : Int) (h22 : AH) (n23 : Nat) (m24 : Nat) => ((k : Int) - x6_20).toNat) 0 h15 (n + 1) m rfl ⟨rfl, rfl, rfl, rfl, rfl, rfl, rfl, trivial⟩ ⟨(by omega), (by omega), (hb18), ((LeO.refl _ _)), (by omega), (by omega)⟩ ?_
 intro x6_20 h22 n23 m24 hI
 obtain ⟨hxx6_20, iv21, hb25, lo26, iv27, iv28⟩ : 0 ≤ x6_20 ∧ x6_20 ≤ k ∧ HB hB h22 b n23 m24 ∧ LeO b h15 h22 ∧ ((n23 : Nat) : Int) ≤ ((n + 1 : Nat) : Int) + 1 * x6_20 ∧ ((m24 : Nat) : Int) ≤ ((m : Nat) : Int) + 1 * x6_20 := hI
 show J _ _ (C94 [0, 0, 1, 1]) ⟨[(0, .ptr (some (b, 0))), (1, .slice p k cp), (2, .fn (.func 95) [] []), (6, .int .i64 x6_20)], h22, 31, []⟩ _
 refine Sq (Sr ?_)
 refine Lo (w_move ?_)
 refine Lo (w_move ?_)
 refine Lo (w_len tS23 ?_)
 refine Lz (w_lt ?_)
 refine Cn (fun q29 => ?_) (fun q29 => ?_)
 · refine Sk ?_
   refine Sq (Bk ?_)
   refine Rg (Lo (w_move ?_))
   refine Lo (w_move ?_)
   refine Lo (w_move ?_)
   refine Lo (w_move ?_)
   have l0_5_30 : Le hB h22 := hb25.leB
   obtain ⟨i38, o39, cs37, l36, rfl, hc31, hl32, hk33, hE34, ht35⟩ := (sp.le l0_5_30).at (i := x6_20) (by omega) (by omega)
   obtain ⟨_, _, rfl, ⟨s40, rfl, hs40⟩, _, _, rfl, ⟨n41, rfl, lon41, hin41⟩, rfl⟩ := hE34
   refine Lo (w_indexAddrS tS23 tZ76 ?_)
   refine Lo (w_ldA tA76 hc31 ?_ (hn := hl32) (hl := ht35))
   refine Lo (w_callV' ?_ (hR := by exact JApp_fn isf95 (c95 hb25 (by omega) (by omega) (by assumption) (by omega))))
   rintro e42 h43 ⟨rfl, n44, m45, hb46, k47, k48, lo49⟩
   refine Ln ?_
   refine Rg (Lo (w_move ?_))
   refine Lo (w_add ?_)
   refine Lz (w_assign ?_)
   exact ⟨(x6_20 + 1), h43, n44, m45, ⟨⟨(by omega), (by omega), hb46, (lo26.trans lo49), (by omega), (by omega)⟩, by omega⟩, rfl, rfl, rfl, rfl, rfl, rfl, rfl, trivial⟩
 · refine Ex ?_
   refine then_x (then_x (blk_eq rfl ?_))
   refine leave_normal rfl ?_
   exact ⟨rfl, _, _, hb25, by omega, by omega, (((LeO.refl b h).trans lo19).trans lo26)⟩
theorem c74 {hB h : AH} {b n m : Nat} {p : Option (Nat × Nat)} {k : Nat} {cp : Cap} (hb : HB hB h b n m) (hn : n + 1048577 ≤ 4294967296) (hm : m + 1048576 ≤ 4294967296) (sp : SlV hB p k 2 (okL hB [.str, .i])) (mp : k ≤ 1048576) : JCall Tryz.prog 74 [.ptr (some (b, 0)), .slice p k cp] h (fun e h' => e = .ret (.tuple []) ∧ ∃ n2 m2, HB hB h' b n2 m2 ∧ n2 ≤ n + 1048577 ∧ m2 ≤ m + 1048576 ∧ LeO b h h') := by
 refine JCall_of_J (N := 7) (sl := [(0, _), (1, _)]) isf74 rfl (by show 2 ≤ 7; decide) rfl ?_
 refine Rg (Lo (w_move ?_))
 refine Lo (w_move ?_)
 refine Lo (w_call' isf94 ?_ (hR := by exact c94 hb (by omega) (by omega) sp (by omega)))
 rintro e2 h3 ⟨rfl, n4, m5, hb6, k7, k8, lo9⟩
 refine Ln ?_
 refine leave_normal rfl ?_
 exact ⟨rfl, _, _, hb6, by omega, by omega, ((LeO.refl b h).trans lo9)⟩
theorem c97 {hB h : AH} {b n m : Nat} {x : Int} {u : Bool} (hb : HB hB h b n m) (hn : n + 2 ≤ 4294967296) (hm : m + 0 ≤ 4294967296) (bx : (-9223372036854775808) ≤ x ∧ x ≤ 9223372036854775807) : JCall Tryz.prog 97 [.ptr (some (b, 0)), .agg [.int .i64 x, .bool u]] h (fun e h' => e = .ret (.tuple []) ∧ ∃ n2 m2, HB hB h' b n2 m2 ∧ n2 ≤ n + 2 ∧ m2 ≤ m + 0 ∧ LeO b h h') := by
 refine JCall_of_J (N := 12) (sl := [(0, _), (1, _)]) isf97 rfl (by show 2 ≤ 12; decide) rfl ?_
 refine Sr (Lz (x_box (z := [.int .i64 x, .bool u]) ?_))
 intro i1 h2 w3
 have ne4 : b ≠ i1 := hb.ne w3.free
 refine Sr (Lo (w_move ?_))
 refine Lo (w_fieldAddr tF80_0 tZ3 ?_)
 refine Lo (w_ldC tC3 w3.own.cells ?_)
 have lo5 : LeO b h h2 := ((LeO.refl b h).le w3.le)
 have o6 : HB hB h2 b n m := (hb.le w3.le)
 refine Lo (w_call' isf8 ?_ (hR := by exact c8 o6 (by omega) (by omega) (by omega)))
 rintro e7 h8 ⟨rfl, n9, m10, hb11, k12, k13, lo14⟩
 refine Ln ?_
 refine Rg (Lo (w_move ?_))
 refine Lo (w_fieldAddr tF80_1 tZ4 ?_)
 refine Lo (w_ldC tC4 (lo14.own w3.own ne4.symm).cells ?_)
 refine Lo (w_call' isf15 ?_ (hR := by exact c15 hb11 (by omega) (by omega)))
 rintro e15 h16 ⟨rfl, n17, m18, hb19, k20, k21, lo22⟩
 refine Ln ?_
 refine leave_normal rfl ?_
 exact ⟨rfl, _, _, hb19, by omega, by omega, ((lo5.trans lo14).trans lo22)⟩
theorem c96 {hB h : AH} {b n m : Nat} {p : Option (Nat × Nat)} {k : Nat} {cp : Cap} (hb : HB hB h b n m) (hn : n + 2097153 ≤ 4294967296) (hm : m + 0 ≤ 4294967296) (sp : SlV hB p k 2 (okL hB [.i, .bool])) (mp : k ≤ 1048576) : JCall Tryz.prog 96 [.ptr (some (b, 0)), .slice p k cp, .fn (.func 97) [] []] h (fun e h' => e = .ret (.tuple []) ∧ ∃ n2 m2, HB hB h' b n2 m2 ∧ n2 ≤ n + 2097153 ∧ m2 ≤ m + 0 ∧ LeO b h h') := by
 refine JCall_of_J (N := 31) (sl := [(0, _), (1, _), (2, _)]) isf96 rfl (by show 3 ≤ 31; decide) rfl ?_
 refine Sr (Lo (w_move ?_))
 refine Lo (w_move ?_)
 refine Lo (w_nilCheck_ptr ?_)
 refine Lo (w_fieldAddr tF33_0 tZ28 ?_)
 obtain ⟨vn2, vs3, x4⟩ := id hb
 refine Lo (w_ldC tC28 x4.own.cells ?_)
 refine Lo (w_move ?_)
 refine Lo (w_len tS24 ?_)
 refine Lo (x_buildSlice (out := [.int .i64 ((k : Nat) : Int)]) tS28 tZ3 tN3 ?_)
 intro i5 h6 w7
 have ne8 : b ≠ i5 := hb.ne w7.free
 refine Lo (x_appendF (hB := hB) (E := EInt hB) tG28_28 (x4.step w7.le).ints (x4.step w7.le).le (w7.own.slE rfl ⟨_, _, rfl, ⟨_, rfl, by omega, by omega⟩, rfl⟩) ?_ (hq := by exact fun h => absurd h (by decide)) (hE := by exact fun _ h => okL_one h))
 intro v9 h10 bl11 le12 st13 fr14
 refine Lo (w_nilCheck_ptr ?_)
 refine Lo (w_fieldAddr tF33_0 tZ28 ?_)
 refine Lz (x_store (vc := [v9]) (cs' := [v9, vs3]) tZ28 (st13.ownG (x4.step w7.le).ints (x4.step w7.le).own) ?_ (hvc := bl11.cells1) (h1 := bl11.all1))
 intro h15 bt16 o17
 obtain ⟨hb18, lo19⟩ := x4.putN w7.le bl11 le12 st13 fr14 bt16 o17
 refine Sr (Lz (w_assign ?_))
 refine Bk ?_
 refine J_for4 (x := C96 [0, 0, 1, 1]) (fun (x6_20 : Int) (h22 : AH) (n23 : Nat) (m24 : Nat) => ⟨[(0, .ptr (some (b, 0))), (1, .slice p k cp), (2, .fn (.func 97) [] []), (6, .int .i64 x6_20)], h22, 31, []⟩) (fun (x6_20 : Int) (h22 : AH) (n23 : Nat) (m24 : Nat) => 0 ≤ x6_20 ∧ x6_20 ≤ k ∧ HB hB h22 b n23 m24 ∧ LeO b h15 h22 ∧ ((n23 : Nat) : Int) ≤ ((n + 1 : Nat) : Int) + 2 * x6_20 ∧ ((m24 : Nat) : Int) ≤ ((m : Nat) : Int) + 0 * x6_20) (fun (x6_20 : Int) (h22 : AH) (n23 : Nat) (m24 : Nat) => ((k : Int) - x6_20).toNat) 0 h15 (n + 1) m rfl ⟨rfl, rfl, rfl, rfl, rfl, rfl, rfl, trivial⟩ ⟨(by omega), (by omega), (hb18), ((LeO.refl _ _)), (by omega), (by omega)⟩ ?_
 intro x6_20 h22 n23 m24 hI
 obtain ⟨hxx6_20, iv21, hb25, lo26, iv27, iv28⟩ : 0 ≤ x6_20 ∧ x6_20 ≤ k ∧ HB hB h22 b n23 m24 ∧ LeO b h15 h22 ∧ ((n23 : Nat) : Int) ≤ ((n + 1 : Nat) : Int) + 2 * x6_20 ∧ ((m24 : Nat) : Int) ≤ ((m : Nat) : Int) + 0 * x6_20 := hI
 show J _ _ (C96 [0, 0, 1, 1]) ⟨[(0, .ptr (some (b, 0))), (1, .slice p k cp), (2, .fn (.func 97) [] []), (6, .int .i64 x6_20)], h22, 31, []⟩ _
 refine Sq (Sr ?_)
 refine Lo (w_move ?_)
 refine Lo (w_move ?_)
 refine Lo (w_len tS24 ?_)
 refine Lz (w_lt ?_)
 refine Cn (fun q29 => ?_) (fun q29 => ?_)
 · refine Sk ?_
   refine Sq (Bk ?_)
   refine Rg (Lo (w_move ?_))
   refine Lo (w_move ?_)
   refine Lo (w_move ?_)
   refine Lo (w_move ?_)
   have l0_5_30 : Le hB h22 := hb25.leB
   obtain ⟨i38, o39, cs37, l36, rfl, hc31, hl32, hk33, hE34, ht35⟩ := (sp.le l0_5_30).at (i := x6_20) (by omega) (by omega)
   obtain ⟨_, _, rfl, ⟨n40, rfl, lon40, hin40⟩, _, _, rfl, ⟨b41, rfl⟩, rfl⟩ := hE34
   refine Lo (w_indexAddrS tS24 tZ80 ?_)
   refine Lo (w_ldA tA80 hc31 ?_ (hn := hl32) (hl := ht35))
   refine Lo (w_callV' ?_ (hR := by exact JApp_fn isf97 (c97 hb25 (by omega) (by omega) (by omega))))
   rintro e42 h43 ⟨rfl, n44, m45, hb46, k47, k48, lo49⟩
   refine Ln ?_
   refine Rg (Lo (w_move ?_))
   refine Lo (w_add ?_)
   refine Lz (w_assign ?_)
   exact ⟨(x6_20 + 1), h43, n44, m45, ⟨⟨(by omega), (by omega), hb46, (lo26.trans lo49), (by omega), (by omega)⟩, by omega⟩, rfl, rfl, rfl, rfl, rfl, rfl, rfl, trivial⟩
 · refine Ex ?_
   refine then_x (then_x (blk_eq rfl ?_))
   refine leave_normal rfl ?_
   exact ⟨rfl, _, _, hb25, by omega, by omega, (((LeO.refl b h).trans lo19).trans lo26)⟩
theorem c75 {hB h : AH} {b n m : Nat} {p : Option (Nat × Nat)} {k : Nat} {cp : Cap} (hb : HB hB h b n m) (hn : n + 2097153 ≤ 4294967296) (hm : m + 0 ≤ 4294967296) (sp : SlV hB p k 2 (okL hB [.i, .bool])) (mp : k ≤ 1048576) : JCall Tryz.prog 75 [.ptr (some (b, 0)), .slice p k cp] h (fun e h' => e = .ret (.tuple []) ∧ ∃ n2 m2, HB hB h' b n2 m2 ∧ n2 ≤ n + 2097153 ∧ m2 ≤ m + 0 ∧ LeO b h h') := by
 refine JCall_of_J (N := 7) (sl := [(0, _), (1, _)]) isf75 rfl (by show 2 ≤ 7; decide) rfl ?_
 refine Rg (Lo (w_move ?_))
 refine Lo (w_move ?_)
 refine Lo (w_call' isf96 ?_ (hR := by exact c96 hb (by omega) (by omega) sp (by omega)))
 rintro e2 h3 ⟨rfl, n4, m5, hb6, k7, k8, lo9⟩
 refine Ln ?_
 refine leave_normal rfl ?_
 exact ⟨rfl, _, _, hb6, by omega, by omega, ((LeO.refl b h).trans lo9)⟩
theorem c99 {hB h : AH} {b n m : Nat} {x : Int} {u : Int} {z : Int} {w : Int} (hb : HB hB h b n m) (hn : n + 4 ≤ 4294967296) (hm : m + 0 ≤ 4294967296) (bx : (-9223372036854775808) ≤ x ∧ x ≤ 9223372036854775807) (bu : (-9223372036854775808) ≤ u ∧ u ≤ 9223372036854775807) (bz : (-9223372036854775808) ≤ z ∧ z ≤ 9223372036854775807) (bw : (-9223372036854775808) ≤ w ∧ w ≤ 9223372036854775807) : JCall Tryz.prog 99 [.ptr (some (b, 0)), .agg [.int .i64 x, .int .i64 u, .int .i64 z, .int .i64 w]] h (fun e h' => e = .ret (.tuple []) ∧ ∃ n2 m2, HB hB h' b n2 m2 ∧ n2 ≤ n + 4 ∧ m2 ≤ m + 0 ∧ LeO b h h') := by
 refine JCall_of_J (N := 20) (sl := [(0, _), (1, _)]) isf99 rfl (by show 2 ≤ 20; decide) rfl ?_
 refine Sr (Lz (x_box (z := [.int .i64 x, .int .i64 u, .int .i64 z, .int .i64 w]) ?_))
 intro i1 h2 w3
 have ne4 : b ≠ i1 := hb.ne w3.free
 refine Sr (Lo (w_move ?_))
 refine Lo (w_fieldAddr tF82_0 tZ3 ?_)
 refine Lo (w_ldC tC3 w3.own.cells ?_)
 have lo5 : LeO b h h2 := ((LeO.refl b h).le w3.le)
 have o6 : HB hB h2 b n m := (hb.le w3.le)
 refine Lo (w_call' isf8 ?_ (hR := by exact c8 o6 (by omega) (by omega) (by omega)))
 rintro e7 h8 ⟨rfl, n9, m10, hb11, k12, k13, lo14⟩
 refine Ln ?_
 refine Sr (Lo (w_move ?_))
 refine Lo (w_fieldAddr tF82_1 tZ3 ?_)
 refine Lo (w_ldC tC3 (lo14.own w3.own ne4.symm).cells ?_)
 refine Lo (w_call' isf8 ?_ (hR := by exact c8 hb11 (by omega) (by omega) (by omega)))
 rintro e15 h16 ⟨rfl, n17, m18, hb19, k20, k21, lo22⟩
 refine Ln ?_
 refine Sr (Lo (w_move ?_))
 refine Lo (w_fieldAddr tF82_2 tZ3 ?_)
 refine Lo (w_ldC tC3 (lo22.own (lo14.own w3.own ne4.symm) ne4.symm).cells ?_)
 refine Lo (w_call' isf8 ?_ (hR := by exact c8 hb19 (by omega) (by omega) (by omega)))
 rintro e23 h24 ⟨rfl, n25, m26, hb27, k28, k29, lo30⟩
 refine Ln ?_
 refine Rg (Lo (w_move ?_))
 refine Lo (w_fieldAddr tF82_3 tZ3 ?_)
 refine Lo (w_ldC tC3 (lo30.own (lo22.own (lo14.own w3.own ne4.symm) ne4.symm) ne4.symm).cells ?_)
 refine Lo (w_call' isf8 ?_ (hR := by exact c8 hb27 (by omega) (by omega) (by omega)))
 rintro e31 h32 ⟨rfl, n33, m34, hb35, k36, k37, lo38⟩
 refine Ln ?_
 refine leave_normal rfl ?_
 exact ⟨rfl, _, _, hb35, by omega, by omega, ((((lo5.trans lo14).trans lo22).trans lo30).trans lo38)⟩
theorem c98 {hB h : AH} {b n m : Nat} {p : Option (Nat × Nat)} {k : Nat} {cp : Cap} (hb : HB hB h b n m) (hn : n + 4194305 ≤ 4294967296) (hm : m + 0 ≤ 4294967296) (sp : SlV hB p k 4 (okL hB [.i, .i, .i, .i])) (mp : k ≤ 1048576) : JCall Tryz.prog 98 [.ptr (some (b, 0)), .slice p k cp, .fn (.func 99) [] []] h (fun e h' => e = .ret (.tuple []) ∧ ∃ n2 m2, HB hB h' b n2 m2 ∧ n2 ≤ n + 4194305 ∧ m2 ≤ m + 0 ∧ LeO b h h') := by
 refine JCall_of_J (N := 31) (sl := [(0, _), (1, _), (2, _)]) isf98 rfl (by show 3 ≤ 31; decide) rfl ?_
 refine Sr (Lo (w_move ?_))
 refine Lo (w_move ?_)
 refine Lo (w_nilCheck_ptr ?_)
 refine Lo (w_fieldAddr tF33_0 tZ28 ?_)
 obtain ⟨vn2, vs3, x4⟩ := id hb
 refine Lo (w_ldC tC28 x4.own.cells ?_)
 refine Lo (w_move ?_)
 refine Lo (w_len tS25 ?_)
 refine Lo (x_buildSlice (out := [.int .i64 ((k : Nat) : Int)]) tS28 tZ3 tN3 ?_)
 intro i5 h6 w7
 have ne8 : b ≠ i5 := hb.ne w7.free
 refine Lo (x_appendF (hB := hB) (E := EInt hB) tG28_28 (x4.step w7.le).ints (x4.step w7.le).le (w7.own.slE rfl ⟨_, _, rfl, ⟨_, rfl, by omega, by omega⟩, rfl⟩) ?_ (hq := by exact fun h => absurd h (by decide)) (hE := by exact fun _ h => okL_one h))
 intro v9 h10 bl11 le12 st13 fr14
 refine Lo (w_nilCheck_ptr ?_)
 refine Lo (w_fieldAddr tF33_0 tZ28 ?_)
 refine Lz (x_store (vc := [v9]) (cs' := [v9, vs3]) tZ28 (st13.ownG (x4.step w7.le).ints (x4.step w7.le).own) ?_ (hvc := bl11.cells1) (h1 := bl11.all1))
 intro h15 bt16 o17
 obtain ⟨hb18, lo19⟩ := x4.putN w7.le bl11 le12 st13 fr14 bt16 o17
 refine Sr (Lz (w_assign ?_))
 refine Bk ?_
 refine J_for4 (x := C98 [0, 0, 1, 1]) (fun (x6_20 : Int) (h22 : AH) (n23 : Nat) (m24 : Nat) => ⟨[(0, .ptr (some (b, 0))), (1, .slice p k cp), (2, .fn (.func 99) [] []), (6, .int .i64 x6_20)], h22, 31, []⟩) (fun (x6_20 : Int) (h22 : AH) (n23 : Nat) (m24 : Nat) => 0 ≤ x6_20 ∧ x6_20 ≤ k ∧ HB hB h22 b n23 m24 ∧ LeO b h15 h22 ∧ ((n23 : Nat) : Int) ≤ ((n + 1 : Nat) : Int) + 4 * x6_20 ∧ ((m24 : Nat) : Int) ≤ ((m : Nat) : Int) + 0 * x6_20) (fun (x6_20 : Int) (h22 : AH) (n23 : Nat) (m24 : Nat) => ((k : Int) - x6_20).toNat) 0 h15 (n + 1) m rfl ⟨rfl, rfl, rfl, rfl, rfl, rfl, rfl, trivial⟩ ⟨(by omega), (by omega), (hb18), ((LeO.refl _ _)), (by omega), (by omega)⟩ ?_
 intro x6_20 h22 n23 m24 hI
 obtain ⟨hxx6_20, iv21, hb25, lo26, iv27, iv28⟩ : 0 ≤ x6_20 ∧ x6_20 ≤ k ∧ HB hB h22 b n23 m24 ∧ LeO b h15 h22 ∧ ((n23 : Nat) : Int) ≤ ((n + 1 : Nat) : Int) + 4 * x6_20 ∧ ((m24 : Nat) : Int) ≤ ((m : Nat) : Int) + 0 * x6_20 := hI
 show J _ _ (C98 [0, 0, 1, 1]) ⟨[(0, .ptr (some (b, 0))), (1, .slice p k cp), (2, .fn (.func 99) [] []), (6, .int .i64 x6_20)], h22, 31, []⟩ _
 refine Sq (Sr ?_)
 refine Lo (w_move ?_)
 refine Lo (w_move ?_)
 refine Lo (w_len tS25 ?_)
 refine Lz (w_lt ?_)
 refine Cn (fun q29 => ?_) (fun q29 => ?_)
 · refine Sk ?_
   refine Sq (Bk ?_)
   refine Rg (Lo (w_move ?_))
   refine Lo (w_move ?_)
   refine Lo (w_move ?_)
   refine Lo (w_move ?_)
   have l0_5_30 : Le hB h22 := hb25.leB
   obtain ⟨i38, o39, cs37, l36, rfl, hc31, hl32, hk33, hE34, ht35⟩ := (sp.le l0_5_30).at (i := x6_20) (by omega) (by omega)
   obtain ⟨_, _, rfl, ⟨n40, rfl, lon40, hin40⟩, _, _, rfl, ⟨n41, rfl, lon41, hin41⟩, _, _, rfl, ⟨n42, rfl, lon42, hin42⟩, _, _, rfl, ⟨n43, rfl, lon43, hin43⟩, rfl⟩ := hE34
   refine Lo (w_indexAddrS tS25 tZ82 ?_)
   refine Lo (w_ldA tA82 hc31 ?_ (hn := hl32) (hl := ht35))
   refine Lo (w_callV' ?_ (hR := by exact JApp_fn isf99 (c99 hb25 (by omega) (by omega) (by omega) (by omega) (by omega) (by omega))))
   rintro e44 h45 ⟨rfl, n46, m47, hb48, k49, k50, lo51⟩
   refine Ln ?_
   refine Rg (Lo (w_move ?_))
   refine Lo (w_add ?_)
   refine Lz (w_assign ?_)
   exact ⟨(x6_20 + 1), h45, n46, m47, ⟨⟨(by omega), (by omega), hb48, (lo26.trans lo51), (by omega), (by omega)⟩, by omega⟩, rfl, rfl, rfl, rfl, rfl, rfl, rfl, trivial⟩
 · refine Ex ?_
   refine then_x (then_x (blk_eq rfl ?_))
   refine leave_normal rfl ?_
   exact ⟨rfl, _, _, hb25, by omega, by omega, (((LeO.refl b h).trans lo19).trans lo26)⟩
theorem c76 {hB h : AH} {b n m : Nat} {p : Option (Nat × Nat)} {k : Nat} {cp : Cap} (hb : HB hB h b n m) (hn : n + 4194305 ≤ 4294967296) (hm : m + 0 ≤ 4294967296) (sp : SlV hB p k 4 (okL hB [.i, .i, .i, .i])) (mp : k ≤ 1048576) : JCall Tryz.prog 76 [.ptr (some (b, 0)), .slice p k cp] h (fun e h' => e = .ret (.tuple []) ∧ ∃ n2 m2, HB hB h' b n2 m2 ∧ n2 ≤ n + 4194305 ∧ m2 ≤ m + 0 ∧ LeO b h h') := by
 refine JCall_of_J (N := 7) (sl := [(0, _), (1, _)]) isf76 rfl (by show 2 ≤ 7; decide) rfl ?_
 refine Rg (Lo (w_move ?_))
 refine Lo (w_move ?_)
 refine Lo (w_call' isf98 ?_ (hR := by exact c98 hb (by omega) (by omega) sp (by omega)))
 rintro e2 h3 ⟨rfl, n4, m5, hb6, k7, k8, lo9⟩
 refine Ln ?_
 refine leave_normal rfl ?_
 exact ⟨rfl, _, _, hb6, by omega, by omega, ((LeO.refl b h).trans lo9)⟩
theorem c39 {hB h : AH} {b n m : Nat} {bp : Option (Nat × Nat)} {bn : Nat} {cbp : Cap} {rp : Option (Nat × Nat)} {rn : Nat} {crp : Cap} {ep : Option (Nat × Nat)} {en : Nat} {cep : Cap} {qp : Option (Nat × Nat)} {qn : Nat} {cqp : Cap} (hb : HB hB h b n m) (hn : n + 11534340 ≤ 4294967296) (hm : m + 2097152 ≤ 4294967296) (sbp : SlV hB bp bn 5 (okL hB [.str, .i, .i, .i, .bool])) (mbp : bn ≤ 1048576) (srp : SlV hB rp rn 2 (okL hB [.str, .i])) (mrp : rn ≤ 1048576) (sep : SlV hB ep en 2 (okL hB [.i, .bool])) (mep : en ≤ 1048576) (sqp : SlV hB qp qn 4 (okL hB [.i, .i, .i, .i])) (mqp : qn ≤ 1048576) : JCall Tryz.prog 39 [.ptr (some (b, 0)), .agg [.slice bp bn cbp, .slice rp rn crp, .slice ep en cep, .slice qp qn cqp]] h (fun e h' => e = .ret (.tuple []) ∧ ∃ n2 m2, HB hB h' b n2 m2 ∧ n2 ≤ n + 11534340 ∧ m2 ≤ m + 2097152 ∧ LeO b h h') := by
 refine JCall_of_J (N := 20) (sl := [(0, _), (1, _)]) isf39 rfl (by show 2 ≤ 20; decide) rfl ?_
 refine Sr (Lz (x_box (z := [.slice bp bn cbp, .slice rp rn crp, .slice ep en cep, .slice qp qn cqp]) ?_))
 intro i5 h6 w7
 have ne8 : b ≠ i5 := hb.ne w7.free
 refine Sr (Lo (w_move ?_))
 refine Lo (w_fieldAddr tF27_0 tZ22 ?_)
 refine Lo (w_ldC tC22 w7.own.cells ?_)
 have lo9 : LeO b h h6 := ((LeO.refl b h).le w7.le)
 have o10 : HB hB h6 b n m := (hb.le w7.le)
 refine Lo (w_call' isf73 ?_ (hR := by exact c73 o10 (by omega) (by omega) sbp (by omega)))
 rintro e11 h12 ⟨rfl, n13, m14, hb15, k16, k17, lo18⟩
 refine Ln ?_
 refine Sr (Lo (w_move ?_))
 refine Lo (w_fieldAddr tF27_1 tZ23 ?_)
 refine Lo (w_ldC tC23 (lo18.own w7.own ne8.symm).cells ?_)
 refine Lo (w_call' isf74 ?_ (hR := by exact c74 hb15 (by omega) (by omega) srp (by omega)))
 rintro e19 h20 ⟨rfl, n21, m22, hb23, k24, k25, lo26⟩
 refine Ln ?_
 refine Sr (Lo (w_move ?_))
 refine Lo (w_fieldAddr tF27_2 tZ24 ?_)
 refine Lo (w_ldC tC24 (lo26.own (lo18.own w7.own ne8.symm) ne8.symm).cells ?_)
 refine Lo (w_call' isf75 ?_ (hR := by exact c75 hb23 (by omega) (by omega) sep (by omega)))
 rintro e27 h28 ⟨rfl, n29, m30, hb31, k32, k33, lo34⟩
 refine Ln ?_
 refine Rg (Lo (w_move ?_))
 refine Lo (w_fieldAddr tF27_3 tZ25 ?_)
 refine Lo (w_ldC tC25 (lo34.own (lo26.own (lo18.own w7.own ne8.symm) ne8.symm) ne8.symm).cells ?_)
 refine Lo (w_call' isf76 ?_ (hR := by exact c76 hb31 (by omega) (by omega) sqp (by omega)))
 rintro e35 h36 ⟨rfl, n37, m38, hb39, k40, k41, lo42⟩
 refine Ln ?_
 refine leave_normal rfl ?_
 exact ⟨rfl, _, _, hb39, by omega, by omega, ((((lo9.trans lo18).trans lo26).trans lo34).trans lo42)⟩
theorem c4 {hB h : AH} {b n m : Nat} {bp : Option (Nat × Nat)} {bn : Nat} {cbp : Cap} {rp : Option (Nat × Nat)} {rn : Nat} {crp : Cap} {ep : Option (Nat × Nat)} {en : Nat} {cep : Cap} {qp : Option (Nat × Nat)} {qn : Nat} {cqp : Cap} {rq : Int} {st : Int} {p : Option (Nat × Nat)} {pn : Nat} {cp : Cap} {q : Option (Nat × Nat)} {qm : Nat} {cq : Cap} (hb : HB hB h b n m) (hn : n + 13631496 ≤ 4294967296) (hm : m + 2097152 ≤ 4294967296) (sbp : SlV hB bp bn 5 (okL hB [.str, .i, .i, .i, .bool])) (mbp : bn ≤ 1048576) (srp : SlV hB rp rn 2 (okL hB [.str, .i])) (mrp : rn ≤ 1048576) (sep : SlV hB ep en 2 (okL hB [.i, .bool])) (mep : en ≤ 1048576) (sqp : SlV hB qp qn 4 (okL hB [.i, .i, .i, .i])) (mqp : qn ≤ 1048576) (brq : (-9223372036854775808) ≤ rq ∧ rq ≤ 9223372036854775807) (bst : (-9223372036854775808) ≤ st ∧ st ≤ 9223372036854775807) (sp : SlV hB p pn 1 (okL hB [.i])) (mp : pn ≤ 1048576) (sq : SlV hB q qm 1 (okL hB [.i])) (mq : qm ≤ 1048576) : JCall Tryz.prog 4 [.agg [.slice bp bn cbp, .slice rp rn crp, .slice ep en cep, .slice qp qn cqp, .int .i64 rq, .int .i64 st, .slice p pn cp, .slice q qm cq], .ptr (some (b, 0))] h (fun e h' => e = .ret (.tuple []) ∧ ∃ n2 m2, HB hB h' b n2 m2 ∧ n2 ≤ n + 13631496 ∧ m2 ≤ m + 2097152 ∧ LeO b h h') := by
 refine JCall_of_J (N := 24) (sl := [(0, _), (1, _)]) isf4 rfl (by show 2 ≤ 24; decide) rfl ?_
 refine Sr (Lz (x_box (z := [.slice bp bn cbp, .slice rp rn crp, .slice ep en cep, .slice qp qn cqp, .int .i64 rq, .int .i64 st, .slice p pn cp, .slice q qm cq]) ?_))
 intro i7 h8 w9
 have ne10 : b ≠ i7 := hb.ne w9.free
 refine Sr (Lo (w_move ?_))
 refine Lo (w_fieldAddr tF30_0 tZ27 ?_)
 refine Lo (w_ldA (l := [.slice bp bn cbp, .slice rp rn crp, .slice ep en cep, .slice qp qn cqp]) tA27 w9.own.cells ?_)
 have lo11 : LeO b h h8 := ((LeO.refl b h).le w9.le)
 have o12 : HB hB h8 b n m := (hb.le w9.le)
 refine Lo (w_call' isf39 ?_ (hR := by exact c39 o12 (by omega) (by omega) sbp (by omega) srp (by omega) sep (by omega) sqp (by omega)))
 rintro e13 h14 ⟨rfl, n15, m16, hb17, k18, k19, lo20⟩
 refine Ln ?_
 refine Sr (Lo (w_move ?_))
 refine Lo (w_fieldAddr tF30_1 tZ3 ?_)
 refine Lo (w_ldC tC3 (lo20.own w9.own ne10.symm).cells ?_)
 refine Lo (w_call' isf8 ?_ (hR := by exact c8 hb17 (by omega) (by omega) (by omega)))
 rintro e21 h22 ⟨rfl, n23, m24, hb25, k26, k27, lo28⟩
 refine Ln ?_
 refine Sr (Lo (w_move ?_))
 refine Lo (w_fieldAddr tF30_2 tZ3 ?_)
 refine Lo (w_ldC tC3 (lo28.own (lo20.own w9.own ne10.symm) ne10.symm).cells ?_)
 refine Lo (w_call' isf8 ?_ (hR := by exact c8 hb25 (by omega) (by omega) (by omega)))
 rintro e29 h30 ⟨rfl, n31, m32, hb33, k34, k35, lo36⟩
 refine Ln ?_
 refine Sr (Lo (w_move ?_))
 refine Lo (w_fieldAddr tF30_3 tZ28 ?_)
 refine Lo (w_ldC tC28 (lo36.own (lo28.own (lo20.own w9.own ne10.symm) ne10.symm) ne10.symm).cells ?_)
 refine Lo (w_call' isf18 ?_ (hR := by exact c18 hb33 (by omega) (by omega) sp (by omega)))
 rintro e37 h38 ⟨rfl, n39, m40, hb41, k42, k43, lo44⟩
 refine Ln ?_
 refine Rg (Lo (w_move ?_))
 refine Lo (w_fieldAddr tF30_4 tZ28 ?_)
 refine Lo (w_ldC tC28 (lo44.own (lo36.own (lo28.own (lo20.own w9.own ne10.symm) ne10.symm) ne10.symm) ne10.symm).cells ?_)
 refine Lo (w_call' isf18 ?_ (hR := by exact c18 hb41 (by omega) (by omega) sq (by omega)))
 rintro e45 h46 ⟨rfl, n47, m48, hb49, k50, k51, lo52⟩
 refine Ln ?_
 refine leave_normal rfl ?_
 exact ⟨rfl, _, _, hb49, by omega, by omega, (((((lo11.trans lo20).trans lo28).trans lo36).trans lo44).trans lo52)⟩
end Go.Proofs.JT
