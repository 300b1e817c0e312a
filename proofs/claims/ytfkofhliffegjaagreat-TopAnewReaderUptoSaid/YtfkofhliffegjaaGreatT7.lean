import Derived.Test.YtfkofhliffegjaaGreatT4
import Derived.Test.YtfkofhliffegjaaGreatT3
import Derived.Test.YtfkofhliffegjaaGreatT6
import Derived.Test.YtfkofhliffegjaaGreatT8
set_option linter.all false
open Go Go.J
set_option maxRecDepth 4000
set_option maxHeartbeats 2000000
set_option linter.unusedSimpArgs false
set_option linter.unusedVariables false
namespace Go.Proofs.JT
theorem tC53 : Cell Tryz.prog 53 := by unfold Cell; kernel_rfl
theorem tN53 : zeroIs Tryz.prog 53 (.slice none 0 (.exact 0)) := zeroIs.of (by kernel_rfl)
theorem tZ53 : (Tryz.prog.info? 53).map (·.size) = some 1 := by kernel_rfl
theorem isf6 : IsFn Tryz.prog 6 Tryz.f6 (dn (bodyOf Tryz.f6) []) := ⟨Tryz.func6, rfl, by kernel_rfl⟩
noncomputable abbrev C6 (p : List Nat) : Code := dn (bodyOf Tryz.f6) p
theorem isf10 : IsFn Tryz.prog 10 Tryz.f10 (dn (bodyOf Tryz.f10) []) := ⟨Tryz.func10, rfl, by kernel_rfl⟩
noncomputable abbrev C10 (p : List Nat) : Code := dn (bodyOf Tryz.f10) p
theorem isf11 : IsFn Tryz.prog 11 Tryz.f11 (dn (bodyOf Tryz.f11) []) := ⟨Tryz.func11, rfl, by kernel_rfl⟩
noncomputable abbrev C11 (p : List Nat) : Code := dn (bodyOf Tryz.f11) p
theorem isf13 : IsFn Tryz.prog 13 Tryz.f13 (dn (bodyOf Tryz.f13) []) := ⟨Tryz.func13, rfl, by kernel_rfl⟩
noncomputable abbrev C13 (p : List Nat) : Code := dn (bodyOf Tryz.f13) p
theorem isf16 : IsFn Tryz.prog 16 Tryz.f16 (dn (bodyOf Tryz.f16) []) := ⟨Tryz.func16, rfl, by kernel_rfl⟩
noncomputable abbrev C16 (p : List Nat) : Code := dn (bodyOf Tryz.f16) p
theorem isf19 : IsFn Tryz.prog 19 Tryz.f19 (dn (bodyOf Tryz.f19) []) := ⟨Tryz.func19, rfl, by kernel_rfl⟩
noncomputable abbrev C19 (p : List Nat) : Code := dn (bodyOf Tryz.f19) p
theorem isf20 : IsFn Tryz.prog 20 Tryz.f20 (dn (bodyOf Tryz.f20) []) := ⟨Tryz.func20, rfl, by kernel_rfl⟩
noncomputable abbrev C20 (p : List Nat) : Code := dn (bodyOf Tryz.f20) p
theorem isf21 : IsFn Tryz.prog 21 Tryz.f21 (dn (bodyOf Tryz.f21) []) := ⟨Tryz.func21, rfl, by kernel_rfl⟩
noncomputable abbrev C21 (p : List Nat) : Code := dn (bodyOf Tryz.f21) p
theorem isf24 : IsFn Tryz.prog 24 Tryz.f24 (dn (bodyOf Tryz.f24) []) := ⟨Tryz.func24, rfl, by kernel_rfl⟩
noncomputable abbrev C24 (p : List Nat) : Code := dn (bodyOf Tryz.f24) p
theorem isf25 : IsFn Tryz.prog 25 Tryz.f25 (dn (bodyOf Tryz.f25) []) := ⟨Tryz.func25, rfl, by kernel_rfl⟩
noncomputable abbrev C25 (p : List Nat) : Code := dn (bodyOf Tryz.f25) p
theorem isf26 : IsFn Tryz.prog 26 Tryz.f26 (dn (bodyOf Tryz.f26) []) := ⟨Tryz.func26, rfl, by kernel_rfl⟩
noncomputable abbrev C26 (p : List Nat) : Code := dn (bodyOf Tryz.f26) p
theorem isf28 : IsFn Tryz.prog 28 Tryz.f28 (dn (bodyOf Tryz.f28) []) := ⟨Tryz.func28, rfl, by kernel_rfl⟩
noncomputable abbrev C28 (p : List Nat) : Code := dn (bodyOf Tryz.f28) p
theorem isf29 : IsFn Tryz.prog 29 Tryz.f29 (dn (bodyOf Tryz.f29) []) := ⟨Tryz.func29, rfl, by kernel_rfl⟩
noncomputable abbrev C29 (p : List Nat) : Code := dn (bodyOf Tryz.f29) p
theorem isf31 : IsFn Tryz.prog 31 Tryz.f31 (dn (bodyOf Tryz.f31) []) := ⟨Tryz.func31, rfl, by kernel_rfl⟩
noncomputable abbrev C31 (p : List Nat) : Code := dn (bodyOf Tryz.f31) p
theorem isf32 : IsFn Tryz.prog 32 Tryz.f32 (dn (bodyOf Tryz.f32) []) := ⟨Tryz.func32, rfl, by kernel_rfl⟩
noncomputable abbrev C32 (p : List Nat) : Code := dn (bodyOf Tryz.f32) p
theorem isf34 : IsFn Tryz.prog 34 Tryz.f34 (dn (bodyOf Tryz.f34) []) := ⟨Tryz.func34, rfl, by kernel_rfl⟩
noncomputable abbrev C34 (p : List Nat) : Code := dn (bodyOf Tryz.f34) p
theorem isf35 : IsFn Tryz.prog 35 Tryz.f35 (dn (bodyOf Tryz.f35) []) := ⟨Tryz.func35, rfl, by kernel_rfl⟩
noncomputable abbrev C35 (p : List Nat) : Code := dn (bodyOf Tryz.f35) p
theorem isf51 : IsFn Tryz.prog 51 Tryz.f51 (dn (bodyOf Tryz.f51) []) := ⟨Tryz.func51, rfl, by kernel_rfl⟩
noncomputable abbrev C51 (p : List Nat) : Code := dn (bodyOf Tryz.f51) p
theorem isf52 : IsFn Tryz.prog 52 Tryz.f52 (dn (bodyOf Tryz.f52) []) := ⟨Tryz.func52, rfl, by kernel_rfl⟩
noncomputable abbrev C52 (p : List Nat) : Code := dn (bodyOf Tryz.f52) p
theorem isf56 : IsFn Tryz.prog 56 Tryz.f56 (dn (bodyOf Tryz.f56) []) := ⟨Tryz.func56, rfl, by kernel_rfl⟩
noncomputable abbrev C56 (p : List Nat) : Code := dn (bodyOf Tryz.f56) p
theorem isf57 : IsFn Tryz.prog 57 Tryz.f57 (dn (bodyOf Tryz.f57) []) := ⟨Tryz.func57, rfl, by kernel_rfl⟩
noncomputable abbrev C57 (p : List Nat) : Code := dn (bodyOf Tryz.f57) p
theorem c10 {g : AH} : JCall Tryz.prog 10 [] g (fun e g2 => e = .ret (.tuple []) ∧ g2 = g) := by
 refine JCall_of_J (N := 0) (sl := []) isf10 rfl (Nat.zero_le _) rfl ?_
 refine Sk ?_
 refine leave_normal rfl ?_
 exact ⟨rfl, rfl⟩
theorem c52 {h : AH} {i k m : Nat} (hw : WB h i m) (hk : k + 1 ≤ m) : JCall Tryz.prog 52 [.ptr (some (i, k))] h (fun e h' => e = .ret (.tuple []) ∧ LeM [i] h h' ∧ WB h' i m) := by
 refine JCall_of_J (N := 4) (sl := [(0, _)]) isf52 rfl (by show 1 ≤ 4; decide) rfl ?_
 refine Rg (Lo (w_move ?_))
 refine Lo (w_nilCheck_ptr ?_)
 refine Lz (x_storeW tZ3 hw ?_)
 intro h' bt w
 refine leave_normal rfl ?_
 exact ⟨rfl, ((LeM.refl [i] h).butM bt (by simp)), w⟩
theorem c57 {h : AH} {i k m : Nat} (hw : WB h i m) (hk : k + 2 ≤ m) : JCall Tryz.prog 57 [.ptr (some (i, k))] h (fun e h' => e = .ret (.tuple []) ∧ LeM [i] h h' ∧ WB h' i m) := by
 refine JCall_of_J (N := 10) (sl := [(0, _)]) isf57 rfl (by show 1 ≤ 10; decide) rfl ?_
 refine Sr (Lo (w_move ?_))
 refine Lo (w_nilCheck_ptr ?_)
 refine Lo (w_fieldAddr tF68_0 tZ3 ?_)
 refine Lo (w_call' isf52 ?_ (hR := by exact c52 hw (by omega)))
 rintro e0 h0 ⟨rfl, l0, w0⟩
 refine Ln ?_
 refine Rg (Lo (w_move ?_))
 refine Lo (w_nilCheck_ptr ?_)
 refine Lo (w_fieldAddr tF68_1 tZ3 ?_)
 refine Lo (w_call' isf52 ?_ (hR := by exact c52 w0 (by omega)))
 rintro e1 h1 ⟨rfl, l1, w1⟩
 refine Ln ?_
 refine leave_normal rfl ?_
 exact ⟨rfl, (l0.turnM l1 (by simp)), w1⟩
theorem c51 {h : AH} {p : Option (Nat × Nat)} {n : Nat} {c : Cap} (hw : WL h p n 1) (hn : n ≤ 1073741824) : JCall Tryz.prog 51 [.slice p n c, .fn (.func 52) [] []] h (fun e h' => e = .ret (.tuple []) ∧ LeQ p n h h') := by
 refine JCall_of_J (N := 16) (sl := [(0, _), (1, _)]) isf51 rfl (by show 2 ≤ 16; decide) rfl ?_
 refine Sr (Lz (w_assign ?_))
 refine Bk ?_
 refine J_for2 (x := C51 [0, 0, 1]) (fun (x : Int) (g : AH) => ⟨[(0, .slice p n c), (1, .fn (.func 52) [] []), (4, .int .i64 x)], g, 16, []⟩) (fun (x : Int) (g : AH) => 0 ≤ x ∧ x ≤ n ∧ LeQ p n h g ∧ WL g p n 1) (fun (x : Int) (g : AH) => ((n : Int) - x).toNat) 0 h rfl ⟨rfl, rfl, rfl, rfl, rfl, rfl, trivial⟩ ⟨by omega, by omega, .refl _ _ _, hw⟩ ?_
 intro x g hI
 obtain ⟨x0, x1, lp, wl⟩ : 0 ≤ x ∧ x ≤ n ∧ LeQ p n h g ∧ WL g p n 1 := hI
 show J _ _ (C51 [0, 0, 1]) ⟨[(0, .slice p n c), (1, .fn (.func 52) [] []), (4, .int .i64 x)], g, 16, []⟩ _
 refine Sq (Sr ?_)
 refine Lo (w_move ?_)
 refine Lo (w_move ?_)
 refine Lo (w_len tS28 ?_)
 refine Lz (w_lt ?_)
 refine Cn (fun q => ?_) (fun q => ?_)
 · refine Sk ?_
   refine Sq (Bk ?_)
   rcases wl with e | ⟨i, off, rfl, w⟩
   · omega
   refine Rg (Lo (w_move ?_))
   refine Lo (w_move ?_)
   refine Lo (w_move ?_)
   refine Lo (w_indexAddrS tS28 tZ3 ?_)
   refine Lo (w_callV' ?_ (hR := by exact JApp_fn isf52 (c52 w (by omega))))
   rintro e2 h2 ⟨rfl, l2, w2⟩
   refine Ln ?_
   refine Rg (Lo (w_move ?_))
   refine Lo (w_add ?_)
   refine Lz (w_assign ?_)
   exact ⟨x + 1, h2, ⟨⟨by omega, by omega, lp.trans (l2.leQ (by omega)), .inr ⟨i, off, rfl, w2⟩⟩, by omega⟩, rfl, rfl, rfl, rfl, rfl, rfl, trivial⟩
 · refine Ex ?_
   refine then_x (then_x (blk_eq rfl ?_))
   refine leave_normal rfl ?_
   exact ⟨rfl, lp⟩
theorem c56 {h : AH} {p : Option (Nat × Nat)} {n : Nat} {c : Cap} (hw : WL h p n 2) (hn : n ≤ 1073741824) : JCall Tryz.prog 56 [.slice p n c, .fn (.func 57) [] []] h (fun e h' => e = .ret (.tuple []) ∧ LeQ p n h h') := by
 refine JCall_of_J (N := 16) (sl := [(0, _), (1, _)]) isf56 rfl (by show 2 ≤ 16; decide) rfl ?_
 refine Sr (Lz (w_assign ?_))
 refine Bk ?_
 refine J_for2 (x := C56 [0, 0, 1]) (fun (x : Int) (g : AH) => ⟨[(0, .slice p n c), (1, .fn (.func 57) [] []), (4, .int .i64 x)], g, 16, []⟩) (fun (x : Int) (g : AH) => 0 ≤ x ∧ x ≤ n ∧ LeQ p n h g ∧ WL g p n 2) (fun (x : Int) (g : AH) => ((n : Int) - x).toNat) 0 h rfl ⟨rfl, rfl, rfl, rfl, rfl, rfl, trivial⟩ ⟨by omega, by omega, .refl _ _ _, hw⟩ ?_
 intro x g hI
 obtain ⟨x0, x1, lp, wl⟩ : 0 ≤ x ∧ x ≤ n ∧ LeQ p n h g ∧ WL g p n 2 := hI
 show J _ _ (C56 [0, 0, 1]) ⟨[(0, .slice p n c), (1, .fn (.func 57) [] []), (4, .int .i64 x)], g, 16, []⟩ _
 refine Sq (Sr ?_)
 refine Lo (w_move ?_)
 refine Lo (w_move ?_)
 refine Lo (w_len tS53 ?_)
 refine Lz (w_lt ?_)
 refine Cn (fun q => ?_) (fun q => ?_)
 · refine Sk ?_
   refine Sq (Bk ?_)
   rcases wl with e | ⟨i, off, rfl, w⟩
   · omega
   refine Rg (Lo (w_move ?_))
   refine Lo (w_move ?_)
   refine Lo (w_move ?_)
   refine Lo (w_indexAddrS tS53 tZ68 ?_)
   refine Lo (w_callV' ?_ (hR := by exact JApp_fn isf57 (c57 w (by omega))))
   rintro e2 h2 ⟨rfl, l2, w2⟩
   refine Ln ?_
   refine Rg (Lo (w_move ?_))
   refine Lo (w_add ?_)
   refine Lz (w_assign ?_)
   exact ⟨x + 1, h2, ⟨⟨by omega, by omega, lp.trans (l2.leQ (by omega)), .inr ⟨i, off, rfl, w2⟩⟩, by omega⟩, rfl, rfl, rfl, rfl, rfl, rfl, trivial⟩
 · refine Ex ?_
   refine then_x (then_x (blk_eq rfl ?_))
   refine leave_normal rfl ?_
   exact ⟨rfl, lp⟩
theorem c20 {h : AH} {b : Nat} {p : Option (Nat × Nat)} {n : Nat} {c : Cap} (ob : Own h b [.slice p n c]) (hw : WL h p n 1) (hn : n ≤ 1073741824) : JCall Tryz.prog 20 [.ptr (some (b, 0))] h (fun e h' => e = .ret (.tuple []) ∧ LeQ p n h h') := by
 refine JCall_of_J (N := 6) (sl := [(0, _)]) isf20 rfl (by show 1 ≤ 6; decide) rfl ?_
 refine Rg (Lo (w_move ?_))
 refine Lo (w_nilCheck_ptr ?_)
 refine Lo (w_ldC tC28 ob.cells ?_)
 refine Lo (w_call' isf51 ?_ (hR := by exact c51 hw hn))
 rintro e1 h1 ⟨rfl, l1⟩
 refine Ln ?_
 refine leave_normal rfl ?_
 exact ⟨rfl, l1⟩
theorem c25 {h : AH} {b : Nat} {p : Option (Nat × Nat)} {n : Nat} {c : Cap} (ob : Own h b [.slice p n c]) (hw : WL h p n 2) (hn : n ≤ 1073741824) : JCall Tryz.prog 25 [.ptr (some (b, 0))] h (fun e h' => e = .ret (.tuple []) ∧ LeQ p n h h') := by
 refine JCall_of_J (N := 6) (sl := [(0, _)]) isf25 rfl (by show 1 ≤ 6; decide) rfl ?_
 refine Rg (Lo (w_move ?_))
 refine Lo (w_nilCheck_ptr ?_)
 refine Lo (w_ldC tC53 ob.cells ?_)
 refine Lo (w_call' isf56 ?_ (hR := by exact c56 hw hn))
 rintro e1 h1 ⟨rfl, l1⟩
 refine Ln ?_
 refine leave_normal rfl ?_
 exact ⟨rfl, l1⟩
theorem c19 {h : AH} {b : Nat} {p : Option (Nat × Nat)} {n : Nat} {c : Cap} (ob : Own h b [.slice p n c]) (hw : WL h p n 1) (hn : n ≤ 1073741824) : JCall Tryz.prog 19 [.ptr (some (b, 0))] h (fun e h' => e = .ret (.tuple []) ∧ LeQ p n h h') := by
 refine JCall_of_J (N := 2) (sl := [(0, _)]) isf19 rfl (by show 1 ≤ 2; decide) rfl ?_
 refine Rg (Lo (w_call' isf20 ?_ (hR := by exact c20 ob hw hn)))
 rintro e1 h1 ⟨rfl, l1⟩
 refine Ln ?_
 refine leave_normal rfl ?_
 exact ⟨rfl, l1⟩
theorem c28 {h : AH} {b : Nat} {p : Option (Nat × Nat)} {n : Nat} {c : Cap} (ob : Own h b [.slice p n c]) (hw : WL h p n 1) (hn : n ≤ 1073741824) : JCall Tryz.prog 28 [.ptr (some (b, 0))] h (fun e h' => e = .ret (.tuple []) ∧ LeQ p n h h') := by
 refine JCall_of_J (N := 2) (sl := [(0, _)]) isf28 rfl (by show 1 ≤ 2; decide) rfl ?_
 refine Rg (Lo (w_call' isf20 ?_ (hR := by exact c20 ob hw hn)))
 rintro e1 h1 ⟨rfl, l1⟩
 refine Ln ?_
 refine leave_normal rfl ?_
 exact ⟨rfl, l1⟩
theorem c31 {h : AH} {b : Nat} {p : Option (Nat × Nat)} {n : Nat} {c : Cap} (ob : Own h b [.slice p n c]) (hw : WL h p n 1) (hn : n ≤ 1073741824) : JCall Tryz.prog 31 [.ptr (some (b, 0))] h (fun e h' => e = .ret (.tuple []) ∧ LeQ p n h h') := by
 refine JCall_of_J (N := 2) (sl := [(0, _)]) isf31 rfl (by show 1 ≤ 2; decide) rfl ?_
 refine Rg (Lo (w_call' isf20 ?_ (hR := by exact c20 ob hw hn)))
 rintro e1 h1 ⟨rfl, l1⟩
 refine Ln ?_
 refine leave_normal rfl ?_
 exact ⟨rfl, l1⟩
theorem c34 {h : AH} {b : Nat} {p : Option (Nat × Nat)} {n : Nat} {c : Cap} (ob : Own h b [.slice p n c]) (hw : WL h p n 1) (hn : n ≤ 1073741824) : JCall Tryz.prog 34 [.ptr (some (b, 0))] h (fun e h' => e = .ret (.tuple []) ∧ LeQ p n h h') := by
 refine JCall_of_J (N := 2) (sl := [(0, _)]) isf34 rfl (by show 1 ≤ 2; decide) rfl ?_
 refine Rg (Lo (w_call' isf20 ?_ (hR := by exact c20 ob hw hn)))
 rintro e1 h1 ⟨rfl, l1⟩
 refine Ln ?_
 refine leave_normal rfl ?_
 exact ⟨rfl, l1⟩
theorem c24 {h : AH} {b : Nat} {p : Option (Nat × Nat)} {n : Nat} {c : Cap} (ob : Own h b [.slice p n c]) (hw : WL h p n 2) (hn : n ≤ 1073741824) : JCall Tryz.prog 24 [.ptr (some (b, 0))] h (fun e h' => e = .ret (.tuple []) ∧ LeQ p n h h') := by
 refine JCall_of_J (N := 2) (sl := [(0, _)]) isf24 rfl (by show 1 ≤ 2; decide) rfl ?_
 refine Rg (Lo (w_call' isf25 ?_ (hR := by exact c25 ob hw hn)))
 rintro e1 h1 ⟨rfl, l1⟩
 refine Ln ?_
 refine leave_normal rfl ?_
 exact ⟨rfl, l1⟩
theorem c6 {G M : AH} {b xb : Nat} {bp : Option (Nat × Nat)} {bn : Nat} {cbp : Nat} {rp : Option (Nat × Nat)} {rn : Nat} {crp : Nat} {ep : Option (Nat × Nat)} {en : Nat} {cep : Nat} {qp : Option (Nat × Nat)} {qn : Nat} {cqp : Nat} {rq : Int} {st : Int} {lp : Option (Nat × Nat)} {ln : Nat} {clp : Nat} {wp : Option (Nat × Nat)} {wn : Nat} {cwp : Nat} (sbp : SlV G bp bn 5 (okL G [.str, .i, .i, .i, .bool])) (mbp : bn ≤ 1048576) (xbp : bn ≤ cbp) (srp : SlV G rp rn 2 (okL G [.str, .i])) (mrp : rn ≤ 1048576) (xrp : rn ≤ crp) (sep : SlV G ep en 2 (okL G [.i, .bool])) (mep : en ≤ 1048576) (xep : en ≤ cep) (sqp : SlV G qp qn 4 (okL G [.i, .i, .i, .i])) (mqp : qn ≤ 1048576) (xqp : qn ≤ cqp) (brq : (-9223372036854775808) ≤ rq ∧ rq ≤ 9223372036854775807) (bst : (-9223372036854775808) ≤ st ∧ st ≤ 9223372036854775807) (slp : SlV G lp ln 1 (okL G [.i])) (mlp : ln ≤ 1048576) (xlp : ln ≤ clp) (swp : SlV G wp wn 1 (okL G [.i])) (mwp : wn ≤ 1048576) (xwp : wn ≤ cwp) (gw : G.wf) (mb : G.next ≤ b) (kG : ∀ i c, G.get i = some c → M.get i = some c) (mn : G.next ≤ M.next) (ob : Own M b [.slice none 0 (.exact 0), .slice none 0 (.exact 0)]) (gx : Own G xb [.slice bp bn (.exact cbp), .slice rp rn (.exact crp), .slice ep en (.exact cep), .slice qp qn (.exact cqp), .int .i64 rq, .int .i64 st, .slice lp ln (.exact clp), .slice wp wn (.exact cwp)]) : JApp Tryz.prog (.fn (.func 6) [] [.ptr (some (xb, 0))]) [.ptr (some (b, 0))] M (fun e H => ∃ w, e = .ret w ∧ Puts Tryz.prog M b H w) := by
 have lG : Le G M := ⟨mn, kG⟩
 have hxb : xb ≠ b := fun e => by have := (gw xb _ gx).1; omega
 refine JApp_fn isf6 ?_
 refine JCall_of_J (N := 23) (sl := [(0, _), (1, _)]) isf6 rfl (by show 2 ≤ 23; decide) rfl ?_
 refine Sr (Lz (w_assign ?_))
 refine Sr (Lo (w_fieldAddr tF30_0 tZ27 ?_))
 have o7 : Own M xb [.slice bp bn (.exact cbp), .slice rp rn (.exact crp), .slice ep en (.exact cep), .slice qp qn (.exact cqp), .int .i64 rq, .int .i64 st, .slice lp ln (.exact clp), .slice wp wn (.exact cwp)] := (gx.le lG)
 refine Lo (w_ldA (l := [.slice bp bn (.exact cbp), .slice rp rn (.exact crp), .slice ep en (.exact cep), .slice qp qn (.exact cqp)]) tA27 o7.cells ?_)
 refine Lo (w_call' isf7 ?_ (hR := by exact c7 (sbp.leL lG lG) (by omega) (by omega) (srp.leL lG lG) (by omega) (by omega) (sep.leL lG lG) (by omega) (by omega) (sqp.leL lG lG) (by omega) (by omega)))
 rintro e8 h9 ⟨n10, n11, n12, rfl, hbn10, hbn11, hbn12, le13, k14⟩
 refine Lo (w_move ?_)
 refine Lo (w_extract ?_)
 refine Lo (w_extract ?_)
 refine Lo (w_extract ?_)
 refine Lo (w_assign ?_)
 refine Lo (w_assign ?_)
 refine Lz (w_assign ?_)
 refine Sq ?_
 have o15 : Own h9 b [.slice none 0 (.exact 0), .slice none 0 (.exact 0)] := (ob.le le13)
 have lM : Le M h9 := le13
 obtain ⟨hB, ehB⟩ : ∃ hB, hB = h9.del b := ⟨_, rfl⟩
 have hb0 : HB hB h9 b 0 0 := by rw [ehB]; exact HB.new o15
 refine Rg (Lo (w_move ?_))
 refine Lo (w_move ?_)
 refine Lo (w_call' isf8 ?_ (hR := by exact c8 hb0 (by omega) (by omega) (by omega)))
 rintro e16 h17 ⟨rfl, n18, m19, hb20, k21, k22, lo23⟩
 refine Ln ?_
 refine Sr (Lo (w_move ?_))
 refine Lo (w_move ?_)
 refine Lo (w_call' isf8 ?_ (hR := by exact c8 hb20 (by omega) (by omega) (by omega)))
 rintro e24 h25 ⟨rfl, n26, m27, hb28, k29, k30, lo31⟩
 refine Ln ?_
 refine Sr (Lo (w_move ?_))
 refine Lo (w_move ?_)
 refine Lo (w_call' isf9 ?_ (hR := by exact c9 hb28 (by omega) (by omega) (by omega)))
 rintro e32 h33 ⟨rfl, n34, m35, hb36, k37, k38, lo39⟩
 refine Ln ?_
 refine Sr (Lz (w_assign ?_))
 refine Rt ?_
 refine leave_ret rfl ?_
 exact ⟨_, rfl, puts_of (fun i c hi _ => lM.get i c hi) lM.next ehB hb36 (by omega) (by omega) (wipe_nothing fun g => JApp_fn isf10 c10)⟩
theorem c11 {G M : AH} {b xb : Nat} {bp : Option (Nat × Nat)} {bn : Nat} {cbp : Nat} {rp : Option (Nat × Nat)} {rn : Nat} {crp : Nat} {ep : Option (Nat × Nat)} {en : Nat} {cep : Nat} {qp : Option (Nat × Nat)} {qn : Nat} {cqp : Nat} {rq : Int} {st : Int} {lp : Option (Nat × Nat)} {ln : Nat} {clp : Nat} {wp : Option (Nat × Nat)} {wn : Nat} {cwp : Nat} (sbp : SlV G bp bn 5 (okL G [.str, .i, .i, .i, .bool])) (mbp : bn ≤ 1048576) (xbp : bn ≤ cbp) (srp : SlV G rp rn 2 (okL G [.str, .i])) (mrp : rn ≤ 1048576) (xrp : rn ≤ crp) (sep : SlV G ep en 2 (okL G [.i, .bool])) (mep : en ≤ 1048576) (xep : en ≤ cep) (sqp : SlV G qp qn 4 (okL G [.i, .i, .i, .i])) (mqp : qn ≤ 1048576) (xqp : qn ≤ cqp) (brq : (-9223372036854775808) ≤ rq ∧ rq ≤ 9223372036854775807) (bst : (-9223372036854775808) ≤ st ∧ st ≤ 9223372036854775807) (slp : SlV G lp ln 1 (okL G [.i])) (mlp : ln ≤ 1048576) (xlp : ln ≤ clp) (swp : SlV G wp wn 1 (okL G [.i])) (mwp : wn ≤ 1048576) (xwp : wn ≤ cwp) (gw : G.wf) (mb : G.next ≤ b) (kG : ∀ i c, G.get i = some c → M.get i = some c) (mn : G.next ≤ M.next) (ob : Own M b [.slice none 0 (.exact 0), .slice none 0 (.exact 0)]) (gx : Own G xb [.slice bp bn (.exact cbp), .slice rp rn (.exact crp), .slice ep en (.exact cep), .slice qp qn (.exact cqp), .int .i64 rq, .int .i64 st, .slice lp ln (.exact clp), .slice wp wn (.exact cwp)]) : JApp Tryz.prog (.fn (.func 11) [] [.ptr (some (xb, 0))]) [.ptr (some (b, 0))] M (fun e H => ∃ w, e = .ret w ∧ Puts Tryz.prog M b H w) := by
 have lG : Le G M := ⟨mn, kG⟩
 have hxb : xb ≠ b := fun e => by have := (gw xb _ gx).1; omega
 refine JApp_fn isf11 ?_
 refine JCall_of_J (N := 22) (sl := [(0, _), (1, _)]) isf11 rfl (by show 2 ≤ 22; decide) rfl ?_
 refine Sr (Lz (w_assign ?_))
 refine Sr (Lo (w_fieldAddr tF30_0 tZ27 ?_))
 have o7 : Own M xb [.slice bp bn (.exact cbp), .slice rp rn (.exact crp), .slice ep en (.exact cep), .slice qp qn (.exact cqp), .int .i64 rq, .int .i64 st, .slice lp ln (.exact clp), .slice wp wn (.exact cwp)] := (gx.le lG)
 refine Lo (w_ldA (l := [.slice bp bn (.exact cbp), .slice rp rn (.exact crp), .slice ep en (.exact cep), .slice qp qn (.exact cqp)]) tA27 o7.cells ?_)
 refine Lo (w_fieldAddr tF30_1 tZ3 ?_)
 refine Lo (w_ldC tC3 o7.cells ?_)
 refine Lo (w_fieldAddr tF30_2 tZ3 ?_)
 refine Lo (w_ldC tC3 o7.cells ?_)
 refine Lo (w_call' isf12 ?_ (hR := by exact c12 (sbp.leL lG lG) (by omega) (by omega) (srp.leL lG lG) (by omega) (by omega) (sep.leL lG lG) (by omega) (by omega) (sqp.leL lG lG) (by omega) (by omega) (by omega) (by omega)))
 rintro e8 h9 ⟨n10, n11, rfl, hbn10, hbn11, le12⟩
 refine Lo (w_move ?_)
 refine Lo (w_extract ?_)
 refine Lo (w_extract ?_)
 refine Lo (w_assign ?_)
 refine Lz (w_assign ?_)
 refine Sq ?_
 have o13 : Own h9 b [.slice none 0 (.exact 0), .slice none 0 (.exact 0)] := (ob.le le12)
 have lM : Le M h9 := le12
 obtain ⟨hB, ehB⟩ : ∃ hB, hB = h9.del b := ⟨_, rfl⟩
 have hb0 : HB hB h9 b 0 0 := by rw [ehB]; exact HB.new o13
 refine Rg (Lo (w_move ?_))
 refine Lo (w_move ?_)
 refine Lo (w_call' isf8 ?_ (hR := by exact c8 hb0 (by omega) (by omega) (by omega)))
 rintro e14 h15 ⟨rfl, n16, m17, hb18, k19, k20, lo21⟩
 refine Ln ?_
 refine Sr (Lo (w_move ?_))
 refine Lo (w_move ?_)
 refine Lo (w_call' isf9 ?_ (hR := by exact c9 hb18 (by omega) (by omega) (by omega)))
 rintro e22 h23 ⟨rfl, n24, m25, hb26, k27, k28, lo29⟩
 refine Ln ?_
 refine Sr (Lz (w_assign ?_))
 refine Rt ?_
 refine leave_ret rfl ?_
 exact ⟨_, rfl, puts_of (fun i c hi _ => lM.get i c hi) lM.next ehB hb26 (by omega) (by omega) (wipe_nothing fun g => JApp_fn isf10 c10)⟩
theorem c13 {G M : AH} {b xb : Nat} {bp : Option (Nat × Nat)} {bn : Nat} {cbp : Nat} {rp : Option (Nat × Nat)} {rn : Nat} {crp : Nat} {ep : Option (Nat × Nat)} {en : Nat} {cep : Nat} {qp : Option (Nat × Nat)} {qn : Nat} {cqp : Nat} {rq : Int} {st : Int} {lp : Option (Nat × Nat)} {ln : Nat} {clp : Nat} {wp : Option (Nat × Nat)} {wn : Nat} {cwp : Nat} (sbp : SlV G bp bn 5 (okL G [.str, .i, .i, .i, .bool])) (mbp : bn ≤ 1048576) (xbp : bn ≤ cbp) (srp : SlV G rp rn 2 (okL G [.str, .i])) (mrp : rn ≤ 1048576) (xrp : rn ≤ crp) (sep : SlV G ep en 2 (okL G [.i, .bool])) (mep : en ≤ 1048576) (xep : en ≤ cep) (sqp : SlV G qp qn 4 (okL G [.i, .i, .i, .i])) (mqp : qn ≤ 1048576) (xqp : qn ≤ cqp) (brq : (-9223372036854775808) ≤ rq ∧ rq ≤ 9223372036854775807) (bst : (-9223372036854775808) ≤ st ∧ st ≤ 9223372036854775807) (slp : SlV G lp ln 1 (okL G [.i])) (mlp : ln ≤ 1048576) (xlp : ln ≤ clp) (swp : SlV G wp wn 1 (okL G [.i])) (mwp : wn ≤ 1048576) (xwp : wn ≤ cwp) (gw : G.wf) (mb : G.next ≤ b) (kG : ∀ i c, G.get i = some c → M.get i = some c) (mn : G.next ≤ M.next) (ob : Own M b [.slice none 0 (.exact 0), .slice none 0 (.exact 0)]) (gx : Own G xb [.slice bp bn (.exact cbp), .slice rp rn (.exact crp), .slice ep en (.exact cep), .slice qp qn (.exact cqp), .int .i64 rq, .int .i64 st, .slice lp ln (.exact clp), .slice wp wn (.exact cwp)]) : JApp Tryz.prog (.fn (.func 13) [] [.ptr (some (xb, 0))]) [.ptr (some (b, 0))] M (fun e H => ∃ w, e = .ret w ∧ Puts Tryz.prog M b H w) := by
 have lG : Le G M := ⟨mn, kG⟩
 have hxb : xb ≠ b := fun e => by have := (gw xb _ gx).1; omega
 refine JApp_fn isf13 ?_
 refine JCall_of_J (N := 20) (sl := [(0, _), (1, _)]) isf13 rfl (by show 2 ≤ 20; decide) rfl ?_
 refine Sr (Lz (w_assign ?_))
 refine Sr (Lo (w_fieldAddr tF30_0 tZ27 ?_))
 have o7 : Own M xb [.slice bp bn (.exact cbp), .slice rp rn (.exact crp), .slice ep en (.exact cep), .slice qp qn (.exact cqp), .int .i64 rq, .int .i64 st, .slice lp ln (.exact clp), .slice wp wn (.exact cwp)] := (gx.le lG)
 refine Lo (w_ldA (l := [.slice bp bn (.exact cbp), .slice rp rn (.exact crp), .slice ep en (.exact cep), .slice qp qn (.exact cqp)]) tA27 o7.cells ?_)
 refine Lo (w_fieldAddr tF30_3 tZ28 ?_)
 refine Lo (w_ldC tC28 o7.cells ?_)
 refine Lo (w_call' isf14 ?_ (hR := by exact c14 (sbp.leL lG lG) (by omega) (by omega) (srp.leL lG lG) (by omega) (by omega) (sep.leL lG lG) (by omega) (by omega) (sqp.leL lG lG) (by omega) (by omega) (slp.leL lG lG) (by omega)))
 rintro e8 h9 ⟨b10, n11, rfl, hbn11, le12⟩
 refine Lo (w_move ?_)
 refine Lo (w_extract ?_)
 refine Lo (w_extract ?_)
 refine Lo (w_assign ?_)
 refine Lz (w_assign ?_)
 refine Sq ?_
 have o13 : Own h9 b [.slice none 0 (.exact 0), .slice none 0 (.exact 0)] := (ob.le le12)
 have lM : Le M h9 := le12
 obtain ⟨hB, ehB⟩ : ∃ hB, hB = h9.del b := ⟨_, rfl⟩
 have hb0 : HB hB h9 b 0 0 := by rw [ehB]; exact HB.new o13
 refine Rg (Lo (w_move ?_))
 refine Lo (w_move ?_)
 refine Lo (w_call' isf15 ?_ (hR := by exact c15 hb0 (by omega) (by omega)))
 rintro e14 h15 ⟨rfl, n16, m17, hb18, k19, k20, lo21⟩
 refine Ln ?_
 refine Sr (Lo (w_move ?_))
 refine Lo (w_move ?_)
 refine Lo (w_call' isf9 ?_ (hR := by exact c9 hb18 (by omega) (by omega) (by omega)))
 rintro e22 h23 ⟨rfl, n24, m25, hb26, k27, k28, lo29⟩
 refine Ln ?_
 refine Sr (Lz (w_assign ?_))
 refine Rt ?_
 refine leave_ret rfl ?_
 exact ⟨_, rfl, puts_of (fun i c hi _ => lM.get i c hi) lM.next ehB hb26 (by omega) (by omega) (wipe_nothing fun g => JApp_fn isf10 c10)⟩
theorem c16 {G M : AH} {b xb : Nat} {bp : Option (Nat × Nat)} {bn : Nat} {cbp : Nat} {rp : Option (Nat × Nat)} {rn : Nat} {crp : Nat} {ep : Option (Nat × Nat)} {en : Nat} {cep : Nat} {qp : Option (Nat × Nat)} {qn : Nat} {cqp : Nat} {rq : Int} {st : Int} {lp : Option (Nat × Nat)} {ln : Nat} {clp : Nat} {wp : Option (Nat × Nat)} {wn : Nat} {cwp : Nat} (sbp : SlV G bp bn 5 (okL G [.str, .i, .i, .i, .bool])) (mbp : bn ≤ 1048576) (xbp : bn ≤ cbp) (srp : SlV G rp rn 2 (okL G [.str, .i])) (mrp : rn ≤ 1048576) (xrp : rn ≤ crp) (sep : SlV G ep en 2 (okL G [.i, .bool])) (mep : en ≤ 1048576) (xep : en ≤ cep) (sqp : SlV G qp qn 4 (okL G [.i, .i, .i, .i])) (mqp : qn ≤ 1048576) (xqp : qn ≤ cqp) (brq : (-9223372036854775808) ≤ rq ∧ rq ≤ 9223372036854775807) (bst : (-9223372036854775808) ≤ st ∧ st ≤ 9223372036854775807) (slp : SlV G lp ln 1 (okL G [.i])) (mlp : ln ≤ 1048576) (xlp : ln ≤ clp) (swp : SlV G wp wn 1 (okL G [.i])) (mwp : wn ≤ 1048576) (xwp : wn ≤ cwp) (gw : G.wf) (mb : G.next ≤ b) (kG : ∀ i c, G.get i = some c → M.get i = some c) (mn : G.next ≤ M.next) (ob : Own M b [.slice none 0 (.exact 0), .slice none 0 (.exact 0)]) (gx : Own G xb [.slice bp bn (.exact cbp), .slice rp rn (.exact crp), .slice ep en (.exact cep), .slice qp qn (.exact cqp), .int .i64 rq, .int .i64 st, .slice lp ln (.exact clp), .slice wp wn (.exact cwp)]) : JApp Tryz.prog (.fn (.func 16) [] [.ptr (some (xb, 0))]) [.ptr (some (b, 0))] M (fun e H => ∃ w, e = .ret w ∧ Puts Tryz.prog M b H w) := by
 have lG : Le G M := ⟨mn, kG⟩
 have hxb : xb ≠ b := fun e => by have := (gw xb _ gx).1; omega
 refine JApp_fn isf16 ?_
 refine JCall_of_J (N := 26) (sl := [(0, _), (1, _)]) isf16 rfl (by show 2 ≤ 26; decide) rfl ?_
 refine Sr (Lz (w_assign ?_))
 refine Sr (Lo (w_fieldAddr tF30_0 tZ27 ?_))
 have o7 : Own M xb [.slice bp bn (.exact cbp), .slice rp rn (.exact crp), .slice ep en (.exact cep), .slice qp qn (.exact cqp), .int .i64 rq, .int .i64 st, .slice lp ln (.exact clp), .slice wp wn (.exact cwp)] := (gx.le lG)
 refine Lo (w_ldA (l := [.slice bp bn (.exact cbp), .slice rp rn (.exact crp), .slice ep en (.exact cep), .slice qp qn (.exact cqp)]) tA27 o7.cells ?_)
 refine Lo (w_fieldAddr tF30_3 tZ28 ?_)
 refine Lo (w_ldC tC28 o7.cells ?_)
 refine Lo (w_call' isf17 ?_ (hR := by exact c17 (sbp.leL lG lG) (by omega) (by omega) (srp.leL lG lG) (by omega) (by omega) (sep.leL lG lG) (by omega) (by omega) (sqp.leL lG lG) (by omega) (by omega) (slp.leL lG lG) (by omega)))
 rintro e8 h9 ⟨v10, m11, n15, n16, rfl, fr12, hmm11, hbn15, hbn16, le17⟩
 obtain ⟨p13, c14, rfl, sv18, _⟩ := id fr12
 refine Lo (w_move ?_)
 refine Lo (w_extract ?_)
 refine Lo (w_extract ?_)
 refine Lo (w_extract ?_)
 refine Lo (x_alloc (zc := [.slice none 0 (.exact 0)]) tN28 ?_)
 intro i20 h21 w22
 have o23 : Own h9 xb [.slice bp bn (.exact cbp), .slice rp rn (.exact crp), .slice ep en (.exact cep), .slice qp qn (.exact cqp), .int .i64 rq, .int .i64 st, .slice lp ln (.exact clp), .slice wp wn (.exact cwp)] := (o7.le le17)
 have ne24 : xb ≠ i20 := ne_of_free w22.free o23
 have o25 : Own h9 b [.slice none 0 (.exact 0), .slice none 0 (.exact 0)] := (ob.le le17)
 have ne26 : b ≠ i20 := ne_of_free w22.free o25
 refine Lo (x_store (vc := [.slice p13 m11 c14]) (cs' := [.slice p13 m11 c14]) tZ28 w22.own ?_)
 intro h27 bt28 o29
 refine Lo (w_assign ?_)
 refine Lz (w_assign ?_)
 refine Sq ?_
 have o30 : Own h27 b [.slice none 0 (.exact 0), .slice none 0 (.exact 0)] := ((o25.le w22.le).but bt28 ne26)
 have l1_3_31 : Le M h21 := le17.trans w22.le
 have l1_4_32 : Le M h27 := l1_3_31.but bt28 (le17.free w22.free)
 have lM : Le M h27 := l1_4_32
 obtain ⟨hB, ehB⟩ : ∃ hB, hB = h27.del b := ⟨_, rfl⟩
 have hb0 : HB hB h27 b 0 0 := by rw [ehB]; exact HB.new o30
 have gei20 : M.next ≤ i20 := Nat.le_trans le17.next w22.ge
 have l2_4_33 : Le h9 h27 := w22.le.but bt28 w22.free
 have fr34 := Frs.del (b := b) (fr12.le l2_4_33) (fun e => by rw [show M.get b = _ from ob] at e; cases e)
 have sv35 : SlV hB p13 m11 1 (okL hB [.int 0 5]) := by rw [ehB]; exact fr34.1.imp fun _ _ h => h
 have fr36 := Frs.del (b := b) (fr12.le l2_4_33) (fun e => by rw [show M.get b = _ from ob] at e; cases e)
 have sv37 : SlV hB p13 m11 1 (okL hB [.int 0 5]) := by rw [ehB]; exact fr36.1.imp fun _ _ h => h
 refine Rg (Lo (w_move ?_))
 refine Lo (w_ldC tC28 o29.cells ?_)
 refine Lo (w_call' isf18 ?_ (hR := by exact c18 hb0 (by omega) (by omega) (sv37.imp (fun l _ hl => (by obtain ⟨_, _, rfl, ⟨m0, rfl, u0, v0⟩, rfl⟩ := hl; exact ⟨_, _, rfl, ⟨_, rfl, by omega, by omega⟩, rfl⟩))) (by omega)))
 rintro e38 h39 ⟨rfl, n40, m41, hb42, k43, k44, lo45⟩
 refine Ln ?_
 refine Sr (Lo (w_move ?_))
 refine Lo (w_move ?_)
 refine Lo (w_call' isf8 ?_ (hR := by exact c8 hb42 (by omega) (by omega) (by omega)))
 rintro e46 h47 ⟨rfl, n48, m49, hb50, k51, k52, lo53⟩
 refine Ln ?_
 refine Sr (Lo (w_move ?_))
 refine Lo (w_move ?_)
 refine Lo (w_call' isf9 ?_ (hR := by exact c9 hb50 (by omega) (by omega) (by omega)))
 rintro e54 h55 ⟨rfl, n56, m57, hb58, k59, k60, lo61⟩
 refine Ln ?_
 refine Sr (Lo (w_makeFunc ?_))
 refine Lz (w_assign ?_)
 refine Rt ?_
 refine leave_ret rfl ?_
 exact ⟨_, rfl, puts_of (fun i c hi _ => lM.get i c hi) lM.next ehB hb58 (by omega) (by omega) (wipe_frs (fr12.le l2_4_33) (fun e => by rw [show M.get b = _ from ob] at e; cases e) ehB hb58.leB (lo61.own (lo53.own (lo45.own o29 ne26.symm) ne26.symm) ne26.symm) gei20 fun g og wg => JApp_fn isf19 (c19 og wg (by omega)))⟩
theorem c21 {G M : AH} {b xb : Nat} {bp : Option (Nat × Nat)} {bn : Nat} {cbp : Nat} {rp : Option (Nat × Nat)} {rn : Nat} {crp : Nat} {ep : Option (Nat × Nat)} {en : Nat} {cep : Nat} {qp : Option (Nat × Nat)} {qn : Nat} {cqp : Nat} {rq : Int} {st : Int} {lp : Option (Nat × Nat)} {ln : Nat} {clp : Nat} {wp : Option (Nat × Nat)} {wn : Nat} {cwp : Nat} (sbp : SlV G bp bn 5 (okL G [.str, .i, .i, .i, .bool])) (mbp : bn ≤ 1048576) (xbp : bn ≤ cbp) (srp : SlV G rp rn 2 (okL G [.str, .i])) (mrp : rn ≤ 1048576) (xrp : rn ≤ crp) (sep : SlV G ep en 2 (okL G [.i, .bool])) (mep : en ≤ 1048576) (xep : en ≤ cep) (sqp : SlV G qp qn 4 (okL G [.i, .i, .i, .i])) (mqp : qn ≤ 1048576) (xqp : qn ≤ cqp) (brq : (-9223372036854775808) ≤ rq ∧ rq ≤ 9223372036854775807) (bst : (-9223372036854775808) ≤ st ∧ st ≤ 9223372036854775807) (slp : SlV G lp ln 1 (okL G [.i])) (mlp : ln ≤ 1048576) (xlp : ln ≤ clp) (swp : SlV G wp wn 1 (okL G [.i])) (mwp : wn ≤ 1048576) (xwp : wn ≤ cwp) (gw : G.wf) (mb : G.next ≤ b) (kG : ∀ i c, G.get i = some c → M.get i = some c) (mn : G.next ≤ M.next) (ob : Own M b [.slice none 0 (.exact 0), .slice none 0 (.exact 0)]) (gx : Own G xb [.slice bp bn (.exact cbp), .slice rp rn (.exact crp), .slice ep en (.exact cep), .slice qp qn (.exact cqp), .int .i64 rq, .int .i64 st, .slice lp ln (.exact clp), .slice wp wn (.exact cwp)]) : JApp Tryz.prog (.fn (.func 21) [] [.ptr (some (xb, 0))]) [.ptr (some (b, 0))] M (fun e H => ∃ w, e = .ret w ∧ Puts Tryz.prog M b H w) := by
 have lG : Le G M := ⟨mn, kG⟩
 have hxb : xb ≠ b := fun e => by have := (gw xb _ gx).1; omega
 refine JApp_fn isf21 ?_
 refine JCall_of_J (N := 23) (sl := [(0, _), (1, _)]) isf21 rfl (by show 2 ≤ 23; decide) rfl ?_
 refine Sr (Lz (w_assign ?_))
 refine Sr (Lo (w_fieldAddr tF30_0 tZ27 ?_))
 have o7 : Own M xb [.slice bp bn (.exact cbp), .slice rp rn (.exact crp), .slice ep en (.exact cep), .slice qp qn (.exact cqp), .int .i64 rq, .int .i64 st, .slice lp ln (.exact clp), .slice wp wn (.exact cwp)] := (gx.le lG)
 refine Lo (w_ldA (l := [.slice bp bn (.exact cbp), .slice rp rn (.exact crp), .slice ep en (.exact cep), .slice qp qn (.exact cqp)]) tA27 o7.cells ?_)
 refine Lo (w_fieldAddr tF30_3 tZ28 ?_)
 refine Lo (w_ldC tC28 o7.cells ?_)
 refine Lo (w_fieldAddr tF30_4 tZ28 ?_)
 refine Lo (w_ldC tC28 o7.cells ?_)
 refine Lo (w_call' isf22 ?_ (hR := by exact c22 (sbp.leL lG lG) (by omega) (by omega) (srp.leL lG lG) (by omega) (by omega) (sep.leL lG lG) (by omega) (by omega) (sqp.leL lG lG) (by omega) (by omega) (slp.leL lG lG) (by omega) (swp.leL lG lG) (by omega)))
 rintro e8 h9 ⟨v10, m11, n15, rfl, fr12, hmm11, hbn15, le16⟩
 obtain ⟨p13, c14, rfl, sv17, _⟩ := id fr12
 refine Lo (w_move ?_)
 refine Lo (w_extract ?_)
 refine Lo (w_extract ?_)
 refine Lo (x_alloc (zc := [.slice none 0 (.exact 0)]) tN53 ?_)
 intro i19 h20 w21
 have o22 : Own h9 xb [.slice bp bn (.exact cbp), .slice rp rn (.exact crp), .slice ep en (.exact cep), .slice qp qn (.exact cqp), .int .i64 rq, .int .i64 st, .slice lp ln (.exact clp), .slice wp wn (.exact cwp)] := (o7.le le16)
 have ne23 : xb ≠ i19 := ne_of_free w21.free o22
 have o24 : Own h9 b [.slice none 0 (.exact 0), .slice none 0 (.exact 0)] := (ob.le le16)
 have ne25 : b ≠ i19 := ne_of_free w21.free o24
 refine Lo (x_store (vc := [.slice p13 m11 c14]) (cs' := [.slice p13 m11 c14]) tZ53 w21.own ?_)
 intro h26 bt27 o28
 refine Lz (w_assign ?_)
 refine Sq ?_
 have o29 : Own h26 b [.slice none 0 (.exact 0), .slice none 0 (.exact 0)] := ((o24.le w21.le).but bt27 ne25)
 have l1_3_30 : Le M h20 := le16.trans w21.le
 have l1_4_31 : Le M h26 := l1_3_30.but bt27 (le16.free w21.free)
 have lM : Le M h26 := l1_4_31
 obtain ⟨hB, ehB⟩ : ∃ hB, hB = h26.del b := ⟨_, rfl⟩
 have hb0 : HB hB h26 b 0 0 := by rw [ehB]; exact HB.new o29
 have gei19 : M.next ≤ i19 := Nat.le_trans le16.next w21.ge
 have l2_4_32 : Le h9 h26 := w21.le.but bt27 w21.free
 have fr33 := Frs.del (b := b) (fr12.le l2_4_32) (fun e => by rw [show M.get b = _ from ob] at e; cases e)
 have sv34 : SlV hB p13 m11 2 (okL hB [.i, .i]) := by rw [ehB]; exact fr33.1.imp fun _ _ h => h
 have fr35 := Frs.del (b := b) (fr12.le l2_4_32) (fun e => by rw [show M.get b = _ from ob] at e; cases e)
 have sv36 : SlV hB p13 m11 2 (okL hB [.i, .i]) := by rw [ehB]; exact fr35.1.imp fun _ _ h => h
 refine Rg (Lo (w_move ?_))
 refine Lo (w_ldC tC53 o28.cells ?_)
 refine Lo (w_call' isf23 ?_ (hR := by exact c23 hb0 (by omega) (by omega) sv36 (by omega)))
 rintro e37 h38 ⟨rfl, n39, m40, hb41, k42, k43, lo44⟩
 refine Ln ?_
 refine Sr (Lo (w_move ?_))
 refine Lo (w_move ?_)
 refine Lo (w_call' isf9 ?_ (hR := by exact c9 hb41 (by omega) (by omega) (by omega)))
 rintro e45 h46 ⟨rfl, n47, m48, hb49, k50, k51, lo52⟩
 refine Ln ?_
 refine Sr (Lo (w_makeFunc ?_))
 refine Lz (w_assign ?_)
 refine Rt ?_
 refine leave_ret rfl ?_
 exact ⟨_, rfl, puts_of (fun i c hi _ => lM.get i c hi) lM.next ehB hb49 (by omega) (by omega) (wipe_frs (fr12.le l2_4_32) (fun e => by rw [show M.get b = _ from ob] at e; cases e) ehB hb49.leB (lo52.own (lo44.own o28 ne25.symm) ne25.symm) gei19 fun g og wg => JApp_fn isf24 (c24 og wg (by omega)))⟩
theorem c26 {G M : AH} {b xb : Nat} {bp : Option (Nat × Nat)} {bn : Nat} {cbp : Nat} {rp : Option (Nat × Nat)} {rn : Nat} {crp : Nat} {ep : Option (Nat × Nat)} {en : Nat} {cep : Nat} {qp : Option (Nat × Nat)} {qn : Nat} {cqp : Nat} {rq : Int} {st : Int} {lp : Option (Nat × Nat)} {ln : Nat} {clp : Nat} {wp : Option (Nat × Nat)} {wn : Nat} {cwp : Nat} (sbp : SlV G bp bn 5 (okL G [.str, .i, .i, .i, .bool])) (mbp : bn ≤ 1048576) (xbp : bn ≤ cbp) (srp : SlV G rp rn 2 (okL G [.str, .i])) (mrp : rn ≤ 1048576) (xrp : rn ≤ crp) (sep : SlV G ep en 2 (okL G [.i, .bool])) (mep : en ≤ 1048576) (xep : en ≤ cep) (sqp : SlV G qp qn 4 (okL G [.i, .i, .i, .i])) (mqp : qn ≤ 1048576) (xqp : qn ≤ cqp) (brq : (-9223372036854775808) ≤ rq ∧ rq ≤ 9223372036854775807) (bst : (-9223372036854775808) ≤ st ∧ st ≤ 9223372036854775807) (slp : SlV G lp ln 1 (okL G [.i])) (mlp : ln ≤ 1048576) (xlp : ln ≤ clp) (swp : SlV G wp wn 1 (okL G [.i])) (mwp : wn ≤ 1048576) (xwp : wn ≤ cwp) (gw : G.wf) (mb : G.next ≤ b) (kG : ∀ i c, G.get i = some c → M.get i = some c) (mn : G.next ≤ M.next) (ob : Own M b [.slice none 0 (.exact 0), .slice none 0 (.exact 0)]) (gx : Own G xb [.slice bp bn (.exact cbp), .slice rp rn (.exact crp), .slice ep en (.exact cep), .slice qp qn (.exact cqp), .int .i64 rq, .int .i64 st, .slice lp ln (.exact clp), .slice wp wn (.exact cwp)]) : JApp Tryz.prog (.fn (.func 26) [] [.ptr (some (xb, 0))]) [.ptr (some (b, 0))] M (fun e H => ∃ w, e = .ret w ∧ Puts Tryz.prog M b H w) := by
 have lG : Le G M := ⟨mn, kG⟩
 have hxb : xb ≠ b := fun e => by have := (gw xb _ gx).1; omega
 refine JApp_fn isf26 ?_
 refine JCall_of_J (N := 19) (sl := [(0, _), (1, _)]) isf26 rfl (by show 2 ≤ 19; decide) rfl ?_
 refine Sr (Lz (w_assign ?_))
 refine Sr (Lo (w_fieldAddr tF30_0 tZ27 ?_))
 have o7 : Own M xb [.slice bp bn (.exact cbp), .slice rp rn (.exact crp), .slice ep en (.exact cep), .slice qp qn (.exact cqp), .int .i64 rq, .int .i64 st, .slice lp ln (.exact clp), .slice wp wn (.exact cwp)] := (gx.le lG)
 refine Lo (w_ldA (l := [.slice bp bn (.exact cbp), .slice rp rn (.exact crp), .slice ep en (.exact cep), .slice qp qn (.exact cqp)]) tA27 o7.cells ?_)
 refine Lo (w_call' isf27 ?_ (hR := by exact c27 (sbp.leL lG lG) (by omega) (by omega) (srp.leL lG lG) (by omega) (by omega) (sep.leL lG lG) (by omega) (by omega) (sqp.leL lG lG) (by omega) (by omega)))
 rintro e8 h9 ⟨v10, m11, n15, rfl, fr12, hmm11, hbn15, le16⟩
 obtain ⟨p13, c14, rfl, sv17, _⟩ := id fr12
 refine Lo (w_move ?_)
 refine Lo (w_extract ?_)
 refine Lo (w_extract ?_)
 refine Lo (x_alloc (zc := [.slice none 0 (.exact 0)]) tN28 ?_)
 intro i19 h20 w21
 have o22 : Own h9 xb [.slice bp bn (.exact cbp), .slice rp rn (.exact crp), .slice ep en (.exact cep), .slice qp qn (.exact cqp), .int .i64 rq, .int .i64 st, .slice lp ln (.exact clp), .slice wp wn (.exact cwp)] := (o7.le le16)
 have ne23 : xb ≠ i19 := ne_of_free w21.free o22
 have o24 : Own h9 b [.slice none 0 (.exact 0), .slice none 0 (.exact 0)] := (ob.le le16)
 have ne25 : b ≠ i19 := ne_of_free w21.free o24
 refine Lo (x_store (vc := [.slice p13 m11 c14]) (cs' := [.slice p13 m11 c14]) tZ28 w21.own ?_)
 intro h26 bt27 o28
 refine Lz (w_assign ?_)
 refine Sq ?_
 have o29 : Own h26 b [.slice none 0 (.exact 0), .slice none 0 (.exact 0)] := ((o24.le w21.le).but bt27 ne25)
 have l1_3_30 : Le M h20 := le16.trans w21.le
 have l1_4_31 : Le M h26 := l1_3_30.but bt27 (le16.free w21.free)
 have lM : Le M h26 := l1_4_31
 obtain ⟨hB, ehB⟩ : ∃ hB, hB = h26.del b := ⟨_, rfl⟩
 have hb0 : HB hB h26 b 0 0 := by rw [ehB]; exact HB.new o29
 have gei19 : M.next ≤ i19 := Nat.le_trans le16.next w21.ge
 have l2_4_32 : Le h9 h26 := w21.le.but bt27 w21.free
 have fr33 := Frs.del (b := b) (fr12.le l2_4_32) (fun e => by rw [show M.get b = _ from ob] at e; cases e)
 have sv34 : SlV hB p13 m11 1 (okL hB [.i]) := by rw [ehB]; exact fr33.1.imp fun _ _ h => h
 have fr35 := Frs.del (b := b) (fr12.le l2_4_32) (fun e => by rw [show M.get b = _ from ob] at e; cases e)
 have sv36 : SlV hB p13 m11 1 (okL hB [.i]) := by rw [ehB]; exact fr35.1.imp fun _ _ h => h
 refine Rg (Lo (w_move ?_))
 refine Lo (w_ldC tC28 o28.cells ?_)
 refine Lo (w_call' isf18 ?_ (hR := by exact c18 hb0 (by omega) (by omega) sv36 (by omega)))
 rintro e37 h38 ⟨rfl, n39, m40, hb41, k42, k43, lo44⟩
 refine Ln ?_
 refine Sr (Lo (w_move ?_))
 refine Lo (w_move ?_)
 refine Lo (w_call' isf9 ?_ (hR := by exact c9 hb41 (by omega) (by omega) (by omega)))
 rintro e45 h46 ⟨rfl, n47, m48, hb49, k50, k51, lo52⟩
 refine Ln ?_
 refine Sr (Lo (w_makeFunc ?_))
 refine Lz (w_assign ?_)
 refine Rt ?_
 refine leave_ret rfl ?_
 exact ⟨_, rfl, puts_of (fun i c hi _ => lM.get i c hi) lM.next ehB hb49 (by omega) (by omega) (wipe_frs (fr12.le l2_4_32) (fun e => by rw [show M.get b = _ from ob] at e; cases e) ehB hb49.leB (lo52.own (lo44.own o28 ne25.symm) ne25.symm) gei19 fun g og wg => JApp_fn isf28 (c28 og wg (by omega)))⟩
theorem c29 {G M : AH} {b xb : Nat} {bp : Option (Nat × Nat)} {bn : Nat} {cbp : Nat} {rp : Option (Nat × Nat)} {rn : Nat} {crp : Nat} {ep : Option (Nat × Nat)} {en : Nat} {cep : Nat} {qp : Option (Nat × Nat)} {qn : Nat} {cqp : Nat} {rq : Int} {st : Int} {lp : Option (Nat × Nat)} {ln : Nat} {clp : Nat} {wp : Option (Nat × Nat)} {wn : Nat} {cwp : Nat} (sbp : SlV G bp bn 5 (okL G [.str, .i, .i, .i, .bool])) (mbp : bn ≤ 1048576) (xbp : bn ≤ cbp) (srp : SlV G rp rn 2 (okL G [.str, .i])) (mrp : rn ≤ 1048576) (xrp : rn ≤ crp) (sep : SlV G ep en 2 (okL G [.i, .bool])) (mep : en ≤ 1048576) (xep : en ≤ cep) (sqp : SlV G qp qn 4 (okL G [.i, .i, .i, .i])) (mqp : qn ≤ 1048576) (xqp : qn ≤ cqp) (brq : (-9223372036854775808) ≤ rq ∧ rq ≤ 9223372036854775807) (bst : (-9223372036854775808) ≤ st ∧ st ≤ 9223372036854775807) (slp : SlV G lp ln 1 (okL G [.i])) (mlp : ln ≤ 1048576) (xlp : ln ≤ clp) (swp : SlV G wp wn 1 (okL G [.i])) (mwp : wn ≤ 1048576) (xwp : wn ≤ cwp) (gw : G.wf) (mb : G.next ≤ b) (kG : ∀ i c, G.get i = some c → M.get i = some c) (mn : G.next ≤ M.next) (ob : Own M b [.slice none 0 (.exact 0), .slice none 0 (.exact 0)]) (gx : Own G xb [.slice bp bn (.exact cbp), .slice rp rn (.exact crp), .slice ep en (.exact cep), .slice qp qn (.exact cqp), .int .i64 rq, .int .i64 st, .slice lp ln (.exact clp), .slice wp wn (.exact cwp)]) : JApp Tryz.prog (.fn (.func 29) [] [.ptr (some (xb, 0))]) [.ptr (some (b, 0))] M (fun e H => ∃ w, e = .ret w ∧ Puts Tryz.prog M b H w) := by
 have lG : Le G M := ⟨mn, kG⟩
 have hxb : xb ≠ b := fun e => by have := (gw xb _ gx).1; omega
 refine JApp_fn isf29 ?_
 refine JCall_of_J (N := 24) (sl := [(0, _), (1, _)]) isf29 rfl (by show 2 ≤ 24; decide) rfl ?_
 refine Sr (Lz (w_assign ?_))
 refine Sr (Lo (w_fieldAddr tF30_0 tZ27 ?_))
 have o7 : Own M xb [.slice bp bn (.exact cbp), .slice rp rn (.exact crp), .slice ep en (.exact cep), .slice qp qn (.exact cqp), .int .i64 rq, .int .i64 st, .slice lp ln (.exact clp), .slice wp wn (.exact cwp)] := (gx.le lG)
 refine Lo (w_ldA (l := [.slice bp bn (.exact cbp), .slice rp rn (.exact crp), .slice ep en (.exact cep), .slice qp qn (.exact cqp)]) tA27 o7.cells ?_)
 refine Lo (w_call' isf30 ?_ (hR := by exact c30 (sbp.leL lG lG) (by omega) (by omega) (srp.leL lG lG) (by omega) (by omega) (sep.leL lG lG) (by omega) (by omega) (sqp.leL lG lG) (by omega) (by omega)))
 rintro e8 h9 ⟨v10, m11, n15, n16, rfl, fr12, hmm11, hbn15, hbn16, le17⟩
 obtain ⟨p13, c14, rfl, sv18, _⟩ := id fr12
 refine Lo (w_move ?_)
 refine Lo (w_extract ?_)
 refine Lo (w_extract ?_)
 refine Lo (w_extract ?_)
 refine Lo (x_alloc (zc := [.slice none 0 (.exact 0)]) tN28 ?_)
 intro i20 h21 w22
 have o23 : Own h9 xb [.slice bp bn (.exact cbp), .slice rp rn (.exact crp), .slice ep en (.exact cep), .slice qp qn (.exact cqp), .int .i64 rq, .int .i64 st, .slice lp ln (.exact clp), .slice wp wn (.exact cwp)] := (o7.le le17)
 have ne24 : xb ≠ i20 := ne_of_free w22.free o23
 have o25 : Own h9 b [.slice none 0 (.exact 0), .slice none 0 (.exact 0)] := (ob.le le17)
 have ne26 : b ≠ i20 := ne_of_free w22.free o25
 refine Lo (x_store (vc := [.slice p13 m11 c14]) (cs' := [.slice p13 m11 c14]) tZ28 w22.own ?_)
 intro h27 bt28 o29
 refine Lo (w_assign ?_)
 refine Lz (w_assign ?_)
 refine Sq ?_
 have o30 : Own h27 b [.slice none 0 (.exact 0), .slice none 0 (.exact 0)] := ((o25.le w22.le).but bt28 ne26)
 have l1_3_31 : Le M h21 := le17.trans w22.le
 have l1_4_32 : Le M h27 := l1_3_31.but bt28 (le17.free w22.free)
 have lM : Le M h27 := l1_4_32
 obtain ⟨hB, ehB⟩ : ∃ hB, hB = h27.del b := ⟨_, rfl⟩
 have hb0 : HB hB h27 b 0 0 := by rw [ehB]; exact HB.new o30
 have gei20 : M.next ≤ i20 := Nat.le_trans le17.next w22.ge
 have l2_4_33 : Le h9 h27 := w22.le.but bt28 w22.free
 have fr34 := Frs.del (b := b) (fr12.le l2_4_33) (fun e => by rw [show M.get b = _ from ob] at e; cases e)
 have sv35 : SlV hB p13 m11 1 (okL hB [.i]) := by rw [ehB]; exact fr34.1.imp fun _ _ h => h
 have fr36 := Frs.del (b := b) (fr12.le l2_4_33) (fun e => by rw [show M.get b = _ from ob] at e; cases e)
 have sv37 : SlV hB p13 m11 1 (okL hB [.i]) := by rw [ehB]; exact fr36.1.imp fun _ _ h => h
 refine Rg (Lo (w_move ?_))
 refine Lo (w_ldC tC28 o29.cells ?_)
 refine Lo (w_call' isf18 ?_ (hR := by exact c18 hb0 (by omega) (by omega) sv37 (by omega)))
 rintro e38 h39 ⟨rfl, n40, m41, hb42, k43, k44, lo45⟩
 refine Ln ?_
 refine Sr (Lo (w_move ?_))
 refine Lo (w_move ?_)
 refine Lo (w_call' isf8 ?_ (hR := by exact c8 hb42 (by omega) (by omega) (by omega)))
 rintro e46 h47 ⟨rfl, n48, m49, hb50, k51, k52, lo53⟩
 refine Ln ?_
 refine Sr (Lo (w_move ?_))
 refine Lo (w_move ?_)
 refine Lo (w_call' isf9 ?_ (hR := by exact c9 hb50 (by omega) (by omega) (by omega)))
 rintro e54 h55 ⟨rfl, n56, m57, hb58, k59, k60, lo61⟩
 refine Ln ?_
 refine Sr (Lo (w_makeFunc ?_))
 refine Lz (w_assign ?_)
 refine Rt ?_
 refine leave_ret rfl ?_
 exact ⟨_, rfl, puts_of (fun i c hi _ => lM.get i c hi) lM.next ehB hb58 (by omega) (by omega) (wipe_frs (fr12.le l2_4_33) (fun e => by rw [show M.get b = _ from ob] at e; cases e) ehB hb58.leB (lo61.own (lo53.own (lo45.own o29 ne26.symm) ne26.symm) ne26.symm) gei20 fun g og wg => JApp_fn isf31 (c31 og wg (by omega)))⟩
theorem c32 {G M : AH} {b xb : Nat} {bp : Option (Nat × Nat)} {bn : Nat} {cbp : Nat} {rp : Option (Nat × Nat)} {rn : Nat} {crp : Nat} {ep : Option (Nat × Nat)} {en : Nat} {cep : Nat} {qp : Option (Nat × Nat)} {qn : Nat} {cqp : Nat} {rq : Int} {st : Int} {lp : Option (Nat × Nat)} {ln : Nat} {clp : Nat} {wp : Option (Nat × Nat)} {wn : Nat} {cwp : Nat} (sbp : SlV G bp bn 5 (okL G [.str, .i, .i, .i, .bool])) (mbp : bn ≤ 1048576) (xbp : bn ≤ cbp) (srp : SlV G rp rn 2 (okL G [.str, .i])) (mrp : rn ≤ 1048576) (xrp : rn ≤ crp) (sep : SlV G ep en 2 (okL G [.i, .bool])) (mep : en ≤ 1048576) (xep : en ≤ cep) (sqp : SlV G qp qn 4 (okL G [.i, .i, .i, .i])) (mqp : qn ≤ 1048576) (xqp : qn ≤ cqp) (brq : (-9223372036854775808) ≤ rq ∧ rq ≤ 9223372036854775807) (bst : (-9223372036854775808) ≤ st ∧ st ≤ 9223372036854775807) (slp : SlV G lp ln 1 (okL G [.i])) (mlp : ln ≤ 1048576) (xlp : ln ≤ clp) (swp : SlV G wp wn 1 (okL G [.i])) (mwp : wn ≤ 1048576) (xwp : wn ≤ cwp) (gw : G.wf) (mb : G.next ≤ b) (kG : ∀ i c, G.get i = some c → M.get i = some c) (mn : G.next ≤ M.next) (ob : Own M b [.slice none 0 (.exact 0), .slice none 0 (.exact 0)]) (gx : Own G xb [.slice bp bn (.exact cbp), .slice rp rn (.exact crp), .slice ep en (.exact cep), .slice qp qn (.exact cqp), .int .i64 rq, .int .i64 st, .slice lp ln (.exact clp), .slice wp wn (.exact cwp)]) : JApp Tryz.prog (.fn (.func 32) [] [.ptr (some (xb, 0))]) [.ptr (some (b, 0))] M (fun e H => ∃ w, e = .ret w ∧ Puts Tryz.prog M b H w) := by
 have lG : Le G M := ⟨mn, kG⟩
 have hxb : xb ≠ b := fun e => by have := (gw xb _ gx).1; omega
 refine JApp_fn isf32 ?_
 refine JCall_of_J (N := 23) (sl := [(0, _), (1, _)]) isf32 rfl (by show 2 ≤ 23; decide) rfl ?_
 refine Sr (Lz (w_assign ?_))
 refine Sr (Lo (w_fieldAddr tF30_0 tZ27 ?_))
 have o7 : Own M xb [.slice bp bn (.exact cbp), .slice rp rn (.exact crp), .slice ep en (.exact cep), .slice qp qn (.exact cqp), .int .i64 rq, .int .i64 st, .slice lp ln (.exact clp), .slice wp wn (.exact cwp)] := (gx.le lG)
 refine Lo (w_ldA (l := [.slice bp bn (.exact cbp), .slice rp rn (.exact crp), .slice ep en (.exact cep), .slice qp qn (.exact cqp)]) tA27 o7.cells ?_)
 refine Lo (w_fieldAddr tF30_3 tZ28 ?_)
 refine Lo (w_ldC tC28 o7.cells ?_)
 refine Lo (w_fieldAddr tF30_1 tZ3 ?_)
 refine Lo (w_ldC tC3 o7.cells ?_)
 refine Lo (w_call' isf33 ?_ (hR := by exact c33 (sbp.leL lG lG) (by omega) (by omega) (srp.leL lG lG) (by omega) (by omega) (sep.leL lG lG) (by omega) (by omega) (sqp.leL lG lG) (by omega) (by omega) (slp.leL lG lG) (by omega) (by omega)))
 rintro e8 h9 ⟨v10, m11, n15, rfl, fr12, hmm11, hbn15, le16⟩
 obtain ⟨p13, c14, rfl, sv17, _⟩ := id fr12
 refine Lo (w_move ?_)
 refine Lo (w_extract ?_)
 refine Lo (w_extract ?_)
 refine Lo (x_alloc (zc := [.slice none 0 (.exact 0)]) tN28 ?_)
 intro i19 h20 w21
 have o22 : Own h9 xb [.slice bp bn (.exact cbp), .slice rp rn (.exact crp), .slice ep en (.exact cep), .slice qp qn (.exact cqp), .int .i64 rq, .int .i64 st, .slice lp ln (.exact clp), .slice wp wn (.exact cwp)] := (o7.le le16)
 have ne23 : xb ≠ i19 := ne_of_free w21.free o22
 have o24 : Own h9 b [.slice none 0 (.exact 0), .slice none 0 (.exact 0)] := (ob.le le16)
 have ne25 : b ≠ i19 := ne_of_free w21.free o24
 refine Lo (x_store (vc := [.slice p13 m11 c14]) (cs' := [.slice p13 m11 c14]) tZ28 w21.own ?_)
 intro h26 bt27 o28
 refine Lz (w_assign ?_)
 refine Sq ?_
 have o29 : Own h26 b [.slice none 0 (.exact 0), .slice none 0 (.exact 0)] := ((o24.le w21.le).but bt27 ne25)
 have l1_3_30 : Le M h20 := le16.trans w21.le
 have l1_4_31 : Le M h26 := l1_3_30.but bt27 (le16.free w21.free)
 have lM : Le M h26 := l1_4_31
 obtain ⟨hB, ehB⟩ : ∃ hB, hB = h26.del b := ⟨_, rfl⟩
 have hb0 : HB hB h26 b 0 0 := by rw [ehB]; exact HB.new o29
 have gei19 : M.next ≤ i19 := Nat.le_trans le16.next w21.ge
 have l2_4_32 : Le h9 h26 := w21.le.but bt27 w21.free
 have fr33 := Frs.del (b := b) (fr12.le l2_4_32) (fun e => by rw [show M.get b = _ from ob] at e; cases e)
 have sv34 : SlV hB p13 m11 1 (okL hB [.i]) := by rw [ehB]; exact fr33.1.imp fun _ _ h => h
 have fr35 := Frs.del (b := b) (fr12.le l2_4_32) (fun e => by rw [show M.get b = _ from ob] at e; cases e)
 have sv36 : SlV hB p13 m11 1 (okL hB [.i]) := by rw [ehB]; exact fr35.1.imp fun _ _ h => h
 refine Rg (Lo (w_move ?_))
 refine Lo (w_ldC tC28 o28.cells ?_)
 refine Lo (w_call' isf18 ?_ (hR := by exact c18 hb0 (by omega) (by omega) sv36 (by omega)))
 rintro e37 h38 ⟨rfl, n39, m40, hb41, k42, k43, lo44⟩
 refine Ln ?_
 refine Sr (Lo (w_move ?_))
 refine Lo (w_move ?_)
 refine Lo (w_call' isf9 ?_ (hR := by exact c9 hb41 (by omega) (by omega) (by omega)))
 rintro e45 h46 ⟨rfl, n47, m48, hb49, k50, k51, lo52⟩
 refine Ln ?_
 refine Sr (Lo (w_makeFunc ?_))
 refine Lz (w_assign ?_)
 refine Rt ?_
 refine leave_ret rfl ?_
 exact ⟨_, rfl, puts_of (fun i c hi _ => lM.get i c hi) lM.next ehB hb49 (by omega) (by omega) (wipe_frs (fr12.le l2_4_32) (fun e => by rw [show M.get b = _ from ob] at e; cases e) ehB hb49.leB (lo52.own (lo44.own o28 ne25.symm) ne25.symm) gei19 fun g og wg => JApp_fn isf34 (c34 og wg (by omega)))⟩
theorem c35 {G M : AH} {b xb : Nat} {bp : Option (Nat × Nat)} {bn : Nat} {cbp : Nat} {rp : Option (Nat × Nat)} {rn : Nat} {crp : Nat} {ep : Option (Nat × Nat)} {en : Nat} {cep : Nat} {qp : Option (Nat × Nat)} {qn : Nat} {cqp : Nat} {rq : Int} {st : Int} {lp : Option (Nat × Nat)} {ln : Nat} {clp : Nat} {wp : Option (Nat × Nat)} {wn : Nat} {cwp : Nat} (sbp : SlV G bp bn 5 (okL G [.str, .i, .i, .i, .bool])) (mbp : bn ≤ 1048576) (xbp : bn ≤ cbp) (srp : SlV G rp rn 2 (okL G [.str, .i])) (mrp : rn ≤ 1048576) (xrp : rn ≤ crp) (sep : SlV G ep en 2 (okL G [.i, .bool])) (mep : en ≤ 1048576) (xep : en ≤ cep) (sqp : SlV G qp qn 4 (okL G [.i, .i, .i, .i])) (mqp : qn ≤ 1048576) (xqp : qn ≤ cqp) (brq : (-9223372036854775808) ≤ rq ∧ rq ≤ 9223372036854775807) (bst : (-9223372036854775808) ≤ st ∧ st ≤ 9223372036854775807) (slp : SlV G lp ln 1 (okL G [.i])) (mlp : ln ≤ 1048576) (xlp : ln ≤ clp) (swp : SlV G wp wn 1 (okL G [.i])) (mwp : wn ≤ 1048576) (xwp : wn ≤ cwp) (gw : G.wf) (mb : G.next ≤ b) (kG : ∀ i c, G.get i = some c → M.get i = some c) (mn : G.next ≤ M.next) (ob : Own M b [.slice none 0 (.exact 0), .slice none 0 (.exact 0)]) (gx : Own G xb [.slice bp bn (.exact cbp), .slice rp rn (.exact crp), .slice ep en (.exact cep), .slice qp qn (.exact cqp), .int .i64 rq, .int .i64 st, .slice lp ln (.exact clp), .slice wp wn (.exact cwp)]) : JApp Tryz.prog (.fn (.func 35) [] [.ptr (some (xb, 0))]) [.ptr (some (b, 0))] M (fun e H => ∃ w, e = .ret w ∧ Puts Tryz.prog M b H w) := by
 have lG : Le G M := ⟨mn, kG⟩
 have hxb : xb ≠ b := fun e => by have := (gw xb _ gx).1; omega
 refine JApp_fn isf35 ?_
 refine JCall_of_J (N := 23) (sl := [(0, _), (1, _)]) isf35 rfl (by show 2 ≤ 23; decide) rfl ?_
 refine Sr (Lz (w_assign ?_))
 refine Sr (Lo (w_fieldAddr tF30_0 tZ27 ?_))
 have o7 : Own M xb [.slice bp bn (.exact cbp), .slice rp rn (.exact crp), .slice ep en (.exact cep), .slice qp qn (.exact cqp), .int .i64 rq, .int .i64 st, .slice lp ln (.exact clp), .slice wp wn (.exact cwp)] := (gx.le lG)
 refine Lo (w_ldA (l := [.slice bp bn (.exact cbp), .slice rp rn (.exact crp), .slice ep en (.exact cep), .slice qp qn (.exact cqp)]) tA27 o7.cells ?_)
 refine Lo (w_call' isf36 ?_ (hR := by exact c36 (sbp.leL lG lG) (by omega) (by omega) (srp.leL lG lG) (by omega) (by omega) (sep.leL lG lG) (by omega) (by omega) (sqp.leL lG lG) (by omega) (by omega)))
 rintro e8 h9 ⟨n10, n11, n12, rfl, hbn10, hbn11, hbn12, le13⟩
 refine Lo (w_move ?_)
 refine Lo (w_extract ?_)
 refine Lo (w_extract ?_)
 refine Lo (w_extract ?_)
 refine Lo (w_assign ?_)
 refine Lo (w_assign ?_)
 refine Lz (w_assign ?_)
 refine Sq ?_
 have o14 : Own h9 b [.slice none 0 (.exact 0), .slice none 0 (.exact 0)] := (ob.le le13)
 have lM : Le M h9 := le13
 obtain ⟨hB, ehB⟩ : ∃ hB, hB = h9.del b := ⟨_, rfl⟩
 have hb0 : HB hB h9 b 0 0 := by rw [ehB]; exact HB.new o14
 refine Rg (Lo (w_move ?_))
 refine Lo (w_move ?_)
 refine Lo (w_call' isf8 ?_ (hR := by exact c8 hb0 (by omega) (by omega) (by omega)))
 rintro e15 h16 ⟨rfl, n17, m18, hb19, k20, k21, lo22⟩
 refine Ln ?_
 refine Sr (Lo (w_move ?_))
 refine Lo (w_move ?_)
 refine Lo (w_call' isf8 ?_ (hR := by exact c8 hb19 (by omega) (by omega) (by omega)))
 rintro e23 h24 ⟨rfl, n25, m26, hb27, k28, k29, lo30⟩
 refine Ln ?_
 refine Sr (Lo (w_move ?_))
 refine Lo (w_move ?_)
 refine Lo (w_call' isf9 ?_ (hR := by exact c9 hb27 (by omega) (by omega) (by omega)))
 rintro e31 h32 ⟨rfl, n33, m34, hb35, k36, k37, lo38⟩
 refine Ln ?_
 refine Sr (Lz (w_assign ?_))
 refine Rt ?_
 refine leave_ret rfl ?_
 exact ⟨_, rfl, puts_of (fun i c hi _ => lM.get i c hi) lM.next ehB hb35 (by omega) (by omega) (wipe_nothing fun g => JApp_fn isf10 c10)⟩
end Go.Proofs.JT
open Go Go.J
set_option maxRecDepth 4000
set_option maxHeartbeats 2000000
set_option linter.unusedSimpArgs false
set_option linter.unusedVariables false
namespace Go.Proofs.JT
theorem tN33 : zeroIs Tryz.prog 33 (.agg [.slice none 0 (.exact 0), .slice none 0 (.exact 0)]) := zeroIs.of (by kernel_rfl)
theorem tA33 : Agg Tryz.prog 33 2 := by unfold Agg; kernel_rfl
theorem tA30 : Agg Tryz.prog 30 8 := by unfold Agg; kernel_rfl
theorem isf3 : IsFn Tryz.prog 3 Tryz.f3 (dn (bodyOf Tryz.f3) []) := ⟨Tryz.func3, rfl, by kernel_rfl⟩
noncomputable abbrev C3 (p : List Nat) : Code := dn (bodyOf Tryz.f3) p
theorem isf5 : IsFn Tryz.prog 5 Tryz.f5 (dn (bodyOf Tryz.f5) []) := ⟨Tryz.func5, rfl, by kernel_rfl⟩
noncomputable abbrev C5 (p : List Nat) : Code := dn (bodyOf Tryz.f5) p
theorem isf37 : IsFn Tryz.prog 37 Tryz.f37 (dn (bodyOf Tryz.f37) []) := ⟨Tryz.func37, rfl, by kernel_rfl⟩
noncomputable abbrev C37 (p : List Nat) : Code := dn (bodyOf Tryz.f37) p
theorem isf38 : IsFn Tryz.prog 38 Tryz.f38 (dn (bodyOf Tryz.f38) []) := ⟨Tryz.func38, rfl, by kernel_rfl⟩
noncomputable abbrev C38 (p : List Nat) : Code := dn (bodyOf Tryz.f38) p
theorem c37 {h : AH} {L : List Int} {K : List ByteArray} {p : Option (Nat × Nat)} {cp : Cap} {q : Option (Nat × Nat)} {cq : Cap} {p2 : Option (Nat × Nat)} {cp2 : Cap} {q2 : Option (Nat × Nat)} {cq2 : Cap} (l1 : Lst h 0 p (L.map (AV.int .i64))) (l2 : Lst h 0 q (K.map AV.str)) (l3 : Lst h 0 p2 (L.map (AV.int .i64))) (l4 : Lst h 0 q2 (K.map AV.str)) (hL : L.length ≤ 4294967296) (hK : K.length ≤ 4294967296) : JCall Tryz.prog 37 [.agg [.slice p L.length cp, .slice q K.length cq], .agg [.slice p2 L.length cp2, .slice q2 K.length cq2]] h (fun e h' => e = .ret (.bool true) ∧ Le h h') := by
 refine JCall_of_J (N := 59) (sl := [(0, _), (1, _)]) isf37 rfl (by show 2 ≤ 59; decide) rfl ?_
 refine Sr (Lo (x_box (z := [.slice p L.length cp, .slice q K.length cq]) ?_))
 intro i1 h2 w3
 refine Lo (x_box (z := [.slice p2 L.length cp2, .slice q2 K.length cq2]) ?_)
 intro i4 h5 w6
 have ne7 : i1 ≠ i4 := ne_of_free w6.free w3.own
 refine Lz (w_assign ?_)
 refine Sq (Sr ?_)
 refine Lo (w_fieldAddr tF33_0 tZ28 ?_)
 have o8 : Own h5 i1 [.slice p L.length cp, .slice q K.length cq] := (w3.own.le w6.le)
 refine Lo (w_ldC tC28 o8.cells ?_)
 refine Lo (w_len tS28 ?_)
 refine Lo (w_fieldAddr tF33_0 tZ28 ?_)
 refine Lo (w_ldC tC28 w6.own.cells ?_)
 refine Lo (w_len tS28 ?_)
 refine Lo (x_neSame ?_)
 refine Lo (w_move ?_)
 refine Gl (w_fieldAddr tF33_1 tZ31 ?_)
 refine Gl (w_ldC tC31 o8.cells ?_)
 refine Gl (w_len tS31 ?_)
 refine Gl (w_fieldAddr tF33_1 tZ31 ?_)
 refine Gl (w_ldC tC31 w6.own.cells ?_)
 refine Gl (w_len tS31 ?_)
 refine Gl (x_neSame ?_)
 refine Lz (w_pick_f ?_)
 refine Cf ?_
 refine Sk ?_
 refine Sq (Sr ?_)
 refine Lz (w_assign ?_)
 refine Bk ?_
 refine J_for1 (x := C37 [0, 0, 1, 0, 1, 1]) (fun (x5_9 : Int) => ⟨[(2, .ptr (some (i1, 0))), (3, .ptr (some (i4, 0))), (5, .int .i64 x5_9)], h5, 59, []⟩) (fun (x5_9 : Int) => 0 ≤ x5_9 ∧ 0 ≤ x5_9) (fun (x5_9 : Int) => ((L.length : Int) - x5_9).toNat) 0 rfl ⟨rfl, rfl, rfl, rfl, rfl, rfl, trivial⟩ ⟨(by omega), (by omega)⟩ ?_
 intro x5_9 hI
 obtain ⟨hxx5_9, iv10⟩ : 0 ≤ x5_9 ∧ 0 ≤ x5_9 := hI
 show J _ _ (C37 [0, 0, 1, 0, 1, 1]) ⟨[(2, .ptr (some (i1, 0))), (3, .ptr (some (i4, 0))), (5, .int .i64 x5_9)], h5, 59, []⟩ _
 refine Sq (Sr ?_)
 refine Lo (w_move ?_)
 refine Lo (w_fieldAddr tF33_0 tZ28 ?_)
 refine Lo (w_ldC tC28 o8.cells ?_)
 refine Lo (w_len tS28 ?_)
 refine Lz (w_lt ?_)
 refine Cn (fun q11 => ?_) (fun q11 => ?_)
 · refine Sk ?_
   refine Sq (Bk ?_)
   refine Sq ?_
   refine J_drawS (opsAt (C37 [0, 0, 0, 1, 0, 0, 1, 0, 1, 1])) [[(2, none)], [(30, some 0)], [(5, none)], [(31, some 1), (32, some 2)], [(33, some 3)], [(3, none)], [(35, some 5)], [(5, none)], [(36, some 6), (37, some 7)], [(38, some 8)], [(34, some 4), (39, some 9)]] ?_
   refine Dp (w_fieldAddr tF33_0 tZ28 ⟨rfl, rfl⟩) ?_
   refine Dp (w_ldC tC28 o8.cells ⟨rfl, rfl⟩) ?_
   refine Dp (w_move ⟨rfl, rfl⟩) ?_
   obtain ⟨i15, o16, cs14, rfl, hc12, hv13⟩ := l1.int (i := x5_9) (by omega) (by omega)
   refine Dp (w_indexAddrS tS28 tZ3 ⟨rfl, rfl⟩) ?_
   have l0_2_17 : Le h h5 := w3.le.trans w6.le
   refine Dp (w_ldC tC3 (l0_2_17.cells hc12) ⟨rfl, rfl⟩ (hv := hv13)) ?_
   refine Dp (w_fieldAddr tF33_0 tZ28 ⟨rfl, rfl⟩) ?_
   refine Dp (w_ldC tC28 w6.own.cells ⟨rfl, rfl⟩) ?_
   refine Dp (w_move ⟨rfl, rfl⟩) ?_
   obtain ⟨i21, o22, cs20, rfl, hc18, hv19⟩ := l3.int (i := x5_9) (by omega) (by omega)
   refine Dp (w_indexAddrS tS28 tZ3 ⟨rfl, rfl⟩) ?_
   refine Dp (w_ldC tC3 (l0_2_17.cells hc18) ⟨rfl, rfl⟩ (hv := hv19)) ?_
   refine Dp (x_neSame ⟨rfl, rfl⟩) ?_
   refine JD_end (effs := []) (fin := [(2, none), (3, none), (5, none), (40, some 10)]) (slF := [(2, .ptr (some (i1, 0))), (3, .ptr (some (i4, 0))), (5, .int .i64 x5_9), (40, .bool false)]) rfl mixed (by kernel_rfl) (by kernel_rfl) rfl rfl ?_
   refine Cf ?_
   refine Sk ?_
   refine Rg (Lo (w_move ?_))
   refine Lo (w_add ?_)
   refine Lz (w_assign ?_)
   exact ⟨(x5_9 + 1), ⟨⟨(by omega), (by omega)⟩, by omega⟩, rfl, rfl, rfl, rfl, rfl, rfl, trivial⟩
 · refine Ex ?_
   refine then_x (then_x (blk_eq rfl ?_))
   refine Sq (Sr ?_)
   refine Lz (w_assign ?_)
   refine Bk ?_
   refine J_for1 (x := C37 [0, 0, 1, 0, 1, 1, 1]) (fun (x6_23 : Int) => ⟨[(2, .ptr (some (i1, 0))), (3, .ptr (some (i4, 0))), (6, .int .i64 x6_23)], h5, 59, []⟩) (fun (x6_23 : Int) => 0 ≤ x6_23 ∧ 0 ≤ x6_23) (fun (x6_23 : Int) => ((K.length : Int) - x6_23).toNat) 0 rfl ⟨rfl, rfl, rfl, rfl, rfl, rfl, trivial⟩ ⟨(by omega), (by omega)⟩ ?_
   intro x6_23 hI
   obtain ⟨hxx6_23, iv24⟩ : 0 ≤ x6_23 ∧ 0 ≤ x6_23 := hI
   show J _ _ (C37 [0, 0, 1, 0, 1, 1, 1]) ⟨[(2, .ptr (some (i1, 0))), (3, .ptr (some (i4, 0))), (6, .int .i64 x6_23)], h5, 59, []⟩ _
   refine Sq (Sr ?_)
   refine Lo (w_move ?_)
   refine Lo (w_fieldAddr tF33_1 tZ31 ?_)
   refine Lo (w_ldC tC31 o8.cells ?_)
   refine Lo (w_len tS31 ?_)
   refine Lz (w_lt ?_)
   refine Cn (fun q25 => ?_) (fun q25 => ?_)
   · refine Sk ?_
     refine Sq (Bk ?_)
     refine Sq ?_
     refine J_drawS (opsAt (C37 [0, 0, 0, 1, 0, 0, 1, 0, 1, 1, 1])) [[(2, none)], [(48, some 0)], [(6, none)], [(49, some 1), (50, some 2)], [(51, some 3)], [(3, none)], [(53, some 5)], [(6, none)], [(54, some 6), (55, some 7)], [(56, some 8)], [(52, some 4), (57, some 9)]] ?_
     refine Dp (w_fieldAddr tF33_1 tZ31 ⟨rfl, rfl⟩) ?_
     refine Dp (w_ldC tC31 o8.cells ⟨rfl, rfl⟩) ?_
     refine Dp (w_move ⟨rfl, rfl⟩) ?_
     obtain ⟨i29, o30, cs28, rfl, hc26, hv27⟩ := l2.str (i := x6_23) (by omega) (by omega)
     refine Dp (w_indexAddrS tS31 tZ9 ⟨rfl, rfl⟩) ?_
     have l0_2_31 : Le h h5 := w3.le.trans w6.le
     refine Dp (w_ldC tC9 (l0_2_31.cells hc26) ⟨rfl, rfl⟩ (hv := hv27)) ?_
     refine Dp (w_fieldAddr tF33_1 tZ31 ⟨rfl, rfl⟩) ?_
     refine Dp (w_ldC tC31 w6.own.cells ⟨rfl, rfl⟩) ?_
     refine Dp (w_move ⟨rfl, rfl⟩) ?_
     obtain ⟨i35, o36, cs34, rfl, hc32, hv33⟩ := l4.str (i := x6_23) (by omega) (by omega)
     refine Dp (w_indexAddrS tS31 tZ9 ⟨rfl, rfl⟩) ?_
     refine Dp (w_ldC tC9 (l0_2_31.cells hc32) ⟨rfl, rfl⟩ (hv := hv33)) ?_
     refine Dp (x_sneSame ⟨rfl, rfl⟩) ?_
     refine JD_end (effs := []) (fin := [(2, none), (3, none), (6, none), (58, some 10)]) (slF := [(2, .ptr (some (i1, 0))), (3, .ptr (some (i4, 0))), (6, .int .i64 x6_23), (58, .bool false)]) rfl mixed (by kernel_rfl) (by kernel_rfl) rfl rfl ?_
     refine Cf ?_
     refine Sk ?_
     refine Rg (Lo (w_move ?_))
     refine Lo (w_add ?_)
     refine Lz (w_assign ?_)
     exact ⟨(x6_23 + 1), ⟨⟨(by omega), (by omega)⟩, by omega⟩, rfl, rfl, rfl, rfl, rfl, rfl, trivial⟩
   · refine Ex ?_
     refine then_x (then_x (blk_eq rfl ?_))
     refine Sr (Lz (w_assign ?_))
     refine Rt ?_
     refine leave_ret rfl ?_
     have l0_2_37 : Le h h5 := w3.le.trans w6.le
     exact ⟨rfl, l0_2_37⟩
theorem c5 {G : AH} {call : AV} (hcall : ∀ M a, M.wf → G.next ≤ a → (∀ i c, G.get i = some c → M.get i = some c) → G.next ≤ M.next → (∀ i c, M.get i = some c → i ≠ a → i < a ∧ c.sup ≤ a) → Own M a [.slice none 0 (.exact 0), .slice none 0 (.exact 0)] → JApp Tryz.prog call [.ptr (some (a, 0))] M (fun e H => ∃ w, e = .ret w ∧ Puts Tryz.prog M a H w)) :
 JCall Tryz.prog 5 [call] G (fun e G' => e = .ret (.bool true) ∧ Le G G') := JCall_wf fun gw => by
 refine JCall_sup fun gs => ?_
 simp only [supL] at gs
 refine JCall_of_J (N := 15) (sl := [(0, _)]) isf5 rfl (by show 1 ≤ 15; decide) rfl ?_
 refine Sr (Lz (w_assign ?_))
 refine Sr (Lo (w_alloc (zc := [.slice none 0 (.exact 0), .slice none 0 (.exact 0)]) tN33 ?_))
 intro a G1 n1
 refine Lz (w_alloc (zc := [.slice none 0 (.exact 0), .slice none 0 (.exact 0)]) tN33 ?_)
 intro b G2 n2
 obtain ⟨is1, nx1, new1, old1⟩ := n1
 obtain ⟨is2, nx2, new2, old2⟩ := n2
 have hab : a ≠ b := by omega
 have ga : G2.get a = some (.own [.slice none 0 (.exact 0), .slice none 0 (.exact 0)]) := (old2 a hab).trans new1
 have gG : ∀ i c, G.get i = some c → G2.get i = some c ∧ i ≠ a ∧ i ≠ b := fun i c hi => by
  have := (gw i c hi).1
  have e1 : i ≠ a := by omega
  have e2 : i ≠ b := by omega
  exact ⟨(old2 i e2).trans ((old1 i e1).trans hi), e1, e2⟩
 have back : ∀ i c, G2.get i = some c → i ≠ a → i ≠ b → G.get i = some c := fun i c hi e1 e2 => (old1 i e1).symm.trans ((old2 i e2).symm.trans hi)
 refine Sr (Lo (w_move ?_))
 refine Lo (JO_wf fun hw => ?_)
 have g2w : G2.wf := hw.2.1
 have mw : (G2.del b).wf := AH.del_wf g2w
 have ha2 : a < G2.next := (g2w a _ ga).1
 obtain ⟨e0, H0, ⟨w, rfl, keep, p, c, q, d, L, K, t, wipe⟩, h0w, _, h0n, hc⟩ := JApp.fix (hcall (G2.del b) a mw (by omega) (fun i c hi => by rw [AH.del_ne (gG i c hi).2.2]; exact (gG i c hi).1) (by simp only [AH.del]; omega) (fun i c hi hia => by
  obtain ⟨e1, e2⟩ := AH.del_get hi
  have := gw i c (back i c e2 hia e1)
  omega) (by show (G2.del b).get a = _; rw [AH.del_ne hab]; exact ga)) mw (by simp only [AH.del]; omega) (by simp only [supL, AV.sup, supA, AH.del]; omega)
 refine (w_callV' ?_ (hR := by exact JApp_frame hc g2w (by show call.sup ≤ _; omega) (by simp only [supL, AV.sup, supA]; omega) new2))
 rintro e1 H1 ⟨rfl, fr⟩
 refine Lz (w_assign ?_)
 refine Sr (Lo (w_move ?_))
 refine Lo (w_callV' ?_ (hR := by exact wipe H1 (fun i c hi hg => (fr.new i hi).trans hg)))
 rintro e2 H2 ⟨⟨u, rfl⟩, k1, k2⟩
 refine Ln ?_
 have a1 : H1.get a = H0.get a := fr.old a _ hab ga
 have b1 : H1.get b = some (.own [.slice none 0 (.exact 0), .slice none 0 (.exact 0)]) := fr.box.trans new2
 have hb2 : b < G2.next := (g2w b _ new2).1
 have keepG : ∀ i c, (G2.del b).get i = some c → i ≠ a → H2.get i = some c := fun i c hi hia => by
  obtain ⟨e1, e2⟩ := AH.del_get hi
  exact k2 i c ((fr.old i c e1 e2).trans (keep i c hi hia)) (.inl (g2w i c e2).1)
 obtain ⟨t1, t2, t3, t4, t5⟩ := t
 have oa2 : Own H2 a [.slice p L.length c, .slice q K.length d] := k2 a _ (a1.trans t1) (.inl ha2)
 have s : Second (G2.del b) a b [.slice none 0 (.exact 0), .slice none 0 (.exact 0)] H2 := ⟨mw, by rw [AH.del_ne hab]; exact ga, fun i c hi hia => by
  obtain ⟨e1, e2⟩ := AH.del_get hi
  have := gw i c (back i c e2 hia e1)
  omega, rfl, by simp [AH.del], keepG, k2 b _ b1 (.inl hb2), by have := fr.next; simp only [AH.del] at h0n ⊢; omega, by have := fr.next; simp only [AH.del] at h0n; omega⟩
 refine Sr (Lo (w_move ?_))
 refine Lo (w_callV' ?_ (hR := by exact JApp_again hc s (by show call.sup ≤ _; omega) keep))
 rintro e3 H3 ⟨hr, ag⟩
 obtain ⟨u3, rfl⟩ := hr w rfl
 refine Ln ?_
 obtain ⟨p', q', ob3, l3, l4, _, _⟩ := ag.txt ⟨t1, t2, t3, t4, t5⟩
 have oa3 : Own H3 a [.slice p L.length c, .slice q K.length d] := ag.le.get a _ (by rw [AH.del_ne hab]; exact oa2)
 have mv : ∀ {r : Option (Nat × Nat)} {vs : List AV}, Lst H0 (G2.del b).next r vs → (r = p ∨ r = q) → Lst H3 0 r vs := fun {r vs} l hr => (l.move (h' := H3) fun i c hi hg ho => by
  have e1 : H1.get i = some c := (fr.new i hi).trans hg
  have e2 : H2.get i = some c := k2 i c e1 (.inr (by rcases hr with e | e <;> subst e <;> first | exact .inl ho | exact .inr ho))
  have hne : i ≠ b := by simp only [AH.del] at hi; omega
  exact ag.le.get i c (by rw [AH.del_ne hne]; exact e2)).zero
 refine Sr (Lo (w_ldA (l := [.slice p L.length c, .slice q K.length d]) tA33 oa3.cells ?_))
 refine Lo (w_ldA (l := [.slice p' L.length c, .slice q' K.length d]) tA33 ob3.cells ?_)
 refine Lo (w_call' isf37 ?_ (hR := by exact c37 (mv t2 (.inl rfl)) (mv t3 (.inr rfl)) l3 l4 t4 t5))
 rintro e4 H4 ⟨rfl, le4⟩
 refine Lz (w_assign ?_)
 refine Rt ?_
 refine leave_ret rfl ?_
 refine ⟨rfl, Le.trans ⟨?_, fun i c hi => ?_⟩ le4⟩
 · have := ag.le.next; have := s.next; simp only [AH.del] at *; omega
 · obtain ⟨e1, e2, e3⟩ := gG i c hi
   exact ag.le.get i c (by rw [AH.del_ne e3]; exact keepG i c (by rw [AH.del_ne e3]; exact e1) e2)
theorem c3 {h : AH} {bp : Option (Nat × Nat)} {bn : Nat} {cbp : Nat} {rp : Option (Nat × Nat)} {rn : Nat} {crp : Nat} {ep : Option (Nat × Nat)} {en : Nat} {cep : Nat} {qp : Option (Nat × Nat)} {qn : Nat} {cqp : Nat} {rq : Int} {st : Int} {lp : Option (Nat × Nat)} {ln : Nat} {clp : Nat} {wp : Option (Nat × Nat)} {wn : Nat} {cwp : Nat} (sbp : SlV h bp bn 5 (okL h [.str, .i, .i, .i, .bool])) (mbp : bn ≤ 1048576) (xbp : bn ≤ cbp) (srp : SlV h rp rn 2 (okL h [.str, .i])) (mrp : rn ≤ 1048576) (xrp : rn ≤ crp) (sep : SlV h ep en 2 (okL h [.i, .bool])) (mep : en ≤ 1048576) (xep : en ≤ cep) (sqp : SlV h qp qn 4 (okL h [.i, .i, .i, .i])) (mqp : qn ≤ 1048576) (xqp : qn ≤ cqp) (brq : (-9223372036854775808) ≤ rq ∧ rq ≤ 9223372036854775807) (bst : (-9223372036854775808) ≤ st ∧ st ≤ 9223372036854775807) (slp : SlV h lp ln 1 (okL h [.i])) (mlp : ln ≤ 1048576) (xlp : ln ≤ clp) (swp : SlV h wp wn 1 (okL h [.i])) (mwp : wn ≤ 1048576) (xwp : wn ≤ cwp) : JCall Tryz.prog 3 [.agg [.slice bp bn (.exact cbp), .slice rp rn (.exact crp), .slice ep en (.exact cep), .slice qp qn (.exact cqp), .int .i64 rq, .int .i64 st, .slice lp ln (.exact clp), .slice wp wn (.exact cwp)]] h (fun e _ => e = .ret (.bool true)) := JCall_wf fun hw => by
 refine JCall_sup fun gs => ?_
 have hx1 : (AV.agg [.slice bp bn (.exact cbp), .slice rp rn (.exact crp), .slice ep en (.exact cep), .slice qp qn (.exact cqp), .int .i64 rq, .int .i64 st, .slice lp ln (.exact clp), .slice wp wn (.exact cwp)]).sup ≤ h.next := by simp only [supL] at gs; omega
 have hx2 : supL [.slice bp bn (.exact cbp), .slice rp rn (.exact crp), .slice ep en (.exact cep), .slice qp qn (.exact cqp), .int .i64 rq, .int .i64 st, .slice lp ln (.exact clp), .slice wp wn (.exact cwp)] ≤ h.next := hx1
 refine JCall_of_J (N := 53) (sl := [(0, _)]) isf3 rfl (by show 1 ≤ 53; decide) rfl ?_
 refine Sr (Lo (w_box (z := [.slice bp bn (.exact cbp), .slice rp rn (.exact crp), .slice ep en (.exact cep), .slice qp qn (.exact cqp), .int .i64 rq, .int .i64 st, .slice lp ln (.exact clp), .slice wp wn (.exact cwp)]) ?_))
 intro xb G0 n0
 refine Lz (w_assign ?_)
 refine Sr (Lo (w_alloc (zc := [.slice none 0 (.exact 0), .slice none 0 (.exact 0)]) tN33 ?_))
 intro a G1 n1
 refine Lz (w_alloc (zc := [.slice none 0 (.exact 0), .slice none 0 (.exact 0)]) tN33 ?_)
 intro b G2 n2
 refine Sr (Lo (JO_wf fun hw2 => ?_))
 have xG : Own G2 xb [.slice bp bn (.exact cbp), .slice rp rn (.exact crp), .slice ep en (.exact cep), .slice qp qn (.exact cqp), .int .i64 rq, .int .i64 st, .slice lp ln (.exact clp), .slice wp wn (.exact cwp)] := by show G2.get xb = _; rw [n2.old xb (by have := n0.is; have := n1.is; have := n2.is; have := n0.next; have := n1.next; omega), n1.old xb (by have := n0.is; have := n1.is; have := n0.next; omega)]; exact n0.new
 refine (w_ldA (l := [.slice bp bn (.exact cbp), .slice rp rn (.exact crp), .slice ep en (.exact cep), .slice qp qn (.exact cqp), .int .i64 rq, .int .i64 st, .slice lp ln (.exact clp), .slice wp wn (.exact cwp)]) tA30 xG.cells ?_)
 refine Lo (JO_wf fun hw3 => ?_)
 have g2w : G2.wf := hw3.2.1
 obtain ⟨H0, p0, c0, q0, d0, L, K, tx, hfx, h0w, h0n, keep, hca⟩ := first_all (P := Tryz.prog) (f := 4) (KN := 13631496) (KM := 2097152) hw n0 n1 n2 g2w hx1 hx2 (by omega) (by omega) (fun hB M lB hb => (c4 hb (by omega) (by omega) (SlV.leL sbp lB lB) mbp (SlV.leL srp lB lB) mrp (SlV.leL sep lB lB) mep (SlV.leL sqp lB lB) mqp brq bst (SlV.leL slp lB lB) mlp (SlV.leL swp lB lB) mwp).mono fun e H ⟨k1, n2, m2, k2, k3, k4, k5⟩ => ⟨k1, n2, m2, k2, by omega, by omega, k5⟩)
 refine (w_call' isf4 ?_ (hR := by exact hca))
 rintro e1 H1 ⟨rfl, fr⟩
 obtain ⟨lH, ox, oa, ob, nxa, nxb, nab, h1n⟩ := first_on hw n0 n1 n2 tx h0n keep fr
 refine Ln ?_
 refine Sr (Lo (w_makeFunc ?_))
 have l0_1_7 : Le h H1 := lH
 refine Lo (w_call' isf5 ?_ (hR := by exact JCall_wf fun gw => c5 (fun M a mw ma kG mn kM ob => c6 (SlV.leL sbp l0_1_7 l0_1_7) mbp xbp (SlV.leL srp l0_1_7 l0_1_7) mrp xrp (SlV.leL sep l0_1_7 l0_1_7) mep xep (SlV.leL sqp l0_1_7 l0_1_7) mqp xqp brq bst (SlV.leL slp l0_1_7 l0_1_7) mlp xlp (SlV.leL swp l0_1_7 l0_1_7) mwp xwp gw ma kG mn ob ox)))
 rintro e8 h9 ⟨rfl, le10⟩
 refine Lo (w_move ?_)
 refine Gl (w_makeFunc ?_)
 have o11 : Own h9 xb [.slice bp bn (.exact cbp), .slice rp rn (.exact crp), .slice ep en (.exact cep), .slice qp qn (.exact cqp), .int .i64 rq, .int .i64 st, .slice lp ln (.exact clp), .slice wp wn (.exact cwp)] := (ox.le le10)
 have l0_2_12 : Le h h9 := l0_1_7.trans le10
 refine Gl (w_call' isf5 ?_ (hR := by exact JCall_wf fun gw => c5 (fun M a mw ma kG mn kM ob => c11 (SlV.leL sbp l0_2_12 l0_2_12) mbp xbp (SlV.leL srp l0_2_12 l0_2_12) mrp xrp (SlV.leL sep l0_2_12 l0_2_12) mep xep (SlV.leL sqp l0_2_12 l0_2_12) mqp xqp brq bst (SlV.leL slp l0_2_12 l0_2_12) mlp xlp (SlV.leL swp l0_2_12 l0_2_12) mwp xwp gw ma kG mn ob o11)))
 rintro e13 h14 ⟨rfl, le15⟩
 refine Lo (w_pick_t ?_)
 refine Lo (w_move ?_)
 refine Gl (w_makeFunc ?_)
 have o16 : Own h14 xb [.slice bp bn (.exact cbp), .slice rp rn (.exact crp), .slice ep en (.exact cep), .slice qp qn (.exact cqp), .int .i64 rq, .int .i64 st, .slice lp ln (.exact clp), .slice wp wn (.exact cwp)] := (o11.le le15)
 have l0_3_17 : Le h h14 := l0_2_12.trans le15
 refine Gl (w_call' isf5 ?_ (hR := by exact JCall_wf fun gw => c5 (fun M a mw ma kG mn kM ob => c13 (SlV.leL sbp l0_3_17 l0_3_17) mbp xbp (SlV.leL srp l0_3_17 l0_3_17) mrp xrp (SlV.leL sep l0_3_17 l0_3_17) mep xep (SlV.leL sqp l0_3_17 l0_3_17) mqp xqp brq bst (SlV.leL slp l0_3_17 l0_3_17) mlp xlp (SlV.leL swp l0_3_17 l0_3_17) mwp xwp gw ma kG mn ob o16)))
 rintro e18 h19 ⟨rfl, le20⟩
 refine Lo (w_pick_t ?_)
 refine Lo (w_move ?_)
 refine Gl (w_makeFunc ?_)
 have o21 : Own h19 xb [.slice bp bn (.exact cbp), .slice rp rn (.exact crp), .slice ep en (.exact cep), .slice qp qn (.exact cqp), .int .i64 rq, .int .i64 st, .slice lp ln (.exact clp), .slice wp wn (.exact cwp)] := (o16.le le20)
 have l0_4_22 : Le h h19 := l0_3_17.trans le20
 refine Gl (w_call' isf5 ?_ (hR := by exact JCall_wf fun gw => c5 (fun M a mw ma kG mn kM ob => c16 (SlV.leL sbp l0_4_22 l0_4_22) mbp xbp (SlV.leL srp l0_4_22 l0_4_22) mrp xrp (SlV.leL sep l0_4_22 l0_4_22) mep xep (SlV.leL sqp l0_4_22 l0_4_22) mqp xqp brq bst (SlV.leL slp l0_4_22 l0_4_22) mlp xlp (SlV.leL swp l0_4_22 l0_4_22) mwp xwp gw ma kG mn ob o21)))
 rintro e23 h24 ⟨rfl, le25⟩
 refine Lo (w_pick_t ?_)
 refine Lo (w_move ?_)
 refine Gl (w_makeFunc ?_)
 have o26 : Own h24 xb [.slice bp bn (.exact cbp), .slice rp rn (.exact crp), .slice ep en (.exact cep), .slice qp qn (.exact cqp), .int .i64 rq, .int .i64 st, .slice lp ln (.exact clp), .slice wp wn (.exact cwp)] := (o21.le le25)
 have l0_5_27 : Le h h24 := l0_4_22.trans le25
 refine Gl (w_call' isf5 ?_ (hR := by exact JCall_wf fun gw => c5 (fun M a mw ma kG mn kM ob => c21 (SlV.leL sbp l0_5_27 l0_5_27) mbp xbp (SlV.leL srp l0_5_27 l0_5_27) mrp xrp (SlV.leL sep l0_5_27 l0_5_27) mep xep (SlV.leL sqp l0_5_27 l0_5_27) mqp xqp brq bst (SlV.leL slp l0_5_27 l0_5_27) mlp xlp (SlV.leL swp l0_5_27 l0_5_27) mwp xwp gw ma kG mn ob o26)))
 rintro e28 h29 ⟨rfl, le30⟩
 refine Lo (w_pick_t ?_)
 refine Lo (w_move ?_)
 refine Gl (w_makeFunc ?_)
 have o31 : Own h29 xb [.slice bp bn (.exact cbp), .slice rp rn (.exact crp), .slice ep en (.exact cep), .slice qp qn (.exact cqp), .int .i64 rq, .int .i64 st, .slice lp ln (.exact clp), .slice wp wn (.exact cwp)] := (o26.le le30)
 have l0_6_32 : Le h h29 := l0_5_27.trans le30
 refine Gl (w_call' isf5 ?_ (hR := by exact JCall_wf fun gw => c5 (fun M a mw ma kG mn kM ob => c26 (SlV.leL sbp l0_6_32 l0_6_32) mbp xbp (SlV.leL srp l0_6_32 l0_6_32) mrp xrp (SlV.leL sep l0_6_32 l0_6_32) mep xep (SlV.leL sqp l0_6_32 l0_6_32) mqp xqp brq bst (SlV.leL slp l0_6_32 l0_6_32) mlp xlp (SlV.leL swp l0_6_32 l0_6_32) mwp xwp gw ma kG mn ob o31)))
 rintro e33 h34 ⟨rfl, le35⟩
 refine Lo (w_pick_t ?_)
 refine Lo (w_move ?_)
 refine Gl (w_makeFunc ?_)
 have o36 : Own h34 xb [.slice bp bn (.exact cbp), .slice rp rn (.exact crp), .slice ep en (.exact cep), .slice qp qn (.exact cqp), .int .i64 rq, .int .i64 st, .slice lp ln (.exact clp), .slice wp wn (.exact cwp)] := (o31.le le35)
 have l0_7_37 : Le h h34 := l0_6_32.trans le35
 refine Gl (w_call' isf5 ?_ (hR := by exact JCall_wf fun gw => c5 (fun M a mw ma kG mn kM ob => c29 (SlV.leL sbp l0_7_37 l0_7_37) mbp xbp (SlV.leL srp l0_7_37 l0_7_37) mrp xrp (SlV.leL sep l0_7_37 l0_7_37) mep xep (SlV.leL sqp l0_7_37 l0_7_37) mqp xqp brq bst (SlV.leL slp l0_7_37 l0_7_37) mlp xlp (SlV.leL swp l0_7_37 l0_7_37) mwp xwp gw ma kG mn ob o36)))
 rintro e38 h39 ⟨rfl, le40⟩
 refine Lo (w_pick_t ?_)
 refine Lo (w_move ?_)
 refine Gl (w_makeFunc ?_)
 have o41 : Own h39 xb [.slice bp bn (.exact cbp), .slice rp rn (.exact crp), .slice ep en (.exact cep), .slice qp qn (.exact cqp), .int .i64 rq, .int .i64 st, .slice lp ln (.exact clp), .slice wp wn (.exact cwp)] := (o36.le le40)
 have l0_8_42 : Le h h39 := l0_7_37.trans le40
 refine Gl (w_call' isf5 ?_ (hR := by exact JCall_wf fun gw => c5 (fun M a mw ma kG mn kM ob => c32 (SlV.leL sbp l0_8_42 l0_8_42) mbp xbp (SlV.leL srp l0_8_42 l0_8_42) mrp xrp (SlV.leL sep l0_8_42 l0_8_42) mep xep (SlV.leL sqp l0_8_42 l0_8_42) mqp xqp brq bst (SlV.leL slp l0_8_42 l0_8_42) mlp xlp (SlV.leL swp l0_8_42 l0_8_42) mwp xwp gw ma kG mn ob o41)))
 rintro e43 h44 ⟨rfl, le45⟩
 refine Lo (w_pick_t ?_)
 refine Lo (w_move ?_)
 refine Gl (w_makeFunc ?_)
 have o46 : Own h44 xb [.slice bp bn (.exact cbp), .slice rp rn (.exact crp), .slice ep en (.exact cep), .slice qp qn (.exact cqp), .int .i64 rq, .int .i64 st, .slice lp ln (.exact clp), .slice wp wn (.exact cwp)] := (o41.le le45)
 have l0_9_47 : Le h h44 := l0_8_42.trans le45
 refine Gl (w_call' isf5 ?_ (hR := by exact JCall_wf fun gw => c5 (fun M a mw ma kG mn kM ob => c35 (SlV.leL sbp l0_9_47 l0_9_47) mbp xbp (SlV.leL srp l0_9_47 l0_9_47) mrp xrp (SlV.leL sep l0_9_47 l0_9_47) mep xep (SlV.leL sqp l0_9_47 l0_9_47) mqp xqp brq bst (SlV.leL slp l0_9_47 l0_9_47) mlp xlp (SlV.leL swp l0_9_47 l0_9_47) mwp xwp gw ma kG mn ob o46)))
 rintro e48 h49 ⟨rfl, le50⟩
 refine Lo (w_pick_t ?_)
 refine Lz (w_assign ?_)
 refine Sr ?_
 have o51 : Own h49 xb [.slice bp bn (.exact cbp), .slice rp rn (.exact crp), .slice ep en (.exact cep), .slice qp qn (.exact cqp), .int .i64 rq, .int .i64 st, .slice lp ln (.exact clp), .slice wp wn (.exact cwp)] := (o46.le le50)
 refine Lo (w_ldA (l := [.slice bp bn (.exact cbp), .slice rp rn (.exact crp), .slice ep en (.exact cep), .slice qp qn (.exact cqp), .int .i64 rq, .int .i64 st, .slice lp ln (.exact clp), .slice wp wn (.exact cwp)]) tA30 o51.cells ?_)
 have l1_3_52 : Le H1 h14 := le10.trans le15
 have l1_4_53 : Le H1 h19 := l1_3_52.trans le20
 have l1_5_54 : Le H1 h24 := l1_4_53.trans le25
 have l1_6_55 : Le H1 h29 := l1_5_54.trans le30
 have l1_7_56 : Le H1 h34 := l1_6_55.trans le35
 have l1_8_57 : Le H1 h39 := l1_7_56.trans le40
 have l1_9_58 : Le H1 h44 := l1_8_57.trans le45
 have l1_10_59 : Le H1 h49 := l1_9_58.trans le50
 refine Lo (w_call' isf4 ?_ (hR := by exact second_all hw n0 n1 n2 g2w hx1 hx2 tx hfx h0n keep fr l1_10_59))
 rintro e2 h60 ⟨⟨v2, rfl⟩, oa3, ⟨p1, q1, ob3, la, lb, lc, ld⟩, tL, tK⟩
 refine Ln ?_
 refine Sr (Lo (w_move ?_))
 refine Lo (w_move ?_)
 refine Gl (w_ldA (l := [.slice p0 L.length c0, .slice q0 K.length d0]) tA33 oa3.cells ?_)
 refine Gl (w_ldA (l := [.slice p1 L.length c0, .slice q1 K.length d0]) tA33 ob3.cells ?_)
 refine Gl (w_call' isf37 ?_ (hR := by exact c37 la lb lc ld tL tK))
 rintro e3 h61 ⟨rfl, le62⟩
 refine Lo (w_pick_t ?_)
 refine Lo (w_move ?_)
 refine Gl (w_call' isf38 ?_ (hR := by exact Go.Proofs.Aw.awake))
 rintro e4 h63 ⟨rfl, le64⟩
 refine Lo (w_pick_t ?_)
 refine Lz (w_assign ?_)
 refine Rt ?_
 refine leave_ret rfl ?_
 exact rfl
theorem law (h : AH) (avs : List AV) (ha : okL h [.sl [.str, .i, .i, .i, .bool], .sl [.str, .i], .sl [.i, .bool], .sl [.i, .i, .i, .i], .i, .i, .sl [.i], .sl [.i]] avs) : JCall Tryz.prog 3 [.agg avs] h (fun e _ => e = .ret (.bool true)) := by
 obtain ⟨_, _, rfl, ⟨p1, m2, c3, rfl, hcc3, hmm2, sv4⟩, _, _, rfl, ⟨p6, m7, c8, rfl, hcc8, hmm7, sv9⟩, _, _, rfl, ⟨p11, m12, c13, rfl, hcc13, hmm12, sv14⟩, _, _, rfl, ⟨p16, m17, c18, rfl, hcc18, hmm17, sv19⟩, _, _, rfl, ⟨n21, rfl, lon21, hin21⟩, _, _, rfl, ⟨n22, rfl, lon22, hin22⟩, _, _, rfl, ⟨p23, m24, c25, rfl, hcc25, hmm24, sv26⟩, _, _, rfl, ⟨p28, m29, c30, rfl, hcc30, hmm29, sv31⟩, rfl⟩ := ha
 replace sv4 : SlV h p1 m2 5 (okL h [.str, .i, .i, .i, .bool]) := sv4
 replace sv9 : SlV h p6 m7 2 (okL h [.str, .i]) := sv9
 replace sv14 : SlV h p11 m12 2 (okL h [.i, .bool]) := sv14
 replace sv19 : SlV h p16 m17 4 (okL h [.i, .i, .i, .i]) := sv19
 replace sv26 : SlV h p23 m24 1 (okL h [.i]) := sv26
 replace sv31 : SlV h p28 m29 1 (okL h [.i]) := sv31
 exact Go.Proofs.JT.c3 sv4 hmm2 hcc3 sv9 hmm7 hcc8 sv14 hmm12 hcc13 sv19 hmm17 hcc18 ⟨lon21, hin21⟩ ⟨lon22, hin22⟩ sv26 hmm24 hcc25 sv31 hmm29 hcc30
end Go.Proofs.JT
