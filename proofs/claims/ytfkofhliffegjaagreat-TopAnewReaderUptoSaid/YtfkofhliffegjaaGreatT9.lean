/- The call duodecimotop.TopAnewReader returns true for every argument and leaves it as it was.
Conditions: the argument holds at most 1048576 values and letters in all, each counted each time it is reached (the statement's own bound: TopAnewReaderUptoSaid); its slices share no memory that anyone turns during the call, as the row's cells say. -/
import Derived.Test.YtfkofhliffegjaaGreatT7
import Derived.Test.YtfkofhliffegjaaGreatT3
import Derived.Test.YtfkofhliffegjaaGreatRows
import Derived.WalkKit
import Derived.ProofKit
import Derived.OpenShut
import Derived.JoinedCond
set_option linter.all false
namespace Go.Proofs.YtfkofhliffegjaaGreat
open Go.ChangeShapes Go.WideShapes Go.ChangeAt Go.RowKit Go.J
mutual
theorem upto_bulk {H : Type} : ∀ (d : DataW H), bulk d ≤ Rows.uptoBulk d
 | .lit l => by cases l <;> simp [bulk, Rows.uptoBulk]
 | .nil => by simp [bulk, Rows.uptoBulk]
 | .ptr d => by simp only [bulk, Rows.uptoBulk]; have := upto_bulk d; omega
 | .slice e s => by simp only [bulk, Rows.uptoBulk]; have := upto_bulkL e; have := upto_bulkL s; omega
 | .agg p => by simp only [bulk, Rows.uptoBulk]; have := upto_bulkL p; omega
 | .iface _ d => by simp only [bulk, Rows.uptoBulk]; have := upto_bulk d; omega
 | .map _ => by simp [bulk, Rows.uptoBulk]
 | .held _ => by simp [bulk, Rows.uptoBulk]
theorem upto_bulkL {H : Type} : ∀ (l : List (DataW H)), bulkL l ≤ Rows.uptoBulkAll l
 | [] => by simp [bulkL, Rows.uptoBulkAll]
 | d :: r => by simp only [bulkL, Rows.uptoBulkAll]; have := upto_bulk d; have := upto_bulkL r; omega
end
theorem ownK : ownKnob Tryz.prog.godebug = none := by kernel_rfl
theorem kids : Kids Tryz.prog (· < Tryz.prog.types.size) := kids_rows (by kernel_rfl) (by kernel_rfl)
theorem full : ∀ t e, t < Tryz.prog.types.size → Tryz.prog.underlying t = some (.slice e) → 0 < Tryz.prog.cellsOf e := slices_full_of _ (by kernel_rfl)
def argTys : List Ty := [.sl [.str, .int i64lo i64hi, .int i64lo i64hi, .int i64lo i64hi, .bool], .sl [.str, .int i64lo i64hi], .sl [.int i64lo i64hi, .bool], .sl [.int i64lo i64hi, .int i64lo i64hi, .int i64lo i64hi, .int i64lo i64hi], .int i64lo i64hi, .int i64lo i64hi, .sl [.int i64lo i64hi], .sl [.int i64lo i64hi]]
theorem argTys_is : tysOf Tryz.prog 8 true 30 = some argTys := by kernel_rfl
theorem und30 : isStruct Tryz.prog 30 = true := by kernel_rfl
theorem law (h : AH) (avs : List AV) (_ : AllRo h) (ha : okL h argTys avs) : JCall Tryz.prog 3 [.agg avs] h (fun e _ => e = .ret (.bool true)) := Go.Proofs.JT.law h avs ha
set_option maxRecDepth 100000 in
theorem contract (H : Type) (enc : TypeId × Value → H) (W : World) (base : Nat) (args : Array Value) (ds gs : List (DataW H)) (before : List MemPlace)
 (hval : ∀ (j : Nat) t v, Tryz.f3.params[j]? = some t → args[j]? = some v → Value.okWide Tryz.prog W .any base t v)
 (hW : DataW.Whole enc Tryz.prog Tryz.f3.params.toList Rows.topAnewReaderSpec.vars false W args.toList ds gs before) (hk : Rows.uptoSmall H (ds ++ gs) = true) :
 Calls Tryz.prog 3 args W fun e W' => ∃ v, e = .returned v ∧ Rows.topAnewReaderSpec.post enc Tryz.prog Tryz.f3 false true false false W args v W' := by
 have hW' := hW
 obtain ⟨p, q, hA0, hV, rfl, hfz, hnd⟩ := hW
 have hA : DataW.TrodAll enc Tryz.prog W 0 (fun _ => true) true Tryz.f3.params.toList args.toList ds p := hA0
 rw [Tryz.params3] at hA hval
 obtain ⟨v0, vs0, d0, ds0, p0, q0, hargs, rfl, rfl, h0, r0⟩ := trodAll_cons hA
 obtain ⟨rfl, rfl, rfl⟩ := trodAll_nil r0
 obtain rfl : args = #[v0] := by cases args; simp_all
 obtain ⟨rfl, rfl⟩ := trodVars_none hV
 have hv0 : Value.okWide Tryz.prog W .any base 30 v0 := hval 0 30 v0 rfl rfl
 obtain ⟨cs, rfl, hpl⟩ := plain_of_okWide und30 hv0
 obtain ⟨n, hd⟩ := h0
 have hb : bulk d0 ≤ 1048576 := by
  unfold Rows.uptoSmall at hk
  rw [decide_eq_true_iff] at hk
  have h1 : Rows.uptoBulkAll [d0] ≤ 1048576 := by rw [List.append_nil] at hk; exact hk
  have := upto_bulk d0
  simp only [Rows.uptoBulkAll] at h1
  omega
 refine (calls_of_J (f := 3) argTys_is hpl (by simpa [Value.cells] using hd) hb law).mono fun e W' ⟨he, hs⟩ => ?_
 subst he
 exact ⟨_, rfl, post_law hW' hs rfl rfl (by kernel_rfl) Tryz.underlying4 kids full (fun t ht => by rw [Tryz.params3] at ht; simp at ht; subst ht; exact of_decide_eq_true (by kernel_rfl))⟩
set_option maxRecDepth 100000 in
theorem lifted (os : Os) (started : os.Started) (H : Type) (enc : TypeId × Value → H) (F : Stop.Interp) :
 ReturnsInHanded {} Tryz.checked os 3 .any ((Rows.OpenSpec.upto Rows.topAnewReaderSpec).pre6 enc Tryz.prog Tryz.f3 Rows.topAnewReaderUptoRow.domain false) (((Rows.OpenSpec.upto Rows.topAnewReaderSpec).at F).post enc Tryz.prog Tryz.f3 false true false false) := by
 refine returnsInHanded_of_cond (C := Tryz.checked) (s := Rows.OpenSpec.upto Rows.topAnewReaderSpec) (k := Rows.uptoSmall) rfl ownK started (by kernel_rfl) Tryz.func3
  (OpenSpec.witness (enc := enc) (C := Tryz.checked) (s := Rows.OpenSpec.upto Rows.topAnewReaderSpec) (k := Rows.uptoSmall) rfl false ⟨#[], #[.agg #[.slice none 0 0, .slice none 0 0, .slice none 0 0, .slice none 0 0, .int .i64 0, .int .i64 0, .slice none 0 0, .slice none 0 0]], []⟩ 8 (by kernel_rfl) (by kernel_rfl) (by kernel_rfl)
    (x := ([.agg [.agg [.nil, .nil, .nil, .nil], .lit (.int .i64 0), .lit (.int .i64 0), .nil, .nil]], [], [])) (by kernel_rfl) rfl (by kernel_rfl)) ?_
 intro W base args ds gs before hval hW _ hk _
 exact contract H enc W base args ds gs before hval hW hk
theorem proved : Rows.TopAnewReaderUptoSaid :=
 OpenClaim.holds_of_cond 3 Tryz.f3 rfl rfl rfl rfl rfl rfl rfl ⟨rfl, rfl, rfl, rfl, rfl⟩ rfl rfl rfl rfl rfl (by kernel_rfl) Tryz.func3 (by kernel_rfl)
  (of_decide_eq_true (by kernel_rfl)) (by unfold Func.isWrapper; first | (rw [if_pos (by decide +kernel)]; kernel_rfl) | (rw [if_neg (by decide +kernel)]; exact ⟨rfl, rfl⟩))
  (fun os started H enc _ F => lifted os started H enc F)
end Go.Proofs.YtfkofhliffegjaaGreat
