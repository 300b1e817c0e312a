import Derived.Test.YtfkofhliffegjaaGreatT2
import Derived.ReadAgain
import Derived.ChangeSame
import Derived.ChangeArms
import Derived.ChangeSlices
import Derived.OpenShut
import Derived.RowKit
set_option linter.all false
namespace Go.J
def upd (hw : Nat → AH) (T : Nat → List Nat) (S : Nat → Bool) (h0 : AH) : Nat → Nat → Option Chunk
 | 0, i => h0.get i
 | k + 1, i => if S k = true ∧ i ∈ T k then (hw k).get i else upd hw T S h0 k i
theorem upd_spec {hw : Nat → AH} {T : Nat → List Nat} {S : Nat → Bool} {h0 : AH} {i : Nat} : ∀ k, (∃ j, j < k ∧ S j = true ∧ i ∈ T j ∧ (∀ j', j < j' → j' < k → S j' = true → i ∉ T j') ∧ upd hw T S h0 k i = (hw j).get i) ∨ ((∀ j, j < k → S j = true → i ∉ T j) ∧ upd hw T S h0 k i = h0.get i)
 | 0 => .inr ⟨fun j hj => by omega, rfl⟩
 | k + 1 => by
   simp only [upd]
   split
   · rename_i h
     exact .inl ⟨k, by omega, h.1, h.2, fun j' h1 h2 => by omega, rfl⟩
   · rename_i h
     rcases upd_spec k with ⟨j, h1, h2, h3, h4, h5⟩ | ⟨h1, h2⟩
     · refine .inl ⟨j, by omega, h2, h3, fun j' a b c d => ?_, h5⟩
       by_cases e : j' = k
       · subst e; exact h ⟨c, d⟩
       · exact h4 j' a (by omega) c d
     · refine .inr ⟨fun j a b c => ?_, h2⟩
       by_cases e : j = k
       · subst e; exact h ⟨b, c⟩
       · exact h1 j (by omega) b c
theorem upd_congr {hw : Nat → AH} {T : Nat → List Nat} {S S' : Nat → Bool} {h0 : AH} {i : Nat} : ∀ k, (∀ j, j < k → i ∈ T j → S j = S' j) → upd hw T S h0 k i = upd hw T S' h0 k i
 | 0, _ => rfl
 | k + 1, h => by
   have ih := upd_congr (hw := hw) (T := T) (S := S) (S' := S') (h0 := h0) (i := i) k fun j hj => h j (by omega)
   simp only [upd, ih]
   by_cases hi : i ∈ T k
   · simp only [h k (by omega) hi]
   · simp [hi]
def notR (hv hw : Nat → AH) (j : Nat) (nm : Nat) : Bool := !(Nat.ble (hv j).next nm && Nat.blt nm (hw j).next)
theorem notR_lt {hv hw : Nat → AH} {j nm : Nat} (h : nm < (hv j).next) : notR hv hw j nm = true := by
 unfold notR
 have : Nat.ble (hv j).next nm = false := by
  cases hb : Nat.ble (hv j).next nm with
  | false => rfl
  | true => have := Nat.le_of_ble_eq_true hb; omega
 rw [this]; rfl
theorem notR_iff {hv hw : Nat → AH} {j nm : Nat} : notR hv hw j nm = true ↔ ¬((hv j).next ≤ nm ∧ nm < (hw j).next) := by
 unfold notR
 rw [Bool.not_eq_true', Bool.and_eq_false_iff]
 constructor
 · rintro (h | h) ⟨h1, h2⟩
   · have := Nat.ble_eq_true_of_le h1; rw [h] at this; cases this
   · have : Nat.blt nm (hw j).next = true := by rw [Nat.blt_eq]; exact h2
     rw [h] at this; cases this
 · intro h
   by_cases h1 : (hv j).next ≤ nm
   · right
     cases hb : Nat.blt nm (hw j).next with
     | false => rfl
     | true => exact absurd ⟨h1, by rw [Nat.blt_eq] at hb; exact hb⟩ h
   · left
     cases hb : Nat.ble (hv j).next nm with
     | false => rfl
     | true => exact absurd (Nat.le_of_ble_eq_true hb) h1
section
variable {rk : Nat → Nat} {P : Program} {r : Option Nat} {ops : Array Oper} {sl0 : List (Nat × AV)} {vals : List AV} {srcs : List Src} {fin : Src} {h0 hF : AH} {hv hw : Nat → AH} {T : Nat → List Nat} {evs : Nat → List AH} {n : Nat} {ds : List ADef}
structure XOk (rk : Nat → Nat) (P : Program) (r : Option Nat) (ops : Array Oper) (sl0 : List (Nat × AV)) (vals : List AV) (srcs : List Src) (fin : Src) (h0 hF : AH) (hv hw : Nat → AH) (T : Nat → List Nat) (evs : Nat → List AH) (n : Nat) (ds : List ADef) : Prop where
 plan : PlanOk ops [] srcs fin
 op : ∀ j o, ops[j]? = some o → ∃ v, vals[j]? = some v ∧ OpDo P r ops o ⟨fillS sl0 vals (srcs.getD j []), hv j, n, ds⟩ (hw j) v
 inj : ∀ j k, j < ops.size → k < ops.size → rk j = rk k → j = k
 rlt : ∀ j k, j < ops.size → k ∈ (befs ops).getD j [] → rk k < rk j
 lt : ∀ j k, j < ops.size → k ∈ (befs ops).getD j [] → k < j
 nx0 : ∀ j, j < ops.size → h0.next ≤ (hv j).next
 nx : ∀ j k, j < ops.size → k < ops.size → rk k < rk j → (hw k).next ≤ (hv j).next
 nxF : h0.next ≤ hF.next ∧ ∀ j, j < ops.size → (hw j).next ≤ hF.next
 touch : ∀ j i, j < ops.size → i ∉ T j → (hw j).get i = (hv j).get i
 hvFrom : ∀ j i c, j < ops.size → (hv j).get i = some c → (∃ k, k < ops.size ∧ rk k < rk j ∧ i ∈ T k ∧ (hw k).get i = some c) ∨ h0.get i = some c
 evOp : ∀ j o v x, ops[j]? = some o → vals[j]? = some v → x ∈ evs j → OpDo P r ops o ⟨fillS sl0 vals (srcs.getD j []), x, n, ds⟩ x v ∧ T j = [] ∧ (hw j).next ≤ (hv j).next ∧ x.next = hF.next
 evFrom : ∀ j x i c, j < ops.size → x ∈ evs j → x.get i = some c → (∃ k, k < ops.size ∧ i ∈ T k ∧ (hw k).get i = some c) ∨ h0.get i = some c
 view : ∀ j (S : Nat → Bool), j < ops.size → (∀ k ∈ (befs ops).getD j [], S k = true) → S j = false → (∀ a b, a < ops.size → S a = true → b ∈ (befs ops).getD a [] → S b = true) →
  (∀ i c, (hv j).get i = some c → upd hw T S h0 ops.size i = some c) ∨ ∃ x ∈ evs j, ∀ i c, x.get i = some c → upd hw T S h0 ops.size i = some c
 same : ∀ j k i, j < k → k < ops.size → i ∈ T j → i ∈ T k → j ∈ (befs ops).getD k []
 avoid : ∀ j k, j < ops.size → rk j < rk k → k < ops.size → j ∉ (befs ops).getD k [] → (∀ v, vals[k]? = some v → v.nm (notR hv hw j) = true) ∧ ∀ i, i ∈ T k → notR hv hw j i = true ∧ ∀ c, (hw k).get i = some c → c.nm (notR hv hw j) = true
 skipT : ∀ j o, ops[j]? = some o → wantedA ops o (fillS sl0 vals (srcs.getD j [])) = some false → T j = []
 fin_ : ∀ i, hF.get i = upd hw T (fun _ => true) h0 ops.size i
def lst (listed : Array Bool) (k : Nat) : Bool := listed.getD k false
structure InvX (ops : Array Oper) (sl0 : List (Nat × AV)) (vals : List AV) (h0 : AH) (hv hw : Nat → AH) (T : Nat → List Nat) (n : Nat) (ds : List ADef) (ρ0 : Ren) (w0 : World) (listed : Array Bool) (sl : List (Nat × AV)) (ρ : Ren) (a : Act) (w : World) : Prop where
 size : listed.size = ops.size
 down : downC ops listed
 done : ∀ i t v, isL listed i → dstIs ops i t = true → vals[i]? = some v → lk sl t = some v
 rest : ∀ t v, lk sl0 t = some v → (∀ i, dstIs ops i t = true → ¬ isL listed i) → lk sl t = some v
 slots : slotsRel ρ sl n a.tmps
 avoidS : ∀ j, j < ops.size → ¬ isL listed j → ∀ k v, lk sl k = some v → v.nm (notR hv hw j) = true
 defs : a.defers = ds.map (concD ρ)
 heap : HRel ρ ⟨0, upd hw T (lst listed) h0 ops.size⟩ w
 fr : (w.os = w0.os ∧ w.tape = w0.tape ∧ w.output = w0.output) ∧ w0.heap.size ≤ w.heap.size ∧
  (∀ B, B < w0.heap.size → (∀ id c, h0.get id = some c → c.isRo = false → ρ0.blk id ≠ B) → w.heap[B]? = w0.heap[B]?) ∧
  (∀ id c, upd hw T (lst listed) h0 ops.size id = some c → w0.heap.size ≤ ρ.blk id ∨ ∃ id0 c0, h0.get id0 = some c0 ∧ (c.isRo = false → c0.isRo = false) ∧ ρ0.blk id0 = ρ.blk id) ∧
  ρ0.ext ρ h0.next
theorem bf_listed {listed : Array Bool} (hd : downC ops listed) {k b : Nat} (hk : k < ops.size) (hl : isL listed k) (hb : b ∈ (befs ops).getD k []) : isL listed b :=
 befs_spec hd (Array.getElem?_eq_getElem hk) (hd k _ (Array.getElem?_eq_getElem hk) hl) b hb
theorem XOk.wf (hx : XOk rk P r ops sl0 vals srcs fin h0 hF hv hw T evs n ds) (h0wf : h0.wf) (hsl : ∀ k v, lk sl0 k = some v → v.sup ≤ h0.next) (hds : supD ds ≤ h0.next) (hr : rsup r ≤ h0.next) :
 ∀ m j, rk j < m → j < ops.size → (hv j).wf ∧ (hw j).wf ∧ (hv j).next ≤ (hw j).next ∧ ∀ v t, vals[j]? = some v → dstIs ops j t = true → v.sup ≤ (hw j).next := by
 intro m
 induction m with
 | zero => intro j hj; omega
 | succ m ih =>
   intro j hjm hj
   by_cases e : rk j < m
   · exact ih j e hj
   have ej : rk j = m := by omega
   subst ej
   have hvwf : (hv j).wf := by
    intro i c hc
    rcases hx.hvFrom j i c hj hc with ⟨k, hk, hlt, _, h1⟩ | h1
    · obtain ⟨_, b2, _, _⟩ := ih k hlt hk
      have := hx.nx j k hj hk hlt
      have := b2 i c h1
      omega
    · have := h0wf i c h1
      have := hx.nx0 j hj
      omega
   obtain ⟨v, hv1, hdo⟩ := hx.op j ops[j] (Array.getElem?_eq_getElem hj)
   have hslots : ∀ t u, lk (fillS sl0 vals (srcs.getD j [])) t = some u → u.sup ≤ (hv j).next := by
    intro t u hu
    have gen : ∀ src : Src, (∀ s ∈ src, srcOk ops (befs ops) j s = true) → ∀ t u, lk (fillS sl0 vals src) t = some u → u.sup ≤ (hv j).next := by
     intro src
     induction src with
     | nil => intro _ t u hu; simp [fillS, lk] at hu
     | cons s src ihs =>
       intro hs t u hu
       obtain ⟨t0, oi⟩ := s
       have ihs' := ihs fun s h => hs s (List.mem_cons_of_mem _ h)
       cases oi with
       | none =>
         simp only [fillS] at hu
         cases hl : lk sl0 t0 with
         | none => rw [hl] at hu; exact ihs' t u hu
         | some u0 =>
           rw [hl] at hu
           simp only [lk] at hu
           split at hu
           · simp at hu; subst hu; have := hsl t0 _ hl; have := hx.nx0 j hj; omega
           · exact ihs' t u hu
       | some i =>
         simp only [fillS] at hu
         cases hl : vals[i]? with
         | none => rw [hl] at hu; exact ihs' t u hu
         | some u0 =>
           rw [hl] at hu
           simp only [lk] at hu
           split at hu
           · simp at hu; subst hu
             have h1 := hs (t0, some i) List.mem_cons_self
             simp only [srcOk, Bool.and_eq_true] at h1
             have hlt := hx.lt j i hj (by simpa using h1.1)
             have hrl := hx.rlt j i hj (by simpa using h1.1)
             have := (ih i hrl (by omega)).2.2.2 _ t0 hl h1.2
             have := hx.nx j i hj (by omega) hrl
             omega
           · exact ihs' t u hu
    exact gen _ (hx.plan.src j hj) t u hu
   have hnx0 := hx.nx0 j hj
   have hwfN : St.wf ⟨fillS sl0 vals (srcs.getD j []), hv j, n, ds⟩ := ⟨hslots, hvwf, Nat.le_trans hds hnx0⟩
   rcases hdo with ⟨_, hjo⟩ | ⟨_, hh, rfl, _⟩
   · obtain ⟨e, s', w1, _, w3, ⟨rfl, e2, e3, e5, e4⟩, _⟩ := hjo hwfN (Nat.le_trans hr hnx0)
     rw [← e2]
     refine ⟨hvwf, w1.2.1, w3, fun u t hu ht => ?_⟩
     rw [hv1] at hu; cases hu
     obtain ⟨o', ho', hd'⟩ := dstIs_iff.1 ht
     rw [Array.getElem?_eq_getElem hj] at ho'; cases ho'
     exact w1.1 t v (e4 t hd').2
   · rw [hh]
     exact ⟨hvwf, hvwf, Nat.le_refl _, fun u t hu _ => by rw [hv1] at hu; cases hu; exact Nat.zero_le _⟩
theorem XOk.avoidAll (hx : XOk rk P r ops sl0 vals srcs fin h0 hF hv hw T evs n ds) (h0wf : h0.wf) (hsl : ∀ k v, lk sl0 k = some v → v.sup ≤ h0.next) (hds : supD ds ≤ h0.next) (hr : rsup r ≤ h0.next) {j k : Nat} (hj : j < ops.size) (hk : k < ops.size) (hne : j ≠ k)
 (hb : j ∉ (befs ops).getD k []) : (∀ v t, vals[k]? = some v → dstIs ops k t = true → v.nm (notR hv hw j) = true) ∧ ∀ i, i ∈ T k → ∀ c, (hw k).get i = some c → notR hv hw j i = true ∧ c.nm (notR hv hw j) = true := by
 rcases Nat.lt_or_gt_of_ne (fun e => hne (hx.inj j k hj hk e)) with hlt | hgt
 · obtain ⟨a, b⟩ := hx.avoid j k hj hlt hk hb
   exact ⟨fun v t hv _ => a v hv, fun i hi c hc => ⟨(b i hi).1, (b i hi).2 c hc⟩⟩
 · obtain ⟨_, b2, _, b4⟩ := hx.wf h0wf hsl hds hr (rk k + 1) k (Nat.lt_succ_self _) hk
   have hnx := hx.nx j k hj hk hgt
   have hp : ∀ m, m < (hw k).next → notR hv hw j m = true := fun m hm => notR_lt (by omega)
   exact ⟨fun v t hv ht => nm_sup hp v (b4 v t hv ht), fun i _ c hc => ⟨hp i (b2 i c hc).1, Chunk.nm_sup hp (b2 i c hc).2⟩⟩
theorem lst_set {listed : Array Bool} {j k : Nat} (hj : j < listed.size) : lst (listed.setIfInBounds j true) k = true ↔ k = j ∨ lst listed k = true := isL_set hj
theorem drawX_core (hx : XOk rk P r ops sl0 vals srcs fin h0 hF hv hw T evs n ds) (h0wf : h0.wf) (hsl : ∀ k v, lk sl0 k = some v → v.sup ≤ h0.next) (hds : supD ds ≤ h0.next) (hr : rsup r ≤ h0.next)
 {ρ0 ρ : Ren} {w0 w : World} {a : Act} {listed : Array Bool} {sl : List (Nat × AV)} (hi : InvX ops sl0 vals h0 hv hw T n ds ρ0 w0 listed sl ρ a w) {j : Nat} (hj : j ∈ Region.ready .any ops listed) (nn : Nat) (K : Act → World → Prop) (Q : Exit → Act → World → Prop)
 (hvj hwj : AH) (hview : ∀ i c, hvj.get i = some c → upd hw T (lst listed) h0 ops.size i = some c) (hvwf : hvj.wf) (hjv : (hv j).next ≤ hvj.next) {v : AV} (hvj1 : vals[j]? = some v) {o : Oper} (ho : ops[j]? = some o)
 (hdo : OpDo P r ops o ⟨fillS sl0 vals (srcs.getD j []), hvj, n, ds⟩ hwj v) (htouch : ∀ i, i ∉ T j → hwj.get i = hvj.get i) (hR : ∀ i, i < hwj.next → notR hv hw j i = true → i < hvj.next) (hR2 : ∀ i, hwj.next ≤ i → notR hv hw j i = true)
 (hT : ∀ i, i ∈ T j → (hw j).get i = hwj.get i)
 (hK : ∀ sl' ρ' a' w', InvX ops sl0 vals h0 hv hw T n ds ρ0 w0 (listed.setIfInBounds j true) sl' ρ' a' w' → K a' w') : wpOpIn (fen ρ0 r) nn P ops Q j K a w := by
 obtain ⟨hun, o', ho', hafter⟩ := mem_ready.1 hj
 rw [ho] at ho'; cases ho'
 have hjlt : j < ops.size := (Array.getElem?_eq_some_iff.1 ho).1
 have hjl : j < listed.size := by rw [hi.size]; exact hjlt
 have hnl : ¬ isL listed j := by
  unfold isL
  rw [Array.getD_eq_getD_getElem?, Array.getElem?_eq_getElem hjl] at hun ⊢
  simp at hun ⊢; exact hun
 have hbef := befs_spec hi.down ho (fun e he hb => hafter e he hb)
 have hbefL : ∀ i, i < ops.size → isL listed i → ∀ b ∈ (befs ops).getD i [], isL listed b := fun i hil hl => fun b hb => bf_listed hi.down hil hl hb
 have hnbf : ∀ k, k < ops.size → isL listed k → j ∉ (befs ops).getD k [] := fun k hk hl hb => hnl (hbefL k hk hl j hb)
 have hsub : SubL (fillS sl0 vals (srcs.getD j [])) sl := by
  refine fillS_sub (fun t i u hm hu => ?_) (fun t u hm hu => ?_)
  · have := hx.plan.src j hjlt _ hm
    simp only [srcOk, Bool.and_eq_true] at this
    exact hi.done i t u (hbef i (by simpa using this.1)) this.2 hu
  · have := hx.plan.src j hjlt _ hm
    simp only [srcOk] at this
    refine hi.rest t u hu fun i hdi hl => ?_
    have hil : i < ops.size := by obtain ⟨oi, hoi, _⟩ := dstIs_iff.1 hdi; exact (Array.getElem?_eq_some_iff.1 hoi).1
    have h2 := List.all_eq_true.1 this i (by simpa using hil)
    simp only [hdi, Bool.not_true, Bool.false_or, Bool.or_eq_true] at h2
    rcases h2 with h2 | h2
    · exact hnl (Nat.eq_of_beq_eq_true h2 ▸ hl)
    · exact hnl (hbefL i hil hl j (by simpa using h2))
 have hrelN : Rel ρ ⟨fillS sl0 vals (srcs.getD j []), hvj, n, ds⟩ a w :=
  ⟨⟨hi.slots.1, fun t u hk => hi.slots.2 t u (hsub.lk hk)⟩, hi.defs, ⟨fun i c hc => hi.heap.1 i c (hview i c hc), fun i k ci ck hne hci hck hro => hi.heap.2 i k ci ck hne (hview i ci hci) (hview k ck hck) hro⟩⟩
 have hwantG : ∀ b, wantedA ops o (fillS sl0 vals (srcs.getD j [])) = some b → Region.wanted o (yielded ops a.tmps) = b := by
  intro b hb
  have hrl := hrelN
  revert hb hrl
  generalize fillS sl0 vals (srcs.getD j []) = need
  intro hb hrl
  unfold wantedA at hb
  unfold Region.wanted
  cases hg : o.guard with
  | none => simp [hg] at hb; subst hb; rfl
  | some g =>
    obtain ⟨g, want⟩ := g
    simp only [hg] at hb ⊢
    cases hd : (ops[g]?).bind (·.dst) with
    | none => simp [hd] at hb
    | some d =>
      simp only [hd] at hb
      cases hl : lk need d with
      | none => simp [hl] at hb
      | some x =>
        cases x <;> simp [hl] at hb
        rename_i bb
        have h1 := hrl.1.2 d _ hl
        subst hb
        have h2 : yielded ops a.tmps g = some bb := by simp [yielded, hd, h1, conc]
        rw [h2]
        cases bb <;> cases want <;> rfl
 let sl' : List (Nat × AV) := match o.dst with | some d => (d, v) :: sl | none => sl
 have hdj : ∀ t, dstIs ops j t = true ↔ o.dst = some t := fun t => by
  rw [dstIs_iff]; exact ⟨fun ⟨o', h1, h2⟩ => by rw [ho] at h1; cases h1; exact h2, fun h => ⟨o, ho, h⟩⟩
 have hdown' : downC ops (listed.setIfInBounds j true) := by
  intro i oi hoi hl e he hb
  rw [isL_set hjl] at hl ⊢
  rcases hl with rfl | hl
  · rw [ho] at hoi; cases hoi; exact .inr (hafter e he hb)
  · exact .inr (hi.down i oi hoi hl e he hb)
 have hdone' : ∀ i t u, isL (listed.setIfInBounds j true) i → dstIs ops i t = true → vals[i]? = some u → lk sl' t = some u := by
  intro i t u hl hd hu
  rw [isL_set hjl] at hl
  rcases hl with rfl | hl
  · have h1 := (hdj t).1 hd
    simp only [sl', h1, lk, Nat.beq_refl, if_true]
    rw [hvj1] at hu; exact hu
  · have hne : i ≠ j := fun e => hnl (e ▸ hl)
    have h1 := hi.done i t u hl hd hu
    simp only [sl']
    cases hod : o.dst with
    | none => exact h1
    | some d =>
      have h2 : d ≠ t := fun e => by
       have := hx.plan.uniq i j t hne hd
       rw [(hdj t).2 (by rw [hod, e])] at this; simp at this
      have h3 : Nat.beq d t = false := by
       cases hb : Nat.beq d t with
       | false => rfl
       | true => exact absurd (Nat.eq_of_beq_eq_true hb) h2
      simp only [lk, h3, Bool.false_eq_true, if_false]; exact h1
 have hrest' : ∀ t u, lk sl0 t = some u → (∀ i, dstIs ops i t = true → ¬ isL (listed.setIfInBounds j true) i) → lk sl' t = some u := by
  intro t u hu hno
  have h1 := hi.rest t u hu (fun i hd hl => hno i hd ((isL_set hjl).2 (.inr hl)))
  simp only [sl']
  cases hod : o.dst with
  | none => exact h1
  | some d =>
    have h2 : d ≠ t := fun e => hno j ((hdj t).2 (by rw [hod, e])) ((isL_set hjl).2 (.inl rfl))
    have h3 : Nat.beq d t = false := by
     cases hb : Nat.beq d t with
     | false => rfl
     | true => exact absurd (Nat.eq_of_beq_eq_true hb) h2
    simp only [lk, h3, Bool.false_eq_true, if_false]; exact h1
 have havoid' : ∀ k, k < ops.size → ¬ isL (listed.setIfInBounds j true) k → ∀ t u, lk sl' t = some u → u.nm (notR hv hw k) = true := by
  intro k hk hnk t u hu
  have hkj : k ≠ j := fun e => hnk ((isL_set hjl).2 (.inl e))
  have hnk0 : ¬ isL listed k := fun h => hnk ((isL_set hjl).2 (.inr h))
  have hkbf : k ∉ (befs ops).getD j [] := fun h => hnk0 (hbef k h)
  simp only [sl'] at hu
  cases hod : o.dst with
  | none => rw [hod] at hu; exact hi.avoidS k hk hnk0 t u hu
  | some d =>
    rw [hod] at hu
    simp only [lk] at hu
    split at hu
    · simp at hu; subst hu; exact (hx.avoidAll h0wf hsl hds hr hk hjlt hkj hkbf).1 _ d hvj1 ((hdj d).2 hod)
    · exact hi.avoidS k hk hnk0 t u hu
 have hupd : ∀ i, upd hw T (lst (listed.setIfInBounds j true)) h0 ops.size i = if i ∈ T j then hwj.get i else upd hw T (lst listed) h0 ops.size i := by
  intro i
  by_cases hij : i ∈ T j
  · rw [if_pos hij]
    rcases upd_spec (hw := hw) (T := T) (S := lst (listed.setIfInBounds j true)) (h0 := h0) (i := i) ops.size with ⟨k, k1, k2, k3, k4, k5⟩ | ⟨k1, _⟩
    · rw [k5]
      by_cases e : k = j
      · rw [e]; exact hT i hij
      · exfalso
        rcases Nat.lt_or_gt_of_ne e with hlt | hgt
        · exact k4 j hlt hjlt ((lst_set hjl).2 (.inl rfl)) hij
        · have hb := hx.same j k i hgt k1 hij k3
          rcases (lst_set hjl).1 k2 with h | h
          · exact e h
          · exact hnbf k k1 h hb
    · exact absurd hij (k1 j hjlt ((lst_set hjl).2 (.inl rfl)))
  · rw [if_neg hij]
    refine upd_congr ops.size fun k hk hik => ?_
    have hkj : k ≠ j := fun e => hij (e ▸ hik)
    cases h1 : lst listed k with
    | true => exact (lst_set hjl).2 (.inr h1)
    | false =>
      cases h2 : lst (listed.setIfInBounds j true) k with
      | false => rfl
      | true => rcases (lst_set hjl).1 h2 with h | h
                · exact absurd h hkj
                · rw [h1] at h; cases h
 have hstand : ∀ i c, upd hw T (lst listed) h0 ops.size i = some c → notR hv hw j i = true ∧ c.nm (notR hv hw j) = true := by
  intro i c hc
  rcases upd_spec (hw := hw) (T := T) (S := lst listed) (h0 := h0) (i := i) ops.size with ⟨k, k1, k2, k3, k4, k5⟩ | ⟨_, k2⟩
  · rw [k5] at hc
    have hkj : j ≠ k := fun e => hnl (e ▸ k2)
    exact (hx.avoidAll h0wf hsl hds hr hjlt k1 hkj (hnbf k k1 k2)).2 i k3 c hc
  · rw [k2] at hc
    have := h0wf i c hc
    have h1 := hx.nx0 j hjlt
    have hp : ∀ m, m < h0.next → notR hv hw j m = true := fun m hm => notR_lt (by omega)
    exact ⟨hp i this.1, Chunk.nm_sup hp this.2⟩
 have hnx00 := hx.nx0 j hjlt
 have hnx0 := Nat.le_trans hnx00 hjv
 have hp0 : ∀ m, m < h0.next → notR hv hw j m = true := fun m hm => notR_lt (by omega)
 rcases hdo with ⟨hwt, hjo⟩ | ⟨hwt, hh, rfl, hlt⟩
 · have hwfN : St.wf ⟨fillS sl0 vals (srcs.getD j []), hvj, n, ds⟩ := by
    refine ⟨fun t u h => ?_, hvwf, Nat.le_trans hds hnx0⟩
    have gen : ∀ src : Src, (∀ s ∈ src, srcOk ops (befs ops) j s = true) → ∀ t u, lk (fillS sl0 vals src) t = some u → u.sup ≤ hvj.next := by
     intro src
     induction src with
     | nil => intro _ t u hu; simp [fillS, lk] at hu
     | cons s src ihs =>
       intro hs t u hu
       obtain ⟨t0, oi⟩ := s
       have ihs' := ihs fun s h => hs s (List.mem_cons_of_mem _ h)
       cases oi with
       | none =>
         simp only [fillS] at hu
         cases hl : lk sl0 t0 with
         | none => rw [hl] at hu; exact ihs' t u hu
         | some u0 =>
           rw [hl] at hu
           simp only [lk] at hu
           split at hu
           · simp at hu; subst hu; have := hsl t0 _ hl; omega
           · exact ihs' t u hu
       | some i =>
         simp only [fillS] at hu
         cases hl : vals[i]? with
         | none => rw [hl] at hu; exact ihs' t u hu
         | some u0 =>
           rw [hl] at hu
           simp only [lk] at hu
           split at hu
           · simp at hu; subst hu
             have h1 := hs (t0, some i) List.mem_cons_self
             simp only [srcOk, Bool.and_eq_true] at h1
             have hlt := hx.lt j i hjlt (by simpa using h1.1)
             have hrl := hx.rlt j i hjlt (by simpa using h1.1)
             have := (hx.wf h0wf hsl hds hr (rk i + 1) i (Nat.lt_succ_self _) (by omega)).2.2.2 _ t0 hl h1.2
             have := hx.nx j i hjlt (by omega) hrl
             omega
           · exact ihs' t u hu
    exact gen _ (hx.plan.src j hjlt) t u h
   obtain ⟨e, s', w1, _, w3, ⟨rfl, e2, e3, e5, e4⟩, hxr⟩ := hjo hwfN (Nat.le_trans hr hnx0)
   obtain ⟨sl2, h2, n2, ds2⟩ := s'
   simp only at e2 e3 e5 e4 w3
   have e2 := e2.symm
   subst e2; subst e3; subst e5
   have hwwf := w1.2.1
   unfold wpOpIn
   simp only [ho, hwantG true hwt, if_true]
   have hfen : fen ρ r = fen ρ0 r := fen_ext hi.fr.2.2.2.2 hr
   have hop := hxr ρ a w nn hrelN
   rw [hfen] at hop
   refine ⟨hop.1, ?_⟩
   have hup := hop.2
   revert hup
   generalize (o.semAt (fen ρ0 r).round a.eval).run P w = res
   intro hup
   have fin1 : ∀ (x : Value) (w' : World) (a1 : Act), a1 = a.put o.dst x → Out ρ ⟨fillS sl0 vals (srcs.getD j []), hvj, n2, ds2⟩ w .normal ⟨sl2, hwj, n2, ds2⟩ .normal a1 w' → K a1 w' := by
    rintro x w' a1 rfl ⟨ρ1, _, k1, k2⟩
    obtain ⟨⟨f1, f2, f3⟩, f4, f5, f6', f7, f8⟩ := k2
    have f6 : ∀ id c, hwj.get id = some c → c.isRo = false → w.heap.size ≤ ρ1.blk id ∨ ∃ id0 c0, hvj.get id0 = some c0 ∧ c0.isRo = false ∧ ρ.blk id0 = ρ1.blk id := fun id c hg hr => (f6' id c hg).imp (fun h => h) fun ⟨a, b, x, y, z⟩ => ⟨a, b, x, y hr, z⟩
    let ρ' : Ren := ⟨fun i => if notR hv hw j i = true then ρ.blk i else ρ1.blk i, fun i => if notR hv hw j i = true then ρ.off i else ρ1.off i, fun i => if notR hv hw j i = true then ρ.cap i else ρ1.cap i⟩
    have agr : Agree (notR hv hw j) ρ ρ' := fun i hi => by simp only [ρ', hi, if_true, and_self]
    have agr1 : ∀ i, i < hwj.next → ρ'.blk i = ρ1.blk i ∧ ρ'.off i = ρ1.off i ∧ ρ'.cap i = ρ1.cap i := by
     intro i hil
     by_cases hn : notR hv hw j i = true
     · have : i < hvj.next := hR i hil hn
       obtain ⟨q1, q2, q3⟩ := f7 i this
       simp only [ρ', hn, if_true, q1, q2, q3, and_self]
     · simp only [ρ', hn, if_false, Bool.false_eq_true, and_self]
    have hreal1 : ∀ i c, hwj.get i = some c → Real ρ' i w' c := fun i c hc =>
     (k1.2.2.1 i c hc).ext (n := hwj.next) (fun m hm => agr1 m hm) (hwwf i c hc).1 (hwwf i c hc).2
    have hkeep : ∀ i c, upd hw T (lst listed) h0 ops.size i = some c → hvj.get i = none → w'.heap[ρ.blk i]? = w.heap[ρ.blk i]? := by
     intro i c hc hnone
     have hlt := (hi.heap.1 i c hc).lt
     refine f5 _ hlt fun id cid hid hro he => ?_
     have hne : id ≠ i := fun e => by subst e; rw [hnone] at hid; cases hid
     exact hi.heap.2 id i cid c hne (hview id cid hid) hc hro he
    have hrealU : ∀ i c, upd hw T (lst (listed.setIfInBounds j true)) h0 ops.size i = some c → Real ρ' i w' c := by
     intro i c hc
     rw [hupd] at hc
     split at hc
     · exact hreal1 i c hc
     · rename_i hij
       cases hg : hvj.get i with
       | some c0 =>
         have h1 := hview i c0 hg
         rw [hc] at h1; cases h1
         exact hreal1 i c (by rw [htouch i hij]; exact hg)
       | none =>
         obtain ⟨q1, q2⟩ := hstand i c hc
         exact ((hi.heap.1 i c hc).congr (hkeep i c hc hg)).nm agr q1 q2
    have hblk : ∀ i c, upd hw T (lst listed) h0 ops.size i = some c → ρ'.blk i = ρ.blk i := fun i c hc => (agr i (hstand i c hc).1).1
    have hblk1 : ∀ i c, hwj.get i = some c → ρ'.blk i = ρ1.blk i := fun i c hc => (agr1 i (hwwf i c hc).1).1
    have hdisj : ∀ i k ci ck, i ≠ k → upd hw T (lst (listed.setIfInBounds j true)) h0 ops.size i = some ci → upd hw T (lst (listed.setIfInBounds j true)) h0 ops.size k = some ck → ci.isRo = false → ρ'.blk i ≠ ρ'.blk k := by
     have cases1 : ∀ i c, upd hw T (lst (listed.setIfInBounds j true)) h0 ops.size i = some c → hwj.get i = some c ∨ (hvj.get i = none ∧ upd hw T (lst listed) h0 ops.size i = some c) := by
      intro i c hc
      rw [hupd] at hc
      split at hc
      · exact .inl hc
      · rename_i hij
        cases hg : hvj.get i with
        | some c0 =>
          have h1 := hview i c0 hg
          rw [hc] at h1; cases h1
          exact .inl (by rw [htouch i hij]; exact hg)
        | none => exact .inr ⟨rfl, hc⟩
     have out : ∀ i ci k ck, hwj.get i = some ci → (hvj.get k = none ∧ upd hw T (lst listed) h0 ops.size k = some ck) → (ci.isRo = false ∨ ck.isRo = false) → ρ'.blk i ≠ ρ'.blk k := by
      intro i ci k ck hci ⟨hk1, hk2⟩ hro he
      rw [hblk1 i ci hci, hblk k ck hk2] at he
      have hklt := (hi.heap.1 k ck hk2).lt
      rcases hro with hro | hro
      · rcases f6 i ci hci hro with h1 | ⟨id0, c0, h1, h2, h3⟩
        · omega
        · have hne : id0 ≠ k := fun e => by subst e; rw [hk1] at h1; cases h1
          exact hi.heap.2 id0 k c0 ck hne (hview id0 c0 h1) hk2 h2 (h3.trans he)
      · by_cases hij : i ∈ T j
        · rcases f6' i ci hci with h1 | ⟨id0, c0, h1, _, h3⟩
          · omega
          · have hne : k ≠ id0 := fun e => by subst e; rw [hk1] at h1; cases h1
            exact hi.heap.2 k id0 ck c0 hne hk2 (hview id0 c0 h1) hro (h3.trans he).symm
        · have hc0 : hvj.get i = some ci := by rw [← htouch i hij]; exact hci
          have hne : k ≠ i := fun e => by subst e; rw [hk1] at hc0; cases hc0
          have h1 := (f7 i (hvwf i ci hc0).1).1
          rw [h1] at he
          exact hi.heap.2 k i ck ci hne hk2 (hview i ci hc0) hro he.symm
     intro i k ci ck hne hci hck hro
     rcases cases1 i ci hci with h1 | h1
     · rcases cases1 k ck hck with h2 | h2
       · rw [hblk1 i ci h1, hblk1 k ck h2]
         exact k1.2.2.2 i k ci ck hne h1 h2 hro
       · exact out i ci k ck h1 h2 (.inl hro)
     · rcases cases1 k ck hck with h2 | h2
       · exact fun he => out k ck i ci h2 h1 (.inr hro) he.symm
       · rw [hblk i ci h1.2, hblk k ck h2.2]
         exact hi.heap.2 i k ci ck hne h1.2 h2.2 hro
    refine hK sl' ρ' _ w' ⟨by simp [hi.size], hdown', hdone', hrest', ?_, havoid', ?_, ⟨hrealU, hdisj⟩, ?_⟩
    · have hbase := slotsRel_nm hi.slots agr (hi.avoidS j hjlt hnl)
      simp only [sl']
      cases hod : o.dst with
      | none => simpa [Act.put] using hbase
      | some d =>
        refine ⟨by simp [Act.put, hbase.1], fun t u ht => ?_⟩
        simp only [lk] at ht
        split at ht
        · rename_i hb
          have : d = t := Nat.eq_of_beq_eq_true hb
          subst this
          simp at ht; subst ht
          have h9 := k1.1.2 d v (e4 d hod).2
          rw [hod] at h9
          rw [h9]
          have hsup := w1.1 d v (e4 d hod).2
          rw [conc_ext (ρ := ρ1) (ρ' := ρ') (n := hwj.next) (fun m hm => agr1 m hm) v hsup]
        · rename_i hb
          have hne : d ≠ t := fun e => hb (by subst e; exact Nat.beq_refl d)
          have := hbase.2 t u ht
          simpa [Act.put, Array.getElem?_setIfInBounds_ne hne] using this
    · have hd1 : ds2.map (concD ρ') = ds2.map (concD ρ) := concD_ext (n := h0.next) (fun m hm => agr m (hp0 m hm)) ds2 hds
      rw [hd1]
      cases hod : o.dst <;> simpa [Act.put, hod] using hi.defs
    · obtain ⟨⟨g1, g2, g3⟩, g4, g5, g6, g7⟩ := hi.fr
      refine ⟨⟨f1.trans g1, f2.trans g2, f3.trans g3⟩, by omega, fun B hB hno => ?_, fun id c hc => ?_, fun m hm => ?_⟩
      · rw [f5 B (by omega) fun id c hid hro he => ?_, g5 B hB hno]
        rcases g6 id c (hview id c hid) with h1 | ⟨id0, c0, h1, h2, h3⟩
        · omega
        · exact hno id0 c0 h1 (h2 hro) (h3.trans he)
      · rw [hupd] at hc
        split at hc
        · rw [hblk1 id c hc]
          rcases f6' id c hc with h1 | ⟨id0, c0, h1, h2, h3⟩
          · exact .inl (by omega)
          · rcases g6 id0 c0 (hview id0 c0 h1) with h4 | ⟨id1, c1, h4, h5, h6⟩
            · exact .inl (by omega)
            · exact .inr ⟨id1, c1, h4, fun h => h5 (h2 h), h6.trans h3⟩
        · rw [hblk id c hc]
          rcases g6 id c hc with h4 | ⟨id1, c1, h4, h5, h6⟩
          · exact .inl h4
          · exact .inr ⟨id1, c1, h4, h5, h6⟩
      · obtain ⟨q1, q2, q3⟩ := g7 m hm
        obtain ⟨p1, p2, p3⟩ := agr m (hp0 m hm)
        exact ⟨p1.trans q1, p2.trans q2, p3.trans q3⟩
   cases res with
   | halt ht w' =>
     cases ht <;> first
      | (obtain ⟨ρ', k1, _⟩ := hup; simp [AExit.conc] at k1; done)
      | exact hup
   | ok nx w' =>
     cases nx <;> first
      | exact fin1 _ _ _ rfl hup
      | (refine ⟨hup.1, hup.2.mono ?_⟩
         rintro (v' | ch | _) w'' h'
         · exact fin1 _ _ _ rfl h'
         · obtain ⟨ρ', k1, _⟩ := h'; simp [AExit.conc] at k1
         · obtain ⟨a', w', ρ', k1, _⟩ := h'; simp [AExit.conc] at k1)
      | exact ⟨hup.1, hup.2.mono fun _ _ h' => fin1 _ _ _ rfl h'⟩
      | exact (hup : False).elim
      | (exfalso
         obtain ⟨ρ', _, k1, k2⟩ := hup
         have h5 := congrArg List.length k1.2.1
         have h6 := congrArg List.length hi.defs
         cases hod : o.dst <;> (simp only [hod, Act.put] at h5; simp at h5 h6; omega))
 · have hsame : ∀ i, upd hw T (lst (listed.setIfInBounds j true)) h0 ops.size i = upd hw T (lst listed) h0 ops.size i := by
    intro i
    rw [hupd]
    split
    · rename_i hij
      rw [hx.skipT j o ho hwt] at hij
      cases hij
    · rfl
   unfold wpOpIn
   simp only [ho, hwantG false hwt, Bool.false_eq_true, if_false]
   refine ⟨fun _ _ => trivial, hK sl' ρ _ w ?_⟩
   have heq : (upd hw T (lst (listed.setIfInBounds j true)) h0 ops.size) = upd hw T (lst listed) h0 ops.size := funext hsame
   refine ⟨by simp [hi.size], hdown', hdone', hrest', ?_, havoid', ?_, by rw [heq]; exact hi.heap, by rw [heq]; exact hi.fr⟩
   · simp only [sl']
     cases hod : o.dst with
     | none => exact hi.slots
     | some d =>
       refine ⟨by simp [Act.put, hi.slots.1], fun t u ht => ?_⟩
       simp only [lk] at ht
       split at ht
       · rename_i hb
         have : d = t := Nat.eq_of_beq_eq_true hb
         subst this
         simp at ht; subst ht
         have hds : d < a.tmps.size := by rw [hi.slots.1]; exact hlt d hod
         simp [Act.put, hds, conc, concL, undef]
       · rename_i hb
         have hne : d ≠ t := fun e => hb (by subst e; exact Nat.beq_refl d)
         have := hi.slots.2 t u ht
         simpa [Act.put, Array.getElem?_setIfInBounds_ne hne] using this
   · cases hod : o.dst <;> simpa [Act.put, hod] using hi.defs
theorem drawX_step (hx : XOk rk P r ops sl0 vals srcs fin h0 hF hv hw T evs n ds) (h0wf : h0.wf) (hsl : ∀ k v, lk sl0 k = some v → v.sup ≤ h0.next) (hds : supD ds ≤ h0.next) (hr : rsup r ≤ h0.next)
 {ρ0 ρ : Ren} {w0 w : World} {a : Act} {listed : Array Bool} {sl : List (Nat × AV)} (hi : InvX ops sl0 vals h0 hv hw T n ds ρ0 w0 listed sl ρ a w) {j : Nat} (hj : j ∈ Region.ready .any ops listed) (nn : Nat) (K : Act → World → Prop) (Q : Exit → Act → World → Prop)
 (hK : ∀ sl' ρ' a' w', InvX ops sl0 vals h0 hv hw T n ds ρ0 w0 (listed.setIfInBounds j true) sl' ρ' a' w' → K a' w') : wpOpIn (fen ρ0 r) nn P ops Q j K a w := by
 obtain ⟨hun, o, ho, hafter⟩ := mem_ready.1 hj
 have hjlt : j < ops.size := (Array.getElem?_eq_some_iff.1 ho).1
 have hjl : j < listed.size := by rw [hi.size]; exact hjlt
 have hnl : ¬ isL listed j := by
  unfold isL
  rw [Array.getD_eq_getD_getElem?, Array.getElem?_eq_getElem hjl] at hun ⊢
  simp at hun ⊢; exact hun
 have hbef := befs_spec hi.down ho (fun e he hb => hafter e he hb)
 obtain ⟨hvwf, hwwf, hvw, hvsup⟩ := hx.wf h0wf hsl hds hr (rk j + 1) j (Nat.lt_succ_self _) hjlt
 obtain ⟨v, hvj, hdo⟩ := hx.op j o ho
 have hS : lst listed j = false := by
  cases hb : lst listed j with
  | false => rfl
  | true => exact absurd hb hnl
 rcases hx.view j (lst listed) hjlt (fun k hk => hbef k hk) hS (fun a b ha hl hb => bf_listed hi.down ha hl hb) with hview | ⟨x, hxe, hview⟩
 · refine drawX_core hx h0wf hsl hds hr hi hj nn K Q (hv j) (hw j) hview hvwf (Nat.le_refl _) hvj ho hdo (fun i hi => hx.touch j i hjlt hi) (fun i h1 h2 => ?_) (fun i h1 => ?_) (fun i _ => rfl) hK
   · have := notR_iff.1 h2; omega
   · rw [notR_iff]; omega
 · obtain ⟨e1, e2, e3, e4⟩ := hx.evOp j o v x ho hvj hxe
   have hxwf : x.wf := by
    intro i c hc
    rw [e4]
    rcases hx.evFrom j x i c hjlt hxe hc with ⟨k, hk, _, h1⟩ | h1
    · obtain ⟨_, b2, _, _⟩ := hx.wf h0wf hsl hds hr (rk k + 1) k (Nat.lt_succ_self _) hk
      have := b2 i c h1
      have := hx.nxF.2 k hk
      omega
    · have := h0wf i c h1
      have := hx.nxF.1
      omega
   refine drawX_core hx h0wf hsl hds hr hi hj nn K Q x x hview hxwf (by have := hx.nxF.2 j hjlt; omega) hvj ho e1 (fun i _ => rfl) (fun i h1 _ => h1) (fun i _ => ?_) (fun i hij => by rw [e2] at hij; cases hij) hK
   rw [notR_iff]; omega
theorem drawX_any (hx : XOk rk P r ops sl0 vals srcs fin h0 hF hv hw T evs n ds) (h0wf : h0.wf) (hsl : ∀ k v, lk sl0 k = some v → v.sup ≤ h0.next) (hds : supD ds ≤ h0.next) (hr : rsup r ≤ h0.next) {ρ0 : Ren} {w0 : World} :
 ∀ (fuel : Nat) (listed : Array Bool) (sl : List (Nat × AV)) (ρ : Ren) (a : Act) (w : World), InvX ops sl0 vals h0 hv hw T n ds ρ0 w0 listed sl ρ a w → ((List.range ops.size).filter fun i => !listed.getD i true).length ≤ fuel → ∀ (nn : Nat) (Q : Exit → Act → World → Prop),
  (∀ ρ' a' w' sl' listed', InvX ops sl0 vals h0 hv hw T n ds ρ0 w0 listed' sl' ρ' a' w' → (∀ i, i < ops.size → isL listed' i) → Q .normal a' w') → wpAnyIn (fen ρ0 r) nn P .any ops Q fuel listed a w := by
 have hend : ∀ listed : Array Bool, listed.size = ops.size → Region.ready .any ops listed = [] → ∀ i, i < ops.size → isL listed i := by
  intro listed hsz hready i
  induction i using Nat.strongRecOn with
  | _ i ih =>
    intro hlt
    by_cases hl : isL listed i
    · exact hl
    · exfalso
      have hmem : i ∈ Region.ready .any ops listed := by
       refine mem_ready.2 ⟨?_, ops[i], Array.getElem?_eq_getElem hlt, fun e he hb => ?_⟩
       · unfold isL at hl
         rw [Array.getD_eq_getD_getElem?, Array.getElem?_eq_getElem (by omega)] at hl ⊢
         simp at hl ⊢; exact hl
       · have hon := hx.plan.back i _ (Array.getElem?_eq_getElem hlt) e he hb
         exact ih e.on hon (by omega)
      rw [hready] at hmem
      cases hmem
 intro fuel
 induction fuel with
 | zero =>
   intro listed sl ρ a w hi hf nn Q hQ
   have hready : Region.ready .any ops listed = [] := by
    have h0 : ((List.range ops.size).filter fun i => !listed.getD i true) = [] := List.length_eq_zero_iff.1 (by omega)
    unfold Region.ready
    rw [List.filter_eq_nil_iff] at h0 ⊢
    intro x hx h2
    simp only [Bool.and_eq_true] at h2
    exact h0 x hx h2.1
   exact ⟨hready, hQ ρ a w sl listed hi (hend listed hi.size hready)⟩
 | succ fuel ih =>
   intro listed sl ρ a w hi hf nn Q hQ
   refine ⟨fun hready => hQ ρ a w sl listed hi (hend listed hi.size hready), fun j hj => ?_⟩
   refine drawX_step hx h0wf hsl hds hr hi hj nn _ _ fun sl' ρ' a' w' hi' => ?_
   refine ih _ sl' ρ' a' w' hi' ?_ nn Q hQ
   have := draw_count hi.size hj
   omega
theorem J_drawX {c : Code} {id : Nat} {Q : AExit → St → Prop} {slF : List (Nat × AV)} (hc : c = .region id ops true) (hmix : P.follows .mixedOrders = true)
 (hx : XOk rk P r ops sl0 vals srcs fin h0 hF hv hw T evs n ds) (hFl : fillS sl0 vals fin = slF) (hq : Q .normal ⟨slF, hF, n, ds⟩) : J P r c ⟨sl0, h0, n, ds⟩ Q := by
 subst hc; subst hFl
 intro hw0 hr
 obtain ⟨hsl, h0wf, hds⟩ := hw0
 simp only at hsl h0wf hds hr
 have hFwf : hF.wf := by
  intro i c hc
  rw [hx.fin_] at hc
  rcases upd_spec (hw := hw) (T := T) (S := fun _ => true) (h0 := h0) (i := i) ops.size with ⟨k, k1, k2, k3, k4, k5⟩ | ⟨_, k2⟩
  · rw [k5] at hc
    obtain ⟨_, b2, _, _⟩ := hx.wf h0wf hsl hds hr (rk k + 1) k (Nat.lt_succ_self _) k1
    have := b2 i c hc
    have := hx.nxF.2 k k1
    omega
  · rw [k2] at hc
    have := h0wf i c hc
    have := hx.nxF.1
    omega
 have hslF : ∀ t u, lk (fillS sl0 vals fin) t = some u → u.sup ≤ hF.next := by
  have gen : ∀ src : Src, (∀ s ∈ src, finOk ops s = true) → ∀ t u, lk (fillS sl0 vals src) t = some u → u.sup ≤ hF.next := by
   intro src
   induction src with
   | nil => intro _ t u hu; simp [fillS, lk] at hu
   | cons s src ihs =>
     intro hs t u hu
     obtain ⟨t0, oi⟩ := s
     have ihs' := ihs fun s h => hs s (List.mem_cons_of_mem _ h)
     cases oi with
     | none =>
       simp only [fillS] at hu
       cases hl : lk sl0 t0 with
       | none => rw [hl] at hu; exact ihs' t u hu
       | some u0 =>
         rw [hl] at hu
         simp only [lk] at hu
         split at hu
         · simp at hu; subst hu; have := hsl t0 _ hl; have := hx.nxF.1; omega
         · exact ihs' t u hu
     | some i =>
       simp only [fillS] at hu
       cases hl : vals[i]? with
       | none => rw [hl] at hu; exact ihs' t u hu
       | some u0 =>
         rw [hl] at hu
         simp only [lk] at hu
         split at hu
         · simp at hu; subst hu
           have h1 : dstIs ops i t0 = true := hs (t0, some i) List.mem_cons_self
           obtain ⟨o, ho, _⟩ := dstIs_iff.1 h1
           have hlt := (Array.getElem?_eq_some_iff.1 ho).1
           have := (hx.wf h0wf hsl hds hr (rk i + 1) i (Nat.lt_succ_self _) hlt).2.2.2 _ t0 hl h1
           have := hx.nxF.2 i hlt
           omega
         · exact ihs' t u hu
  exact gen fin hx.plan.fin
 refine ⟨.normal, ⟨fillS sl0 vals fin, hF, n, ds⟩, ⟨hslF, hFwf, Nat.le_trans hds hx.nxF.1⟩, Nat.zero_le _, hx.nxF.1, hq, fun ρ a w nn hrel => wpIn_region_any hmix ?_⟩
 have hno : ∀ i, ¬ isL (Array.replicate ops.size false) i := fun i h => by
  unfold isL at h
  rw [Array.getD_eq_getD_getElem?, Array.getElem?_replicate] at h
  split at h <;> simp at h
 have hu0 : upd hw T (lst (Array.replicate ops.size false)) h0 ops.size = h0.get := by
  funext i
  rcases upd_spec (hw := hw) (T := T) (S := lst (Array.replicate ops.size false)) (h0 := h0) (i := i) ops.size with ⟨k, k1, k2, k3, k4, k5⟩ | ⟨_, k2⟩
  · exact absurd k2 (hno k)
  · exact k2
 have hrel' : Rel ρ ⟨sl0, h0, n, ds⟩ a { w with drawn := w.drawn + 1 } := ⟨hrel.1, hrel.2.1, drew_HRel _ hrel.2.2⟩
 have hinit : InvX ops sl0 vals h0 hv hw T n ds ρ { w with drawn := w.drawn + 1 } (Array.replicate ops.size false) sl0 ρ a { w with drawn := w.drawn + 1 } := by
  refine ⟨by simp, fun i o _ h => absurd h (hno i), fun i t v h => absurd h (hno i), fun t v h _ => h, hrel'.1, fun j hj _ k v hk => ?_, hrel'.2.1, by rw [hu0]; exact hrel'.2.2, ?_⟩
  · have := hsl k v hk
    have h1 := hx.nx0 j hj
    exact nm_sup (n := h0.next) (fun m hm => notR_lt (by omega)) v this
  · rw [hu0]
    exact ⟨⟨rfl, rfl, rfl⟩, Nat.le_refl _, fun _ _ _ => rfl, fun id c hg => .inr ⟨id, c, hg, fun h => h, rfl⟩, .refl _ _⟩
 refine drawX_any hx h0wf hsl hds hr _ _ _ _ _ _ hinit ?_ nn _ ?_
 · exact Nat.le_trans (List.length_filter_le _ _) (by simp)
 · intro ρ' a' w' sl' listed' hi hall
   have hfin : upd hw T (lst listed') h0 ops.size = hF.get := by
    funext i
    rw [hx.fin_]
    exact upd_congr ops.size fun k hk _ => hall k hk
   have hsub : SubL (fillS sl0 vals fin) sl' := by
    refine fillS_sub (fun t i u hm hu => ?_) (fun t u hm hu => ?_)
    · have h1 : dstIs ops i t = true := hx.plan.fin _ hm
      obtain ⟨o, ho, _⟩ := dstIs_iff.1 h1
      exact hi.done i t u (hall i (Array.getElem?_eq_some_iff.1 ho).1) h1 hu
    · have h1 := hx.plan.fin _ hm
      simp only [finOk] at h1
      refine hi.rest t u hu fun i hdi _ => ?_
      obtain ⟨o, ho, _⟩ := dstIs_iff.1 hdi
      have := List.all_eq_true.1 h1 i (by simpa using (Array.getElem?_eq_some_iff.1 ho).1)
      rw [hdi] at this; simp at this
   have hheap := hi.heap
   obtain ⟨f1, f2, f3, f4, f5⟩ := hi.fr
   rw [hfin] at hheap f4
   exact ⟨ρ', rfl, ⟨⟨hi.slots.1, fun t u hk => hi.slots.2 t u (hsub.lk hk)⟩, hi.defs, ⟨hheap.1, hheap.2⟩⟩, f1, f2, f3, f4, f5, hx.nxF.1⟩
end
theorem getL_eq {α : Type} : ∀ (l : List α) (n : Nat), getL l n = l[n]?
 | [], n => by simp [getL]
 | a :: l, 0 => rfl
 | a :: l, n + 1 => by
   have : getL (a :: l) (n + 1) = getL l n := rfl
   rw [this, getL_eq l n]; simp
theorem ofL_get : ∀ (l : List (Nat × AV)) (k : Nat) (v : AV), (ofL l).get k = some v → k ≤ 1000000 ∧ lk l k = some v
 | [], k, v, h => by simp [ofL, Tr.get_nil] at h
 | kv :: r, k, v, h => by
   simp only [ofL] at h
   cases hb : Nat.ble kv.1 1000000 with
   | true =>
     have hle := Nat.le_of_ble_eq_true hb
     simp only [hb] at h
     rw [Tr.get_set 20 _ _ _ _ (by omega)] at h
     simp only [lk]
     split at h
     · rename_i e; subst e; simp only [Option.some.injEq] at h; subst h; exact ⟨hle, by simp⟩
     · rename_i e
       have : Nat.beq kv.1 k = false := by cases hb2 : Nat.beq kv.1 k with | false => rfl | true => exact absurd (Nat.eq_of_beq_eq_true hb2).symm e
       simp only [this]
       exact ofL_get r k v h
   | false =>
     simp only [hb] at h
     obtain ⟨h1, h2⟩ := ofL_get r k v h
     refine ⟨h1, ?_⟩
     have : Nat.beq kv.1 k = false := by
      cases hb2 : Nat.beq kv.1 k with
      | false => rfl
      | true =>
        have := Nat.eq_of_beq_eq_true hb2
        rw [this] at hb
        have := Nat.ble_eq_true_of_le h1
        rw [hb] at this; cases this
     simp only [lk, this]; exact h2
theorem ofL_lk (l : List (Nat × AV)) : Lk (ofL l) l := fun k v h => (ofL_get l k v h).2
theorem lk_toL {L : Tr AV} (t : Nat) : lk (L.toL id []) t = L.get t := by
 cases h : L.get t with
 | some v => exact toL_lk L t v h
 | none =>
   cases h2 : lk (L.toL id []) t with
   | none => rfl
   | some v =>
     rcases (toL_mem L id [] t v).1 (lk_mem h2) with ⟨n, h3, h4⟩ | h3
     · simp only [id] at h3; subst h3; rw [h] at h4; cases h4
     · cases h3
theorem set40 {t : Tr Chunk} {i : Nat} {c : Option Chunk} (j : Nat) : (Bool.rec (motive := fun _ => Tr Chunk) t (Tr.set 40 t i c) (Nat.ble i lim) : Tr Chunk).get j = if j = i ∧ i ≤ lim then c else t.get j := by
 cases hb : Nat.ble i lim with
 | true =>
   have hl := Nat.le_of_ble_eq_true hb
   have h2 : i + 2 ≤ 2 ^ 40 := by simp only [lim] at hl; omega
   show (Tr.set 40 t i c).get j = _
   rw [Tr.get_set 40 t i c j h2]
   by_cases e : j = i
   · rw [if_pos e, if_pos ⟨e, hl⟩]
   · rw [if_neg e, if_neg (fun h => e h.1)]
 | false =>
   show t.get j = _
   rw [if_neg]
   rintro ⟨_, h⟩
   have := Nat.ble_eq_true_of_le h
   rw [hb] at this; cases this
theorem smallT_get {t0 : Tr Chunk} : ∀ {f : List Nat} {t : Tr Chunk} (j : Nat), ((smallT t0 f t).get j = t0.get j ∧ j ∈ f ∧ j ≤ lim) ∨ ((smallT t0 f t).get j = t.get j ∧ (j ∉ f ∨ ¬ j ≤ lim))
 | [], t, j => .inr ⟨rfl, .inl (by simp)⟩
 | i :: r, t, j => by
   simp only [smallT]
   rcases smallT_get (t0 := t0) (f := r) (t := Bool.rec (motive := fun _ => Tr Chunk) t (Tr.set 40 t i (t0.get i)) (Nat.ble i lim)) j with ⟨h1, h2, h3⟩ | ⟨h1, h2⟩
   · exact .inl ⟨h1, List.mem_cons_of_mem _ h2, h3⟩
   · rw [set40] at h1
     by_cases e : j = i ∧ i ≤ lim
     · rw [if_pos e] at h1
       left
       obtain ⟨rfl, e2⟩ := e
       exact ⟨h1, List.mem_cons_self, e2⟩
     · rw [if_neg e] at h1
       right
       refine ⟨h1, ?_⟩
       by_cases hl : j ≤ lim
       · left
         rcases h2 with h2 | h2
         · intro hm
           rcases List.mem_cons.1 hm with rfl | hm
           · exact e ⟨rfl, hl⟩
           · exact h2 hm
         · exact absurd hl h2
       · exact .inr hl
theorem hideN_get : ∀ {f : List Nat} {t : Tr Chunk} (j : Nat) {c : Chunk}, (hideN f t).get j = some c → t.get j = some c
 | [], t, j, c, h => h
 | i :: r, t, j, c, h => by
   simp only [hideN] at h
   have := hideN_get (f := r) j h
   rw [set40] at this
   split at this
   · cases this
   · exact this
theorem hideAll_get {T1 : List (List Nat)} : ∀ {un : List Nat} {t : Tr Chunk} (j : Nat) {c : Chunk}, (hideAll T1 un t).get j = some c → t.get j = some c
 | [], t, j, c, h => h
 | k :: r, t, j, c, h => by
   simp only [hideAll] at h
   split at h
   · exact hideN_get j (hideAll_get (un := r) j h)
   · exact hideAll_get (un := r) j h
theorem beq_false {a b : Nat} (h : a ≠ b) : Nat.beq a b = false := by cases hb : Nat.beq a b with | false => rfl | true => exact absurd (Nat.eq_of_beq_eq_true hb) h
theorem bfLt_spec : ∀ {l : List (List Nat)} {j0 : Nat}, bfLt l j0 = true → ∀ (j : Nat) (b : List Nat), l[j]? = some b → ∀ k ∈ b, k < j0 + j
 | [], _, _, j, b, h => by simp at h
 | x :: l, j0, hb, j, b, h => by
   simp only [bfLt, Bool.and_eq_true] at hb
   cases j with
   | zero =>
     simp at h; subst h
     intro k hk
     have := List.all_eq_true.1 hb.1 k hk
     rw [Nat.blt_eq] at this; omega
   | succ j =>
     intro k hk
     have := bfLt_spec hb.2 j b (by simpa using h) k hk
     omega
theorem befs_len (ops : Array Oper) : (befs ops).length = ops.size := by
 unfold befs
 rw [befGo_len]; simp
theorem srcsGo_get {ops : Array Oper} : ∀ {l : List Oper} {bs : List (List Nat)}, l.length = bs.length → ∀ (j : Nat) (o : Oper) (b : List Nat), l[j]? = some o → bs[j]? = some b → (srcsGo ops l bs)[j]? = some ((usesOf ops o).map (srcOf ops b))
 | [], _, _, j, o, b, h, _ => by simp at h
 | x :: l, [], hl, _, _, _, _, _ => by simp at hl
 | x :: l, y :: bs, hl, j, o, b, h1, h2 => by
   cases j with
   | zero => simp at h1 h2; subst h1; subst h2; simp [srcsGo]
   | succ j =>
     simp only [srcsGo, List.getElem?_cons_succ] at h1 h2 ⊢
     exact srcsGo_get (by simpa using hl) j o b h1 h2
theorem unordAt_mem {ops : Array Oper} {j : Nat} {bj : List Nat} : ∀ {l : List (List Nat)} {k0 k : Nat} {b : List Nat}, l[k]? = some b → k0 + k ≠ j → (k0 + k) ∉ bj → j ∉ b → effAt ops (k0 + k) = true → (k0 + k) ∈ unordAt ops j bj l k0
 | [], _, _, _, h, _, _, _, _ => by simp at h
 | x :: l, k0, k, b, h, h1, h2, h3, h4 => by
   simp only [unordAt]
   cases k with
   | zero =>
     simp at h; subst h
     simp only [Nat.add_zero] at h1 h2 h4 ⊢
     have e1 : bj.contains k0 = false := by cases hc : bj.contains k0 with | false => rfl | true => exact absurd (List.contains_iff_mem.1 hc) h2
     have e2 : x.contains j = false := by cases hc : x.contains j with | false => rfl | true => exact absurd (List.contains_iff_mem.1 hc) h3
     simp only [beq_false h1, e1, e2, h4, Bool.not_true, Bool.or_false]
     exact List.mem_cons_self
   | succ k =>
     have ih := unordAt_mem (ops := ops) (j := j) (bj := bj) (l := l) (k0 := k0 + 1) (k := k) (b := b) (by simpa using h) (by omega) (by rw [show k0 + 1 + k = k0 + (k + 1) by omega]; exact h2) h3 (by rw [show k0 + 1 + k = k0 + (k + 1) by omega]; exact h4)
     rw [show k0 + 1 + k = k0 + (k + 1) by omega] at ih
     split
     · exact ih
     · exact List.mem_cons_of_mem _ ih
theorem unordGo_get {ops : Array Oper} {bf : List (List Nat)} : ∀ {l : List (List Nat)} {j0 j : Nat} {b : List Nat}, l[j]? = some b → (unordGo ops bf l j0)[j]? = some (unordAt ops (j0 + j) b bf 0)
 | [], _, _, _, h => by simp at h
 | x :: l, j0, j, b, h => by
   cases j with
   | zero => simp at h; subst h; simp [unordGo]
   | succ j =>
     simp only [unordGo, List.getElem?_cons_succ] at h ⊢
     rw [unordGo_get h, show j0 + 1 + j = j0 + (j + 1) by omega]
theorem avoidAt_acc {ops : Array Oper} {j : Nat} : ∀ {l : List (List Nat)} {k : Nat} {acc : List (Nat × Nat)} {p : Nat × Nat}, p ∈ acc → p ∈ avoidAt ops j l k acc
 | [], _, _, _, h => h
 | x :: l, k, acc, p, h => by
   simp only [avoidAt]
   split
   · exact avoidAt_acc (List.mem_cons_of_mem _ h)
   · exact avoidAt_acc h
theorem avoidAt_mem {ops : Array Oper} {j : Nat} : ∀ {l : List (List Nat)} {k0 k : Nat} {b : List Nat} {acc : List (Nat × Nat)}, l[k]? = some b → j < k0 + k → j ∉ b → (j, k0 + k) ∈ avoidAt ops j l k0 acc
 | [], _, _, _, _, h, _, _ => by simp at h
 | x :: l, k0, k, b, acc, h, h1, h2 => by
   simp only [avoidAt]
   cases k with
   | zero =>
     simp at h; subst h
     have e1 : Nat.blt j k0 = true := by rw [Nat.blt_eq]; omega
     have e2 : x.contains j = false := by cases hc : x.contains j with | false => rfl | true => exact absurd (List.contains_iff_mem.1 hc) h2
     simp only [e1, e2, Bool.not_false, Bool.and_self]
     exact avoidAt_acc List.mem_cons_self
   | succ k =>
     have ih : ∀ acc, (j, k0 + (k + 1)) ∈ avoidAt ops j l (k0 + 1) acc := fun acc => by
      rw [show k0 + (k + 1) = k0 + 1 + k by omega]
      exact avoidAt_mem (by simpa using h) (by omega) h2
     split <;> exact ih _
theorem avoidGo_acc {ops : Array Oper} {bf : List (List Nat)} : ∀ {l : List (List Nat)} {j : Nat} {acc : List (Nat × Nat)} {p : Nat × Nat}, p ∈ acc → p ∈ avoidGo ops bf l j acc
 | [], _, _, _, h => h
 | x :: l, j, acc, p, h => by
   simp only [avoidGo]
   split
   · exact avoidGo_acc (avoidAt_acc h)
   · exact avoidGo_acc h
theorem avoidGo_mem {ops : Array Oper} {bf : List (List Nat)} : ∀ {l : List (List Nat)} {j0 j k : Nat} {b : List Nat} {acc : List (Nat × Nat)}, j < l.length → newAt ops (j0 + j) = true → bf[k]? = some b → j0 + j < k → j0 + j ∉ b → (j0 + j, k) ∈ avoidGo ops bf l j0 acc
 | [], _, _, _, _, _, h, _, _, _, _ => by simp at h
 | x :: l, j0, j, k, b, acc, h, h1, h2, h3, h4 => by
   simp only [avoidGo]
   cases j with
   | zero =>
     simp only [Nat.add_zero] at h1 h3 h4 ⊢
     simp only [h1]
     refine avoidGo_acc ?_
     have := avoidAt_mem (ops := ops) (j := j0) (l := bf) (k0 := 0) (k := k) (b := b) (acc := acc) h2 (by omega) h4
     simpa using this
   | succ j =>
     have ih : ∀ acc, (j0 + (j + 1), k) ∈ avoidGo ops bf l (j0 + 1) acc := fun acc => by
      rw [show j0 + (j + 1) = j0 + 1 + j by omega]
      exact avoidGo_mem (by simpa using h) (by rw [show j0 + 1 + j = j0 + (j + 1) by omega]; exact h1) h2 (by omega) (by rw [show j0 + 1 + j = j0 + (j + 1) by omega]; exact h4)
     split <;> exact ih _
section ops
variable {P : Program} {r : Option Nat} {N : Nat} {o : Oper} {L Lj : Tr AV} {H hv hw : EH} {D : List ADef} {sl : List (Nat × AV)} {e : AExit} {s s' : ES} {v : AV} {ih : Tk → Rs} {ops : Array Oper}
theorem norm_some {z : Rs} {s : ES} (h : z.norm = some s) : z = .code .normal s := by
 cases z with
 | code e s1 =>
   by_cases hn : e = .normal
   · subst hn
     have h : (some s1 : Option ES) = some s := h
     cases h; rfl
   · have hf : isNorm e = false := by cases hb : isNorm e with | false => rfl | true => exact absurd (isNorm_iff.1 hb) hn
     simp only [Rs.norm, hf] at h; cases h
 | fin v h' => simp [Rs.norm] at h
 | no w => simp [Rs.norm] at h
theorem wantA_A {w : Bool} (hL : Lk L sl) (h : wantA ops o L = some w) : wantedA ops o sl = some w := by
 unfold wantA at h
 unfold wantedA
 cases hg : o.guard with
 | none => rw [hg] at h; exact h
 | some g =>
   rw [hg] at h
   simp only [od_some, Option.some.injEq] at h
   obtain ⟨d, h1, v, h2, b, h3, h4⟩ := h
   have e1 : ops.toList[g.1]? = ops[g.1]? := by simp
   rw [e1] at h1
   have := asBool_eq h3
   subst this
   simp only [h1, hL _ _ h2, h4]
theorem step2_ok (hih : ∀ t, Snd P t (ih t)) (hN : N ≤ 1000000) (hL : Lk Lj sl) (hlog : hv.log = []) (h : step2 P ih ops N D Lj o hv = some (v, hw)) :
 OpDo P r ops o ⟨sl, hv.ah, N, D⟩ hw.ah v ∧ (∀ i, i ∉ hw.log → hw.t.get i = hv.t.get i) ∧ (wantedA ops o sl = some false → hw = hv) := by
 simp only [step2, od_some] at h
 obtain ⟨w, h1, h2⟩ := h
 have hw1 := wantA_A hL h1
 cases w with
 | false =>
   have h2 : gb (dstOk N o) (some (.tuple [], hv)) = some (v, hw) := h2
   simp only [gb_some, Option.some.injEq, Prod.mk.injEq] at h2
   obtain ⟨h3, rfl, rfl⟩ := h2
   refine ⟨.inr ⟨hw1, rfl, rfl, fun d hd => ?_⟩, fun _ _ => rfl, fun _ => rfl⟩
   simp only [dstOk, hd, Nat.blt_eq] at h3; exact h3
 | true =>
   have h2 : (od (opE P ih N o Lj hv D).norm fun s => od (valOf? o s.sl) fun v => some (v, s.h)) = some (v, hw) := h2
   simp only [od_some, Option.some.injEq, Prod.mk.injEq] at h2
   obtain ⟨s1, h3, v1, h4, rfl, rfl⟩ := h2
   have k := opE_ok (r := r) hih hN hL (norm_some h3)
   refine ⟨.inl ⟨hw1, k.jo.mono ?_⟩, ?_, fun hf => by rw [hw1] at hf; cases hf⟩
   · rintro e2 s2 ⟨rfl, q1, q2, q3, q4⟩
     refine ⟨rfl, q1, q3.trans k.ds, q2, fun d hd => ?_⟩
     obtain ⟨k1, u, k2⟩ := k.slot d hd
     refine ⟨k1, q4 d v1 ?_⟩
     unfold valOf? at h4
     rw [hd] at h4
     exact h4
   · obtain ⟨l, l1, l2⟩ := k.lg
     rw [hlog, List.append_nil] at l1
     rw [l1]; exact l2
structure Link (P : Program) (ih : Tk → Rs) (ops : Array Oper) (N : Nat) (D : List ADef) (L : Tr AV) (T1 : List (List Nat)) (o : Oper) (src : Src) (un : List Nat) (s s' : XS) (v : AV) (w : XW) : Prop where
 lf : w.f = foot o (ofL (fillE L s.vals src))
 lv : w.v = viewE T1 un o (ofL (fillE L s.vals src)) s.h w.f
 lst : step2 P ih ops N D (ofL (fillE L s.vals src)) o w.v = some (v, w.w)
 lok : wOk o w.v w.w = true
 lm : s'.m = s.m + 1
 lvals : s'.vals = Tr.set 20 s.vals s.m (some v)
 lws : s'.ws = w :: s.ws
 lh : s'.h = joinE un o s.h w.w
theorem pass2_chain {T1 : List (List Nat)} : ∀ {l : List Oper} {srcs : List Src} {uns : List (List Nat)} {s x : XS}, pass2 P ih ops N D L T1 l srcs uns s = some x →
 ∃ (S : Nat → XS) (V : Nat → AV) (W : Nat → XW), S 0 = s ∧ S l.length = x ∧ ∀ (i : Nat) (o : Oper), l[i]? = some o → ∃ src un, srcs[i]? = some src ∧ uns[i]? = some un ∧ Link P ih ops N D L T1 o src un (S i) (S (i + 1)) (V i) (W i)
 | [], srcs, uns, s, x, h => by
   simp only [pass2, Option.some.injEq] at h
   subst h
   exact ⟨fun _ => s, fun _ => .nilFunc, fun _ => ⟨s.h, s.h, []⟩, rfl, rfl, fun i o h => by simp at h⟩
 | o :: l, [], uns, s, x, h => by simp [pass2] at h
 | o :: l, src :: srcs, [], s, x, h => by simp [pass2] at h
 | o :: l, src :: srcs, un :: uns, s, x, h => by
   simp only [pass2, od_some, gb_some, Option.some.injEq] at h
   obtain ⟨_, rfl, _, rfl, _, rfl, vh, h1, h2, h3⟩ := h
   obtain ⟨S, V, W, c1, c2, c3⟩ := pass2_chain h3
   refine ⟨fun i => match i with | 0 => s | i + 1 => S i, fun i => match i with | 0 => vh.1 | i + 1 => V i, fun i => match i with | 0 => (⟨viewE T1 un o (ofL (fillE L s.vals src)) s.h (foot o (ofL (fillE L s.vals src))), vh.2, foot o (ofL (fillE L s.vals src))⟩ : XW) | i + 1 => W i, rfl, c2, fun i o' h4 => ?_⟩
   cases i with
   | zero =>
     simp at h4; subst h4
     exact ⟨src, un, by simp, by simp, ⟨rfl, rfl, h1, h2, by simp only [c1], by simp only [c1], by simp only [c1], by simp only [c1]⟩⟩
   | succ i =>
     obtain ⟨src', un', d1, d2, d3⟩ := c3 i o' (by simpa using h4)
     exact ⟨src', un', by simpa using d1, by simpa using d2, d3⟩
theorem wOk_spec (h : wOk o hv hw = true) : hv.next ≤ hw.next ∧ (∀ i ∈ hw.log, i ≤ lim ∧ ∀ c, hw.t.get i = some c → c.isRo = false) ∧ (hw.log ≠ [] → effK o.op = true) ∧ (hw.next ≠ hv.next → newK o.op = true) := by
 obtain ⟨n0, t0, l0⟩ := hv
 obtain ⟨n1, t1, l1⟩ := hw
 cases l1 with
 | nil =>
   have h : (Nat.ble n0 n1 && (newK o.op || Nat.beq n1 n0)) = true := h
   simp only [Bool.and_eq_true, Bool.or_eq_true] at h
   refine ⟨Nat.le_of_ble_eq_true h.1, fun i hi => (by cases hi), fun h => absurd rfl h, fun hne => ?_⟩
   rcases h.2 with h2 | h2
   · exact h2
   · exact absurd (Nat.eq_of_beq_eq_true h2) hne
 | cons a l =>
   have h : (Nat.ble n0 n1 && noRoT ⟨n1, t1, a :: l⟩ (a :: l) && effK o.op && (newK o.op || Nat.beq n1 n0)) = true := h
   simp only [Bool.and_eq_true, Bool.or_eq_true] at h
   obtain ⟨⟨⟨h1, h2⟩, h3⟩, h4⟩ := h
   have ro : ∀ l : List Nat, noRoT ⟨n1, t1, a :: l⟩ l = true ∨ True → True := fun _ _ => trivial
   have key : ∀ (l' : List Nat) (hw : EH), noRoT hw l' = true → ∀ i ∈ l', i ≤ lim ∧ ∀ c, hw.t.get i = some c → c.isRo = false := by
    intro l'
    induction l' with
    | nil => intro _ _ i hi; cases hi
    | cons b l' ihl =>
      intro hw h i hi
      simp only [noRoT, Bool.and_eq_true] at h
      rcases List.mem_cons.1 hi with rfl | hi
      · refine ⟨Nat.le_of_ble_eq_true h.1.2, fun c hc => ?_⟩
        have := h.1.1
        rw [hc] at this
        simpa using this
      · exact ihl hw h.2 i hi
   refine ⟨Nat.le_of_ble_eq_true h1, key _ _ h2, fun _ => h3, fun hne => ?_⟩
   rcases h4 with h4 | h4
   · exact h4
   · exact absurd (Nat.eq_of_beq_eq_true h4) hne
theorem viewE_spec {T1 : List (List Nat)} {un : List Nat} {h : EH} {f : List Nat} : (viewE T1 un o Lj h f).next = h.next ∧ (viewE T1 un o Lj h f).log = [] ∧ (∀ i c, (viewE T1 un o Lj h f).t.get i = some c → h.t.get i = some c ∧ (callK o.op = false → i ∈ f)) ∧ (callK o.op = true → un = [] → (viewE T1 un o Lj h f).t = h.t) := by
 obtain ⟨n, t, l⟩ := h
 cases hc : callK o.op with
 | true =>
   have e : viewE T1 un o Lj ⟨n, t, l⟩ f = ⟨n, hideAll T1 un t, []⟩ := by unfold viewE; rw [hc]
   rw [e]
   exact ⟨rfl, rfl, fun i c h => ⟨hideAll_get i h, fun h => by cases h⟩, fun _ h => by subst h; rfl⟩
 | false =>
   have e : viewE T1 un o Lj ⟨n, t, l⟩ f = ⟨n, smallT t f .nil, []⟩ := by unfold viewE; rw [hc]
   rw [e]
   refine ⟨rfl, rfl, fun i c h => ?_, fun h => by cases h⟩
   rcases smallT_get (t0 := t) (f := f) (t := .nil) i with ⟨h1, h2, _⟩ | ⟨h1, _⟩
   · have h : (smallT t f .nil).get i = some c := h
     rw [h1] at h
     exact ⟨h, fun _ => h2⟩
   · have h : (smallT t f .nil).get i = some c := h
     rw [h1, Tr.get_nil] at h; cases h
theorem joinE_spec {T1 : List (List Nat)} {un : List Nat} {h : EH} {f : List Nat} (hlim : ∀ i ∈ hw.log, i ≤ lim) (htouch : ∀ i, i ∉ hw.log → hw.t.get i = (viewE T1 un o Lj h f).t.get i) :
 (joinE un o h hw).next = hw.next ∧ ∀ i, (joinE un o h hw).t.get i = if i ∈ hw.log then hw.t.get i else h.t.get i := by
 obtain ⟨n, t, l⟩ := hw
 simp only at hlim htouch
 cases hc : (callK o.op && isNil un) with
 | true =>
   have e : joinE un o h ⟨n, t, l⟩ = ⟨n, t, []⟩ := by unfold joinE; rw [hc]
   rw [e]
   refine ⟨rfl, fun i => ?_⟩
   simp only [Bool.and_eq_true] at hc
   have hu : un = [] := by cases un <;> simp [isNil] at hc; rfl
   split
   · rfl
   · rename_i hi
     rw [htouch i hi, viewE_spec.2.2.2 hc.1 hu]
 | false =>
   have e : joinE un o h ⟨n, t, l⟩ = ⟨n, smallT t l h.t, []⟩ := by unfold joinE; rw [hc]
   rw [e]
   refine ⟨rfl, fun i => ?_⟩
   show (smallT t l h.t).get i = _
   rcases smallT_get (t0 := t) (f := l) (t := h.t) i with ⟨h1, h2, h3⟩ | ⟨h1, h2⟩
   · rw [h1, if_pos h2]
   · rw [h1, if_neg]
     rcases h2 with h2 | h2
     · exact h2
     · exact fun hm => h2 (hlim i hm)
noncomputable def hwF (W : Nat → XW) (k : Nat) : AH := (W k).w.ah
noncomputable def hvF (W : Nat → XW) (k : Nat) : AH := (W k).v.ah
def TF (W : Nat → XW) (k : Nat) : List Nat := (W k).w.log
structure Fct (m : Nat) (S : Nat → XS) (V : Nat → AV) (W : Nat → XW) (H : EH) : Prop where
 fm : ∀ i, i ≤ m → (S i).m = i
 ws : ∀ i, i ≤ m → ∀ k, k < i → (S i).ws[i - 1 - k]? = some (W k)
 vals : ∀ i, i ≤ m → ∀ k, (S i).vals.get k = if k < i then some (V k) else none
 nv : ∀ i, i < m → (W i).v.next = (S i).h.next ∧ (W i).v.log = []
 nw : ∀ i, i < m → (S (i + 1)).h.next = (W i).w.next ∧ (W i).v.next ≤ (W i).w.next
 n0 : (S 0).h.next = H.next
 seq : ∀ i, i ≤ m → ∀ a, (S i).h.t.get a = upd (hwF W) (TF W) (fun _ => true) H.ah i a
 logs : ∀ i, i ≤ m → ∀ acc, logs (S i).ws acc = (List.range i).reverse.flatMap (TF W) ++ acc
theorem chain_facts {T1 : List (List Nat)} {srcs : List Src} {uns : List (List Nat)} {l : List Oper} {S : Nat → XS} {V : Nat → AV} {W : Nat → XW} (hih : ∀ t, Snd P t (ih t)) (hN : N ≤ 1000000) (hm : l.length ≤ 1000000)
 (h0 : S 0 = ⟨0, .nil, [], ⟨H.next, H.t, []⟩⟩) (hc : ∀ (i : Nat) (o : Oper), l[i]? = some o → ∃ src un, srcs[i]? = some src ∧ uns[i]? = some un ∧ Link P ih ops N D L T1 o src un (S i) (S (i + 1)) (V i) (W i)) : Fct l.length S V W H := by
 have link : ∀ i, i < l.length → ∃ o src un, Link P ih ops N D L T1 o src un (S i) (S (i + 1)) (V i) (W i) := fun i hi => by
  obtain ⟨src, un, _, _, hl⟩ := hc i l[i] (List.getElem?_eq_getElem hi)
  exact ⟨_, src, un, hl⟩
 have hmm : ∀ i, i ≤ l.length → (S i).m = i := by
  intro i
  induction i with
  | zero => intro _; rw [h0]
  | succ i ih => intro hi; obtain ⟨o, src, un, hl⟩ := link i (by omega); rw [hl.lm, ih (by omega)]
 have hv : ∀ i, i < l.length → (W i).v.next = (S i).h.next ∧ (W i).v.log = [] := fun i hi => by
  obtain ⟨o, src, un, hl⟩ := link i hi
  rw [hl.lv]
  exact ⟨viewE_spec.1, viewE_spec.2.1⟩
 have hj : ∀ i, i < l.length → (S (i + 1)).h.next = (W i).w.next ∧ ∀ a, (S (i + 1)).h.t.get a = if a ∈ (W i).w.log then (W i).w.t.get a else (S i).h.t.get a := fun i hi => by
  obtain ⟨o, src, un, hl⟩ := link i hi
  have k := step2_ok (r := none) hih hN (ofL_lk (fillE L (S i).vals src)) (hv i hi).2 hl.lst
  have hw := wOk_spec hl.lok
  rw [hl.lh]
  have ht := k.2.1
  rw [hl.lv] at ht
  exact joinE_spec (fun a ha => (hw.2.1 a ha).1) ht
 refine ⟨hmm, ?_, ?_, hv, fun i hi => ⟨(hj i hi).1, ?_⟩, by rw [h0], ?_, ?_⟩
 · intro i
   induction i with
   | zero => intro _ k hk; omega
   | succ i ih =>
     intro hi k hk
     obtain ⟨o, src, un, hl⟩ := link i (by omega)
     rw [hl.lws]
     by_cases e : k = i
     · subst e; simp
     · rw [show i + 1 - 1 - k = (i - 1 - k) + 1 by omega]
       simpa using ih (by omega) k (by omega)
 · intro i
   induction i with
   | zero => intro _ k; rw [h0]; simp [Tr.get_nil]
   | succ i ih =>
     intro hi k
     obtain ⟨o, src, un, hl⟩ := link i (by omega)
     rw [hl.lvals, hmm i (by omega), Tr.get_set 20 _ _ _ _ (by omega), ih (by omega)]
     by_cases e : k = i
     · subst e; simp
     · rw [if_neg e]
       by_cases h1 : k < i
       · rw [if_pos h1, if_pos (by omega)]
       · rw [if_neg h1, if_neg (by omega)]
 · obtain ⟨o, src, un, hl⟩ := link i hi
   exact (wOk_spec hl.lok).1
 · intro i
   induction i with
   | zero => intro _ a; rw [h0]; rfl
   | succ i ih =>
     intro hi a
     rw [(hj i (by omega)).2]
     simp only [upd, TF, true_and, hwF]
     split
     · rfl
     · exact ih (by omega) a
 · intro i
   induction i with
   | zero => intro _ acc; rw [h0]; rfl
   | succ i ih =>
     intro hi acc
     obtain ⟨o, src, un, hl⟩ := link i (by omega)
     rw [hl.lws]
     simp only [J.logs, ih (by omega), List.range_succ, List.reverse_append, List.reverse_cons, List.reverse_nil, List.nil_append, List.cons_append, List.flatMap_cons, List.append_assoc]
     rfl
theorem Fct.at_ {m : Nat} {S : Nat → XS} {V : Nat → AV} {W : Nat → XW} (f : Fct m S V W H) {k : Nat} (hk : k < m) : (S m).at k = some (W k) := by
 unfold XS.at
 have e1 : (S m).m = m := f.fm m (Nat.le_refl _)
 have e2 : Nat.blt k m = true := by rw [Nat.blt_eq]; exact hk
 rw [e1, e2, getL_eq]
 show (S m).ws[m - k - 1]? = _
 rw [show m - k - 1 = m - 1 - k by omega]
 exact f.ws m (Nat.le_refl _) k hk
theorem Fct.mono {m : Nat} {S : Nat → XS} {V : Nat → AV} {W : Nat → XW} (f : Fct m S V W H) : ∀ j, j ≤ m → H.next ≤ (S j).h.next ∧ ∀ i, i < j → (W i).w.next ≤ (S j).h.next := by
 intro j
 induction j with
 | zero => intro _; exact ⟨by rw [f.n0]; exact Nat.le_refl _, fun i hi => by omega⟩
 | succ j ih =>
   intro hj
   obtain ⟨a, b⟩ := ih (by omega)
   obtain ⟨c, d⟩ := f.nw j (by omega)
   have e := (f.nv j (by omega)).1
   refine ⟨by omega, fun i hi => ?_⟩
   by_cases h : i = j
   · subst h; omega
   · have := b i (by omega); omega
theorem fillE_eq {vt : Tr AV} {vals : List AV} : ∀ {src : Src}, (∀ t k, (t, some k) ∈ src → vt.get k = vals[k]?) → fillE L vt src = fillS (L.toL id []) vals src
 | [], _ => rfl
 | (t, none) :: src, h => by
   have ih := fillE_eq (vt := vt) (vals := vals) (src := src) fun t k hm => h t k (List.mem_cons_of_mem _ hm)
   have e : fillE L vt ((t, none) :: src) = Option.rec (motive := fun _ => List (Nat × AV)) (fillE L vt src) (fun v => (t, v) :: fillE L vt src) (L.get t) := rfl
   rw [e, ih]
   simp only [fillS, lk_toL]
   cases L.get t <;> rfl
 | (t, some k) :: src, h => by
   have ih := fillE_eq (vt := vt) (vals := vals) (src := src) fun t k hm => h t k (List.mem_cons_of_mem _ hm)
   have e : fillE L vt ((t, some k) :: src) = Option.rec (motive := fun _ => List (Nat × AV)) (fillE L vt src) (fun v => (t, v) :: fillE L vt src) (vt.get k) := rfl
   rw [e, ih, h t k List.mem_cons_self]
   simp only [fillS]
   cases vals[k]? <;> rfl
theorem noneIn_spec {t : Tr Chunk} : ∀ {l : List Nat}, noneIn t l = true → ∀ i ∈ l, t.get i = none
 | [], _, i, hi => by cases hi
 | a :: l, h, i, hi => by
   simp only [noneIn, Bool.and_eq_true] at h
   rcases List.mem_cons.1 hi with rfl | hi
   · have := h.1
     cases hg : t.get i with
     | none => rfl
     | some c => rw [hg] at this; cases this
   · exact noneIn_spec h.2 i hi
theorem disj_spec {x : List Nat} : ∀ {l : List Nat}, disj x l = true → ∀ i ∈ l, i ∉ x
 | [], _, i, hi => by cases hi
 | a :: l, h, i, hi => by
   simp only [disj, Bool.and_eq_true, Bool.not_eq_true'] at h
   rcases List.mem_cons.1 hi with rfl | hi
   · intro hx
     rw [List.contains_iff_mem.2 hx] at h; cases h.1
   · exact disj_spec h.2 i hi
theorem quiet_spec {a : XW} {hk : EH} (h : quiet a hk = true) : (∀ i ∈ hk.log, a.v.t.get i = none) ∧ ∀ i ∈ hk.log, i ∉ a.w.log := by
 unfold quiet at h
 split at h
 · rename_i e; rw [e]; exact ⟨fun i hi => (by cases hi), fun i hi => (by cases hi)⟩
 · rename_i i r e
   rw [e]
   simp only [Bool.and_eq_true] at h
   exact ⟨noneIn_spec h.1, disj_spec h.2⟩
theorem loudOf_spec {s : XS} {a : XW} : ∀ {un l : List Nat}, loudOf s a un = some l → ∀ k ∈ un, ∃ b, s.at k = some b ∧ (quiet a b.w = true ∨ k ∈ l)
 | [], l, _, k, hk => by cases hk
 | x :: un, l, h, k, hk => by
   simp only [loudOf, od_some] at h
   obtain ⟨b, h1, l', h2, h3⟩ := h
   have ih := loudOf_spec h2
   cases hq : quiet a b.w with
   | true =>
     rw [hq] at h3
     have h3 : some l' = some l := h3
     cases h3
     rcases List.mem_cons.1 hk with rfl | hk
     · exact ⟨b, h1, .inl hq⟩
     · exact ih k hk
   | false =>
     rw [hq] at h3
     have h3 : some (x :: l') = some l := h3
     cases h3
     rcases List.mem_cons.1 hk with rfl | hk
     · exact ⟨b, h1, .inr List.mem_cons_self⟩
     · obtain ⟨b', q1, q2⟩ := ih k hk
       exact ⟨b', q1, q2.imp id (List.mem_cons_of_mem _)⟩
theorem avoidT_spec {p : Nat → Bool} {hk : EH} : ∀ {l : List Nat}, avoidT p hk l = true → ∀ i ∈ l, p i = true ∧ ∀ c, hk.t.get i = some c → c.nm p = true
 | [], _, i, hi => by cases hi
 | a :: l, h, i, hi => by
   simp only [avoidT, Bool.and_eq_true] at h
   rcases List.mem_cons.1 hi with rfl | hi
   · refine ⟨h.1.1, fun c hc => ?_⟩
     have := h.1.2
     rw [hc] at this; exact this
   · exact avoidT_spec h.2 i hi
theorem avoidOk_spec {s : XS} : ∀ {l : List (Nat × Nat)}, avoidOk s l = true → ∀ p ∈ l, ∃ a b v, s.at p.1 = some a ∧ s.at p.2 = some b ∧ s.vals.get p.2 = some v ∧ avoid1 a b v = true
 | [], _, p, hp => by cases hp
 | q :: l, h, p, hp => by
   simp only [avoidOk] at h
   split at h
   · rename_i a b v h1 h2 h3
     simp only [Bool.and_eq_true] at h
     rcases List.mem_cons.1 hp with rfl | hp
     · exact ⟨a, b, v, h1, h2, h3, h.1⟩
     · exact avoidOk_spec h.2 p hp
   · cases h
theorem eqV0_eq {a b : AV} (h : eqV0 a b = true) : a = b := by
 cases a <;> cases b <;> simp only [eqV0, reduceCtorEq, Bool.false_eq_true] at h
 · rw [eq_of_beq h]
 · simp only [Bool.and_eq_true, beqI_iff, decide_eq_true_eq] at h
   rw [beqK_iff.1 h.1, h.2]
 · rw [strEq_iff.1 h]
 · rename_i p q
   cases p with
   | none => simp only at h; rw [isNone_eq h]
   | some p => cases q with
     | none => simp at h
     | some q =>
       simp only [Bool.and_eq_true] at h
       have h1 := Nat.eq_of_beq_eq_true h.1
       have h2 := Nat.eq_of_beq_eq_true h.2
       cases p; cases q; simp only at h1 h2; subst h1; subst h2; rfl
theorem eqV0s_eq : ∀ {a b : List AV}, eqV0s a b = true → a = b
 | [], [], _ => rfl
 | [], _ :: _, h => by simp [eqV0s] at h
 | _ :: _, [], h => by simp [eqV0s] at h
 | x :: a, y :: b, h => by
   simp only [eqV0s] at h
   cases h1 : eqV0 x y with
   | false => simp [h1] at h
   | true => simp only [h1] at h; rw [eqV0_eq h1, eqV0s_eq h]
theorem eqV_eq {a b : AV} (h : eqV a b = true) : a = b := by
 cases a with
 | agg x => cases b <;> simp only [eqV, Bool.false_eq_true] at h; rw [eqV0s_eq h]
 | tuple x => cases b <;> simp only [eqV, Bool.false_eq_true] at h; rw [eqV0s_eq h]
 | _ => exact eqV0_eq h
theorem unsOk_spec {s : XS} : ∀ {l : List Oper} {srcs : List Src} {bfs uns : List (List Nat)} {j0 : Nat}, unsOk P ih ops N D L s l srcs bfs uns j0 = true →
 ∀ (j : Nat) (o : Oper) (src : Src) (bf un : List Nat), l[j]? = some o → srcs[j]? = some src → bfs[j]? = some bf → uns[j]? = some un → unOk P ih ops N D L s (j0 + j) o src bf un = true
 | [], _, _, _, _, _, j, o, src, bf, un, h, _, _, _ => by simp at h
 | x :: l, [], _, _, _, h, _, _, _, _, _, _, _, _, _ => by simp [unsOk] at h
 | x :: l, _ :: _, [], _, _, h, _, _, _, _, _, _, _, _, _ => by simp [unsOk] at h
 | x :: l, _ :: _, _ :: _, [], _, h, _, _, _, _, _, _, _, _, _ => by simp [unsOk] at h
 | x :: l, y :: srcs, z :: bfs, u :: uns, j0, h, j, o, src, bf, un, h1, h2, h3, h4 => by
   simp only [unsOk] at h
   split at h
   · rename_i hu
     cases j with
     | zero => simp at h1 h2 h3 h4; subst h1; subst h2; subst h3; subst h4; exact hu
     | succ j =>
       have := unsOk_spec h j o src bf un (by simpa using h1) (by simpa using h2) (by simpa using h3) (by simpa using h4)
       rw [show j0 + (j + 1) = j0 + 1 + j by omega]; exact this
   · cases h
theorem gdm_code {m : String} {b : Bool} {k : Rs} {e : AExit} {s : ES} : gdm m b k = .code e s ↔ b = true ∧ k = .code e s := by
 cases b <;> simp [gdm]
theorem obm_code {α : Type} {m : String} {x : Option α} {f : α → Rs} {e : AExit} {s : ES} : obm m x f = .code e s ↔ ∃ a, x = some a ∧ f a = .code e s := by
 cases x <;> simp [obm]
theorem upd_prefix {hw : Nat → AH} {T : Nat → List Nat} {h0 : AH} {i j : Nat} : ∀ m, j ≤ m → upd hw T (fun k => decide (k < j)) h0 m i = upd hw T (fun _ => true) h0 j i
 | 0, h => by have : j = 0 := by omega
              subst this; rfl
 | m + 1, h => by
   by_cases e : j = m + 1
   · subst e
     exact upd_congr (m + 1) fun k hk _ => by simp [hk]
   · simp only [upd]
     rw [if_neg (by rintro ⟨h1, _⟩; simp at h1; omega)]
     exact upd_prefix m (by omega)
theorem step2_ah (hih : ∀ t, Snd P t (ih t)) (hN : N ≤ 1000000) (hL : Lk Lj sl) (hlog : hv.log = []) (h : step2 P ih ops N D Lj o hv = some (v, hw)) (h1 : hw.log = []) (h2 : hw.next = hv.next) : hw.ah = hv.ah := by
 have k := step2_ok (r := none) hih hN hL hlog h
 refine AH.ext' h2 fun i => k.2.1 i (by rw [h1]; simp)
theorem drawE_ok {rid : Nat} (hmix : P.follows .mixedOrders = true) (hih : ∀ t, Snd P t (ih t)) (hN : N ≤ 1000000) (h : drawE P ih ops N s = .code e s') :
 e = .normal ∧ (∀ sl, Lk s.sl sl → J P r (.region rid ops true) ⟨sl, s.h.ah, N, s.ds⟩ (CodeQ N .normal s')) ∧ Lg s.h s'.h := by
 obtain ⟨L, H, D⟩ := s
 have h : gdm "stat" (statOk ops) (obm "pass" (pass2 P ih ops N D L (pass1 P ih ops N D ops.toList L H) ops.toList (srcsOf ops) (unord ops) ⟨0, .nil, [], ⟨H.next, H.t, []⟩⟩) fun x =>
  gdm "unordered" (unsOk P ih ops N D L x ops.toList (srcsOf ops) (befs ops) (unord ops) 0 && avoidOk x (avoidPs ops)) (.code .normal ⟨finL x.vals L ops.toList 0, ⟨x.h.next, x.h.t, logs x.ws H.log⟩, D⟩)) = .code e s' := h
 simp only [gdm_code, obm_code, Bool.and_eq_true, Rs.code.injEq, statOk] at h
 obtain ⟨⟨⟨hplan, hbf⟩, hsz⟩, x, hp, ⟨huns, hav⟩, rfl, rfl⟩ := h
 have hsz := Nat.le_of_ble_eq_true hsz
 obtain ⟨S, V, W, c0, cm, cc⟩ := pass2_chain hp
 have hlen : ops.toList.length = ops.size := by simp
 have f := chain_facts (H := H) hih hN (by rw [hlen]; exact hsz) c0 cc
 rw [hlen] at f cm
 let m := ops.size
 let sl0 := L.toL id []
 let vals := (List.range m).map V
 let bf : Nat → List Nat := fun j => (befs ops).getD j []
 let un : Nat → List Nat := fun j => unordAt ops j (bf j) (befs ops) 0
 let src : Nat → Src := fun j => (srcsOf ops).getD j []
 have hvals : ∀ k, vals[k]? = if k < m then some (V k) else none := fun k => by
  simp only [vals, List.getElem?_map]
  by_cases hk : k < m
  · rw [if_pos hk, List.getElem?_range hk]; rfl
  · rw [if_neg hk, List.getElem?_eq_none (by simp; omega)]; rfl
 have hbfj : ∀ j, j < m → (befs ops)[j]? = some (bf j) := fun j hj => by
  have : j < (befs ops).length := by rw [befs_len]; exact hj
  simp only [bf, List.getD_eq_getElem?_getD, List.getElem?_eq_getElem this, Option.getD_some]
 have hops : ∀ j, j < m → ∃ o, ops[j]? = some o ∧ ops.toList[j]? = some o := fun j hj => ⟨ops[j], Array.getElem?_eq_getElem hj, by simp [hj]⟩
 have hunj : ∀ j, j < m → (unord ops)[j]? = some (un j) := fun j hj => by
  have := unordGo_get (ops := ops) (bf := befs ops) (l := befs ops) (j0 := 0) (hbfj j hj)
  simpa [unord, un] using this
 have hsrcj : ∀ j, j < m → (srcsOf ops)[j]? = some (src j) := fun j hj => by
  obtain ⟨o, _, ho⟩ := hops j hj
  have := srcsGo_get (ops := ops) (l := ops.toList) (bs := befs ops) (by rw [befs_len]; simp) j o _ ho (hbfj j hj)
  have h2 : (srcsOf ops)[j]? = some ((usesOf ops o).map (srcOf ops (bf j))) := this
  simp only [src, List.getD_eq_getElem?_getD, h2, Option.getD_some]
 have plan0 := planOk_spec hplan
 have hlt : ∀ j k, j < m → k ∈ bf j → k < j := fun j k hj hk => by
  have := bfLt_spec hbf j (bf j) (hbfj j hj) k hk
  omega
 have hidx : ∀ j, j < m → ∀ t k, (t, some k) ∈ src j → k ∈ bf j := fun j hj t k hm => by
  have := plan0.src j hj _ hm
  simp only [srcOk, Bool.and_eq_true] at this
  exact List.contains_iff_mem.1 this.1
 have hfill : ∀ j, j < m → ∀ i, j ≤ i → i ≤ m → fillE L (S i).vals (src j) = fillS sl0 vals (src j) := fun j hj i h1 h2 => fillE_eq fun t k hm => by
  have hk := hlt j k hj (hidx j hj t k hm)
  rw [f.vals i h2, hvals, if_pos (by omega), if_pos (by omega)]
 have link : ∀ j, j < m → ∃ o, ops[j]? = some o ∧ Link P ih ops N D L (pass1 P ih ops N D ops.toList L H) o (src j) (un j) (S j) (S (j + 1)) (V j) (W j) := fun j hj => by
  obtain ⟨o, h1, h2⟩ := hops j hj
  obtain ⟨sr, u, h3, h4, h5⟩ := cc j o h2
  rw [hsrcj j hj] at h3
  rw [hunj j hj] at h4
  cases h3; cases h4
  exact ⟨o, h1, h5⟩
 have hstep : ∀ j, j < m → ∀ o, ops[j]? = some o → step2 P ih ops N D (ofL (fillS sl0 vals (src j))) o (W j).v = some (V j, (W j).w) := fun j hj o ho => by
  obtain ⟨o', h1, h2⟩ := link j hj
  rw [ho] at h1; cases h1
  rw [← hfill j hj j (Nat.le_refl _) (Nat.le_of_lt hj)]
  exact h2.lst
 have hok : ∀ j, j < m → ∀ o, ops[j]? = some o → OpDo P r ops o ⟨fillS sl0 vals (src j), (W j).v.ah, N, D⟩ (W j).w.ah (V j) ∧ (∀ i, i ∉ (W j).w.log → (W j).w.t.get i = (W j).v.t.get i) ∧ (wantedA ops o (fillS sl0 vals (src j)) = some false → (W j).w = (W j).v) :=
  fun j hj o ho => step2_ok hih hN (ofL_lk _) (f.nv j hj).2 (hstep j hj o ho)
 have hwok : ∀ j, j < m → ∀ o, ops[j]? = some o → ((W j).v.next ≤ (W j).w.next ∧ (∀ i ∈ (W j).w.log, i ≤ lim ∧ ∀ c, (W j).w.t.get i = some c → c.isRo = false) ∧ ((W j).w.log ≠ [] → effK o.op = true) ∧ ((W j).w.next ≠ (W j).v.next → newK o.op = true)) := fun j hj o ho => by
  obtain ⟨o', h1, h2⟩ := link j hj
  rw [ho] at h1; cases h1
  exact wOk_spec h2.lok
 have hview : ∀ j, j < m → ∀ i c, (W j).v.t.get i = some c → (S j).h.t.get i = some c ∧ (∀ o, ops[j]? = some o → callK o.op = false → i ∈ (W j).f) := fun j hj i c hc => by
  obtain ⟨o', h1, h2⟩ := link j hj
  rw [h2.lv] at hc
  obtain ⟨a, b⟩ := viewE_spec.2.2.1 i c hc
  exact ⟨a, fun o ho hk => by rw [h1] at ho; cases ho; exact b hk⟩
 have hseq : ∀ j, j ≤ m → ∀ i, (S j).h.t.get i = upd (hwF W) (TF W) (fun k => decide (k < j)) H.ah m i := fun j hj i => by
  rw [f.seq j hj, upd_prefix m hj]
 have hmem : ∀ j k, j < m → k < m → k ≠ j → k ∉ bf j → j ∉ bf k → TF W k ≠ [] → k ∈ un j := fun j k hj hk h1 h2 h3 h4 => by
  obtain ⟨o, ho, ho2⟩ := hops k hk
  have he := (hwok k hk o ho).2.2.1 h4
  have := unordAt_mem (ops := ops) (j := j) (bj := bf j) (l := befs ops) (k0 := 0) (k := k) (hbfj k hk) (by omega) (by simpa using h2) h3 (by simp [effAt, ho2, he])
  simpa [un] using this
 let Bp : Nat → Nat → Prop := fun j k0 => ∃ o, ops[j]? = some o ∧ callK o.op = false ∧ j < k0 ∧ k0 < m ∧ againOk P ih ops N D L x o (src j) (bf j) (V j) (W j) k0 (W k0).w = true ∧ ∀ k ∈ un j, k < m → k ≠ k0 → quiet (W j) (W k).w = true
 have hUF : ∀ j, j < m → (∀ k ∈ un j, k < m → quiet (W j) (W k).w = true) ∨ ∃ k0, Bp j k0 := fun j hj => by
  obtain ⟨o, ho, ho2⟩ := hops j hj
  have hu := unsOk_spec huns j o (src j) (bf j) (un j) ho2 (hsrcj j hj) (hbfj j hj) (hunj j hj)
  rw [Nat.zero_add] at hu
  unfold unOk at hu
  split at hu
  · rename_i e; left; intro k hk; rw [e] at hk; cases hk
  · rename_i e1 e2 hune
    have hv1 : x.vals.get j = some (V j) := by rw [← cm, f.vals m (Nat.le_refl _), if_pos hj]
    have ha1 : x.at j = some (W j) := by rw [← cm]; exact f.at_ hj
    rw [hv1, ha1] at hu
    simp only at hu
    cases hl : loudOf x (W j) (un j) with
    | none => rw [hl] at hu; cases hu
    | some ld =>
      rw [hl] at hu
      have hq := loudOf_spec hl
      have hat : ∀ k, k < m → x.at k = some (W k) := fun k hk => by rw [← cm]; exact f.at_ hk
      cases ld with
      | nil =>
        left
        intro k hk hkm
        obtain ⟨b, h1, h2⟩ := hq k hk
        rw [hat k hkm] at h1; cases h1
        rcases h2 with h2 | h2
        · exact h2
        · cases h2
      | cons k0 rest =>
        cases rest with
        | cons a b => cases hu
        | nil =>
          right
          simp only at hu
          split at hu
          · rename_i b hb
            simp only [Bool.and_eq_true, Bool.not_eq_true'] at hu
            obtain ⟨⟨u1, u2⟩, u3⟩ := hu
            have hk0 : k0 < m := by
             by_cases hk : k0 < m
             · exact hk
             · exfalso
               unfold XS.at at hb
               have e1 : x.m = m := by rw [← cm]; exact f.fm m (Nat.le_refl _)
               have e2 : Nat.blt k0 m = false := by cases hbl : Nat.blt k0 m with | false => rfl | true => rw [Nat.blt_eq] at hbl; exact absurd hbl hk
               rw [e1, e2] at hb; cases hb
            rw [hat k0 hk0] at hb; cases hb
            refine ⟨k0, o, ho, u1, by rw [Nat.blt_eq] at u2; exact u2, hk0, u3, fun k hk hkm hne => ?_⟩
            obtain ⟨b, h1, h2⟩ := hq k hk
            rw [hat k hkm] at h1; cases h1
            rcases h2 with h2 | h2
            · exact h2
            · simp at h2; exact absurd h2 hne
          · cases hu
 have hagain : ∀ j k0, j < m → Bp j k0 → ∃ o v' hx, ops[j]? = some o ∧ callK o.op = false ∧ step2 P ih ops N D (ofL (fillS sl0 vals (src j))) o (viewM x (W j).v (W k0).w (W j).f) = some (v', hx) ∧ hx.log = [] ∧ hx.next = x.h.next ∧ v' = V j ∧ (∀ a ∈ bf j, a < k0) ∧ (W j).w.log = [] ∧ (W j).w.next = (W j).v.next := by
  rintro j k0 hj ⟨o, ho, h1, h2, h3, h4, h5⟩
  unfold againOk at h4
  rw [← cm] at h4
  rw [hfill j hj m (Nat.le_of_lt hj) (Nat.le_refl _), cm] at h4
  split at h4
  · rename_i vh hst
    simp only [Bool.and_eq_true] at h4
    obtain ⟨⟨⟨⟨⟨g1, g2⟩, g3⟩, g4⟩, g5⟩, g6⟩ := h4
    have nil : ∀ l : List Nat, isNil l = true → l = [] := fun l hl => by cases l <;> simp [isNil] at hl; rfl
    refine ⟨o, vh.1, vh.2, ho, h1, hst, nil _ g1, Nat.eq_of_beq_eq_true g2, eqV_eq g3, fun a ha => ?_, nil _ g5, Nat.eq_of_beq_eq_true g6⟩
    have := List.all_eq_true.1 g4 a ha
    rw [Nat.blt_eq] at this; exact this
  · cases h4
 have hvm : ∀ j k0 i, (viewM x (W j).v (W k0).w (W j).f).t.get i = (W k0).w.t.get i ∧ i ∈ (W j).f ∧ i ∈ (W k0).w.log ∧ (∃ c, (W j).v.t.get i = some c) ∨ (viewM x (W j).v (W k0).w (W j).f).t.get i = (W j).v.t.get i ∧ ¬(i ∈ (W j).f ∧ i ∈ (W k0).w.log ∧ (∃ c, (W j).v.t.get i = some c) ∧ i ≤ lim) := fun j k0 i => by
  rcases smallT_get (t0 := (W k0).w.t) (f := (W j).f.filter fun i => (W k0).w.log.contains i && J.isSome ((W j).v.t.get i)) (t := (W j).v.t) i with ⟨h1, h2, _⟩ | ⟨h1, h2⟩
  · left
    simp only [List.mem_filter, Bool.and_eq_true] at h2
    refine ⟨h1, h2.1, List.contains_iff_mem.1 h2.2.1, ?_⟩
    have := h2.2.2
    cases hg : (W j).v.t.get i with
    | none => rw [hg] at this; cases this
    | some c => exact ⟨c, rfl⟩
  · right
    refine ⟨h1, fun ⟨a, b, ⟨c, hc⟩, d⟩ => ?_⟩
    rcases h2 with h2 | h2
    · apply h2
      simp only [List.mem_filter, Bool.and_eq_true]
      exact ⟨a, List.contains_iff_mem.2 b, by rw [hc]; rfl⟩
    · exact h2 d
 classical
 let evs : Nat → List AH := fun j => if h : ∃ k0, Bp j k0 then [(viewM x (W j).v (W h.choose).w (W j).f).ah] else []
 have hevs : ∀ j y, y ∈ evs j → ∃ k0, Bp j k0 ∧ y = (viewM x (W j).v (W k0).w (W j).f).ah := fun j y hy => by
  simp only [evs] at hy
  split at hy
  · rename_i h; simp at hy; exact ⟨_, h.choose_spec, hy⟩
  · cases hy
 have hmono := f.mono
 have hxn : x.h.next = (S m).h.next := by rw [← cm]
 let fin : Src := (List.range m).filterMap (fun i => (ops[i]?).bind fun o => o.dst.map fun d => (d, some i)) ++ (sl0.map (·.1)).filterMap fun t => if finOk ops (t, none) then some (t, none) else none
 have hfin : ∀ s ∈ fin, finOk ops s = true := fun s hs => by
  rcases List.mem_append.1 hs with h | h
  · obtain ⟨i, _, h2⟩ := List.mem_filterMap.1 h
    simp only [Option.bind_eq_some_iff, Option.map_eq_some_iff] at h2
    obtain ⟨o, ho, d, hd, rfl⟩ := h2
    exact dstIs_iff.2 ⟨o, ho, hd⟩
  · obtain ⟨t, _, h2⟩ := List.mem_filterMap.1 h
    split at h2
    · rename_i hf; cases h2; exact hf
    · cases h2
 have hxok : XOk (fun i => i) P r ops sl0 vals (srcsOf ops) fin H.ah x.h.ah (hvF W) (hwF W) (TF W) evs N D := by
  refine ⟨⟨plan0.uniq, plan0.src, hfin, plan0.chain, plan0.effLt, plan0.back⟩, ?_, fun _ _ _ _ h => h, fun j k hj hk => hlt j k hj hk, fun j k hj hk => hlt j k hj hk, fun j hj => ?_, fun j k hj _ hk => ?_, ⟨?_, fun j hj => ?_⟩, fun j i hj hi => ?_, ?_, ?_, ?_, ?_, ?_, ?_, ?_, ?_⟩
  ·
   intro j o ho
   have hj : j < m := (Array.getElem?_eq_some_iff.1 ho).1
   exact ⟨V j, by rw [hvals, if_pos hj], (hok j hj o ho).1⟩
  · show H.next ≤ (W j).v.next
    rw [(f.nv j hj).1]; exact (hmono j (Nat.le_of_lt hj)).1
  · show (W k).w.next ≤ (W j).v.next
    rw [(f.nv j hj).1]; exact (hmono j (Nat.le_of_lt hj)).2 k hk
  · show H.next ≤ x.h.next
    rw [hxn]; exact (hmono m (Nat.le_refl _)).1
  · show (W j).w.next ≤ x.h.next
    rw [hxn]; exact (hmono m (Nat.le_refl _)).2 j hj
  · obtain ⟨o, ho, _⟩ := hops j hj
    exact (hok j hj o ho).2.1 i hi
  ·
   intro j i c hj hc
   have h1 := (hview j hj i c hc).1
   rw [f.seq j (Nat.le_of_lt hj)] at h1
   rcases upd_spec (hw := hwF W) (T := TF W) (S := fun _ => true) (h0 := H.ah) (i := i) j with ⟨k, k1, _, k3, _, k5⟩ | ⟨_, k2⟩
   · rw [k5] at h1; exact .inl ⟨k, Nat.lt_trans k1 hj, k1, k3, h1⟩
   · rw [k2] at h1; exact .inr h1
  ·
   intro j o v y ho hv hy
   have hj : j < m := (Array.getElem?_eq_some_iff.1 ho).1
   rw [hvals, if_pos hj] at hv; cases hv
   obtain ⟨k0, hb, rfl⟩ := hevs j y hy
   obtain ⟨o', v', hx, g1, g2, g3, g4, g5, rfl, g7, g8, g9⟩ := hagain j k0 hj hb
   rw [ho] at g1; cases g1
   have e1 := step2_ah (Lj := ofL (fillS sl0 vals (src j))) hih hN (ofL_lk _) rfl g3 g4 g5
   have k := step2_ok (r := r) hih hN (ofL_lk (fillS sl0 vals (src j))) rfl g3
   refine ⟨?_, g8, by show (W j).w.next ≤ (W j).v.next; omega, rfl⟩
   have := k.1
   rw [e1] at this; exact this
  · intro j y i c hj hy hc
    obtain ⟨k0, hb, rfl⟩ := hevs j y hy
    have hk0 : k0 < m := by obtain ⟨_, _, _, _, h, _⟩ := hb; exact h
    rcases hvm j k0 i with ⟨h1, _, h3, _⟩ | ⟨h1, _⟩
    · have hc : (viewM x (W j).v (W k0).w (W j).f).t.get i = some c := hc
      rw [h1] at hc
      exact .inl ⟨k0, hk0, h3, hc⟩
    · have hc : (viewM x (W j).v (W k0).w (W j).f).t.get i = some c := hc
      rw [h1] at hc
      have h2 := (hview j hj i c hc).1
      rw [f.seq j (Nat.le_of_lt hj)] at h2
      rcases upd_spec (hw := hwF W) (T := TF W) (S := fun _ => true) (h0 := H.ah) (i := i) j with ⟨k, k1, _, k3, _, k5⟩ | ⟨_, k2⟩
      · rw [k5] at h2; exact .inl ⟨k, by omega, k3, h2⟩
      · rw [k2] at h2; exact .inr h2
  ·
   intro j Sx hj hS1 hS2 hS3
   have other : ∀ k, k < m → k ≠ j → k ∉ bf j → Sx k = true → j ∉ bf k := fun k hk _ _ hs hb => by
    have := hS3 k j hk hs hb
    rw [hS2] at this; cases this
   have plain : ∀ i c, (W j).v.t.get i = some c → (∀ k, k < m → k ≠ j → k ∉ bf j → j ∉ bf k → i ∈ TF W k → Sx k = decide (k < j)) → upd (hwF W) (TF W) Sx H.ah m i = some c := by
    intro i c hc hu
    rw [← (hview j hj i c hc).1, hseq j (Nat.le_of_lt hj)]
    refine upd_congr m fun k hk hik => ?_
    by_cases h1 : k = j
    · subst h1; simp [hS2]
    · by_cases h2 : k ∈ bf j
      · have := hlt j k hj h2
        simp [hS1 k h2, this]
      · by_cases h3 : j ∈ bf k
        · have h4 := hlt k j hk h3
          cases h5 : Sx k with
          | false => simp; omega
          | true => exact absurd h3 (other k hk h1 h2 h5)
        · exact hu k hk h1 h2 h3 hik
   by_cases hex : ∃ k0, Bp j k0
   · have hb := hex.choose_spec
     generalize hk0e : hex.choose = k0 at hb
     obtain ⟨o, v', hx, g1, g2, g3, g4, g5, g6, g7, g8, g9⟩ := hagain j k0 hj hb
     obtain ⟨o2, b1, b2, b3, b4, b5, b6⟩ := hb
     have rest : ∀ k, k < m → k ≠ j → k ∉ bf j → j ∉ bf k → k ≠ k0 → ∀ i c, i ∈ TF W k → (W j).v.t.get i = some c → False := fun k hk h1 h2 h3 h4 i c hik hc => by
      have hne : TF W k ≠ [] := fun e => by rw [e] at hik; cases hik
      have := (quiet_spec (b6 k (hmem j k hj hk h1 h2 h3 hne) hk h4)).1 i hik
      rw [this] at hc; cases hc
     cases hs0 : Sx k0 with
     | false =>
       left
       intro i c hc
       refine plain i c hc fun k hk h1 h2 h3 hik => ?_
       by_cases h4 : k = k0
       · subst h4; rw [hs0]; symm; simp; omega
       · exact (rest k hk h1 h2 h3 h4 i c hik hc).elim
     | true =>
       right
       have hmemx : (viewM x (W j).v (W k0).w (W j).f).ah ∈ evs j := by
        simp only [evs]
        rw [dif_pos hex, hk0e]; simp
       refine ⟨_, hmemx, fun i c hc => ?_⟩
       have hc : (viewM x (W j).v (W k0).w (W j).f).t.get i = some c := hc
       rcases hvm j k0 i with ⟨h1, h2, h3, c0, hc0⟩ | ⟨h1, h2⟩
       · rw [h1] at hc
         rcases upd_spec (hw := hwF W) (T := TF W) (S := Sx) (h0 := H.ah) (i := i) m with ⟨k, k1, k2, k3, k4, k5⟩ | ⟨k1, _⟩
         · rw [k5]
           by_cases e : k = k0
           · rw [e]; exact hc
           · exfalso
             have hgt : k0 < k := by
              rcases Nat.lt_or_gt_of_ne e with hl | hl
              · exact absurd h3 (k4 k0 hl b4 hs0)
              · exact hl
             have hkj : k ≠ j := fun e => by subst e; rw [hS2] at k2; cases k2
             have hkb : k ∉ bf j := fun h => by have := g7 k h; omega
             exact rest k k1 hkj hkb (other k k1 hkj hkb k2) e i c0 k3 hc0
         · exact absurd h3 (k1 k0 b4 hs0)
       · have hc2 : (W j).v.t.get i = some c := h1 ▸ hc
         refine plain i c hc2 fun k hk q1 q2 q3 hik => ?_
         by_cases h4 : k = k0
         · exfalso
           subst h4
           have hf := (hview j hj i c hc2).2 o2 b1 b2
           obtain ⟨o3, ho3, _⟩ := hops k hk
           exact h2 ⟨hf, hik, ⟨c, hc2⟩, ((hwok k hk o3 ho3).2.1 i hik).1⟩
         · exact (rest k hk q1 q2 q3 h4 i c hik hc2).elim
   · left
     intro i c hc
     refine plain i c hc fun k hk h1 h2 h3 hik => ?_
     exfalso
     rcases hUF j hj with hq | hq
     · have hne : TF W k ≠ [] := fun e => by rw [e] at hik; cases hik
       have := (quiet_spec (hq k (hmem j k hj hk h1 h2 h3 hne) hk)).1 i hik
       have hc : (W j).v.t.get i = some c := hc
       rw [this] at hc; cases hc
     · exact hex hq
  ·
   intro j k i hjk hk h1 h2
   have hj : j < m := by omega
   by_cases hb : j ∈ bf k
   · exact hb
   · exfalso
     have hkb : k ∉ bf j := fun h => by have := hlt j k hj h; omega
     have hne : TF W k ≠ [] := fun e => by rw [e] at h2; cases h2
     have hmu := hmem j k hj hk (by omega) hkb hb hne
     rcases hUF j hj with hq | ⟨k0, hb0⟩
     · exact (quiet_spec (hq k hmu hk)).2 i h2 h1
     · obtain ⟨_, _, _, _, _, _, _, _, _, _, _, g8, _⟩ : ∃ o v' hx, ops[j]? = some o ∧ callK o.op = false ∧ step2 P ih ops N D (ofL (fillS sl0 vals (src j))) o (viewM x (W j).v (W k0).w (W j).f) = some (v', hx) ∧ hx.log = [] ∧ hx.next = x.h.next ∧ v' = V j ∧ (∀ a ∈ bf j, a < k0) ∧ True ∧ (W j).w.log = [] ∧ (W j).w.next = (W j).v.next := by
        obtain ⟨o, v', hx, g1, g2, g3, g4, g5, g6, g7, g8, g9⟩ := hagain j k0 hj hb0
        exact ⟨o, v', hx, g1, g2, g3, g4, g5, g6, g7, trivial, g8, g9⟩
       have h1 : i ∈ (W j).w.log := h1
       rw [g8] at h1; cases h1
  ·
   intro j k _ hjk hk hb
   have hj : j < m := by omega
   obtain ⟨o, ho, ho2⟩ := hops j hj
   by_cases hn : (W j).w.next = (W j).v.next
   · have all : ∀ nm, notR (hvF W) (hwF W) j nm = true := fun nm => by
      rw [notR_iff]
      show ¬((W j).v.next ≤ nm ∧ nm < (W j).w.next)
      omega
     refine ⟨fun v _ => nm_sup (n := v.sup) (fun i _ => all i) v (Nat.le_refl _), fun i _ => ⟨all i, fun c _ => Chunk.nm_sup (n := c.sup) (fun i _ => all i) (Nat.le_refl _)⟩⟩
   · have hnew := (hwok j hj o ho).2.2.2 hn
     have hmp := avoidGo_mem (ops := ops) (bf := befs ops) (l := befs ops) (j0 := 0) (j := j) (k := k) (b := bf k) (acc := []) (by rw [befs_len]; exact hj) (by simp [newAt, ho2, hnew]) (hbfj k hk) (by omega) (by rw [Nat.zero_add]; exact hb)
     rw [Nat.zero_add] at hmp
     obtain ⟨a, b, v, h1, h2, h3, h4⟩ := avoidOk_spec hav (j, k) hmp
     have hat : ∀ k, k < m → x.at k = some (W k) := fun k hk => by rw [← cm]; exact f.at_ hk
     rw [hat j hj] at h1; cases h1
     rw [hat k hk] at h2; cases h2
     have h3 : x.vals.get k = some v := h3
     rw [← cm, f.vals m (Nat.le_refl _), if_pos hk] at h3; cases h3
     simp only [avoid1, Bool.or_eq_true, Bool.and_eq_true] at h4
     have hp : ∀ nm, notRE (W j).v.next (W j).w.next nm = notR (hvF W) (hwF W) j nm := fun nm => rfl
     rcases h4 with h4 | ⟨h4, h5⟩
     · have := Nat.le_of_ble_eq_true h4
       have := (hwok j hj o ho).1
       omega
     · refine ⟨fun v hv => ?_, fun i hi => avoidT_spec h5 i hi⟩
       rw [hvals, if_pos hk] at hv; cases hv
       exact h4
  · intro j o ho hw
    have hj : j < m := (Array.getElem?_eq_some_iff.1 ho).1
    have := (hok j hj o ho).2.2 hw
    show (W j).w.log = []
    rw [this]; exact (f.nv j hj).2
  · intro i
    show x.h.t.get i = _
    rw [← cm]; exact f.seq m (Nat.le_refl _) i
 refine ⟨rfl, fun sl hL => ?_, ?_⟩
 · refine J_keep (sl' := sl0) (toL_sub hL) ?_
   refine J_drawX rfl hmix hxok rfl ⟨rfl, rfl, rfl, rfl, ?_⟩
   have hentry : ∀ (src : Src) t u, (∃ s ∈ src, s.1 = t ∧ (match s.2 with | some i => vals[i]? | none => lk sl0 t) = some u) → (∀ s ∈ src, s.1 = t → ∀ u', (match s.2 with | some i => vals[i]? | none => lk sl0 t) = some u' → u' = u) → lk (fillS sl0 vals src) t = some u := by
    intro src t u
    induction src with
    | nil => rintro ⟨s, hs, _⟩; cases hs
    | cons a src ihs =>
      intro hex hun
      obtain ⟨t0, oi⟩ := a
      have tail : ∀ rest : List (Nat × AV), rest = fillS sl0 vals src → (t0 = t → (match oi with | some i => vals[i]? | none => lk sl0 t) = none) → lk rest t = some u := by
       intro rest hr hno
       rw [hr]
       refine ihs ?_ fun s hs => hun s (List.mem_cons_of_mem _ hs)
       obtain ⟨s, hs, e1, e2⟩ := hex
       rcases List.mem_cons.1 hs with rfl | hs
       · have := hno e1
         simp only at e2; rw [this] at e2; cases e2
       · exact ⟨s, hs, e1, e2⟩
      cases oi with
      | none =>
        simp only [fillS]
        cases hl : lk sl0 t0 with
        | none => exact tail _ rfl fun e => by subst e; exact hl
        | some v0 =>
          simp only [lk]
          by_cases e : t0 = t
          · subst e
            simp only [Nat.beq_refl, if_true]
            rw [hun (t0, none) List.mem_cons_self rfl v0 hl]
          · simp only [beq_false e]
            exact tail _ rfl fun h => absurd h e
      | some i =>
        simp only [fillS]
        cases hl : vals[i]? with
        | none => exact tail _ rfl fun _ => hl
        | some v0 =>
          simp only [lk]
          by_cases e : t0 = t
          · subst e
            simp only [Nat.beq_refl, if_true]
            rw [hun (t0, some i) List.mem_cons_self rfl v0 hl]
          · simp only [beq_false e]
            exact tail _ rfl fun h => absurd h e
   have hxv : ∀ k, x.vals.get k = if k < m then some (V k) else none := fun k => by rw [← cm]; exact f.vals m (Nat.le_refl _) k
   have hfl : ∀ (l : List Oper) (i : Nat), (∀ (q : Nat) (o : Oper), l[q]? = some o → ops[i + q]? = some o) → ∀ k u, (finL x.vals L l i).get k = some u → (∃ q o, l[q]? = some o ∧ o.dst = some k ∧ x.vals.get (i + q) = some u) ∨ ((∀ (q : Nat) (o : Oper), l[q]? = some o → o.dst ≠ some k) ∧ L.get k = some u) := by
    intro l
    induction l with
    | nil => intro i _ k u hu; exact .inr ⟨fun q o h => by simp at h, hu⟩
    | cons o l ihl =>
      intro i hl k u hu
      have ih' := ihl (i + 1) (fun q o h => by rw [show i + 1 + q = i + (q + 1) by omega]; exact hl (q + 1) o (by simpa using h)) k u
      have hio := hl 0 o (by simp)
      have down : (finL x.vals L l (i + 1)).get k = some u → (o.dst ≠ some k) → ((∃ q o_1, (o :: l)[q]? = some o_1 ∧ o_1.dst = some k ∧ x.vals.get (i + q) = some u) ∨ ((∀ (q : Nat) (o_1 : Oper), (o :: l)[q]? = some o_1 → o_1.dst ≠ some k) ∧ L.get k = some u)) := fun h hno => by
       rcases ih' h with ⟨q, o', h1, h2, h3⟩ | ⟨h1, h2⟩
       · exact Or.inl ⟨q + 1, o', by simpa using h1, h2, by rw [show i + (q + 1) = i + 1 + q by omega]; exact h3⟩
       · refine Or.inr ⟨fun q o' h => ?_, h2⟩
         cases q with
         | zero => simp at h; subst h; exact hno
         | succ q => exact h1 q o' (by simpa using h)
      have e0 : finL x.vals L (o :: l) i = Option.rec (motive := fun _ => Tr AV) (finL x.vals L l (i + 1)) (fun d => Option.rec (motive := fun _ => Tr AV) (finL x.vals L l (i + 1)) (fun v => Tr.set 20 (finL x.vals L l (i + 1)) d (some v)) (x.vals.get i)) o.dst := rfl
      rw [e0] at hu
      cases hd : o.dst with
      | none => rw [hd] at hu; exact down hu (by rw [hd]; simp)
      | some d =>
        rw [hd] at hu
        have him : i < m := by rw [Nat.add_zero] at hio; exact (Array.getElem?_eq_some_iff.1 hio).1
        have hvi : x.vals.get i = some (V i) := by rw [hxv, if_pos him]
        rw [hvi] at hu
        have hu : (Tr.set 20 (finL x.vals L l (i + 1)) d (some (V i))).get k = some u := hu
        have hdN : d < N := by
         rw [Nat.add_zero] at hio
         rcases (hok i him o hio).1 with ⟨_, hjo⟩ | ⟨_, _, _, h4⟩
         · have hst := hstep i him o hio
           simp only [step2, od_some] at hst
           obtain ⟨w, w1, w2⟩ := hst
           cases w with
           | false =>
             have w2 : gb (dstOk N o) (some (AV.tuple [], (W i).v)) = some (V i, (W i).w) := w2
             simp only [gb_some, dstOk, hd, Nat.blt_eq] at w2; exact w2.1
           | true =>
             have w2 : (od (opE P ih N o (ofL (fillS sl0 vals (src i))) (W i).v D).norm fun s => od (valOf? o s.sl) fun v => some (v, s.h)) = some (V i, (W i).w) := w2
             simp only [od_some] at w2
             obtain ⟨s1, z1, _⟩ := w2
             exact ((opE_ok (r := r) hih hN (ofL_lk _) (norm_some z1)).slot d hd).1
         · exact h4 d hd
        have hd20 : d + 2 ≤ 2 ^ 20 := Nat.le_trans (Nat.add_le_add_right (Nat.le_of_lt (Nat.lt_of_lt_of_le hdN hN)) 2) (by decide)
        have hu2 := hu
        rw [Tr.get_set 20 _ _ _ _ hd20] at hu2
        split at hu2
        · rename_i e
          subst e
          left
          exact ⟨0, o, by simp, hd, by rw [Nat.add_zero, hvi]; exact hu2⟩
        · rename_i e
          exact down hu2 (by rw [hd]; exact fun h => e (by cases h; rfl))
   intro k u hu
   have hfin0 := hfl ops.toList 0 (fun q o h => by rw [Nat.zero_add, ← Array.getElem?_toList]; exact h) k u hu
   refine hentry fin k u ?_ ?_
   · rcases hfin0 with ⟨q, o, h1, h2, h3⟩ | ⟨h1, h2⟩
     · rw [Nat.zero_add] at h3
       have hq : ops[q]? = some o := by rw [← Array.getElem?_toList]; exact h1
       have hqm : q < m := (Array.getElem?_eq_some_iff.1 hq).1
       refine ⟨(k, some q), List.mem_append_left _ (List.mem_filterMap.2 ⟨q, by simpa using hqm, by simp [hq, h2]⟩), rfl, ?_⟩
       rw [hxv, if_pos hqm] at h3
       simp only [hvals, if_pos hqm]; exact h3
     · have hk : (k, u) ∈ sl0 := lk_mem (by rw [lk_toL]; exact h2)
       refine ⟨(k, none), List.mem_append_right _ (List.mem_filterMap.2 ⟨k, List.mem_map.2 ⟨(k, u), hk, rfl⟩, ?_⟩), rfl, by simp only [sl0, lk_toL]; exact h2⟩
       rw [if_pos]
       simp only [finOk, List.all_eq_true, List.mem_range]
       intro q hq
       cases hd : dstIs ops q k with
       | false => rfl
       | true =>
         obtain ⟨o, ho, hd2⟩ := dstIs_iff.1 hd
         exact absurd hd2 (h1 q o (by rw [Array.getElem?_toList]; exact ho))
   · intro s hs hsk u' hu'
     rcases List.mem_append.1 hs with h | h
     · obtain ⟨i, hi, h2⟩ := List.mem_filterMap.1 h
       simp only [Option.bind_eq_some_iff, Option.map_eq_some_iff] at h2
       obtain ⟨o, ho, d, hd, rfl⟩ := h2
       simp only at hsk hu'
       subst hsk
       have him : i < m := by simpa using hi
       rw [hvals, if_pos him] at hu'
       rcases hfin0 with ⟨q, o', h1, h2, h3⟩ | ⟨h1, h2⟩
       · rw [Nat.zero_add] at h3
         have hq : ops[q]? = some o' := by rw [← Array.getElem?_toList]; exact h1
         by_cases e : q = i
         · subst e; rw [hxv, if_pos him] at h3; rw [h3] at hu'; cases hu'; rfl
         · have := plan0.uniq q i d e (dstIs_iff.2 ⟨o', hq, h2⟩)
           rw [dstIs_iff.2 ⟨o, ho, hd⟩] at this; cases this
       · exact absurd hd (h1 i o (by rw [Array.getElem?_toList]; exact ho))
     · obtain ⟨t, _, h2⟩ := List.mem_filterMap.1 h
       split at h2
       · rename_i hf
         cases h2
         simp only at hsk hu'
         subst hsk
         rcases hfin0 with ⟨q, o', h1, h2, h3⟩ | ⟨h1, h2⟩
         · have hq : ops[q]? = some o' := by rw [← Array.getElem?_toList]; exact h1
           simp only [finOk, List.all_eq_true, List.mem_range] at hf
           have := hf q (Array.getElem?_eq_some_iff.1 hq).1
           rw [dstIs_iff.2 ⟨o', hq, h2⟩] at this; cases this
         · simp only [sl0, lk_toL] at hu'
           rw [h2] at hu'; cases hu'; rfl
       · cases h2
 ·
  refine ⟨(List.range m).reverse.flatMap (TF W), ?_, fun i hi => ?_⟩
  · show logs x.ws H.log = _
    rw [← cm]; exact f.logs m (Nat.le_refl _) H.log
  · show x.h.t.get i = H.t.get i
    rw [← cm, f.seq m (Nat.le_refl _)]
    rcases upd_spec (hw := hwF W) (T := TF W) (S := fun _ => true) (h0 := H.ah) (i := i) m with ⟨k, k1, _, k3, _, _⟩ | ⟨_, k2⟩
    · exact absurd (List.mem_flatMap.2 ⟨k, by simpa using k1, k3⟩) hi
    · exact k2
end ops
def JLoop (P : Program) (r : Option Nat) (c : Code) (s : St) (Q : AExit → St → Prop) : Prop :=
 s.wf → rsup r ≤ s.h.next → ∃ e s', s'.wf ∧ e.sup ≤ s'.h.next ∧ s.h.next ≤ s'.h.next ∧ Q e s' ∧ ∀ ρ a w n, Rel ρ s a w → loopIn (fen ρ r) n P c (Out ρ s w e s') a w
theorem J_of_JLoop {P : Program} {r : Option Nat} {c : Code} {s : St} {Q : AExit → St → Prop} (h : JLoop P r c s Q) : J P r (.loop c) s Q := fun hw hr =>
 let ⟨e, s', a, b, d, q, x⟩ := h hw hr; ⟨e, s', a, b, d, q, fun ρ ac w n hrel => wpIn_of_loopIn (x ρ ac w n hrel)⟩
theorem JLoop_round {P : Program} {r : Option Nat} {x : Code} {s : St} {Q : AExit → St → Prop} (h : J P r x s (Then (fun s' => JLoop P r x s' Q) Q)) : JLoop P r x s Q := by
 intro hw hr
 obtain ⟨e, s1, hw1, he1, hn1, hq, hx⟩ := h hw hr
 have other : e ≠ .normal → Q e s1 → ∃ e s', s'.wf ∧ e.sup ≤ s'.h.next ∧ s.h.next ≤ s'.h.next ∧ Q e s' ∧ ∀ ρ ac w n, Rel ρ s ac w → loopIn (fen ρ r) n P x (Out ρ s w e s') ac w :=
  fun hne hq => ⟨e, s1, hw1, he1, hn1, hq, fun ρ ac w n hrel => loopIn_round (wpIn_mono (hx ρ ac w n hrel) fun _ _ _ h => Out.wp_then hne h)⟩
 cases e with
 | normal =>
   obtain ⟨e, s2, hw2, he2, hn2, hq2, hy⟩ := hq hw1 (by omega)
   refine ⟨e, s2, hw2, he2, by omega, hq2, fun ρ ac w n hrel => loopIn_round (wpIn_mono (hx ρ ac w n hrel) ?_)⟩
   rintro e1 a1 w1 ⟨ρ', h1, h2, h3⟩
   subst h1
   have hf := fen_ext h3.2.2.2.2.1 (r := r) hr
   show loopIn (fen ρ r) n P x (Out ρ s w e s2) a1 w1
   rw [← hf]
   refine loopIn_mono (hy ρ' a1 w1 n h2) ?_
   rintro e2 a2 w2 ⟨ρ'', q1, q2, q3⟩
   exact ⟨ρ'', q1, q2, h3.trans q3⟩
 | exit id => exact other (by simp) hq
 | goto l => exact other (by simp) hq
 | ret => exact other (by simp) hq
 | panic v => exact other (by simp) hq
theorem JLoop.mono {P : Program} {r : Option Nat} {c : Code} {s : St} {Q Q' : AExit → St → Prop} (h : JLoop P r c s Q) (hq : ∀ e s', Q e s' → Q' e s') : JLoop P r c s Q' := fun hw hr =>
 let ⟨e, s', a, b, d, q, x⟩ := h hw hr; ⟨e, s', a, b, d, hq e s' q, x⟩
def SndL (P : Program) : Tk → Rs → Prop
 | .code r n (.loop c) s, .code e s' => n ≤ 1000000 → (∀ sl, Lk s.sl sl → JLoop P r c ⟨sl, s.h.ah, n, s.ds⟩ (CodeQ n e s')) ∧ Lg s.h s'.h
 | t, z => Snd P t z
theorem SndL.snd {P : Program} {t : Tk} {z : Rs} (h : SndL P t z) : Snd P t z := by
 cases t with
 | code r n c s =>
   cases c with
   | loop c =>
     cases z with
     | code e s' => exact fun hn => ⟨fun sl hL => J_of_JLoop ((h hn).1 sl hL), (h hn).2⟩
     | fin v h' => trivial
     | no w => trivial
   | _ => exact h
 | call f args h' => exact h
 | app fv args h' => exact h
section
variable {P : Program} {ih : Tk → Rs} {r : Option Nat} {n : Nat} {s s' : ES} {e : AExit}
theorem code_of (hih : ∀ t, SndL P t (ih t)) {c : Code} (hn : n ≤ 1000000) (h : ih (.code r n c s) = .code e s') : (∀ sl, Lk s.sl sl → J P r c ⟨sl, s.h.ah, n, s.ds⟩ (CodeQ n e s')) ∧ Lg s.h s'.h := by
 have := (hih (.code r n c s)).snd
 rw [h] at this
 exact this hn
theorem argsE_get : ∀ (l : List AV) (k : Nat) (t : Tr AV) (i : Nat) (v : AV), k + l.length ≤ 1000001 → (argsE l k t).get i = some v → (k ≤ i ∧ l[i - k]? = some v) ∨ ((i < k ∨ k + l.length ≤ i) ∧ t.get i = some v)
 | [], k, t, i, v, _, h => .inr ⟨by simp; omega, h⟩
 | a :: l, k, t, i, v, hk, h => by
   simp only [argsE] at h
   simp only [List.length_cons] at hk ⊢
   rcases argsE_get l (k + 1) _ i v (by omega) h with ⟨h1, h2⟩ | ⟨h1, h2⟩
   · left
     refine ⟨by omega, ?_⟩
     rw [show i - k = (i - (k + 1)) + 1 by omega]; simpa using h2
   · rw [Tr.get_set 20 _ _ _ _ (by omega)] at h2
     split at h2
     · rename_i e; subst e; simp only [Option.some.injEq] at h2; subst h2; exact .inl ⟨Nat.le_refl _, by simp⟩
     · right; exact ⟨by omega, h2⟩
theorem initS_lk : ∀ (l : List AV) (k i : Nat) (v : AV), k ≤ i → l[i - k]? = some v → lk (initS k l) i = some v
 | [], k, i, v, _, h => by simp at h
 | a :: l, k, i, v, hk, h => by
   simp only [initS, lk]
   by_cases e : k = i
   · subst e; simp at h ⊢; exact h
   · rw [beq_false e]
     simp only [Bool.false_eq_true, if_false]
     refine initS_lk l (k + 1) i v (by omega) ?_
     rw [show i - k = (i - (k + 1)) + 1 by omega] at h; simpa using h
theorem argsE_lk {args : List AV} (h : args.length ≤ 1000000) : Lk (argsE args 0 .nil) (initS 0 args) := by
 intro i v hv
 rcases argsE_get args 0 .nil i v (by omega) hv with ⟨h1, h2⟩ | ⟨_, h2⟩
 · exact initS_lk args 0 i v h1 h2
 · simp [Tr.get_nil] at h2
theorem putAll_lk : ∀ {ks : List Nat} {vs : List AV} {t : Tr AV} {sl : List (Nat × AV)} {m : Nat}, m ≤ 1000000 → ltAll m ks = true → Lk t sl → Lk (putAll ks vs t) (putArgs ks vs sl)
 | [], vs, t, sl, m, _, _, h => by cases vs <;> exact h
 | k :: ks, [], t, sl, m, _, _, h => h
 | k :: ks, v :: vs, t, sl, m, hm, hk, h => by
   simp only [ltAll] at hk
   cases hb : Nat.blt k m with
   | false => simp [hb] at hk
   | true =>
     simp only [hb] at hk
     rw [Nat.blt_eq] at hb
     simp only [putAll, putArgs]
     exact putAll_lk hm hk (h.put (by omega))
theorem ltAll_all : ∀ {ks : List Nat} {m : Nat}, ltAll m ks = true → ∀ k ∈ ks, k < m
 | [], _, _, k, h => by cases h
 | a :: ks, m, h, k, hk => by
   simp only [ltAll] at h
   cases hb : Nat.blt a m with
   | false => simp [hb] at h
   | true =>
     simp only [hb] at h
     rcases List.mem_cons.1 hk with rfl | hk
     · rw [Nat.blt_eq] at hb; exact hb
     · exact ltAll_all h k hk
theorem dropMarksE_ok : ∀ {ds : List ADef} {h h' : EH}, dropMarksE ds h = some h' → marksOk ds h.ah ∧ dropMarks ds h.ah = h'.ah ∧ Lg h h'
 | [], h, h', e => by simp only [dropMarksE, Option.some.injEq] at e; subst e; exact ⟨trivial, rfl, .refl _⟩
 | .call _ _ :: ds, h, h', e => by simp [dropMarksE] at e
 | .mark id :: ds, h, h', e => by
   simp only [dropMarksE, od_some] at e
   obtain ⟨_, h1, h2, h3, h4⟩ := e
   simp only [EH.getM, od_some] at h1
   obtain ⟨c, h5, h6⟩ := h1
   have hc : c = .mark := by cases c <;> simp [isMark] at h6; rfl
   subst hc
   obtain ⟨a1, a2, a3⟩ := dropMarksE_ok h4
   have hd : (⟨h.ah.next, fun i => if i = id then none else h.ah.get i⟩ : AH) = h2.ah := put_drop h3
   refine ⟨⟨h5, ?_⟩, ?_, (EH.put_spec h3).2.2.trans a3⟩
   · rw [hd]; exact a1
   · simp only [dropMarks]; rw [hd]; exact a2
theorem resLE_ok {L : Tr AV} {sl : List (Nat × AV)} {h : EH} {nn : Nat} (hL : Lk L sl) : ∀ {l : List ResultVar} {vs : List AV}, resLE P L h l = some vs → resL P ⟨sl, h.ah, nn, []⟩ l = some vs
 | [], vs, e => e
 | x :: l, vs, e => by
   simp only [resLE, od_some, Option.some.injEq] at e
   obtain ⟨v, h1, us, h2, h3⟩ := e
   have ih' := resLE_ok (nn := nn) hL h2
   have hx : resV P ⟨sl, h.ah, nn, []⟩ x = some v := by
    cases x with
    | tmp t => exact hL t v h1
    | cell a T =>
      simp only [resVE, od_some] at h1
      obtain ⟨pv, k1, p, k2, cs, k3, g, k4, m, k5, k6⟩ := h1
      have hp : pv = .ptr (some p) := by cases pv <;> simp [AV.asPtr] at k2; subst k2; rfl
      subst hp
      obtain ⟨DT, hD, rfl⟩ := isAggE_eq k4
      have hsz := szOf_eq k5
      simp only [Option.map_eq_some_iff] at hsz
      obtain ⟨i, hi, hi2⟩ := hsz
      simp only [resV, hL _ _ k1, EH.cells_ah k3, hD, hi, hi2]
      exact loadE_eq k6
   simp only [resL, hx, ih']
   rw [h3]
theorem callE_ok (hih : ∀ t, SndL P t (ih t)) {f : Nat} {args : List AV} {h h' : EH} {v : AV} (hc : callE P ih f args h = .fin v h') : (∃ fn c, IsFn P f fn c) ∧ JCall P f args h.ah (fun e h2 => e = .ret v ∧ h2 = h'.ah) ∧ Lg h h' := by
 simp only [callE, ob_fin, gd_fin, Bool.and_eq_true, Bool.not_eq_true'] at hc
 obtain ⟨fn, h1, c, h2, ⟨⟨h3, h4⟩, h5⟩, h6⟩ := hc
 have h4 := Nat.le_of_ble_eq_true h4
 have h5 := Nat.le_of_ble_eq_true h5
 have hf : IsFn P f fn c := ⟨by rw [← Array.getElem?_toList]; exact h1, h2, h3⟩
 have key : ∀ e s, ih (.code none fn.ntmps c ⟨argsE args 0 .nil, h, []⟩) = .code e s → isEnd e = true → endFn P fn.results.toList s = .fin v h' → JCall P f args h.ah (fun e h2 => e = .ret v ∧ h2 = h'.ah) ∧ Lg h h' := by
  intro e s hi he hend
  obtain ⟨hj, hlg⟩ := code_of hih h5 hi
  obtain ⟨L, H, D⟩ := s
  have hend : (ob (dropMarksE D H) fun h' => ob (resLE P L h' fn.results.toList) fun vs => .fin (oneOf vs) h') = .fin v h' := hend
  simp only [ob_fin, Rs.fin.injEq] at hend
  obtain ⟨H', k1, vs, k2, rfl, rfl⟩ := hend
  obtain ⟨m1, m2, m3⟩ := dropMarksE_ok k1
  refine ⟨JCall_of_J hf rfl h4 rfl ((hj _ (argsE_lk (by omega))).mono ?_), hlg.trans m3⟩
  rintro e2 ⟨sl2, h2, n2, d2⟩ ⟨rfl, q1, q2, q3, q4⟩
  simp only at q1 q2 q3 q4
  subst q1; subst q2; subst q3
  have hres : marksOk d2 H.ah ∧ ∃ vs', resL P ⟨sl2, dropMarks d2 H.ah, fn.ntmps, []⟩ fn.results.toList = some vs' ∧ (AEnd.ret (oneOf vs') = .ret (oneOf vs) ∧ dropMarks d2 H.ah = H'.ah) := by
   rw [m2]
   exact ⟨m1, vs, resLE_ok q4 k2, rfl, rfl⟩
  cases e2 with
  | normal => exact hres
  | ret => exact hres
  | exit i => simp [isEnd] at he
  | goto i => simp [isEnd] at he
  | panic i => simp [isEnd] at he
 revert h6 key
 generalize ih (.code none fn.ntmps c ⟨argsE args 0 .nil, h, []⟩) = z
 intro h6 key
 cases z with
 | code e s =>
   have h6 : gd (isEnd e) (endFn P fn.results.toList s) = .fin v h' := h6
   rw [gd_fin] at h6
   exact ⟨⟨fn, c, hf⟩, key e s rfl h6.1 h6.2⟩
 | fin v h' => simp [leaveE] at h6
 | no w => simp [leaveE] at h6
theorem roundEnd_ok {l : Nat} {z : Rs} {v : AV} {h' : EH} (hr : roundEnd l z = .fin v h') : ∃ e s lr st pd b, z = .code e s ∧ s.h.getM l Chunk.asLoop = some lr ∧ lr.isBusy = true ∧ s.h.put l (some (lr.ck st pd)) = some h' ∧ v = .bool b ∧
 (match e with | .normal => st = .ready ∧ pd = none ∧ b = true | .ret => st = .done ∧ pd = some .ret ∧ b = false | .exit id => st = .done ∧ pd = some (.exit id) ∧ b = false | .goto t => st = .done ∧ pd = some (.goto t) ∧ b = false | .panic _ => False) := by
 cases z with
 | fin v h => simp [roundEnd] at hr
 | no w => simp [roundEnd] at hr
 | code e s =>
   simp only [roundEnd, ob_fin, gd_fin] at hr
   obtain ⟨lr, h1, h2, h3⟩ := hr
   cases e <;> simp only [roundEx, roundPut, ob_fin, Rs.fin.injEq, reduceCtorEq] at h3
   · obtain ⟨H', k1, rfl, rfl⟩ := h3
     exact ⟨_, _, lr, _, _, _, rfl, h1, h2, k1, rfl, rfl, rfl, rfl⟩
   · obtain ⟨H', k1, rfl, rfl⟩ := h3
     exact ⟨_, _, lr, _, _, _, rfl, h1, h2, k1, rfl, rfl, rfl, rfl⟩
   · obtain ⟨H', k1, rfl, rfl⟩ := h3
     exact ⟨_, _, lr, _, _, _, rfl, h1, h2, k1, rfl, rfl, rfl, rfl⟩
   · obtain ⟨H', k1, rfl, rfl⟩ := h3
     exact ⟨_, _, lr, _, _, _, rfl, h1, h2, k1, rfl, rfl, rfl, rfl⟩
theorem isReady_eq {lr : LoopR} (h : lr.isReady = true) : lr.st = .ready := by
 unfold LoopR.isReady at h
 split at h
 · assumption
 · cases h
theorem isBusy_eq {lr : LoopR} : lr.isBusy = true ↔ lr.st = .busy := by
 unfold LoopR.isBusy
 split
 · rename_i h; simp [h]
 · rename_i h; simp; exact h
theorem yieldE_ok (hih : ∀ t, SndL P t (ih t)) {l : Nat} {args : List AV} {h h' : EH} {v : AV} (hc : yieldE ih l args h = .fin v h') : JApp P (.yield l) args h.ah (fun e h2 => e = .ret v ∧ h2 = h'.ah) ∧ Lg h h' := by
 simp only [yieldE, ob_fin, gd_fin, Bool.and_eq_true] at hc
 obtain ⟨lr, h1, ⟨⟨⟨h2, h3⟩, h4⟩, h5⟩, h6⟩ := hc
 have h5 := Nat.le_of_ble_eq_true h5
 have h3 := Nat.eq_of_beq_eq_true h3
 have hg := getM_loop h1
 rw [isReady_eq h2] at hg
 have key : ∀ e s1, ih (.code (some l) lr.nt lr.assign ⟨putAll lr.ps.toList args (ofL lr.ts), h, []⟩) = .code e s1 → yieldB ih l lr.nt lr.body (.code e s1) = .fin v h' → JApp P (.yield l) args h.ah (fun e h2 => e = .ret v ∧ h2 = h'.ah) ∧ Lg h h' := by
  intro e s1 hi hb
  obtain ⟨L, H, D⟩ := s1
  have hb : gd (isNorm e) (ob (H.getM l Chunk.asLoop) fun lr1 => gd lr1.isReady (ob (H.put l (some (lr1.ck .busy lr1.pd))) fun h2 => roundEnd l (ih (.code (some l) lr.nt lr.body ⟨L, h2, D⟩)))) = .fin v h' := hb
  simp only [gd_fin, ob_fin, isNorm_iff] at hb
  obtain ⟨rfl, lr1, k1, k2, H2, k3, k4⟩ := hb
  obtain ⟨hj, hlg⟩ := code_of hih h5 hi
  obtain ⟨e3, s3, lr3, st3, pd3, b3, z1, z2, z3, z4, rfl, z6⟩ := roundEnd_ok k4
  obtain ⟨hj3, hlg3⟩ := code_of hih h5 z1
  have hg1 := getM_loop k1
  rw [isReady_eq k2] at hg1
  refine ⟨JApp_yield hg (by rw [← h3]; simp) (ltAll_all h4) ((hj _ (putAll_lk h5 h4 (ofL_lk lr.ts))).mono ?_), hlg.trans ((EH.put_spec k3).2.2.trans (hlg3.trans (EH.put_spec z4).2.2))⟩
  rintro e2 ⟨sl2, h2', n2, d2⟩ ⟨rfl, q1, q2, q3, q4⟩
  simp only at q1 q2 q3 q4
  subst q1; subst q2; subst q3
  refine ⟨_, _, _, _, _, _, _, hg1, fun a ha => ?_⟩
  have := put_uniq k3 ha
  subst this
  refine (hj3 sl2 q4).mono ?_
  rintro e4 ⟨sl4, h4', n4, d4⟩ ⟨rfl, q5, q6, q7, q8⟩
  simp only at q5 q6 q7 q8
  subst q5
  have hg3 := getM_loop z2
  rw [isBusy_eq.1 z3] at hg3
  refine ⟨_, _, _, _, _, _, _, hg3, ?_⟩
  cases e4 with
  | normal => obtain ⟨rfl, rfl, rfl⟩ := z6; exact fun a ha => ⟨rfl, put_uniq z4 ha⟩
  | ret => obtain ⟨rfl, rfl, rfl⟩ := z6; exact fun a ha => ⟨rfl, put_uniq z4 ha⟩
  | exit i => obtain ⟨rfl, rfl, rfl⟩ := z6; exact fun a ha => ⟨rfl, put_uniq z4 ha⟩
  | goto i => obtain ⟨rfl, rfl, rfl⟩ := z6; exact fun a ha => ⟨rfl, put_uniq z4 ha⟩
  | panic i => exact z6.elim
 revert h6 key
 generalize ih (.code (some l) lr.nt lr.assign ⟨putAll lr.ps.toList args (ofL lr.ts), h, []⟩) = z
 intro h6 key
 cases z with
 | code e s => exact key e s rfl h6
 | fin v h' => simp [yieldB] at h6
 | no w => simp [yieldB] at h6
theorem appE_ok (hih : ∀ t, SndL P t (ih t)) {fv : AV} {args : List AV} {h h' : EH} {v : AV} (hc : appE ih fv args h = .fin v h') : JApp P fv args h.ah (fun e h2 => e = .ret v ∧ h2 = h'.ah) ∧ Lg h h' := by
 cases fv with
 | fn f first cap =>
   cases f with
   | func f =>
     have hc : ih (.call f (first ++ args ++ cap) h) = .fin v h' := hc
     have hs := hih (.call f (first ++ args ++ cap) h)
     rw [hc] at hs
     obtain ⟨⟨fn, c, hf⟩, hj, hlg⟩ := hs
     exact ⟨JApp_fn hf hj, hlg⟩
   | _ => simp [appE] at hc
 | yield l => exact yieldE_ok hih hc
 | _ => simp [appE] at hc
theorem rangeEnd_ok (hih : ∀ t, SndL P t (ih t)) (hn : n ≤ 1000000) {l : Nat} {marks : List ADef} {L : Tr AV} {D : List ADef} {z : Rs} (hc : rangeEnd ih r n l marks L D z = .code e s') : ∃ v h2, z = .fin v h2 ∧ Lg h2 s'.h ∧
 ∀ sl h0, Lk L sl → RangeEnd P r l marks ⟨sl, h0, n, D⟩ (CodeQ n e s') (.ret v) h2.ah := by
 cases z with
 | code e s => simp [rangeEnd] at hc
 | no w => simp [rangeEnd] at hc
 | fin v h2 =>
   simp only [rangeEnd, ob_code, gd_code, Bool.not_eq_true'] at hc
   obtain ⟨lr, k1, k2, h3, k3, k4⟩ := hc
   have hnb : lr.st ≠ .busy := fun h => by rw [isBusy_eq.2 h] at k2; cases k2
   have hd := put_drop k3
   have hlg := (EH.put_spec k3).2.2
   cases hp : lr.pd with
   | none =>
     rw [hp] at k4
     simp only [Rs.code.injEq] at k4
     obtain ⟨rfl, rfl⟩ := k4
     refine ⟨v, h2, rfl, hlg, fun sl h0 hL => ?_⟩
     have hg := getM_loop k1
     rw [hp] at hg
     refine ⟨_, _, _, _, _, _, _, _, hg, hnb, ?_⟩
     exact ⟨rfl, hd, rfl, rfl, hL⟩
   | some c =>
     rw [hp] at k4
     obtain ⟨hj, hlg2⟩ := code_of hih hn k4
     refine ⟨v, h2, rfl, hlg.trans hlg2, fun sl h0 hL => ?_⟩
     have hg := getM_loop k1
     rw [hp] at hg
     refine ⟨_, _, _, _, _, _, _, _, hg, hnb, ?_⟩
     show J P r c ⟨sl, h2.ah.drop l, n, marks ++ D⟩ (CodeQ n e s')
     rw [hd]; exact hj sl hL
theorem asFn_eq {v : AV} {f : Nat × List AV × List AV} (h : v.asFn = some f) : v = .fn (.func f.1) f.2.1 f.2.2 := by
 cases v with
 | fn g a b => cases g <;> simp [AV.asFn] at h; subst h; rfl
 | _ => simp [AV.asFn] at h
theorem rangeE_ok (hih : ∀ t, SndL P t (ih t)) (hn : n ≤ 1000000) {f : Operand} {ps : Array Tmp} {assign body : Code} {L : Tr AV} {H : EH} {D : List ADef} (hc : rangeE ih r n f ps assign body L H D = .code e s') :
 (∀ sl, Lk L sl → J P r (.rangeFunc f ps assign body) ⟨sl, H.ah, n, D⟩ (CodeQ n e s')) ∧ Lg H s'.h := by
 simp only [rangeE, ob_code, od_some] at hc
 obtain ⟨fv, ⟨v0, h1, h2⟩, h3⟩ := hc
 have := asFn_eq h2
 subst this
 cases r with
 | none =>
   simp only [rangeOut, ob_code] at h3
   obtain ⟨h1', k1, h2', k2, k3⟩ := h3
   obtain ⟨v, hz, k4, k5, k6⟩ := rangeEnd_ok hih hn k3
   have hs := hih (.call fv.1 (fv.2.1 ++ [.yield h1'.next] ++ fv.2.2) h2')
   rw [k4] at hs
   obtain ⟨⟨fn, cb, hf⟩, hj, hlg⟩ := hs
   have a1 := (add_uniq k1 (AH.addTo _ _)).2
   have a2 := (add_uniq k2 (AH.addTo _ _)).2
   have n1 := (EH.add_spec k1).1
   refine ⟨fun sl hL => ?_, (EH.add_spec k1).2.2.trans ((EH.add_spec k2).2.2.trans (hlg.trans k5))⟩
   refine J_range_outerX rfl (evE_ev hL h1) hf (toL_sub hL) ?_
   show JCall P fv.1 (fv.2.1 ++ [.yield (H.next + 1)] ++ fv.2.2) ((H.ah.add .mark).add (.loop .ready none (L.toL id []) n ps assign body H.next)) (RangeEnd P none (H.next + 1) [.mark H.next] ⟨sl, H.ah, n, D⟩ (CodeQ n e s'))
   rw [a1, a2, ← n1]
   refine hj.mono ?_
   rintro e2 h4 ⟨rfl, rfl⟩
   exact k6 sl _ hL
 | some l0 =>
   simp only [rangeIn, ob_code] at h3
   obtain ⟨lr, k0, h1', k1, k3⟩ := h3
   obtain ⟨v, hz, k4, k5, k6⟩ := rangeEnd_ok hih hn k3
   have hs := hih (.call fv.1 (fv.2.1 ++ [.yield H.next] ++ fv.2.2) h1')
   rw [k4] at hs
   obtain ⟨⟨fn, cb, hf⟩, hj, hlg⟩ := hs
   refine ⟨fun sl hL => ?_, (EH.add_spec k1).2.2.trans (hlg.trans k5)⟩
   refine J_range_inner rfl (evE_ev hL h1) hf (toL_sub hL) (getM_loop k0) fun l h1 ha => ?_
   obtain ⟨rfl, rfl⟩ := add_uniq k1 ha
   refine hj.mono ?_
   rintro e2 h4 ⟨rfl, rfl⟩
   exact k6 sl _ hL
theorem blk_code {id : Nat} {z : Rs} (h : blkE id z = .code e s') : ∃ e1, z = .code e1 s' ∧ e = blkX id e1 := by
 cases z with
 | code e1 s1 =>
   have h : Rs.code (blkX id e1) s1 = .code e s' := h
   simp only [Rs.code.injEq] at h
   obtain ⟨rfl, rfl⟩ := h
   exact ⟨e1, rfl, rfl⟩
 | fin v h' => simp [blkE] at h
 | no w => simp [blkE] at h
theorem scope_code {z : Rs} (h : scopeE z = .code e s') : z = .code e s' ∧ ∀ l, e ≠ .goto l := by
 cases z with
 | code e1 s1 =>
   have h : gd (!isGoto e1) (.code e1 s1) = .code e s' := h
   simp only [gd_code, Rs.code.injEq, Bool.not_eq_true'] at h
   obtain ⟨h1, rfl, rfl⟩ := h
   refine ⟨rfl, fun l hl => ?_⟩
   subst hl; simp [isGoto] at h1
 | fin v h' => simp [scopeE] at h
 | no w => simp [scopeE] at h
theorem codeE_ok (hmix : P.follows .mixedOrders = true) (hih : ∀ t, SndL P t (ih t)) {c : Code} (hc : codeE P ih r n c s = .code e s') : SndL P (.code r n c s) (.code e s') := by
 have hih' : ∀ t, Snd P t (ih t) := fun t => (hih t).snd
 cases c with
 | skip =>
   intro hn
   have hc : Rs.code .normal s = .code e s' := hc
   cases hc
   exact ⟨fun sl hL => J_skip rfl ⟨rfl, rfl, rfl, rfl, hL⟩, .refl _⟩
 | region id ops draw =>
   intro hn
   cases draw with
   | false =>
     have hc : opsE P ih ops n ops.toList s = .code e s' := hc
     have k : ∀ sl, Lk s.sl sl → _ := fun sl hL => opsE_ok (r := r) hih' hn ops.toList [] [] s sl (by simp) hL hc
     have he := (k _ (toL_lk _)).1
     subst he
     refine ⟨fun sl hL => J_region rfl ?_, (k _ (toL_lk _)).2.2⟩
     have := (k sl hL).2.1
     rw [show List.range ops.size = List.range' ([] : List Oper).length ops.toList.length by simp [List.range_eq_range']]
     exact this
   | true =>
     have hc : drawE P ih ops n s = .code e s' := hc
     obtain ⟨rfl, h1, h2⟩ := drawE_ok (r := r) (rid := id) hmix hih' hn hc
     exact ⟨h1, h2⟩
 | seq x y =>
   intro hn
   have hc : thenE (fun s' => ih (.code r n y s')) (ih (.code r n x s)) = .code e s' := hc
   rcases thenE_code hc with ⟨s1, h1, h2⟩ | ⟨hne, h1⟩
   · obtain ⟨a1, a2⟩ := code_of hih hn h1
     obtain ⟨b1, b2⟩ := code_of hih hn h2
     refine ⟨fun sl hL => J_seq rfl ((a1 sl hL).mono ?_), a2.trans b2⟩
     rintro e2 ⟨sl2, h2', n2, d2⟩ ⟨rfl, q1, q2, q3, q4⟩
     simp only at q1 q2 q3 q4
     subst q1; subst q2; subst q3
     exact b1 sl2 q4
   · obtain ⟨a1, a2⟩ := code_of hih hn h1
     refine ⟨fun sl hL => J_seq rfl ((a1 sl hL).mono ?_), a2⟩
     rintro e2 s2 ⟨rfl, hq⟩
     cases e2 <;> first | exact absurd rfl hne | exact ⟨rfl, hq⟩
 | cond o x y =>
   intro hn
   have hc : condE ih r n o x y s = .code e s' := hc
   simp only [condE, ob_code] at hc
   obtain ⟨v, h1, b, h2, h3⟩ := hc
   have := asBool_eq h2
   subst this
   cases b with
   | true =>
     have h3 : ih (.code r n x s) = .code e s' := h3
     obtain ⟨a1, a2⟩ := code_of hih hn h3
     exact ⟨fun sl hL => J_cond rfl (evE_ev hL h1) (fun _ => a1 sl hL) (fun h => by cases h), a2⟩
   | false =>
     have h3 : ih (.code r n y s) = .code e s' := h3
     obtain ⟨a1, a2⟩ := code_of hih hn h3
     exact ⟨fun sl hL => J_cond rfl (evE_ev hL h1) (fun h => by cases h) (fun _ => a1 sl hL), a2⟩
 | block id x =>
   intro hn
   have hc : blkE id (ih (.code r n x s)) = .code e s' := hc
   obtain ⟨e1, h1, rfl⟩ := blk_code hc
   obtain ⟨a1, a2⟩ := code_of hih hn h1
   refine ⟨fun sl hL => J_block rfl ((a1 sl hL).mono ?_), a2⟩
   rintro e2 s2 ⟨rfl, hq⟩
   cases e2 with
   | exit j =>
     simp only [InBlk, blkX]
     cases hb : Nat.beq j id with
     | true => simp only [if_true]; exact ⟨rfl, hq⟩
     | false => simp only [Bool.false_eq_true, if_false]; exact ⟨rfl, hq⟩
   | _ => exact ⟨rfl, hq⟩
 | loop x =>
   intro hn
   have hc : thenE (fun s' => ih (.code r n (.loop x) s')) (ih (.code r n x s)) = .code e s' := hc
   rcases thenE_code hc with ⟨s1, h1, h2⟩ | ⟨hne, h1⟩
   · obtain ⟨a1, a2⟩ := code_of hih hn h1
     have hb := hih (.code r n (.loop x) s1)
     rw [h2] at hb
     obtain ⟨b1, b2⟩ := hb hn
     refine ⟨fun sl hL => JLoop_round ((a1 sl hL).mono ?_), a2.trans b2⟩
     rintro e2 ⟨sl2, h2', n2, d2⟩ ⟨rfl, q1, q2, q3, q4⟩
     simp only at q1 q2 q3 q4
     subst q1; subst q2; subst q3
     exact b1 sl2 q4
   · obtain ⟨a1, a2⟩ := code_of hih hn h1
     refine ⟨fun sl hL => JLoop_round ((a1 sl hL).mono ?_), a2⟩
     rintro e2 s2 ⟨rfl, hq⟩
     cases e2 <;> first | exact absurd rfl hne | exact ⟨rfl, hq⟩
 | rangeFunc f ps assign body =>
   intro hn
   obtain ⟨L, H, D⟩ := s
   have hc : rangeE ih r n f ps assign body L H D = .code e s' := hc
   exact rangeE_ok hih hn hc
 | exit id =>
   intro hn
   have hc : Rs.code (.exit id) s = .code e s' := hc
   cases hc
   exact ⟨fun sl hL => J_exit rfl ⟨rfl, rfl, rfl, rfl, hL⟩, .refl _⟩
 | scope x =>
   intro hn
   have hc : scopeE (ih (.code r n x s)) = .code e s' := hc
   obtain ⟨h1, h2⟩ := scope_code hc
   obtain ⟨a1, a2⟩ := code_of hih hn h1
   refine ⟨fun sl hL => J_scope rfl ((a1 sl hL).mono ?_), a2⟩
   rintro e2 s2 ⟨rfl, hq⟩
   cases e2 <;> first | exact absurd rfl (h2 _) | exact ⟨rfl, hq⟩
 | label l =>
   intro hn
   have hc : Rs.code .normal s = .code e s' := hc
   cases hc
   exact ⟨fun sl hL => J_label rfl ⟨rfl, rfl, rfl, rfl, hL⟩, .refl _⟩
 | goto l => exact Rs.noConfusion hc
 | ret =>
   intro hn
   have hc : Rs.code .ret s = .code e s' := hc
   cases hc
   exact ⟨fun sl hL => J_ret rfl ⟨rfl, rfl, rfl, rfl, hL⟩, .refl _⟩
 | refuse w => exact Rs.noConfusion hc
theorem stepE_ok (hmix : P.follows .mixedOrders = true) (hih : ∀ t, SndL P t (ih t)) : ∀ t, SndL P t (stepE P ih t) := by
 intro t
 cases t with
 | code r n c s =>
   have e : stepE P ih (.code r n c s) = codeE P ih r n c s := rfl
   rw [e]
   cases hz : codeE P ih r n c s with
   | code e s' => exact codeE_ok hmix hih hz
   | fin v h => cases c <;> trivial
   | no w => cases c <;> trivial
 | call f args h =>
   have e : stepE P ih (.call f args h) = callE P ih f args h := rfl
   rw [e]
   cases hz : callE P ih f args h with
   | code e s' => trivial
   | fin v h => exact callE_ok hih hz
   | no w => trivial
 | app fv args h =>
   have e : stepE P ih (.app fv args h) = appE ih fv args h := rfl
   rw [e]
   cases hz : appE ih fv args h with
   | code e s' => trivial
   | fin v h => exact appE_ok hih hz
   | no w => trivial
theorem runE_ok (hmix : P.follows .mixedOrders = true) : ∀ k t, SndL P t (runE P k t) := by
 intro k
 induction k with
 | zero => intro t; cases t <;> first | trivial | (rename_i c _; cases c <;> trivial)
 | succ k ih => exact stepE_ok hmix ih
theorem runE_call (hmix : P.follows .mixedOrders = true) {k f : Nat} {args : List AV} {h h' : EH} {v : AV} (hr : runE P k (.call f args h) = .fin v h') : JCall P f args h.ah (fun e h2 => e = .ret v ∧ h2 = h'.ah) := by
 have := runE_ok hmix k (.call f args h)
 rw [hr] at this
 exact this.2.1
end
def Ren.comp (ρ : Ren) (σ : Nat → Nat) : Ren := ⟨fun i => ρ.blk (σ i), fun i => ρ.off (σ i), fun i => ρ.cap (σ i)⟩
def renA (σ : Nat → Nat) : Option (Nat × Nat) → Option (Nat × Nat)
 | some p => some (σ p.1, p.2)
 | none => none
mutual
def AV.ren (σ : Nat → Nat) : AV → AV
 | .bool b => .bool b
 | .int k n => .int k n
 | .str s => .str s
 | .ptr a => .ptr (renA σ a)
 | .slice a n c => .slice (renA σ a) n c
 | .map r => .map (r.map σ)
 | .fn f first captured => .fn f (renL σ first) (renL σ captured)
 | .yield l => .yield (σ l)
 | .nilFunc => .nilFunc
 | .iface t v => .iface t (v.ren σ)
 | .nilIface => .nilIface
 | .agg cs => .agg (renL σ cs)
 | .tuple vs => .tuple (renL σ vs)
def renL (σ : Nat → Nat) : List AV → List AV
 | [] => []
 | v :: r => v.ren σ :: renL σ r
end
mutual
theorem conc_ren (ρ : Ren) (σ : Nat → Nat) : ∀ v : AV, conc ρ (v.ren σ) = conc (ρ.comp σ) v
 | .bool _ => rfl
 | .int _ _ => rfl
 | .str _ => rfl
 | .ptr none => rfl
 | .ptr (some p) => rfl
 | .slice none _ c => by cases c <;> rfl
 | .slice (some p) _ c => by cases c <;> rfl
 | .map none => rfl
 | .map (some r) => rfl
 | .fn f first captured => by simp only [AV.ren, conc, concL_ren ρ σ first, concL_ren ρ σ captured]
 | .yield l => rfl
 | .nilFunc => rfl
 | .iface t v => by simp only [AV.ren, conc, conc_ren ρ σ v]
 | .nilIface => rfl
 | .agg cs => by simp only [AV.ren, conc, concL_ren ρ σ cs]
 | .tuple vs => by simp only [AV.ren, conc, concL_ren ρ σ vs]
theorem concL_ren (ρ : Ren) (σ : Nat → Nat) : ∀ l : List AV, concL ρ (renL σ l) = concL (ρ.comp σ) l
 | [] => rfl
 | v :: r => by simp only [renL, concL, conc_ren ρ σ v, concL_ren ρ σ r]
end
theorem renL_map (σ : Nat → Nat) : ∀ l : List AV, renL σ l = l.map (AV.ren σ)
 | [] => rfl
 | v :: r => by simp only [renL, List.map_cons, renL_map σ r]
theorem renL_get (σ : Nat → Nat) (l : List AV) (i : Nat) : (renL σ l)[i]? = (l[i]?).map (AV.ren σ) := by simp [renL_map]
@[simp] theorem renL_length (σ : Nat → Nat) (l : List AV) : (renL σ l).length = l.length := by simp [renL_map]
mutual
theorem ren_sup {σ : Nat → Nat} {n m : Nat} (h : ∀ i, i < n → σ i < m) : ∀ v : AV, v.sup ≤ n → (v.ren σ).sup ≤ m
 | .bool _, _ => Nat.zero_le _
 | .int _ _, _ => Nat.zero_le _
 | .str _, _ => Nat.zero_le _
 | .ptr none, _ => Nat.zero_le _
 | .ptr (some p), hs => by simp only [AV.sup, supA] at hs; simp only [AV.ren, renA, AV.sup, supA]; exact h _ (by omega)
 | .slice none _ _, _ => Nat.zero_le _
 | .slice (some p) _ _, hs => by simp only [AV.sup, supA] at hs; simp only [AV.ren, renA, AV.sup, supA]; exact h _ (by omega)
 | .map none, _ => Nat.zero_le _
 | .map (some r), hs => by simp only [AV.sup] at hs; simp only [AV.ren, Option.map_some, AV.sup]; exact h _ (by omega)
 | .fn f a b, hs => by
   simp only [AV.sup] at hs
   have := renL_sup h a (by omega)
   have := renL_sup h b (by omega)
   simp only [AV.ren, AV.sup]; omega
 | .yield l, hs => by simp only [AV.sup] at hs; simp only [AV.ren, AV.sup]; exact h _ (by omega)
 | .nilFunc, _ => Nat.zero_le _
 | .iface t v, hs => by simp only [AV.sup] at hs; simp only [AV.ren, AV.sup]; exact ren_sup h v hs
 | .nilIface, _ => Nat.zero_le _
 | .agg cs, hs => by simp only [AV.sup] at hs; simp only [AV.ren, AV.sup]; exact renL_sup h cs hs
 | .tuple vs, hs => by simp only [AV.sup] at hs; simp only [AV.ren, AV.sup]; exact renL_sup h vs hs
theorem renL_sup {σ : Nat → Nat} {n m : Nat} (h : ∀ i, i < n → σ i < m) : ∀ l : List AV, supL l ≤ n → supL (renL σ l) ≤ m
 | [], _ => Nat.zero_le _
 | v :: r, hs => by
   simp only [supL] at hs
   have := ren_sup h v (by omega)
   have := renL_sup h r (by omega)
   simp only [renL, supL]; omega
end
def renT (σ : Nat → Nat) (l : List (Nat × AV)) : List (Nat × AV) := l.map fun kv => (kv.1, kv.2.ren σ)
def renE (σ : Nat → Nat) (l : List (AV × AV × Nat)) : List (AV × AV × Nat) := l.map fun e => (e.1.ren σ, e.2.1.ren σ, e.2.2)
def Chunk.ren (σ : Nat → Nat) : Chunk → Chunk
 | .ro cs => .ro (renL σ cs)
 | .own cs => .own (renL σ cs)
 | .grow e cs => .grow e (renL σ cs)
 | .map es cl => .map (renE σ es) cl
 | .siter s p => .siter s p
 | .loop st pd ts nt ps a b m => .loop st pd (renT σ ts) nt ps a b (σ m)
 | .mark => .mark
theorem Chunk.ren_ro (σ : Nat → Nat) (c : Chunk) : (c.ren σ).isRo = c.isRo := by cases c <;> rfl
theorem lk_renT {σ : Nat → Nat} : ∀ {l : List (Nat × AV)} {k : Nat}, lk (renT σ l) k = (lk l k).map (AV.ren σ)
 | [], _ => rfl
 | kv :: r, k => by
   simp only [renT, List.map_cons, lk]
   split
   · rfl
   · exact lk_renT
theorem Real.ren {ρ : Ren} {σ : Nat → Nat} {id : Nat} {w : World} {c : Chunk} (h : Real (ρ.comp σ) id w c) : Real ρ (σ id) w (c.ren σ) := by
 cases c with
 | ro cs =>
   refine ⟨h.1, fun i v hv => ?_⟩
   rw [renL_get, Option.map_eq_some_iff] at hv
   obtain ⟨u, h1, rfl⟩ := hv
   rw [conc_ren]; exact h.2 i u h1
 | own cs => obtain ⟨h0, e, h⟩ := h; exact ⟨h0, e, by rw [concL_ren]; exact h⟩
 | grow e cs =>
   obtain ⟨h0, e', arr, h1, h2, h3, h4⟩ := h
   refine ⟨h0, e', arr, h1, h2, by simpa using h3, fun i v hv => ?_⟩
   rw [renL_get, Option.map_eq_some_iff] at hv
   obtain ⟨u, h5, rfl⟩ := hv
   rw [conc_ren]; exact h4 i u h5
 | map es cl =>
   refine ⟨h.1, ?_⟩
   rw [show ρ.blk (σ id) = (ρ.comp σ).blk id from rfl, h.2]
   congr 3
   simp only [renE, List.map_map]
   apply List.map_congr_left
   intro x _
   simp only [Function.comp, conc_ren]
 | siter _ _ => exact h
 | loop st pd ts nt ps a b m =>
   obtain ⟨h0, f, t, h1, h2⟩ := h
   refine ⟨h0, f, t, ⟨h1.1, fun k v hk => ?_⟩, h2⟩
   rw [lk_renT, Option.map_eq_some_iff] at hk
   obtain ⟨u, h5, rfl⟩ := hk
   rw [conc_ren]; exact h1.2 k u h5
 | mark => exact h
theorem Real.unren {ρ : Ren} {σ : Nat → Nat} {id : Nat} {w : World} {c : Chunk} (h : Real ρ (σ id) w (c.ren σ)) : Real (ρ.comp σ) id w c := by
 cases c with
 | ro cs =>
   refine ⟨h.1, fun i v hv => ?_⟩
   have := h.2 i (v.ren σ) (by rw [renL_get, hv]; rfl)
   rw [conc_ren] at this; exact this
 | own cs => obtain ⟨h0, e, h⟩ := h; exact ⟨h0, e, by rw [concL_ren] at h; exact h⟩
 | grow e cs =>
   obtain ⟨h0, e', arr, h1, h2, h3, h4⟩ := h
   refine ⟨h0, e', arr, h1, h2, by simpa using h3, fun i v hv => ?_⟩
   have := h4 i (v.ren σ) (by rw [renL_get, hv]; rfl)
   rw [conc_ren] at this; exact this
 | map es cl =>
   refine ⟨h.1, ?_⟩
   rw [show (ρ.comp σ).blk id = ρ.blk (σ id) from rfl, h.2]
   congr 3
   simp only [renE, List.map_map]
   apply List.map_congr_left
   intro x _
   simp only [Function.comp, conc_ren]
 | siter _ _ => exact h
 | loop st pd ts nt ps a b m =>
   obtain ⟨h0, f, t, h1, h2⟩ := h
   refine ⟨h0, f, t, ⟨h1.1, fun k v hk => ?_⟩, h2⟩
   have := h1.2 k (v.ren σ) (by rw [lk_renT, hk]; rfl)
   rw [conc_ren] at this; exact this
 | mark => exact h
theorem supT_ren {σ : Nat → Nat} {n m : Nat} (h : ∀ i, i < n → σ i < m) : ∀ l : List (Nat × AV), supT l ≤ n → supT (renT σ l) ≤ m
 | [], _ => Nat.zero_le _
 | kv :: r, hs => by
   simp only [supT] at hs
   have := ren_sup h kv.2 (by omega)
   have := supT_ren h r (by omega)
   simp only [renT, List.map_cons, supT] at this ⊢; omega
theorem supE_ren {σ : Nat → Nat} {n m : Nat} (h : ∀ i, i < n → σ i < m) : ∀ l : List (AV × AV × Nat), supE l ≤ n → supE (renE σ l) ≤ m
 | [], _ => Nat.zero_le _
 | e :: r, hs => by
   simp only [supE] at hs
   have := ren_sup h e.1 (by omega)
   have := ren_sup h e.2.1 (by omega)
   have := supE_ren h r (by omega)
   simp only [renE, List.map_cons, supE] at this ⊢; omega
theorem Chunk.ren_sup {σ : Nat → Nat} {n m : Nat} (h : ∀ i, i < n → σ i < m) {c : Chunk} (hs : c.sup ≤ n) : (c.ren σ).sup ≤ m := by
 cases c with
 | ro cs => exact renL_sup h cs hs
 | own cs => exact renL_sup h cs hs
 | grow e cs => exact renL_sup h cs hs
 | map es cl => exact supE_ren h es hs
 | siter _ _ => exact Nat.zero_le _
 | loop st pd ts nt ps a b mm =>
   simp only [Chunk.sup] at hs
   have := supT_ren h ts (by omega)
   have := h mm (by omega)
   simp only [Chunk.ren, Chunk.sup]; omega
 | mark => exact Nat.zero_le _
structure Emb (σ : Nat → Nat) (h g : AH) : Prop where
 lt : ∀ i, i < h.next → σ i < g.next
 get : ∀ i c, h.get i = some c → g.get (σ i) = some (c.ren σ)
 inj : ∀ i j, (∃ c, h.get i = some c) → (∃ c, h.get j = some c) → σ i = σ j → i = j
theorem Emb.rel {σ : Nat → Nat} {h g : AH} (e : Emb σ h g) {ρ : Ren} {w : World} (hr : HRel ρ g w) : HRel (ρ.comp σ) h w := by
 refine ⟨fun i c hc => (hr.1 _ _ (e.get i c hc)).unren, fun i j ci cj hne hi hj hro => ?_⟩
 exact hr.2 (σ i) (σ j) _ _ (fun h => hne (e.inj i j ⟨_, hi⟩ ⟨_, hj⟩ h)) (e.get i ci hi) (e.get j cj hj) (by rw [Chunk.ren_ro]; exact hro)
def ext (σ : Nat → Nat) (n m : Nat) (i : Nat) : Nat := if i < n then σ i else m + (i - n)
open Classical in
noncomputable def after (σ : Nat → Nat) (h h' g : AH) : AH :=
 ⟨g.next + (h'.next - h.next), fun k => if g.next ≤ k then (h'.get (h.next + (k - g.next))).map (Chunk.ren (ext σ h.next g.next)) else
  if hi : ∃ i c, h.get i = some c ∧ σ i = k then (h'.get hi.choose).map (Chunk.ren (ext σ h.next g.next)) else g.get k⟩
theorem after_old {σ : Nat → Nat} {h h' g : AH} (e : Emb σ h g) (hw : h.wf) {i : Nat} {c : Chunk} (hi : h.get i = some c) : (after σ h h' g).get (σ i) = (h'.get i).map (Chunk.ren (ext σ h.next g.next)) := by
 have hlt := e.lt i (hw i c hi).1
 have hex : ∃ j c, h.get j = some c ∧ σ j = σ i := ⟨i, c, hi, rfl⟩
 simp only [after]
 rw [if_neg (by omega), dif_pos hex]
 have hs := hex.choose_spec
 obtain ⟨c', h1, h2⟩ := hs
 rw [e.inj _ _ ⟨c', h1⟩ ⟨c, hi⟩ h2]
theorem after_new {σ : Nat → Nat} {h h' g : AH} {i : Nat} (hi : h.next ≤ i) : (after σ h h' g).get (g.next + (i - h.next)) = (h'.get i).map (Chunk.ren (ext σ h.next g.next)) := by
 simp only [after]
 rw [if_pos (by omega), show h.next + (g.next + (i - h.next) - g.next) = i by omega]
theorem after_else {σ : Nat → Nat} {h h' g : AH} {k : Nat} (hk : k < g.next) (hno : ∀ i c, h.get i = some c → σ i ≠ k) : (after σ h h' g).get k = g.get k := by
 simp only [after]
 rw [if_neg (by omega), dif_neg]
 rintro ⟨i, c, h1, h2⟩
 exact hno i c h1 h2
theorem after_cases {σ : Nat → Nat} {h h' g : AH} (e : Emb σ h g) (hw : h.wf) {k : Nat} {c : Chunk} (hc : (after σ h h' g).get k = some c) :
 (∃ i ci, h'.get i = some ci ∧ k = ext σ h.next g.next i ∧ c = ci.ren (ext σ h.next g.next) ∧ (i < h.next → ∃ c0, h.get i = some c0)) ∨ (g.get k = some c ∧ k < g.next ∧ ∀ i c, h.get i = some c → σ i ≠ k) := by
 by_cases hk : g.next ≤ k
 · left
   have hnew := after_new (σ := σ) (h := h) (h' := h') (g := g) (i := h.next + (k - g.next)) (by omega)
   rw [show g.next + (h.next + (k - g.next) - h.next) = k by omega, hc] at hnew
   cases hg : h'.get (h.next + (k - g.next)) with
   | none => rw [hg] at hnew; cases hnew
   | some ci =>
     rw [hg] at hnew
     simp only [Option.map_some, Option.some.injEq] at hnew
     exact ⟨_, ci, hg, by simp only [ext]; rw [if_neg (by omega)]; omega, hnew, fun h => by omega⟩
 · by_cases hex : ∃ i c, h.get i = some c ∧ σ i = k
   · obtain ⟨i, c0, h1, rfl⟩ := hex
     left
     rw [after_old e hw h1] at hc
     cases hg : h'.get i with
     | none => rw [hg] at hc; cases hc
     | some ci =>
       rw [hg] at hc
       simp only [Option.map_some, Option.some.injEq] at hc
       exact ⟨i, ci, hg, by simp only [ext]; rw [if_pos (hw i c0 h1).1], hc.symm, fun _ => ⟨c0, h1⟩⟩
   · right
     have hno : ∀ i c, h.get i = some c → σ i ≠ k := fun i c h1 h2 => hex ⟨i, c, h1, h2⟩
     rw [after_else (by omega) hno] at hc
     exact ⟨hc, by omega, hno⟩
def AEnd.ren (σ : Nat → Nat) : AEnd → AEnd
 | .ret v => .ret (v.ren σ)
 | .panic v => .panic (v.ren σ)
theorem Rend.trans {σ : Nat → Nat} {h g h' : AH} (em : Emb σ h g) (hw : h.wf) (gw : g.wf) (hw' : h'.wf) (hn : h.next ≤ h'.next) {ρ : Ren} {w : World} {e : AEnd} {e' : Ending} {w' : World} (hr : HRel ρ g w)
 (hx : Rend (ρ.comp σ) h w e h' e' w') : Rend ρ g w (e.ren (ext σ h.next g.next)) (after σ h h' g) e' w' := by
 obtain ⟨ρ1, he, hr1, ⟨f1, f4, f5, f6, f7, f8⟩⟩ := hx
 let ρ' : Ren := ⟨fun k => if k < g.next then ρ.blk k else ρ1.blk (h.next + (k - g.next)), fun k => if k < g.next then ρ.off k else ρ1.off (h.next + (k - g.next)), fun k => if k < g.next then ρ.cap k else ρ1.cap (h.next + (k - g.next))⟩
 let τ := ext σ h.next g.next
 have hext : ρ.ext ρ' g.next := fun k hk => by simp only [ρ', hk, if_true, and_self]
 have hcomp : ∀ i, (ρ'.comp τ).blk i = ρ1.blk i ∧ (ρ'.comp τ).off i = ρ1.off i ∧ (ρ'.comp τ).cap i = ρ1.cap i := fun i => by
  simp only [Ren.comp, τ, ext]
  by_cases hi : i < h.next
  · simp only [if_pos hi]
    have := em.lt i hi
    obtain ⟨q1, q2, q3⟩ := f7 i hi
    simp only [ρ', this, if_true]
    exact ⟨q1.symm, q2.symm, q3.symm⟩
  · simp only [if_neg hi, ρ']
    rw [if_neg (by omega), if_neg (by omega), if_neg (by omega), show h.next + (g.next + (i - h.next) - g.next) = i by omega]
    exact ⟨rfl, rfl, rfl⟩
 have hcx : ∀ n, ρ1.ext (ρ'.comp τ) n := fun n i _ => hcomp i
 have hreal1 : ∀ i c, h'.get i = some c → Real ρ' (τ i) w' (c.ren τ) := fun i c hc => ((hr1.1 i c hc).ext (hcx h'.next) (hw' i c hc).1 (hw' i c hc).2).ren
 have hkeep : ∀ k c, g.get k = some c → (∀ i c, h.get i = some c → σ i ≠ k) → w'.heap[ρ.blk k]? = w.heap[ρ.blk k]? := fun k c hc hno => by
  refine f5 _ (hr.1 k c hc).lt fun id ci hid hro he => ?_
  exact hr.2 (σ id) k _ c (hno id ci hid) (em.get id ci hid) hc (by rw [Chunk.ren_ro]; exact hro) he
 have hblk : ∀ k, k < g.next → ρ'.blk k = ρ.blk k := fun k hk => (hext k hk).1
 refine ⟨ρ', ?_, ⟨fun k c hc => ?_, fun k l ck cl hne hk hl hro => ?_⟩, f1, f4, fun B hB hno => ?_, fun k c hc => ?_, hext, by simp only [after]; omega⟩
 · subst he
   cases e with
   | ret v =>
     simp only [AEnd.conc, AEnd.ren]
     rw [conc_ren, conc_ext (hcx v.sup) v (Nat.le_refl _)]
   | panic v =>
     simp only [AEnd.conc, AEnd.ren]
     rw [conc_ren, conc_ext (hcx v.sup) v (Nat.le_refl _)]
 · rcases after_cases em hw hc with ⟨i, ci, h1, rfl, rfl, _⟩ | ⟨h1, h2, h3⟩
   · exact hreal1 i ci h1
   · exact ((hr.1 k c h1).congr (hkeep k c h1 h3)).ext hext h2 (gw k c h1).2
 ·
  have out : ∀ i ci l cl, h'.get i = some ci → (i < h.next → ∃ c0, h.get i = some c0) → g.get l = some cl → l < g.next → (∀ i c, h.get i = some c → σ i ≠ l) → (ci.isRo = false ∨ cl.isRo = false) → ρ'.blk (τ i) ≠ ρ'.blk l := by
   intro i ci l cl h1 _ h3 h4 h5 hro he
   rw [show ρ'.blk (τ i) = ρ1.blk i from (hcomp i).1, hblk l h4] at he
   have hlt := (hr.1 l cl h3).lt
   rcases f6 i ci h1 with h6 | ⟨id0, c0, h6, h7, h8⟩
   · omega
   · have hne := h5 id0 c0 h6
     have h8 : ρ.blk (σ id0) = ρ1.blk i := h8
     rcases hro with hro | hro
     · exact hr.2 (σ id0) l _ cl hne (em.get id0 c0 h6) h3 (by rw [Chunk.ren_ro]; exact h7 hro) (h8.trans he)
     · exact hr.2 l (σ id0) cl _ (Ne.symm hne) h3 (em.get id0 c0 h6) hro (he.symm.trans h8.symm)
  rcases after_cases em hw hk with ⟨i, ci, h1, rfl, rfl, h2⟩ | ⟨h1, h2, h3⟩
  · rcases after_cases em hw hl with ⟨j, cj, k1, rfl, rfl, k2⟩ | ⟨k1, k2, k3⟩
    · rw [show ρ'.blk (ext σ h.next g.next i) = ρ1.blk i from (hcomp i).1, show ρ'.blk (ext σ h.next g.next j) = ρ1.blk j from (hcomp j).1]
      rw [Chunk.ren_ro] at hro
      exact hr1.2 i j ci cj (fun h => hne (by rw [h])) h1 k1 hro
    · rw [Chunk.ren_ro] at hro
      exact out i ci l cl h1 h2 k1 k2 k3 (.inl hro)
  · rcases after_cases em hw hl with ⟨j, cj, k1, rfl, rfl, k2⟩ | ⟨k1, k2, k3⟩
    · exact fun he => out j cj k ck k1 k2 h1 h2 h3 (.inr hro) he.symm
    · rw [hblk k h2, hblk l k2]
      exact hr.2 k l ck cl hne h1 k1 hro
 · exact f5 B hB fun id c hid hro he => hno (σ id) _ (em.get id c hid) (by rw [Chunk.ren_ro]; exact hro) he
 · rcases after_cases em hw hc with ⟨i, ci, h1, rfl, rfl, h2⟩ | ⟨h1, h2, h3⟩
   · rw [show ρ'.blk (ext σ h.next g.next i) = ρ1.blk i from (hcomp i).1]
     rcases f6 i ci h1 with h6 | ⟨id0, c0, h6, h7, h8⟩
     · exact .inl h6
     · exact .inr ⟨σ id0, _, em.get id0 c0 h6, fun hro => by rw [Chunk.ren_ro] at hro ⊢; exact h7 hro, h8⟩
   · exact .inr ⟨k, c, h1, fun h => h, (hblk k h2).symm⟩
theorem after_wf {σ : Nat → Nat} {h g h' : AH} (em : Emb σ h g) (hw : h.wf) (gw : g.wf) (hw' : h'.wf) (hn : h.next ≤ h'.next) : (after σ h h' g).wf := by
 have hτ : ∀ i, i < h'.next → ext σ h.next g.next i < (after σ h h' g).next := fun i hi => by
  simp only [ext, after]
  split
  · rename_i h1; have := em.lt i h1; omega
  · omega
 intro k c hc
 rcases after_cases em hw hc with ⟨i, ci, h1, rfl, rfl, _⟩ | ⟨h1, h2, _⟩
 · exact ⟨hτ i (hw' i ci h1).1, Chunk.ren_sup hτ (hw' i ci h1).2⟩
 · have := gw k c h1
   have : g.next ≤ (after σ h h' g).next := by simp only [after]; omega
   omega
section
variable {P : Program} {σ : Nat → Nat} {h g : AH}
theorem JCall_trans {f : FuncId} {args : List AV} {Q : AEnd → AH → Prop} (hc : JCall P f args h Q) (em : Emb σ h g) (hw : h.wf) (hs : supL args ≤ h.next) :
 JCall P f (renL σ args) g (fun e2 g2 => ∃ e h', Q e h' ∧ h'.wf ∧ h.next ≤ h'.next ∧ e.sup ≤ h'.next ∧ e2 = e.ren (ext σ h.next g.next) ∧ g2 = after σ h h' g) := by
 intro gw gs
 obtain ⟨e, h', a1, a2, a3, a4, a5⟩ := hc hw hs
 have hτ : ∀ i, i < h'.next → ext σ h.next g.next i < (after σ h h' g).next := fun i hi => by
  simp only [ext, after]
  split
  · rename_i h1; have := em.lt i h1; omega
  · omega
 refine ⟨e.ren (ext σ h.next g.next), after σ h h' g, after_wf em hw gw a1 a3, ?_, by simp only [after]; omega, ⟨e, h', a4, a1, a3, a2, rfl, rfl⟩, fun ρ w n hr => ?_⟩
 · cases e with
   | ret v => exact ren_sup hτ v a2
   | panic v => exact ren_sup hτ v a2
 · have := a5 (ρ.comp σ) w n (em.rel hr)
   rw [concL_ren]
   exact this.mono fun e' w' hx => hx.trans em hw gw a1 a3 hr
theorem JApp_trans {fv : AV} {args : List AV} {Q : AEnd → AH → Prop} (hc : JApp P fv args h Q) (em : Emb σ h g) (hw : h.wf) (hf : fv.sup ≤ h.next) (hs : supL args ≤ h.next) :
 JApp P (fv.ren σ) (renL σ args) g (fun e2 g2 => ∃ e h', Q e h' ∧ h'.wf ∧ h.next ≤ h'.next ∧ e.sup ≤ h'.next ∧ e2 = e.ren (ext σ h.next g.next) ∧ g2 = after σ h h' g) := by
 intro gw gf gs
 obtain ⟨e, h', a1, a2, a3, a4, a5⟩ := hc hw hf hs
 have hτ : ∀ i, i < h'.next → ext σ h.next g.next i < (after σ h h' g).next := fun i hi => by
  simp only [ext, after]
  split
  · rename_i h1; have := em.lt i h1; omega
  · omega
 refine ⟨e.ren (ext σ h.next g.next), after σ h h' g, after_wf em hw gw a1 a3, ?_, by simp only [after]; omega, ⟨e, h', a4, a1, a3, a2, rfl, rfl⟩, fun ρ w n hr => ?_⟩
 · cases e with
   | ret v => exact ren_sup hτ v a2
   | panic v => exact ren_sup hτ v a2
 · have := a5 (ρ.comp σ) w n (em.rel hr)
   rw [concL_ren, conc_ren]
   revert this
   generalize ((do let d ← Deferred.ofValue (conc (ρ.comp σ) fv) (concL (ρ.comp σ) args).toArray; invoke d.target d.args).run P w) = res
   intro this
   cases res with
   | halt ht w' => exact this
   | ok nx w' =>
     cases nx <;> first
      | exact (this : False).elim
      | exact (show CallsIn _ _ _ _ _ _ _ from this).mono fun e' w' hx => hx.trans em hw gw a1 a3 hr
      | exact (show RoundIn _ _ _ _ _ _ _ _ _ _ from this).mono fun e' w' hx => hx.trans em hw gw a1 a3 hr
      | exact this
end
def fieldsTy (g : TypeId → Option (List Ty)) (P : Program) : Nat → List Field → Option (List Ty)
 | _, [] => some []
 | off, f :: r => if f.offset = off then (g f.type).bind fun a => if a.length = P.cellsOf f.type then (fieldsTy g P (off + a.length) r).map fun b => a ++ b else none else none
def repTy (a : List Ty) : Nat → List Ty
 | 0 => []
 | n + 1 => a ++ repTy a n
theorem repTy_length (a : List Ty) : ∀ n, (repTy a n).length = n * a.length
 | 0 => by simp [repTy]
 | n + 1 => by simp [repTy, repTy_length a n, Nat.add_mul]; omega
def tysOf (P : Program) : Nat → Bool → TypeId → Option (List Ty)
 | 0, _, _ => none
 | k + 1, top, t => match P.underlying t with
   | some .bool => some [.bool]
   | some (.int .i64) => some [.int i64lo i64hi]
   | some .string => some [.str]
   | some (.slice e) => if top then (tysOf P k false e).bind fun es => if es.length = P.cellsOf e ∧ 0 < es.length then some [.sl es] else none else none
   | some (.struct fs) => (fieldsTy (tysOf P k top) P 0 fs.toList).bind fun l => if l.length = P.cellsOf t then some l else none
   | some (.array n e) => (tysOf P k top e).bind fun es => if es.length = P.cellsOf e ∧ n * es.length = P.cellsOf t then some (repTy es n) else none
   | _ => none
mutual
def bulk {H : Type} : DataW H → Nat
 | .lit (.string bytes) => bytes.length + 1
 | .lit _ => 1
 | .nil => 1
 | .ptr d => bulk d + 1
 | .slice elems spare => bulkL elems + bulkL spare + 1
 | .agg parts => bulkL parts + 1
 | .iface _ d => bulk d + 1
 | .map _ => 1
 | .held _ => 1
def bulkL {H : Type} : List (DataW H) → Nat
 | [] => 0
 | d :: r => bulk d + bulkL r
end
theorem bulk_pos {H : Type} (d : DataW H) : 0 < bulk d := by
 unfold bulk
 split <;> omega
theorem bulkL_get {H : Type} : ∀ {l : List (DataW H)} {i : Nat} {d : DataW H}, l[i]? = some d → bulk d ≤ bulkL l
 | [], i, d, h => by simp at h
 | x :: l, 0, d, h => by simp at h; subst h; simp only [bulkL]; omega
 | x :: l, i + 1, d, h => by
   have := bulkL_get (l := l) (i := i) (d := d) (by simpa using h)
   simp only [bulkL]; omega
theorem bulkL_length {H : Type} : ∀ (l : List (DataW H)), l.length ≤ bulkL l
 | [] => Nat.zero_le _
 | x :: l => by
   have := bulkL_length l
   have := bulk_pos x
   simp only [bulkL, List.length_cons]; omega
def AllRo (h : AH) : Prop := ∀ i c, h.get i = some c → c.isRo = true
def Reads (w : World) (ts : List Ty) (cs : List Value) : Prop :=
 ∀ ρ h, HRel ρ h w → AllRo h → h.wf → ∃ ρ' h' avs, HRel ρ' h' w ∧ AllRo h' ∧ h'.wf ∧ Le h h' ∧ ρ.ext ρ' h.next ∧ concL ρ' avs = cs ∧ supL avs ≤ h'.next ∧ okL h' ts avs
theorem okL_append {h : AH} : ∀ {a b : List Ty} {l m : List AV}, okL h a l → okL h b m → okL h (a ++ b) (l ++ m)
 | [], b, l, m, h1, h2 => by simp only [okL] at h1; subst h1; simpa using h2
 | t :: a, b, l, m, h1, h2 => by
   simp only [okL] at h1
   obtain ⟨v, r, rfl, h3, h4⟩ := h1
   exact ⟨v, r ++ m, rfl, h3, okL_append h4 h2⟩
theorem Reads.nil {w : World} : Reads w [] [] := fun ρ h a b c => ⟨ρ, h, [], a, b, c, .refl _, .refl _ _, rfl, Nat.zero_le _, rfl⟩
theorem Reads.append {w : World} {a b : List Ty} {l m : List Value} (h1 : Reads w a l) (h2 : Reads w b m) : Reads w (a ++ b) (l ++ m) := by
 intro ρ h p q r
 obtain ⟨ρ1, h1', avs, a1, a2, a3, a4, a5, a6, a7, a8⟩ := h1 ρ h p q r
 obtain ⟨ρ2, h2', bvs, b1, b2, b3, b4, b5, b6, b7, b8⟩ := h2 ρ1 h1' a1 a2 a3
 refine ⟨ρ2, h2', avs ++ bvs, b1, b2, b3, a4.trans b4, a5.trans b5 a4.next, ?_, ?_, okL_append (a8.le b4) b8⟩
 · rw [concL_append, concL_ext b5 avs a7, a6, b6]
 · have := b4.next
   rw [supL_append]; omega
theorem Reads.lit {w : World} {t : Ty} {v : Value} {a : AV} (hc : ∀ ρ, conc ρ a = v) (hs : a.sup = 0) (ho : ∀ h, okV h t a) : Reads w [t] [v] := fun ρ h p q r =>
 ⟨ρ, h, [a], p, q, r, .refl _, .refl _ _, by simp [concL, hc], by simp [supL, hs], a, [], rfl, ho h, rfl⟩
theorem Reads.many {w : World} {es : List Ty} : ∀ (l : List (List Value)), (∀ cs ∈ l, Reads w es cs) → ∀ ρ h, HRel ρ h w → AllRo h → h.wf →
 ∃ ρ' h' avss, HRel ρ' h' w ∧ AllRo h' ∧ h'.wf ∧ Le h h' ∧ ρ.ext ρ' h.next ∧ concL ρ' (List.flatten avss) = l.flatten ∧ supL (List.flatten avss) ≤ h'.next ∧ avss.length = l.length ∧ ∀ x ∈ avss, okL h' es x
 | [], _, ρ, h, p, q, r => ⟨ρ, h, [], p, q, r, .refl _, .refl _ _, rfl, Nat.zero_le _, rfl, fun x hx => by simp at hx⟩
 | c :: l, hl, ρ, h, p, q, r => by
   obtain ⟨ρ1, h1', avs, a1, a2, a3, a4, a5, a6, a7, a8⟩ := hl c (List.mem_cons_self ..) ρ h p q r
   obtain ⟨ρ2, h2', avss, b1, b2, b3, b4, b5, b6, b7, b8, b9⟩ := Reads.many l (fun cs hc => hl cs (List.mem_cons_of_mem _ hc)) ρ1 h1' a1 a2 a3
   refine ⟨ρ2, h2', avs :: avss, b1, b2, b3, a4.trans b4, a5.trans b5 a4.next, ?_, ?_, by simp [b8], ?_⟩
   · rw [List.flatten_cons, List.flatten_cons, concL_append, concL_ext b5 avs a7, a6, b6]
   · have := b4.next
     rw [List.flatten_cons, supL_append]; omega
   · intro x hx
     rcases List.mem_cons.1 hx with rfl | hx
     · exact a8.le b4
     · exact b9 x hx
theorem flatten_cut {α : Type} {m : Nat} : ∀ {l : List (List α)}, (∀ x ∈ l, x.length = m) → ∀ {i : Nat} {x : List α}, l[i]? = some x → (l.flatten.drop (i * m)).take m = x
 | [], _, i, x, h => by simp at h
 | y :: l, hl, 0, x, h => by
   simp at h; subst h
   have := hl y (List.mem_cons_self ..)
   simp [← this]
 | y :: l, hl, i + 1, x, h => by
   have hy := hl y (List.mem_cons_self ..)
   rw [List.flatten_cons, Nat.add_mul, Nat.one_mul, Nat.add_comm (i * m), ← List.drop_drop, ← hy, List.drop_left, hy]
   exact flatten_cut (fun z hz => hl z (List.mem_cons_of_mem _ hz)) (by simpa using h)
theorem flatten_len {α : Type} {m : Nat} : ∀ {l : List (List α)}, (∀ x ∈ l, x.length = m) → l.flatten.length = l.length * m
 | [], _ => by simp
 | y :: l, hl => by
   rw [List.flatten_cons, List.length_append, hl y (List.mem_cons_self ..), flatten_len (fun z hz => hl z (List.mem_cons_of_mem _ hz)), List.length_cons, Nat.add_mul]; omega
theorem flatten_at {α : Type} {m : Nat} (hm : 0 < m) : ∀ {l : List (List α)}, (∀ x ∈ l, x.length = m) → ∀ (i : Nat), l.flatten[i]? = (l[i / m]?).bind fun x => x[i % m]?
 | [], _, i => by simp
 | y :: l, hl, i => by
   have hy := hl y (List.mem_cons_self ..)
   rw [List.flatten_cons]
   by_cases c : i < m
   · rw [List.getElem?_append_left (by omega), Nat.div_eq_of_lt c, Nat.mod_eq_of_lt c]; rfl
   · rw [List.getElem?_append_right (by omega), hy, flatten_at hm (fun z hz => hl z (List.mem_cons_of_mem _ hz))]
     have e : i = (i - m) + m := by omega
     have e1 : i / m = (i - m) / m + 1 := by
      conv => lhs; rw [e]
      exact Nat.add_div_right _ hm
     have e2 : i % m = (i - m) % m := by
      conv => lhs; rw [e]
      exact Nat.add_mod_right _ _
     rw [e1, e2]; rfl
def AH.addRo (h : AH) (cs : List AV) : AH := ⟨h.next + 1, fun i => if i = h.next then some (.ro cs) else h.get i⟩
def Ren.at (ρ : Ren) (n : Nat) (a : Addr) : Ren := ⟨fun i => if i = n then a.block else ρ.blk i, fun i => if i = n then a.off else ρ.off i, ρ.cap⟩
theorem Reads.slice {w : World} {es : List Ty} {a : Addr} {len cap : Nat} {l : List (List Value)} (hsp : a.spot = none) (hn : l.length = len) (hcap : len ≤ cap) (hmax : len ≤ 1048576) (hpos : 0 < es.length) (hl : ∀ cs ∈ l, cs.length = es.length ∧ Reads w es cs)
 (hcell : ∀ i, i < len * es.length → w.cell? ⟨a.block, a.off + i, none⟩ = l.flatten[i]?) : Reads w [.sl es] [.slice (some a) len cap] := by
 intro ρ h p q r
 rcases Nat.eq_zero_or_pos len with rfl | hpl
 ·
  refine ⟨ρ.at h.next a, ⟨h.next + 1, h.get⟩, [.slice (some (h.next, 0)) 0 (.exact cap)], ?_, q, fun i c hc => ?_, ⟨by simp, fun j c hj => hj⟩, ?_, ?_, by simp [supL, AV.sup, supA], _, [], rfl, ⟨_, _, _, rfl, hcap, by omega, .zero⟩, rfl⟩
  · refine ⟨fun id c hc => Real.ext (n := h.next) (p.1 id c hc) (fun i hi => ?_) (r id c hc).1 (r id c hc).2, fun i j ci cj _ hi hj hro => by rw [q i ci hi] at hro; cases hro⟩
    simp [Ren.at, Nat.ne_of_lt hi]
  · have := r i c hc; exact ⟨Nat.lt_succ_of_lt this.1, Nat.le_succ_of_le this.2⟩
  · intro i hi; simp [Ren.at, Nat.ne_of_lt hi]
  · have : a = ⟨a.block, a.off, none⟩ := by cases a; simp at hsp; simp [hsp]
    simp only [concL, conc, Option.map_some, Ren.addr, Ren.at, if_true, Nat.add_zero, Cap.conc]
    rw [← this]
 · obtain ⟨ρ1, h1, avss, a1, a2, a3, a4, a5, a6, a7, a8, a9⟩ := Reads.many l (fun cs hc => (hl cs hc).2) ρ h p q r
   have hx : ρ1.ext (ρ1.at h1.next a) h1.next := fun i hi => by simp [Ren.at, Nat.ne_of_lt hi]
   have hle : Le h1 (h1.addRo avss.flatten) := ⟨by simp [AH.addRo], fun j c hj => by
    have := (a3 j c hj).1
    simp only [AH.addRo]
    rw [if_neg (by omega)]; exact hj⟩
   have hlen : ∀ x ∈ avss, x.length = es.length := fun x hx => okL_length (a9 x hx)
   refine ⟨ρ1.at h1.next a, h1.addRo avss.flatten, [.slice (some (h1.next, 0)) len (.exact cap)], ⟨fun id c hc => ?_, fun i j ci cj _ hi _ hro => ?_⟩, fun i c hc => ?_, fun i c hc => ?_, a4.trans hle, a5.trans hx a4.next, ?_, ?_, ?_⟩
   · simp only [AH.addRo] at hc
     split at hc
     · rename_i e
       subst e
       cases hc
       refine ⟨?_, fun i v hv => ?_⟩
       · simp only [Ren.at, if_true]
         have hc0 := hcell 0 (Nat.mul_pos hpl hpos)
         obtain ⟨x, hx0⟩ : ∃ x, l.flatten[0]? = some x := by
          have : 0 < l.flatten.length := by rw [flatten_len (fun x hx => (hl x hx).1), hn]; exact Nat.mul_pos hpl hpos
          exact ⟨_, List.getElem?_eq_getElem this⟩
         rw [hx0] at hc0
         simp only [World.cell?] at hc0
         split at hc0
         · rename_i hb
           exact (Array.getElem?_eq_some_iff.1 hb).1
         · cases hc0
       · have hi : i < len * es.length := by
          have := (List.getElem?_eq_some_iff.1 hv).1
          rw [flatten_len hlen, a8, hn] at this; exact this
         have hvs : v.sup ≤ h1.next := sup_get a7 hv
         rw [conc_ext hx v hvs]
         simp only [Ren.at, if_true]
         rw [hcell i hi, ← a6, concL_get, hv, Option.map_some]
     · exact Real.ext (a1.1 id c hc) hx (a3 id c hc).1 (a3 id c hc).2
   · simp only [AH.addRo] at hi
     split at hi
     · cases hi; cases hro
     · rw [a2 i ci hi] at hro; cases hro
   · simp only [AH.addRo] at hc
     split at hc
     · cases hc; rfl
     · exact a2 i c hc
   · simp only [AH.addRo] at hc
     split at hc
     · rename_i e
       cases hc
       refine ⟨by simp [AH.addRo, e], ?_⟩
       simp only [Chunk.sup, AH.addRo]; omega
     · have := a3 i c hc
       exact ⟨Nat.lt_succ_of_lt this.1, Nat.le_succ_of_le this.2⟩
   · have : a = ⟨a.block, a.off, none⟩ := by cases a; simp at hsp; simp [hsp]
     simp only [concL, conc, Option.map_some, Ren.addr, Ren.at, if_true, Nat.add_zero, Cap.conc]
     rw [← this]
   · simp [supL, AV.sup, supA, AH.addRo]
   · refine ⟨_, [], rfl, ⟨_, _, _, rfl, hcap, hmax, fun _ => ⟨h1.next, 0, avss.flatten, rfl, by simp [AH.cells, AH.addRo], ?_, fun i h0 hi => ?_⟩⟩, rfl⟩
     · rw [flatten_len hlen, a8, hn]; omega
     · have hi' : i.toNat < avss.length := by omega
       refine ⟨avss[i.toNat], hlen _ (List.getElem_mem hi'), (a9 _ (List.getElem_mem hi')).le hle, ?_⟩
       rw [Nat.zero_add]
       exact flatten_cut hlen (List.getElem?_eq_getElem hi')
section
variable {H : Type} {enc : TypeId × Value → H} {P : Program} {w : World}
def Plain (top : Bool) (cs : List Value) : Prop := top = true → ∀ a n c, Value.slice (some a) n c ∈ cs → a.spot = none
theorem Plain.part {top : Bool} {cs : List Value} (h : Plain top cs) (i n : Nat) : Plain top ((cs.drop i).take n) := fun ht a n c hm => h ht a n c (List.mem_of_mem_drop (List.mem_of_mem_take hm))
theorem fieldsTy_reads {top : Bool} {g : TypeId → Option (List Ty)} {cs : List Value} (hg : ∀ t ts cs', g t = some ts → Plain top cs' → ∀ {n : Nat} {d : DataW H} {ps : List MemPlace}, DataW.trod enc P w 0 (fun _ => true) true n t cs' = some (d, ps) → bulk d ≤ 1048576 → cs'.length = ts.length ∧ Reads w ts cs') (hpl : Plain top cs) :
 ∀ (fs : List Field) (off : Nat) (ts : List Ty) (xs : List (DataW H × List MemPlace)) (n : Nat), fieldsTy g P off fs = some ts →
  (∀ (i : Nat) (f : Field), fs[i]? = some f → DataW.trod enc P w 0 (fun _ => true) true n f.type ((cs.drop f.offset).take (P.cellsOf f.type)) = xs[i]?) → fs.length ≤ xs.length → (∀ x ∈ xs, bulk x.1 ≤ 1048576) →
  ((cs.drop off).take ts.length).length = ts.length ∧ Reads w ts ((cs.drop off).take ts.length)
 | [], off, ts, xs, n, h, _, _, _ => by simp only [fieldsTy, Option.some.injEq] at h; subst h; exact ⟨by simp, by simpa using Reads.nil⟩
 | f :: fs, off, ts, xs, n, h, hx, hlen, hb => by
   simp only [fieldsTy] at h
   split at h
   · rename_i ho
     obtain ⟨a, h1, h2⟩ := Option.bind_eq_some_iff.1 h
     split at h2
     · rename_i hal
       obtain ⟨b, h3, rfl⟩ := Option.map_eq_some_iff.1 h2
       cases xs with
       | nil => simp at hlen
       | cons x xs =>
         have hx0 := hx 0 f rfl
         simp only [List.getElem?_cons_zero] at hx0
         rw [ho, ← hal] at hx0
         have r1 := hg f.type a ((cs.drop off).take a.length) h1 (hpl.part _ _) (d := x.1) (ps := x.2) hx0 (hb x (List.mem_cons_self ..))
         have r2 := fieldsTy_reads hg hpl fs (off + a.length) b xs n h3 (fun i f' hf => by simpa using hx (i + 1) f' (by simpa using hf)) (by simpa using hlen) (fun y hy => hb y (List.mem_cons_of_mem _ hy))
         have e : (cs.drop off).take (a ++ b).length = (cs.drop off).take a.length ++ (cs.drop (off + a.length)).take b.length := by
          rw [List.length_append, List.take_add, List.drop_drop]
         rw [e]
         exact ⟨by rw [List.length_append, List.length_append, r1.1, r2.1], r1.2.append r2.2⟩
     · cases h2
   · cases h
theorem rep_reads {es : List Ty} {cs : List Value} : ∀ (n off : Nat), (∀ i, i < n → Reads w es ((cs.drop (off + i * es.length)).take es.length)) → Reads w (repTy es n) ((cs.drop off).take (n * es.length))
 | 0, off, _ => by simpa [repTy] using Reads.nil
 | n + 1, off, h => by
   have r1 := h 0 (by omega)
   have r2 := rep_reads n (off + es.length) (fun i hi => by
    have := h (i + 1) (by omega)
    have e : off + (i + 1) * es.length = off + es.length + i * es.length := by rw [Nat.add_mul, Nat.one_mul]; omega
    rwa [e] at this)
   have e : (cs.drop off).take ((n + 1) * es.length) = (cs.drop off).take es.length ++ (cs.drop (off + es.length)).take (n * es.length) := by
    rw [Nat.add_mul, Nat.one_mul, Nat.add_comm (n * es.length), List.take_add, List.drop_drop]
   rw [e]
   have e0 : off + 0 * es.length = off := by omega
   rw [e0] at r1
   exact r1.append r2
theorem get_of_cells? {base : Nat} {a : Addr} {n : Nat} {cs : List Value} (h : w.cells? base a n = some cs) : cs.length = n ∧ ∀ i, i < n → w.cell? (a.add i) = cs[i]? :=
 ⟨(World.cells?_some h).2.1, fun i hi => (World.cells?_some h).2.2 i hi⟩
theorem reads_of : ∀ (k : Nat) (top : Bool) (t : TypeId) (ts : List Ty) (cs : List Value), tysOf P k top t = some ts → Plain top cs → ∀ {n : Nat} {d : DataW H} {ps : List MemPlace},
 DataW.trod enc P w 0 (fun _ => true) true n t cs = some (d, ps) → bulk d ≤ 1048576 → cs.length = ts.length ∧ Reads w ts cs
 | 0, top, t, ts, cs, h => by simp [tysOf] at h
 | k + 1, top, t, ts, cs, h => by
   intro hpl n d ps hd hb
   simp only [tysOf] at h
   split at h
   · rename_i hu
     cases h
     obtain ⟨b, rfl, _⟩ := DataW.trod_bool hu hd
     exact ⟨rfl, .lit (a := .bool b) (fun _ => rfl) rfl (fun _ => ⟨b, rfl⟩)⟩
   · rename_i hu
     cases h
     obtain ⟨z, rfl, _, hz⟩ := DataW.trod_int hu hd
     simp only [Lit.wf, Bool.and_eq_true, decide_eq_true_eq] at hz
     exact ⟨rfl, .lit (a := .int .i64 z) (fun _ => rfl) rfl (fun _ => ⟨z, rfl, by have := hz.1; simpa [IntKind.min, IntKind.signed, IntKind.bits] using this, by have := hz.2; simpa [IntKind.max, IntKind.signed, IntKind.bits] using this⟩)⟩
   · rename_i hu
     cases h
     obtain ⟨s, rfl, hx, _⟩ := DataW.trod_string hu hd
     cases hx
     simp only [bulk] at hb
     have e : s.data.toList.length = s.size := by rw [Array.length_toList]; rfl
     exact ⟨rfl, .lit (a := .str s) (fun _ => rfl) rfl (fun _ => ⟨s, rfl, by omega⟩)⟩
   · rename_i e hu
     split at h
     · obtain ⟨es, h1, h2⟩ := Option.bind_eq_some_iff.1 h
       split at h2
       · rename_i hes
         cases h2
         rcases DataW.trod_slice hu hd with ⟨rfl, _⟩ | ⟨a, len, cap, elems, rest, m, _, rfl, hx, _, hl, hc, hn, hel, hsp, _⟩
         · exact ⟨rfl, fun ρ h p q r => ⟨ρ, h, [.slice none 0 (.exact 0)], p, q, r, .refl _, .refl _ _, by simp [concL, conc, Cap.conc], by simp [supL, AV.sup, supA], _, [], rfl, ⟨_, _, _, rfl, Nat.le_refl _, by omega, .zero⟩, rfl⟩⟩
         · cases hx
           simp only [bulk] at hb
           have hlen : len ≤ 1048576 := by
            have := bulkL_length (elems.map (·.1))
            rw [List.length_map, hn] at this; omega
           refine ⟨rfl, ?_⟩
           have hspot : a.spot = none := hpl (by assumption) a len cap (by simp)
           have each : ∀ i, i < len → ∃ cs', w.cells? 0 (a.add (i * P.cellsOf e)) (P.cellsOf e) = some cs' ∧ cs'.length = es.length ∧ Reads w es cs' := by
            intro i hi
            have h3 := hel i hi
            rw [List.getElem?_eq_getElem (by omega)] at h3
            obtain ⟨cs', h4, h5⟩ := Option.bind_eq_some_iff.1 h3
            refine ⟨cs', h4, ?_⟩
            have hb' : bulk (elems[i]'(by omega)).1 ≤ 1048576 := by
             have := bulkL_get (l := elems.map (·.1)) (i := i) (d := (elems[i]'(by omega)).1) (by simp [List.getElem?_eq_getElem (show i < elems.length by omega)])
             omega
            exact reads_of k false e es cs' h1 (fun ht => by cases ht) (d := (elems[i]'(by omega)).1) (ps := (elems[i]'(by omega)).2) h5 hb'
           let g : Nat → List Value := fun i => (w.cells? 0 (a.add (i * P.cellsOf e)) (P.cellsOf e)).getD []
           have hm : ∀ x ∈ (List.range len).map g, x.length = es.length ∧ Reads w es x := by
            intro x hx
            obtain ⟨i, hi, rfl⟩ := List.mem_map.1 hx
            obtain ⟨cs', q1, q2, q3⟩ := each i (List.mem_range.1 hi)
            have : g i = cs' := by simp [g, q1]
            rw [this]; exact ⟨q2, q3⟩
           refine Reads.slice (l := (List.range len).map g) hspot (by simp) hl hlen hes.2 hm fun i hi => ?_
           rw [flatten_at hes.2 (fun x hx => (hm x hx).1)]
           have hq : i / es.length < len := Nat.div_lt_of_lt_mul (by rw [Nat.mul_comm]; exact hi)
           have hr : i % es.length < es.length := Nat.mod_lt _ hes.2
           obtain ⟨cs', q1, q2, q3⟩ := each _ hq
           have h6 : ((List.range len).map g)[i / es.length]? = some cs' := by simp [hq, g, q1]
           rw [h6, Option.bind_some]
           have h7 := (get_of_cells? q1).2 (i % es.length) (by rw [← hes.1]; exact hr)
           rw [← h7]
           congr 1
           have e1 := Nat.div_add_mod i es.length
           rw [Nat.mul_comm] at e1
           rw [← hes.1]
           cases a with
           | mk b o sp =>
             simp only at hspot
             subst hspot
             unfold Addr.add
             split <;> split <;> simp_all <;> omega
       · cases h2
     · cases h
   · rename_i fs hu
     obtain ⟨l, h1, h2⟩ := Option.bind_eq_some_iff.1 h
     split at h2
     · rename_i hl
       cases h2
       obtain ⟨xs, m, _, hx, hlen, hxl, hxs⟩ := DataW.trod_struct hu hd
       cases hx
       simp only [bulk] at hb
       have := fieldsTy_reads (fun t ts cs' h3 h4 n d ps h5 h6 => reads_of k top t ts cs' h3 h4 h5 h6) hpl fs.toList 0 ts xs m h1 (fun i f hf => hxs i f (by simpa using hf)) (by simp [hxl]) (fun x hx => by
        obtain ⟨i, hi⟩ := List.getElem?_of_mem hx
        have := bulkL_get (l := xs.map (·.1)) (i := i) (d := x.1) (by simp [hi])
        omega)
       have e : (cs.drop 0).take ts.length = cs := by rw [List.drop_zero, List.take_of_length_le (by omega)]
       rw [e] at this
       exact this
     · cases h2
   · rename_i n' e hu
     obtain ⟨es, h1, h2⟩ := Option.bind_eq_some_iff.1 h
     split at h2
     · rename_i hes
       cases h2
       obtain ⟨xs, m, _, hx, hlen, hxl, hxs⟩ := DataW.trod_array hu hd
       cases hx
       simp only [bulk] at hb
       have hl : cs.length = n' * es.length := by omega
       refine ⟨by rw [repTy_length]; exact hl, ?_⟩
       have := rep_reads (w := w) (es := es) (cs := cs) n' 0 (fun i hi => by
        have h3 := hxs i hi
        rw [List.getElem?_eq_getElem (by omega), ← hes.1] at h3
        have hb' : bulk (xs[i]'(by omega)).1 ≤ 1048576 := by
         have := bulkL_get (l := xs.map (·.1)) (i := i) (d := (xs[i]'(by omega)).1) (by simp [List.getElem?_eq_getElem (show i < xs.length by omega)])
         omega
        rw [Nat.zero_add]
        exact (reads_of k top e es _ h1 (hpl.part _ _) (d := (xs[i]'(by omega)).1) (ps := (xs[i]'(by omega)).2) h3 hb').2)
       have e : (cs.drop 0).take (n' * es.length) = cs := by rw [List.drop_zero, List.take_of_length_le (by omega)]
       rw [e] at this
       exact this
     · cases h2
   · cases h
end
structure Same (W W' : World) : Prop where
 os : W'.os = W.os
 output : W'.output = W.output
 size : W.heap.size ≤ W'.heap.size
 heap : ∀ B, B < W.heap.size → W'.heap[B]? = W.heap[B]?
theorem Same.frozen {W W' : World} (h : Same W W') {b o : Nat} (hb : b < W.heap.size) : W'.frozen? ⟨b, o, none⟩ = W.frozen? ⟨b, o, none⟩ := by
 simp [World.frozen?, h.heap b hb]
theorem Same.at {W W' : World} (h : Same W W') : ∀ {p : MemPlace}, p.block < W.heap.size → W.sameAt W' p
 | .cell b o, hb => by simp only [MemPlace.block] at hb; simp [World.sameAt, World.cell?, h.heap b hb]
 | .map b, hb => by simp only [MemPlace.block] at hb; simp [World.sameAt, h.heap b hb]
theorem Same.kept {W W' : World} (h : Same W W') (may : MemPlace → Prop) : W.keptBut W' may := by
 refine ⟨h.os, h.output, fun i hi => ?_⟩
 rw [h.heap i hi]
 cases W.heap[i]? with
 | none => simp
 | some o => cases o <;> simp
theorem calls_of_J {H : Type} {enc : TypeId × Value → H} {P : Program} {W : World} {f : FuncId} {k n : Nat} {t : TypeId} {ts : List Ty} {cs : Array Value} {d : DataW H} {ps : List MemPlace} (hty : tysOf P k true t = some ts) (hpl : Plain true cs.toList)
 (hd : DataW.trod enc P W 0 (fun _ => true) true n t cs.toList = some (d, ps)) (hb : bulk d ≤ 1048576)
 (hj : ∀ h avs, AllRo h → okL h ts avs → JCall P f [.agg avs] h (fun e _ => e = .ret (.bool true))) :
 Calls P f #[.agg cs] W fun e W' => e = .returned (.bool true) ∧ Same W W' := by
 obtain ⟨ρ, h, avs, a1, a2, a3, _, _, a6, a7, a8⟩ := (reads_of k true t ts cs.toList hty hpl hd hb).2 ⟨fun _ => 0, fun _ => 0, fun _ => 0⟩ ⟨0, fun _ => none⟩ ⟨fun id c hc => (nomatch hc), fun i j ci cj _ hi => (nomatch hi)⟩ (fun i c hc => (nomatch hc)) (fun i c hc => (nomatch hc))
 obtain ⟨e, h', b1, b2, b3, rfl, b5⟩ := hj h avs a2 a8 a3 (by simp only [supL, AV.sup]; omega)
 refine callsIn_wide (n := 0) |>.1 ?_
 have := b5 ρ W 0 a1
 have e1 : (concL ρ [.agg avs]).toArray = #[.agg cs] := by simp [concL, conc, a6]
 rw [e1] at this
 refine this.mono fun e' W' ⟨ρ', he, hr, hf⟩ => ⟨he, hf.1.1, hf.1.2.2, hf.2.1, fun B hB => hf.2.2.1 B hB fun id c hc hro => ?_⟩
 rw [a2 id c hc] at hro; cases hro
def isStruct (P : Program) (t : TypeId) : Bool := match P.underlying t with | some (.struct _) => true | _ => false
theorem plain_of_okWide {P : Program} {W : World} {r : Reach} {base : Nat} {t : TypeId} {v : Value} (hst : isStruct P t = true) (h : Value.okWide P W r base t v) : ∃ cs, v = .agg cs ∧ Plain true cs.toList := by
 obtain ⟨fs, ht⟩ : ∃ fs, P.underlying t = some (.struct fs) := by
  unfold isStruct at hst
  split at hst
  · exact ⟨_, by assumption⟩
  · cases hst
 unfold Value.okWide at h
 rw [ht] at h
 obtain ⟨cs, rfl, _, ts, _, _, h3⟩ := h
 refine ⟨cs, rfl, fun _ a n c hm => ?_⟩
 obtain ⟨i, hi⟩ := List.getElem?_of_mem hm
 obtain ⟨u, _, h5⟩ := h3 i _ (by simpa using hi)
 unfold Cell.okWide at h5
 split at h5 <;> simp_all
 unfold Cell.ok at h5
 split at h5 <;> simp_all
 exact h5.2.2.2.1
open Go.ChangeShapes Go.WideShapes Go.RowKit in
theorem post_law {H : Type} {enc : TypeId × Value → H} {P : Program} {W W' : World} {f : Func} {s : ChangeSpec} {apart fresh handsOn again : Bool} {args : Array Value} {ds gs : List (DataW H)} {before : List MemPlace} {tb : TypeId}
 (hW : DataW.Whole enc P f.params.toList s.vars apart W args.toList ds gs before) (hs : Same W W') (hv : s.vars = []) (hfn : s.fn H (ds ++ gs) = { results := [.lit (.bool true)], args := ds })
 (hr : f.resultTypes = #[tb]) (htb : P.underlying tb = some .bool) (K : Kids P (· < P.types.size)) (hz : ∀ t e, t < P.types.size → P.underlying t = some (.slice e) → 0 < P.cellsOf e) (hlt : ∀ t ∈ f.params.toList, t < P.types.size) :
 s.post enc P f apart fresh handsOn again W args (.bool true) W' := by
 have hW0 := hW
 obtain ⟨p, q, hA, hV, he, hfz, hnd⟩ := hW
 rw [hv] at hV
 obtain ⟨rfl, rfl⟩ := trodVars_none hV
 rw [List.append_nil] at he
 subst he
 have hpb : ∀ x ∈ before, x.block < W.heap.size := fun x hx => hA.lt x hx
 have hA' : DataW.TrodAll enc P W' 0 (fun _ => true) true f.params.toList args.toList ds before := by
  clear hfn hW0 hfz hnd hlt
  revert hA hpb
  generalize f.params.toList = ts, args.toList = vs
  intro hA
  induction ts generalizing vs ds before with
  | nil => intro _; obtain ⟨rfl, rfl, rfl⟩ := trodAll_nil hA; exact trodAll_mk0
  | cons t ts ih =>
    intro hpb
    obtain ⟨v, vs1, d, ds1, a, b, rfl, rfl, rfl, ⟨n, h1⟩, h2⟩ := trodAll_cons hA
    exact ⟨a, b, ⟨n, DataW.trod_carry n t _ _ h1 fun x hx => hs.at (hpb x (List.mem_append_left _ hx))⟩, ih _ h2 (fun x hx => hpb x (List.mem_append_right _ hx)), rfl⟩
 have hargs : ∀ sp : Nat → Bool, (∀ x ∈ before, sp x.block = true) → DataW.TrodAll enc P W' 0 sp true f.params.toList args.toList ds before := fun sp hsp => hA'.respare K hz hlt hsp
 have hres : ∀ (b : Nat) (sp : Nat → Bool) (hd : Bool), DataW.TrodAll enc P W' b sp hd f.resultTypes.toList ((Value.bool true).resultList f.resultTypes.size) [.lit (.bool true)] [] := fun b sp hd => by
  rw [hr]
  exact trodAll_cons_mk (shut_bool htb true) trodAll_mk0
 have hok : ∀ (j : Nat) (t : TypeId) (r : Value), f.resultTypes[j]? = some t → ((Value.bool true).resultList f.resultTypes.size)[j]? = some r → Value.okWide P W' .any 0 t r := ok_one hr rfl (okWide_bool_mk htb true)
 refine ⟨ds, [], before, [], before, [], hW0, ?_, ?_, ?_, World.keptBut_mono (fun x hx => ⟨hx, .inr (.inl hx)⟩) (hs.kept (· ∈ before)), fun _ => ⟨hok, [.lit (.bool true)] ++ ds, [], ([] ++ before) ++ [], ⟨[] ++ before, [], ?_, ?_, rfl, ?_, ?_⟩, ?_⟩⟩
 · rw [hfn]; exact hres _ _ _
 · rw [hfn]; exact hargs _ (fun x hx => by simpa using hpb x hx)
 · rw [hfn, hv]; rfl
 · exact trodAll_append (hargs _ fun _ _ => rfl) (hres _ _ _)
 · rw [hv]; rfl
 · intro b off hx
   have hx' : MemPlace.cell b off ∈ before := by simpa using hx
   rw [hs.frozen (b := b) (o := off) (hpb _ hx')]
   exact hfz b off hx'
 · intro ha
   simpa using hnd ha
 · intro x hx _
   simpa using hx
structure Fgt (s s' : St) : Prop where
 slots : ∀ k v, lk s.slots k = some v → lk s'.slots k = some v
 heap : ∀ i c, s.h.get i = some c → s'.h.get i = some c
 next : s.h.next = s'.h.next
 n : s.n = s'.n
 defs : s.defs = s'.defs
theorem Fgt.wf {s s' : St} (h : Fgt s s') (hw : s'.wf) : s.wf :=
 ⟨fun k v hk => by rw [h.next]; exact hw.1 k v (h.slots k v hk), fun i c hi => by rw [h.next]; exact hw.2.1 i c (h.heap i c hi), by rw [h.defs, h.next]; exact hw.2.2⟩
theorem Fgt.rel {s s' : St} (h : Fgt s s') {ρ : Ren} {a : Act} {w : World} (hr : Rel ρ s' a w) : Rel ρ s a w :=
 ⟨⟨by rw [h.n]; exact hr.1.1, fun k v hk => hr.1.2 k v (h.slots k v hk)⟩, by rw [h.defs]; exact hr.2.1, fun i c hi => hr.2.2.1 i c (h.heap i c hi), fun i j ci cj hne hi hj hro => hr.2.2.2 i j ci cj hne (h.heap i ci hi) (h.heap j cj hj) hro⟩
theorem Fr.sub {ρ ρ' : Ren} {h h' h'' : AH} {w w' : World} (a : Fr ρ h w ρ' h' w') (hg : ∀ i c, h''.get i = some c → h'.get i = some c) (hn : h''.next = h'.next) : Fr ρ h w ρ' h'' w' := by
 obtain ⟨a1, a2, a3, a4, a5, a6⟩ := a
 exact ⟨a1, a2, a3, fun id c hc => a4 id c (hg id c hc), a5, by omega⟩
theorem J_drop {P : Program} {r : Option Nat} {c : Code} {s : St} {Q Q' : AExit → St → Prop} (h : J P r c s Q) (hq : ∀ e s', Q e s' → ∃ s2, Fgt s2 s' ∧ Q' e s2) : J P r c s Q' := by
 intro hw hr
 obtain ⟨e, s', a1, a2, a3, a4, a5⟩ := h hw hr
 obtain ⟨s2, b1, b2⟩ := hq e s' a4
 refine ⟨e, s2, b1.wf a1, by rw [b1.next]; exact a2, by rw [b1.next]; exact a3, b2, fun ρ a w n hrel => wpIn_mono (a5 ρ a w n hrel) ?_⟩
 rintro e' a' w' ⟨ρ', k1, k2, k3⟩
 exact ⟨ρ', k1, b1.rel k2, k3.sub b1.heap b1.next⟩
theorem JCall_drop {P : Program} {f : FuncId} {args : List AV} {h : AH} {Q Q' : AEnd → AH → Prop} (hc : JCall P f args h Q) (hq : ∀ e h', Q e h' → ∃ h2, (∀ i c, h2.get i = some c → h'.get i = some c) ∧ h2.next = h'.next ∧ Q' e h2) : JCall P f args h Q' := by
 intro hw hs
 obtain ⟨e, h', a1, a2, a3, a4, a5⟩ := hc hw hs
 obtain ⟨h2, b1, b2, b3⟩ := hq e h' a4
 refine ⟨e, h2, fun i c hi => by rw [b2]; exact a1 i c (b1 i c hi), by rw [b2]; exact a2, by rw [b2]; exact a3, b3, fun ρ w n hr => (a5 ρ w n hr).mono ?_⟩
 rintro e' w' ⟨ρ', k1, k2, k3⟩
 exact ⟨ρ', k1, ⟨fun i c hi => k2.1 i c (b1 i c hi), fun i j ci cj hne hi hj hro => k2.2 i j ci cj hne (b1 i ci hi) (b1 j cj hj) hro⟩, k3.sub b1 b2⟩
noncomputable section
def trL {α : Type} (l : List (Nat × α)) : Tr α := List.rec (motive := fun _ => Tr α) .nil (fun kv _ t => Tr.set 40 t kv.1 (some kv.2)) l
def keysOk {α : Type} (l : List (Nat × α)) : Bool := l.all fun kv => Nat.ble kv.1 lim
theorem trL_get {α : Type} : ∀ {l : List (Nat × α)}, keysOk l = true → ∀ {k : Nat} {v : α}, (trL l).get k = some v → (k, v) ∈ l
 | [], _, k, v, h => by simp [trL, Tr.get] at h
 | kv :: l, hk, k, v, h => by
   simp only [keysOk, List.all_cons, Bool.and_eq_true] at hk
   have h0 : kv.1 ≤ lim := Nat.le_of_ble_eq_true hk.1
   have e : trL (kv :: l) = Tr.set 40 (trL l) kv.1 (some kv.2) := rfl
   rw [e, Tr.get_set 40 _ _ _ _ (by unfold lim at h0; omega)] at h
   split at h
   · rename_i e; cases h; subst e; exact List.mem_cons_self ..
   · exact List.mem_cons_of_mem _ (trL_get (l := l) hk.2 h)
def hp (ch : List (Nat × Chunk)) (nx : Nat) : AH := ⟨nx, (trL ch).get⟩
def esOf (sl : List (Nat × AV)) (ch : List (Nat × Chunk)) (nx : Nat) : ES := ⟨trL sl, ⟨nx, trL ch, []⟩, []⟩
def getsS {α : Type} (t : Tr α) (ks : List Nat) : List (Option α) := List.rec (motive := fun _ => List (Option α)) [] (fun k _ r => t.get k :: r) ks
def ES.pr (s : ES) (ks is : List Nat) : Option (List (Option AV) × List (Option Chunk) × Nat) :=
 ES.rec (motive := fun _ => _) (fun sl h ds => EH.rec (motive := fun _ => _) (fun nx t _ => List.rec (motive := fun _ => _) (some (getsS sl ks, getsS t is, nx)) (fun _ _ _ => none) ds) h) s
def isNormX : AExit → Bool
 | .normal => true
 | _ => false
def Rs.pr (z : Rs) (ks is : List Nat) : Option (List (Option AV) × List (Option Chunk) × Nat) :=
 Rs.rec (motive := fun _ => _) (fun e s => Bool.rec (motive := fun _ => _) none (s.pr ks is) (isNormX e)) (fun _ _ => none) (fun _ => none) z
def keysL {α : Type} (l : List (Nat × α)) : List Nat := List.rec (motive := fun _ => List Nat) [] (fun kv _ r => kv.1 :: r) l
def valsL {α : Type} (l : List (Nat × α)) : List (Option α) := List.rec (motive := fun _ => List (Option α)) [] (fun kv _ r => some kv.2 :: r) l
end
theorem getsS_mem {α : Type} {t : Tr α} : ∀ {l : List (Nat × α)}, getsS t (keysL l) = valsL l → ∀ {k : Nat} {v : α}, (k, v) ∈ l → t.get k = some v
 | [], _, k, v, h => by simp at h
 | kv :: l, hg, k, v, h => by
   have hg : t.get kv.1 :: getsS t (keysL l) = some kv.2 :: valsL l := hg
   simp only [List.cons.injEq] at hg
   rcases List.mem_cons.1 h with h | h
   · subst h; exact hg.1
   · exact getsS_mem hg.2 h
def Cut (P : Program) (n : Nat) (c : Code) (sl : List (Nat × AV)) (ch : List (Nat × Chunk)) (nx : Nat) (sl' : List (Nat × AV)) (ch' : List (Nat × Chunk)) (nx' : Nat) : Prop :=
 ∀ slots, Lk (trL sl) slots → J P none c ⟨slots, hp ch nx, n, []⟩ (fun e s => e = .normal ∧ ∃ slots', Lk (trL sl') slots' ∧ s = ⟨slots', hp ch' nx', n, []⟩)
theorem Cut.seq {P : Program} {n : Nat} {c x y : Code} {sl sl1 : List (Nat × AV)} {ch ch1 : List (Nat × Chunk)} {nx nx1 : Nat} {Q : AExit → St → Prop} (hc : c = .seq x y) (h : Cut P n x sl ch nx sl1 ch1 nx1)
 (hy : ∀ slots, Lk (trL sl1) slots → J P none y ⟨slots, hp ch1 nx1, n, []⟩ Q) : ∀ slots, Lk (trL sl) slots → J P none c ⟨slots, hp ch nx, n, []⟩ Q := fun slots hL =>
 J_seq hc ((h slots hL).mono fun e s ⟨he, slots', h1, hs⟩ => by subst he; subst hs; exact hy slots' h1)
theorem JCall_cut {P : Program} {f n : Nat} {fn : Func} {c : Code} {R : AEnd → AH → Prop} (hf : IsFn P f fn c) (hn : fn.ntmps = n)
 (hj : ∀ slots, Lk (trL []) slots → J P none c ⟨slots, hp [] 0, n, []⟩ (Leaves P fn R)) : JCall P f [] (hp [] 0) R :=
 JCall_of_J hf hn (Nat.zero_le _) rfl (hj [] (fun k v h => by simp [trL, Tr.get] at h))
theorem ret_cut {P : Program} {fn : Func} {c : Code} {n k : Nat} {v : AV} {sl : List (Nat × AV)} {ch : List (Nat × Chunk)} {nx : Nat} {R : AEnd → AH → Prop} (hc : c = .ret) (hres : fn.results.toList = [.tmp k]) (hv : (trL sl).get k = some v) (hR : R (.ret v) (hp ch nx)) :
 ∀ slots, Lk (trL sl) slots → J P none c ⟨slots, hp ch nx, n, []⟩ (Leaves P fn R) := fun slots hL => by
 refine J_ret hc ?_
 refine ⟨trivial, [v], ?_, hR⟩
 rw [hres]
 simp only [resL, resV, hL k v hv]
theorem JCall_any {P : Program} {f : FuncId} {v : AV} {R : AEnd → AH → Prop} (h : JCall P f [] (hp [] 0) R) (hR : ∀ e h', R e h' → e = .ret v ∧ v.sup = 0) (hv : ∀ σ, v.ren σ = v) {g : AH} : JCall P f [] g (fun e g' => e = .ret v ∧ Le g g') := JCall_wf fun gw => by
 have := JCall_trans (P := P) (σ := fun i => i) (g := g) h ⟨fun i hi => by simp [hp] at hi, fun i c hi => by simp [hp, trL, Tr.get] at hi, fun i j hi => by obtain ⟨c, hc⟩ := hi; simp [hp, trL, Tr.get] at hc⟩ (fun i c hi => by simp [hp, trL, Tr.get] at hi) (Nat.zero_le _)
 refine this.mono ?_
 rintro e2 g2 ⟨e, h', r1, r2, r3, r4, rfl, rfl⟩
 obtain ⟨rfl, _⟩ := hR e h' r1
 refine ⟨by simp only [AEnd.ren, hv], by simp only [after]; omega, fun j c hj => ?_⟩
 rw [after_else (gw j c hj).1 (fun i c' hi => by simp [hp, trL, Tr.get] at hi)]
 exact hj
structure LS where
 sl : List (Nat × AV)
 ch : List (Nat × Chunk)
 nx : Nat
noncomputable section
def LS.es (s : LS) : ES := ⟨trL s.sl, ⟨s.nx, trL s.ch, []⟩, []⟩
def LS.ok (s : LS) : Bool := keysOk s.sl && keysOk s.ch
def exN (e : AExit) : Option Nat := AExit.rec (motive := fun _ => Option Nat) (some 0) (fun id => some (Nat.succ (Nat.succ id))) (fun _ => none) (some 1) (fun _ => none) e
def exOf : Nat → AExit
 | 0 => .normal
 | 1 => .ret
 | n + 2 => .exit n
def Rs.prX (z : Rs) (ks is : List Nat) : Option (Nat × List (Option AV) × List (Option Chunk) × Nat) :=
 Rs.rec (motive := fun _ => _) (fun e s => Option.rec (motive := fun _ => _) none (fun m => Option.rec (motive := fun _ => _) none (fun q => some (m, q)) (s.pr ks is)) (exN e)) (fun _ _ => none) (fun _ => none) z
def LS.want (s : LS) (m : Nat) : Option (Nat × List (Option AV) × List (Option Chunk) × Nat) := some (m, valsL s.sl, valsL s.ch, s.nx)
def Rs.at (z : Rs) (s : LS) : Option (Nat × List (Option AV) × List (Option Chunk) × Nat) := z.prX (keysL s.sl) (keysL s.ch)
end
theorem exN_some {e : AExit} {m : Nat} (h : exN e = some m) : e = exOf m := by
 cases e <;> cases h <;> rfl
def At (n : Nat) (m : Nat) (s : LS) : AExit → St → Prop := fun e s2 => e = exOf m ∧ ∃ slots, Lk (trL s.sl) slots ∧ s2 = ⟨slots, hp s.ch s.nx, n, []⟩
def CutE (P : Program) (n : Nat) (c : Code) (s : LS) (m : Nat) (s' : LS) : Prop :=
 ∀ slots, Lk (trL s.sl) slots → J P none c ⟨slots, hp s.ch s.nx, n, []⟩ (At n m s')
def CutLoop (P : Program) (n : Nat) (c : Code) (s : LS) (m : Nat) (s' : LS) : Prop :=
 ∀ slots, Lk (trL s.sl) slots → JLoop P none c ⟨slots, hp s.ch s.nx, n, []⟩ (At n m s')
def CutL (P : Program) (n : Nat) (ops : Array Oper) (a m : Nat) (s s' : LS) : Prop :=
 ∀ slots, Lk (trL s.sl) slots → JL P none ops (List.range' a m) ⟨slots, hp s.ch s.nx, n, []⟩ (At n 0 s')
def CutC (P : Program) (f : FuncId) (args : List AV) (ch : List (Nat × Chunk)) (nx : Nat) (v : AV) (ch' : List (Nat × Chunk)) (nx' : Nat) : Prop :=
 JCall P f args (hp ch nx) (fun e h' => e = .ret v ∧ h' = hp ch' nx')
theorem prX_code {e : AExit} {s : ES} {ks is : List Nat} : (Rs.code e s).prX ks is = (exN e).bind fun m => (s.pr ks is).map fun q => (m, q) := by
 unfold Rs.prX
 simp only
 cases exN e with
 | none => rfl
 | some m => cases s.pr ks is <;> rfl
theorem at_run {z : Rs} {s' : LS} {m : Nat} (hok : s'.ok = true) (h : z.at s' = s'.want m) :
 ∃ s1, z = .code (exOf m) s1 ∧ s1.ds = [] ∧ s1.h.next = s'.nx ∧ (∀ k v, (trL s'.sl).get k = some v → s1.sl.get k = some v) ∧ (∀ i c, (trL s'.ch).get i = some c → s1.h.t.get i = some c) := by
 simp only [LS.ok, Bool.and_eq_true] at hok
 cases z with
 | fin v h' => exact absurd h (fun q => nomatch q)
 | no w => exact absurd h (fun q => nomatch q)
 | code e s1 =>
   obtain ⟨L, ⟨nx2, t, log⟩, ds⟩ := s1
   have h : (Rs.code e ⟨L, ⟨nx2, t, log⟩, ds⟩).prX (keysL s'.sl) (keysL s'.ch) = s'.want m := h
   rw [prX_code] at h
   cases he : exN e with
   | none => rw [he] at h; cases h
   | some m2 =>
     rw [he] at h
     cases ds with
     | cons d ds => cases h
     | nil =>
       have : some (m2, getsS L (keysL s'.sl), getsS t (keysL s'.ch), nx2) = s'.want m := h
       simp only [LS.want, Option.some.injEq, Prod.mk.injEq] at this
       obtain ⟨rfl, r1, r2, rfl⟩ := this
       exact ⟨⟨L, ⟨s'.nx, t, log⟩, []⟩, by rw [exN_some he], rfl, rfl, fun k v hk => getsS_mem r1 (trL_get hok.1 hk), fun i c hi => getsS_mem r2 (trL_get hok.2 hi)⟩
theorem at_of {n : Nat} {s' : LS} {m : Nat} {s1 : ES} (h1 : s1.ds = []) (h2 : s1.h.next = s'.nx) (h3 : ∀ k v, (trL s'.sl).get k = some v → s1.sl.get k = some v) (h4 : ∀ i c, (trL s'.ch).get i = some c → s1.h.t.get i = some c)
 {e : AExit} {s2 : St} (q : CodeQ n (exOf m) s1 e s2) : ∃ s3, Fgt s3 s2 ∧ At n m s' e s3 := by
 obtain ⟨rfl, q2, q3, q4, q5⟩ := q
 obtain ⟨sl2, H2, n2, d2⟩ := s2
 simp only at q2 q3 q4 q5
 subst q2; subst q3; subst q4
 exact ⟨⟨sl2, hp s'.ch s'.nx, n2, []⟩, ⟨fun _ _ h => h, fun i c hi => h4 i c hi, h2.symm, rfl, h1.symm⟩, rfl, sl2, fun k v hk => q5 k v (h3 k v hk), rfl⟩
theorem cutE_of {P : Program} (hmix : P.follows .mixedOrders = true) (k : Nat) {n m : Nat} {c : Code} {s s' : LS} (hn : Nat.ble n 1000000 = true) (hok : s'.ok = true)
 (hrun : (runE P k (.code none n c s.es)).at s' = s'.want m) : CutE P n c s m s' := by
 intro slots hL
 obtain ⟨s1, hz, h1, h2, h3, h4⟩ := at_run hok hrun
 have hj := (code_of (ih := runE P k) (fun t => runE_ok hmix k t) (Nat.le_of_ble_eq_true hn) hz).1 slots hL
 exact J_drop hj fun e s2 q => at_of h1 h2 h3 h4 q
theorem JL_drop {P : Program} {r : Option Nat} {ops : Array Oper} {l : List Nat} {s : St} {Q Q' : AExit → St → Prop} (h : JL P r ops l s Q) (hq : ∀ e s', Q e s' → ∃ s2, Fgt s2 s' ∧ Q' e s2) : JL P r ops l s Q' := by
 intro hw hr
 obtain ⟨e, s', a1, a2, a3, a4, a5⟩ := h hw hr
 obtain ⟨s2, b1, b2⟩ := hq e s' a4
 refine ⟨e, s2, b1.wf a1, by rw [b1.next]; exact a2, by rw [b1.next]; exact a3, b2, fun ρ a w n hrel => wpOpsIn_mono (fun e' a' w' ⟨ρ', k1, k2, k3⟩ => ⟨ρ', k1, b1.rel k2, k3.sub b1.heap b1.next⟩) _ _ _ (a5 ρ a w n hrel)⟩
theorem cutL_of {P : Program} (hmix : P.follows .mixedOrders = true) (k : Nat) {n a m : Nat} {ops : Array Oper} {s s' : LS} (hn : Nat.ble n 1000000 = true) (hok : s'.ok = true) (ha : Nat.ble (a + m) ops.toList.length = true)
 (hrun : (opsE P (runE P k) ops n ((ops.toList.drop a).take m) s.es).at s' = s'.want 0) : CutL P n ops a m s s' := by
 intro slots hL
 obtain ⟨s1, hz, h1, h2, h3, h4⟩ := at_run hok hrun
 have ha := Nat.le_of_ble_eq_true ha
 have hj := (opsE_ok (r := none) (ih := runE P k) (fun t => (runE_ok hmix k t).snd) (Nat.le_of_ble_eq_true hn) ((ops.toList.drop a).take m) (ops.toList.take a) ((ops.toList.drop a).drop m) s.es slots (by rw [List.take_append_drop, List.take_append_drop]) hL hz).2.1
 have e1 : (ops.toList.take a).length = a := by rw [List.length_take]; omega
 have e2 : ((ops.toList.drop a).take m).length = m := by rw [List.length_take, List.length_drop]; omega
 rw [e1, e2] at hj
 exact JL_drop hj fun e s2 q => at_of (m := 0) h1 h2 h3 h4 q
section
variable {P : Program} {n : Nat} {c x y : Code} {s s1 s' : LS} {m : Nat}
theorem exOf_succ (m : Nat) : exOf (m + 1) ≠ .normal := by cases m <;> simp [exOf]
theorem CutE.seq (hc : c = .seq x y) (h1 : CutE P n x s 0 s1) (h2 : CutE P n y s1 m s') : CutE P n c s m s' := fun slots hL =>
 J_seq hc ((h1 slots hL).mono fun e s2 ⟨he, sl2, q1, q2⟩ => by subst he; subst q2; exact h2 sl2 q1)
theorem then_ne {Q : St → Prop} {R : AExit → St → Prop} {e : AExit} {s : St} (h : R e s) (hne : e ≠ .normal) : Then Q R e s := by cases e <;> first | exact absurd rfl hne | exact h
theorem CutE.loop (hc : c = .loop x) (h : CutLoop P n x s m s') : CutE P n c s m s' := fun slots hL => by
 subst hc; exact J_of_JLoop (h slots hL)
theorem CutLoop.round (h1 : CutE P n x s 0 s1) (h2 : CutLoop P n x s1 m s') : CutLoop P n x s m s' := fun slots hL =>
 JLoop_round ((h1 slots hL).mono fun e s2 ⟨he, sl2, q1, q2⟩ => by subst he; subst q2; exact h2 sl2 q1)
theorem CutLoop.out (h1 : CutE P n x s (m + 1) s') : CutLoop P n x s (m + 1) s' := fun slots hL =>
 JLoop_round ((h1 slots hL).mono fun e s2 q => then_ne q (by rw [q.1]; exact exOf_succ m))
def blkN (id : Nat) : Nat → Nat
 | 0 => 0
 | 1 => 1
 | k + 2 => match Nat.beq k id with
   | true => 0
   | false => k + 2
theorem CutE.block {id k : Nat} (hc : c = .block id x) (h : CutE P n x s k s') (hm : blkN id k = m) : CutE P n c s m s' := fun slots hL => by
 refine J_block hc ((h slots hL).mono fun e s2 ⟨he, q⟩ => ?_)
 subst hm
 match k, he with
 | 0, he => subst he; exact ⟨rfl, q⟩
 | 1, he => subst he; exact ⟨rfl, q⟩
 | k + 2, he =>
   subst he
   cases hb : Nat.beq k id with
   | true =>
     have : blkN id (k + 2) = 0 := by simp only [blkN, hb]
     rw [this]
     exact blk_eq hb ⟨rfl, q⟩
   | false =>
     have : blkN id (k + 2) = k + 2 := by simp only [blkN, hb]
     rw [this]
     exact blk_ne hb ⟨rfl, q⟩
theorem CutE.scope (hc : c = .scope x) (h : CutE P n x s m s') : CutE P n c s m s' := fun slots hL => by
 refine J_scope hc ((h slots hL).mono fun e s2 q => ?_)
 obtain ⟨rfl, q⟩ := q
 match m, q with
 | 0, q => exact ⟨rfl, q⟩
 | 1, q => exact ⟨rfl, q⟩
 | k + 2, q => exact ⟨rfl, q⟩
theorem uponIn_monoX {F : Fence} {n : Nat} {P : Program} {o : Oper} {a : Act} {next next' : Act → World → Prop} {Q Q' : Exit → Act → World → Prop} {r : Result Next}
 (h : o.uponIn F n P a next Q r) (hn : ∀ a w, next a w → next' a w) (hq : ∀ e a w, e ≠ .normal → Q e a w → Q' e a w) : o.uponIn F n P a next' Q' r := by
 have hL : LetsOut Q → LetsOut Q' := fun ⟨a, w, h⟩ => ⟨a, w, hq _ _ _ (fun q => nomatch q) h⟩
 cases r with
 | halt ht w => cases ht <;> first | exact hq _ _ _ (fun q => nomatch q) h | exact h
 | ok x w =>
   cases x <;> first
    | exact hn _ _ h
    | (refine ⟨h.1, h.2.mono ?_⟩; rintro (v | ch | _) w' h' <;> first | exact hn _ _ h' | exact hq _ _ _ (fun q => nomatch q) h' | exact hL h')
    | exact ⟨h.1, h.2.mono fun _ _ h' => hn _ _ h'⟩
    | exact h
theorem wpOpsIn_append {F : Fence} {k : Nat} {ops : Array Oper} {Q1 Q : Exit → Act → World → Prop} {l2 : List Nat} (hq : ∀ e a w, Q1 e a w → e = .normal ∧ wpOpsIn F k P ops Q l2 a w) : ∀ (l1 : List Nat) (a : Act) (w : World),
 wpOpsIn F k P ops Q1 l1 a w → wpOpsIn F k P ops Q (l1 ++ l2) a w
 | [], a, w, h => (hq _ _ _ h).2
 | i :: l1, a, w, h => by
   rw [List.cons_append]
   unfold wpOpsIn at h ⊢
   cases ho : ops[i]? with
   | none => rw [ho] at h; exact wpOpsIn_append hq l1 a w h
   | some o =>
     rw [ho] at h
     simp only at h ⊢
     split
     · rename_i hw
       rw [if_pos hw] at h
       exact ⟨h.1, uponIn_monoX h.2 (fun a w => wpOpsIn_append hq l1 a w) (fun e a w hne q => absurd (hq e a w q).1 hne)⟩
     · rename_i hw
       rw [if_neg hw] at h
       exact ⟨h.1, wpOpsIn_append hq l1 _ w h.2⟩
theorem CutL.append {ops : Array Oper} {a m1 m2 : Nat} (h1 : CutL P n ops a m1 s s1) (h2 : CutL P n ops (a + m1) m2 s1 s') : CutL P n ops a (m1 + m2) s s' := by
 intro slots hL hw hr
 obtain ⟨e, s2, a1, a2, a3, ⟨rfl, sl2, q1, rfl⟩, a5⟩ := h1 slots hL hw hr
 obtain ⟨e', s3, b1, b2, b3, b4, b5⟩ := h2 sl2 q1 a1 (by exact Nat.zero_le _)
 refine ⟨e', s3, b1, b2, Nat.le_trans a3 b3, b4, fun ρ ac w k hrel => ?_⟩
 have e : List.range' a (m1 + m2) = List.range' a m1 ++ List.range' (a + m1) m2 := by
  rw [← List.range'_append_1]
 rw [e]
 refine wpOpsIn_append ?_ _ _ _ (a5 ρ ac w k hrel)
 rintro e1 ac1 w1 ⟨ρ', rfl, k2, k3⟩
 refine ⟨rfl, wpOpsIn_mono ?_ _ _ _ (b5 ρ' ac1 w1 k k2)⟩
 rintro e2 ac2 w2 ⟨ρ2, c1, c2, c3⟩
 exact ⟨ρ2, c1, c2, k3.trans c3⟩
theorem CutL.region {ops : Array Oper} {k : Nat} (hc : c = .region (idAt c) (opsAt c) false) (ho : opsAt c = ops) (hk : Nat.beq ops.size k = true) (h : CutL P n ops 0 k s s') : CutE P n c s 0 s' := fun slots hL => by
 subst ho
 refine J_region hc ?_
 have hk := Nat.eq_of_beq_eq_true hk
 rw [List.range_eq_range', hk]
 exact h slots hL
noncomputable def endH (z : Rs) : EH := Rs.rec (motive := fun _ => EH) (fun _ s => s.h) (fun _ h => h) (fun _ => ⟨0, .nil, []⟩) z
theorem cutC_of (hmix : P.follows .mixedOrders = true) (k : Nat) {f : Nat} {args : List AV} {ch ch' : List (Nat × Chunk)} {nx nx' : Nat} {v : AV} {h' : EH} (hok : keysOk ch' = true) (hrun : runE P k (.call f args ⟨nx, trL ch, []⟩) = .fin v h')
 (h1 : getsS h'.t (keysL ch') = valsL ch') (h2 : h'.next = nx') : CutC P f args ch nx v ch' nx' := by
 refine JCall_drop (runE_call hmix hrun) ?_
 rintro e h2' ⟨rfl, rfl⟩
 exact ⟨hp ch' nx', fun i c hi => getsS_mem h1 (trL_get hok hi), h2.symm, rfl, rfl⟩
theorem cutC_body {f k : Nat} {fn : Func} {args : List AV} {vs : List AV} {ch ch' : List (Nat × Chunk)} {nx nx' : Nat} {v : AV} {sl' : List (Nat × AV)} (hf : IsFn P f fn c) (hn : fn.ntmps = n) (ha : Nat.ble args.length n = true) (hn2 : Nat.ble n 1000000 = true)
 (h : CutE P n c ⟨initS 0 args, ch, nx⟩ k ⟨sl', ch', nx'⟩) (hk : k < 2) (hres : resLE P (trL sl') ⟨nx', trL ch', []⟩ fn.results.toList = some vs) (hv : oneOf vs = v) : CutC P f args ch nx v ch' nx' := by
 have ha := Nat.le_of_ble_eq_true ha
 have hn2 := Nat.le_of_ble_eq_true hn2
 refine JCall_of_J hf hn ha rfl ((h (initS 0 args) ?_).mono ?_)
 · intro i u hu
   have hko : keysOk (initS 0 args) = true := by
    have : ∀ (l : List AV) (j : Nat), j + l.length ≤ lim → keysOk (initS j l) = true := by
     intro l
     induction l with
     | nil => intro j _; rfl
     | cons u l ih => intro j hj; simp only [List.length_cons] at hj; simp only [keysOk, initS, List.all_cons, Bool.and_eq_true]; exact ⟨Nat.ble_eq_true_of_le (by omega), ih (j + 1) (by omega)⟩
    exact this args 0 (by unfold lim; omega)
   have hm := trL_get hko hu
   refine lk_of_mem hm fun u2 h2 => ?_
   have e1 : ∀ (l : List AV) (j : Nat) (x : AV), (i, x) ∈ initS j l → j ≤ i ∧ l[i - j]? = some x := by
    intro l
    induction l with
    | nil => intro j x hx; cases hx
    | cons u l ih =>
      intro j x hx
      rcases List.mem_cons.1 hx with hx | hx
      · cases hx; simp
      · obtain ⟨q1, q2⟩ := ih (j + 1) x hx
        refine ⟨by omega, ?_⟩
        rw [show i - j = (i - (j + 1)) + 1 by omega]; simpa using q2
   have := (e1 args 0 _ hm).2.symm.trans (e1 args 0 _ h2).2
   exact (Option.some.inj this).symm
 · rintro e s2 ⟨rfl, sl2, q1, rfl⟩
   have hr := resLE_ok (nn := n) (h := ⟨nx', trL ch', []⟩) q1 hres
   subst hv
   match k, hk with
   | 0, _ => exact ⟨trivial, vs, hr, rfl, rfl⟩
   | 1, _ => exact ⟨trivial, vs, hr, rfl, rfl⟩
theorem CutL.call {ops : Array Oper} {i d f : Nat} {o : Oper} {args : Array Operand} {ats : Array TypeId} {vs : List AV} {v : AV} {ch' : List (Nat × Chunk)} {nx' : Nat} {fn : Func} {cb : Code} (hf : IsFn P f fn cb) (ho : ops[i]? = some o) (hg : o.guard = none) (hop : o.op = .call { callee := .value (.func f), args, argTypes := ats })
 (hd : o.dst = some d) (hdn : Nat.blt d n = true) (hn2 : Nat.ble n 1000000 = true) (hev : evLE (trL s.sl) args.toList = some vs) (hc : CutC P f vs s.ch s.nx v ch' nx') : CutL P n ops i 1 s ⟨(d, v) :: s.sl, ch', nx'⟩ := fun slots hL => by
 have hdn : d < n := Nat.le_of_ble_eq_true hdn
 have hn2 := Nat.le_of_ble_eq_true hn2
 refine JL_op ho hg (w_call'0 hf hop hd hdn (evLE_evL hL hev) hc ?_)
 rintro e h' ⟨rfl, rfl⟩
 refine JL_nil ⟨rfl, (d, v) :: slots, ?_, rfl⟩
 intro k u hu
 have e : trL ((d, v) :: s.sl) = Tr.set 40 (trL s.sl) d (some v) := rfl
 rw [e, Tr.get_set 40 _ _ _ _ (by omega)] at hu
 simp only [lk]
 split at hu
 · rename_i e; subst e; cases hu; simp
 · rename_i hne
   rw [if_neg (by simpa using fun q => hne q.symm)]
   exact hL k u hu
end
mutual
theorem ren_fix {σ : Nat → Nat} {n : Nat} (h : ∀ i, i < n → σ i = i) : ∀ v : AV, v.sup ≤ n → v.ren σ = v
 | .bool _, _ => rfl
 | .int _ _, _ => rfl
 | .str _, _ => rfl
 | .ptr none, _ => rfl
 | .ptr (some p), hs => by
   simp only [AV.sup, supA] at hs
   simp only [AV.ren, renA, h p.1 (by omega)]
 | .slice none _ c, _ => rfl
 | .slice (some p) _ c, hs => by
   simp only [AV.sup, supA] at hs
   simp only [AV.ren, renA, h p.1 (by omega)]
 | .map none, _ => rfl
 | .map (some r), hs => by
   simp only [AV.sup] at hs
   simp only [AV.ren, Option.map_some, h r (by omega)]
 | .fn f first captured, hs => by
   simp only [AV.sup] at hs
   simp only [AV.ren, renL_fix h first (by omega), renL_fix h captured (by omega)]
 | .yield l, hs => by
   simp only [AV.sup] at hs
   simp only [AV.ren, h l (by omega)]
 | .nilFunc, _ => rfl
 | .iface t v, hs => by
   simp only [AV.sup] at hs
   simp only [AV.ren, ren_fix h v hs]
 | .nilIface, _ => rfl
 | .agg cs, hs => by
   simp only [AV.sup] at hs
   simp only [AV.ren, renL_fix h cs hs]
 | .tuple vs, hs => by
   simp only [AV.sup] at hs
   simp only [AV.ren, renL_fix h vs hs]
theorem renL_fix {σ : Nat → Nat} {n : Nat} (h : ∀ i, i < n → σ i = i) : ∀ l : List AV, supL l ≤ n → renL σ l = l
 | [], _ => rfl
 | v :: r, hs => by
   simp only [supL] at hs
   simp only [renL, ren_fix h v (by omega), renL_fix h r (by omega)]
end
theorem renT_fix {σ : Nat → Nat} {n : Nat} (h : ∀ i, i < n → σ i = i) : ∀ l : List (Nat × AV), supT l ≤ n → renT σ l = l
 | [], _ => rfl
 | kv :: r, hs => by
   simp only [supT] at hs
   have := renT_fix h r (by omega)
   simp only [renT] at this
   simp only [renT, List.map_cons, ren_fix h kv.2 (by omega), this]
theorem renE_fix {σ : Nat → Nat} {n : Nat} (h : ∀ i, i < n → σ i = i) : ∀ l : List (AV × AV × Nat), supE l ≤ n → renE σ l = l
 | [], _ => rfl
 | kv :: r, hs => by
   simp only [supE] at hs
   have := renE_fix h r (by omega)
   simp only [renE] at this
   simp only [renE, List.map_cons, ren_fix h kv.1 (by omega), ren_fix h kv.2.1 (by omega), this]
theorem Chunk.ren_fix {σ : Nat → Nat} {n : Nat} (h : ∀ i, i < n → σ i = i) (c : Chunk) (hs : c.sup ≤ n) : c.ren σ = c := by
 cases c with
 | ro cs => simp only [Chunk.sup] at hs; simp only [Chunk.ren, renL_fix h cs hs]
 | own cs => simp only [Chunk.sup] at hs; simp only [Chunk.ren, renL_fix h cs hs]
 | grow e cs => simp only [Chunk.sup] at hs; simp only [Chunk.ren, renL_fix h cs hs]
 | map es cl => simp only [Chunk.sup] at hs; simp only [Chunk.ren, renE_fix h es hs]
 | siter s p => rfl
 | loop l pd ts n ps a b m => simp only [Chunk.sup] at hs; simp only [Chunk.ren, renT_fix h ts (by omega), h m (by omega)]
 | mark => rfl
theorem JApp.fix {P : Program} {fv : AV} {args : List AV} {h : AH} {Q : AEnd → AH → Prop} (hc : JApp P fv args h Q) (hw : h.wf) (h1 : fv.sup ≤ h.next) (h2 : supL args ≤ h.next) :
 ∃ e H, Q e H ∧ H.wf ∧ e.sup ≤ H.next ∧ h.next ≤ H.next ∧ JApp P fv args h (fun e' H' => e' = e ∧ H' = H) := by
 obtain ⟨e, H, a1, a2, a3, a4, a5⟩ := hc hw h1 h2
 exact ⟨e, H, a4, a1, a2, a3, fun _ _ _ => ⟨e, H, a1, a2, a3, ⟨rfl, rfl⟩, a5⟩⟩
theorem JCall.fix {P : Program} {f : FuncId} {args : List AV} {h : AH} {Q : AEnd → AH → Prop} (hc : JCall P f args h Q) (hw : h.wf) (h2 : supL args ≤ h.next) :
 ∃ e H, Q e H ∧ H.wf ∧ e.sup ≤ H.next ∧ h.next ≤ H.next ∧ JCall P f args h (fun e' H' => e' = e ∧ H' = H) := by
 obtain ⟨e, H, a1, a2, a3, a4, a5⟩ := hc hw h2
 exact ⟨e, H, a4, a1, a2, a3, fun _ _ => ⟨e, H, a1, a2, a3, ⟨rfl, rfl⟩, a5⟩⟩
def AH.del (h : AH) (b : Nat) : AH := ⟨h.next, fun i => if i = b then none else h.get i⟩
theorem AH.del_get {h : AH} {b i : Nat} {c : Chunk} (hi : (h.del b).get i = some c) : i ≠ b ∧ h.get i = some c := by
 simp only [AH.del] at hi
 split at hi
 · cases hi
 · exact ⟨by assumption, hi⟩
theorem AH.del_ne {h : AH} {b i : Nat} (hi : i ≠ b) : (h.del b).get i = h.get i := by simp [AH.del, hi]
theorem AH.del_wf {h : AH} {b : Nat} (hw : h.wf) : (h.del b).wf := fun i c hi => hw i c (AH.del_get hi).2
def Swap (a b i : Nat) : Nat := if i = a then b else i
theorem Swap.eq (a b : Nat) : Swap a b a = b := by simp [Swap]
theorem Swap.ne {a b i : Nat} (h : i ≠ a) : Swap a b i = i := by simp [Swap, h]
theorem ext_id {n : Nat} : ∀ i, ext (fun i => i) n n i = i := fun i => by
 unfold ext
 split
 · rfl
 · omega
section
variable {P : Program} {G2 H0 : AH} {e0 : AEnd} {b : Nat}
structure Framed (G2 H0 : AH) (b : Nat) (H1 : AH) : Prop where
 next : H1.next = H0.next
 new : ∀ k, G2.next ≤ k → H1.get k = H0.get k
 old : ∀ k c, k ≠ b → G2.get k = some c → H1.get k = H0.get k
 box : H1.get b = G2.get b
theorem AEnd.ren_id {σ : Nat → Nat} (h : ∀ i, σ i = i) (e : AEnd) : e.ren σ = e := by
 cases e with
 | ret v => simp only [AEnd.ren]; rw [ren_fix (n := v.sup) (fun i _ => h i) v (Nat.le_refl _)]
 | panic v => simp only [AEnd.ren]; rw [ren_fix (n := v.sup) (fun i _ => h i) v (Nat.le_refl _)]
theorem map_ren_id {σ : Nat → Nat} (h : ∀ i, σ i = i) (o : Option Chunk) : o.map (Chunk.ren σ) = o := by
 cases o with
 | none => rfl
 | some c => rw [Option.map_some, Chunk.ren_fix (n := c.sup) (fun i _ => h i) c (Nat.le_refl _)]
theorem framed_of (gw : G2.wf) (hn : G2.next ≤ H0.next) {cb : Chunk} (hb : G2.get b = some cb) : Framed G2 H0 b (after (fun i => i) (G2.del b) H0 G2) := by
 have em : Emb (fun i => i) (G2.del b) G2 := ⟨fun i hi => hi, fun i c hi => by rw [Chunk.ren_fix (n := c.sup) (fun i _ => rfl) c (Nat.le_refl _)]; exact (AH.del_get hi).2, fun i j _ _ h => h⟩
 refine ⟨?_, fun k hk => ?_, fun k c hk hg => ?_, ?_⟩
 · show G2.next + (H0.next - G2.next) = H0.next
   omega
 · have := after_new (σ := fun i => i) (h := G2.del b) (h' := H0) (g := G2) (i := k) hk
   rw [show G2.next + (k - (G2.del b).next) = k by simp only [AH.del]; omega] at this
   rw [this]; exact map_ren_id ext_id _
 · have := after_old (h' := H0) em (AH.del_wf gw) (i := k) (c := c) (by rw [AH.del_ne hk]; exact hg)
   rw [this]; exact map_ren_id ext_id _
 · exact after_else (gw b cb hb).1 fun i c hi => (AH.del_get hi).1
theorem JApp_frame {fv : AV} {args : List AV} (hc : JApp P fv args (G2.del b) (fun e H => e = e0 ∧ H = H0)) (gw : G2.wf) (hf : fv.sup ≤ G2.next) (hs : supL args ≤ G2.next) {cb : Chunk} (hb : G2.get b = some cb) :
 JApp P fv args G2 (fun e H1 => e = e0 ∧ Framed G2 H0 b H1) := by
 have em : Emb (fun i => i) (G2.del b) G2 := ⟨fun i hi => hi, fun i c hi => by rw [Chunk.ren_fix (n := c.sup) (fun i _ => rfl) c (Nat.le_refl _)]; exact (AH.del_get hi).2, fun i j _ _ h => h⟩
 have := JApp_trans hc em (AH.del_wf gw) hf hs
 rw [ren_fix (n := fv.sup) (fun i _ => rfl) fv (Nat.le_refl _), renL_fix (n := supL args) (fun i _ => rfl) args (Nat.le_refl _)] at this
 refine this.mono ?_
 rintro e2 g2 ⟨e, h', ⟨rfl, rfl⟩, _, hn, _, rfl, rfl⟩
 exact ⟨AEnd.ren_id ext_id _, framed_of gw hn hb⟩
theorem JCall_frame {f : FuncId} {args : List AV} (hc : JCall P f args (G2.del b) (fun e H => e = e0 ∧ H = H0)) (gw : G2.wf) (hs : supL args ≤ G2.next) {cb : Chunk} (hb : G2.get b = some cb) :
 JCall P f args G2 (fun e H1 => e = e0 ∧ Framed G2 H0 b H1) := by
 have em : Emb (fun i => i) (G2.del b) G2 := ⟨fun i hi => hi, fun i c hi => by rw [Chunk.ren_fix (n := c.sup) (fun i _ => rfl) c (Nat.le_refl _)]; exact (AH.del_get hi).2, fun i j _ _ h => h⟩
 have := JCall_trans hc em (AH.del_wf gw) hs
 rw [renL_fix (n := supL args) (fun i _ => rfl) args (Nat.le_refl _)] at this
 refine this.mono ?_
 rintro e2 g2 ⟨e, h', ⟨rfl, rfl⟩, _, hn, _, rfl, rfl⟩
 exact ⟨AEnd.ren_id ext_id _, framed_of gw hn hb⟩
structure Second (M : AH) (a b : Nat) (z : List AV) (g : AH) : Prop where
 mw : M.wf
 box : M.get a = some (.own z)
 below : ∀ i c, M.get i = some c → i ≠ a → i < a ∧ c.sup ≤ a
 zs : supL z = 0
 noB : M.get b = none
 keep : ∀ i c, M.get i = some c → i ≠ a → g.get i = some c
 boxB : g.get b = some (.own z)
 next : M.next ≤ g.next
 bLt : b < g.next
theorem Second.emb {M g : AH} {a b : Nat} {z : List AV} (s : Second M a b z g) : Emb (Swap a b) M g := by
 refine ⟨fun i hi => ?_, fun i c hi => ?_, fun i j hi hj h => ?_⟩
 · unfold Swap; split
   · exact s.bLt
   · have := s.next; omega
 · by_cases c' : i = a
   · subst c'
     rw [s.box] at hi; cases hi
     rw [Swap.eq, s.boxB]
     simp only [Chunk.ren]
     rw [renL_fix (n := 0) (fun i hi => absurd hi (Nat.not_lt_zero i)) z (by rw [s.zs]; exact Nat.le_refl _)]
   · obtain ⟨h1, h2⟩ := s.below i c hi c'
     rw [Swap.ne c', s.keep i c hi c', Chunk.ren_fix (n := a) (fun j hj => Swap.ne (by omega)) c h2]
 · obtain ⟨ci, hi⟩ := hi
   obtain ⟨cj, hj⟩ := hj
   unfold Swap at h
   have hb := s.noB
   split at h <;> split at h
   · omega
   · subst h; rw [hb] at hj; cases hj
   · subst h; rw [hb] at hi; cases hi
   · exact h
structure Again (M H0 : AH) (a b : Nat) (g H3 : AH) : Prop where
 le : Le (g.del b) H3
 box : H3.get b = (H0.get a).map (Chunk.ren (ext (Swap a b) M.next g.next))
 new : ∀ i, M.next ≤ i → H3.get (g.next + (i - M.next)) = (H0.get i).map (Chunk.ren (ext (Swap a b) M.next g.next))
theorem again_of {M g : AH} {a : Nat} {z : List AV} (s : Second M a b z g) (gw : g.wf) (hk : ∀ i c, M.get i = some c → i ≠ a → H0.get i = some c) : Again M H0 a b g (after (Swap a b) M H0 g) := by
 have em := s.emb
 refine ⟨⟨by simp only [after, AH.del]; omega, fun k c hk2 => ?_⟩, ?_, fun i hi => after_new hi⟩
 · obtain ⟨hkb, hg⟩ := AH.del_get hk2
   by_cases hm : ∃ c', M.get k = some c' ∧ k ≠ a
   · obtain ⟨c', h1, h2⟩ := hm
     have h3 := after_old (h' := H0) em s.mw h1
     rw [Swap.ne h2, hk k c' h1 h2, Option.map_some] at h3
     rw [h3]
     have h4 := s.keep k c' h1 h2
     rw [hg] at h4; cases h4
     obtain ⟨b1, b2⟩ := s.below k c h1 h2
     have ha := (s.mw a _ s.box).1
     rw [Chunk.ren_fix (n := a) (fun j hj => ?_) c b2]
     unfold ext
     rw [if_pos (by omega), Swap.ne (by omega)]
   · rw [after_else (gw k c hg).1 fun i ci hi => ?_]
     · exact hg
     · intro e
       by_cases hia : i = a
       · subst hia; rw [Swap.eq] at e; exact hkb e.symm
       · rw [Swap.ne hia] at e; subst e; exact hm ⟨ci, hi, hia⟩
 · have := after_old (h' := H0) em s.mw s.box
   rw [Swap.eq] at this
   exact this
theorem JApp_again {M g : AH} {a : Nat} {z : List AV} {fv : AV} (hc : JApp P fv [.ptr (some (a, 0))] M (fun e H => e = e0 ∧ H = H0)) (s : Second M a b z g) (hf : fv.sup ≤ a) (hk : ∀ i c, M.get i = some c → i ≠ a → H0.get i = some c) :
 JApp P fv [.ptr (some (b, 0))] g (fun e H3 => (∀ v, e0 = .ret v → ∃ v', e = .ret v') ∧ Again M H0 a b g H3) := JApp_wf fun gw => by
 have ha := (s.mw a _ s.box).1
 have := JApp_trans hc s.emb s.mw (by omega) (by simp only [supL, AV.sup, supA]; omega)
 rw [ren_fix (n := a) (fun i hi => Swap.ne (by omega)) fv hf] at this
 have e : renL (Swap a b) [.ptr (some (a, 0))] = [.ptr (some (b, 0))] := by simp only [renL, AV.ren, renA, Swap.eq]
 rw [e] at this
 refine this.mono ?_
 rintro e2 g2 ⟨e, h', ⟨rfl, rfl⟩, _, hn, _, rfl, rfl⟩
 exact ⟨fun v hv => by subst hv; exact ⟨_, rfl⟩, again_of s gw hk⟩
theorem JCall_again {M g : AH} {a : Nat} {z : List AV} {f : FuncId} {x : AV} (hc : JCall P f [x, .ptr (some (a, 0))] M (fun e H => e = e0 ∧ H = H0)) (s : Second M a b z g) (hx : x.sup ≤ a) (hk : ∀ i c, M.get i = some c → i ≠ a → H0.get i = some c) :
 JCall P f [x, .ptr (some (b, 0))] g (fun e H3 => (∀ v, e0 = .ret v → ∃ v', e = .ret v') ∧ Again M H0 a b g H3) := JCall_wf fun gw => by
 have ha := (s.mw a _ s.box).1
 have := JCall_trans hc s.emb s.mw (by simp only [supL, AV.sup, supA]; omega)
 have e : renL (Swap a b) [x, .ptr (some (a, 0))] = [x, .ptr (some (b, 0))] := by
  simp only [renL, AV.ren, renA, Swap.eq]
  rw [ren_fix (n := a) (fun i hi => Swap.ne (by omega)) x hx]
 rw [e] at this
 refine this.mono ?_
 rintro e2 g2 ⟨e, h', ⟨rfl, rfl⟩, _, hn, _, rfl, rfl⟩
 exact ⟨fun v hv => by subst hv; exact ⟨_, rfl⟩, again_of s gw hk⟩
end
def Lst (h : AH) (n0 : Nat) (p : Option (Nat × Nat)) (vs : List AV) : Prop :=
 vs = [] ∨ ∃ id off cs, p = some (id, off) ∧ n0 ≤ id ∧ h.cells id = some cs ∧ off + vs.length ≤ cs.length ∧ (cs.drop off).take vs.length = vs
def Txt (h : AH) (n0 a : Nat) (p : Option (Nat × Nat)) (c : Cap) (q : Option (Nat × Nat)) (d : Cap) (L : List Int) (K : List ByteArray) : Prop :=
 Own h a [.slice p L.length c, .slice q K.length d] ∧ Lst h n0 p (L.map (AV.int .i64)) ∧ Lst h n0 q (K.map AV.str) ∧ L.length ≤ 4294967296 ∧ K.length ≤ 4294967296
theorem cells_of_get {h h' : AH} {i j : Nat} (e : h'.get j = h.get i) : h'.cells j = h.cells i := by simp [AH.cells, e]
theorem Lst.move {h h' : AH} {n0 : Nat} {p : Option (Nat × Nat)} {vs : List AV} (l : Lst h n0 p vs) (hm : ∀ i c, n0 ≤ i → h.get i = some c → (∃ o, p = some (i, o)) → h'.get i = some c) : Lst h' n0 p vs := by
 rcases l with l | ⟨id, off, cs, h1, h2, h3, h4⟩
 · exact .inl l
 · refine .inr ⟨id, off, cs, h1, h2, ?_, h4⟩
   cases hg : h.get id with
   | none => simp [AH.cells, hg] at h3
   | some c => rw [← h3]; exact cells_of_get ((hm id c h2 hg ⟨off, h1⟩).trans hg.symm)
theorem cells_ren {h : AH} {h' : AH} {σ : Nat → Nat} {i j : Nat} {cs : List AV} (e : h'.get j = (h.get i).map (Chunk.ren σ)) (hc : h.cells i = some cs) : h'.cells j = some (renL σ cs) := by
 unfold AH.cells at hc ⊢
 rw [e]
 cases hg : h.get i with
 | none => rw [hg] at hc; cases hc
 | some c => rw [hg] at hc; cases c <;> simp_all [Chunk.ren]
theorem Lst.ren {h h' : AH} {σ : Nat → Nat} {n0 : Nat} {p : Option (Nat × Nat)} {vs : List AV} (l : Lst h n0 p vs) (hm : ∀ i, n0 ≤ i → h'.get (σ i) = (h.get i).map (Chunk.ren σ)) (hv : renL σ vs = vs) : Lst h' 0 (renA σ p) vs := by
 rcases l with l | ⟨id, off, cs, rfl, h2, h3, h4, h5⟩
 · exact .inl l
 · refine .inr ⟨σ id, off, renL σ cs, rfl, Nat.zero_le _, cells_ren (hm id h2) h3, by simpa using h4, ?_⟩
   rw [renL_map, ← List.map_drop, ← List.map_take, h5, ← renL_map, hv]
theorem renL_ints (σ : Nat → Nat) : ∀ L : List Int, renL σ (L.map (AV.int .i64)) = L.map (AV.int .i64)
 | [] => rfl
 | x :: L => by simp only [List.map_cons, renL, AV.ren, renL_ints σ L]
theorem renL_strs (σ : Nat → Nat) : ∀ L : List ByteArray, renL σ (L.map AV.str) = L.map AV.str
 | [] => rfl
 | x :: L => by simp only [List.map_cons, renL, AV.ren, renL_strs σ L]
theorem Again.txt {M H0 g H3 : AH} {a b : Nat} {p : Option (Nat × Nat)} {c : Cap} {q : Option (Nat × Nat)} {d : Cap} {L : List Int} {K : List ByteArray} (s : Again M H0 a b g H3) (t : Txt H0 M.next a p c q d L K) :
 ∃ p' q', Txt H3 0 b p' c q' d L K := by
 obtain ⟨t1, t2, t3, t4, t5⟩ := t
 refine ⟨renA (ext (Swap a b) M.next g.next) p, renA (ext (Swap a b) M.next g.next) q, ?_, t2.ren (fun i hi => ?_) (renL_ints _ L), t3.ren (fun i hi => ?_) (renL_strs _ K), t4, t5⟩
 · show H3.get b = _
   rw [s.box, show H0.get a = some (.own _) from t1]
   rfl
 · rw [show ext (Swap a b) M.next g.next i = g.next + (i - M.next) by unfold ext; rw [if_neg (by omega)]]
   exact s.new i hi
 · rw [show ext (Swap a b) M.next g.next i = g.next + (i - M.next) by unfold ext; rw [if_neg (by omega)]]
   exact s.new i hi
def Puts (P : Program) (M : AH) (a : Nat) (H0 : AH) (w : AV) : Prop :=
 (∀ i c, M.get i = some c → i ≠ a → H0.get i = some c) ∧ ∃ p c q d L K, Txt H0 M.next a p c q d L K ∧
   ∀ g, (∀ i c, M.next ≤ i → H0.get i = some c → g.get i = some c) → JApp P w [] g (fun e g2 => (∃ v, e = .ret v) ∧ g.next ≤ g2.next ∧ ∀ i c, g.get i = some c → (i < M.next ∨ (∃ o, p = some (i, o)) ∨ (∃ o, q = some (i, o))) → g2.get i = some c)
def isGrow : Chunk → Bool
 | .grow _ _ => true
 | _ => false
structure LeO (b : Nat) (h h' : AH) : Prop where
 next : h.next ≤ h'.next
 get : ∀ j c, h.get j = some c → j ≠ b → isGrow c = false → h'.get j = some c
theorem LeO.refl (b : Nat) (h : AH) : LeO b h h := ⟨Nat.le_refl _, fun _ _ a _ _ => a⟩
theorem LeO.trans {b : Nat} {h h' h'' : AH} (a : LeO b h h') (c : LeO b h' h'') : LeO b h h'' := ⟨Nat.le_trans a.next c.next, fun j k hj hne hg => c.get j k (a.get j k hj hne hg) hne hg⟩
theorem Le.leO {b : Nat} {h h' : AH} (a : Le h h') : LeO b h h' := ⟨a.next, fun j c hj _ _ => a.get j c hj⟩
theorem LeO.le {b : Nat} {h h' h'' : AH} (a : LeO b h h') (c : Le h' h'') : LeO b h h'' := a.trans c.leO
theorem LeO.own {b : Nat} {h h' : AH} (a : LeO b h h') {j : Nat} {cs : List AV} (o : Own h j cs) (hne : j ≠ b) : Own h' j cs := a.get j _ o hne rfl
theorem But.leO {b : Nat} {h h' : AH} (a : But h b h') : LeO b h h' := ⟨a.next, fun j c hj hne _ => a.get j c hne hj⟩
theorem StepB.leO {b : Nat} {hB h h' : AH} {v : AV} {n esz : Nat} {E : List AV → Prop} (s : StepB v h h') (bl : Bld hB h v n esz E) : LeO b h h' := ⟨s.next, fun j c hj _ hg => s.get j c (fun o k d e => by
 subst e
 rcases bl with ⟨_, e⟩ | ⟨i, cs, e, g, _⟩
 · cases e
 · cases e
   rw [show h.get j = some (.grow esz cs) from g] at hj
   cases hj; cases hg) hj⟩
theorem StepB.ownG {hB h h' : AH} {v : AV} {n esz j : Nat} {E : List AV → Prop} {cs : List AV} (s : StepB v h h') (bl : Bld hB h v n esz E) (o : Own h j cs) : Own h' j cs :=
 (s.leO (b := j + 1) bl).own o (by omega)
theorem Bld.butO {hB h h' : AH} {v : AV} {n esz j : Nat} {E : List AV → Prop} {cs : List AV} (a : Bld hB h v n esz E) (hl : But h j h') (o : Own h j cs) : Bld hB h' v n esz E := by
 rcases a with a | ⟨i, cs', h1, h2, h3⟩
 · exact .inl a
 · refine .inr ⟨i, cs', h1, h2.but hl ?_, h3⟩
   intro e; subst e
   have h4 : h.get i = some (.grow esz cs') := h2
   rw [show h.get i = some (.own cs) from o] at h4
   cases h4
theorem Bld.all1 {hB h : AH} {v : AV} {n esz : Nat} {E : List AV → Prop} (a : Bld hB h v n esz E) : [v].all AV.one = true := by
 rcases a with ⟨_, rfl⟩ | ⟨i, cs', rfl, _⟩ <;> rfl
theorem Bld.cells1 {hB h : AH} {v : AV} {n esz : Nat} {E : List AV → Prop} (a : Bld hB h v n esz E) : v.cells = [v] := by
 rcases a with ⟨_, rfl⟩ | ⟨i, cs', rfl, _⟩ <;> rfl
def Apart2 (v u : AV) : Prop := ∀ i o k c o' k' c', v = .slice (some (i, o)) k c → u = .slice (some (i, o')) k' c' → False
theorem Apart2.symm {v u : AV} (a : Apart2 v u) : Apart2 u v := fun i o k c o' k' c' h1 h2 => a i o' k' c' o k c h2 h1
theorem Bld.step {hB' h h' : AH} {v u : AV} {m esz : Nat} {E : List AV → Prop} (a : Bld hB' h u m esz E) (s : StepB v h h') (hd : Apart2 v u) : Bld hB' h' u m esz E := by
 rcases a with a | ⟨i, cs', rfl, h2, h3⟩
 · exact .inl a
 · exact .inr ⟨i, cs', rfl, s.get i _ (fun o k c e => hd i o k c 0 m (.grow 0) e rfl) h2, h3⟩
theorem FreshB.apart {hB h : AH} {v u : AV} {m esz : Nat} {E : List AV → Prop} (f : FreshB v h) (a : Bld hB h u m esz E) : Apart2 v u := by
 intro i o k c o' k' c' h1 h2
 have hn := f i o k c h1
 rcases a with ⟨_, e⟩ | ⟨i', cs', e, h3, _⟩
 · subst e; cases h2
 · subst e; cases h2
   rw [show h.get i = some (.grow esz cs') from h3] at hn
   cases hn
abbrev EInt (h : AH) : List AV → Prop := okL h [.int (-9223372036854775808) 9223372036854775807]
abbrev EStr (h : AH) : List AV → Prop := okL h [.str]
structure HBx (hB h : AH) (b n m : Nat) (vn vs : AV) : Prop where
 le : Le hB h
 noB : hB.get b = none
 own : Own h b [vn, vs]
 ints : Bld hB h vn n 1 (EInt hB)
 strs : Bld hB h vs m 1 (EStr hB)
 apart : Apart2 vn vs
def HB (hB h : AH) (b n m : Nat) : Prop := ∃ vn vs, HBx hB h b n m vn vs
theorem HBx.step {hB h h' : AH} {b n m : Nat} {vn vs : AV} (a : HBx hB h b n m vn vs) (l : Le h h') : HBx hB h' b n m vn vs :=
 ⟨a.le.trans l, a.noB, a.own.le l, a.ints.le l, a.strs.le l, a.apart⟩
theorem HB.le {hB h h' : AH} {b n m : Nat} (a : HB hB h b n m) (l : Le h h') : HB hB h' b n m := by
 obtain ⟨vn, vs, x⟩ := a; exact ⟨vn, vs, x.step l⟩
theorem HB.leB {hB h : AH} {b n m : Nat} (a : HB hB h b n m) : Le hB h := by obtain ⟨vn, vs, x⟩ := a; exact x.le
theorem HB.ne {hB h : AH} {b n m j : Nat} (a : HB hB h b n m) (hf : h.get j = none) : b ≠ j := by
 obtain ⟨vn, vs, x⟩ := a
 intro e; subst e
 rw [show h.get b = some (.own [vn, vs]) from x.own] at hf; cases hf
theorem HB.new {h : AH} {b : Nat} (o : Own h b [.slice none 0 (.exact 0), .slice none 0 (.exact 0)]) : HB (h.del b) h b 0 0 :=
 ⟨_, _, ⟨Nat.le_refl _, fun j c hj => (AH.del_get hj).2⟩, by simp [AH.del], o, .nil, .nil, fun i o k c o' k' c' e => by cases e⟩
theorem HBx.putN {hB h h1 h2 h3 : AH} {b n m : Nat} {vn vs v' : AV} (a : HBx hB h b n m vn vs) (l1 : Le h h1) (bl : Bld hB h2 v' (n + 1) 1 (EInt hB)) (l2 : Le hB h2) (st : StepB vn h1 h2) (fr : FreshB v' h1) (bt : But h2 b h3) (ow : Own h3 b [v', vs]) :
 HB hB h3 b (n + 1) m ∧ LeO b h h3 := by
 have a1 := a.step l1
 have o2 := st.ownG a1.ints a1.own
 refine ⟨⟨v', vs, l2.but bt a.noB, a.noB, ow, bl.butO bt o2, (a1.strs.step st a1.apart).butO bt o2, fr.apart a1.strs⟩, ?_⟩
 exact (l1.leO.trans (st.leO a1.ints)).trans bt.leO
theorem HBx.putS {hB h h1 h2 h3 : AH} {b n m : Nat} {vn vs v' : AV} (a : HBx hB h b n m vn vs) (l1 : Le h h1) (bl : Bld hB h2 v' (m + 1) 1 (EStr hB)) (l2 : Le hB h2) (st : StepB vs h1 h2) (fr : FreshB v' h1) (bt : But h2 b h3) (ow : Own h3 b [vn, v']) :
 HB hB h3 b n (m + 1) ∧ LeO b h h3 := by
 have a1 := a.step l1
 have o2 := st.ownG a1.strs a1.own
 refine ⟨⟨vn, v', l2.but bt a.noB, a.noB, ow, (a1.ints.step st a1.apart.symm).butO bt o2, bl.butO bt o2, (fr.apart a1.ints).symm⟩, ?_⟩
 exact (l1.leO.trans (st.leO a1.strs)).trans bt.leO
theorem Lst.at {h : AH} {n0 : Nat} {p : Option (Nat × Nat)} {vs : List AV} (l : Lst h n0 p vs) {i : Int} (h0 : 0 ≤ i) (hi : i < vs.length) :
 ∃ id off cs, p = some (id, off) ∧ h.cells id = some cs ∧ cs[off + i.toNat * 1]? = vs[i.toNat]? := by
 rcases l with rfl | ⟨id, off, cs, h1, _, h3, h4, h5⟩
 · simp at hi; omega
 · refine ⟨id, off, cs, h1, h3, ?_⟩
   have e : vs[i.toNat]? = ((cs.drop off).take vs.length)[i.toNat]? := by rw [h5]
   rw [e, List.getElem?_take_of_lt (by omega), List.getElem?_drop, Nat.mul_one]
theorem Lst.le {h h' : AH} {n0 : Nat} {p : Option (Nat × Nat)} {vs : List AV} (l : Lst h n0 p vs) (a : Le h h') : Lst h' n0 p vs := by
 rcases l with l | ⟨id, off, cs, h1, h2, h3, h4⟩
 · exact .inl l
 · exact .inr ⟨id, off, cs, h1, h2, a.cells h3, h4⟩
theorem Lst.zero {h : AH} {n0 : Nat} {p : Option (Nat × Nat)} {vs : List AV} (l : Lst h n0 p vs) : Lst h 0 p vs := by
 rcases l with l | ⟨id, off, cs, h1, _, h3⟩
 · exact .inl l
 · exact .inr ⟨id, off, cs, h1, Nat.zero_le _, h3⟩
theorem Lst.int {h : AH} {n0 : Nat} {p : Option (Nat × Nat)} {L : List Int} (l : Lst h n0 p (L.map (AV.int .i64))) {i : Int} (h0 : 0 ≤ i) (hi : i < L.length) :
 ∃ id off cs, p = some (id, off) ∧ h.cells id = some cs ∧ cs[off + i.toNat * 1]? = some (.int .i64 (L.getD i.toNat 0)) := by
 obtain ⟨id, off, cs, h1, h2, h3⟩ := l.at h0 (by simpa using hi)
 refine ⟨id, off, cs, h1, h2, h3.trans ?_⟩
 have : i.toNat < L.length := by omega
 simp [List.getD, this]
theorem Lst.str {h : AH} {n0 : Nat} {p : Option (Nat × Nat)} {L : List ByteArray} (l : Lst h n0 p (L.map AV.str)) {i : Int} (h0 : 0 ≤ i) (hi : i < L.length) :
 ∃ id off cs, p = some (id, off) ∧ h.cells id = some cs ∧ cs[off + i.toNat * 1]? = some (.str (L.getD i.toNat ByteArray.empty)) := by
 obtain ⟨id, off, cs, h1, h2, h3⟩ := l.at h0 (by simpa using hi)
 refine ⟨id, off, cs, h1, h2, h3.trans ?_⟩
 have : i.toNat < L.length := by omega
 simp [List.getD, this]
theorem JCall_sup {P : Program} {f : FuncId} {args : List AV} {h : AH} {Q : AEnd → AH → Prop} (hc : supL args ≤ h.next → JCall P f args h Q) : JCall P f args h Q := fun a b => hc b a b
section rules
variable {P : Program} {r : Option Nat} {sl : List (Nat × AV)} {h₀ : AH} {nt : Nat} {ds : List ADef} {Q : AExit → St → Prop} {o : Oper} {d : Nat} {x y : Operand}
theorem x_neSame {T U : TypeId} {k : IntKind} {a : Int} (h : Q .normal ⟨(d, .bool false) :: sl, h₀, nt, ds⟩) (ho : o.op = .binOp .neq T x y U := by exact rfl) (hd : o.dst = some d := by exact rfl) (hx : ev sl x = some (.int k a) := by exact rfl) (hy : ev sl y = some (.int k a) := by exact rfl) (hdn : d < nt := by decide) : JO P r o ⟨sl, h₀, nt, ds⟩ Q := w_ne0 ho hd hdn hx hy (by simpa using h)
theorem x_sneSame {T U : TypeId} {p : ByteArray} (h : Q .normal ⟨(d, .bool false) :: sl, h₀, nt, ds⟩) (ho : o.op = .binOp .neq T x y U := by exact rfl) (hd : o.dst = some d := by exact rfl) (hx : ev sl x = some (.str p) := by exact rfl) (hy : ev sl y = some (.str p) := by exact rfl) (hdn : d < nt := by decide) : JO P r o ⟨sl, h₀, nt, ds⟩ Q := w_sne ho hd hdn hx hy (by simpa using h)
end rules
def WB (h : AH) (i m : Nat) : Prop := ∃ cs : List AV, m ≤ cs.length ∧ (Own h i cs ∨ ∃ e, Grow h i e cs)
theorem WB.leM {h h' : AH} {i m : Nat} {M : List Nat} (a : WB h i m) (l : LeM M h h') (hi : i ∉ M) : WB h' i m := by
 obtain ⟨cs, h1, h2 | ⟨e, h2⟩⟩ := a
 · exact ⟨cs, h1, .inl (l.get i _ hi h2)⟩
 · exact ⟨cs, h1, .inr ⟨e, l.get i _ hi h2⟩⟩
theorem WB.le {h h' : AH} {i m : Nat} (a : WB h i m) (l : Le h h') : WB h' i m := by
 obtain ⟨cs, h1, h2 | ⟨e, h2⟩⟩ := a
 · exact ⟨cs, h1, .inl (l.get i _ h2)⟩
 · exact ⟨cs, h1, .inr ⟨e, l.get i _ h2⟩⟩
theorem WB.ne {h : AH} {i m j : Nat} (a : WB h i m) (hf : h.get j = none) : i ≠ j := by
 intro e; subst e
 obtain ⟨cs, h1, h2 | ⟨e, h2⟩⟩ := a
 · rw [show h.get i = some (.own cs) from h2] at hf; cases hf
 · rw [show h.get i = some (.grow e cs) from h2] at hf; cases hf
section rules
variable {P : Program} {r : Option Nat} {sl : List (Nat × AV)} {h₀ : AH} {nt : Nat} {ds : List ADef} {Q : AExit → St → Prop} {o : Oper} {d : Nat} {x y : Operand}
theorem x_storeW {v : AV} {T : TypeId} {id off m : Nat} (hn : (P.info? T).map (·.size) = some 1) (hw : WB h₀ id m) (h : ∀ h', But h₀ id h' → WB h' id m → Q .normal ⟨sl, h', nt, ds⟩) (ho : o.op = .store T x y := by exact rfl) (hd : o.dst = none := by exact rfl) (hx : ev sl x = some (.ptr (some (id, off))) := by exact rfl) (hy : ev sl y = some v := by exact rfl) (hvc : v.cells = [v] := by exact rfl) (h1 : AV.one v = true := by exact rfl) (hlt : off < m := by omega) : JO P r o ⟨sl, h₀, nt, ds⟩ Q := by
 obtain ⟨cs, hm, hg | ⟨e, hg⟩⟩ := hw
 · refine w_store hn ho hd hx hy hvc hg rfl (by omega) (by simp [h1]) rfl fun h' a => h h' a.but ⟨_, ?_, .inl a.own⟩
   rw [splice_length (by simp; omega)]; exact hm
 · refine w_storeG hn ho hd hx hy hvc hg rfl (by omega) (by simp [h1]) rfl fun h' a => h h' a.but ⟨_, ?_, .inr ⟨e, a.grow⟩⟩
   rw [splice_length (by simp; omega)]; exact hm
end rules
def WL (h : AH) (p : Option (Nat × Nat)) (n esz : Nat) : Prop := n = 0 ∨ ∃ i off, p = some (i, off) ∧ WB h i (off + n * esz)
structure LeP (p : Option (Nat × Nat)) (h h' : AH) : Prop where
 next : h.next ≤ h'.next
 get : ∀ j c, h.get j = some c → (∀ o, p ≠ some (j, o)) → h'.get j = some c
theorem LeP.refl (p : Option (Nat × Nat)) (h : AH) : LeP p h h := ⟨Nat.le_refl _, fun _ _ a _ => a⟩
theorem LeP.trans {p : Option (Nat × Nat)} {h h' h'' : AH} (a : LeP p h h') (b : LeP p h' h'') : LeP p h h'' := ⟨Nat.le_trans a.next b.next, fun j c hj hn => b.get j c (a.get j c hj hn) hn⟩
theorem Bld.wl {hB h : AH} {p : Option (Nat × Nat)} {c : Cap} {n esz : Nat} {E : List AV → Prop} (a : Bld hB h (.slice p n c) n esz E) : WL h p n esz := by
 rcases a with ⟨rfl, _⟩ | ⟨i, cs, e, h2, _, h3, _⟩
 · exact .inl rfl
 · cases e; exact .inr ⟨i, 0, rfl, cs, by omega, .inr ⟨esz, h2⟩⟩
inductive TT where
 | int (lo hi : Int)
 | bool
 | str
 | is (v : AV)
 | ro (t : Ty)
 | ls (e : List TT) (lo hi : Nat)
inductive CT where
 | cells (l : List TT)
 | arr (e : List TT) (m : Nat)
 | map (K : AV → Prop) (V : TT)
 | raw (Φ : Chunk → Prop)
abbrev Sig := Nat → Option CT
mutual
def okT (hB : AH) (g : Sig) : TT → AV → Prop
 | .int lo hi, v => ∃ n : Int, v = .int .i64 n ∧ lo ≤ n ∧ n ≤ hi
 | .bool, v => ∃ b, v = .bool b
 | .str, v => ∃ s, v = .str s ∧ s.size ≤ 1048576
 | .is u, v => v = u
 | .ro t, v => okV hB t v
 | .ls e lo hi, v => ∃ p n c, v = .slice p n c ∧ lo ≤ n ∧ n ≤ hi ∧ ((p = none ∧ n = 0) ∨ ∃ i k m, p = some (i, k * e.length) ∧ g i = some (.arr e m) ∧ k + n ≤ m)
def okTL (hB : AH) (g : Sig) : List TT → List AV → Prop
 | [], l => l = []
 | t :: ts, l => ∃ v r, l = v :: r ∧ okT hB g t v ∧ okTL hB g ts r
end
def SigLe (g g' : Sig) : Prop := ∀ i ct, g i = some ct → g' i = some ct
theorem SigLe.refl (g : Sig) : SigLe g g := fun _ _ h => h
theorem SigLe.trans {g g' g'' : Sig} (a : SigLe g g') (b : SigLe g' g'') : SigLe g g'' := fun i ct h => b i ct (a i ct h)
def SigA (g g' : Sig) : Prop := ∀ i e m, g i = some (.arr e m) → g' i = some (.arr e m)
theorem SigLe.a {g g' : Sig} (s : SigLe g g') : SigA g g' := fun i _ _ => s i _
theorem SigA.trans {g g' g'' : Sig} (a : SigA g g') (b : SigA g' g'') : SigA g g'' := fun i e m h => b i e m (a i e m h)
theorem okT.monoA {hB : AH} {g g' : Sig} (s : SigA g g') : ∀ {t : TT} {v : AV}, okT hB g t v → okT hB g' t v
 | .int _ _, _, h => h
 | .bool, _, h => h
 | .str, _, h => h
 | .is _, _, h => h
 | .ro _, _, h => h
 | .ls e lo hi, v, h => by
   obtain ⟨p, n, c, h1, h2, h3, h4⟩ := h
   refine ⟨p, n, c, h1, h2, h3, ?_⟩
   rcases h4 with h4 | ⟨i, k, m, h5, h6, h7⟩
   · exact .inl h4
   · exact .inr ⟨i, k, m, h5, s i _ _ h6, h7⟩
theorem okTL.monoA {hB : AH} {g g' : Sig} (s : SigA g g') : ∀ {t : List TT} {l : List AV}, okTL hB g t l → okTL hB g' t l
 | [], _, h => h
 | t :: ts, l, h => by
   obtain ⟨v, r, h1, h2, h3⟩ := h
   exact ⟨v, r, h1, h2.monoA s, okTL.monoA s h3⟩
theorem okT.mono {hB : AH} {g g' : Sig} (s : SigLe g g') {t : TT} {v : AV} (h : okT hB g t v) : okT hB g' t v := h.monoA s.a
theorem okTL.mono {hB : AH} {g g' : Sig} (s : SigLe g g') {t : List TT} {l : List AV} (h : okTL hB g t l) : okTL hB g' t l := h.monoA s.a
def Elems (E : List AV → Prop) (esz m : Nat) (cs : List AV) : Prop :=
 cs.length = m * esz ∧ ∀ k : Int, 0 ≤ k → k < m → ∃ l, l.length = esz ∧ E l ∧ (cs.drop (k.toNat * esz)).take esz = l
def okC (hB : AH) (g : Sig) : CT → Chunk → Prop
 | .cells ts, c => ∃ cs, c = .own cs ∧ okTL hB g ts cs
 | .arr e m, c => ∃ cs, (c = .own cs ∨ ∃ k, c = .grow k cs) ∧ Elems (okTL hB g e) e.length m cs
 | .map K V, c => ∃ es cl, c = .map es cl ∧ (∀ x ∈ es, K x.1) ∧ ∀ x ∈ es, okT hB g V x.2.1
 | .raw Φ, c => Φ c
theorem Elems.imp {E E' : List AV → Prop} {esz m : Nat} {cs : List AV} (a : Elems E esz m cs) (h : ∀ l, E l → E' l) : Elems E' esz m cs :=
 ⟨a.1, fun k k0 k1 => by obtain ⟨l, h1, h2, h3⟩ := a.2 k k0 k1; exact ⟨l, h1, h l h2, h3⟩⟩
theorem okC.monoA {hB : AH} {g g' : Sig} (s : SigA g g') {ct : CT} {c : Chunk} (h : okC hB g ct c) : okC hB g' ct c := by
 cases ct with
 | cells ts => obtain ⟨cs, h1, h2⟩ := h; exact ⟨cs, h1, h2.monoA s⟩
 | arr e m => obtain ⟨cs, h1, h2⟩ := h; exact ⟨cs, h1, h2.imp fun l hl => hl.monoA s⟩
 | map K V => obtain ⟨es, cl, h1, h2, h3⟩ := h; exact ⟨es, cl, h1, h2, fun x hx => (h3 x hx).monoA s⟩
 | raw Φ => exact h
theorem okC.mono {hB : AH} {g g' : Sig} (s : SigLe g g') {ct : CT} {c : Chunk} (h : okC hB g ct c) : okC hB g' ct c := h.monoA s.a
def LsK (g : Sig) (e : List TT) (p : Option (Nat × Nat)) (n : Nat) : Prop := (p = none ∧ n = 0) ∨ ∃ i k m, p = some (i, k * e.length) ∧ g i = some (.arr e m) ∧ k + n ≤ m
theorem LsK.mono {g g' : Sig} {e : List TT} {p : Option (Nat × Nat)} {n : Nat} (a : LsK g e p n) (s : SigLe g g') : LsK g' e p n := by
 rcases a with a | ⟨i, k, m, h1, h2, h3⟩
 · exact .inl a
 · exact .inr ⟨i, k, m, h1, s i _ h2, h3⟩
theorem LsK.monoA {g g' : Sig} {e : List TT} {p : Option (Nat × Nat)} {n : Nat} (a : LsK g e p n) (s : SigA g g') : LsK g' e p n := by
 rcases a with a | ⟨i, k, m, h1, h2, h3⟩
 · exact .inl a
 · exact .inr ⟨i, k, m, h1, s i _ _ h2, h3⟩
structure HT (hB : AH) (g : Sig) (h : AH) : Prop where
 le : Le hB h
 fr : ∀ i, g i ≠ none → NewN hB i
 ok : ∀ i ct, g i = some ct → ∃ c, h.get i = some c ∧ okC hB g ct c
structure Stp (hB : AH) (g : Sig) (h : AH) (g' : Sig) (h' : AH) : Prop where
 le0 : Le hB h
 ht : HT hB g' h'
 sub : SigLe g g'
 next : h.next ≤ h'.next
 keep : ∀ i c, g i = none → h.get i = some c → h'.get i = some c ∧ g' i = none
 new : ∀ i, g i = none → g' i ≠ none → NewN h i
section
variable {hB h h' h'' : AH} {g g' g'' : Sig}
theorem HT.refl (a : HT hB g h) : Stp hB g h g h := ⟨a.le, a, .refl _, Nat.le_refl _, fun _ _ h1 h2 => ⟨h2, h1⟩, fun _ h1 h2 => absurd h1 h2⟩
def Sig.nil : Sig := fun _ => none
theorem HT.start (h : AH) : HT h Sig.nil h := ⟨.refl _, fun i hi => absurd rfl hi, fun i ct hi => by simp [Sig.nil] at hi⟩
theorem HT.un0 (a : HT hB g h) {i : Nat} (hn : h.get i = none) : g i = none := by
 cases e : g i with
 | none => rfl
 | some ct => obtain ⟨c, h1, _⟩ := a.ok i ct e; rw [hn] at h1; cases h1
theorem HT.base (a : HT hB g h) {i : Nat} {c : Chunk} (hi : hB.get i = some c) : g i = none := by
 cases e : g i with
 | none => rfl
 | some ct => have := (a.fr i (by rw [e]; simp)).1; rw [hi] at this; cases this
theorem HT.next (a : HT hB g h) : hB.next ≤ h.next := a.le.next
theorem Stp.newN (a : Stp hB g h g' h') {i : Nat} (hn : NewN h' i) : NewN h i := by
 refine ⟨?_, Nat.le_trans a.next hn.2⟩
 cases e : h.get i with
 | none => rfl
 | some c =>
   cases eg : g i with
   | none => have := (a.keep i c eg e).1; rw [hn.1] at this; cases this
   | some ct => have := a.ht.un0 hn.1; rw [a.sub i ct eg] at this; cases this
theorem Stp.trans (a : Stp hB g h g' h') (b : Stp hB g' h' g'' h'') : Stp hB g h g'' h'' :=
 ⟨a.le0, b.ht, a.sub.trans b.sub, Nat.le_trans a.next b.next, fun i c h1 h2 => b.keep i c (a.keep i c h1 h2).2 (a.keep i c h1 h2).1, fun i h1 h2 => by
  cases e : g' i with
  | none => exact a.newN (b.new i e h2)
  | some ct => exact a.new i h1 (by rw [e]; simp)⟩
theorem Stp.le (a : Stp hB g h g' h') (b : Le h' h'') : Stp hB g h g' h'' :=
 ⟨a.le0, ⟨a.ht.le.trans b, a.ht.fr, fun i ct hi => by obtain ⟨c, h1, h2⟩ := a.ht.ok i ct hi; exact ⟨c, b.get _ _ h1, h2⟩⟩, a.sub, Nat.le_trans a.next b.next,
  fun i c h1 h2 => ⟨b.get _ _ (a.keep i c h1 h2).1, (a.keep i c h1 h2).2⟩, a.new⟩
def SlW (h : AH) (i m esz : Nat) (E : List AV → Prop) : Prop := ∃ cs, (Own h i cs ∨ ∃ k, Grow h i k cs) ∧ Elems E esz m cs
theorem SlO.slw {h : AH} {i m esz : Nat} {E : List AV → Prop} (a : SlO h i m esz E) : SlW h i m esz E := by
 obtain ⟨cs, h1, h2, h3⟩ := a; exact ⟨cs, .inl h1, h2, h3⟩
def TOk (hB : AH) (g : Sig) (h : AH) (i : Nat) : Prop := ∃ ct c, g i = some ct ∧ h.get i = some c ∧ okC hB g ct c
theorem TOk.own {i : Nat} {ts : List TT} {cs : List AV} (a : Own h i cs) (hg : g i = some (.cells ts)) (hk : okTL hB g ts cs) : TOk hB g h i := ⟨_, _, hg, a, cs, rfl, hk⟩
theorem TOk.slo {i m esz : Nat} {e : List TT} {E : List AV → Prop} (a : SlO h i m esz E) (hg : g i = some (.arr e m)) (hz : e.length = esz) (hE : ∀ l, E l → okTL hB g e l) : TOk hB g h i := by
 obtain ⟨cs, h1, h2, h3⟩ := a
 subst hz
 exact ⟨_, _, hg, h1, cs, .inl rfl, Elems.imp ⟨h2, h3⟩ hE⟩
theorem TOk.slw {i m esz : Nat} {e : List TT} {E : List AV → Prop} (a : SlW h i m esz E) (hg : g i = some (.arr e m)) (hz : e.length = esz) (hE : ∀ l, E l → okTL hB g e l) : TOk hB g h i := by
 subst hz
 obtain ⟨cs, h1 | ⟨k, h1⟩, h2⟩ := a
 · exact ⟨_, _, hg, h1, cs, .inl rfl, h2.imp hE⟩
 · exact ⟨_, _, hg, h1, cs, .inr ⟨k, rfl⟩, h2.imp hE⟩
theorem Stp.turn {M : List Nat} (a : Stp hB g h g' h') (b : LeM M h' h'') (hM : ∀ i ∈ M, (g' i = none ∧ h.get i = none) ∨ TOk hB g' h'' i) : Stp hB g h g' h'' := by
 refine ⟨a.le0, ⟨⟨Nat.le_trans a.ht.le.next b.next, fun i c hi => ?_⟩, a.ht.fr, fun i ct hi => ?_⟩, a.sub, Nat.le_trans a.next b.next, fun i c h1 h2 => ?_, a.new⟩
 · refine b.get i c (fun hm => ?_) (a.ht.le.get i c hi)
   rcases hM i hm with ⟨_, q⟩ | ⟨ct, _, q, _⟩
   · rw [a.le0.get i c hi] at q; cases q
   · rw [a.ht.base hi] at q; cases q
 · by_cases hm : i ∈ M
   · rcases hM i hm with ⟨q, _⟩ | ⟨ct', c, q, q2, q3⟩
     · rw [hi] at q; cases q
     · rw [hi] at q; cases q; exact ⟨c, q2, q3⟩
   · obtain ⟨c, h1, h2⟩ := a.ht.ok i ct hi; exact ⟨c, b.get _ _ hm h1, h2⟩
 · obtain ⟨k1, k2⟩ := a.keep i c h1 h2
   refine ⟨b.get i c (fun hm => ?_) k1, k2⟩
   rcases hM i hm with ⟨_, q⟩ | ⟨ct, _, q, _⟩
   · rw [h2] at q; cases q
   · rw [k2] at q; cases q
theorem Stp.reg (a : Stp hB g h g' h') {i : Nat} {c : Chunk} {ct : CT} (hn : NewN h i) (hi : g' i = none) (hc : h'.get i = some c) (hk : okC hB g' ct c) :
 ∃ g2, Stp hB g h g2 h' ∧ SigLe g' g2 ∧ g2 i = some ct ∧ ∀ j, j ≠ i → g2 j = g' j := by
 have s : SigLe g' (fun j => if j = i then some ct else g' j) := fun j c2 hj => by
  by_cases e : j = i
  · subst e; rw [hi] at hj; cases hj
  · simp only [e, if_false]; exact hj
 refine ⟨fun j => if j = i then some ct else g' j, ⟨a.le0, ⟨a.ht.le, fun j hj => ?_, fun j c2 hj => ?_⟩, a.sub.trans s, a.next, fun j c2 h1 h2 => ?_, fun j h1 h2 => ?_⟩, s, by simp, fun j hj => by simp [hj]⟩
 · by_cases e : j = i
   · subst e; exact a.le0.newN hn
   · simp only [e, if_false] at hj; exact a.ht.fr j hj
 · by_cases e : j = i
   · subst e; simp only [if_true, Option.some.injEq] at hj; subst hj; exact ⟨c, hc, hk.mono s⟩
   · simp only [e, if_false] at hj; obtain ⟨c3, h1, h2⟩ := a.ht.ok j c2 hj; exact ⟨c3, h1, h2.mono s⟩
 · obtain ⟨k1, k2⟩ := a.keep j c2 h1 h2
   refine ⟨k1, ?_⟩
   have e : j ≠ i := fun e => by subst e; rw [hn.1] at h2; cases h2
   simp [e, k2]
 · by_cases e : j = i
   · subst e; exact hn
   · simp only [e, if_false] at h2; exact a.new j h1 h2
theorem Stp.regO (a : Stp hB g h g' h') {i : Nat} {cs : List AV} {ts : List TT} (hn : NewN h i) (hi : g' i = none) (hc : Own h' i cs) (hk : okTL hB g' ts cs) :
 ∃ g2, Stp hB g h g2 h' ∧ SigLe g' g2 ∧ g2 i = some (.cells ts) ∧ ∀ j, j ≠ i → g2 j = g' j := a.reg hn hi hc ⟨cs, rfl, hk⟩
theorem Stp.regA (a : Stp hB g h g' h') {i m esz : Nat} {e : List TT} {E : List AV → Prop} (hn : NewN h i) (hi : g' i = none) (hc : SlO h' i m esz E) (hz : e.length = esz) (hE : ∀ l, E l → okTL hB g' e l) :
 ∃ g2, Stp hB g h g2 h' ∧ SigLe g' g2 ∧ g2 i = some (.arr e m) ∧ ∀ j, j ≠ i → g2 j = g' j := by
 obtain ⟨cs, h1, h2, h3⟩ := hc
 subst hz
 exact a.reg hn hi h1 ⟨cs, .inl rfl, Elems.imp ⟨h2, h3⟩ hE⟩
theorem Stp.regL (a : Stp hB g h g' h') {h0 : AH} {v : AV} {n esz : Nat} {e : List TT} {E : List AV → Prop} (hb : Bld h0 h' v n esz E) (hn : ∀ i, NewN h0 i → NewN h i) (hi : ∀ i, (∃ k cs, Grow h' i k cs) → NewN h0 i → g' i = none) (hz : e.length = esz) (hE : ∀ l, E l → okTL hB g' e l) :
 ∃ g2 p c, Stp hB g h g2 h' ∧ SigLe g' g2 ∧ v = .slice p n c ∧ LsK g2 e p n ∧ ∀ j, (∃ cs, Own h' j cs) → g2 j = g' j := by
 subst hz
 rcases hb with ⟨rfl, rfl⟩ | ⟨i, cs, rfl, k1, k2, k3, k4⟩
 · exact ⟨g', _, _, a, .refl _, rfl, .inl ⟨rfl, rfl⟩, fun _ _ => rfl⟩
 · obtain ⟨g2, s, sl, q1, q2⟩ := a.reg (ct := .arr e n) (hn i k2) (hi i ⟨_, _, k1⟩ k2) k1 ⟨cs, .inr ⟨_, rfl⟩, Elems.imp ⟨k3, k4⟩ hE⟩
   refine ⟨g2, _, _, s, sl, rfl, .inr ⟨i, 0, n, by simp, q1, by omega⟩, fun j ⟨cs', ho⟩ => q2 j fun e => ?_⟩
   subst e
   simp only [Own, Grow] at ho k1
   rw [k1] at ho; cases ho
theorem HT.cells (a : HT hB g h) {i : Nat} {ts : List TT} (hi : g i = some (.cells ts)) : ∃ cs, Own h i cs ∧ okTL hB g ts cs := by
 obtain ⟨c, h1, cs, rfl, h2⟩ := a.ok i _ hi; exact ⟨cs, h1, h2⟩
theorem HT.arr (a : HT hB g h) {i m : Nat} {e : List TT} (hi : g i = some (.arr e m)) : SlW h i m e.length (okTL hB g e) := by
 obtain ⟨c, h1, cs, rfl | ⟨k, rfl⟩, h2⟩ := a.ok i _ hi
 · exact ⟨cs, .inl h1, h2⟩
 · exact ⟨cs, .inr ⟨k, h1⟩, h2⟩
theorem part_elems {E : List AV → Prop} {h : AH} {i esz m k n : Nat} {cs : List AV} (hc : h.cells i = some cs) (he : Elems E esz m cs) (hk : k + n ≤ m) : SlV h (some (i, k * esz)) n esz E := fun _ => by
 refine ⟨i, k * esz, cs, rfl, hc, by rw [he.1, ← Nat.add_mul]; exact Nat.mul_le_mul_right _ hk, fun j j0 j1 => ?_⟩
 obtain ⟨l, h1, h2, h3⟩ := he.2 (k + j) (by omega) (by omega)
 refine ⟨l, h1, h2, ?_⟩
 rw [show ((k : Int) + j).toNat = k + j.toNat by omega, Nat.add_mul] at h3
 exact h3
theorem SlW.cells {i m esz : Nat} {E : List AV → Prop} (a : SlW h i m esz E) : ∃ cs, h.cells i = some cs ∧ Elems E esz m cs := by
 obtain ⟨cs, h1 | ⟨k, h1⟩, h2⟩ := a
 · exact ⟨cs, h1.cells, h2⟩
 · exact ⟨cs, h1.cells, h2⟩
theorem SlW.slV {i m esz : Nat} {E : List AV → Prop} (a : SlW h i m esz E) : SlV h (some (i, 0)) m esz E := by
 obtain ⟨cs, h1, h2⟩ := a.cells
 simpa using part_elems (k := 0) h1 h2 (by omega)
theorem SlW.le {i m esz : Nat} {E : List AV → Prop} (a : SlW h i m esz E) (l : Le h h') : SlW h' i m esz E := by
 obtain ⟨cs, h1 | ⟨k, h1⟩, h2⟩ := a
 · exact ⟨cs, .inl (h1.le l), h2⟩
 · exact ⟨cs, .inr ⟨k, h1.le l⟩, h2⟩
theorem SlW.but {i j m esz : Nat} {E : List AV → Prop} (a : SlW h i m esz E) (l : But h j h') (hne : i ≠ j) : SlW h' i m esz E := by
 obtain ⟨cs, h1 | ⟨k, h1⟩, h2⟩ := a
 · exact ⟨cs, .inl (h1.but l hne), h2⟩
 · exact ⟨cs, .inr ⟨k, h1.but l hne⟩, h2⟩
theorem SlW.leM {i m esz : Nat} {E : List AV → Prop} {M : List Nat} (a : SlW h i m esz E) (l : LeM M h h') (hne : i ∉ M) : SlW h' i m esz E := by
 obtain ⟨cs, h1 | ⟨k, h1⟩, h2⟩ := a
 · exact ⟨cs, .inl (h1.leM l hne), h2⟩
 · exact ⟨cs, .inr ⟨k, h1.leM l hne⟩, h2⟩
theorem SlW.ne {i j m esz : Nat} {E : List AV → Prop} (a : SlW h i m esz E) (hn : h.get j = none) : i ≠ j := by
 obtain ⟨cs, h1, _⟩ := a.cells; exact ne_of_cells hn h1
theorem SlW.imp {i m esz : Nat} {E E' : List AV → Prop} (a : SlW h i m esz E) (hE : ∀ l, E l → E' l) : SlW h i m esz E' := by
 obtain ⟨cs, h1, h2⟩ := a; exact ⟨cs, h1, h2.imp hE⟩
theorem HT.sl (a : HT hB g h) {e : List TT} {p : Option (Nat × Nat)} {n : Nat} (k : LsK g e p n) : SlV h p n e.length (okTL hB g e) := by
 rcases k with ⟨rfl, rfl⟩ | ⟨i, k, m, rfl, h2, h3⟩
 · exact SlV.zero
 · obtain ⟨cs, h4, h5⟩ := (a.arr h2).cells
   exact part_elems h4 h5 h3
def Frs (hB h : AH) (v : AV) (n esz : Nat) (E : List AV → Prop) : Prop :=
 ∃ p c, v = .slice p n c ∧ SlV h p n esz E ∧ (n = 0 ∨ ∃ i off, p = some (i, off) ∧ NewN hB i ∧ ∃ cs : List AV, off + n * esz ≤ cs.length ∧ (Own h i cs ∨ ∃ k, Grow h i k cs))
theorem Bld.frs {v : AV} {n esz : Nat} {E : List AV → Prop} (a : Bld hB h v n esz E) : Frs hB h v n esz E := by
 rcases a with ⟨rfl, rfl⟩ | ⟨i, cs, rfl, k1, k2, k3, k4⟩
 · exact ⟨_, _, rfl, SlV.zero, .inl rfl⟩
 · obtain ⟨p, c, e, s⟩ := Bld.slc (.inr ⟨i, cs, rfl, k1, k2, k3, k4⟩ : Bld hB h _ n esz E)
   simp only [AV.slice.injEq] at e; obtain ⟨rfl, _, rfl⟩ := e
   exact ⟨_, _, rfl, s, .inr ⟨i, 0, rfl, k2, cs, by omega, .inr ⟨_, k1⟩⟩⟩
theorem Frs.le {v : AV} {n esz : Nat} {E : List AV → Prop} (a : Frs hB h v n esz E) (l : Le h h') : Frs hB h' v n esz E := by
 obtain ⟨p, c, h1, h2, h3⟩ := a
 refine ⟨p, c, h1, h2.le l, ?_⟩
 rcases h3 with h3 | ⟨i, off, k1, k2, cs, k3, k4 | ⟨k, k4⟩⟩
 · exact .inl h3
 · exact .inr ⟨i, off, k1, k2, cs, k3, .inl (l.get _ _ k4)⟩
 · exact .inr ⟨i, off, k1, k2, cs, k3, .inr ⟨k, l.get _ _ k4⟩⟩
theorem Frs.base {hA : AH} {v : AV} {n esz : Nat} {E : List AV → Prop} (a : Frs hB h v n esz E) (l : Le hA hB) : Frs hA h v n esz E := by
 obtain ⟨p, c, h1, h2, h3⟩ := a
 refine ⟨p, c, h1, h2, ?_⟩
 rcases h3 with h3 | ⟨i, off, k1, k2, k3⟩
 · exact .inl h3
 · exact .inr ⟨i, off, k1, l.newN k2, k3⟩
theorem Frs.imp {v : AV} {n esz : Nat} {E E' : List AV → Prop} (a : Frs hB h v n esz E) (hE : ∀ l, l.length = esz → E l → E' l) : Frs hB h v n esz E' := by
 obtain ⟨p, c, h1, h2, h3⟩ := a; exact ⟨p, c, h1, h2.imp hE, h3⟩
theorem Frs.nil {esz : Nat} {E : List AV → Prop} : Frs hB h (.slice none 0 (.exact 0)) 0 esz E := ⟨_, _, rfl, SlV.zero, .inl rfl⟩
theorem Stp.frs (a : Stp hB Sig.nil h g' h') {e : List TT} {p : Option (Nat × Nat)} {n : Nat} {c : Cap} (k : LsK g' e p n) : Frs h h' (.slice p n c) n e.length (okTL hB g' e) := by
 refine ⟨p, c, rfl, a.ht.sl k, ?_⟩
 rcases k with ⟨rfl, rfl⟩ | ⟨i, k, m, rfl, h2, h3⟩
 · exact .inl rfl
 · obtain ⟨cs, h4, h5⟩ := a.ht.arr h2
   exact .inr ⟨i, _, rfl, a.new i rfl (by rw [h2]; simp), cs, by rw [h5.1, ← Nat.add_mul]; exact Nat.mul_le_mul_right _ h3, h4⟩
theorem Stp.own (a : Stp hB g h g' h') {i : Nat} {cs : List AV} (o : Own h i cs) (hn : g i = none) : Own h' i cs := (a.keep i _ hn o).1
theorem Stp.un (a : Stp hB g h g' h') {i : Nat} {c : Chunk} (o : h.get i = some c) (hn : g i = none) : g' i = none := (a.keep i _ hn o).2
end
theorem Stp.slo {hB h h' : AH} {g g' : Sig} (a : Stp hB g h g' h') {i m esz : Nat} {E : List AV → Prop} (o : SlO h i m esz E) (hn : g i = none) : SlO h' i m esz E := by
 obtain ⟨cs, h1, h2⟩ := o; exact ⟨cs, a.own h1 hn, h2⟩
theorem SlO.get {h : AH} {i m esz : Nat} {E : List AV → Prop} (o : SlO h i m esz E) : ∃ c, h.get i = some c := by
 obtain ⟨cs, h1, _⟩ := o; exact ⟨_, h1⟩
theorem SlO.q {h : AH} {i m esz n : Nat} {E : List AV → Prop} (o : SlO h i m esz E) : n = 0 → (some (i, 0) : Option (Nat × Nat)) = none ∨ ∃ id off cs, (some (i, 0) : Option (Nat × Nat)) = some (id, off) ∧ h.cells id = some cs ∧ off ≤ cs.length := fun _ => by
 obtain ⟨cs, h1, _⟩ := o
 exact .inr ⟨i, 0, cs, rfl, h1.cells, Nat.zero_le _⟩
theorem SlW.q {h : AH} {i m esz n : Nat} {E : List AV → Prop} (o : SlW h i m esz E) : n = 0 → (some (i, 0) : Option (Nat × Nat)) = none ∨ ∃ id off cs, (some (i, 0) : Option (Nat × Nat)) = some (id, off) ∧ h.cells id = some cs ∧ off ≤ cs.length := fun _ => by
 obtain ⟨cs, h1, _⟩ := o.cells
 exact .inr ⟨i, 0, cs, rfl, h1, Nat.zero_le _⟩
theorem cell_at {cs l : List AV} {o n k off : Nat} {v : AV} (h : (cs.drop o).take n = l) (hv : l[k]? = some v) (e : off = o + k) : cs[off]? = some v := by subst e; exact cell_of_take h hv
theorem ne_sig {g : Sig} {i j : Nat} {ct : CT} (hi : g i = none) (hj : g j = some ct) : i ≠ j := fun e => by rw [e, hj] at hi; cases hi
theorem LsK.pos {g : Sig} {e : List TT} {p : Option (Nat × Nat)} {n : Nat} (a : LsK g e p n) (hn : 0 < n) : ∃ i k m, p = some (i, k * e.length) ∧ g i = some (.arr e m) ∧ k + n ≤ m := by
 rcases a with ⟨_, h⟩ | h
 · omega
 · exact h
theorem Stp.drop {hB h h' : AH} {g g' : Sig} (a : Stp hB g h g' h') {l : Nat} {Φ : Chunk → Prop} (hl : g' l = some (.raw Φ)) (hgl : g l = none) (hn : h.get l = none) :
 ∃ g2, Stp hB g h g2 (h'.drop l) ∧ SigA g' g2 ∧ ∀ j, j ≠ l → g2 j = g' j := by
 have sA : SigA g' (fun j => if j = l then none else g' j) := fun i e m => by
  by_cases q : i = l
  · subst q; intro h1; rw [hl] at h1; cases h1
  · simp [q]
 have dg : ∀ i, i ≠ l → (h'.drop l).get i = h'.get i := fun i hi => by simp [AH.drop, hi]
 refine ⟨fun j => if j = l then none else g' j, ⟨a.le0, ⟨⟨a.ht.le.next, fun i c hi => ?_⟩, fun i hi => ?_, fun i ct hi => ?_⟩, fun i ct hi => ?_, a.next, fun i c h1 h2 => ?_, fun i h1 h2 => ?_⟩, sA, fun j hj => by simp [hj]⟩
 · have q : i ≠ l := fun q => by subst q; rw [a.le0.get i c hi] at hn; cases hn
   rw [dg i q]; exact a.ht.le.get i c hi
 · by_cases q : i = l
   · simp [q] at hi
   · simp only [q, if_false] at hi; exact a.ht.fr i hi
 · by_cases q : i = l
   · simp [q] at hi
   · simp only [q, if_false] at hi
     obtain ⟨c, h1, h2⟩ := a.ht.ok i ct hi
     exact ⟨c, by rw [dg i q]; exact h1, h2.monoA sA⟩
 · have q : i ≠ l := fun q => by subst q; rw [hgl] at hi; cases hi
   simp only [q, if_false]; exact a.sub i ct hi
 · have q : i ≠ l := fun q => by subst q; rw [hn] at h2; cases h2
   obtain ⟨k1, k2⟩ := a.keep i c h1 h2
   exact ⟨by rw [dg i q]; exact k1, by simp [q, k2]⟩
 · by_cases q : i = l
   · simp [q] at h2
   · simp only [q, if_false] at h2; exact a.new i h1 h2
def KeepOld (h h1 h2 : AH) : Prop := ∀ i c, h.get i ≠ none → h1.get i = some c → h2.get i = some c
theorem KeepOld.refl (h h1 : AH) : KeepOld h h1 h1 := fun _ _ _ h => h
theorem KeepOld.le {h h1 h2 h3 : AH} (a : KeepOld h h1 h2) (b : Le h2 h3) : KeepOld h h1 h3 := fun i c h0 hc => b.get i c (a i c h0 hc)
theorem KeepOld.but {h h1 h2 h3 : AH} {j : Nat} (a : KeepOld h h1 h2) (b : But h2 j h3) (hj : h.get j = none) : KeepOld h h1 h3 := fun i c h0 hc => b.get i c (fun e => by subst e; exact h0 hj) (a i c h0 hc)
theorem KeepOld.leM {h h1 h2 h3 : AH} {M : List Nat} (a : KeepOld h h1 h2) (b : LeM M h2 h3) (hM : ∀ j ∈ M, h.get j = none) : KeepOld h h1 h3 := fun i c h0 hc => b.get i c (fun e => h0 (hM i e)) (a i c h0 hc)
theorem Entered.news {h h1 : AH} {m l : Nat} {c : Chunk} (e : Entered h m l c h1) (hw : h.wf) : ∃ h', New h m .mark h' ∧ New h' l c h1 := by
 obtain ⟨e1, e2, e3, e4, e5, e6⟩ := e
 have hm : h.get m = none := by
  cases q : h.get m with
  | none => rfl
  | some c => have := (hw m c q).1; omega
 have hl : h.get l = none := by
  cases q : h.get l with
  | none => rfl
  | some c => have := (hw l c q).1; omega
 refine ⟨⟨m + 1, fun j => if j = m then some .mark else h.get j⟩, ⟨⟨by simp only; omega, fun j c hj => ?_⟩, by simp, hm, by omega⟩, ⟨⟨by simp only; omega, fun j c hj => ?_⟩, e5, by show (if l = m then _ else h.get l) = none; rw [if_neg (by omega)]; exact hl, by simp only; omega⟩⟩
 · have : j ≠ m := fun q => by subst q; rw [hm] at hj; cases hj
   simp [this, hj]
 · simp only at hj
   split at hj
   · rename_i q; subst q; simp only [Option.some.injEq] at hj; subst hj; exact e4
   · rw [e6 j (by have := (hw j c hj).1; omega)]; exact hj
theorem okTL_set {hB : AH} {g : Sig} : ∀ {e : List TT} {l : List AV} {j : Nat} {t : TT} {v : AV}, okTL hB g e l → e[j]? = some t → okT hB g t v → okTL hB g e (l.set j v)
 | [], _, _, _, _, _, h, _ => by simp at h
 | t0 :: e, l, 0, t, v, a, h, hv => by
   obtain ⟨u, r, rfl, h1, h2⟩ := a
   simp at h; subst h
   exact ⟨v, r, rfl, hv, h2⟩
 | t0 :: e, l, j + 1, t, v, a, h, hv => by
   obtain ⟨u, r, rfl, h1, h2⟩ := a
   exact ⟨u, r.set j v, rfl, h1, okTL_set h2 (by simpa using h) hv⟩
theorem splice_set {cs : List AV} {off : Nat} {v : AV} (h : off < cs.length) : splice cs off [v] = cs.set off v := by
 rw [splice, List.set_eq_take_append_cons_drop, if_pos h]; simp
theorem set_elem {cs : List AV} {v : AV} {k q esz j : Nat} (hj : j < esz) (hk : k * esz + esz ≤ cs.length) : ((cs.set (k * esz + j) v).drop (q * esz)).take esz = if q = k then ((cs.drop (k * esz)).take esz).set j v else (cs.drop (q * esz)).take esz := by
 apply List.ext_getElem?
 intro x
 by_cases hq : q = k
 · subst hq
   rw [if_pos rfl, List.getElem?_take, List.getElem?_set, List.getElem?_drop, List.getElem?_set]
   by_cases hx : x < esz
   · rw [if_pos hx]
     by_cases hxj : j = x
     · subst hxj
       rw [if_pos rfl, if_pos rfl, if_pos (by omega), if_pos (by rw [List.length_take, List.length_drop]; omega)]
     · rw [if_neg (by omega), if_neg hxj, List.getElem?_take, if_pos hx, List.getElem?_drop]
   · rw [if_neg hx, if_neg (by omega), List.getElem?_take, if_neg hx]
 · rw [if_neg hq, List.getElem?_take, List.getElem?_take, List.getElem?_drop, List.getElem?_drop, List.getElem?_set]
   by_cases hx : x < esz
   · rw [if_pos hx, if_pos hx, if_neg]
     intro e
     rcases Nat.lt_or_gt_of_ne hq with h | h
     · have := Nat.mul_le_mul_right esz h; rw [Nat.succ_mul] at this; omega
     · have := Nat.mul_le_mul_right esz h; rw [Nat.succ_mul] at this; omega
   · rw [if_neg hx, if_neg hx]
theorem x_storeT {P : Program} {r : Option Nat} {sl : List (Nat × AV)} {h₀ : AH} {nt : Nat} {ds : List ADef} {Q : AExit → St → Prop} {o : Oper} {x y : Operand} {v : AV} {T : TypeId} {hB : AH} {g : Sig} {e : List TT} {t : TT} {i m j : Nat} {k : Int} {off : Nat} (hn : (P.info? T).map (·.size) = some 1) (hs : SlW h₀ i m e.length (okTL hB g e)) (h : ∀ h', But h₀ i h' → SlW h' i m e.length (okTL hB g e) → Q .normal ⟨sl, h', nt, ds⟩) (ho : o.op = .store T x y := by exact rfl) (hd : o.dst = none := by exact rfl) (hx : ev sl x = some (.ptr (some (i, off))) := by exact rfl) (hy : ev sl y = some v := by exact rfl) (hvc : v.cells = [v] := by exact rfl) (ht : e[j]? = some t := by exact rfl) (h1 : AV.one v = true := by exact rfl) (k0 : 0 ≤ k := by omega) (k1 : k < m := by omega) (hoff : off = k.toNat * e.length + j) (hv : okT hB g t v) : JO P r o ⟨sl, h₀, nt, ds⟩ Q := by
 have hj : j < e.length := (List.getElem?_eq_some_iff.1 ht).1
 subst hoff
 obtain ⟨cs, hc, hl, hel⟩ := hs
 have hb : k.toNat * e.length + e.length ≤ cs.length := by rw [hl, ← Nat.succ_mul]; exact Nat.mul_le_mul_right _ (by omega)
 have hel2 : Elems (okTL hB g e) e.length m (cs.set (k.toNat * e.length + j) v) := by
  refine ⟨by rw [List.length_set]; exact hl, fun q q0 q1 => ?_⟩
  obtain ⟨l, l1, l2, l3⟩ := hel q q0 q1
  rw [set_elem hj hb]
  by_cases e1 : q.toNat = k.toNat
  · rw [if_pos e1, ← e1, l3]
    exact ⟨l.set j v, by rw [List.length_set]; exact l1, okTL_set l2 ht hv, rfl⟩
  · rw [if_neg e1]; exact ⟨l, l1, l2, l3⟩
 have hsp : splice cs (k.toNat * e.length + j) [v] = cs.set (k.toNat * e.length + j) v := splice_set (by omega)
 rcases hc with hc | ⟨k', hc⟩
 · exact w_store hn ho hd hx hy hvc hc rfl (by omega) (by simp [h1]) hsp fun h' st => h h' st.but ⟨_, .inl st.own, hel2⟩
 · exact w_storeG hn ho hd hx hy hvc hc rfl (by omega) (by simp [h1]) hsp fun h' st => h h' st.but ⟨_, .inr ⟨_, st.grow⟩, hel2⟩
theorem scope_n {Q : AExit → St → Prop} {s : St} (h : Q .normal s) : NoGoto Q .normal s := h
theorem AH.drop_but {h : AH} {m : Nat} : But h m (h.drop m) := ⟨Nat.le_refl _, fun j c hj hc => by simp [AH.drop, hj, hc]⟩
theorem leave_retM {P : Program} {fn : Func} {Q : AEnd → AH → Prop} {sl : List (Nat × AV)} {h : AH} {nt m : Nat} {vs : List AV} (hm : h.get m = some .mark) (hr : resL P ⟨sl, h.drop m, nt, []⟩ fn.results.toList = some vs) (hq : Q (.ret (oneOf vs)) (h.drop m)) : Leaves P fn Q .ret ⟨sl, h, nt, [.mark m]⟩ :=
 ⟨⟨hm, trivial⟩, vs, hr, hq⟩
def RY (l : Nat) (mk : LoopState → Option Code → Chunk) (C : Code → Prop) : Bool → AH → Prop
 | true, h => h.get l = some (mk .ready none)
 | false, h => ∃ c, C c ∧ h.get l = some (mk .done (some c))
theorem RY.keep {l : Nat} {mk : LoopState → Option Code → Chunk} {C : Code → Prop} {h0 : AH} (hl : h0.get l ≠ none) : ∀ b h1 h2, RY l mk C b h1 → KeepOld h0 h1 h2 → RY l mk C b h2
 | true, _, _, a, k => k _ _ hl a
 | false, _, _, ⟨c, hc, a⟩, k => ⟨c, hc, k _ _ hl a⟩
theorem rangeEnd_true {P : Program} {r : Option Nat} {l : Nat} {marks : List ADef} {s : St} {Q : AExit → St → Prop} {v : AV} {h2 : AH} {ts : List (Nat × AV)} {nt m : Nat} {ps : Array Tmp} {assign body : Code} {C : Code → Prop} (y : RY l (fun st pd => .loop st pd ts nt ps assign body m) C true h2)
 (q : Q .normal ⟨s.slots, h2.drop l, s.n, marks ++ s.defs⟩) : RangeEnd P r l marks s Q (.ret v) h2 := ⟨_, _, _, _, _, _, _, _, y, by simp, q⟩
theorem AH.SetTo.get {h h' : AH} {i : Nat} {c : Chunk} (a : h.SetTo i c h') : h'.get i = some c := a.new
theorem TOk.raw {hB h : AH} {g : Sig} {i : Nat} {c : Chunk} {Φ : Chunk → Prop} (hc : h.get i = some c) (hg : g i = some (.raw Φ)) (hp : Φ c) : TOk hB g h i := ⟨_, _, hg, hc, hp⟩
theorem Stp.regL2 {hB h h' : AH} {g g' : Sig} (a : Stp hB g h g' h') {h0 : AH} {p : Option (Nat × Nat)} {c : Cap} {n esz : Nat} {e : List TT} {E : List AV → Prop} (hb : Bld h0 h' (.slice p n c) n esz E) (hn : ∀ i, NewN h0 i → NewN h i) (hi : ∀ i, (∃ k cs, Grow h' i k cs) → NewN h0 i → g' i = none) (hz : e.length = esz) (hE : ∀ l, E l → okTL hB g' e l) :
 ∃ g2, Stp hB g h g2 h' ∧ SigLe g' g2 ∧ LsK g2 e p n ∧ ∀ j, (∃ cs, Own h' j cs) → g2 j = g' j := by
 obtain ⟨g2, p', c', s, sl, e1, k, q⟩ := a.regL hb hn hi hz hE
 simp only [AV.slice.injEq] at e1
 obtain ⟨rfl, _, rfl⟩ := e1
 exact ⟨g2, s, sl, k, q⟩
theorem x_copyO {P : Program} {r : Option Nat} {sl : List (Nat × AV)} {h₀ : AH} {nt : Nat} {ds : List ADef} {Q : AExit → St → Prop} {o : Oper} {d : Nat} {x y : Operand} {t t2 e : TypeId} {esz : Nat} {q : Option (Nat × Nat)} {id dl sln cap m : Nat} {c2 : Cap} {E : List AV → Prop} (ht : P.underlying t = some (.slice e)) (hn : (P.info? e).map (·.size) = some esz) (hs : SlO h₀ id m esz E) (hr : SlV h₀ q sln esz E) (hq : sln = 0 → q = none ∨ ∃ id off cs, q = some (id, off) ∧ h₀.cells id = some cs ∧ off ≤ cs.length) (h : ∀ n h', 0 ≤ n → n ≤ (dl : Int) → But h₀ id h' → SlO h' id m esz E → Q .normal ⟨(d, .int .i64 n) :: sl, h', nt, ds⟩) (ho : o.op = .call { callee := .builtin .copy, args := #[x, y], argTypes := #[t, t2] } := by exact rfl) (hd : o.dst = some d := by exact rfl) (hx : ev sl x = some (.slice (some (id, 0)) dl (.exact cap)) := by exact rfl) (hy : ev sl y = some (.slice q sln c2) := by exact rfl) (hdn : d < nt := by decide) (hdm : dl ≤ m := by omega) (hE : ∀ l, E l → l.all AV.one = true) : JO P r o ⟨sl, h₀, nt, ds⟩ Q := by
 obtain ⟨cs, h1, h2, h3⟩ := hs
 have hr' : SlV h₀ q (min sln dl) esz E := hr.take (Nat.min_le_left _ _)
 obtain ⟨new, n1, n2, n3⟩ := hr'.cellsOf (c2 := c2) (fun h0 => by
  by_cases hz : sln = 0
  · exact hq hz
  · obtain ⟨id', off', cs', k1, k2, k3, _⟩ := hr (by omega)
    exact .inr ⟨id', off', cs', k1, k2, by omega⟩)
 have hlen : 0 + min sln dl * esz ≤ cs.length := by
  rw [h2, Nat.zero_add]; exact Nat.mul_le_mul_right _ (by omega)
 refine w_copy ht hn ho hd hdn hx hy h1 rfl (show slCells h₀ (min sln dl) esz (.slice q sln c2) = some new by rw [← n1]; cases q <;> rfl) (all_of_elems hE n2 n3) hlen rfl fun h' st => ?_
 refine h _ h' (by omega) (by omega) st.but ⟨_, st.own, by rw [splice_length (by omega)]; exact h2, fun k k0 k1 => ?_⟩
 by_cases hk : k < (min sln dl : Nat)
 · obtain ⟨l, q1, q2, q3⟩ := n3 k k0 hk
   refine ⟨l, q1, q2, ?_⟩
   have hb : k.toNat * esz + esz ≤ new.length := by rw [n2, ← Nat.succ_mul]; exact Nat.mul_le_mul_right _ (by omega)
   rw [splice, List.take_zero, List.nil_append, List.drop_append_of_le_length (by omega), List.take_append_of_le_length (by rw [List.length_drop]; omega)]
   exact q3
 · obtain ⟨l, q1, q2, q3⟩ := h3 k k0 k1
   refine ⟨l, q1, q2, ?_⟩
   have hb : new.length ≤ k.toNat * esz := by rw [n2]; exact Nat.mul_le_mul_right _ (by omega)
   rw [splice, List.take_zero, List.nil_append, List.drop_append, List.drop_eq_nil_of_le hb, List.nil_append, List.drop_drop, Nat.zero_add]
   rw [show new.length + (k.toNat * esz - new.length) = k.toNat * esz by omega]
   exact q3
abbrev Ty.i : Ty := .int (-9223372036854775808) 9223372036854775807
abbrev TT.i : TT := .int (-9223372036854775808) 9223372036854775807
def dn (c : Code) : List Nat → Code
 | [] => c
 | k :: p => child (dn c p) k
def opOf (ops : Array Oper) (i : Nat) : Oper := (ops[i]?).getD default
theorem opOf_eq {ops : Array Oper} {i : Nat} (h : (ops[i]?).isSome = true) : ops[i]? = some (opOf ops i) := by
 unfold opOf
 cases hi : ops[i]? with
 | none => rw [hi] at h; cases h
 | some o => rfl
def idB : Code → Nat
 | .block id _ => id
 | _ => 0
def cdX : Code → Operand
 | .cond x _ _ => x
 | _ => default
abbrev JI (P : Program) (r : Option Nat) (ops : Array Oper) (i : Nat) (s : St) (Q : AExit → St → Prop) : Prop := JL P r ops ((List.range ops.size).drop i) s Q
section
variable {P : Program} {r : Option Nat} {s : St} {Q : AExit → St → Prop} {ops : Array Oper} {i : Nat} {b : Code} {p : List Nat} {sl : List (Nat × AV)} {h₀ : AH} {nt : Nat} {ds : List ADef}
theorem drop_i (h : (ops[i]?).isSome = true) : (List.range ops.size).drop i = i :: (List.range ops.size).drop (i + 1) := by
 have hi : i < ops.size := by
  rcases Nat.lt_or_ge i ops.size with h' | h'
  · exact h'
  · rw [Array.getElem?_eq_none h'] at h; cases h
 rw [List.drop_eq_getElem_cons (by simpa using hi)]
 simp
theorem Lo (h : JO P r (opOf ops i) s (Then (fun s' => JI P r ops (i + 1) s' Q) Q)) (ho : (ops[i]?).isSome = true := by exact rfl) (hg : (opOf ops i).guard = none := by exact rfl) : JI P r ops i s Q := by
 unfold JI
 rw [drop_i ho]
 exact JL_op (opOf_eq ho) hg h
theorem Ln (h : Q .normal s) (ho : ops.size = i := by exact rfl) : JI P r ops i s Q := by
 unfold JI
 rw [← ho, List.drop_eq_nil_of_le (by simp)]
 exact JL_nil h
theorem Lz (h : JO P r (opOf ops i) s Q) (ho : (ops[i]?).isSome = true := by exact rfl) (hg : (opOf ops i).guard = none := by exact rfl) (hn : ops.size = i + 1 := by exact rfl) : JI P r ops i s Q := by
 refine Lo (h.mono ?_) ho hg
 intro e s' q
 cases e
 case normal => exact Ln q hn
 all_goals exact q
theorem Gl {j d : Nat} {w : Bool} (h : JO P r (opOf ops i) s (Then (fun s' => JI P r ops (i + 1) s' Q) Q)) (ho : (ops[i]?).isSome = true := by exact rfl) (hg : (opOf ops i).guard = some (j, w) := by exact rfl)
 (hj : (ops[j]?).isSome = true := by exact rfl) (hd : (opOf ops j).dst = some d := by exact rfl) (hb : lk s.slots d = some (.bool w) := by exact rfl) : JI P r ops i s Q := by
 unfold JI
 rw [drop_i ho]
 exact JL_opG (opOf_eq ho) hg (opOf_eq hj) hd hb h
theorem Ws {j g d : Nat} {w v : Bool} (h : JI P r ops (i + 1) ⟨(d, .tuple []) :: sl, h₀, nt, ds⟩ Q) (ho : (ops[i]?).isSome = true := by exact rfl) (hg : (opOf ops i).guard = some (j, w) := by exact rfl)
 (hj : (ops[j]?).isSome = true := by exact rfl) (hd : (opOf ops j).dst = some g := by exact rfl) (hb : lk sl g = some (.bool v) := by exact rfl) (hne : v ≠ w := by decide) (hod : (opOf ops i).dst = some d := by exact rfl) (hdn : d < nt := by decide) :
 JI P r ops i ⟨sl, h₀, nt, ds⟩ Q := by
 unfold JI
 rw [drop_i ho]
 exact w_skip (opOf_eq ho) hg (opOf_eq hj) hd hb hne hod hdn h
theorem Wu {j g d : Nat} {w : Bool} (h : JI P r ops (i + 1) ⟨(d, .tuple []) :: sl, h₀, nt, ds⟩ Q) (ho : (ops[i]?).isSome = true := by exact rfl) (hg : (opOf ops i).guard = some (j, w) := by exact rfl)
 (hj : (ops[j]?).isSome = true := by exact rfl) (hd : (opOf ops j).dst = some g := by exact rfl) (hb : lk sl g = some (.tuple []) := by exact rfl) (hod : (opOf ops i).dst = some d := by exact rfl) (hdn : d < nt := by decide) :
 JI P r ops i ⟨sl, h₀, nt, ds⟩ Q := by
 unfold JI
 rw [drop_i ho]
 exact w_skipU (opOf_eq ho) hg (opOf_eq hj) hd hb hod hdn h
theorem Sq (h : J P r (dn b (0 :: p)) s (Then (fun s' => J P r (dn b (1 :: p)) s' Q) Q)) (hc : dn b p = .seq (dn b (0 :: p)) (dn b (1 :: p)) := by exact rfl) : J P r (dn b p) s Q := J_seq hc h
theorem Rg (h : JI P r (opsAt (dn b p)) 0 s Q) (hc : dn b p = .region (idAt (dn b p)) (opsAt (dn b p)) false := by exact rfl) : J P r (dn b p) s Q := J_reg hc rfl h
theorem Sr (h : JI P r (opsAt (dn b (0 :: p))) 0 s (Then (fun s' => J P r (dn b (1 :: p)) s' Q) Q)) (hc : dn b p = .seq (dn b (0 :: p)) (dn b (1 :: p)) := by exact rfl)
 (hr : dn b (0 :: p) = .region (idAt (dn b (0 :: p))) (opsAt (dn b (0 :: p))) false := by exact rfl) : J P r (dn b p) s Q := Sq (Rg h hr) hc
theorem Bk (h : J P r (dn b (0 :: p)) s (InBlk (idB (dn b p)) Q)) (hc : dn b p = .block (idB (dn b p)) (dn b (0 :: p)) := by exact rfl) : J P r (dn b p) s Q := J_block hc h
theorem Sk (h : Q .normal s) (hc : dn b p = .skip := by exact rfl) : J P r (dn b p) s Q := J_skip hc h
theorem Rt (h : Q .ret s) (hc : dn b p = .ret := by exact rfl) : J P r (dn b p) s Q := J_ret hc h
theorem Ex {id : Nat} (h : Q (.exit id) s) (hc : dn b p = .exit id := by exact rfl) : J P r (dn b p) s Q := J_exit hc h
theorem Cn {q : Prop} {dq : Decidable q} (ht : q → J P r (dn b (0 :: p)) ⟨sl, h₀, nt, ds⟩ Q) (hf : ¬q → J P r (dn b (1 :: p)) ⟨sl, h₀, nt, ds⟩ Q) (hc : dn b p = .cond (cdX (dn b p)) (dn b (0 :: p)) (dn b (1 :: p)) := by exact rfl)
 (ho : ev sl (cdX (dn b p)) = some (.bool (decide q)) := by exact rfl) : J P r (dn b p) ⟨sl, h₀, nt, ds⟩ Q := k_condD hc ho ht hf
theorem Cb {v : Bool} (ht : v = true → J P r (dn b (0 :: p)) ⟨sl, h₀, nt, ds⟩ Q) (hf : v = false → J P r (dn b (1 :: p)) ⟨sl, h₀, nt, ds⟩ Q) (hc : dn b p = .cond (cdX (dn b p)) (dn b (0 :: p)) (dn b (1 :: p)) := by exact rfl)
 (ho : ev sl (cdX (dn b p)) = some (.bool v) := by exact rfl) : J P r (dn b p) ⟨sl, h₀, nt, ds⟩ Q := k_cond hc ho ht hf
theorem Ct (ht : J P r (dn b (0 :: p)) ⟨sl, h₀, nt, ds⟩ Q) (hc : dn b p = .cond (cdX (dn b p)) (dn b (0 :: p)) (dn b (1 :: p)) := by exact rfl)
 (ho : ev sl (cdX (dn b p)) = some (.bool true) := by exact rfl) : J P r (dn b p) ⟨sl, h₀, nt, ds⟩ Q := k_condT hc ho ht
theorem Cf (hf : J P r (dn b (1 :: p)) ⟨sl, h₀, nt, ds⟩ Q) (hc : dn b p = .cond (cdX (dn b p)) (dn b (0 :: p)) (dn b (1 :: p)) := by exact rfl)
 (ho : ev sl (cdX (dn b p)) = some (.bool false) := by exact rfl) : J P r (dn b p) ⟨sl, h₀, nt, ds⟩ Q := k_condF hc ho hf
end
section
variable {P : Program} {r : Option Nat} {ops : Array Oper} {sl0 : List (Nat × AV)} {n : Nat} {ds : List ADef} {srcs : List Src} {G : Prop} {V : List AV} {H : List AH} {done : List (Nat × Nat × Bool)} {d : Nat} {v : AV} {h₁ : AH} {sl : List (Nat × AV)}
theorem Dp {V' : List AV} (h : JO P r (opOf ops V.length) ⟨fillS sl0 V (srcs.getD V.length []), hLast H, n, ds⟩ (fun e s' => e = .normal ∧ s' = ⟨(d, v) :: sl, hLast H, n, ds⟩)) (k : JD P r ops sl0 n ds srcs G V' H (done ++ [(V.length, H.length - 1, false)]))
 (ho : (ops[V.length]?).isSome = true := by exact rfl) (hd : (opOf ops V.length).dst = some d := by exact rfl) (hdn : d < n := by decide) (hsrc : (srcs.getD V.length []).all (srcLt V.length) = true := by exact rfl)
 (hw : wantedA ops (opOf ops V.length) (fillS sl0 V (srcs.getD V.length [])) = some true := by exact rfl) (eV : V ++ [v] = V' := by simp only [List.cons_append, List.nil_append]; exact rfl) : JD P r ops sl0 n ds srcs G V H done := by
 subst eV
 refine d_op rfl (opOf_eq ho) hd hdn hsrc rfl rfl hw (h.mono ?_)
 rintro e s' ⟨rfl, rfl⟩
 exact ⟨rfl, rfl, rfl, rfl, v, by simp [lk], k⟩
theorem Dq (h : JO P r (opOf ops V.length) ⟨fillS sl0 V (srcs.getD V.length []), h₁, n, ds⟩ (DP P r ops sl0 n ds srcs G V H done d))
 (ho : (ops[V.length]?).isSome = true := by exact rfl) (hd : (opOf ops V.length).dst = some d := by exact rfl) (hdn : d < n := by decide) (hsrc : (srcs.getD V.length []).all (srcLt V.length) = true := by exact rfl) (hh : hLast H = h₁ := by exact rfl)
 (hw : wantedA ops (opOf ops V.length) (fillS sl0 V (srcs.getD V.length [])) = some true := by exact rfl) : JD P r ops sl0 n ds srcs G V H done := d_op rfl (opOf_eq ho) hd hdn hsrc rfl hh hw h
theorem Po {V' : List AV} {s : St} (k : JD P r ops sl0 n ds srcs G V' H (done ++ [(V.length, H.length - 1, false)])) (h1 : s.h = hLast H := by exact rfl) (h2 : s.n = n := by exact rfl) (h3 : s.defs = ds := by exact rfl) (hv : lk s.slots d = some v := by exact rfl) (eV : V ++ [v] = V' := by simp only [List.cons_append, List.nil_append]; exact rfl) :
 DP P r ops sl0 n ds srcs G V H done d .normal s := by subst eV; exact ⟨rfl, h1, h2, h3, v, hv, k⟩
theorem De (h : JO P r (opOf ops V.length) ⟨fillS sl0 V (srcs.getD V.length []), h₁, n, ds⟩ (DE P r ops sl0 n ds srcs G V H done d))
 (ho : (ops[V.length]?).isSome = true := by exact rfl) (hd : (opOf ops V.length).dst = some d := by exact rfl) (hdn : d < n := by decide) (hsrc : (srcs.getD V.length []).all (srcLt V.length) = true := by exact rfl) (hh : hLast H = h₁ := by exact rfl)
 (hw : wantedA ops (opOf ops V.length) (fillS sl0 V (srcs.getD V.length [])) = some true := by exact rfl) : JD P r ops sl0 n ds srcs G V H done := d_eff rfl (opOf_eq ho) hd hdn hsrc rfl hh hw h
theorem Eo {V' : List AV} {H' : List AH} {s : St} (k : JD P r ops sl0 n ds srcs G V' H' (done ++ [(V.length, H.length - 1, true)])) (h2 : s.n = n := by exact rfl) (h3 : s.defs = ds := by exact rfl) (hv : lk s.slots d = some v := by exact rfl) (eV : V ++ [v] = V' := by simp only [List.cons_append, List.nil_append]; exact rfl) (eH : H ++ [s.h] = H' := by simp only [List.cons_append, List.nil_append]; exact rfl) :
 DE P r ops sl0 n ds srcs G V H done d .normal s := by subst eV; subst eH; exact ⟨rfl, h2, h3, v, hv, k⟩
theorem Da (h : JO P r (opOf ops V.length) ⟨fillS sl0 V (srcs.getD V.length []), h₁, n, ds⟩ (DA P r ops sl0 n ds srcs G V H done))
 (ho : (ops[V.length]?).isSome = true := by exact rfl) (hd : (opOf ops V.length).dst = none := by exact rfl) (hsrc : (srcs.getD V.length []).all (srcLt V.length) = true := by exact rfl) (hh : hLast H = h₁ := by exact rfl)
 (hw : wantedA ops (opOf ops V.length) (fillS sl0 V (srcs.getD V.length [])) = some true := by exact rfl) : JD P r ops sl0 n ds srcs G V H done := d_act rfl (opOf_eq ho) hd hsrc rfl hh hw h
theorem Ao {V' : List AV} {H' : List AH} {s : St} (k : JD P r ops sl0 n ds srcs G V' H' (done ++ [(V.length, H.length - 1, true)])) (h2 : s.n = n := by exact rfl) (h3 : s.defs = ds := by exact rfl) (eV : V ++ [.tuple []] = V' := by simp only [List.cons_append, List.nil_append]; exact rfl) (eH : H ++ [s.h] = H' := by simp only [List.cons_append, List.nil_append]; exact rfl) :
 DA P r ops sl0 n ds srcs G V H done .normal s := by subst eV; subst eH; exact ⟨rfl, h2, h3, k⟩
theorem Dk {V' : List AV} (k : JD P r ops sl0 n ds srcs G V' H (done ++ [(V.length, H.length - 1, false)]))
 (ho : (ops[V.length]?).isSome = true := by exact rfl) (hd : (opOf ops V.length).dst = some d := by exact rfl) (hdn : d < n := by decide) (hsrc : (srcs.getD V.length []).all (srcLt V.length) = true := by exact rfl)
 (hw : wantedA ops (opOf ops V.length) (fillS sl0 V (srcs.getD V.length [])) = some false := by exact rfl) (eV : V ++ [.tuple []] = V' := by simp only [List.cons_append, List.nil_append]; exact rfl) : JD P r ops sl0 n ds srcs G V H done := by subst eV; exact d_skip rfl (opOf_eq ho) hd hdn hsrc rfl hw rfl rfl k
theorem Ra (j t : Nat) (hx : JO P r (opOf ops j) ⟨fillS sl0 V (srcs.getD j []), hAt H t, n, ds⟩ (fun e s' => e = .normal ∧ s' = ⟨(d, v) :: sl, hAt H t, n, ds⟩)) (k : JD P r ops sl0 n ds srcs G V H (done ++ [(j, t, false)]))
 (ho : (ops[j]?).isSome = true := by exact rfl) (hd : (opOf ops j).dst = some d := by exact rfl) (hdn : d < n := by decide) (hsrc : (srcs.getD j []).all (srcLt V.length) = true := by exact rfl)
 (hw : wantedA ops (opOf ops j) (fillS sl0 V (srcs.getD j [])) = some true := by exact rfl) (hk : t < H.length := by exact Nat.le_of_ble_eq_true rfl) (hv : V[j]? = some v := by exact rfl) : JD P r ops sl0 n ds srcs G V H done := by
 refine d_atk hv (opOf_eq ho) hd hdn hsrc rfl rfl hw hk rfl (hx.mono ?_) k
 rintro e s' ⟨rfl, rfl⟩
 exact ⟨rfl, rfl, rfl, rfl, by simp [lk]⟩
end
end Go.J
