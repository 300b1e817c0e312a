import Derived.Test.YtfkofhliffegjaaGreatT3
import Derived.Test.YtfkofhliffegjaaGreatT2
set_option linter.all false
namespace Go.J
def emp (M : Nat) : AH := ⟨M, fun _ => none⟩
def one (M N : Nat) (cs : List AV) : AH := ⟨M, fun i => if i = N then some (.own cs) else none⟩
inductive FK where
 | p0
 | p1
 | e
 | f (N : Nat) (cs : List AV)
 | p2 (M : Nat)
 | s (a ix N M : Nat) (cs cs' : List AV)
def FK.hv (h0 h1 : AH) : FK → AH
 | .p0 => h0
 | .p1 => h1
 | .e => h0
 | .f N _ => emp N
 | .p2 M => emp M
 | .s _ _ N M cs _ => one M N cs
def FK.hw (h0 h1 : AH) : FK → AH
 | .p0 => h0
 | .p1 => h1
 | .e => h1
 | .f N cs => one (N + 1) N cs
 | .p2 M => emp M
 | .s _ _ N M _ cs' => one M N cs'
def FK.T (h1 : AH) : FK → List Nat
 | .e => List.range h1.next
 | .f N _ => [N]
 | .s _ _ N _ _ _ => [N]
 | _ => []
def FK.late : FK → Bool
 | .f _ _ => true
 | .p2 _ => true
 | .s _ _ _ _ _ _ => true
 | _ => false
def FK.isE : FK → Bool
 | .e => true
 | _ => false
def FK.isF : FK → Bool
 | .f _ _ => true
 | _ => false
def FK.isP0 : FK → Bool
 | .p0 => true
 | _ => false
def FK.top (h0 h1 : AH) : FK → Nat
 | .p0 => h0.next
 | .p1 => h1.next
 | .e => h1.next
 | .f N _ => N + 1
 | .p2 M => M
 | .s _ _ _ _ _ _ => 0
def nfl (K : List FK) : Nat := (K.filter FK.isF).length
def lateAt (K : List FK) (j : Nat) : Bool := match K[j]? with | some k => k.late | none => false
def isEAt (K : List FK) (j : Nat) : Bool := match K[j]? with | some k => k.isE | none => false
def isFAt (K : List FK) (j : Nat) : Bool := match K[j]? with | some k => k.isF | none => false
def sOf (K : List FK) (j : Nat) : Option Nat := match K[j]? with | some (.s a _ _ _ _ _) => some a | _ => none
def kindOk (bf : List (List Nat)) (K : List FK) (j : Nat) : FK → Bool
 | .p0 => (bf.getD j []).all (fun b => !lateAt K b) && (List.range K.length).all fun i => !isEAt K i || (bf.getD i []).contains j
 | .p1 => (bf.getD j []).all (fun b => !lateAt K b) && (List.range K.length).all fun i => !isEAt K i || (bf.getD j []).contains i
 | .e => (bf.getD j []).all (fun b => !lateAt K b) && (List.range K.length).all fun i => !isEAt K i || Nat.beq i j
 | .f _ _ => (bf.getD j []).all fun b => !lateAt K b
 | .p2 _ => (List.range K.length).all fun i => (!isEAt K i || (bf.getD j []).contains i) && (!(isFAt K i && Nat.blt i j) || (bf.getD j []).contains i)
 | .s a ix _ _ _ _ => (bf.getD j []).contains a && Nat.blt ix j && (List.range K.length).all fun i => (!isEAt K i || (bf.getD j []).contains i) && (!(isFAt K i && Nat.blt i j) || (bf.getD j []).contains i || !lateAt K ix || Nat.blt ix i) &&
    (match sOf K i with | some a' => Nat.beq i j || !Nat.beq a' a | none => true)
def floatOk (ops : Array Oper) (K : List FK) : Bool :=
 let bf := befs ops
 Nat.beq K.length ops.size && (List.range K.length).all fun j => ((bf.getD j []).all fun b => Nat.blt b j) && match K[j]? with | some k => kindOk bf K j k | none => false
variable (P : Program) (r : Option Nat) (ops : Array Oper) (sl0 : List (Nat × AV)) (n : Nat) (ds : List ADef) (srcs : List Src)
def GoodF (h0 h1 : AH) (V : List AV) (K : List FK) : Prop :=
 ∀ j k, K[j]? = some k → ∃ o v, ops[j]? = some o ∧ V[j]? = some v ∧ (srcs.getD j []).all (srcLt V.length) = true ∧
  OpDo P r ops o ⟨fillS sl0 V (srcs.getD j []), k.hv h0 h1, n, ds⟩ (k.hw h0 h1) v ∧ (k.T h1 ≠ [] → wantedA ops o (fillS sl0 V (srcs.getD j [])) = some true) ∧ v.sup ≤ k.top h0 h1 ∧
  (match k with
    | .f N cs => N = h1.next + nfl (K.take j) ∧ supL cs = 0 ∧ ∀ q : Nat → Bool, q N = true → v.nm q = true
    | .p2 M => M = h1.next + nfl (K.take j)
    | .s a ix N M cs cs' => M = h1.next + nfl (K.take j) ∧ a < j ∧ K[a]? = some (.f N cs) ∧ ix < j ∧ ∃ u kx, V[ix]? = some u ∧ K[ix]? = some kx ∧ supL cs' ≤ u.sup
    | _ => True)
structure SaneF (h0 h1 : AH) (V : List AV) (K : List FK) : Prop where
 len : V.length = K.length
 w0 : h0.wf
 w1 : h1.wf
 nx : h0.next ≤ h1.next
 sl : ∀ k v, lk sl0 k = some v → v.sup ≤ h0.next
 dd : supD ds ≤ h0.next
 rr : rsup r ≤ h0.next
 same : (∀ k ∈ K, k.isE = false) → h1 = h0
def JF (G : Prop) (h0 h1 : AH) (V : List AV) (K : List FK) : Prop := GoodF P r ops sl0 n ds srcs h0 h1 V K → SaneF r sl0 ds h0 h1 V K → G
section main
def finCs (K : List FK) (j : Nat) (cs : List AV) : List AV :=
 match K.findSome? (fun k => match k with | .s a _ _ _ _ cs' => if Nat.beq a j then some cs' else none | _ => none) with
 | some c => c
 | none => cs
def finG (K0 : List FK) : List FK → Nat → List (Nat × List AV)
 | [], _ => []
 | .f N cs :: r, j => (N, finCs K0 j cs) :: finG K0 r (j + 1)
 | .p0 :: r, j => finG K0 r (j + 1)
 | .p1 :: r, j => finG K0 r (j + 1)
 | .e :: r, j => finG K0 r (j + 1)
 | .p2 _ :: r, j => finG K0 r (j + 1)
 | .s _ _ _ _ _ _ :: r, j => finG K0 r (j + 1)
def NewC : List (Nat × List AV) → AH → (AH → Prop) → Prop
 | [], h, Q => Q h
 | (i, c) :: r, h, Q => ∀ h', New h i (.own c) h' → NewC r h' Q
def addL (h : AH) : List (Nat × List AV) → AH
 | [] => h
 | (_, c) :: r => addL (h.add (.own c)) r
def namesOk (a : Nat) : List (Nat × List AV) → Prop
 | [] => True
 | (i, _) :: r => i = a ∧ namesOk (a + 1) r
theorem NewC.add : ∀ {L : List (Nat × List AV)} {h : AH} {Q : AH → Prop}, NewC L h Q → namesOk h.next L → (∀ i, h.next ≤ i → h.get i = none) → Q (addL h L)
 | [], _, _, q, _, _ => q
 | (i, c) :: r, h, Q, q, hn, hz => by
   obtain ⟨rfl, hn⟩ := hn
   refine NewC.add (L := r) (q (h.add (.own c)) ⟨⟨by simp [AH.add], fun j cj hj => ?_⟩, by simp [AH.add], hz _ (Nat.le_refl _), Nat.le_refl _⟩) hn fun j hj => ?_
   · have : j ≠ h.next := fun e => by subst e; rw [hz _ (Nat.le_refl _)] at hj; cases hj
     simp [AH.add, this, hj]
   · simp only [AH.add] at hj ⊢
     rw [if_neg (by omega)]; exact hz j (by omega)
theorem addL_next : ∀ {L : List (Nat × List AV)} {h : AH}, (addL h L).next = h.next + L.length
 | [], _ => rfl
 | (_, c) :: r, h => by simp only [addL, addL_next, AH.add, List.length_cons]; omega
theorem addL_get : ∀ {L : List (Nat × List AV)} {h : AH} {i : Nat}, (addL h L).get i = if i < h.next then h.get i else match L[i - h.next]? with | some x => some (.own x.2) | none => h.get i
 | [], h, i => by simp [addL]
 | (a, c) :: r, h, i => by
   have ih := addL_get (L := r) (h := h.add (.own c)) (i := i)
   simp only [addL]
   rw [ih]
   have e1 : (h.add (.own c)).next = h.next + 1 := rfl
   have e2 : (h.add (.own c)).get i = if i = h.next then some (.own c) else h.get i := rfl
   rw [e1, e2]
   by_cases h1 : i < h.next
   · simp [h1, show i < h.next + 1 by omega, show i ≠ h.next by omega]
   · by_cases h2 : i = h.next
     · subst h2; simp
     · have h3 : ¬ i < h.next + 1 := by omega
       rw [if_neg h1, if_neg h3, if_neg h2, show i - h.next = (i - (h.next + 1)) + 1 by omega, List.getElem?_cons_succ]
theorem nfl_cons {k : FK} {K : List FK} : nfl (k :: K) = (if k.isF then 1 else 0) + nfl K := by
 cases k <;> simp [nfl, FK.isF, List.filter_cons]; omega
theorem nfl_append {K L : List FK} : nfl (K ++ L) = nfl K + nfl L := by simp [nfl]
theorem finG_get {K0 : List FK} : ∀ {K : List FK} {j0 j N : Nat} {cs : List AV}, K[j]? = some (.f N cs) → (finG K0 K j0)[nfl (K.take j)]? = some (N, finCs K0 (j0 + j) cs)
 | [], _, _, _, _, h => by simp at h
 | k :: K, j0, 0, N, cs, h => by
   simp at h; subst h
   simp [finG, nfl]
 | k :: K, j0, j + 1, N, cs, h => by
   have ih := finG_get (K0 := K0) (K := K) (j0 := j0 + 1) (j := j) (N := N) (cs := cs) (by simpa using h)
   rw [List.take_succ_cons, nfl_cons]
   rw [show j0 + (j + 1) = j0 + 1 + j by omega]
   cases k with
   | f N' cs' => simp only [FK.isF, if_true, finG]; rw [Nat.add_comm 1 (nfl _), List.getElem?_cons_succ]; exact ih
   | _ => simpa [FK.isF, finG] using ih
theorem finG_len {K0 : List FK} : ∀ {K : List FK} {j0 : Nat}, (finG K0 K j0).length = nfl K
 | [], _ => rfl
 | k :: K, j0 => by
   rw [nfl_cons]
   cases k <;> simp [finG, FK.isF, finG_len (K := K)]; omega
theorem float_at : ∀ {K : List FK} {m : Nat}, m < nfl K → ∃ j N cs, K[j]? = some (.f N cs) ∧ nfl (K.take j) = m
 | [], m, h => by simp [nfl] at h
 | k :: K, m, h => by
   rw [nfl_cons] at h
   by_cases hf : k.isF = true
   · cases k <;> simp [FK.isF] at hf
     rename_i N cs
     cases m with
     | zero => exact ⟨0, N, cs, rfl, by simp [nfl]⟩
     | succ m =>
       obtain ⟨j, N', cs', h1, h2⟩ := float_at (K := K) (m := m) (by simp [FK.isF] at h; omega)
       exact ⟨j + 1, N', cs', by simpa using h1, by rw [List.take_succ_cons, nfl_cons, h2]; simp [FK.isF]; omega⟩
   · obtain ⟨j, N', cs', h1, h2⟩ := float_at (K := K) (m := m) (by simp [hf] at h; omega)
     exact ⟨j + 1, N', cs', by simpa using h1, by rw [List.take_succ_cons, nfl_cons, h2]; simp [hf]⟩
theorem nfl_take_lt : ∀ {K : List FK} {i j : Nat} {k : FK}, K[i]? = some k → k.isF = true → i < j → nfl (K.take i) < nfl (K.take j)
 | [], i, _, _, h, _, _ => by simp at h
 | k0 :: K, 0, 0, _, _, _, h => by omega
 | k0 :: K, 0, j + 1, k, h, hf, _ => by
   simp at h; subst h
   rw [List.take_succ_cons, nfl_cons, if_pos hf]
   have : nfl (List.take 0 (k0 :: K)) = 0 := rfl
   omega
 | k0 :: K, i + 1, 0, _, _, _, h => by omega
 | k0 :: K, i + 1, j + 1, k, h, hf, hij => by
   rw [List.take_succ_cons, List.take_succ_cons, nfl_cons, nfl_cons]
   have := nfl_take_lt (K := K) (i := i) (j := j) (by simpa using h) hf (by omega)
   omega
theorem nfl_take_le {K : List FK} {i j : Nat} (hij : i ≤ j) : nfl (K.take i) ≤ nfl (K.take j) := by
 have : K.take i = (K.take j).take i := by rw [List.take_take, Nat.min_eq_left hij]
 rw [this, nfl, nfl]
 exact (List.Sublist.filter _ (List.take_sublist _ _)).length_le
def hvK (h0 h1 : AH) (K : List FK) (j : Nat) : AH := match K[j]? with | some k => k.hv h0 h1 | none => h0
def hwK (h0 h1 : AH) (K : List FK) (j : Nat) : AH := match K[j]? with | some k => k.hw h0 h1 | none => h0
def TK (h1 : AH) (K : List FK) (j : Nat) : List Nat := match K[j]? with | some k => k.T h1 | none => []
theorem hvK_eq {h0 h1 : AH} {K : List FK} {j : Nat} {k : FK} (h : K[j]? = some k) : hvK h0 h1 K j = k.hv h0 h1 := by simp only [hvK, h]
theorem hwK_eq {h0 h1 : AH} {K : List FK} {j : Nat} {k : FK} (h : K[j]? = some k) : hwK h0 h1 K j = k.hw h0 h1 := by simp only [hwK, h]
theorem TK_eq {h1 : AH} {K : List FK} {j : Nat} {k : FK} (h : K[j]? = some k) : TK h1 K j = k.T h1 := by simp only [TK, h]
theorem lateAt_eq {K : List FK} {j : Nat} {k : FK} (h : K[j]? = some k) : lateAt K j = k.late := by simp only [lateAt, h]
theorem one_get {M N i : Nat} {cs : List AV} : (one M N cs).get i = if i = N then some (.own cs) else none := rfl
variable {P : Program} {r : Option Nat} {ops : Array Oper} {sl0 : List (Nat × AV)} {n : Nat} {ds : List ADef} {srcs : List Src} {h0 h1 : AH} {V : List AV} {K : List FK}
set_option maxHeartbeats 4000000 in
theorem JF_end {c : Code} {id : Nat} {Q : AExit → St → Prop} {slF : List (Nat × AV)} {fin : Src} {L : List (Nat × List AV)} (hc : c = .region id ops true) (hmix : P.follows .mixedOrders = true)
 (hplan : planOk ops [] srcs fin = true) (hk : floatOk ops K = true) (hF : fillS sl0 V fin = slF) (hL : finG K K 0 = L) (hq : NewC L h1 (fun hF => Q .normal ⟨slF, hF, n, ds⟩)) :
 JF P r ops sl0 n ds srcs (J P r c ⟨sl0, h0, n, ds⟩ Q) h0 h1 V K := by
 intro hg hs
 subst hL
 simp only [floatOk, Bool.and_eq_true] at hk
 obtain ⟨hk1, hk2⟩ := hk
 have hlen : K.length = ops.size := Nat.eq_of_beq_eq_true hk1
 have hkd : ∀ j, j < ops.size → ∃ k, K[j]? = some k ∧ kindOk (befs ops) K j k = true ∧ ∀ b ∈ (befs ops).getD j [], b < j := fun j hj => by
  have h := List.all_eq_true.1 hk2 j (by simpa [hlen] using hj)
  simp only [Bool.and_eq_true] at h
  have hjl : j < K.length := by omega
  rw [List.getElem?_eq_getElem hjl] at h
  exact ⟨_, List.getElem?_eq_getElem hjl, h.2, fun b hb => Nat.le_of_ble_eq_true (List.all_eq_true.1 h.1 b hb)⟩
 have hlt : ∀ j k, j < ops.size → k ∈ (befs ops).getD j [] → k < j := fun j k hj hk => (hkd j hj).choose_spec.2.2 k hk
 have hjK : ∀ {j : Nat} {k : FK}, K[j]? = some k → j < ops.size := fun h => by rw [← hlen]; exact (List.getElem?_eq_some_iff.1 h).1
 have hko : ∀ {j : Nat} {k : FK}, K[j]? = some k → kindOk (befs ops) K j k = true := fun {j k} h => by
  obtain ⟨k', q1, q2, _⟩ := hkd j (hjK h)
  rw [h] at q1; cases q1; exact q2
 have hf : ∀ {j N : Nat} {cs : List AV}, K[j]? = some (.f N cs) → N = h1.next + nfl (K.take j) ∧ supL cs = 0 := fun h => by
  obtain ⟨_, _, _, _, _, _, _, _, q⟩ := hg _ _ h; exact ⟨q.1, q.2.1⟩
 have hp2 : ∀ {j M : Nat}, K[j]? = some (.p2 M) → M = h1.next + nfl (K.take j) := fun h => by
  obtain ⟨_, _, _, _, _, _, _, _, q⟩ := hg _ _ h; exact q
 have hst : ∀ {j a ix N M : Nat} {cs cs' : List AV}, K[j]? = some (.s a ix N M cs cs') → M = h1.next + nfl (K.take j) ∧ a < j ∧ K[a]? = some (.f N cs) := fun h => by
  obtain ⟨_, _, _, _, _, _, _, _, q⟩ := hg _ _ h; exact ⟨q.1, q.2.1, q.2.2.1⟩
 have hvl : ∀ {j : Nat} {k : FK}, K[j]? = some k → k.late = true → (k.hv h0 h1).next = h1.next + nfl (K.take j) := fun {j k} h hl => by
  cases k with
  | f N cs => exact (hf h).1
  | p2 M => exact hp2 h
  | s a ix N M cs cs' => exact (hst h).1
  | _ => simp [FK.late] at hl
 have hwl : ∀ {j : Nat} {k : FK}, K[j]? = some k → k.late = true → (k.hw h0 h1).next ≤ h1.next + nfl (K.take (j + 1)) := fun {j k} h hl => by
  have hle := nfl_take_le (K := K) (i := j) (j := j + 1) (by omega)
  cases k with
  | f N cs =>
    have := nfl_take_lt (j := j + 1) h rfl (by omega)
    have := (hf h).1
    simp only [FK.hw, one]; omega
  | p2 M => have := hp2 h; simp only [FK.hw, emp]; omega
  | s a ix N M cs cs' => have := (hst h).1; simp only [FK.hw, one]; omega
  | _ => simp [FK.late] at hl
 have hTl : ∀ {j i : Nat} {k : FK}, K[j]? = some k → i ∈ k.T h1 → (k = .e ∧ i < h1.next) ∨ (k.late = true ∧ h1.next ≤ i ∧ ∃ a N cs, K[a]? = some (.f N cs) ∧ i = N ∧ (a = j ∨ ∃ ix M cs', k = .s a ix N M cs cs')) := fun {j i k} h hi => by
  cases k with
  | e => exact .inl ⟨rfl, by simpa [FK.T] using hi⟩
  | f N cs =>
    simp only [FK.T, List.mem_singleton] at hi
    exact .inr ⟨rfl, by have := (hf h).1; omega, j, N, cs, h, hi, .inl rfl⟩
  | s a ix N M cs cs' =>
    simp only [FK.T, List.mem_singleton] at hi
    obtain ⟨_, q2, q3⟩ := hst h
    exact .inr ⟨rfl, by have := (hf q3).1; omega, a, N, cs, q3, hi, .inr ⟨ix, M, cs', rfl⟩⟩
  | _ => simp [FK.T] at hi
 have hfeq : ∀ {a b N : Nat} {cs cs' : List AV}, K[a]? = some (.f N cs) → K[b]? = some (.f N cs') → a = b := fun {a b N cs cs'} h h' => by
  have q1 := (hf h).1
  have q2 := (hf h').1
  rcases Nat.lt_trichotomy a b with q | q | q
  · have := nfl_take_lt h rfl q; omega
  · exact q
  · have := nfl_take_lt h' rfl q; omega
 have hE : ∀ {p p' : Nat}, K[p]? = some FK.e → K[p']? = some FK.e → p = p' := fun {p p'} h h' => by
  have q := hko h
  simp only [kindOk, Bool.and_eq_true] at q
  have q2 := List.all_eq_true.1 q.2 p' (by rw [hlen]; simpa using hjK h')
  simp only [isEAt, h', FK.isE, Bool.not_true, Bool.false_or] at q2
  exact (Nat.eq_of_beq_eq_true q2).symm
 have hP0 : ∀ {j p : Nat}, K[j]? = some .p0 → K[p]? = some FK.e → j ∈ (befs ops).getD p [] := fun {j p} h h' => by
  have q := hko h
  simp only [kindOk, Bool.and_eq_true] at q
  have q2 := List.all_eq_true.1 q.2 p (by rw [hlen]; simpa using hjK h')
  simp only [isEAt, h', FK.isE, Bool.not_true, Bool.false_or] at q2
  simpa using q2
 have hP1 : ∀ {j p : Nat}, K[j]? = some .p1 → K[p]? = some FK.e → p ∈ (befs ops).getD j [] := fun {j p} h h' => by
  have q := hko h
  simp only [kindOk, Bool.and_eq_true] at q
  have q2 := List.all_eq_true.1 q.2 p (by rw [hlen]; simpa using hjK h')
  simp only [isEAt, h', FK.isE, Bool.not_true, Bool.false_or] at q2
  simpa using q2
 have hEarly : ∀ {j : Nat} {k : FK}, K[j]? = some k → k.isF = true ∨ k.late = false → ∀ b ∈ (befs ops).getD j [], lateAt K b = false := fun {j k} h hl b hb => by
  have q := hko h
  have gen : ((befs ops).getD j []).all (fun b => !lateAt K b) = true := by
   cases k with
   | p0 => simp only [kindOk, Bool.and_eq_true] at q; exact q.1
   | p1 => simp only [kindOk, Bool.and_eq_true] at q; exact q.1
   | e => simp only [kindOk, Bool.and_eq_true] at q; exact q.1
   | f N cs => simpa only [kindOk] using q
   | p2 M => simp [FK.late, FK.isF] at hl
   | s a ix N M cs cs' => simp [FK.late, FK.isF] at hl
  simpa using List.all_eq_true.1 gen b hb
 have hPE : ∀ {j p : Nat} {M : Nat}, K[j]? = some (.p2 M) → K[p]? = some FK.e → p ∈ (befs ops).getD j [] := fun {j p M} h h' => by
  have q := hko h
  simp only [kindOk] at q
  have q2 := List.all_eq_true.1 q p (by rw [hlen]; simpa using hjK h')
  simp only [isEAt, h', FK.isE, Bool.not_true, Bool.false_or, Bool.and_eq_true] at q2
  simpa using q2.1
 have hPF : ∀ {j b N M : Nat} {cs : List AV}, K[j]? = some (.p2 M) → K[b]? = some (.f N cs) → b < j → b ∈ (befs ops).getD j [] := fun {j b N M cs} h h' hb => by
  have q := hko h
  simp only [kindOk] at q
  have q2 := List.all_eq_true.1 q b (by rw [hlen]; simpa using hjK h')
  have hb' : Nat.blt b j = true := Nat.ble_eq_true_of_le hb
  simp only [isFAt, h', FK.isF, hb', Bool.and_true, Bool.not_true, Bool.false_or, Bool.and_eq_true] at q2
  simpa using q2.2
 have hSa : ∀ {j a ix N M : Nat} {cs cs' : List AV}, K[j]? = some (.s a ix N M cs cs') → a ∈ (befs ops).getD j [] ∧ ix < j := fun h => by
  have q := hko h
  simp only [kindOk, Bool.and_eq_true] at q
  exact ⟨by simpa using q.1.1, Nat.le_of_ble_eq_true q.1.2⟩
 have hSE : ∀ {j p a ix N M : Nat} {cs cs' : List AV}, K[j]? = some (.s a ix N M cs cs') → K[p]? = some FK.e → p ∈ (befs ops).getD j [] := fun {j p a ix N M cs cs'} h h' => by
  have q := hko h
  simp only [kindOk, Bool.and_eq_true] at q
  have q2 := List.all_eq_true.1 q.2 p (by rw [hlen]; simpa using hjK h')
  simp only [isEAt, h', FK.isE, Bool.not_true, Bool.false_or, Bool.and_eq_true] at q2
  simpa using q2.1.1
 have hSF : ∀ {j b a ix N M Nb : Nat} {cs cs' cb : List AV}, K[j]? = some (.s a ix N M cs cs') → K[b]? = some (.f Nb cb) → b < j → b ∈ (befs ops).getD j [] ∨ lateAt K ix = false ∨ ix < b := fun {j b a ix N M Nb cs cs' cb} h h' hb => by
  have q := hko h
  simp only [kindOk, Bool.and_eq_true] at q
  have q2 := List.all_eq_true.1 q.2 b (by rw [hlen]; simpa using hjK h')
  have hb' : Nat.blt b j = true := Nat.ble_eq_true_of_le hb
  simp only [isFAt, h', FK.isF, hb', Bool.and_true, Bool.not_true, Bool.false_or, Bool.and_eq_true, Bool.or_eq_true] at q2
  rcases q2.1.2 with (q3 | q3) | q3
  · exact .inl (by simpa using q3)
  · exact .inr (.inl (by simpa using q3))
  · exact .inr (.inr (Nat.le_of_ble_eq_true q3))
 have hSS : ∀ {j j' a ix N M ix' N' M' : Nat} {cs cs' ds ds' : List AV}, K[j]? = some (.s a ix N M cs cs') → K[j']? = some (.s a ix' N' M' ds ds') → j = j' := fun {j j' a ix N M ix' N' M' cs cs' ds ds'} h h' => by
  have q := hko h
  simp only [kindOk, Bool.and_eq_true] at q
  have q2 := List.all_eq_true.1 q.2 j' (by rw [hlen]; simpa using hjK h')
  simp only [sOf, h', Bool.and_eq_true, Bool.or_eq_true, Nat.beq_refl, Bool.not_true] at q2
  rcases q2.2 with q3 | q3
  · exact (Nat.eq_of_beq_eq_true q3).symm
  · cases q3
 have hnoE : (¬ ∃ p : Nat, K[p]? = some FK.e) → h1 = h0 := fun hno => hs.same fun k hk => by
  obtain ⟨p, hp⟩ := List.getElem?_of_mem hk
  cases k with
  | e => exact absurd ⟨p, hp⟩ hno
  | _ => rfl
 have hz1 : ∀ i, h1.next ≤ i → h1.get i = none := fun i hi => by
  cases e : h1.get i with
  | none => rfl
  | some c => have := (hs.w1 i c e).1; omega
 have hz0 : ∀ i, h0.next ≤ i → h0.get i = none := fun i hi => by
  cases e : h0.get i with
  | none => rfl
  | some c => have := (hs.w0 i c e).1; omega
 have hnx := hs.nx
 have updE : ∀ (S : Nat → Bool) (i : Nat), i < h1.next → ∀ p, K[p]? = some FK.e → S p = true → upd (hwK h0 h1 K) (TK h1 K) S h0 ops.size i = h1.get i := fun S i hi p p1 p2 => by
  rcases upd_spec (hw := hwK h0 h1 K) (T := TK h1 K) (S := S) (h0 := h0) (i := i) ops.size with ⟨k, k1, k2, k3, k4, k5⟩ | ⟨k1, k2⟩
  · obtain ⟨kk, q1, _⟩ := hkd k k1
    rw [TK_eq q1] at k3
    rcases hTl q1 k3 with ⟨rfl, _⟩ | ⟨_, q2, _⟩
    · rw [k5, hwK_eq q1]; rfl
    · omega
  · exact absurd (by rw [TK_eq p1]; simpa [FK.T] using hi) (k1 p (hjK p1) p2)
 have updN : ∀ (S : Nat → Bool) (i : Nat), i < h1.next → (∀ p, K[p]? = some FK.e → S p = false) → upd (hwK h0 h1 K) (TK h1 K) S h0 ops.size i = h0.get i := fun S i hi hno => by
  rcases upd_spec (hw := hwK h0 h1 K) (T := TK h1 K) (S := S) (h0 := h0) (i := i) ops.size with ⟨k, k1, k2, k3, k4, k5⟩ | ⟨k1, k2⟩
  · obtain ⟨kk, q1, _⟩ := hkd k k1
    rw [TK_eq q1] at k3
    rcases hTl q1 k3 with ⟨rfl, _⟩ | ⟨_, q2, _⟩
    · rw [hno k q1] at k2; cases k2
    · omega
  · exact k2
 have updF : ∀ (S : Nat → Bool) {a N : Nat} {cs : List AV}, K[a]? = some (FK.f N cs) → S a = true →
  (upd (hwK h0 h1 K) (TK h1 K) S h0 ops.size N = some (.own cs) ∧ ∀ j ix M cs', K[j]? = some (FK.s a ix N M cs cs') → S j = false) ∨
  ∃ j ix M cs', K[j]? = some (FK.s a ix N M cs cs') ∧ S j = true ∧ upd (hwK h0 h1 K) (TK h1 K) S h0 ops.size N = some (.own cs') := fun S {a N cs} ha hSa' => by
  have hN := (hf ha).1
  rcases upd_spec (hw := hwK h0 h1 K) (T := TK h1 K) (S := S) (h0 := h0) (i := N) ops.size with ⟨k, k1, k2, k3, k4, k5⟩ | ⟨k1, k2⟩
  · obtain ⟨kk, q1, _⟩ := hkd k k1
    rw [TK_eq q1] at k3
    rcases hTl q1 k3 with ⟨rfl, q2⟩ | ⟨_, _, a', N', cs', q3, rfl, q4⟩
    · omega
    · have := hfeq ha q3
      subst this
      rw [ha] at q3; cases q3
      rcases q4 with rfl | ⟨ix, M, cs2, rfl⟩
      · rw [ha] at q1; cases q1
        left
        refine ⟨by rw [k5, hwK_eq ha]; simp [FK.hw, one], fun j ix M cs' hj => ?_⟩
        cases hb : S j with
        | false => rfl
        | true =>
          have q6 := (hst hj).2.1
          exact absurd (by rw [TK_eq hj]; simp [FK.T]) (k4 j q6 (hjK hj) hb)
      · have q5 := (hst q1).2.2
        rw [ha] at q5; cases q5
        right
        exact ⟨k, ix, M, cs2, q1, k2, by rw [k5, hwK_eq q1]; simp [FK.hw, one]⟩
  · exact absurd (by rw [TK_eq ha]; simp [FK.T]) (k1 a (hjK ha) hSa')
 have hnames : ∀ (l : List FK) (j0 : Nat), (∀ j N cs, l[j]? = some (FK.f N cs) → N = h1.next + nfl (K.take (j0 + j))) → nfl (K.take j0) + nfl l = nfl K → (∀ j k, l[j]? = some k → K[j0 + j]? = some k) → namesOk (h1.next + nfl (K.take j0)) (finG K l j0) := by
  intro l
  induction l with
  | nil => intro j0 _ _ _; trivial
  | cons k l ih =>
    intro j0 hN hc' hK'
    have hk0 : K[j0]? = some k := by simpa using hK' 0 k rfl
    have hstep : nfl (K.take (j0 + 1)) = nfl (K.take j0) + (if k.isF then 1 else 0) := by
     rw [List.take_add_one, hk0, nfl_append]
     simp only [Option.toList, nfl_cons]; simp [nfl]
    have ih' := ih (j0 + 1) (fun j N cs hj => by rw [show j0 + 1 + j = j0 + (j + 1) by omega]; exact hN (j + 1) N cs (by simpa using hj)) (by rw [hstep, ← hc', nfl_cons]; omega)
     (fun j k' hj => by rw [show j0 + 1 + j = j0 + (j + 1) by omega]; exact hK' (j + 1) k' (by simpa using hj))
    cases k with
    | f N cs =>
      simp only [finG, namesOk]
      refine ⟨by simpa using hN 0 N cs rfl, ?_⟩
      rw [hstep] at ih'
      simpa [FK.isF, Nat.add_assoc] using ih'
    | _ => rw [hstep] at ih'; simpa [FK.isF, finG] using ih'
 have hfcs : ∀ {a N : Nat} {cs : List AV}, (∀ j ix N' M cs1 cs', K[j]? ≠ some (FK.s a ix N' M cs1 cs')) → finCs K a cs = cs := fun {a N cs} hno => by
  unfold finCs
  rw [List.findSome?_eq_none_iff.2]
  intro k hk
  obtain ⟨j, hj⟩ := List.getElem?_of_mem hk
  cases k with
  | s a' ix N' M cs1 cs' =>
    by_cases e : Nat.beq a' a = true
    · have := Nat.eq_of_beq_eq_true e; subst this; exact absurd hj (hno j ix N' M cs1 cs')
    · simp only [e, Bool.false_eq_true, if_false]
  | _ => rfl
 have hfcs2 : ∀ {a j ix N M : Nat} {cs cs1 cs' : List AV}, K[j]? = some (FK.s a ix N M cs1 cs') → finCs K a cs = cs' := fun {a j ix N M cs cs1 cs'} hj => by
  unfold finCs
  cases e : K.findSome? (fun k => match k with | .s a' _ _ _ _ cs' => if Nat.beq a' a then some cs' else none | _ => none) with
  | none =>
    have := List.findSome?_eq_none_iff.1 e _ (List.mem_of_getElem? hj)
    simp at this
  | some c =>
    obtain ⟨k, k1, k2⟩ := List.exists_of_findSome?_eq_some e
    obtain ⟨j', hj'⟩ := List.getElem?_of_mem k1
    cases k with
    | s a' ix' N' M' cs2 cs3 =>
      by_cases q : Nat.beq a' a = true
      · have q' := Nat.eq_of_beq_eq_true q; subst q'
        simp only [q, if_true, Option.some.injEq] at k2
        have := hSS hj hj'
        subst this
        rw [hj] at hj'; cases hj'
        exact k2.symm
      · simp [q] at k2
    | _ => simp at k2
 refine J_drawX (rk := fun j => if lateAt K j then ops.size + j else j) (hv := hvK h0 h1 K) (hw := hwK h0 h1 K) (T := TK h1 K) (evs := fun _ => []) (hF := addL h1 (finG K K 0)) hc hmix
  ⟨planOk_spec hplan, ?op, ?inj, ?rlt, hlt, ?nx0, ?nx, ?nxF, ?touch, ?from_, ?evOp, ?evFrom, ?view, ?same, ?avoid, ?skipT, ?fin_⟩ hF (NewC.add hq (by simpa [nfl] using hnames K 0 (fun j N cs hj => by rw [Nat.zero_add]; exact (hf hj).1) (by simp [nfl]) (fun j k hj => by rw [Nat.zero_add]; exact hj)) hz1)
 case op =>
  intro j o ho
  obtain ⟨k, q1, _⟩ := hkd j (Array.getElem?_eq_some_iff.1 ho).1
  obtain ⟨o', v, a1, a2, _, a4, _⟩ := hg j k q1
  rw [ho] at a1; cases a1
  exact ⟨v, a2, by rw [hvK_eq q1, hwK_eq q1]; exact a4⟩
 case inj =>
  intro j k hj hk' e
  split at e <;> split at e <;> omega
 case rlt =>
  intro j k hj hk'
  have := hlt j k hj hk'
  obtain ⟨kj, q1, _⟩ := hkd j hj
  cases hl : kj.late with
  | true =>
    rw [lateAt_eq q1, hl, if_pos rfl]
    split <;> omega
  | false =>
    have q2 := hEarly q1 (.inr hl) k hk'
    rw [lateAt_eq q1, hl, q2]; simpa using this
 case nx0 =>
  intro j hj
  obtain ⟨k, q1, _⟩ := hkd j hj
  rw [hvK_eq q1]
  cases hl : k.late with
  | true => rw [hvl q1 hl]; omega
  | false => cases k <;> simp [FK.hv, FK.late] at * <;> omega
 case nx =>
  intro j k hj hk' hr
  obtain ⟨kj, q1, _⟩ := hkd j hj
  obtain ⟨kk, q2, _⟩ := hkd k hk'
  rw [hvK_eq q1, hwK_eq q2]
  simp only [lateAt_eq q1, lateAt_eq q2] at hr
  cases hlj : kj.late with
  | true =>
    rw [hvl q1 hlj]
    cases hlk : kk.late with
    | true =>
      rw [hlj, hlk] at hr
      have := hwl q2 hlk
      have := nfl_take_le (K := K) (i := k + 1) (j := j) (by simp at hr; omega)
      omega
    | false => cases kk <;> simp [FK.hw, FK.late] at * <;> omega
  | false =>
    cases hlk : kk.late with
    | true => rw [hlj, hlk] at hr; simp at hr; omega
    | false =>
      rw [hlj, hlk] at hr
      have hr : k < j := by simpa using hr
      by_cases hex : ∃ p : Nat, K[p]? = some FK.e
      · obtain ⟨p, hp⟩ := hex
        cases kj with
        | p0 =>
          have h1' : j < p := hlt p j (hjK hp) (hP0 q1 hp)
          cases kk with
          | p0 => exact Nat.le_refl _
          | p1 => have : p < k := hlt k p hk' (hP1 q2 hp); omega
          | e => have := hE hp q2; omega
          | _ => simp [FK.late] at hlk
        | p1 => cases kk <;> simp [FK.hw, FK.hv, FK.late] at * <;> omega
        | e =>
          have := hE hp q1
          subst this
          cases kk with
          | p0 => exact Nat.le_refl _
          | p1 => have := hlt k p (hjK q2) (hP1 q2 hp); omega
          | e => have := hE hp q2; omega
          | _ => simp [FK.late] at hlk
        | _ => simp [FK.late] at hlj
      · have e := hnoE hex
        cases kj <;> cases kk <;> simp [FK.hw, FK.hv, FK.late, e] at *
 case nxF =>
  rw [addL_next, finG_len]
  refine ⟨by omega, fun j hj => ?_⟩
  obtain ⟨k, q1, _⟩ := hkd j hj
  rw [hwK_eq q1]
  cases hl : k.late with
  | true =>
    have := hwl q1 hl
    have := nfl_take_le (K := K) (i := j + 1) (j := K.length) (by omega)
    rw [List.take_length] at this
    omega
  | false => cases k <;> simp [FK.hw, FK.late] at * <;> omega
 case touch =>
  intro j i hj hi
  obtain ⟨k, q1, _⟩ := hkd j hj
  rw [TK_eq q1] at hi
  rw [hvK_eq q1, hwK_eq q1]
  cases k with
  | e =>
    simp only [FK.T, List.mem_range, Nat.not_lt] at hi
    simp only [FK.hw, FK.hv]
    rw [hz1 i hi, hz0 i (by omega)]
  | f N cs => simp only [FK.T, List.mem_singleton] at hi; simp [FK.hw, FK.hv, one, emp, hi]
  | s a ix N M cs cs' => simp only [FK.T, List.mem_singleton] at hi; simp [FK.hw, FK.hv, one, hi]
  | _ => rfl
 case from_ =>
  intro j i c hj hc'
  obtain ⟨k, q1, _⟩ := hkd j hj
  rw [hvK_eq q1] at hc'
  cases k with
  | p0 => exact .inr hc'
  | e => exact .inr hc'
  | p1 =>
    by_cases hex : ∃ p : Nat, K[p]? = some FK.e
    · obtain ⟨p, hp⟩ := hex
      refine .inl ⟨p, hjK hp, ?_, ?_, ?_⟩
      · simp only [lateAt_eq q1, lateAt_eq hp, FK.late]
        simpa using hlt j p hj (hP1 q1 hp)
      · rw [TK_eq hp]; simpa [FK.T] using (hs.w1 i c hc').1
      · rw [hwK_eq hp]; exact hc'
    · exact .inr (by rw [← hnoE hex]; exact hc')
  | f N cs => simp [FK.hv, emp] at hc'
  | p2 M => simp [FK.hv, emp] at hc'
  | s a ix N M cs cs' =>
    simp only [FK.hv, one_get] at hc'
    split at hc'
    · rename_i e
      subst e
      obtain ⟨q2, q3, q4⟩ := hst q1
      refine .inl ⟨a, hjK q4, ?_, ?_, ?_⟩
      · simp only [lateAt_eq q1, lateAt_eq q4, FK.late, if_true]; omega
      · rw [TK_eq q4]; simp [FK.T]
      · rw [hwK_eq q4]; simpa [FK.hw, one] using hc'
    · cases hc'
 case evOp => intro j o v x _ _ hx; simp at hx
 case evFrom => intro j x i c _ hx; simp at hx
 case view =>
  intro j S hj hS1 hS2 hS3
  left
  intro i c hc'
  obtain ⟨k, q1, _⟩ := hkd j hj
  rw [hvK_eq q1] at hc'
  cases k with
  | p0 =>
    have hil := (hs.w0 i c hc').1
    rw [updN S i (by omega) fun p hp => ?_]
    · exact hc'
    · cases hb : S p with
      | false => rfl
      | true => have := hS3 p j (hjK hp) hb (hP0 q1 hp); rw [hS2] at this; cases this
  | e =>
    have hil := (hs.w0 i c hc').1
    rw [updN S i (by omega) fun p hp => ?_]
    · exact hc'
    · rw [hE hp q1]; exact hS2
  | p1 =>
    have hil := (hs.w1 i c hc').1
    by_cases hex : ∃ p : Nat, K[p]? = some FK.e
    · obtain ⟨p, hp⟩ := hex
      rw [updE S i hil p hp (hS1 p (hP1 q1 hp))]; exact hc'
    · rw [updN S i hil fun p hp => absurd ⟨p, hp⟩ hex, ← hnoE hex]; exact hc'
  | f N cs => simp [FK.hv, emp] at hc'
  | p2 M => simp [FK.hv, emp] at hc'
  | s a ix N M cs cs' =>
    simp only [FK.hv, one_get] at hc'
    split at hc'
    · rename_i e
      subst e
      obtain ⟨q2, q3, q4⟩ := hst q1
      rcases updF S q4 (hS1 a (hSa q1).1) with ⟨q5, _⟩ | ⟨j', ix', M', cs2, q5, q6, _⟩
      · rw [q5]; exact hc'
      · have := hSS q1 q5
        subst this
        rw [hS2] at q6; cases q6
    · cases hc'
 case same =>
  intro j k i hjk hk' hi hi2
  obtain ⟨kj, q1, _⟩ := hkd j (by omega)
  obtain ⟨kk, q2, _⟩ := hkd k hk'
  rw [TK_eq q1] at hi
  rw [TK_eq q2] at hi2
  rcases hTl q1 hi with ⟨rfl, a1⟩ | ⟨_, a1, a, N, cs, a2, a3, a4⟩
  · rcases hTl q2 hi2 with ⟨rfl, b1⟩ | ⟨_, b1, _⟩
    · have := hE q1 q2; omega
    · omega
  · rcases hTl q2 hi2 with ⟨rfl, b1⟩ | ⟨_, b1, b, N', cs', b2, b3, b4⟩
    · omega
    · have hN : N = N' := a3.symm.trans b3
      subst hN
      have := hfeq a2 b2
      subst this
      rcases b4 with rfl | ⟨ix, M, cs2, rfl⟩
      · rcases a4 with rfl | ⟨ix, M, cs2, rfl⟩
        · omega
        · have := (hst q1).2.1; omega
      · rcases a4 with rfl | ⟨ix', M', cs3, rfl⟩
        · exact (hSa q2).1
        · have := hSS q1 q2; omega
 case avoid =>
  intro j k hj hr hk' hb
  obtain ⟨kj, q1, _⟩ := hkd j hj
  obtain ⟨kk, q2, _⟩ := hkd k hk'
  obtain ⟨ok, vk, _, v2, _, _, _, v6, v7⟩ := hg k kk q2
  simp only [lateAt_eq q1, lateAt_eq q2] at hr
  have allT : (∀ m, notR (hvK h0 h1 K) (hwK h0 h1 K) j m = true) → (∀ v, V[k]? = some v → v.nm (notR (hvK h0 h1 K) (hwK h0 h1 K) j) = true) ∧ ∀ i, i ∈ TK h1 K k → notR (hvK h0 h1 K) (hwK h0 h1 K) j i = true ∧ ∀ c, (hwK h0 h1 K k).get i = some c → c.nm (notR (hvK h0 h1 K) (hwK h0 h1 K) j) = true := fun al =>
   ⟨fun v _ => nm_sup (n := v.sup) (fun i _ => al i) v (Nat.le_refl _), fun i _ => ⟨al i, fun c _ => Chunk.nm_sup (n := c.sup) (fun i _ => al i) (Nat.le_refl _)⟩⟩
  have quiet : (kj.hw h0 h1).next ≤ (kj.hv h0 h1).next → ∀ m, notR (hvK h0 h1 K) (hwK h0 h1 K) j m = true := fun hq' m => by
   rw [notR_iff, hvK_eq q1, hwK_eq q1]; omega
  have hnR : ∀ m, (m < (kj.hv h0 h1).next ∨ (kj.hw h0 h1).next ≤ m) → notR (hvK h0 h1 K) (hwK h0 h1 K) j m = true := fun m hm => by
   rw [notR_iff, hvK_eq q1, hwK_eq q1]; omega
  have flt : ∀ {N : Nat} {cs : List AV}, kk = .f N cs → notR (hvK h0 h1 K) (hwK h0 h1 K) j N = true → (∀ v, V[k]? = some v → v.nm (notR (hvK h0 h1 K) (hwK h0 h1 K) j) = true) ∧ ∀ i, i ∈ TK h1 K k → notR (hvK h0 h1 K) (hwK h0 h1 K) j i = true ∧ ∀ c, (hwK h0 h1 K k).get i = some c → c.nm (notR (hvK h0 h1 K) (hwK h0 h1 K) j) = true := by
   intro N cs e hN
   subst e
   refine ⟨fun v hv => ?_, fun i hi => ?_⟩
   · rw [v2] at hv; cases hv
     exact v7.2.2 _ hN
   · rw [TK_eq q2] at hi
     simp only [FK.T, List.mem_singleton] at hi
     subst hi
     refine ⟨hN, fun c hc' => ?_⟩
     rw [hwK_eq q2] at hc'
     simp only [FK.hw, one_get, if_true, Option.some.injEq] at hc'
     subst hc'
     exact Chunk.nm_sup (n := 0) (fun i hi => absurd hi (Nat.not_lt_zero i)) (by simp only [Chunk.sup, (hf q2).2]; exact Nat.le_refl _)
  cases kj with
  | p0 => exact allT (quiet (Nat.le_refl _))
  | p1 => exact allT (quiet (Nat.le_refl _))
  | p2 M => exact allT (quiet (Nat.le_refl _))
  | s a ix N M cs cs' => exact allT (quiet (Nat.le_refl _))
  | e =>
    cases kk with
    | p0 => have := hlt j k hj (hP0 q2 q1); simp [FK.late] at hr; omega
    | p1 => exact absurd (hP1 q2 q1) hb
    | e => have := hE q1 q2; simp [FK.late] at hr; omega
    | p2 M => exact absurd (hPE q2 q1) hb
    | s a ix N M cs cs' => exact absurd (hSE q2 q1) hb
    | f N cs => exact flt rfl (hnR N (.inr (by have := (hf q2).1; simp only [FK.hw]; omega)))
  | f N cs =>
    have hN := (hf q1).1
    have hjk : j < k ∧ kk.late = true := by
     cases hl : kk.late with
     | true => rw [hl] at hr; simp [FK.late] at hr; exact ⟨hr, rfl⟩
     | false => rw [hl] at hr; simp [FK.late] at hr; omega
    have hneq : ∀ {b N' : Nat} {cs' : List AV}, K[b]? = some (FK.f N' cs') → b ≠ j → notR (hvK h0 h1 K) (hwK h0 h1 K) j N' = true := fun {b N' cs'} hb' hne => hnR N' (by
     have : N' ≠ N := fun e => by subst e; exact hne (hfeq hb' q1)
     simp only [FK.hv, FK.hw, emp, one]; omega)
    cases kk with
    | f N' cs' => exact flt rfl (hneq q2 (by omega))
    | p2 M => exact absurd (hPF q2 q1 hjk.1) hb
    | s a ix N' M cs1 cs' =>
      obtain ⟨s1, s2, s3⟩ := hst q2
      obtain ⟨_, _, _, _, u, kx, u1, u2, u3⟩ := v7
      refine ⟨fun v hv => ?_, fun i hi => ?_⟩
      · rw [v2] at hv; cases hv
        exact nm_sup (n := 0) (fun i hi => absurd hi (Nat.not_lt_zero i)) _ v6
      · rw [TK_eq q2] at hi
        simp only [FK.T, List.mem_singleton] at hi
        subst hi
        refine ⟨hneq s3 (fun e => by subst e; exact hb (hSa q2).1), fun c hc' => ?_⟩
        rw [hwK_eq q2] at hc'
        simp only [FK.hw, one_get, if_true, Option.some.injEq] at hc'
        subst hc'
        obtain ⟨_, u', _, w2, _, _, _, w6, w7⟩ := hg ix kx u2
        rw [u1] at w2; cases w2
        refine Chunk.nm_sup (n := N) (fun m hm => hnR m (.inl hm)) ?_
        simp only [Chunk.sup]
        refine Nat.le_trans u3 (Nat.le_trans w6 ?_)
        rcases hSF q2 q1 hjk.1 with e | e | e
        · exact absurd e hb
        · rw [lateAt_eq u2] at e
          cases kx with
          | p0 => simp only [FK.top]; omega
          | p1 => simp only [FK.top]; omega
          | e => simp only [FK.top]; omega
          | f N2 cs2 => simp [FK.late] at e
          | p2 M2 => simp [FK.late] at e
          | s a2 ix2 N2 M2 cs2 cs3 => simp [FK.late] at e
        · have hle := nfl_take_le (K := K) (i := ix) (j := j) (by omega)
          cases kx with
          | p0 => simp only [FK.top]; omega
          | p1 => simp only [FK.top]; omega
          | e => simp only [FK.top]; omega
          | f N2 cs2 => have := (hf u2).1; have := nfl_take_lt u2 rfl e; simp only [FK.top]; omega
          | p2 M2 => have := hp2 u2; simp only [FK.top]; omega
          | s a2 ix2 N2 M2 cs2 cs3 => simp only [FK.top]; omega
    | _ => simp [FK.late] at hjk
 case skipT =>
  intro j o ho hw
  obtain ⟨k, q1, _⟩ := hkd j (Array.getElem?_eq_some_iff.1 ho).1
  obtain ⟨o', v, a1, _, _, _, a5, _⟩ := hg j k q1
  rw [ho] at a1; cases a1
  rw [TK_eq q1]
  cases e : k.T h1 with
  | nil => rfl
  | cons x l => rw [a5 (by rw [e]; simp)] at hw; simp at hw
 case fin_ =>
  intro i
  rw [addL_get]
  by_cases hil : i < h1.next
  · rw [if_pos hil]
    by_cases hex : ∃ p : Nat, K[p]? = some FK.e
    · obtain ⟨p, hp⟩ := hex
      exact (updE _ i hil p hp rfl).symm
    · rw [updN _ i hil fun p hp => absurd ⟨p, hp⟩ hex, hnoE hex]
  · rw [if_neg hil]
    by_cases hm : i - h1.next < nfl K
    · obtain ⟨a, N, cs, a1, a2⟩ := float_at hm
      have hN := (hf a1).1
      have hNi : N = i := by omega
      have g1 := finG_get (K0 := K) (j0 := 0) a1
      rw [a2, Nat.zero_add] at g1
      rw [g1]
      simp only
      rcases updF (fun _ => true) a1 rfl with ⟨b1, b2⟩ | ⟨j, ix, M, cs', b1, _, b2⟩
      · rw [← hNi, b1, hfcs (N := N)]
        intro j ix N' M cs1 cs' hj
        have q5 := (hst hj).2.2
        rw [a1] at q5; cases q5
        have := b2 j ix M cs' hj
        cases this
      · rw [← hNi, b2, hfcs2 b1]
    · rw [List.getElem?_eq_none (by rw [finG_len]; omega)]
      simp only
      rw [hz1 i (by omega)]
      rcases upd_spec (hw := hwK h0 h1 K) (T := TK h1 K) (S := fun _ => true) (h0 := h0) (i := i) ops.size with ⟨k, k1, k2, k3, k4, k5⟩ | ⟨k1, k2⟩
      · obtain ⟨kk, q1, _⟩ := hkd k k1
        rw [TK_eq q1] at k3
        rcases hTl q1 k3 with ⟨rfl, _⟩ | ⟨_, _, a, N, cs, q3, rfl, _⟩
        · omega
        · have := (hf q3).1
          have := nfl_take_lt (j := K.length) q3 rfl (by rw [hlen]; exact hjK q3)
          rw [List.take_length] at this
          omega
      · rw [k2, hz0 i (by omega)]
end main
section main
variable {P : Program} {r : Option Nat} {ops : Array Oper} {sl0 : List (Nat × AV)} {n : Nat} {ds : List ADef} {srcs : List Src} {h0 h1 : AH} {V : List AV} {K : List FK}
theorem GoodF.more (hg : GoodF P r ops sl0 n ds srcs h0 h1 V K) (hl : V.length = K.length) (v : AV) : ∀ j k, K[j]? = some k → ∃ o u, ops[j]? = some o ∧ (V ++ [v])[j]? = some u ∧ (srcs.getD j []).all (srcLt (V ++ [v]).length) = true ∧
 OpDo P r ops o ⟨fillS sl0 (V ++ [v]) (srcs.getD j []), k.hv h0 h1, n, ds⟩ (k.hw h0 h1) u ∧ (k.T h1 ≠ [] → wantedA ops o (fillS sl0 (V ++ [v]) (srcs.getD j [])) = some true) ∧ u.sup ≤ k.top h0 h1 ∧
 (match k with
   | .f N cs => N = h1.next + nfl (K.take j) ∧ supL cs = 0 ∧ ∀ q : Nat → Bool, q N = true → u.nm q = true
   | .p2 M => M = h1.next + nfl (K.take j)
   | .s a ix N M cs cs' => M = h1.next + nfl (K.take j) ∧ a < j ∧ K[a]? = some (.f N cs) ∧ ix < j ∧ ∃ u kx, (V ++ [v])[ix]? = some u ∧ K[ix]? = some kx ∧ supL cs' ≤ u.sup
   | _ => True) := fun j k hk => by
 obtain ⟨o, u, a1, a2, a3, a4, a5, a6, a7⟩ := hg j k hk
 have hlt : j < V.length := (List.getElem?_eq_some_iff.1 a2).1
 refine ⟨o, u, a1, by rw [List.getElem?_append_left hlt]; exact a2, by rw [List.length_append]; exact srcLt_more a3, by rw [fillS_more a3]; exact a4, by rw [fillS_more a3]; exact a5, a6, ?_⟩
 cases k with
 | s a ix N M cs cs' =>
   obtain ⟨b1, b2, b3, b4, w, kx, b5, b6, b7⟩ := a7
   exact ⟨b1, b2, b3, b4, w, kx, by rw [List.getElem?_append_left (List.getElem?_eq_some_iff.1 b5).1]; exact b5, b6, b7⟩
 | _ => exact a7
theorem GoodF.snoc {o : Oper} {v : AV} {k : FK} (hg : GoodF P r ops sl0 n ds srcs h0 h1 V K) (hl : V.length = K.length) (ho : ops[V.length]? = some o) (hsrc : (srcs.getD V.length []).all (srcLt V.length) = true)
 (hdo : OpDo P r ops o ⟨fillS sl0 V (srcs.getD V.length []), k.hv h0 h1, n, ds⟩ (k.hw h0 h1) v) (hw : k.T h1 ≠ [] → wantedA ops o (fillS sl0 V (srcs.getD V.length [])) = some true) (hv : v.sup ≤ k.top h0 h1)
 (hk : match k with
   | .f N cs => N = h1.next + nfl K ∧ supL cs = 0 ∧ ∀ q : Nat → Bool, q N = true → v.nm q = true
   | .p2 M => M = h1.next + nfl K
   | .s a ix N M cs cs' => M = h1.next + nfl K ∧ K[a]? = some (.f N cs) ∧ ∃ u kx, V[ix]? = some u ∧ K[ix]? = some kx ∧ supL cs' ≤ u.sup
   | _ => True) : GoodF P r ops sl0 n ds srcs h0 h1 (V ++ [v]) (K ++ [k]) := fun j k' hj => by
 by_cases hjl : j < K.length
 · rw [List.getElem?_append_left hjl] at hj
   obtain ⟨o', u, a1, a2, a3, a4, a5, a6, a7⟩ := hg.more hl v j k' hj
   refine ⟨o', u, a1, a2, a3, a4, a5, a6, ?_⟩
   have ht : (K ++ [k]).take j = K.take j := List.take_append_of_le_length (by omega)
   cases k' with
   | s a ix N M cs cs' =>
     obtain ⟨b1, b2, b3, b4, w, kx, b5, b6, b7⟩ := a7
     exact ⟨by rw [ht]; exact b1, b2, by rw [List.getElem?_append_left (by omega)]; exact b3, b4, w, kx, b5, by rw [List.getElem?_append_left (by omega)]; exact b6, b7⟩
   | f N cs => simp only [ht]; exact a7
   | p2 M => simp only [ht]; exact a7
   | _ => trivial
 · have hjj : j = K.length := by
    have := (List.getElem?_eq_some_iff.1 hj).1
    simp at this; omega
   subst hjj
   simp at hj; subst hj
   have ht : (K ++ [k]).take K.length = K := by simp
   rw [← hl]
   refine ⟨o, v, ho, by simp, by rw [List.length_append]; exact srcLt_more hsrc, by rw [fillS_more hsrc]; exact hdo, by rw [fillS_more hsrc]; exact hw, hv, ?_⟩
   rw [hl, ht]
   cases k with
   | s a ix N M cs cs' =>
     obtain ⟨b1, b2, w, kx, b3, b4, b5⟩ := hk
     have l1 := (List.getElem?_eq_some_iff.1 b2).1
     have l2 := (List.getElem?_eq_some_iff.1 b4).1
     exact ⟨b1, l1, by rw [List.getElem?_append_left l1]; exact b2, l2, w, kx, by rw [List.getElem?_append_left (by omega)]; exact b3, by rw [List.getElem?_append_left l2]; exact b4, b5⟩
   | f N cs => exact hk
   | p2 M => exact hk
   | _ => trivial
theorem fillS_sup {b : Nat} : ∀ {src : Src}, (∀ t v, (t, none) ∈ src → lk sl0 t = some v → v.sup ≤ b) → (∀ t i v, (t, some i) ∈ src → V[i]? = some v → v.sup ≤ b) → ∀ k v, lk (fillS sl0 V src) k = some v → v.sup ≤ b
 | [], _, _, k, v, h => by simp [fillS, lk] at h
 | (t, none) :: src, h1', h2', k, v, h => by
   have ih := fillS_sup (src := src) (fun t v hm => h1' t v (List.mem_cons_of_mem _ hm)) (fun t i v hm => h2' t i v (List.mem_cons_of_mem _ hm)) k v
   simp only [fillS] at h
   cases e : lk sl0 t with
   | none => rw [e] at h; exact ih h
   | some u =>
     rw [e] at h; simp only [lk] at h
     split at h
     · simp at h; subst h; exact h1' t _ List.mem_cons_self e
     · exact ih h
 | (t, some i) :: src, h1', h2', k, v, h => by
   have ih := fillS_sup (src := src) (fun t v hm => h1' t v (List.mem_cons_of_mem _ hm)) (fun t i v hm => h2' t i v (List.mem_cons_of_mem _ hm)) k v
   simp only [fillS] at h
   cases e : V[i]? with
   | none => rw [e] at h; exact ih h
   | some u =>
     rw [e] at h; simp only [lk] at h
     split at h
     · simp at h; subst h; exact h2' t i _ List.mem_cons_self e
     · exact ih h
def srcTop (K : List FK) (b : FK → Bool) (src : Src) : Bool := src.all fun s => match s.2 with | some i => (match K[i]? with | some k => b k | none => true) | none => true
theorem srcTop_sup (hg : GoodF P r ops sl0 n ds srcs h0 h1 V K) (hs : SaneF r sl0 ds h0 h1 V K) {b : FK → Bool} {m : Nat} {src : Src} (ht : srcTop K b src = true) (h0m : h0.next ≤ m) (hb : ∀ (i : Nat) k, K[i]? = some k → b k = true → k.top h0 h1 ≤ m) :
 ∀ k v, lk (fillS sl0 V src) k = some v → v.sup ≤ m := fillS_sup (fun t v _ hv => Nat.le_trans (hs.sl t v hv) h0m) fun t i v hm hv => by
 have h := List.all_eq_true.1 ht _ hm
 simp only at h
 have hil : i < K.length := by rw [← hs.len]; exact (List.getElem?_eq_some_iff.1 hv).1
 rw [List.getElem?_eq_getElem hil] at h
 obtain ⟨_, u, _, a2, _, _, _, a6, _⟩ := hg i _ (List.getElem?_eq_getElem hil)
 rw [hv] at a2; cases a2
 exact Nat.le_trans a6 (hb i _ (List.getElem?_eq_getElem hil) h)
theorem SaneF.more {v : AV} {k : FK} (hs : SaneF r sl0 ds h0 h1 V K) (hk : k.isE = false) : SaneF r sl0 ds h0 h1 (V ++ [v]) (K ++ [k]) :=
 ⟨by simp [hs.len], hs.w0, hs.w1, hs.nx, hs.sl, hs.dd, hs.rr, fun h => hs.same fun k' hk' => h k' (List.mem_append_left _ hk')⟩
variable {G : Prop} {o : Oper} {d : Nat} {v : AV} {sl : List (Nat × AV)} {j : Nat}
def FP (P : Program) (r : Option Nat) (ops : Array Oper) (sl0 : List (Nat × AV)) (n : Nat) (ds : List ADef) (srcs : List Src) (G : Prop) (h0 h1 : AH) (V : List AV) (K : List FK) (k : FK) (h : AH) (d : Nat) (e : AExit) (s : St) : Prop :=
 e = .normal ∧ s.h = h ∧ s.n = n ∧ s.defs = ds ∧ ∃ v, lk s.slots d = some v ∧ JF P r ops sl0 n ds srcs G h0 h1 (V ++ [v]) (K ++ [k])
theorem FP_ok {h : AH} {k : FK} {s : St} {V' : List AV} {K' : List FK} (q1 : s.h = h) (q2 : s.n = n) (q3 : s.defs = ds) (hv : lk s.slots d = some v) (eV : V ++ [v] = V') (eK : K ++ [k] = K') (hj : JF P r ops sl0 n ds srcs G h0 h1 V' K') : FP P r ops sl0 n ds srcs G h0 h1 V K k h d .normal s :=
 ⟨rfl, q1, q2, q3, v, hv, by rw [eV, eK]; exact hj⟩
theorem JF_pure {k : FK} {b : FK → Bool} (hj : V.length = j) (ho : ops[j]? = some o) (hd : o.dst = some d) (hdn : d < n) (hsrc : (srcs.getD j []).all (srcLt V.length) = true) (hsl : fillS sl0 V (srcs.getD j []) = sl) (hwant : wantedA ops o sl = some true)
 (hkk : k.hv h0 h1 = k.hw h0 h1 ∧ k.T h1 = [] ∧ k.isE = false ∧ k.top h0 h1 = (k.hv h0 h1).next) (hwf : SaneF r sl0 ds h0 h1 V K → (k.hv h0 h1).wf ∧ h0.next ≤ (k.hv h0 h1).next) (htop : srcTop K b (srcs.getD j []) = true)
 (hb : GoodF P r ops sl0 n ds srcs h0 h1 V K → SaneF r sl0 ds h0 h1 V K → ∀ (i : Nat) k', K[i]? = some k' → b k' = true → k'.top h0 h1 ≤ (k.hv h0 h1).next)
 (hm : match k with | .f _ _ => False | .p2 M => M = h1.next + nfl K | .s _ _ _ _ _ _ => False | _ => True)
 (h : JO P r o ⟨sl, k.hv h0 h1, n, ds⟩ (FP P r ops sl0 n ds srcs G h0 h1 V K k (k.hv h0 h1) d)) : JF P r ops sl0 n ds srcs G h0 h1 V K := by
 intro hg hs
 subst hj; subst hsl
 obtain ⟨w, wn⟩ := hwf hs
 have hst : St.wf ⟨fillS sl0 V (srcs.getD V.length []), k.hv h0 h1, n, ds⟩ := ⟨srcTop_sup hg hs htop wn (hb hg hs), w, Nat.le_trans hs.dd wn⟩
 obtain ⟨e, s', w1, w3, ⟨rfl, q1, q2, q3, v, q4, q5⟩, hx⟩ := JO_pin h hst (Nat.le_trans hs.rr wn)
 have hv : v.sup ≤ (k.hv h0 h1).next := by rw [← q1]; exact w1.1 d v q4
 refine q5 (hg.snoc hs.len ho hsrc (.inl ⟨hwant, hx.mono ?_⟩) (fun hne => absurd hkk.2.1 hne) (by rw [hkk.2.2.2]; exact hv) ?_) (hs.more hkk.2.2.1)
 · rintro e2 s2 ⟨rfl, rfl⟩
   exact ⟨rfl, by rw [← hkk.1]; exact q1, q3, q2, fun d' hd' => by rw [hd] at hd'; cases hd'; exact ⟨hdn, q4⟩⟩
 · cases k with
   | f N cs => exact hm.elim
   | s a ix N M cs cs' => exact hm.elim
   | p2 M => exact hm
   | _ => trivial
theorem f_p0 {h : AH} (hj : V.length = j) (ho : ops[j]? = some o) (hd : o.dst = some d) (hdn : d < n) (hsrc : (srcs.getD j []).all (srcLt V.length) = true) (hsl : fillS sl0 V (srcs.getD j []) = sl) (hwant : wantedA ops o sl = some true)
 (htop : srcTop K FK.isP0 (srcs.getD j []) = true) (hh : h0 = h) (h' : JO P r o ⟨sl, h, n, ds⟩ (FP P r ops sl0 n ds srcs G h0 h1 V K .p0 h d)) : JF P r ops sl0 n ds srcs G h0 h1 V K := by
 subst hh
 exact JF_pure (k := .p0) hj ho hd hdn hsrc hsl hwant ⟨rfl, rfl, rfl, rfl⟩ (fun hs => ⟨hs.w0, Nat.le_refl _⟩) htop (fun _ _ i k' _ hb => by cases k' <;> simp [FK.isP0] at hb; exact Nat.le_refl _) trivial h'
theorem f_p1 {h : AH} (hj : V.length = j) (ho : ops[j]? = some o) (hd : o.dst = some d) (hdn : d < n) (hsrc : (srcs.getD j []).all (srcLt V.length) = true) (hsl : fillS sl0 V (srcs.getD j []) = sl) (hwant : wantedA ops o sl = some true)
 (htop : srcTop K (fun k => !k.late) (srcs.getD j []) = true) (hh : h1 = h) (h' : JO P r o ⟨sl, h, n, ds⟩ (FP P r ops sl0 n ds srcs G h0 h1 V K .p1 h d)) : JF P r ops sl0 n ds srcs G h0 h1 V K := by
 subst hh
 exact JF_pure (k := .p1) hj ho hd hdn hsrc hsl hwant ⟨rfl, rfl, rfl, rfl⟩ (fun hs => ⟨hs.w1, hs.nx⟩) htop (fun _ hs i k' _ hb => by
  have := hs.nx
  cases k' <;> simp [FK.late] at hb <;> simp only [FK.top, FK.hv] <;> omega) trivial h'
theorem top_le (hg : GoodF P r ops sl0 n ds srcs h0 h1 V K) (hs : SaneF r sl0 ds h0 h1 V K) {i : Nat} {k : FK} (h : K[i]? = some k) : k.top h0 h1 ≤ h1.next + nfl K := by
 have hle := nfl_take_le (K := K) (i := i) (j := K.length) (by have := (List.getElem?_eq_some_iff.1 h).1; omega)
 rw [List.take_length] at hle
 have := hs.nx
 obtain ⟨_, _, _, _, _, _, _, _, a7⟩ := hg i k h
 cases k with
 | f N cs =>
   have h2 := nfl_take_lt (j := K.length) h rfl (List.getElem?_eq_some_iff.1 h).1
   rw [List.take_length] at h2
   have := a7.1
   simp only [FK.top]; omega
 | p2 M => simp only at a7; simp only [FK.top]; omega
 | _ => simp only [FK.top]; omega
theorem f_p2 (hj : V.length = j) (ho : ops[j]? = some o) (hd : o.dst = some d) (hdn : d < n) (hsrc : (srcs.getD j []).all (srcLt V.length) = true) (hsl : fillS sl0 V (srcs.getD j []) = sl) (hwant : wantedA ops o sl = some true)
 (h : ∀ M h, h = emp M → JO P r o ⟨sl, h, n, ds⟩ (FP P r ops sl0 n ds srcs G h0 h1 V K (.p2 M) h d)) : JF P r ops sl0 n ds srcs G h0 h1 V K :=
 JF_pure (k := .p2 (h1.next + nfl K)) (b := fun _ => true) hj ho hd hdn hsrc hsl hwant ⟨rfl, rfl, rfl, rfl⟩ (fun hs => ⟨fun i c hc => by simp [FK.hv, emp] at hc, by have := hs.nx; simp only [FK.hv, emp]; omega⟩)
  (by
    refine List.all_eq_true.2 fun s hs => ?_
    have := List.all_eq_true.1 hsrc s hs
    obtain ⟨t, oi⟩ := s
    cases oi with
    | none => rfl
    | some i =>
      simp only
      cases e : K[i]? with
      | some k => rfl
      | none => rfl) (fun hg hs i k' hk _ => top_le hg hs hk) rfl (h _ _ rfl)
theorem allP0 {K : List FK} (hK : K.all FK.isP0 = true) {j : Nat} {k : FK} (h : K[j]? = some k) : k = .p0 := by
 have := List.all_eq_true.1 hK k (List.mem_of_getElem? h)
 cases k <;> simp [FK.isP0] at this; rfl
theorem GoodF.turn {h' : AH} (hg : GoodF P r ops sl0 n ds srcs h0 h0 V K) (hK : K.all FK.isP0 = true) : GoodF P r ops sl0 n ds srcs h0 h' V K := fun j k hj => by
 have := allP0 hK hj
 subst this
 obtain ⟨o, v, a⟩ := hg j _ hj
 exact ⟨o, v, a⟩
def FE (P : Program) (r : Option Nat) (ops : Array Oper) (sl0 : List (Nat × AV)) (n : Nat) (ds : List ADef) (srcs : List Src) (G : Prop) (h0 : AH) (V : List AV) (K : List FK) (d : Nat) (e : AExit) (s : St) : Prop :=
 e = .normal ∧ s.n = n ∧ s.defs = ds ∧ ∃ v, lk s.slots d = some v ∧ JF P r ops sl0 n ds srcs G h0 s.h (V ++ [v]) (K ++ [.e])
theorem emp_add {N i : Nat} {c : List AV} {h' : AH} (a : (emp N).AddTo i (.own c) h') : i = N ∧ h' = one (N + 1) N c := by
 obtain ⟨a1, a2, a3, a4⟩ := a
 have e : i = N := a1
 subst e
 refine ⟨rfl, ?_⟩
 obtain ⟨nx, gt⟩ := h'
 have : gt = fun j => if j = i then some (.own c) else none := funext fun j => by
  by_cases q : j = i
  · subst q; simp only [if_true]; exact a3
  · simp only [q, if_false]; exact a4 j q
 simp only [emp] at a2
 subst this; subst a2; rfl
theorem JF_flt {v : AV} {N : Nat} {zc : List AV} (hj : V.length = j) (ho : ops[j]? = some o) (hd : o.dst = some d) (hdn : d < n) (hsrc : (srcs.getD j []).all (srcLt V.length) = true) (hsl : fillS sl0 V (srcs.getD j []) = sl) (hwant : wantedA ops o sl = some true)
 (hN : N = h1.next + nfl K) (hz : supL zc = 0) (hv : v.sup ≤ N + 1) (hq : ∀ q : Nat → Bool, q N = true → v.nm q = true)
 (hjo : JO P r o ⟨sl, emp N, n, ds⟩ (fun e s' => e = .normal ∧ s'.h = one (N + 1) N zc ∧ s'.defs = ds ∧ s'.n = n ∧ lk s'.slots d = some v))
 (h : JF P r ops sl0 n ds srcs G h0 h1 (V ++ [v]) (K ++ [.f N zc])) : JF P r ops sl0 n ds srcs G h0 h1 V K := by
 intro hg hs
 subst hj; subst hsl
 refine h (hg.snoc hs.len ho hsrc (.inl ⟨hwant, hjo.mono ?_⟩) (fun _ => hwant) hv ⟨hN, hz, hq⟩) (hs.more rfl)
 rintro e s ⟨rfl, q1, q2, q3, q4⟩
 exact ⟨rfl, q1, q2, q3, fun d' hd' => by rw [hd] at hd'; cases hd'; exact ⟨hdn, q4⟩⟩
theorem zeroL {l : List AV} (h : l.all (fun v => Nat.beq v.sup 0) = true) : supL l = 0 := by
 induction l with
 | nil => rfl
 | cons a l ih =>
   simp only [List.all_cons, Bool.and_eq_true] at h
   have := Nat.eq_of_beq_eq_true h.1
   have := ih h.2
   simp only [supL]; omega
theorem f_alloc {T : TypeId} {z : AV} {zc : List AV} {V' : List AV} {K' : List FK} {N : Nat} (hz : zeroIs P T z) (hzc : z.cells = zc) (hj : V.length = j) (ho : ops[j]? = some o) (hop : o.op = .alloc T) (hd : o.dst = some d) (hdn : d < n) (hsrc : (srcs.getD j []).all (srcLt V.length) = true) (hg : o.guard = none)
 (hN : N = h1.next + nfl K) (hs0 : zc.all (fun v => Nat.beq v.sup 0) = true) (eV : V ++ [.ptr (some (N, 0))] = V') (eK : K ++ [.f N zc] = K') (h : JF P r ops sl0 n ds srcs G h0 h1 V' K') : JF P r ops sl0 n ds srcs G h0 h1 V K := by
 subst eV; subst eK
 refine JF_flt (v := .ptr (some (N, 0))) hj ho hd hdn hsrc rfl (by simp [wantedA, hg]) hN (zeroL hs0) (by simp [AV.sup, supA]) (fun q hq => hq) ?_ h
 refine o_alloc hz hzc hop hd hdn fun i h' ha => ?_
 obtain ⟨rfl, rfl⟩ := emp_add ha
 exact ⟨rfl, rfl, rfl, rfl, by simp [lk]⟩
theorem f_sto {T : TypeId} {N a ix m : Nat} {cs cs' : List AV} {x y : Operand} {v : AV} {kx : FK} {V' : List AV} {K' : List FK} (hm : (P.info? T).map (·.size) = some m) (hj : V.length = j) (ho : ops[j]? = some o) (hop : o.op = .store T x y) (hd : o.dst = none) (hsrc : (srcs.getD j []).all (srcLt V.length) = true)
 (hsl : fillS sl0 V (srcs.getD j []) = sl) (hg : o.guard = none) (hx : ev sl x = some (.ptr (some (N, 0)))) (hy : ev sl y = some v) (hvc : v.cells = cs') (hcn : cs'.length = m) (hcs : cs.length = m) (h1' : cs'.all AV.one = true)
 (ha : K[a]? = some (.f N cs)) (hix : V[ix]? = some v) (hkx : K[ix]? = some kx) (eV : V ++ [.tuple []] = V') (eK : K ++ [.s a ix N (h1.next + nfl K) cs cs'] = K') (h : JF P r ops sl0 n ds srcs G h0 h1 V' K') : JF P r ops sl0 n ds srcs G h0 h1 V K := by
 intro hg' hs
 subst hj; subst hsl; subst eV; subst eK
 refine h (hg'.snoc hs.len ho hsrc (.inl ⟨by simp [wantedA, hg], ?_⟩) (fun _ => by simp [wantedA, hg]) (Nat.zero_le _) ⟨rfl, ha, v, kx, hix, hkx, by rw [← hvc, cells_sup_le]; exact Nat.le_refl _⟩) (hs.more rfl)
 have hsp : splice cs 0 cs' = cs' := by simp [splice, hcn, hcs]
 refine o_store hm hop hd hx hy hvc (cs := cs) (by simp [FK.hv, one]) hcn (by omega) h1' hsp fun h' st => ⟨rfl, ?_, rfl, rfl, fun d' hd' => by rw [hd] at hd'; cases hd'⟩
 obtain ⟨a2, a3, a4⟩ := st
 obtain ⟨nx, gt⟩ := h'
 have : gt = fun j => if j = N then some (.own cs') else none := funext fun j => by
  by_cases q : j = N
  · subst q; simp only [if_true]; exact a3
  · simp only [q, if_false]
    have := a4 j q
    simp only [FK.hv, one, q, if_false] at this
    exact this
 simp only [FK.hv, one] at a2
 subst this; subst a2; rfl
theorem NewC.nil {h : AH} {Q : AH → Prop} (q : Q h) : NewC [] h Q := q
theorem NewC.cons {i : Nat} {cs : List AV} {l : List (Nat × List AV)} {h : AH} {Q : AH → Prop} (q : ∀ h', New h i (.own cs) h' → NewC l h' Q) : NewC ((i, cs) :: l) h Q := q
theorem J_drawF {c : Code} {h0 : AH} {Q : AExit → St → Prop} (ops : Array Oper) (srcs : List Src) (h : JF P r ops sl0 n ds srcs (J P r c ⟨sl0, h0, n, ds⟩ Q) h0 h0 [] []) : J P r c ⟨sl0, h0, n, ds⟩ Q := fun hw hr =>
 h (fun j k hj => by simp at hj) ⟨rfl, hw.2.1, hw.2.1, Nat.le_refl _, hw.1, hw.2.2, hr, fun _ => rfl⟩ hw hr
end main
variable {P : Program} {r : Option Nat} {sl : List (Nat × AV)} {h₀ : AH} {nt : Nat} {ds : List ADef} {Q : AExit → St → Prop} {o : Oper} {d : Nat} {x y z : Operand}
structure FlatEq (P : Program) (T : TypeId) (ls : List Lf) : Prop where
 flat : flatT P 30 T = some ls
 wide : isWide P T = true
 guard : P.eqGuardType P.depth T = false
theorem FlatEq.equal {T : TypeId} {ls : List Lf} {a b : List AV} (f : FlatEq P T ls) (ha : flatsE ls a = true) (hb : flatsE ls b = true) : equalE P T (.agg a) (.agg b) = some (eqAs a b) := by
 simp [equalE, equalAgg, AV.asAgg, f.flat, f.wide, f.guard, ha, hb, od, gb]
theorem x_eqF {T U : TypeId} {ls : List Lf} {a b : List AV} (f : FlatEq P T ls) (h : ∀ b : Bool, Q .normal ⟨(d, .bool b) :: sl, h₀, nt, ds⟩) (ho : o.op = .binOp .eql T x y U := by exact rfl) (hd : o.dst = some d := by exact rfl) (hx : ev sl x = some (.agg a) := by exact rfl) (hy : ev sl y = some (.agg b) := by exact rfl) (ha : flatsE ls a = true := by exact rfl) (hb : flatsE ls b = true := by exact rfl) (hdn : d < nt := by decide) : JO P r o ⟨sl, h₀, nt, ds⟩ Q :=
 o_eqv ho hd hdn hx hy (equalE_run (f.equal ha hb) .eql (.inl rfl) x y ⟨by simp, by simp⟩) (h _)
theorem mget_V {eqv : AV → AV → Bool} {es : List (AV × AV × Nat)} {kv zv : AV} {V : AV → Prop} (hes : ∀ e ∈ es, V e.2.1) (hz : V zv) : V (mget eqv es kv zv) := by
 unfold mget
 cases e : afind eqv kv es 0 with
 | none => simpa using hz
 | some p =>
   obtain ⟨j, v⟩ := p
   obtain ⟨_, e', h1, h2, _⟩ := afind_spec e
   simp only [Option.map_some, Option.getD_some]
   rw [← h2]; exact hes e' (List.mem_of_getElem? h1)
theorem x_lookupI {T k e : TypeId} {K : AV → Prop} {eqv : AV → AV → Bool} {id cl : Nat} {es : List (AV × AV × Nat)} {kv zv v : AV} (hT : P.underlying T = some (.map k e)) (hz : zeroIs P e zv) (m : MapKey P k K eqv) (hg : h₀.get id = some (.map es cl)) (hes : ∀ e ∈ es, K e.1) (hm : mget eqv es kv zv = v) (h : Q .normal ⟨(d, v) :: sl, h₀, nt, ds⟩) (ho : o.op = .lookup T x y false := by exact rfl) (hd : o.dst = some d := by exact rfl) (hx : ev sl x = some (.map (some id)) := by exact rfl) (hy : ev sl y = some kv := by exact rfl) (hdn : d < nt := by decide) (hk : K kv) : JO P r o ⟨sl, h₀, nt, ds⟩ Q := x_lookupX hT hz m ho hd hdn hx hy hk hg hes (by rw [hm]; exact h)
theorem x_mapEntryI {T k e : TypeId} {K V : AV → Prop} {eqv : AV → AV → Bool} {id cl : Nat} {es : List (AV × AV × Nat)} {kv zv v : AV} (hT : P.underlying T = some (.map k e)) (hz : zeroIs P e zv) (m : MapKey P k K eqv) (hg : h₀.get id = some (.map es cl)) (hes : ∀ e ∈ es, K e.1) (hV : ∀ e ∈ es, V e.2.1) (hm : mget eqv es kv zv = v) (h : ∀ es' cl' (b : Nat) h', But h₀ id h' → h'.get id = some (.map es' cl') → (∀ e ∈ es', K e.1) → (∀ e ∈ es', V e.2.1) → (∃ e ∈ es', e.2.2 = b) → mget eqv es' kv zv = v → Q .normal ⟨(d, .tuple [v, .int .i64 b]) :: sl, h', nt, ds⟩) (ho : o.op = .mapEntry T x y := by exact rfl) (hd : o.dst = some d := by exact rfl) (hx : ev sl x = some (.map (some id)) := by exact rfl) (hy : ev sl y = some kv := by exact rfl) (hdn : d < nt := by decide) (hk : K kv) (hzV : V zv) : JO P r o ⟨sl, h₀, nt, ds⟩ Q :=
 x_mapEntry hT hz m ho hd hdn hx hy hk hg hes fun es' cl' b v' h' q1 q2 q3 q4 q5 _ q7 _ => by
  have e1 : v' = v := q5.1.trans hm
  subst e1
  exact h es' cl' b h' q1 q2 q3 (fun e he => by rcases q7 e he with q | ⟨e0, q8, q9⟩; rw [q]; exact hzV; rw [← q9]; exact hV e0 q8) q4 q5.2
theorem x_entryStoreI {T : TypeId} {K V : AV → Prop} {id cl b : Nat} {es : List (AV × AV × Nat)} {v : AV} (hg : h₀.get id = some (.map es cl)) (hes : ∀ e ∈ es, K e.1) (hV : ∀ e ∈ es, V e.2.1) (hb : ∃ e ∈ es, e.2.2 = b) (h : ∀ es' h', But h₀ id h' → h'.get id = some (.map es' cl) → (∀ e ∈ es', K e.1) → (∀ e ∈ es', V e.2.1) → Q .normal ⟨sl, h', nt, ds⟩) (ho : o.op = .entryStore T x y z := by exact rfl) (hd : o.dst = none := by exact rfl) (hx : ev sl x = some (.map (some id)) := by exact rfl) (hy : ev sl y = some (.int .i64 b) := by exact rfl) (hv : ev sl z = some v := by exact rfl) (hvV : V v) : JO P r o ⟨sl, h₀, nt, ds⟩ Q :=
 x_entryStore ho hd hx hy hv hg hes hb fun es' h' q1 q2 q3 q4 _ => h es' h' q1 q2 q3 fun e he => by rcases q4 e he with q | ⟨e0, q8, q9⟩; rw [q]; exact hvV; rw [← q9]; exact hV e0 q8
theorem x_sliceGM {T U : TypeId} {n len hi m esz id off : Nat} {cs : List AV} {hi' mx : Operand} {nh nm : Int} (hU : P.underlying U = some (.slice T)) (hn : (P.info? T).map (·.size) = some n) (hg : Grow h₀ id esz cs) (h : Q .normal ⟨(d, .slice (some (id, off)) hi (.exact m)) :: sl, h₀, nt, ds⟩) (ho : o.op = .slice U x none (some hi') (some mx) := by exact rfl) (hd : o.dst = some d := by exact rfl) (hx : ev sl x = some (.slice (some (id, off)) len (.grow 0)) := by exact rfl) (e2 : evO sl (some hi') = some (some nh) := by exact rfl) (e3 : evO sl (some mx) = some (some nm) := by exact rfl) (hh : hi = nh.toNat := by exact rfl) (hm : m = nm.toNat := by exact rfl) (hdn : d < nt := by decide) (hes : 0 < esz := by decide) (hroom : len * esz ≤ cs.length := by omega) (p2 : 0 ≤ nh := by omega) (p3 : 0 ≤ nm := by omega) (c1 : hi ≤ m := by omega) (c2 : m ≤ len := by omega) : JO P r o ⟨sl, h₀, nt, ds⟩ Q :=
 JO_val hd hdn (by simp [Oper.noDefer, ho]) (fun hw => by have := ev_sup hw hx; exact this) (fun ρ a w hrel => by
  obtain ⟨_, e, arr, _, hsz, hlen, _⟩ := hrel.2.2.1 id _ hg
  have hcap : len ≤ ρ.cap id := by
   have : len * esz ≤ ρ.cap id * esz := by omega
   exact Nat.le_of_mul_le_mul_right this hes
  have hb := run_bounds (P := P) (isS := true) (len := len) (cap := ρ.cap id - 0) (l := 0) (hi := hi) (m := m) w (evO_map hrel (show evO sl none = some none from rfl)) (evO_map hrel e2) (evO_map hrel e3) (by simp [hm]) (by simp [hh]) rfl (by simp) (by simpa using p2) (by simpa using p3) (by simp) (by omega) (by omega) (by omega)
  simp only [Option.map_none, Option.map_some] at hb
  simp only [execOp, ho, Instr.sliceAt, Instr.slice, Sem.run_bind, Go.run_underlying hU, Result.andThen_ok, ev_eval hrel hx, conc, Cap.conc, Option.map_some, Option.map_none, hb, run_sizeOf' hn, Sem.run_pure]
  congr 3
  split
  · rfl
  · rw [Nat.zero_mul]; first | rfl | exact congrArg some rfl) h
theorem x_appendX0 {t t2 e : TypeId} {esz by_ : Nat} {z : AV} {p q : Option (Nat × Nat)} {n m cap : Nat} {c2 : Cap} {E : List AV → Prop} (ha : AppT P t t2 e esz by_ z)
 (ho : o.op = .call { callee := .builtin .append, args := #[x, y], argTypes := #[t, t2] }) (hd : o.dst = some d) (hdn : d < nt)
 (hx : ev sl x = some (.slice p n (.exact cap))) (hy : ev sl y = some (.slice q m c2)) (hp : SlV h₀ p n esz E) (hpq : n = 0 → p = none ∨ ∃ id off cs, p = some (id, off) ∧ h₀.cells id = some cs ∧ off ≤ cs.length)
 (hs : SlV h₀ q m esz E) (hq : m = 0 → q = none ∨ ∃ id off cs, q = some (id, off) ∧ h₀.cells id = some cs ∧ off ≤ cs.length) (hno : cap < n + m) (hle : n + m ≤ 4294967296)
 (h : ∀ v' h', Bld h₀ h' v' (n + m) esz E → Le h₀ h' → Q .normal ⟨(d, v') :: sl, h', nt, ds⟩) : JO P r o ⟨sl, h₀, nt, ds⟩ Q := by
 obtain ⟨old, o1, o2, o3⟩ := hp.cellsOf (c2 := .exact cap) hpq
 obtain ⟨new, n1, n2, n3⟩ := hs.cellsOf (c2 := c2) hq
 refine JO_wf fun hw => w_appendN ha ho hd hdn hx hy o1 n1 hno hle rfl fun i h' ad => ?_
 have nw := New.of ad hw.2.1
 refine h _ h' (.inr ⟨i, _, rfl, nw.grow, nw.newN, ?_, elems_append o2 o3 n3⟩) nw.le
 rw [List.length_append, o2, n2, ← Nat.add_mul]
theorem x_appendX {t t2 e : TypeId} {esz by_ : Nat} {z : AV} {p q : Option (Nat × Nat)} {n m cap : Nat} {c2 : Cap} {E : List AV → Prop} (ha : AppT P t t2 e esz by_ z) (hp : SlV h₀ p n esz E) (hs : SlV h₀ q m esz E) (h : ∀ v' h', Bld h₀ h' v' (n + m) esz E → Le h₀ h' → Q .normal ⟨(d, v') :: sl, h', nt, ds⟩) (ho : o.op = .call { callee := .builtin .append, args := #[x, y], argTypes := #[t, t2] } := by exact rfl) (hd : o.dst = some d := by exact rfl) (hx : ev sl x = some (.slice p n (.exact cap)) := by exact rfl) (hy : ev sl y = some (.slice q m c2) := by exact rfl) (hdn : d < nt := by decide) (hpq : n = 0 → p = none ∨ ∃ id off cs, p = some (id, off) ∧ h₀.cells id = some cs ∧ off ≤ cs.length) (hq : m = 0 → q = none ∨ ∃ id off cs, q = some (id, off) ∧ h₀.cells id = some cs ∧ off ≤ cs.length) (hno : cap < n + m := by omega) (hle : n + m ≤ 4294967296 := by omega) : JO P r o ⟨sl, h₀, nt, ds⟩ Q := x_appendX0 ha ho hd hdn hx hy hp hpq hs hq hno hle h
theorem firstCells0 {ρ : Ren} {w : World} {q : Option (Nat × Nat)} {c : Cap} {esz : Nat} : (Builtin.firstCells esz 0 (conc ρ (.slice q 0 c))).run P w = .ok #[] w := by
 cases q with
 | none => rfl
 | some a =>
   have := run_loadCells_list (P := P) w (ρ.addr a) [] (fun j u hu => by simp at hu)
   simpa [Builtin.firstCells, conc] using this
theorem x_append0 {t t2 e : TypeId} {esz by_ : Nat} {z : AV} {p q : Option (Nat × Nat)} {n0 cap : Nat} {c2 : Cap} (ha : AppT P t t2 e esz by_ z)
 (ho : o.op = .call { callee := .builtin .append, args := #[x, y], argTypes := #[t, t2] }) (hd : o.dst = some d) (hdn : d < nt)
 (hx : ev sl x = some (.slice p n0 (.exact cap))) (hy : ev sl y = some (.slice q 0 c2)) (hle : n0 ≤ cap)
 (h : Q .normal ⟨(d, .slice p n0 (.exact cap)) :: sl, h₀, nt, ds⟩) : JO P r o ⟨sl, h₀, nt, ds⟩ Q :=
 JO_val hd hdn (by simp [Oper.noDefer, ho]) (fun hw => ev_sup hw hx) (fun ρ a w hrel => by
  obtain ⟨cst, hcst⟩ := run_builtin (P := P) ho a.eval w
  have hrun := run_append_fits (ty := o.type) ha (w := w) (w' := w) (n0 := n0) (n := 0) (cap := cap) (base := p.map ρ.addr) (x := conc ρ (.slice q 0 c2)) (new := #[]) (lenOf_slice w) firstCells0 (by omega)
   (by cases p <;> simp [storeCells])
  rw [hcst]
  simp only [builtin, List.map_toArray, List.map_cons, List.map_nil, ev_eval hrel hx, ev_eval hrel hy, conc, Cap.conc, Sem.run_bind] at hrun ⊢
  rw [hrun]
  rfl) h
def FrW (hB h : AH) (v : AV) (n esz : Nat) (E : List AV → Prop) : Prop :=
 (n = 0 ∧ ∃ p c, v = .slice p 0 c ∧ (p = none ∨ ∃ i off, p = some (i, off) ∧ NewN hB i)) ∨ ∃ i c, v = .slice (some (i, 0)) n c ∧ NewN hB i ∧ SlW h i n esz E
theorem Bld.frw {hB h : AH} {v : AV} {n esz : Nat} {E : List AV → Prop} (a : Bld hB h v n esz E) : FrW hB h v n esz E := by
 rcases a with ⟨rfl, rfl⟩ | ⟨i, cs, rfl, k1, k2, k3, k4⟩
 · exact .inl ⟨rfl, _, _, rfl, .inl rfl⟩
 · exact .inr ⟨i, _, rfl, k2, cs, .inr ⟨_, k1⟩, k3, k4⟩
theorem FrW.le {hB h h' : AH} {v : AV} {n esz : Nat} {E : List AV → Prop} (a : FrW hB h v n esz E) (l : Le h h') : FrW hB h' v n esz E := by
 rcases a with a | ⟨i, c, h1, h2, h3⟩
 · exact .inl a
 · exact .inr ⟨i, c, h1, h2, h3.le l⟩
theorem FrW.base {hA hB h : AH} {v : AV} {n esz : Nat} {E : List AV → Prop} (a : FrW hB h v n esz E) (l : Le hA hB) : FrW hA h v n esz E := by
 rcases a with ⟨h0, p, c, h1, h2⟩ | ⟨i, c, h1, h2, h3⟩
 · exact .inl ⟨h0, p, c, h1, h2.imp id fun ⟨i, off, a, b⟩ => ⟨i, off, a, l.newN b⟩⟩
 · exact .inr ⟨i, c, h1, l.newN h2, h3⟩
theorem FrW.frs {hB h : AH} {v : AV} {n esz : Nat} {E : List AV → Prop} (a : FrW hB h v n esz E) : Frs hB h v n esz E := by
 rcases a with ⟨rfl, p, c, rfl, _⟩ | ⟨i, c, rfl, h2, h3⟩
 · exact ⟨p, c, rfl, SlV.zero, .inl rfl⟩
 · obtain ⟨cs, k1, k2⟩ := id h3
   exact ⟨_, _, rfl, h3.slV, .inr ⟨i, 0, rfl, h2, cs, by rw [k2.1]; omega, k1⟩⟩
theorem FrW.pos {hB h : AH} {v : AV} {n esz : Nat} {E : List AV → Prop} (a : FrW hB h v n esz E) (hn : 0 < n) : ∃ i c, v = .slice (some (i, 0)) n c ∧ NewN hB i ∧ SlW h i n esz E := by
 rcases a with ⟨h0, _⟩ | h
 · omega
 · exact h
theorem x_clone {t t2 e : TypeId} {esz by_ : Nat} {z : AV} {i0 : Nat} {q : Option (Nat × Nat)} {m : Nat} {c2 : Cap} {E : List AV → Prop} {hB : AH} (ha : AppT P t t2 e esz by_ z) (hs : SlV h₀ q m esz E) (hi : NewN hB i0) (hown : Own h₀ i0 []) (hB0 : Le hB h₀) (h : ∀ v' h', FrW hB h' v' m esz E → Le h₀ h' → Q .normal ⟨(d, v') :: sl, h', nt, ds⟩) (ho : o.op = .call { callee := .builtin .append, args := #[x, y], argTypes := #[t, t2] } := by exact rfl) (hd : o.dst = some d := by exact rfl) (hx : ev sl x = some (.slice (some (i0, 0)) 0 (.exact 0)) := by exact rfl) (hy : ev sl y = some (.slice q m c2) := by exact rfl) (hdn : d < nt := by decide) (hle : m ≤ 4294967296 := by omega) : JO P r o ⟨sl, h₀, nt, ds⟩ Q := by
 by_cases hm : m = 0
 · subst hm
   exact x_append0 ha ho hd hdn hx hy (Nat.le_refl _) (h _ _ (.inl ⟨rfl, _, _, rfl, .inr ⟨i0, 0, rfl, hi⟩⟩) (.refl _))
 · refine x_appendX0 ha ho hd hdn hx hy (E := E) SlV.zero (fun _ => .inr ⟨i0, 0, [], rfl, hown.cells, Nat.le_refl _⟩) hs (fun h0 => absurd h0 hm) (by omega) (by omega) fun v' h' bl le => ?_
   rw [Nat.zero_add] at bl
   exact h v' h' (bl.frw.base hB0) le
theorem SlV.nil0 {h : AH} {n esz : Nat} {E : List AV → Prop} (a : SlV h none n esz E) : n = 0 := by
 cases n with
 | zero => rfl
 | succ n => obtain ⟨_, _, _, h1, _⟩ := a (by omega); cases h1
theorem x_eqNil {T U e : TypeId} {p : Option (Nat × Nat)} {n : Nat} {c : Cap} (hT : P.underlying T = some (.slice e)) (h : ∀ b : Bool, (b = true → p = none) → Q .normal ⟨(d, .bool b) :: sl, h₀, nt, ds⟩) (ho : o.op = .binOp .eql T x y U := by exact rfl) (hd : o.dst = some d := by exact rfl) (hx : ev sl x = some (.slice p n c) := by exact rfl) (hy : ev sl y = some (.slice none 0 (.exact 0)) := by exact rfl) (hdn : d < nt := by decide) : JO P r o ⟨sl, h₀, nt, ds⟩ Q :=
 o_eqv ho hd hdn hx hy (equalE_run (b := isNone p) (by simp [equalE, AV.asSl, od, gb, isNone, elemE, hT, asSliceT]) .eql (.inl rfl) x y ⟨by simp, by simp⟩) (h _ (by cases p <;> simp [isNone]))
def VInt (v : AV) : Prop := ∃ n : Int, v = .int .i64 n
theorem map_of {α : Type} {f : α → AV} : ∀ {cs : List AV}, (∀ k : Nat, k < cs.length → ∃ x, cs[k]? = some (f x)) → ∃ L : List α, cs = L.map f
 | [], _ => ⟨[], rfl⟩
 | v :: cs, h => by
   obtain ⟨x, hx⟩ := h 0 (by simp)
   obtain ⟨L, hL⟩ := map_of (f := f) (cs := cs) fun k hk => by
    obtain ⟨y, hy⟩ := h (k + 1) (by simp; omega)
    exact ⟨y, by simpa using hy⟩
   simp at hx
   exact ⟨x :: L, by rw [List.map_cons, ← hx, ← hL]⟩
theorem Bld.lst {α : Type} {f : α → AV} {hB h : AH} {v : AV} {n M0 : Nat} {E : List AV → Prop} (a : Bld hB h v n 1 E) (hE : ∀ l, E l → ∃ x, l = [f x]) (hn : M0 ≤ hB.next) :
 ∃ p c, ∃ L : List α, v = .slice p L.length c ∧ L.length = n ∧ Lst h M0 p (L.map f) ∧ ∀ i o, p = some (i, o) → hB.get i = none := by
 rcases a with ⟨rfl, rfl⟩ | ⟨i, cs, rfl, k1, k2, k3, k4⟩
 · exact ⟨none, _, [], rfl, rfl, .inl rfl, fun i o h => by cases h⟩
 · have hcs : cs.length = n := by omega
   obtain ⟨L, hL⟩ := map_of (f := f) (cs := cs) fun k hk => by
    obtain ⟨l, h1, h2, h3⟩ := k4 k (by omega) (by omega)
    obtain ⟨x, rfl⟩ := hE l h2
    refine ⟨x, ?_⟩
    have h4 : ((cs.drop ((k : Int).toNat * 1)).take 1)[0]? = some (f x) := by rw [h3]; rfl
    rw [List.getElem?_take, if_pos (by omega), List.getElem?_drop] at h4
    simpa using h4
   have hl : L.length = n := by rw [← hcs, hL]; simp
   subst hl
   refine ⟨some (i, 0), _, L, rfl, rfl, .inr ⟨i, 0, cs, rfl, Nat.le_trans hn k2.2, k1.cells, by simp [hcs], ?_⟩, fun j o h => by cases h; exact k2.1⟩
   rw [← hL, List.drop_zero, List.take_length]
theorem puts_of {P : Program} {M h1 H hB : AH} {b n m : Nat} {w : AV} (keep : ∀ i c, M.get i = some c → i ≠ b → h1.get i = some c) (mn : M.next ≤ h1.next) (hBe : hB = h1.del b) (hb : HB hB H b n m) (hn : n ≤ 4294967296) (hm : m ≤ 4294967296)
 (wipe : ∀ g, (∀ i c, M.next ≤ i → H.get i = some c → g.get i = some c) → JApp P w [] g (fun e g2 => (∃ v, e = .ret v) ∧ g.next ≤ g2.next ∧ ∀ i c, g.get i = some c → (i < M.next ∨ hB.get i = none) → g2.get i = some c)) : Puts P M b H w := by
 obtain ⟨vn, vs, x⟩ := hb
 have hnx : M.next ≤ hB.next := by rw [hBe]; exact mn
 obtain ⟨p, c, L, rfl, l2, l3, l4⟩ := x.ints.lst (f := AV.int .i64) (fun l hl => by obtain ⟨_, _, rfl, ⟨n, rfl, _, _⟩, rfl⟩ := hl; exact ⟨n, rfl⟩) hnx
 obtain ⟨q, d, K, rfl, k2, k3, k4⟩ := x.strs.lst (f := AV.str) (fun l hl => by obtain ⟨_, _, rfl, ⟨n, rfl, _⟩, rfl⟩ := hl; exact ⟨n, rfl⟩) hnx
 refine ⟨fun i c' hi hib => ?_, p, c, q, d, L, K, ⟨x.own, l3, k3, by omega, by omega⟩, fun g hg => (wipe g hg).mono fun e g2 ⟨z1, z2, z3⟩ => ⟨z1, z2, fun i c' hi hor => z3 i c' hi ?_⟩⟩
 · refine x.le.get i c' ?_
   rw [hBe, AH.del_ne hib]; exact keep i c' hi hib
 · rcases hor with h | ⟨o, h⟩ | ⟨o, h⟩
   · exact .inl h
   · exact .inr (l4 i o h)
   · exact .inr (k4 i o h)
theorem SlV.del {h : AH} {b : Nat} {p : Option (Nat × Nat)} {n esz : Nat} {E : List AV → Prop} (a : SlV h p n esz E) (hb : ∀ i off, p = some (i, off) → i ≠ b) : SlV (h.del b) p n esz E := fun h0 => by
 obtain ⟨id, off, cs, h1, h2, h3⟩ := a h0
 exact ⟨id, off, cs, h1, by rw [cells_of_get (AH.del_ne (hb id off h1))]; exact h2, h3⟩
theorem Frs.del {M h : AH} {b : Nat} {p : Option (Nat × Nat)} {n esz : Nat} {c : Cap} {E : List AV → Prop} (a : Frs M h (.slice p n c) n esz E) (hb : M.get b ≠ none) : SlV (h.del b) p n esz E ∧ WL h p n esz ∧ (0 < n → ∀ i off, p = some (i, off) → NewN M i) := by
 obtain ⟨p', c', e, sv, w⟩ := a
 simp only [AV.slice.injEq] at e
 obtain ⟨rfl, _, rfl⟩ := e
 by_cases h0 : n = 0
 · subst h0
   exact ⟨SlV.zero, .inl rfl, fun h => absurd h (Nat.lt_irrefl 0)⟩
 · rcases w with w | ⟨i, off, rfl, nw, cs, hl, hc⟩
   · exact absurd w h0
   · refine ⟨sv.del fun j o hj => ?_, .inr ⟨i, off, rfl, cs, hl, hc.imp id id⟩, fun _ j o hj => by cases hj; exact nw⟩
     cases hj
     exact fun e => by subst e; exact hb nw.1
theorem WL.move {h g : AH} {p : Option (Nat × Nat)} {n esz : Nat} (a : WL h p n esz) (k : ∀ i c, (∃ o, p = some (i, o)) → h.get i = some c → g.get i = some c) : WL g p n esz := by
 rcases a with h0 | ⟨i, off, rfl, cs, h1, h2 | ⟨e, h2⟩⟩
 · exact .inl h0
 · exact .inr ⟨i, off, rfl, cs, h1, .inl (k i _ ⟨off, rfl⟩ h2)⟩
 · exact .inr ⟨i, off, rfl, cs, h1, .inr ⟨e, k i _ ⟨off, rfl⟩ h2⟩⟩
structure LeQ (p : Option (Nat × Nat)) (n : Nat) (h h' : AH) : Prop where
 next : h.next ≤ h'.next
 get : ∀ j c, h.get j = some c → (0 < n → ∀ o, p ≠ some (j, o)) → h'.get j = some c
theorem LeQ.refl (p : Option (Nat × Nat)) (n : Nat) (h : AH) : LeQ p n h h := ⟨Nat.le_refl _, fun _ _ a _ => a⟩
theorem LeQ.trans {p : Option (Nat × Nat)} {n : Nat} {h h' h'' : AH} (a : LeQ p n h h') (b : LeQ p n h' h'') : LeQ p n h h'' := ⟨Nat.le_trans a.next b.next, fun j c hj hn => b.get j c (a.get j c hj hn) hn⟩
theorem LeM.leQ {i off n : Nat} {h h' : AH} (a : LeM [i] h h') (hn : 0 < n) : LeQ (some (i, off)) n h h' := ⟨a.next, fun j c hj hk => a.get j c (fun hm => by simp at hm; subst hm; exact hk hn off rfl) hj⟩
theorem wipe_nothing {P : Program} {M H hB : AH} {w : AV} (hw : ∀ g : AH, JApp P w [] g (fun e g2 => e = .ret (.tuple []) ∧ g2 = g)) :
 ∀ g, (∀ i c, M.next ≤ i → H.get i = some c → g.get i = some c) → JApp P w [] g (fun e g2 => (∃ v, e = .ret v) ∧ g.next ≤ g2.next ∧ ∀ i c, g.get i = some c → (i < M.next ∨ hB.get i = none) → g2.get i = some c) :=
 fun g _ => (hw g).mono fun e g2 ⟨h1, h2⟩ => by subst h1; subst h2; exact ⟨⟨_, rfl⟩, Nat.le_refl _, fun i c h _ => h⟩
theorem wipe_list {P : Program} {M H hB : AH} {w : AV} {bx : Nat} {p : Option (Nat × Nat)} {n esz : Nat} {c : Cap} (ob : Own H bx [.slice p n c]) (hbx : M.next ≤ bx) (hw : WL H p n esz) (hp : 0 < n → ∀ i off, p = some (i, off) → M.next ≤ i ∧ hB.get i ≠ none)
 (hc : ∀ g, Own g bx [.slice p n c] → WL g p n esz → JApp P w [] g (fun e g2 => e = .ret (.tuple []) ∧ LeQ p n g g2)) :
 ∀ g, (∀ i c, M.next ≤ i → H.get i = some c → g.get i = some c) → JApp P w [] g (fun e g2 => (∃ v, e = .ret v) ∧ g.next ≤ g2.next ∧ ∀ i c, g.get i = some c → (i < M.next ∨ hB.get i = none) → g2.get i = some c) := fun g hg => by
 have hw' : WL g p n esz := by
  by_cases h0 : n = 0
  · exact .inl h0
  · exact hw.move fun i c' ⟨o, ho⟩ hi => hg i c' (hp (by omega) i o ho).1 hi
 refine (hc g (hg bx _ hbx ob) hw').mono fun e g2 ⟨h1, h2⟩ => ⟨⟨_, h1⟩, h2.next, fun i c' hi hor => h2.get i c' hi fun h0 o ho => ?_⟩
 obtain ⟨q1, q2⟩ := hp h0 i o ho
 rcases hor with h | h
 · omega
 · exact q2 h
theorem WL.has {h : AH} {p : Option (Nat × Nat)} {n esz : Nat} (a : WL h p n esz) (hn : 0 < n) : ∃ i off c, p = some (i, off) ∧ h.get i = some c := by
 rcases a with h0 | ⟨i, off, rfl, cs, h1, h2 | ⟨e, h2⟩⟩
 · omega
 · exact ⟨i, off, _, rfl, h2⟩
 · exact ⟨i, off, _, rfl, h2⟩
theorem wipe_frs {P : Program} {M h1 H hB : AH} {w : AV} {b bx : Nat} {p : Option (Nat × Nat)} {n esz : Nat} {c : Cap} {E : List AV → Prop} (fr : Frs M h1 (.slice p n c) n esz E) (hbM : M.get b ≠ none) (hBe : hB = h1.del b) (l : Le hB H) (ob : Own H bx [.slice p n c]) (hbx : M.next ≤ bx)
 (hc : ∀ g, Own g bx [.slice p n c] → WL g p n esz → JApp P w [] g (fun e g2 => e = .ret (.tuple []) ∧ LeQ p n g g2)) :
 ∀ g, (∀ i c, M.next ≤ i → H.get i = some c → g.get i = some c) → JApp P w [] g (fun e g2 => (∃ v, e = .ret v) ∧ g.next ≤ g2.next ∧ ∀ i c, g.get i = some c → (i < M.next ∨ hB.get i = none) → g2.get i = some c) := by
 obtain ⟨_, wl, nw⟩ := fr.del hbM
 have hne : 0 < n → ∀ i off, p = some (i, off) → i ≠ b := fun h0 i off hp e => by subst e; exact hbM (nw h0 i off hp).1
 refine wipe_list ob hbx ?_ (fun h0 i off hp => ⟨(nw h0 i off hp).2, ?_⟩) hc
 · by_cases h0 : n = 0
   · exact .inl h0
   · exact wl.move fun i c' ⟨o, ho⟩ hi => l.get i c' (by rw [hBe, AH.del_ne (hne (by omega) i o ho)]; exact hi)
 · obtain ⟨j, o', c', e, hj⟩ := wl.has h0
   rw [hp] at e; cases e
   rw [hBe, AH.del_ne (hne h0 i off hp), hj]; simp
theorem txt_of {H hB : AH} {b n m M0 : Nat} (hb : HB hB H b n m) (hnx : M0 ≤ hB.next) (hn : n ≤ 4294967296) (hm : m ≤ 4294967296) : ∃ p c q d, ∃ (L : List Int) (K : List ByteArray), Txt H M0 b p c q d L K := by
 obtain ⟨vn, vs, x⟩ := hb
 obtain ⟨p, c, L, rfl, l2, l3, _⟩ := x.ints.lst (f := AV.int .i64) (fun l hl => by obtain ⟨_, _, rfl, ⟨n, rfl, _, _⟩, rfl⟩ := hl; exact ⟨n, rfl⟩) hnx
 obtain ⟨q, d, K, rfl, k2, k3, _⟩ := x.strs.lst (f := AV.str) (fun l hl => by obtain ⟨_, _, rfl, ⟨n, rfl, _⟩, rfl⟩ := hl; exact ⟨n, rfl⟩) hnx
 exact ⟨p, c, q, d, L, K, x.own, l3, k3, by omega, by omega⟩
theorem first_all {P : Program} {f : FuncId} {x : AV} {h G0 G1 G2 : AH} {xb a b : Nat} {cells : List AV} {KN KM : Nat} (hw : h.wf) (n0 : h.AddTo xb (.own cells) G0) (n1 : G0.AddTo a (.own [.slice none 0 (.exact 0), .slice none 0 (.exact 0)]) G1) (n2 : G1.AddTo b (.own [.slice none 0 (.exact 0), .slice none 0 (.exact 0)]) G2)
 (g2w : G2.wf) (hxs : x.sup ≤ h.next) (hcs : supL cells ≤ h.next) (hKN : KN ≤ 4294967296) (hKM : KM ≤ 4294967296)
 (hc : ∀ hB M, Le h hB → HB hB M a 0 0 → JCall P f [x, .ptr (some (a, 0))] M (fun e H => e = .ret (.tuple []) ∧ ∃ n2 m2, HB hB H a n2 m2 ∧ n2 ≤ KN ∧ m2 ≤ KM ∧ LeO a M H)) :
 ∃ H0 p c q d, ∃ (L : List Int) (K : List ByteArray), Txt H0 (G2.del b).next a p c q d L K ∧ JCall P f [x, .ptr (some (a, 0))] (G2.del b) (fun e H => e = .ret (.tuple []) ∧ H = H0) ∧ H0.wf ∧ (G2.del b).next ≤ H0.next ∧ (∀ i c, (G2.del b).get i = some c → i ≠ a → H0.get i = some c) ∧
  JCall P f [x, .ptr (some (a, 0))] G2 (fun e H1 => e = .ret (.tuple []) ∧ Framed G2 H0 b H1) := by
 obtain ⟨is0, nx0, new0, old0⟩ := n0
 obtain ⟨is1, nx1, new1, old1⟩ := n1
 obtain ⟨is2, nx2, new2, old2⟩ := n2
 have hab : a ≠ b := by omega
 have ga : G2.get a = some (.own [.slice none 0 (.exact 0), .slice none 0 (.exact 0)]) := (old2 a hab).trans new1
 have mw : (G2.del b).wf := AH.del_wf g2w
 have oa : Own (G2.del b) a [.slice none 0 (.exact 0), .slice none 0 (.exact 0)] := by show (G2.del b).get a = _; rw [AH.del_ne hab]; exact ga
 have lB : Le h ((G2.del b).del a) := ⟨by simp only [AH.del]; omega, fun i c hi => by
  have := (hw i c hi).1
  rw [AH.del_ne (by omega), AH.del_ne (by omega), old2 i (by omega), old1 i (by omega), old0 i (by omega)]; exact hi⟩
 obtain ⟨e0, H0, ⟨rfl, n2', m2', hb, b1, b2, lo⟩, h0w, _, h0n, hfx⟩ := JCall.fix (hc ((G2.del b).del a) (G2.del b) lB (HB.new oa)) mw (by simp only [supL, AV.sup, supA, AH.del]; omega)
 obtain ⟨p, c, q, d, L, K, t⟩ := txt_of (M0 := (G2.del b).next) hb (by simp [AH.del]) (by omega) (by omega)
 have hfx' : JCall P f [x, .ptr (some (a, 0))] (G2.del b) (fun e H => e = .ret (.tuple []) ∧ H = H0) := hfx
 refine ⟨H0, p, c, q, d, L, K, t, hfx', h0w, h0n, fun i c hi hia => hb.leB.get i c (by rw [AH.del_ne hia]; exact hi), (JCall_frame hfx' g2w (by simp only [supL, AV.sup, supA]; omega) new2)⟩
theorem first_on {h G0 G1 G2 H0 H1 : AH} {xb a b : Nat} {cells : List AV} {p : Option (Nat × Nat)} {c : Cap} {q : Option (Nat × Nat)} {d : Cap} {L : List Int} {K : List ByteArray} (hw : h.wf) (n0 : h.AddTo xb (.own cells) G0) (n1 : G0.AddTo a (.own [.slice none 0 (.exact 0), .slice none 0 (.exact 0)]) G1) (n2 : G1.AddTo b (.own [.slice none 0 (.exact 0), .slice none 0 (.exact 0)]) G2)
 (t : Txt H0 (G2.del b).next a p c q d L K) (h0n : (G2.del b).next ≤ H0.next) (keep : ∀ i c, (G2.del b).get i = some c → i ≠ a → H0.get i = some c) (fr : Framed G2 H0 b H1) :
 Le h H1 ∧ Own H1 xb cells ∧ Own H1 a [.slice p L.length c, .slice q K.length d] ∧ Own H1 b [.slice none 0 (.exact 0), .slice none 0 (.exact 0)] ∧ xb ≠ a ∧ xb ≠ b ∧ a ≠ b ∧ G2.next ≤ H1.next := by
 obtain ⟨is0, nx0, new0, old0⟩ := n0
 obtain ⟨is1, nx1, new1, old1⟩ := n1
 obtain ⟨is2, nx2, new2, old2⟩ := n2
 have k : ∀ i ck, G2.get i = some ck → i ≠ a → i ≠ b → H1.get i = some ck := fun i ck hi ha hb => by
  rw [fr.old i ck hb hi]; exact keep i ck (by rw [AH.del_ne hb]; exact hi) ha
 have h1n : G2.next ≤ H1.next := by have := fr.next; simp only [AH.del] at h0n; omega
 refine ⟨⟨by omega, fun i ck hi => ?_⟩, ?_, ?_, fr.box.trans new2, by omega, by omega, by omega, h1n⟩
 · have := (hw i ck hi).1
   exact k i ck (by rw [old2 i (by omega), old1 i (by omega), old0 i (by omega)]; exact hi) (by omega) (by omega)
 · exact k xb _ (by rw [old2 xb (by omega), old1 xb (by omega)]; exact new0) (by omega) (by omega)
 · show H1.get a = _
   rw [fr.old a _ (by omega) (by rw [old2 a (by omega)]; exact new1)]; exact t.1
theorem second_all {P : Program} {f : FuncId} {x : AV} {h G0 G1 G2 H0 H1 g : AH} {xb a b : Nat} {cells : List AV} {p : Option (Nat × Nat)} {c : Cap} {q : Option (Nat × Nat)} {d : Cap} {L : List Int} {K : List ByteArray} (hw : h.wf) (n0 : h.AddTo xb (.own cells) G0) (n1 : G0.AddTo a (.own [.slice none 0 (.exact 0), .slice none 0 (.exact 0)]) G1) (n2 : G1.AddTo b (.own [.slice none 0 (.exact 0), .slice none 0 (.exact 0)]) G2)
 (g2w : G2.wf) (hxs : x.sup ≤ h.next) (hcs : supL cells ≤ h.next) (t : Txt H0 (G2.del b).next a p c q d L K) (hfx : JCall P f [x, .ptr (some (a, 0))] (G2.del b) (fun e H => e = .ret (.tuple []) ∧ H = H0)) (h0n : (G2.del b).next ≤ H0.next)
 (keep : ∀ i c, (G2.del b).get i = some c → i ≠ a → H0.get i = some c) (fr : Framed G2 H0 b H1) (l : Le H1 g) :
 JCall P f [x, .ptr (some (b, 0))] g (fun e H3 => (∃ v, e = .ret v) ∧ Own H3 a [.slice p L.length c, .slice q K.length d] ∧ (∃ p' q', Own H3 b [.slice p' L.length c, .slice q' K.length d] ∧ Lst H3 0 p (L.map (AV.int .i64)) ∧ Lst H3 0 q (K.map AV.str) ∧ Lst H3 0 p' (L.map (AV.int .i64)) ∧ Lst H3 0 q' (K.map AV.str)) ∧ L.length ≤ 4294967296 ∧ K.length ≤ 4294967296) := by
 obtain ⟨lh, ox, oa, ob, hxa, hxb, hab, h1n⟩ := first_on hw n0 n1 n2 t h0n keep fr
 obtain ⟨is0, nx0, new0, old0⟩ := n0
 obtain ⟨is1, nx1, new1, old1⟩ := n1
 obtain ⟨is2, nx2, new2, old2⟩ := n2
 have ga : G2.get a = some (.own [.slice none 0 (.exact 0), .slice none 0 (.exact 0)]) := (old2 a hab).trans new1
 have back : ∀ i ck, G2.get i = some ck → i ≠ a → i ≠ b → i ≠ xb → h.get i = some ck := fun i ck hi e1 e2 e3 => (old0 i e3).symm.trans ((old1 i e1).symm.trans ((old2 i e2).symm.trans hi))
 have s : Second (G2.del b) a b [.slice none 0 (.exact 0), .slice none 0 (.exact 0)] g := ⟨AH.del_wf g2w, by rw [AH.del_ne hab]; exact ga, fun i ck hi hia => by
  obtain ⟨e1, e2⟩ := AH.del_get hi
  by_cases e3 : i = xb
  · subst e3
    have e4 : G2.get i = some (.own cells) := by rw [old2 i e1, old1 i hia]; exact new0
    rw [e4] at e2; cases e2
    simp only [Chunk.sup]; omega
  · have := hw i ck (back i ck e2 hia e1 e3); omega, rfl, by simp [AH.del], fun i ck hi hia => by
  obtain ⟨e1, e2⟩ := AH.del_get hi
  exact l.get i ck (by rw [fr.old i ck e1 e2]; exact keep i ck hi hia), l.get b _ ob, by have := l.next; simp only [AH.del]; omega, by have := l.next; omega⟩
 refine (JCall_again hfx s (by omega) keep).mono fun e H3 ⟨hr, ag⟩ => ?_
 obtain ⟨v, rfl⟩ := hr _ rfl
 obtain ⟨p', q', ob3, l3, l4, _, _⟩ := ag.txt t
 obtain ⟨t1, t2, t3, t4, t5⟩ := t
 have mv : ∀ {r : Option (Nat × Nat)} {vs : List AV}, Lst H0 (G2.del b).next r vs → Lst H3 0 r vs := fun {r vs} lst => (lst.move (h' := H3) fun i ck hi hg ho => by
  have hi' : G2.next ≤ i := hi
  have e1 : H1.get i = some ck := (fr.new i hi').trans hg
  exact ag.le.get i ck (by rw [AH.del_ne (by omega)]; exact l.get i ck e1)).zero
 exact ⟨⟨v, rfl⟩, ag.le.get a _ (by rw [AH.del_ne hab]; exact l.get a _ oa), ⟨p', q', ob3, mv t2, mv t3, l3, l4⟩, t4, t5⟩
end Go.J
