import Derived.RangeFuncLeaves
import Derived.RangeFuncRecord
import Derived.Laws.Sem
import Derived.Laws.World
import Derived.IntWalk
import Derived.Laws.Entries
import Derived.Laws.CopyRow
import Derived.Laws.Cells
import Derived.CallsIn
import Derived.OrdersIn
import Derived.KernelRfl
set_option linter.all false
namespace Go.J
inductive Cap where
 | exact (n : Nat)
 | grow (d : Nat)
inductive AV where
 | bool (b : Bool)
 | int (k : IntKind) (n : Int)
 | str (s : ByteArray)
 | ptr (a : Option (Nat × Nat))
 | slice (a : Option (Nat × Nat)) (len : Nat) (cap : Cap)
 | map (r : Option Nat)
 | fn (f : Fn) (first captured : List AV)
 | yield (l : Nat)
 | nilFunc
 | iface (t : TypeId) (v : AV)
 | nilIface
 | agg (cells : List AV)
 | tuple (vs : List AV)
structure Ren where
 blk : Nat → Nat
 off : Nat → Nat
 cap : Nat → Nat
def Ren.addr (ρ : Ren) (p : Nat × Nat) : Addr := ⟨ρ.blk p.1, ρ.off p.1 + p.2, none⟩
def Cap.conc (ρ : Ren) (a : Option (Nat × Nat)) : Cap → Nat
 | .exact n => n
 | .grow d => match a with | some p => ρ.cap p.1 - d | none => 0
mutual
def conc (ρ : Ren) : AV → Value
 | .bool b => .bool b
 | .int k n => .int k n
 | .str s => .string s
 | .ptr a => .pointer (a.map ρ.addr)
 | .slice a len c => .slice (a.map ρ.addr) len (c.conc ρ a)
 | .map r => .map (r.map ρ.blk)
 | .fn f first captured => .func f (concL ρ first).toArray (concL ρ captured).toArray
 | .yield l => .func (.yield (ρ.blk l)) #[] #[]
 | .nilFunc => .nilFunc
 | .iface t v => .iface t (conc ρ v)
 | .nilIface => .nilIface
 | .agg cs => .agg (concL ρ cs).toArray
 | .tuple vs => .tuple (concL ρ vs).toArray
def concL (ρ : Ren) : List AV → List Value
 | [] => []
 | v :: r => conc ρ v :: concL ρ r
end
def supA : Option (Nat × Nat) → Nat
 | some p => p.1 + 1
 | none => 0
mutual
def AV.sup : AV → Nat
 | .bool _ => 0
 | .int _ _ => 0
 | .str _ => 0
 | .ptr a => supA a
 | .slice a _ _ => supA a
 | .map r => match r with | some r => r + 1 | none => 0
 | .fn _ first captured => max (supL first) (supL captured)
 | .yield l => l + 1
 | .nilFunc => 0
 | .iface _ v => v.sup
 | .nilIface => 0
 | .agg cs => supL cs
 | .tuple vs => supL vs
def supL : List AV → Nat
 | [] => 0
 | v :: r => max v.sup (supL r)
end
def Ren.ext (ρ ρ' : Ren) (n : Nat) : Prop := ∀ i, i < n → ρ'.blk i = ρ.blk i ∧ ρ'.off i = ρ.off i ∧ ρ'.cap i = ρ.cap i
theorem Ren.ext.refl (ρ : Ren) (n : Nat) : ρ.ext ρ n := fun _ _ => ⟨rfl, rfl, rfl⟩
theorem Ren.ext.trans {ρ ρ' ρ'' : Ren} {n n' : Nat} (h : ρ.ext ρ' n) (h' : ρ'.ext ρ'' n') (hn : n ≤ n') : ρ.ext ρ'' n := fun i hi => by
 obtain ⟨a, b, c⟩ := h i hi
 obtain ⟨a', b', c'⟩ := h' i (by omega)
 exact ⟨a'.trans a, b'.trans b, c'.trans c⟩
theorem addr_ext {ρ ρ' : Ren} {n : Nat} (h : ρ.ext ρ' n) {p : Nat × Nat} (hp : p.1 < n) : ρ'.addr p = ρ.addr p := by
 obtain ⟨a, b, _⟩ := h p.1 hp
 simp [Ren.addr, a, b]
mutual
theorem conc_ext {ρ ρ' : Ren} {n : Nat} (h : ρ.ext ρ' n) : ∀ v : AV, v.sup ≤ n → conc ρ' v = conc ρ v
 | .bool _, _ => rfl
 | .int _ _, _ => rfl
 | .str _, _ => rfl
 | .ptr none, _ => rfl
 | .ptr (some p), hs => by
   simp only [AV.sup, supA] at hs
   simp only [conc, Option.map_some, addr_ext h (p := p) (by omega)]
 | .slice none _ c, _ => by cases c <;> rfl
 | .slice (some p) _ c, hs => by
   simp only [AV.sup, supA] at hs
   have hp : p.1 < n := by omega
   obtain ⟨_, _, hc⟩ := h p.1 hp
   cases c <;> simp only [conc, Cap.conc, Option.map_some, addr_ext h hp, hc]
 | .map none, _ => rfl
 | .map (some r), hs => by
   simp only [AV.sup] at hs
   obtain ⟨a, _, _⟩ := h r (by omega)
   simp only [conc, Option.map_some, a]
 | .fn f first captured, hs => by
   simp only [AV.sup] at hs
   simp only [conc, concL_ext h first (by omega), concL_ext h captured (by omega)]
 | .yield l, hs => by
   simp only [AV.sup] at hs
   obtain ⟨a, _, _⟩ := h l (by omega)
   simp only [conc, a]
 | .nilFunc, _ => rfl
 | .iface t v, hs => by
   simp only [AV.sup] at hs
   simp only [conc, conc_ext h v hs]
 | .nilIface, _ => rfl
 | .agg cs, hs => by
   simp only [AV.sup] at hs
   simp only [conc, concL_ext h cs hs]
 | .tuple vs, hs => by
   simp only [AV.sup] at hs
   simp only [conc, concL_ext h vs hs]
theorem concL_ext {ρ ρ' : Ren} {n : Nat} (h : ρ.ext ρ' n) : ∀ l : List AV, supL l ≤ n → concL ρ' l = concL ρ l
 | [], _ => rfl
 | v :: r, hs => by
   simp only [supL] at hs
   simp only [concL, conc_ext h v (by omega), concL_ext h r (by omega)]
end
theorem concL_eq (ρ : Ren) (l : List AV) : concL ρ l = l.map (conc ρ) := by
 induction l with
 | nil => rfl
 | cons v r ih => simp [concL, ih]
@[simp] theorem concL_length (ρ : Ren) (l : List AV) : (concL ρ l).length = l.length := by simp [concL_eq]
@[simp] theorem concL_append (ρ : Ren) (l m : List AV) : concL ρ (l ++ m) = concL ρ l ++ concL ρ m := by simp [concL_eq]
theorem concL_get (ρ : Ren) (l : List AV) (i : Nat) : (concL ρ l)[i]? = (l[i]?).map (conc ρ) := by simp [concL_eq]
theorem supL_le {l : List AV} {n : Nat} : supL l ≤ n ↔ ∀ v ∈ l, v.sup ≤ n := by
 induction l with
 | nil => simp [supL]
 | cons v r ih => simp only [supL, List.mem_cons, forall_eq_or_imp, ← ih]; omega
theorem supL_append (l m : List AV) : supL (l ++ m) = max (supL l) (supL m) := by
 induction l with
 | nil => simp [supL]
 | cons v r ih => simp only [List.cons_append, supL, ih]; omega
theorem sup_get {l : List AV} {n i : Nat} {v : AV} (h : supL l ≤ n) (hv : l[i]? = some v) : v.sup ≤ n := supL_le.1 h v (List.mem_of_getElem? hv)
inductive Chunk where
 | ro (cells : List AV)
 | own (cells : List AV)
 | grow (esz : Nat) (cells : List AV)
 | map (es : List (AV × AV × Nat)) (clock : Nat)
 | siter (s : ByteArray) (pos : Nat)
 | loop (l : LoopState) (pending : Option Code) (tmps : List (Nat × AV)) (ntmps : Nat) (params : Array Tmp) (assign body : Code) (mark : Nat)
 | mark
def Chunk.isRo : Chunk → Bool
 | .ro _ => true
 | _ => false
def supT : List (Nat × AV) → Nat
 | [] => 0
 | kv :: r => max kv.2.sup (supT r)
def supE : List (AV × AV × Nat) → Nat
 | [] => 0
 | kv :: r => max (max kv.1.sup kv.2.1.sup) (supE r)
def Chunk.sup : Chunk → Nat
 | .ro cs => supL cs
 | .own cs => supL cs
 | .grow _ cs => supL cs
 | .map es _ => supE es
 | .siter _ _ => 0
 | .loop _ _ ts _ _ _ _ m => max (supT ts) (m + 1)
 | .mark => 0
structure AH where
 next : Nat
 get : Nat → Option Chunk
def AH.wf (h : AH) : Prop := ∀ i c, h.get i = some c → i < h.next ∧ c.sup ≤ h.next
def lk : List (Nat × AV) → Nat → Option AV
 | [], _ => none
 | kv :: r, k => if Nat.beq kv.1 k then some kv.2 else lk r k
theorem lk_mem {l : List (Nat × AV)} {k : Nat} {v : AV} (h : lk l k = some v) : (k, v) ∈ l := by
 induction l with
 | nil => simp [lk] at h
 | cons kv r ih =>
   simp only [lk] at h
   split at h
   · rename_i hb
     have : kv.1 = k := Nat.eq_of_beq_eq_true hb
     cases kv; simp at h this; subst this; subst h; simp
   · exact List.mem_cons_of_mem _ (ih h)
theorem supT_lk {l : List (Nat × AV)} {k n : Nat} {v : AV} (hs : supT l ≤ n) (h : lk l k = some v) : v.sup ≤ n := by
 induction l with
 | nil => simp [lk] at h
 | cons kv r ih =>
   simp only [supT] at hs
   simp only [lk] at h
   split at h
   · simp at h; subst h; omega
   · exact ih (by omega) h
inductive ADef where
 | mark (id : Nat)
 | call (f : AV) (args : List AV)
def ADef.sup : ADef → Nat
 | .mark id => id + 1
 | .call f args => max f.sup (supL args)
def supD : List ADef → Nat
 | [] => 0
 | d :: r => max d.sup (supD r)
structure St where
 slots : List (Nat × AV)
 h : AH
 n : Nat
 defs : List ADef
def St.wf (s : St) : Prop := (∀ k v, lk s.slots k = some v → v.sup ≤ s.h.next) ∧ s.h.wf ∧ supD s.defs ≤ s.h.next
def slotsRel (ρ : Ren) (ts : List (Nat × AV)) (n : Nat) (tmps : Array Value) : Prop :=
 tmps.size = n ∧ ∀ k v, lk ts k = some v → tmps[k]? = some (conc ρ v)
def Real (ρ : Ren) (id : Nat) (w : World) : Chunk → Prop
 | .ro cells => ρ.blk id < w.heap.size ∧ ∀ (i : Nat) v, cells[i]? = some v → w.cell? ⟨ρ.blk id, ρ.off id + i, none⟩ = some (conc ρ v)
 | .own cells => ρ.off id = 0 ∧ ∃ e, w.heap[ρ.blk id]? = some (.cells (concL ρ cells).toArray e (0, 0))
 | .grow esz cells => ρ.off id = 0 ∧ ∃ e arr, w.heap[ρ.blk id]? = some (.cells arr e (0, 0)) ∧ arr.size = ρ.cap id * esz ∧
    cells.length ≤ arr.size ∧ ∀ (i : Nat) v, cells[i]? = some v → arr[i]? = some (conc ρ v)
 | .map es clock => ρ.off id = 0 ∧ w.heap[ρ.blk id]? = some (.map (es.map (fun e => ⟨conc ρ e.1, conc ρ e.2.1, e.2.2⟩)).toArray clock)
 | .siter s pos => ρ.off id = 0 ∧ w.heap[ρ.blk id]? = some (.stringIter s pos)
 | .loop st pend ts n params assign body m => ρ.off id = 0 ∧ ∃ fn tmps, slotsRel ρ ts n tmps ∧
    w.heap[ρ.blk id]? = some (.loop { state := st, pending := pend, fn, tmps, params, assign, body, defers := ρ.blk m })
 | .mark => ρ.off id = 0 ∧ w.heap[ρ.blk id]? = some (.deferred (some []))
def HRel (ρ : Ren) (h : AH) (w : World) : Prop :=
 (∀ id c, h.get id = some c → Real ρ id w c) ∧
 (∀ i j ci cj, i ≠ j → h.get i = some ci → h.get j = some cj → ci.isRo = false → ρ.blk i ≠ ρ.blk j)
def concD (ρ : Ren) : ADef → Deferred
 | .mark id => { target := .collected (ρ.blk id), args := #[] }
 | .call f args => match f with
   | .fn fn first captured => { target := .fn fn (concL ρ captured).toArray, args := ((concL ρ first) ++ (concL ρ args)).toArray }
   | _ => { target := .nil, args := (concL ρ args).toArray }
def Rel (ρ : Ren) (s : St) (a : Act) (w : World) : Prop :=
 slotsRel ρ s.slots s.n a.tmps ∧ a.defers = s.defs.map (concD ρ) ∧ HRel ρ s.h w
def Fr (ρ : Ren) (h : AH) (w : World) (ρ' : Ren) (h' : AH) (w' : World) : Prop :=
 (w'.os = w.os ∧ w'.tape = w.tape ∧ w'.output = w.output) ∧ w.heap.size ≤ w'.heap.size ∧
 (∀ B, B < w.heap.size → (∀ id c, h.get id = some c → c.isRo = false → ρ.blk id ≠ B) → w'.heap[B]? = w.heap[B]?) ∧
 (∀ id c, h'.get id = some c → w.heap.size ≤ ρ'.blk id ∨ ∃ id0 c0, h.get id0 = some c0 ∧ (c.isRo = false → c0.isRo = false) ∧ ρ.blk id0 = ρ'.blk id) ∧
 ρ.ext ρ' h.next ∧ h.next ≤ h'.next
theorem Fr.trans {ρ ρ' ρ'' : Ren} {h h' h'' : AH} {w w' w'' : World} (a : Fr ρ h w ρ' h' w') (b : Fr ρ' h' w' ρ'' h'' w'') : Fr ρ h w ρ'' h'' w'' := by
 obtain ⟨⟨a1, a2, a3⟩, a4, a5, a6, a7, a8⟩ := a
 obtain ⟨⟨b1, b2, b3⟩, b4, b5, b6, b7, b8⟩ := b
 refine ⟨⟨b1.trans a1, b2.trans a2, b3.trans a3⟩, by omega, ?_, ?_, a7.trans b7 a8, by omega⟩
 · intro B hB hno
   rw [b5 B (by omega), a5 B hB hno]
   intro id c hg hr he
   rcases a6 id c hg with h1 | ⟨id0, c0, h1, h2, h3⟩
   · omega
   · exact hno id0 c0 h1 (h2 hr) (h3.trans he)
 · intro id c hg
   rcases b6 id c hg with h1 | ⟨id0, c0, h1, h2, h3⟩
   · exact .inl (by omega)
   · rcases a6 id0 c0 h1 with h4 | ⟨id1, c1, h4, h5, h6⟩
     · exact .inl (by omega)
     · exact .inr ⟨id1, c1, h4, fun hr => h5 (h2 hr), h6.trans h3⟩
theorem Fr.refl (ρ : Ren) (h : AH) (w : World) : Fr ρ h w ρ h w :=
 ⟨⟨rfl, rfl, rfl⟩, Nat.le_refl _, fun _ _ _ => rfl, fun id c hg => .inr ⟨id, c, hg, fun h => h, rfl⟩, .refl _ _, Nat.le_refl _⟩
inductive AExit where
 | normal
 | exit (id : Nat)
 | goto (l : Nat)
 | ret
 | panic (v : AV)
def AExit.conc (ρ : Ren) : AExit → Exit
 | .normal => .normal
 | .exit id => .exit id
 | .goto l => .goto l
 | .ret => .ret
 | .panic v => .panic [{ v := J.conc ρ v, recovered := false }]
def fen (ρ : Ren) (r : Option Nat) : Fence := { Fence.wide with round := r.map ρ.blk }
def Out (ρ : Ren) (s : St) (w : World) (e : AExit) (s' : St) (e' : Exit) (a' : Act) (w' : World) : Prop :=
 ∃ ρ', e' = e.conc ρ' ∧ Rel ρ' s' a' w' ∧ Fr ρ s.h w ρ' s'.h w'
def AExit.sup : AExit → Nat
 | .panic v => v.sup
 | _ => 0
def rsup : Option Nat → Nat
 | some l => l + 1
 | none => 0
def J (P : Program) (r : Option Nat) (c : Code) (s : St) (Q : AExit → St → Prop) : Prop :=
 s.wf → rsup r ≤ s.h.next → ∃ e s', s'.wf ∧ e.sup ≤ s'.h.next ∧ s.h.next ≤ s'.h.next ∧ Q e s' ∧ ∀ ρ a w n, Rel ρ s a w → c.wpIn (fen ρ r) n P (Out ρ s w e s') a w
theorem fen_ext {ρ ρ' : Ren} {n : Nat} (h : ρ.ext ρ' n) {r : Option Nat} (hr : rsup r ≤ n) : fen ρ' r = fen ρ r := by
 cases r with
 | none => rfl
 | some l => simp only [rsup] at hr; simp only [fen, Option.map_some, (h l (by omega)).1]
def loopIn (F : Fence) (n : Nat) (P : Program) (c : Code) (Q : Exit → Act → World → Prop) (a : Act) (w : World) : Prop :=
 ∀ (b : Frame) (k : List Item) (cs : List Frame), b.roundOf = F.round → F.fn b.fn → F.room (cs.length + 1 + n) →
  ∃ e a' w', Q e a' w' ∧ ArrivesIn (Machine.fenced P F) P (lone (b.atR a (.code c :: .inLoop c :: k)) cs w) b k cs e a' w'
theorem loopIn_mono {F : Fence} {n : Nat} {P : Program} {c : Code} {Q Q' : Exit → Act → World → Prop} {a : Act} {w : World} (h : loopIn F n P c Q a w) (hq : ∀ e a w, Q e a w → Q' e a w) :
 loopIn F n P c Q' a w := fun b k cs h1 h2 h3 => let ⟨e, a', w', q, x⟩ := h b k cs h1 h2 h3; ⟨e, a', w', hq _ _ _ q, x⟩
theorem loopIn_round {F : Fence} {n : Nat} {P : Program} {c : Code} {Q : Exit → Act → World → Prop} {a : Act} {w : World}
 (h : c.wpIn F n P (Exit.then (loopIn F n P c Q) Q) a w) : loopIn F n P c Q a w := by
 intro b k cs hro hb hr
 obtain ⟨e, a₁, w₁, hq, harr⟩ := h b (.inLoop c :: k) cs hro hb hr
 cases e with
 | normal =>
   obtain ⟨e₂, a₂, w₂, hq₂, harr₂⟩ := hq b k cs hro hb hr
   exact ⟨e₂, a₂, w₂, hq₂, .of_steps (StepsIn.trans harr (.one (fenced_calm hb hr rfl) stepR_inLoop)) harr₂⟩
 | exit id => exact ⟨_, a₁, w₁, hq, .pass (x := .inLoop c) rfl (fun _ _ => .inl (by simp)) harr⟩
 | goto l => exact ⟨_, a₁, w₁, hq, .pass (x := .inLoop c) rfl (fun _ _ => .inl (by simp)) harr⟩
 | ret => exact ⟨_, a₁, w₁, hq, .pass (x := .inLoop c) rfl (fun _ _ => .inl (by simp)) harr⟩
 | panic ch => exact ⟨_, a₁, w₁, hq, .pass (x := .inLoop c) rfl (fun _ _ => .inl (by simp)) harr⟩
 | outgrown => exact ⟨_, a₁, w₁, hq, .pass (x := .inLoop c) rfl (fun _ _ => .inl (by simp)) harr⟩
theorem wpIn_of_loopIn {F : Fence} {n : Nat} {P : Program} {c : Code} {Q : Exit → Act → World → Prop} {a : Act} {w : World} (h : loopIn F n P c Q a w) : (Code.loop c).wpIn F n P Q a w := by
 intro b k cs hro hb hr
 obtain ⟨e, a', w', hq, harr⟩ := h b k cs hro hb hr
 exact ⟨e, a', w', hq, .of_steps (.one (fenced_calm hb hr rfl) stepR_loop) harr⟩
section rules
variable {P : Program} {r : Option Nat} {c x y : Code} {s : St} {Q Q' : AExit → St → Prop}
theorem J.mono (h : J P r c s Q) (hq : ∀ e s', Q e s' → Q' e s') : J P r c s Q' :=
 fun hw hr => let ⟨e, s', a, b, n, q, x⟩ := h hw hr; ⟨e, s', a, b, n, hq e s' q, x⟩
theorem J_wf (h : s.wf → J P r c s Q) : J P r c s Q := fun hw => h hw hw
def Then (K : St → Prop) (Q : AExit → St → Prop) : AExit → St → Prop
 | .normal, s => K s
 | e, s => Q e s
theorem Out.wp_then {ρ : Ren} {w : World} {e : AExit} {s s1 : St} (he : e ≠ .normal) {K : Act → World → Prop} {e' : Exit} {a' : Act} {w' : World} (h : Out ρ s w e s1 e' a' w') :
 Exit.then K (Out ρ s w e s1) e' a' w' := by
 obtain ⟨ρ', h1, h2, h3⟩ := h
 subst h1
 cases e with
 | normal => exact absurd rfl he
 | _ => exact ⟨ρ', rfl, h2, h3⟩
theorem J_seq (hc : c = .seq x y) (h : J P r x s (Then (fun s' => J P r y s' Q) Q)) : J P r c s Q := by
 subst hc
 intro hw hr
 obtain ⟨e, s1, hw1, he1, hn1, hq, hx⟩ := h hw hr
 have other : e ≠ .normal → Q e s1 → ∃ e s', s'.wf ∧ e.sup ≤ s'.h.next ∧ s.h.next ≤ s'.h.next ∧ Q e s' ∧ ∀ ρ a w n, Rel ρ s a w → (Code.seq x y).wpIn (fen ρ r) n P (Out ρ s w e s') a w :=
  fun hne hq => ⟨e, s1, hw1, he1, hn1, hq, fun ρ a w n hrel => wpIn_seq (wpIn_mono (hx ρ a w n hrel) fun _ _ _ h => Out.wp_then hne h)⟩
 cases e with
 | normal =>
   obtain ⟨e, s2, hw2, he2, hn2, hq2, hy⟩ := hq hw1 (by omega)
   refine ⟨e, s2, hw2, he2, by omega, hq2, fun ρ a w n hrel => wpIn_seq (wpIn_mono (hx ρ a w n hrel) ?_)⟩
   rintro e1 a1 w1 ⟨ρ', h1, h2, h3⟩
   subst h1
   have hf := fen_ext h3.2.2.2.2.1 (r := r) hr
   show y.wpIn (fen ρ r) n P (Out ρ s w e s2) a1 w1
   rw [← hf]
   refine wpIn_mono (hy ρ' a1 w1 n h2) ?_
   rintro e2 a2 w2 ⟨ρ'', k1, k2, k3⟩
   exact ⟨ρ'', k1, k2, h3.trans k3⟩
 | exit id => exact other (by simp) hq
 | goto l => exact other (by simp) hq
 | ret => exact other (by simp) hq
 | panic v => exact other (by simp) hq
theorem J_skip (hc : c = .skip) (h : Q .normal s) : J P r c s Q := by
 subst hc
 exact fun hw _ => ⟨.normal, s, hw, Nat.zero_le _, Nat.le_refl _, h, fun ρ a w n hrel => wpIn_skip ⟨ρ, rfl, hrel, .refl _ _ _⟩⟩
theorem J_exit {id : Nat} (hc : c = .exit id) (h : Q (.exit id) s) : J P r c s Q := by
 subst hc
 exact fun hw _ => ⟨.exit id, s, hw, Nat.zero_le _, Nat.le_refl _, h, fun ρ a w n hrel => wpIn_exit ⟨ρ, rfl, hrel, .refl _ _ _⟩⟩
theorem J_ret (hc : c = .ret) (h : Q .ret s) : J P r c s Q := by
 subst hc
 exact fun hw _ => ⟨.ret, s, hw, Nat.zero_le _, Nat.le_refl _, h, fun ρ a w n hrel => wpIn_ret ⟨ρ, rfl, hrel, .refl _ _ _⟩⟩
def InBlk (id : Nat) (Q : AExit → St → Prop) : AExit → St → Prop
 | .exit j, s => if Nat.beq j id then Q .normal s else Q (.exit j) s
 | e, s => Q e s
theorem J_block {id : Nat} (hc : c = .block id x) (h : J P r x s (InBlk id Q)) : J P r c s Q := by
 subst hc
 intro hw hr
 obtain ⟨e, s1, hw1, he1, hn1, hq, hx⟩ := h hw hr
 have other : (∀ j, e ≠ .exit j) → Q e s1 → ∃ e s', s'.wf ∧ e.sup ≤ s'.h.next ∧ s.h.next ≤ s'.h.next ∧ Q e s' ∧ ∀ ρ a w n, Rel ρ s a w → (Code.block id x).wpIn (fen ρ r) n P (Out ρ s w e s') a w := by
  refine fun hne hq => ⟨e, s1, hw1, he1, hn1, hq, fun ρ a w n hrel => wpIn_block (wpIn_mono (hx ρ a w n hrel) ?_)⟩
  rintro e' a' w' ⟨ρ', h1, h2, h3⟩
  subst h1
  cases e with
  | exit j => exact absurd rfl (hne j)
  | _ => exact ⟨ρ', rfl, h2, h3⟩
 cases e with
 | exit j =>
   simp only [InBlk] at hq
   split at hq
   · rename_i hb
     have hj : j = id := Nat.eq_of_beq_eq_true hb
     subst hj
     refine ⟨.normal, s1, hw1, Nat.zero_le _, hn1, hq, fun ρ a w n hrel => wpIn_block (wpIn_mono (hx ρ a w n hrel) ?_)⟩
     rintro e' a' w' ⟨ρ', h1, h2, h3⟩
     subst h1
     simp only [AExit.conc, Exit.inBlock, if_true]
     exact ⟨ρ', rfl, h2, h3⟩
   · rename_i hb
     have hj : j ≠ id := fun h => hb (by subst h; exact Nat.beq_refl j)
     refine ⟨.exit j, s1, hw1, Nat.zero_le _, hn1, hq, fun ρ a w n hrel => wpIn_block (wpIn_mono (hx ρ a w n hrel) ?_)⟩
     rintro e' a' w' ⟨ρ', h1, h2, h3⟩
     subst h1
     simp only [AExit.conc, Exit.inBlock, hj, if_false]
     exact ⟨ρ', rfl, h2, h3⟩
 | normal => exact other (by simp) hq
 | goto l => exact other (by simp) hq
 | ret => exact other (by simp) hq
 | panic v => exact other (by simp) hq
def SubL : List (Nat × AV) → List (Nat × AV) → Prop
 | [], _ => True
 | kv :: r, l => lk l kv.1 = some kv.2 ∧ SubL r l
theorem SubL.lk {l' l : List (Nat × AV)} (h : SubL l' l) {k : Nat} {v : AV} (hk : lk l' k = some v) : J.lk l k = some v := by
 induction l' with
 | nil => simp [J.lk] at hk
 | cons kv r ih =>
   simp only [J.lk] at hk
   obtain ⟨h1, h2⟩ := h
   split at hk
   · rename_i hb
     have : kv.1 = k := Nat.eq_of_beq_eq_true hb
     simp at hk; subst this; subst hk; exact h1
   · exact ih h2 hk
theorem J_keep {sl' : List (Nat × AV)} {sl : List (Nat × AV)} {h : AH} {nt : Nat} {ds : List ADef} (hs : SubL sl' sl) (hj : J P r c ⟨sl', h, nt, ds⟩ Q) : J P r c ⟨sl, h, nt, ds⟩ Q := by
 intro hw hr
 obtain ⟨e, s', hw', he, hn, hq, hx⟩ := hj ⟨fun k v hk => hw.1 k v (hs.lk hk), hw.2.1, hw.2.2⟩ hr
 exact ⟨e, s', hw', he, hn, hq, fun ρ a w n hrel => hx ρ a w n ⟨⟨hrel.1.1, fun k v hk => hrel.1.2 k v (hs.lk hk)⟩, hrel.2.1, hrel.2.2⟩⟩
mutual
def absv : Value → Option AV
 | .bool b => some (.bool b)
 | .int k n => some (.int k n)
 | .string s => some (.str s)
 | .pointer none => some (.ptr none)
 | .slice none n c => some (.slice none n (.exact c))
 | .map none => some (.map none)
 | .nilFunc => some .nilFunc
 | .nilIface => some .nilIface
 | .agg ⟨cs⟩ => (absL cs).map .agg
 | _ => none
def absL : List Value → Option (List AV)
 | [] => some []
 | v :: r => match absv v, absL r with
   | some a, some l => some (a :: l)
   | _, _ => none
end
mutual
theorem conc_absv (ρ : Ren) : ∀ (v : Value) (a : AV), absv v = some a → conc ρ a = v ∧ a.sup = 0
 | .bool b, a, h => by simp only [absv, Option.some.injEq] at h; subst h; exact ⟨rfl, rfl⟩
 | .int k n, a, h => by simp only [absv, Option.some.injEq] at h; subst h; exact ⟨rfl, rfl⟩
 | .string s, a, h => by simp only [absv, Option.some.injEq] at h; subst h; exact ⟨rfl, rfl⟩
 | .pointer none, a, h => by simp only [absv, Option.some.injEq] at h; subst h; exact ⟨rfl, rfl⟩
 | .slice none n c, a, h => by simp only [absv, Option.some.injEq] at h; subst h; exact ⟨rfl, rfl⟩
 | .map none, a, h => by simp only [absv, Option.some.injEq] at h; subst h; exact ⟨rfl, rfl⟩
 | .nilFunc, a, h => by simp only [absv, Option.some.injEq] at h; subst h; exact ⟨rfl, rfl⟩
 | .nilIface, a, h => by simp only [absv, Option.some.injEq] at h; subst h; exact ⟨rfl, rfl⟩
 | .agg ⟨cs⟩, a, h => by
   simp only [absv, Option.map_eq_some_iff] at h
   obtain ⟨l, hl, rfl⟩ := h
   obtain ⟨h1, h2⟩ := concL_absL ρ cs l hl
   exact ⟨by simp only [conc, h1], by simp only [AV.sup, h2]⟩
 | .float _ _, a, h => by simp [absv] at h
 | .complex _ _ _, a, h => by simp [absv] at h
 | .pointer (some _), a, h => by simp [absv] at h
 | .slice (some _) _ _, a, h => by simp [absv] at h
 | .map (some _), a, h => by simp [absv] at h
 | .chan _, a, h => by simp [absv] at h
 | .func _ _ _, a, h => by simp [absv] at h
 | .iface _ _, a, h => by simp [absv] at h
 | .tuple _, a, h => by simp [absv] at h
theorem concL_absL (ρ : Ren) : ∀ (l : List Value) (a : List AV), absL l = some a → concL ρ a = l ∧ supL a = 0
 | [], a, h => by simp only [absL, Option.some.injEq] at h; subst h; exact ⟨rfl, rfl⟩
 | v :: r, a, h => by
   simp only [absL] at h
   cases h1 : absv v with
   | none => simp [h1] at h
   | some x =>
     cases h2 : absL r with
     | none => simp [h1, h2] at h
     | some l =>
       simp only [h1, h2, Option.some.injEq] at h
       subst h
       obtain ⟨a1, a2⟩ := conc_absv ρ v x h1
       obtain ⟨b1, b2⟩ := concL_absL ρ r l h2
       exact ⟨by simp only [concL, a1, b1], by simp only [supL, a2, b2]; rfl⟩
end
def ev (sl : List (Nat × AV)) : Operand → Option AV
 | .tmp t => lk sl t
 | .const v => absv v
 | .func f => some (.fn (.func f) [] [])
 | .global _ => none
theorem ev_eval {ρ : Ren} {s : St} {a : Act} {w : World} (hr : Rel ρ s a w) {x : Operand} {v : AV} (h : ev s.slots x = some v) : a.eval x = conc ρ v := by
 cases x with
 | tmp t =>
   have := hr.1.2 t v h
   simp [Act.eval, Array.getD_eq_getD_getElem?, this]
 | const c => exact (conc_absv ρ c v h).1.symm
 | func f => simp only [ev, Option.some.injEq] at h; subst h; rfl
 | global g => simp [ev] at h
theorem ev_sup {s : St} (hw : s.wf) {x : Operand} {v : AV} (h : ev s.slots x = some v) : v.sup ≤ s.h.next := by
 cases x with
 | tmp t => exact hw.1 t v h
 | const c => rw [(conc_absv ⟨fun _ => 0, fun _ => 0, fun _ => 0⟩ c v h).2]; exact Nat.zero_le _
 | func f => simp only [ev, Option.some.injEq] at h; subst h; exact Nat.zero_le _
 | global g => simp [ev] at h
theorem J_cond {o : Operand} {b : Bool} (hc : c = .cond o x y) (ho : ev s.slots o = some (.bool b)) (ht : b = true → J P r x s Q) (hf : b = false → J P r y s Q) : J P r c s Q := by
 subst hc
 intro hw hr
 cases b with
 | true =>
   obtain ⟨e, s', hw', he, hn, hq, hx⟩ := ht rfl hw hr
   exact ⟨e, s', hw', he, hn, hq, fun ρ a w n hrel => wpIn_cond_true (by rw [ev_eval hrel ho]; rfl) (hx ρ a w n hrel)⟩
 | false =>
   obtain ⟨e, s', hw', he, hn, hq, hx⟩ := hf rfl hw hr
   exact ⟨e, s', hw', he, hn, hq, fun ρ a w n hrel => wpIn_cond_false (by rw [ev_eval hrel ho]; rfl) (hx ρ a w n hrel)⟩
theorem J_condD {o : Operand} {p : Prop} {d : Decidable p} (hc : c = .cond o x y) (ho : ev s.slots o = some (.bool (decide p))) (ht : p → J P r x s Q) (hf : ¬p → J P r y s Q) : J P r c s Q :=
 J_cond hc ho (fun h => ht (of_decide_eq_true h)) (fun h => hf (of_decide_eq_false h))
theorem J_loop' {α : Type} (S : α → St) (I : α → Prop) (μ : α → Nat) (a₀ : α) (hc : c = .loop x) (hI : I a₀)
 (round : ∀ a, I a → J P r x (S a) (Then (fun s' => ∃ a', (I a' ∧ μ a' < μ a) ∧ ((S a').h = s'.h ∧ (S a').n = s'.n ∧ (S a').defs = s'.defs ∧ SubL (S a').slots s'.slots)) Q)) : J P r c (S a₀) Q := by
 subst hc
 have key : ∀ n a, μ a = n → I a → (S a).wf → rsup r ≤ (S a).h.next → ∃ e s', s'.wf ∧ e.sup ≤ s'.h.next ∧ (S a).h.next ≤ s'.h.next ∧ Q e s' ∧
  ∀ ρ ac w n, Rel ρ (S a) ac w → loopIn (fen ρ r) n P x (Out ρ (S a) w e s') ac w := by
  intro n
  induction n using Nat.strongRecOn with
  | _ n ih =>
    intro a hn hI hw hr
    obtain ⟨e, s1, hw1, he1, hn1, hq, hx⟩ := round a hI hw hr
    have other : e ≠ .normal → Q e s1 → ∃ e s', s'.wf ∧ e.sup ≤ s'.h.next ∧ (S a).h.next ≤ s'.h.next ∧ Q e s' ∧ ∀ ρ ac w n, Rel ρ (S a) ac w → loopIn (fen ρ r) n P x (Out ρ (S a) w e s') ac w :=
     fun hne hq => ⟨e, s1, hw1, he1, hn1, hq, fun ρ ac w n hrel => loopIn_round (wpIn_mono (hx ρ ac w n hrel) fun _ _ _ h => Out.wp_then hne h)⟩
    cases e with
    | normal =>
      obtain ⟨a', ⟨hI', hlt⟩, k1, k2, k3, k4⟩ := hq
      have hwA : (S a').wf := by
       refine ⟨fun k v hk => ?_, ?_, ?_⟩
       · rw [k1]; exact hw1.1 k v (k4.lk hk)
       · rw [k1]; exact hw1.2.1
       · rw [k1, k3]; exact hw1.2.2
      obtain ⟨e, s2, hw2, he2, hn2, hq2, hy⟩ := ih (μ a') (by omega) a' rfl hI' hwA (by rw [k1]; exact Nat.le_trans hr hn1)
      have hn1' : (S a).h.next ≤ (S a').h.next := by rw [k1]; exact hn1
      refine ⟨e, s2, hw2, he2, Nat.le_trans hn1' hn2, hq2, fun ρ ac w n hrel => loopIn_round (wpIn_mono (hx ρ ac w n hrel) ?_)⟩
      rintro e1 a1 w1 ⟨ρ', h1, h2, h3⟩
      subst h1
      have hf := fen_ext h3.2.2.2.2.1 (r := r) hr
      show loopIn (fen ρ r) n P x (Out ρ (S a) w e s2) a1 w1
      rw [← hf]
      have hrelA : Rel ρ' (S a') a1 w1 := ⟨⟨by rw [k2]; exact h2.1.1, fun k v hk => h2.1.2 k v (k4.lk hk)⟩, by rw [k3]; exact h2.2.1, by rw [k1]; exact h2.2.2⟩
      refine loopIn_mono (hy ρ' a1 w1 n hrelA) ?_
      rintro e2 a2 w2 ⟨ρ'', q1, q2, q3⟩
      rw [k1] at q3
      exact ⟨ρ'', q1, q2, h3.trans q3⟩
    | exit id => exact other (by simp) hq
    | goto l => exact other (by simp) hq
    | ret => exact other (by simp) hq
    | panic v => exact other (by simp) hq
 intro hw hr
 obtain ⟨e, s', h1, h2, h3, h4, h5⟩ := key _ a₀ rfl hI hw hr
 exact ⟨e, s', h1, h2, h3, h4, fun ρ ac w n hrel => wpIn_of_loopIn (h5 ρ ac w n hrel)⟩
end rules
theorem uponIn_mono {F : Fence} {n : Nat} {P : Program} {o : Oper} {a : Act} {next next' : Act → World → Prop} {Q Q' : Exit → Act → World → Prop} {r : Result Next}
 (h : o.uponIn F n P a next Q r) (hn : ∀ a w, next a w → next' a w) (hq : ∀ e a w, Q e a w → Q' e a w) : o.uponIn F n P a next' Q' r := by
 have hL : LetsOut Q → LetsOut Q' := fun ⟨a, w, h⟩ => ⟨a, w, hq _ _ _ h⟩
 cases r with
 | halt ht w => cases ht <;> first | exact hq _ _ _ h | exact h
 | ok x w =>
   cases x <;> first
    | exact hn _ _ h
    | (refine ⟨h.1, h.2.mono ?_⟩; rintro (v | ch | _) w' h' <;> first | exact hn _ _ h' | exact hq _ _ _ h' | exact hL h')
    | exact ⟨h.1, h.2.mono fun _ _ h' => hn _ _ h'⟩
    | exact h
theorem operWpIn_mono {F : Fence} {n : Nat} {P : Program} {o : Oper} {a : Act} {w : World} {next next' : Act → World → Prop} {Q Q' : Exit → Act → World → Prop}
 (h : o.wpIn F n P a w next Q) (hn : ∀ a w, next a w → next' a w) (hq : ∀ e a w, Q e a w → Q' e a w) : o.wpIn F n P a w next' Q' :=
 ⟨h.1, uponIn_mono h.2 hn hq⟩
theorem wpOpsIn_mono {F : Fence} {n : Nat} {P : Program} {ops : Array Oper} {Q Q' : Exit → Act → World → Prop} (hq : ∀ e a w, Q e a w → Q' e a w) :
 ∀ (l : List Nat) (a : Act) (w : World), wpOpsIn F n P ops Q l a w → wpOpsIn F n P ops Q' l a w
 | [], _, _, h => hq _ _ _ h
 | i :: rest, a, w, h => by
   simp only [wpOpsIn] at h ⊢
   cases ho : ops[i]? with
   | none => simp only [ho] at h ⊢; exact wpOpsIn_mono hq rest a w h
   | some o =>
     simp only [ho] at h ⊢
     split
     · rename_i hw
       simp only [hw, if_true] at h
       exact operWpIn_mono h (fun a w => wpOpsIn_mono hq rest a w) hq
     · rename_i hw
       simp only [hw, if_false, Bool.false_eq_true] at h
       exact ⟨h.1, wpOpsIn_mono hq rest _ w h.2⟩
def JO (P : Program) (r : Option Nat) (o : Oper) (s : St) (Q : AExit → St → Prop) : Prop :=
 s.wf → rsup r ≤ s.h.next → ∃ e s', s'.wf ∧ e.sup ≤ s'.h.next ∧ s.h.next ≤ s'.h.next ∧ Q e s' ∧
  ∀ ρ a w n, Rel ρ s a w → o.wpIn (fen ρ r) n P a w (Out ρ s w e s' .normal) (Out ρ s w e s')
def JL (P : Program) (r : Option Nat) (ops : Array Oper) (l : List Nat) (s : St) (Q : AExit → St → Prop) : Prop :=
 s.wf → rsup r ≤ s.h.next → ∃ e s', s'.wf ∧ e.sup ≤ s'.h.next ∧ s.h.next ≤ s'.h.next ∧ Q e s' ∧
  ∀ ρ a w n, Rel ρ s a w → wpOpsIn (fen ρ r) n P ops (Out ρ s w e s') l a w
section rules
variable {P : Program} {r : Option Nat} {s : St} {Q Q' : AExit → St → Prop} {ops : Array Oper} {o : Oper}
theorem JL.mono {l : List Nat} (h : JL P r ops l s Q) (hq : ∀ e s', Q e s' → Q' e s') : JL P r ops l s Q' :=
 fun hw hr => let ⟨e, s', a, b, n, q, x⟩ := h hw hr; ⟨e, s', a, b, n, hq e s' q, x⟩
theorem JO.mono (h : JO P r o s Q) (hq : ∀ e s', Q e s' → Q' e s') : JO P r o s Q' :=
 fun hw hr => let ⟨e, s', a, b, n, q, x⟩ := h hw hr; ⟨e, s', a, b, n, hq e s' q, x⟩
theorem J_region {c : Code} {id : Nat} (hc : c = .region id ops false) (h : JL P r ops (List.range ops.size) s Q) : J P r c s Q := by
 subst hc
 intro hw hr
 obtain ⟨e, s', hw', he, hn, hq, hx⟩ := h hw hr
 exact ⟨e, s', hw', he, hn, hq, fun ρ a w n hrel => wpIn_region (hx ρ a w n hrel)⟩
theorem JL_nil (h : Q .normal s) : JL P r ops [] s Q :=
 fun hw _ => ⟨.normal, s, hw, Nat.zero_le _, Nat.le_refl _, h, fun ρ _ _ _ hrel => ⟨ρ, rfl, hrel, .refl _ _ _⟩⟩
theorem JL_step {i : Nat} {l : List Nat} (ho : ops[i]? = some o) (hwant : ∀ ρ a w, Rel ρ s a w → Region.wanted o (yielded ops a.tmps) = true)
 (h : JO P r o s (Then (fun s' => JL P r ops l s' Q) Q)) : JL P r ops (i :: l) s Q := by
 intro hw hr
 obtain ⟨e, s1, hw1, he1, hn1, hq, hx⟩ := h hw hr
 have other : e ≠ .normal → Q e s1 → ∃ e s', s'.wf ∧ e.sup ≤ s'.h.next ∧ s.h.next ≤ s'.h.next ∧ Q e s' ∧ ∀ ρ a w n, Rel ρ s a w → wpOpsIn (fen ρ r) n P ops (Out ρ s w e s') (i :: l) a w := by
  refine fun hne hq => ⟨e, s1, hw1, he1, hn1, hq, fun ρ a w n hrel => ?_⟩
  simp only [wpOpsIn, ho, hwant ρ a w hrel, if_true]
  refine operWpIn_mono (hx ρ a w n hrel) ?_ fun _ _ _ h => h
  rintro a1 w1 ⟨ρ', h1, _⟩
  cases e <;> first | exact absurd rfl hne | simp [AExit.conc] at h1
 cases e with
 | normal =>
   obtain ⟨e, s2, hw2, he2, hn2, hq2, hy⟩ := hq hw1 (by omega)
   refine ⟨e, s2, hw2, he2, by omega, hq2, fun ρ a w n hrel => ?_⟩
   simp only [wpOpsIn, ho, hwant ρ a w hrel, if_true]
   have hz : ∀ e1 a1 w1, Out ρ s w .normal s1 e1 a1 w1 → wpOpsIn (fen ρ r) n P ops (Out ρ s w e s2) l a1 w1 := by
    rintro e1 a1 w1 ⟨ρ', _, h2, h3⟩
    have hf := fen_ext h3.2.2.2.2.1 (r := r) hr
    rw [← hf]
    refine wpOpsIn_mono ?_ _ _ _ (hy ρ' a1 w1 n h2)
    rintro e2 a2 w2 ⟨ρ'', k1, k2, k3⟩
    exact ⟨ρ'', k1, k2, h3.trans k3⟩
   have hop := hx ρ a w n hrel
   refine ⟨hop.1, ?_⟩
   have hup := hop.2
   revert hup
   generalize (o.semAt (fen ρ r).round a.eval).run P w = res
   intro hup
   cases res with
   | halt h w' =>
     cases h <;> first
      | (obtain ⟨ρ', k1, _⟩ := hup; simp [AExit.conc] at k1; done)
      | exact hup
   | ok x w' =>
     cases x <;> first
      | exact hz _ _ _ hup
      | (refine ⟨hup.1, hup.2.mono ?_⟩
         rintro (v | ch | _) w'' h'
         · exact hz _ _ _ h'
         · obtain ⟨ρ', k1, _⟩ := h'; simp [AExit.conc] at k1
         · obtain ⟨a', w', ρ', k1, _⟩ := h'; simp [AExit.conc] at k1)
      | exact ⟨hup.1, hup.2.mono fun _ _ h' => hz _ _ _ h'⟩
      | exact hup
 | exit id => exact other (by simp) hq
 | goto l => exact other (by simp) hq
 | ret => exact other (by simp) hq
 | panic v => exact other (by simp) hq
theorem JL_op {i : Nat} {l : List Nat} (ho : ops[i]? = some o) (hg : o.guard = none) (h : JO P r o s (Then (fun s' => JL P r ops l s' Q) Q)) : JL P r ops (i :: l) s Q :=
 JL_step ho (fun ρ a w _ => by simp [Region.wanted, hg]) h
theorem yielded_of {ρ : Ren} {a : Act} {w : World} (hrel : Rel ρ s a w) {j d : Nat} {b : Bool} {oj : Oper} (hj : ops[j]? = some oj) (hd : oj.dst = some d) (hb : lk s.slots d = some (.bool b)) :
 yielded ops a.tmps j = some b := by
 have := hrel.1.2 d _ hb
 simp [yielded, hj, hd, this, conc]
theorem JL_opG {i j d : Nat} {want : Bool} {oj : Oper} {l : List Nat} (ho : ops[i]? = some o) (hg : o.guard = some (j, want)) (hj : ops[j]? = some oj) (hd : oj.dst = some d)
 (hb : lk s.slots d = some (.bool want)) (h : JO P r o s (Then (fun s' => JL P r ops l s' Q) Q)) : JL P r ops (i :: l) s Q :=
 JL_step ho (fun ρ a w hrel => by simp [Region.wanted, hg, yielded_of hrel hj hd hb]) h
def dropL : List (Nat × AV) → Nat → List (Nat × AV)
 | [], _ => []
 | kv :: r, k => if Nat.beq kv.1 k then dropL r k else kv :: dropL r k
theorem lk_dropL {l : List (Nat × AV)} {d k : Nat} {v : AV} (h : lk (dropL l d) k = some v) : lk l k = some v ∧ k ≠ d := by
 induction l with
 | nil => simp [dropL, lk] at h
 | cons kv r ih =>
   simp only [dropL] at h
   split at h
   · rename_i hb
     have hd : kv.1 = d := Nat.eq_of_beq_eq_true hb
     obtain ⟨h1, h2⟩ := ih h
     refine ⟨?_, h2⟩
     simp only [lk]
     split
     · rename_i hb'
       exact absurd ((Nat.eq_of_beq_eq_true hb').symm.trans hd) h2
     · exact h1
   · rename_i hb
     simp only [lk] at h ⊢
     by_cases hb' : Nat.beq kv.1 k = true
     · have hk : kv.1 = k := Nat.eq_of_beq_eq_true hb'
       rw [if_pos hb'] at h ⊢
       exact ⟨h, fun e => hb (by rw [hk, e]; exact Nat.beq_refl d)⟩
     · rw [if_neg hb'] at h ⊢
       exact ih h
theorem JL_skip {i j d : Nat} {want b : Bool} {oj : Oper} {l : List Nat} (ho : ops[i]? = some o) (hg : o.guard = some (j, want)) (hj : ops[j]? = some oj) (hd : oj.dst = some d)
 (hb : lk s.slots d = some (.bool b)) (hne : b ≠ want) (h : JL P r ops l ⟨(match o.dst with | some k => dropL s.slots k | none => s.slots), s.h, s.n, s.defs⟩ Q) : JL P r ops (i :: l) s Q := by
 intro hw hr
 have hw' : St.wf ⟨(match o.dst with | some k => dropL s.slots k | none => s.slots), s.h, s.n, s.defs⟩ := by
  refine ⟨fun k v hk => ?_, hw.2.1, hw.2.2⟩
  cases hdst : o.dst with
  | none => simp only [hdst] at hk; exact hw.1 k v hk
  | some q => simp only [hdst] at hk; exact hw.1 k v (lk_dropL hk).1
 obtain ⟨e, s', hws, he, hn, hq, hx⟩ := h hw' hr
 refine ⟨e, s', hws, he, hn, hq, fun ρ a w n hrel => ?_⟩
 have hwant : Region.wanted o (yielded ops a.tmps) = false := by simp [Region.wanted, hg, yielded_of hrel hj hd hb, hne]
 simp only [wpOpsIn, ho, hwant, if_false, Bool.false_eq_true]
 refine ⟨fun _ _ => trivial, hx ρ _ w n ⟨?_, ?_, hrel.2.2⟩⟩
 · cases hdst : o.dst with
   | none => simpa [Act.put] using hrel.1
   | some q =>
     refine ⟨by simp [Act.put, hrel.1.1], fun k v hk => ?_⟩
     obtain ⟨h1, h2⟩ := lk_dropL hk
     have := hrel.1.2 k v h1
     simp [Act.put, Ne.symm h2, this]
 · cases hdst : o.dst <;> simpa [Act.put] using hrel.2.1
theorem slotsRel_ext {ρ ρ' : Ren} {ts : List (Nat × AV)} {n m : Nat} {tmps : Array Value} (h : slotsRel ρ ts n tmps) (he : ρ.ext ρ' m) (hs : ∀ k v, lk ts k = some v → v.sup ≤ m) : slotsRel ρ' ts n tmps :=
 ⟨h.1, fun k v hk => by rw [h.2 k v hk, conc_ext he v (hs k v hk)]⟩
theorem concD_ext {ρ ρ' : Ren} {n : Nat} (h : ρ.ext ρ' n) : ∀ ds : List ADef, supD ds ≤ n → ds.map (concD ρ') = ds.map (concD ρ)
 | [], _ => rfl
 | d :: r, hs => by
   simp only [supD] at hs
   simp only [List.map_cons, concD_ext h r (by omega)]
   congr 1
   cases d with
   | mark id => simp only [ADef.sup] at hs; simp only [concD, (h id (by omega)).1]
   | call f args =>
     simp only [ADef.sup] at hs
     cases f <;> first
      | simp only [concD, concL_ext h args (by omega)]
     rename_i fn first captured
     simp only [AV.sup] at hs
     simp only [concL_ext h first (by omega), concL_ext h captured (by omega)]
theorem Rel.put {ρ ρ' : Ren} {a : Act} {w w' : World} {h' : AH} {d : Nat} {v : AV} (hrel : Rel ρ s a w) (hw : s.wf) (hh : HRel ρ' h' w') (hf : Fr ρ s.h w ρ' h' w') (hd : d < s.n) :
 Rel ρ' ⟨(d, v) :: s.slots, h', s.n, s.defs⟩ (a.put (some d) (conc ρ' v)) w' := by
 have he := hf.2.2.2.2.1
 refine ⟨⟨by simp [Act.put, hrel.1.1], fun k u hk => ?_⟩, by simp only [Act.put]; rw [hrel.2.1, concD_ext he _ hw.2.2], hh⟩
 simp only [lk] at hk
 split at hk
 · rename_i hb
   have hk' : d = k := Nat.eq_of_beq_eq_true hb
   simp at hk; subst hk; subst hk'
   simp [Act.put, hrel.1.1, hd]
 · rename_i hb
   have hne : d ≠ k := fun e => hb (by subst e; exact Nat.beq_refl d)
   have := (slotsRel_ext hrel.1 he hw.1).2 k u hk
   simp [Act.put, hne, this]
theorem Rel.put_none {ρ ρ' : Ren} {a : Act} {w w' : World} {h' : AH} {x : Value} (hrel : Rel ρ s a w) (hw : s.wf) (hh : HRel ρ' h' w') (hf : Fr ρ s.h w ρ' h' w') :
 Rel ρ' ⟨s.slots, h', s.n, s.defs⟩ (a.put none x) w' :=
 ⟨slotsRel_ext hrel.1 hf.2.2.2.2.1 hw.1, by simp only [Act.put]; rw [hrel.2.1, concD_ext hf.2.2.2.2.1 _ hw.2.2], hh⟩
theorem wf_put {h' : AH} {d : Nat} {v : AV} (hw : s.wf) (hh : h'.wf) (hn : s.h.next ≤ h'.next) (hv : v.sup ≤ h'.next) : St.wf ⟨(d, v) :: s.slots, h', s.n, s.defs⟩ := by
 refine ⟨fun k u hk => ?_, hh, Nat.le_trans hw.2.2 hn⟩
 simp only [lk] at hk
 split at hk
 · simp at hk; subst hk; exact hv
 · exact Nat.le_trans (hw.1 k u hk) hn
theorem wf_heap {h' : AH} (hw : s.wf) (hh : h'.wf) (hn : s.h.next ≤ h'.next) : St.wf ⟨s.slots, h', s.n, s.defs⟩ :=
 ⟨fun k u hk => Nat.le_trans (hw.1 k u hk) hn, hh, Nat.le_trans hw.2.2 hn⟩
def Oper.noDefer (o : Oper) : Bool := match o.op with | .defer _ => false | _ => true
theorem semAt_of {o : Oper} (h : Oper.noDefer o = true) (ro : Option Nat) (ev : Operand → Value) : o.semAt ro ev = execOp ev o :=
 Oper.semAt_eq ro ev o fun c hc => by simp [Oper.noDefer, hc] at h
theorem drew_HRel {ρ : Ren} {h : AH} {w : World} (n : Nat) (hr : HRel ρ h w) : HRel ρ h { w with drawn := n } :=
 ⟨fun id c hg => by have := hr.1 id c hg; cases c <;> exact this, hr.2⟩
theorem drew_Fr (ρ : Ren) (h : AH) (w : World) (n : Nat) : Fr ρ h w ρ h { w with drawn := n } :=
 ⟨⟨rfl, rfl, rfl⟩, Nat.le_refl _, fun _ _ _ => rfl, fun id c hg => .inr ⟨id, c, hg, fun h => h, rfl⟩, .refl _ _, Nat.le_refl _⟩
theorem JO_eff {d : Nat} {v : AV} {h' : AH} (hd : o.dst = some d) (hdn : d < s.n) (hdef : Oper.noDefer o = true) (hwf : s.wf → h'.wf ∧ s.h.next ≤ h'.next ∧ v.sup ≤ h'.next)
 (hrun : s.wf → ∀ ρ a w, Rel ρ s a w → ∃ ρ' w', (execOp a.eval o).run P w = .ok (.value (conc ρ' v)) w' ∧ HRel ρ' h' w' ∧ Fr ρ s.h w ρ' h' w')
 (h : Q .normal ⟨(d, v) :: s.slots, h', s.n, s.defs⟩) : JO P r o s Q := by
 intro hw _
 obtain ⟨h1, h2, h3⟩ := hwf hw
 refine ⟨.normal, _, wf_put hw h1 h2 h3, Nat.zero_le _, h2, h, fun ρ a w n hrel => ⟨fun _ _ => trivial, ?_⟩⟩
 obtain ⟨ρ', w', hr, hh, hf⟩ := hrun hw ρ a w hrel
 rw [semAt_of hdef, hr, Oper.uponIn_value, hd]
 exact ⟨ρ', rfl, hrel.put hw hh hf hdn, hf⟩
theorem JO_act {h' : AH} (hd : o.dst = none) (hdef : Oper.noDefer o = true) (hwf : s.wf → h'.wf ∧ s.h.next ≤ h'.next)
 (hrun : s.wf → ∀ ρ a w, Rel ρ s a w → ∃ ρ' w', (execOp a.eval o).run P w = .ok .skip w' ∧ HRel ρ' h' w' ∧ Fr ρ s.h w ρ' h' w')
 (h : Q .normal ⟨s.slots, h', s.n, s.defs⟩) : JO P r o s Q := by
 intro hw _
 obtain ⟨h1, h2⟩ := hwf hw
 refine ⟨.normal, _, wf_heap hw h1 h2, Nat.zero_le _, h2, h, fun ρ a w n hrel => ⟨fun _ _ => trivial, ?_⟩⟩
 obtain ⟨ρ', w', hr, hh, hf⟩ := hrun hw ρ a w hrel
 rw [semAt_of hdef, hr, Oper.uponIn_skip, hd]
 exact ⟨ρ', rfl, hrel.put_none hw hh hf, hf⟩
theorem JO_val {d : Nat} {v : AV} (hd : o.dst = some d) (hdn : d < s.n) (hdef : Oper.noDefer o = true) (hsup : s.wf → v.sup ≤ s.h.next)
 (hrun : ∀ ρ a w, Rel ρ s a w → (execOp a.eval o).run P w = .ok (.value (conc ρ v)) w) (h : Q .normal ⟨(d, v) :: s.slots, s.h, s.n, s.defs⟩) : JO P r o s Q :=
 JO_eff hd hdn hdef (fun hw => ⟨hw.2.1, Nat.le_refl _, hsup hw⟩) (fun _ ρ a w hrel => ⟨ρ, w, hrun ρ a w hrel, hrel.2.2, .refl _ _ _⟩) h
variable {d : Nat} {x y z : Operand} {v u : AV}
theorem o_move (ho : o.op = .move x) (hd : o.dst = some d) (hdn : d < s.n) (hx : ev s.slots x = some v) (h : Q .normal ⟨(d, v) :: s.slots, s.h, s.n, s.defs⟩) : JO P r o s Q :=
 JO_val hd hdn (by simp [Oper.noDefer, ho]) (fun hw => ev_sup hw hx) (fun ρ a w hrel => by simp [execOp, ho, ev_eval hrel hx]) h
theorem o_assign (ho : o.op = .assign x) (hd : o.dst = some d) (hdn : d < s.n) (hx : ev s.slots x = some v) (h : Q .normal ⟨(d, v) :: s.slots, s.h, s.n, s.defs⟩) : JO P r o s Q :=
 JO_val hd hdn (by simp [Oper.noDefer, ho]) (fun hw => ev_sup hw hx) (fun ρ a w hrel => by simp [execOp, ho, ev_eval hrel hx]) h
theorem o_pick_t (ho : o.op = .pick x y z) (hd : o.dst = some d) (hdn : d < s.n) (hx : ev s.slots x = some (.bool true)) (hy : ev s.slots y = some v)
 (h : Q .normal ⟨(d, v) :: s.slots, s.h, s.n, s.defs⟩) : JO P r o s Q :=
 JO_val hd hdn (by simp [Oper.noDefer, ho]) (fun hw => ev_sup hw hy) (fun ρ a w hrel => by simp [execOp, ho, ev_eval hrel hx, ev_eval hrel hy, conc, asBool]) h
theorem o_pick_f (ho : o.op = .pick x y z) (hd : o.dst = some d) (hdn : d < s.n) (hx : ev s.slots x = some (.bool false)) (hy : ev s.slots z = some v)
 (h : Q .normal ⟨(d, v) :: s.slots, s.h, s.n, s.defs⟩) : JO P r o s Q :=
 JO_val hd hdn (by simp [Oper.noDefer, ho]) (fun hw => ev_sup hw hy) (fun ρ a w hrel => by simp [execOp, ho, ev_eval hrel hx, ev_eval hrel hy, conc, asBool]) h
end rules
section rules
variable {P : Program} {r : Option Nat} {s : St} {Q : AExit → St → Prop} {o : Oper} {d : Nat} {x y : Operand} {v u : AV} {T U : TypeId} {k : IntKind} {a b : Int}
def bitI (op : BinOp) (k : IntKind) (x y : Int) : Int :=
 k.wrap (match op with
  | .and => (BitVec.ofInt k.bits x &&& BitVec.ofInt k.bits y).toNat
  | .or => (BitVec.ofInt k.bits x ||| BitVec.ofInt k.bits y).toNat
  | .xor => (BitVec.ofInt k.bits x ^^^ BitVec.ofInt k.bits y).toNat
  | _ => (BitVec.ofInt k.bits x &&& ~~~BitVec.ofInt k.bits y).toNat)
def shlI (k : IntKind) (x y : Int) : Int := k.wrap (x * 2 ^ min y.toNat k.bits)
def shrI (k : IntKind) (x y : Int) : Int := x.fdiv (2 ^ min y.toNat k.bits)
def wrapI (k : IntKind) (x : Int) : Int := k.wrap x
def quoI (k : IntKind) (x y : Int) : Int := k.wrap (x.tdiv y)
def remI (x y : Int) : Int := x.tmod y
theorem JO_bin {op : BinOp} (ho : o.op = .binOp op T x y U) (hd : o.dst = some d) (hdn : d < s.n) {vx vy : AV} (hx : ev s.slots x = some vx) (hy : ev s.slots y = some vy) (hs : v.sup = 0)
 (hg : ∀ ρ w, (eqGuard op T x y (conc ρ vx) (conc ρ vy)).run P w = .ok () w)
 (hrun : ∀ ρ w, (binOp op T (conc ρ vx) (conc ρ vy)).run P w = .ok (conc ρ v) w) (h : Q .normal ⟨(d, v) :: s.slots, s.h, s.n, s.defs⟩) : JO P r o s Q :=
 JO_val hd hdn (by simp [Oper.noDefer, ho]) (fun _ => by rw [hs]; exact Nat.zero_le _) (fun ρ a w hrel => by
  simp only [execOp, ho, ev_eval hrel hx, ev_eval hrel hy, Sem.run_bind, hg ρ w, hrun ρ w, Result.andThen_ok, Sem.run_pure]) h
theorem guard_int (op : BinOp) (x y : Operand) (P : Program) (w : World) (j k : IntKind) (a b : Int) : (eqGuard op T x y (.int j a) (.int k b)).run P w = .ok () w := by
 unfold eqGuard; cases op <;> simp
theorem o_bin_int {op : BinOp} {n : Int} (ho : o.op = .binOp op T x y U) (hd : o.dst = some d) (hdn : d < s.n) (hx : ev s.slots x = some (.int k a)) (hy : ev s.slots y = some (.int k b))
 (hrun : ∀ w, (binOp op T (.int k a) (.int k b)).run P w = .ok (.int k n) w) (h : Q .normal ⟨(d, .int k n) :: s.slots, s.h, s.n, s.defs⟩) : JO P r o s Q :=
 JO_bin (v := .int k n) ho hd hdn hx hy rfl (fun _ w => guard_int op x y P w k k a b) (fun _ w => hrun w) h
theorem o_bin_cmp {op : BinOp} {p : Bool} (ho : o.op = .binOp op T x y U) (hd : o.dst = some d) (hdn : d < s.n) (hx : ev s.slots x = some (.int k a)) (hy : ev s.slots y = some (.int k b))
 (hrun : ∀ w, (binOp op T (.int k a) (.int k b)).run P w = .ok (.bool p) w) (h : Q .normal ⟨(d, .bool p) :: s.slots, s.h, s.n, s.defs⟩) : JO P r o s Q :=
 JO_bin (v := .bool p) ho hd hdn hx hy rfl (fun _ w => guard_int op x y P w k k a b) (fun _ w => hrun w) h
theorem o_addw (ho : o.op = .binOp .add T x y U) (hd : o.dst = some d) (hdn : d < s.n) (hx : ev s.slots x = some (.int k a)) (hy : ev s.slots y = some (.int k b))
 (h : Q .normal ⟨(d, .int k (wrapI k (a + b))) :: s.slots, s.h, s.n, s.defs⟩) : JO P r o s Q := o_bin_int ho hd hdn hx hy (fun w => by simp [binOp, Op.intArith, wrapI]) h
theorem o_subw (ho : o.op = .binOp .sub T x y U) (hd : o.dst = some d) (hdn : d < s.n) (hx : ev s.slots x = some (.int k a)) (hy : ev s.slots y = some (.int k b))
 (h : Q .normal ⟨(d, .int k (wrapI k (a - b))) :: s.slots, s.h, s.n, s.defs⟩) : JO P r o s Q := o_bin_int ho hd hdn hx hy (fun w => by simp [binOp, Op.intArith, wrapI]) h
theorem o_mulw (ho : o.op = .binOp .mul T x y U) (hd : o.dst = some d) (hdn : d < s.n) (hx : ev s.slots x = some (.int k a)) (hy : ev s.slots y = some (.int k b))
 (h : Q .normal ⟨(d, .int k (wrapI k (a * b))) :: s.slots, s.h, s.n, s.defs⟩) : JO P r o s Q := o_bin_int ho hd hdn hx hy (fun w => by simp [binOp, Op.intArith, wrapI]) h
theorem o_add (ho : o.op = .binOp .add T x y U) (hd : o.dst = some d) (hdn : d < s.n) (hx : ev s.slots x = some (.int .i64 a)) (hy : ev s.slots y = some (.int .i64 b))
 (hr : -9223372036854775808 ≤ a + b ∧ a + b ≤ 9223372036854775807)
 (h : Q .normal ⟨(d, .int .i64 (a + b)) :: s.slots, s.h, s.n, s.defs⟩) : JO P r o s Q := o_addw ho hd hdn hx hy (by rw [wrapI, IntWalk.i64_in _ hr]; exact h)
theorem o_sub (ho : o.op = .binOp .sub T x y U) (hd : o.dst = some d) (hdn : d < s.n) (hx : ev s.slots x = some (.int .i64 a)) (hy : ev s.slots y = some (.int .i64 b))
 (hr : -9223372036854775808 ≤ a - b ∧ a - b ≤ 9223372036854775807)
 (h : Q .normal ⟨(d, .int .i64 (a - b)) :: s.slots, s.h, s.n, s.defs⟩) : JO P r o s Q := o_subw ho hd hdn hx hy (by rw [wrapI, IntWalk.i64_in _ hr]; exact h)
theorem o_mul (ho : o.op = .binOp .mul T x y U) (hd : o.dst = some d) (hdn : d < s.n) (hx : ev s.slots x = some (.int .i64 a)) (hy : ev s.slots y = some (.int .i64 b))
 (hr : -9223372036854775808 ≤ a * b ∧ a * b ≤ 9223372036854775807)
 (h : Q .normal ⟨(d, .int .i64 (a * b)) :: s.slots, s.h, s.n, s.defs⟩) : JO P r o s Q := o_mulw ho hd hdn hx hy (by rw [wrapI, IntWalk.i64_in _ hr]; exact h)
theorem o_quo (ho : o.op = .binOp .quo T x y U) (hd : o.dst = some d) (hdn : d < s.n) (hx : ev s.slots x = some (.int k a)) (hy : ev s.slots y = some (.int k b)) (hb : b ≠ 0)
 (h : Q .normal ⟨(d, .int k (quoI k a b)) :: s.slots, s.h, s.n, s.defs⟩) : JO P r o s Q := o_bin_int ho hd hdn hx hy (fun w => by simp [binOp, Op.intDiv, hb, quoI]) h
theorem o_rem (ho : o.op = .binOp .rem T x y U) (hd : o.dst = some d) (hdn : d < s.n) (hx : ev s.slots x = some (.int k a)) (hy : ev s.slots y = some (.int k b)) (hb : b ≠ 0)
 (h : Q .normal ⟨(d, .int k (remI a b)) :: s.slots, s.h, s.n, s.defs⟩) : JO P r o s Q := o_bin_int ho hd hdn hx hy (fun w => by simp [binOp, Op.intDiv, hb, remI]) h
theorem o_and (ho : o.op = .binOp .and T x y U) (hd : o.dst = some d) (hdn : d < s.n) (hx : ev s.slots x = some (.int k a)) (hy : ev s.slots y = some (.int k b))
 (h : Q .normal ⟨(d, .int k (bitI .and k a b)) :: s.slots, s.h, s.n, s.defs⟩) : JO P r o s Q := o_bin_int ho hd hdn hx hy (fun w => by simp [binOp, Op.intBits, bitI]) h
theorem o_or (ho : o.op = .binOp .or T x y U) (hd : o.dst = some d) (hdn : d < s.n) (hx : ev s.slots x = some (.int k a)) (hy : ev s.slots y = some (.int k b))
 (h : Q .normal ⟨(d, .int k (bitI .or k a b)) :: s.slots, s.h, s.n, s.defs⟩) : JO P r o s Q := o_bin_int ho hd hdn hx hy (fun w => by simp [binOp, Op.intBits, bitI]) h
theorem o_xor (ho : o.op = .binOp .xor T x y U) (hd : o.dst = some d) (hdn : d < s.n) (hx : ev s.slots x = some (.int k a)) (hy : ev s.slots y = some (.int k b))
 (h : Q .normal ⟨(d, .int k (bitI .xor k a b)) :: s.slots, s.h, s.n, s.defs⟩) : JO P r o s Q := o_bin_int ho hd hdn hx hy (fun w => by simp [binOp, Op.intBits, bitI]) h
theorem o_andNot (ho : o.op = .binOp .andNot T x y U) (hd : o.dst = some d) (hdn : d < s.n) (hx : ev s.slots x = some (.int k a)) (hy : ev s.slots y = some (.int k b))
 (h : Q .normal ⟨(d, .int k (bitI .andNot k a b)) :: s.slots, s.h, s.n, s.defs⟩) : JO P r o s Q := o_bin_int ho hd hdn hx hy (fun w => by simp [binOp, Op.intBits, bitI]) h
theorem o_shl {j : IntKind} (ho : o.op = .binOp .shl T x y U) (hd : o.dst = some d) (hdn : d < s.n) (hx : ev s.slots x = some (.int k a)) (hy : ev s.slots y = some (.int j b)) (hb : 0 ≤ b)
 (h : Q .normal ⟨(d, .int k (shlI k a b)) :: s.slots, s.h, s.n, s.defs⟩) : JO P r o s Q :=
 JO_bin ho hd hdn hx hy rfl (fun _ w => guard_int _ x y P w k j a b) (fun _ w => by simp [conc, binOp, Op.shift, Int.not_lt.2 hb, shlI]) h
theorem o_shr {j : IntKind} (ho : o.op = .binOp .shr T x y U) (hd : o.dst = some d) (hdn : d < s.n) (hx : ev s.slots x = some (.int k a)) (hy : ev s.slots y = some (.int j b)) (hb : 0 ≤ b)
 (h : Q .normal ⟨(d, .int k (shrI k a b)) :: s.slots, s.h, s.n, s.defs⟩) : JO P r o s Q :=
 JO_bin ho hd hdn hx hy rfl (fun _ w => guard_int _ x y P w k j a b) (fun _ w => by simp [conc, binOp, Op.shift, Int.not_lt.2 hb, shrI]) h
theorem o_eq (ho : o.op = .binOp .eql T x y U) (hd : o.dst = some d) (hdn : d < s.n) (hx : ev s.slots x = some (.int k a)) (hy : ev s.slots y = some (.int k b))
 (h : Q .normal ⟨(d, .bool (decide (a = b))) :: s.slots, s.h, s.n, s.defs⟩) : JO P r o s Q :=
 o_bin_cmp ho hd hdn hx hy (fun w => by simp only [binOp, Op.intCmp, ne_eq, not_true, if_false, Sem.run_pure]; congr 2) h
theorem o_ne (ho : o.op = .binOp .neq T x y U) (hd : o.dst = some d) (hdn : d < s.n) (hx : ev s.slots x = some (.int k a)) (hy : ev s.slots y = some (.int k b))
 (h : Q .normal ⟨(d, .bool (decide (¬ a = b))) :: s.slots, s.h, s.n, s.defs⟩) : JO P r o s Q :=
 o_bin_cmp ho hd hdn hx hy (fun w => by
  simp only [binOp, Op.intCmp, ne_eq, not_true, if_false, Sem.run_pure]
  by_cases e : a = b <;> simp [e]) h
theorem o_lt (ho : o.op = .binOp .lss T x y U) (hd : o.dst = some d) (hdn : d < s.n) (hx : ev s.slots x = some (.int k a)) (hy : ev s.slots y = some (.int k b))
 (h : Q .normal ⟨(d, .bool (decide (a < b))) :: s.slots, s.h, s.n, s.defs⟩) : JO P r o s Q :=
 o_bin_cmp ho hd hdn hx hy (fun w => by simp [binOp, Op.intCmp]) h
theorem o_le (ho : o.op = .binOp .leq T x y U) (hd : o.dst = some d) (hdn : d < s.n) (hx : ev s.slots x = some (.int k a)) (hy : ev s.slots y = some (.int k b))
 (h : Q .normal ⟨(d, .bool (decide (a ≤ b))) :: s.slots, s.h, s.n, s.defs⟩) : JO P r o s Q :=
 o_bin_cmp ho hd hdn hx hy (fun w => by simp [binOp, Op.intCmp]) h
theorem o_gt (ho : o.op = .binOp .gtr T x y U) (hd : o.dst = some d) (hdn : d < s.n) (hx : ev s.slots x = some (.int k a)) (hy : ev s.slots y = some (.int k b))
 (h : Q .normal ⟨(d, .bool (decide (b < a))) :: s.slots, s.h, s.n, s.defs⟩) : JO P r o s Q :=
 o_bin_cmp ho hd hdn hx hy (fun w => by simp [binOp, Op.intCmp]) h
theorem o_ge (ho : o.op = .binOp .geq T x y U) (hd : o.dst = some d) (hdn : d < s.n) (hx : ev s.slots x = some (.int k a)) (hy : ev s.slots y = some (.int k b))
 (h : Q .normal ⟨(d, .bool (decide (b ≤ a))) :: s.slots, s.h, s.n, s.defs⟩) : JO P r o s Q :=
 o_bin_cmp ho hd hdn hx hy (fun w => by simp [binOp, Op.intCmp]) h
theorem o_eqv {t : Bool} {vx vy : AV} (ho : o.op = .binOp .eql T x y U) (hd : o.dst = some d) (hdn : d < s.n) (hx : ev s.slots x = some vx) (hy : ev s.slots y = some vy)
 (hrun : ∀ ρ w, (do eqGuard .eql T x y (conc ρ vx) (conc ρ vy); binOp .eql T (conc ρ vx) (conc ρ vy)).run P w = .ok (.bool t) w) (h : Q .normal ⟨(d, .bool t) :: s.slots, s.h, s.n, s.defs⟩) : JO P r o s Q :=
 JO_val hd hdn (by simp [Oper.noDefer, ho]) (fun _ => Nat.zero_le _) (fun ρ a w hrel => by
  have := hrun ρ w
  simp only [execOp, ho, ev_eval hrel hx, ev_eval hrel hy]
  rw [Sem.run_bind, this]; rfl) h
theorem o_nev {t : Bool} {vx vy : AV} (ho : o.op = .binOp .neq T x y U) (hd : o.dst = some d) (hdn : d < s.n) (hx : ev s.slots x = some vx) (hy : ev s.slots y = some vy)
 (hrun : ∀ ρ w, (do eqGuard .neq T x y (conc ρ vx) (conc ρ vy); binOp .neq T (conc ρ vx) (conc ρ vy)).run P w = .ok (.bool t) w) (h : Q .normal ⟨(d, .bool t) :: s.slots, s.h, s.n, s.defs⟩) : JO P r o s Q :=
 JO_val hd hdn (by simp [Oper.noDefer, ho]) (fun _ => Nat.zero_le _) (fun ρ a w hrel => by
  have := hrun ρ w
  simp only [execOp, ho, ev_eval hrel hx, ev_eval hrel hy]
  rw [Sem.run_bind, this]; rfl) h
theorem o_seq {p q : ByteArray} (ho : o.op = .binOp .eql T x y U) (hd : o.dst = some d) (hdn : d < s.n) (hx : ev s.slots x = some (.str p)) (hy : ev s.slots y = some (.str q))
 (h : Q .normal ⟨(d, .bool (p.toList == q.toList)) :: s.slots, s.h, s.n, s.defs⟩) : JO P r o s Q :=
 JO_bin ho hd hdn hx hy rfl (fun _ w => by simp [eqGuard, conc]) (fun _ w => by simp [conc, binOp, Op.stringOp]) h
theorem o_sne {p q : ByteArray} (ho : o.op = .binOp .neq T x y U) (hd : o.dst = some d) (hdn : d < s.n) (hx : ev s.slots x = some (.str p)) (hy : ev s.slots y = some (.str q))
 (h : Q .normal ⟨(d, .bool (!(p.toList == q.toList))) :: s.slots, s.h, s.n, s.defs⟩) : JO P r o s Q :=
 JO_bin ho hd hdn hx hy rfl (fun _ w => by simp [eqGuard, conc]) (fun _ w => by simp [conc, binOp, Op.stringOp]) h
theorem o_scat {p q : ByteArray} (ho : o.op = .binOp .add T x y U) (hd : o.dst = some d) (hdn : d < s.n) (hx : ev s.slots x = some (.str p)) (hy : ev s.slots y = some (.str q))
 (hb : p.size + q.size ≤ 9223372036854775807)
 (h : Q .normal ⟨(d, .str (p ++ q)) :: s.slots, s.h, s.n, s.defs⟩) : JO P r o s Q :=
 JO_bin ho hd hdn hx hy rfl (fun _ w => by simp [eqGuard]) (fun _ w => by
  simp [conc, binOp, Op.stringOp]; omega) h
theorem o_not {t : Bool} (ho : o.op = .unOp .not T x) (hd : o.dst = some d) (hdn : d < s.n) (hx : ev s.slots x = some (.bool t)) (h : Q .normal ⟨(d, .bool (!t)) :: s.slots, s.h, s.n, s.defs⟩) : JO P r o s Q :=
 JO_val hd hdn (by simp [Oper.noDefer, ho]) (fun _ => Nat.zero_le _) (fun ρ a w hrel => by simp [execOp, ho, ev_eval hrel hx, conc, Op.unary]) h
theorem o_neg (ho : o.op = .unOp .neg T x) (hd : o.dst = some d) (hdn : d < s.n) (hx : ev s.slots x = some (.int k a)) (h : Q .normal ⟨(d, .int k (wrapI k (0 - a))) :: s.slots, s.h, s.n, s.defs⟩) : JO P r o s Q :=
 JO_val hd hdn (by simp [Oper.noDefer, ho]) (fun _ => Nat.zero_le _) (fun ρ a w hrel => by simp [execOp, ho, ev_eval hrel hx, conc, Op.unary, Op.intArith, wrapI]) h
theorem o_conv {T' U' : TypeId} {j k' : IntKind} (ho : o.op = .convert T' U' x) (hd : o.dst = some d) (hdn : d < s.n) (hx : ev s.slots x = some (.int j a)) {dT : TypeDesc} (hT : P.underlying T' = some dT)
 (hU : P.underlying U' = some (.int k')) (h : Q .normal ⟨(d, .int k' (wrapI k' a)) :: s.slots, s.h, s.n, s.defs⟩) : JO P r o s Q :=
 JO_val hd hdn (by simp [Oper.noDefer, ho]) (fun _ => Nat.zero_le _) (fun ρ a w hrel => by
  simp [execOp, ho, ev_eval hrel hx, conc, convert, underlying, hT, hU, Conv.intToInt, wrapI]) h
theorem o_extract {i : Nat} {vs : List AV} (ho : o.op = .extract x i) (hd : o.dst = some d) (hdn : d < s.n) (hx : ev s.slots x = some (.tuple vs)) (hv : vs[i]? = some v)
 (h : Q .normal ⟨(d, v) :: s.slots, s.h, s.n, s.defs⟩) : JO P r o s Q :=
 JO_val hd hdn (by simp [Oper.noDefer, ho]) (fun hw => sup_get (by have := ev_sup hw hx; simpa [AV.sup] using this) hv) (fun ρ a w hrel => by
  simp [execOp, ho, ev_eval hrel hx, conc, Instr.extract, concL_get, hv]) h
theorem o_nilCheck_ptr {p : Nat × Nat} (ho : o.op = .nilCheck x) (hd : o.dst = some d) (hdn : d < s.n) (hx : ev s.slots x = some (.ptr (some p))) (h : Q .normal ⟨(d, .ptr (some p)) :: s.slots, s.h, s.n, s.defs⟩) : JO P r o s Q :=
 JO_val hd hdn (by simp [Oper.noDefer, ho]) (fun hw => ev_sup hw hx) (fun ρ a w hrel => by simp [execOp, ho, ev_eval hrel hx, conc]) h
theorem o_nilCheck_fn {f : FuncId} {l1 l2 : List AV} (ho : o.op = .nilCheck x) (hd : o.dst = some d) (hdn : d < s.n) (hx : ev s.slots x = some (.fn (.func f) l1 l2)) (h : Q .normal ⟨(d, .fn (.func f) l1 l2) :: s.slots, s.h, s.n, s.defs⟩) : JO P r o s Q :=
 JO_val hd hdn (by simp [Oper.noDefer, ho]) (fun hw => ev_sup hw hx) (fun ρ a w hrel => by simp [execOp, ho, ev_eval hrel hx, conc]) h
def evL (sl : List (Nat × AV)) : List Operand → Option (List AV)
 | [] => some []
 | x :: r => match ev sl x, evL sl r with
   | some v, some l => some (v :: l)
   | _, _ => none
theorem evL_eval {ρ : Ren} {a : Act} {w : World} (hr : Rel ρ s a w) : ∀ {l : List Operand} {vs : List AV}, evL s.slots l = some vs → l.map a.eval = concL ρ vs
 | [], vs, h => by simp only [evL, Option.some.injEq] at h; subst h; rfl
 | x :: r, vs, h => by
   simp only [evL] at h
   cases h1 : ev s.slots x with
   | none => simp [h1] at h
   | some v =>
     cases h2 : evL s.slots r with
     | none => simp [h1, h2] at h
     | some l => simp only [h1, h2, Option.some.injEq] at h; subst h; simp [concL, ev_eval hr h1, evL_eval hr h2]
theorem evL_sup (hw : s.wf) : ∀ {l : List Operand} {vs : List AV}, evL s.slots l = some vs → supL vs ≤ s.h.next
 | [], vs, h => by simp only [evL, Option.some.injEq] at h; subst h; exact Nat.zero_le _
 | x :: r, vs, h => by
   simp only [evL] at h
   cases h1 : ev s.slots x with
   | none => simp [h1] at h
   | some v =>
     cases h2 : evL s.slots r with
     | none => simp [h1, h2] at h
     | some l =>
       simp only [h1, h2, Option.some.injEq] at h; subst h
       have a1 := ev_sup hw h1
       have a2 := evL_sup hw h2
       simp only [supL]; omega
theorem o_makeFunc {f : Fn} {l1 l2 : Array Operand} {v1 v2 : List AV} (ho : o.op = .makeFunc f l1 l2) (hd : o.dst = some d) (hdn : d < s.n) (h1 : evL s.slots l1.toList = some v1) (h2 : evL s.slots l2.toList = some v2)
 (h : Q .normal ⟨(d, .fn f v1 v2) :: s.slots, s.h, s.n, s.defs⟩) : JO P r o s Q :=
 JO_val hd hdn (by simp [Oper.noDefer, ho]) (fun hw => by have := evL_sup hw h1; have := evL_sup hw h2; simp only [AV.sup]; omega) (fun ρ a w hrel => by
  have e1 := evL_eval hrel h1
  have e2 := evL_eval hrel h2
  have f1 : l1.map a.eval = (concL ρ v1).toArray := by rw [← e1, ← Array.toList_map, Array.toArray_toList]
  have f2 : l2.map a.eval = (concL ρ v2).toArray := by rw [← e2, ← Array.toList_map, Array.toArray_toList]
  simp [execOp, ho, conc, Instr.makeFunc, f1, f2]) h
def isAggD : TypeDesc → Bool
 | .struct _ | .array _ _ => true
 | _ => false
theorem run_isAgg {D : TypeDesc} (h : P.underlying T = some D) (w : World) : (isAgg T).run P w = .ok (isAggD D) w := by
 unfold isAgg
 rw [Sem.run_bind, Go.run_underlying h]
 cases D <;> rfl
theorem run_sizeOf' {n : Nat} (h : (P.info? T).map (·.size) = some n) (w : World) : (sizeOf T).run P w = .ok n w := by
 cases hi : P.info? T with
 | none => simp [hi] at h
 | some i => simp [hi] at h; simp [sizeOf, typeInfo, hi, h]
def partA (agg : Bool) (n : Nat) (cs : List AV) (off : Nat) : Option AV :=
 if agg then some (.agg ((cs.drop off).take n)) else cs[off]?
theorem run_partA {D : TypeDesc} {n : Nat} (hT : P.underlying T = some D) (hn : (P.info? T).map (·.size) = some n) {cs : List AV} {off : Nat} (hv : partA (isAggD D) n cs off = some v) (ρ : Ren) (w : World) :
 (part T (concL ρ cs).toArray off).run P w = .ok (conc ρ v) w := by
 unfold partA at hv
 unfold part
 simp only [Sem.run_bind, run_isAgg hT, Result.andThen_ok]
 cases hD : isAggD D with
 | true =>
   simp only [hD, if_true, Option.some.injEq] at hv ⊢
   subst hv
   simp only [Sem.run_bind, run_sizeOf' hn, Result.andThen_ok, Sem.run_pure, conc, concL_eq]
   congr 2
   simp [List.extract_toArray, List.extract_eq_take_drop, List.map_take, List.map_drop]
 | false =>
   simp only [hD, Bool.false_eq_true, if_false] at hv ⊢
   have : (concL ρ cs).toArray[off]? = some (conc ρ v) := by simp [concL_get, hv]
   simp only [this, Sem.run_pure]
theorem partA_sup {agg : Bool} {n m : Nat} {cs : List AV} {off : Nat} (hs : supL cs ≤ m) (hv : partA agg n cs off = some v) : v.sup ≤ m := by
 unfold partA at hv
 split at hv
 · simp only [Option.some.injEq] at hv; subst hv
   simp only [AV.sup]
   exact supL_le.2 fun u hu => supL_le.1 hs u (List.mem_of_mem_drop (List.mem_of_mem_take hu))
 · exact sup_get hs hv
def fieldIs (P : Program) (S : TypeId) (i off : Nat) (T : TypeId) : Prop := ∃ fs f, P.underlying S = some (.struct fs) ∧ fs[i]? = some f ∧ f.offset = off ∧ f.type = T
theorem o_field {S : TypeId} {i off n : Nat} {D : TypeDesc} {cs : List AV} (hf : fieldIs P S i off T) (hT : P.underlying T = some D) (hn : (P.info? T).map (·.size) = some n)
 (ho : o.op = .field S x i) (hd : o.dst = some d) (hdn : d < s.n) (hx : ev s.slots x = some (.agg cs)) (hv : partA (isAggD D) n cs off = some v)
 (h : Q .normal ⟨(d, v) :: s.slots, s.h, s.n, s.defs⟩) : JO P r o s Q :=
 JO_val hd hdn (by simp [Oper.noDefer, ho]) (fun hw => partA_sup (by have := ev_sup hw hx; simpa [AV.sup] using this) hv) (fun ρ a w hrel => by
  obtain ⟨fs, f, h1, h2, h3, h4⟩ := hf
  subst h3; subst h4
  simp [execOp, ho, ev_eval hrel hx, conc, Instr.field, underlying, h1, h2, asAgg, run_partA hT hn hv]) h
theorem o_indexArr {A : TypeId} {len n : Nat} {D : TypeDesc} {cs : List AV} {i : Int} (hA : P.underlying A = some (.array len T)) (hT : P.underlying T = some D) (hn : (P.info? T).map (·.size) = some n)
 (ho : o.op = .index A x y) (hd : o.dst = some d) (hdn : d < s.n) (hx : ev s.slots x = some (.agg cs)) (hy : ev s.slots y = some (.int k i)) (hi : 0 ≤ i ∧ i < len) (hv : partA (isAggD D) n cs (i.toNat * n) = some v)
 (h : Q .normal ⟨(d, v) :: s.slots, s.h, s.n, s.defs⟩) : JO P r o s Q :=
 JO_val hd hdn (by simp [Oper.noDefer, ho]) (fun hw => partA_sup (by have := ev_sup hw hx; simpa [AV.sup] using this) hv) (fun ρ a w hrel => by
  simp [execOp, ho, ev_eval hrel hx, ev_eval hrel hy, conc, Instr.index, asIntOf, underlying, hA, hi, run_sizeOf' hn, run_partA hT hn hv]) h
theorem o_indexStr {A : TypeId} {p : ByteArray} {i : Int} (hA : P.underlying A = some .string)
 (ho : o.op = .index A x y) (hd : o.dst = some d) (hdn : d < s.n) (hx : ev s.slots x = some (.str p)) (hy : ev s.slots y = some (.int k i)) (h0 : 0 ≤ i) {c : UInt8} (hc : p[i.toNat]? = some c)
 (h : Q .normal ⟨(d, .int .u8 c.toNat) :: s.slots, s.h, s.n, s.defs⟩) : JO P r o s Q :=
 JO_val hd hdn (by simp [Oper.noDefer, ho]) (fun _ => Nat.zero_le _) (fun ρ a w hrel => by
  simp [execOp, ho, ev_eval hrel hx, ev_eval hrel hy, conc, Instr.index, asIntOf, underlying, hA, h0, hc]) h
end rules
structure AH.SetTo (h : AH) (id : Nat) (c : Chunk) (h' : AH) : Prop where
 next : h'.next = h.next
 new : h'.get id = some c
 old : ∀ j, j ≠ id → h'.get j = h.get j
structure AH.AddTo (h : AH) (id : Nat) (c : Chunk) (h' : AH) : Prop where
 is : id = h.next
 next : h'.next = h.next + 1
 new : h'.get id = some c
 old : ∀ j, j ≠ id → h'.get j = h.get j
def AH.set (h : AH) (id : Nat) (c : Chunk) : AH := ⟨h.next, fun i => if i = id then some c else h.get i⟩
def AH.add (h : AH) (c : Chunk) : AH := ⟨h.next + 1, fun i => if i = h.next then some c else h.get i⟩
theorem AH.setTo (h : AH) (id : Nat) (c : Chunk) : h.SetTo id c (h.set id c) := ⟨rfl, by simp [AH.set], fun j hj => by simp [AH.set, hj]⟩
theorem AH.addTo (h : AH) (c : Chunk) : h.AddTo h.next c (h.add c) := ⟨rfl, rfl, by simp [AH.add], fun j hj => by simp [AH.add, hj]⟩
theorem AH.set_wf {h : AH} {id : Nat} {c : Chunk} (hw : h.wf) (hi : id < h.next) (hc : c.sup ≤ h.next) : (h.set id c).wf := fun i c' hg => by
 simp only [AH.set] at hg ⊢
 split at hg
 · simp at hg; subst hg; rename_i e; subst e; exact ⟨hi, hc⟩
 · exact hw i c' hg
theorem AH.add_wf {h : AH} {c : Chunk} (hw : h.wf) (hc : c.sup ≤ h.next + 1) : (h.add c).wf := fun i c' hg => by
 simp only [AH.add] at hg ⊢
 split at hg
 · simp at hg; subst hg; rename_i e; subst e; exact ⟨Nat.lt_succ_self _, hc⟩
 · have := hw i c' hg; exact ⟨by omega, by omega⟩
theorem Real.lt {ρ : Ren} {id : Nat} {w : World} {c : Chunk} (h : Real ρ id w c) : ρ.blk id < w.heap.size := by
 have key : ∀ {o : Obj}, w.heap[ρ.blk id]? = some o → ρ.blk id < w.heap.size := fun h => (Array.getElem?_eq_some_iff.1 h).1
 cases c with
 | ro cs => exact h.1
 | own cs => obtain ⟨_, e, h⟩ := h; exact key h
 | grow e cs => obtain ⟨_, e, arr, h, _⟩ := h; exact key h
 | map es cl => exact key h.2
 | siter _ _ => exact key h.2
 | loop => obtain ⟨_, f, t, _, h⟩ := h; exact key h
 | mark => exact key h.2
theorem Real.congr {ρ : Ren} {id : Nat} {w w' : World} {c : Chunk} (h : Real ρ id w c) (hb : w'.heap[ρ.blk id]? = w.heap[ρ.blk id]?) : Real ρ id w' c := by
 have hsz : ρ.blk id < w'.heap.size := by
  have hlt := h.lt
  have h1 := (Array.getElem?_eq_getElem hlt)
  rw [h1] at hb
  exact (Array.getElem?_eq_some_iff.1 hb).1
 cases c with
 | ro cs => exact ⟨hsz, fun i v hv => by have := h.2 i v hv; simpa only [World.cell?, hb] using this⟩
 | own cs => obtain ⟨h0, e, h⟩ := h; exact ⟨h0, e, by rw [hb]; exact h⟩
 | grow e cs => obtain ⟨h0, e, arr, h, h'⟩ := h; exact ⟨h0, e, arr, by rw [hb]; exact h, h'⟩
 | map es cl => exact ⟨h.1, by rw [hb]; exact h.2⟩
 | siter _ _ => exact ⟨h.1, by rw [hb]; exact h.2⟩
 | loop => obtain ⟨h0, f, t, h', h⟩ := h; exact ⟨h0, f, t, h', by rw [hb]; exact h⟩
 | mark => exact ⟨h.1, by rw [hb]; exact h.2⟩
theorem supE_le {l : List (AV × AV × Nat)} {n : Nat} : supE l ≤ n ↔ ∀ e ∈ l, e.1.sup ≤ n ∧ e.2.1.sup ≤ n := by
 induction l with
 | nil => simp [supE]
 | cons v r ih => simp only [supE, List.mem_cons, forall_eq_or_imp, ← ih]; omega
theorem Real.ext {ρ ρ' : Ren} {id n : Nat} {w : World} {c : Chunk} (h : Real ρ id w c) (he : ρ.ext ρ' n) (hid : id < n) (hs : c.sup ≤ n) : Real ρ' id w c := by
 obtain ⟨e1, e2, e3⟩ := he id hid
 cases c with
 | ro cs =>
   simp only [Chunk.sup] at hs
   refine ⟨by rw [e1]; exact h.1, fun i v hv => ?_⟩
   rw [e1, e2, conc_ext he v (sup_get hs hv)]; exact h.2 i v hv
 | own cs =>
   simp only [Chunk.sup] at hs
   obtain ⟨h0, e, h⟩ := h
   exact ⟨by rw [e2]; exact h0, e, by rw [e1, concL_ext he cs hs]; exact h⟩
 | grow e cs =>
   simp only [Chunk.sup] at hs
   obtain ⟨h0, e, arr, h, h1, h2, h3⟩ := h
   exact ⟨by rw [e2]; exact h0, e, arr, by rw [e1]; exact h, by rw [e3]; exact h1, h2, fun i v hv => by rw [conc_ext he v (sup_get hs hv)]; exact h3 i v hv⟩
 | map es cl =>
   simp only [Chunk.sup] at hs
   refine ⟨by rw [e2]; exact h.1, ?_⟩
   rw [e1, h.2]
   congr 3
   apply List.map_congr_left
   intro x hx
   have := supE_le.1 hs x hx
   rw [conc_ext he _ this.1, conc_ext he _ this.2]
 | siter _ _ => exact ⟨by rw [e2]; exact h.1, by rw [e1]; exact h.2⟩
 | loop st pend ts nt params assign body m =>
   simp only [Chunk.sup] at hs
   obtain ⟨h0, f, t, h', h⟩ := h
   exact ⟨by rw [e2]; exact h0, f, t, slotsRel_ext h' he (fun k v hk => Nat.le_trans (supT_lk (Nat.le_refl _) hk) (by omega)), by rw [e1, (he m (by omega)).1]; exact h⟩
 | mark => exact ⟨by rw [e2]; exact h.1, by rw [e1]; exact h.2⟩
theorem HRel.setBlk {ρ : Ren} {h : AH} {w w' : World} {id : Nat} {c c' : Chunk} (hr : HRel ρ h w) (hg : h.get id = some c) (hc : c.isRo = false)
 (hb : ∀ B, B ≠ ρ.blk id → w'.heap[B]? = w.heap[B]?) (hreal : Real ρ id w' c') : HRel ρ (h.set id c') w' := by
 refine ⟨fun j cj hj => ?_, fun i j ci cj hne hi hj hro => ?_⟩
 · simp only [AH.set] at hj
   split at hj
   · rename_i e; simp at hj; subst hj; subst e; exact hreal
   · rename_i e
     exact (hr.1 j cj hj).congr (hb _ (Ne.symm (hr.2 id j c cj (Ne.symm e) hg hj hc)))
 · simp only [AH.set] at hi hj
   split at hi
   · rename_i e
     subst e
     rw [if_neg (Ne.symm hne)] at hj
     exact hr.2 i j c cj hne hg hj hc
   · split at hj
     · rename_i e; subst e; exact hr.2 i j ci c hne hi hg hro
     · exact hr.2 i j ci cj hne hi hj hro
theorem Fr.setBlk {ρ : Ren} {h : AH} {w w' : World} {id : Nat} {c c' : Chunk} (hg : h.get id = some c) (hc : c.isRo = false) (ho : w'.os = w.os ∧ w'.tape = w.tape ∧ w'.output = w.output)
 (hsz : w.heap.size ≤ w'.heap.size) (hb : ∀ B, B ≠ ρ.blk id → w'.heap[B]? = w.heap[B]?) : Fr ρ h w ρ (h.set id c') w' := by
 refine ⟨ho, hsz, fun B _ hno => hb B fun e => hno id c hg hc e.symm, fun j cj hj => .inr ?_, .refl _ _, Nat.le_refl _⟩
 simp only [AH.set] at hj
 split at hj
 · rename_i e; subst e; exact ⟨j, c, hg, fun _ => hc, rfl⟩
 · exact ⟨j, cj, hj, fun h => h, rfl⟩
def Ren.plus (ρ : Ren) (n blk cap : Nat) : Ren :=
 ⟨fun i => if i = n then blk else ρ.blk i, fun i => if i = n then 0 else ρ.off i, fun i => if i = n then cap else ρ.cap i⟩
theorem Ren.plus_ext (ρ : Ren) (n blk cap : Nat) : ρ.ext (ρ.plus n blk cap) n := fun i hi => by
 have : i ≠ n := by omega
 simp [Ren.plus, this]
theorem HRel.addBlk {ρ : Ren} {h : AH} {w : World} {o : Obj} {c : Chunk} {cap dr : Nat} (hr : HRel ρ h w) (hw : h.wf) (hreal : Real (ρ.plus h.next w.heap.size cap) h.next { w with heap := w.heap.push o, drawn := dr } c) :
 HRel (ρ.plus h.next w.heap.size cap) (h.add c) { w with heap := w.heap.push o, drawn := dr } := by
 have hext := ρ.plus_ext h.next w.heap.size cap
 have hold : ∀ j cj, h.get j = some cj → Real (ρ.plus h.next w.heap.size cap) j { w with heap := w.heap.push o, drawn := dr } cj ∧ (ρ.plus h.next w.heap.size cap).blk j < w.heap.size := by
  intro j cj hj
  obtain ⟨h1, h2⟩ := hw j cj hj
  have hre := (hr.1 j cj hj).ext hext h1 h2
  refine ⟨hre.congr ?_, hre.lt⟩
  simp [Array.getElem?_push, Nat.ne_of_lt hre.lt]
 have hnew : (ρ.plus h.next w.heap.size cap).blk h.next = w.heap.size := by simp [Ren.plus]
 refine ⟨fun j cj hj => ?_, fun i j ci cj hne hi hj hro => ?_⟩
 · simp only [AH.add] at hj
   split at hj
   · rename_i e; simp at hj; subst hj; subst e; exact hreal
   · exact (hold j cj hj).1
 · simp only [AH.add] at hi hj
   split at hi
   · rename_i e
     subst e
     rw [if_neg (Ne.symm hne)] at hj
     have := (hold j cj hj).2
     omega
   · have hil := (hold i ci hi).2
     split at hj
     · rename_i e; subst e; omega
     · have a1 := (hext i (hw i ci hi).1).1
       have a2 := (hext j (hw j cj hj).1).1
       rw [a1, a2]
       exact hr.2 i j ci cj hne hi hj hro
theorem Fr.addBlk {ρ : Ren} {h : AH} {w : World} {o : Obj} {c : Chunk} {cap dr : Nat} (hw : h.wf) :
 Fr ρ h w (ρ.plus h.next w.heap.size cap) (h.add c) { w with heap := w.heap.push o, drawn := dr } := by
 refine ⟨⟨rfl, rfl, rfl⟩, by simp, fun B hB _ => by simp [Array.getElem?_push, Nat.ne_of_lt hB], fun j cj hj => ?_, ρ.plus_ext _ _ _, by simp [AH.add]⟩
 simp only [AH.add] at hj
 split at hj
 · rename_i e; subst e; exact .inl (by simp [Ren.plus])
 · have := (ρ.plus_ext h.next w.heap.size cap j (hw j cj hj).1).1
   exact .inr ⟨j, cj, hj, fun h => h, this.symm⟩
def AH.cells (h : AH) (id : Nat) : Option (List AV) :=
 match h.get id with
 | some (.ro cs) => some cs
 | some (.own cs) => some cs
 | some (.grow _ cs) => some cs
 | _ => none
theorem HRel.cell {ρ : Ren} {h : AH} {w : World} {id i : Nat} {cs : List AV} {v : AV} (hr : HRel ρ h w) (hc : h.cells id = some cs) (hv : cs[i]? = some v) :
 w.cell? (ρ.addr (id, i)) = some (conc ρ v) := by
 unfold AH.cells at hc
 cases hg : h.get id with
 | none => simp [hg] at hc
 | some c =>
   have hreal := hr.1 id c hg
   cases c <;> simp [hg] at hc
   · subst hc; exact hreal.2 i v hv
   · subst hc
     obtain ⟨h0, e, hb⟩ := hreal
     simp [World.cell?, Ren.addr, hb, h0, concL_get, hv]
   · subst hc
     obtain ⟨h0, e, arr, hb, h1, h2, h3⟩ := hreal
     simp [World.cell?, Ren.addr, hb, h0, h3 i v hv]
theorem addr_add (ρ : Ren) (id off n : Nat) : (ρ.addr (id, off)).add n = ρ.addr (id, off + n) := by
 unfold Addr.add Ren.addr
 split
 · rename_i e; subst e; rfl
 · simp [Nat.add_assoc]
theorem cells_sup {h : AH} (hw : h.wf) {id : Nat} {cs : List AV} (hc : h.cells id = some cs) : supL cs ≤ h.next ∧ id < h.next := by
 unfold AH.cells at hc
 cases hg : h.get id with
 | none => simp [hg] at hc
 | some c =>
   obtain ⟨h1, h2⟩ := hw id c hg
   cases c <;> simp [hg] at hc <;> (subst hc; exact ⟨h2, h1⟩)
def ldA (agg : Bool) (n : Nat) (cs : List AV) (off : Nat) : Option AV :=
 if agg then (if off + n ≤ cs.length then some (.agg ((cs.drop off).take n)) else none) else cs[off]?
theorem run_ldA {P : Program} {T : TypeId} {D : TypeDesc} {n : Nat} (hT : P.underlying T = some D) (hn : (P.info? T).map (·.size) = some n) {ρ : Ren} {h : AH} {w : World} {id off : Nat} {cs : List AV} {v : AV}
 (hr : HRel ρ h w) (hc : h.cells id = some cs) (hv : ldA (isAggD D) n cs off = some v) : (loadVar T (ρ.addr (id, off))).run P w = .ok (conc ρ v) w := by
 unfold ldA at hv
 unfold loadVar
 rw [Sem.run_bind, run_isAgg hT, Result.andThen_ok]
 cases hD : isAggD D with
 | true =>
   rw [hD, if_pos rfl] at hv
   split at hv
   · rename_i hle
     simp only [Option.some.injEq] at hv
     subst hv
     rw [if_pos rfl, Sem.run_bind, run_sizeOf' hn, Result.andThen_ok, Sem.run_bind]
     have hl : ((cs.drop off).take n).length = n := by simp; omega
     have := run_loadCells_list (P := P) w (ρ.addr (id, off)) (concL ρ ((cs.drop off).take n)) (fun j u hu => by
      rw [concL_get] at hu
      obtain ⟨x, hx, rfl⟩ := Option.map_eq_some_iff.1 hu
      rw [addr_add]
      refine hr.cell hc ?_
      rw [List.getElem?_take] at hx
      split at hx
      · rw [List.getElem?_drop] at hx; exact hx
      · simp at hx)
     rw [concL_length, hl] at this
     rw [this]; rfl
   · simp at hv
 | false =>
   rw [hD] at hv
   simp only [Bool.false_eq_true, if_false] at hv ⊢
   rw [run_load, hr.cell hc hv]
theorem ldA_sup {agg : Bool} {n m : Nat} {cs : List AV} {off : Nat} {v : AV} (hs : supL cs ≤ m) (hv : ldA agg n cs off = some v) : v.sup ≤ m := by
 unfold ldA at hv
 split at hv
 · split at hv
   · simp only [Option.some.injEq] at hv; subst hv
     simp only [AV.sup]
     exact supL_le.2 fun u hu => supL_le.1 hs u (List.mem_of_mem_drop (List.mem_of_mem_take hu))
   · simp at hv
 · exact sup_get hs hv
def AV.cells : AV → List AV
 | .agg cs => cs
 | v => [v]
def AV.one : AV → Bool
 | .agg _ | .tuple _ => false
 | _ => true
theorem conc_cells (ρ : Ren) (v : AV) : (conc ρ v).cells = (concL ρ v.cells).toArray := by
 cases v <;> rfl
theorem conc_one {ρ : Ren} {v : AV} (h : v.one = true) : (conc ρ v).oneCell' = true := by
 cases v <;> first | rfl | simp [AV.one] at h
theorem cells_sup_le {v : AV} : supL v.cells = v.sup := by
 cases v <;> simp [AV.cells, supL, AV.sup]
def splice (l : List AV) (off : Nat) (new : List AV) : List AV := l.take off ++ new ++ l.drop (off + new.length)
theorem splice_length {l : List AV} {off : Nat} {new : List AV} (h : off + new.length ≤ l.length) : (splice l off new).length = l.length := by
 simp [splice]; omega
section rules
variable {P : Program} {r : Option Nat} {s : St} {Q : AExit → St → Prop} {o : Oper} {d : Nat} {x y : Operand} {v u : AV} {T U : TypeId} {k : IntKind} {a b : Int}
theorem o_load {D : TypeDesc} {n id off : Nat} {cs : List AV} (hT : P.underlying T = some D) (hn : (P.info? T).map (·.size) = some n)
 (ho : o.op = .load T x) (hd : o.dst = some d) (hdn : d < s.n) (hx : ev s.slots x = some (.ptr (some (id, off)))) (hc : s.h.cells id = some cs) (hv : ldA (isAggD D) n cs off = some v)
 (h : Q .normal ⟨(d, v) :: s.slots, s.h, s.n, s.defs⟩) : JO P r o s Q :=
 JO_val hd hdn (by simp [Oper.noDefer, ho]) (fun hw => ldA_sup (cells_sup hw.2.1 hc).1 hv) (fun ρ a w hrel => by
  simp [execOp, ho, ev_eval hrel hx, conc, Instr.loadAt, Instr.sureAddr, run_ldA hT hn hrel.2.2 hc hv]) h
theorem o_fieldAddr {S : TypeId} {i off id fo n : Nat} (hf : fieldIs P S i fo T) (hn : (P.info? T).map (·.size) = some n) (hn0 : n ≠ 0)
 (ho : o.op = .fieldAddr S x i) (hd : o.dst = some d) (hdn : d < s.n) (hx : ev s.slots x = some (.ptr (some (id, off))))
 (h : Q .normal ⟨(d, .ptr (some (id, off + fo))) :: s.slots, s.h, s.n, s.defs⟩) : JO P r o s Q :=
 JO_val hd hdn (by simp [Oper.noDefer, ho]) (fun hw => by have := ev_sup hw hx; exact this) (fun ρ a w hrel => by
  obtain ⟨fs, f, h1, h2, h3, h4⟩ := hf
  subst h3; subst h4
  simp [execOp, ho, ev_eval hrel hx, conc, Instr.fieldAt, underlying, h1, h2, Instr.sureAddr, fieldPlace, run_sizeOf' hn, hn0, addr_add]) h
theorem o_indexAddrS {n id off len : Nat} {c : Cap} {i : Int} (hU : P.underlying U = some (.slice T)) (hn : (P.info? T).map (·.size) = some n)
 (ho : o.op = .indexAddr U x y) (hd : o.dst = some d) (hdn : d < s.n) (hx : ev s.slots x = some (.slice (some (id, off)) len c)) (hy : ev s.slots y = some (.int k i)) (hi : 0 ≤ i ∧ i < len)
 (h : Q .normal ⟨(d, .ptr (some (id, off + i.toNat * n))) :: s.slots, s.h, s.n, s.defs⟩) : JO P r o s Q :=
 JO_val hd hdn (by simp [Oper.noDefer, ho]) (fun hw => by have := ev_sup hw hx; exact this) (fun ρ a w hrel => by
  simp [execOp, ho, ev_eval hrel hx, ev_eval hrel hy, conc, Instr.indexAt, asIntOf, underlying, hU, hi, run_sizeOf' hn, addr_add]) h
theorem o_indexAddrA {n id off len : Nat} {i : Int} (hU : P.underlying U = some (.array len T)) (hn : (P.info? T).map (·.size) = some n)
 (ho : o.op = .indexAddr U x y) (hd : o.dst = some d) (hdn : d < s.n) (hx : ev s.slots x = some (.ptr (some (id, off)))) (hy : ev s.slots y = some (.int k i)) (hi : 0 ≤ i ∧ i < len)
 (h : Q .normal ⟨(d, .ptr (some (id, off + i.toNat * n))) :: s.slots, s.h, s.n, s.defs⟩) : JO P r o s Q :=
 JO_val hd hdn (by simp [Oper.noDefer, ho]) (fun hw => by have := ev_sup hw hx; exact this) (fun ρ a w hrel => by
  simp [execOp, ho, ev_eval hrel hx, ev_eval hrel hy, conc, Instr.indexAt, asIntOf, underlying, hU, hi, run_sizeOf' hn, addr_add, Instr.sureAddr]) h
theorem o_box {z : List AV} (ho : o.op = .box T x) (hd : o.dst = some d) (hdn : d < s.n) (hx : ev s.slots x = some v) (hz : v.cells = z)
 (h : ∀ i h', s.h.AddTo i (.own z) h' → Q .normal ⟨(d, .ptr (some (i, 0))) :: s.slots, h', s.n, s.defs⟩) : JO P r o s Q := by
 subst hz
 refine JO_eff (h' := s.h.add (.own v.cells)) hd hdn (by simp [Oper.noDefer, ho]) (fun hw => ⟨AH.add_wf hw.2.1 ?_, by simp [AH.add], by simp [AV.sup, supA, AH.add]⟩) (fun hw ρ a w hrel => ?_) (h _ _ (AH.addTo _ _))
 · have := ev_sup hw hx; simp only [Chunk.sup, cells_sup_le]; omega
 · have hs := ev_sup hw hx
   refine ⟨ρ.plus s.h.next w.heap.size 0, { w with heap := w.heap.push (.cells (concL ρ v.cells).toArray T) }, ?_, ?_, ?_⟩
   · simp [execOp, ho, ev_eval hrel hx, Instr.box, newVar, newRow, conc_cells, conc, Ren.addr, Ren.plus]
   · refine HRel.addBlk (dr := w.drawn) hrel.2.2 hw.2.1 ⟨by simp [Ren.plus], T, ?_⟩
     rw [concL_ext (ρ.plus_ext _ _ _) _ (by rw [cells_sup_le]; exact hs)]
     simp [Ren.plus]
   · exact Fr.addBlk (dr := w.drawn) hw.2.1
end rules
def zeroIs (P : Program) (T : TypeId) (z : AV) : Prop := ∃ i v, P.info? T = some i ∧ i.zero = some v ∧ absv v = some z
theorem run_zero {P : Program} {T : TypeId} {z : AV} (h : zeroIs P T z) (ρ : Ren) (w : World) : (zeroValue T).run P w = .ok (conc ρ z) w := by
 obtain ⟨i, v, h1, h2, h3⟩ := h
 obtain ⟨h4, _⟩ := conc_absv ρ v z h3
 simp [zeroValue, typeInfo, h1, h2, h4]
theorem zero_sup {P : Program} {T : TypeId} {z : AV} (h : zeroIs P T z) : z.sup = 0 := by
 obtain ⟨i, v, h1, h2, h3⟩ := h
 exact (conc_absv ⟨fun _ => 0, fun _ => 0, fun _ => 0⟩ v z h3).2
def afill (place : Nat → Option (Nat × Nat)) (cells : List AV) : List (Nat × AV) → Option (List AV)
 | [] => some cells
 | (i, v) :: rest =>
   match place i with
   | none => none
   | some (off, size) => if v.cells.length = size ∧ off + v.cells.length ≤ cells.length then afill place (splice cells off v.cells) rest else none
theorem foldl_get (new : List Value) : ∀ (k off : Nat) (cs : Array Value), off + k + new.length ≤ cs.size →
 ((new.zipIdx k).foldl (fun (cs : Array Value) (c, j) => cs.setIfInBounds (off + j) c) cs).size = cs.size ∧
 ∀ j, ((new.zipIdx k).foldl (fun (cs : Array Value) (c, j) => cs.setIfInBounds (off + j) c) cs)[j]? = if off + k ≤ j ∧ j < off + k + new.length then new[j - (off + k)]? else cs[j]? := by
 induction new with
 | nil => intro k off cs h; refine ⟨rfl, fun j => ?_⟩; simp; omega
 | cons v r ih =>
   intro k off cs h
   simp only [List.length_cons] at h
   simp only [List.zipIdx_cons, List.foldl_cons]
   obtain ⟨h1, h2⟩ := ih (k + 1) off (cs.setIfInBounds (off + k) v) (by simp; omega)
   refine ⟨h1.trans (by simp), fun j => ?_⟩
   rw [h2]
   simp only [List.length_cons]
   by_cases c1 : off + (k + 1) ≤ j ∧ j < off + (k + 1) + r.length
   · rw [if_pos c1, if_pos (by omega)]
     have e : j - (off + k) = (j - (off + (k + 1))) + 1 := by omega
     rw [e, List.getElem?_cons_succ]
   · rw [if_neg c1]
     by_cases c2 : j = off + k
     · subst c2
       rw [if_pos (by omega)]
       have : off + k < cs.size := by omega
       simp [this]
     · rw [if_neg (by omega), Array.getElem?_setIfInBounds_ne (by omega)]
theorem foldl_set (new : List Value) (off : Nat) (cs : Array Value) (h : off + new.length ≤ cs.size) :
 ((new.zipIdx 0).foldl (fun (cs : Array Value) (c, j) => cs.setIfInBounds (off + j) c) cs).toList = cs.toList.take off ++ new ++ cs.toList.drop (off + new.length) := by
 obtain ⟨h1, h2⟩ := foldl_get new 0 off cs (by omega)
 apply List.ext_getElem?
 intro j
 rw [Array.getElem?_toList, h2]
 simp only [Nat.add_zero, List.append_assoc]
 have m1 : min off cs.size = off := by omega
 by_cases c1 : j < off
 · rw [if_neg (by omega), List.getElem?_append_left (by simp; omega), List.getElem?_take, if_pos c1, Array.getElem?_toList]
 · rw [List.getElem?_append_right (by simp; omega)]
   simp only [List.length_take, Array.length_toList, m1]
   by_cases c2 : j < off + new.length
   · rw [if_pos (by omega), List.getElem?_append_left (by omega)]
   · rw [if_neg (by omega), List.getElem?_append_right (by omega), List.getElem?_drop, Array.getElem?_toList]
     congr 1; omega
theorem conc_splice (ρ : Ren) (l : List AV) (off : Nat) (new : List AV) :
 concL ρ (splice l off new) = (concL ρ l).take off ++ concL ρ new ++ (concL ρ l).drop (off + new.length) := by
 simp [splice, concL_eq, List.map_take, List.map_drop]
theorem afill_fill {ρ : Ren} {place : Nat → Option (Nat × Nat)} : ∀ {parts : List (Nat × AV)} {cells out : List AV}, afill place cells parts = some out →
 Instr.fill place (concL ρ cells).toArray (parts.map fun p => (p.1, conc ρ p.2)) = some (concL ρ out).toArray
 | [], cells, out, h => by simp only [afill, Option.some.injEq] at h; subst h; rfl
 | (i, v) :: rest, cells, out, h => by
   simp only [afill] at h
   simp only [List.map_cons, Instr.fill]
   cases hp : place i with
   | none => simp [hp] at h
   | some p =>
     obtain ⟨off, size⟩ := p
     simp only [hp] at h ⊢
     split at h
     · rename_i hc
       obtain ⟨h1, h2⟩ := hc
       have e1 : (conc ρ v).cells.size = v.cells.length := by rw [conc_cells]; simp
       have e2 : ((conc ρ v).cells.size ≠ size || decide (off + (conc ρ v).cells.size > (concL ρ cells).toArray.size)) = false := by
        rw [e1]; simp [h1]; omega
       simp only [e2, Bool.false_eq_true, if_false]
       have h3 := afill_fill (ρ := ρ) h
       rw [← h3]
       have e5 : ((conc ρ v).cells.zipIdx.foldl (fun (cs : Array Value) (c, j) => cs.setIfInBounds (off + j) c) (concL ρ cells).toArray) = (concL ρ (splice cells off v.cells)).toArray := by
        apply Array.toList_inj.1
        have := foldl_set (concL ρ v.cells) off (concL ρ cells).toArray (by simp; omega)
        rw [conc_cells, conc_splice]
        have e4 : (concL ρ v.cells).toArray.zipIdx = ((concL ρ v.cells).zipIdx 0).toArray := by simp
        rw [e4, List.foldl_toArray, this]
        simp
       rw [e5]
     · simp at h
theorem splice_sup {l new : List AV} {off n : Nat} (h1 : supL l ≤ n) (h2 : supL new ≤ n) : supL (splice l off new) ≤ n := by
 refine supL_le.2 fun v hv => ?_
 simp only [splice, List.mem_append] at hv
 rcases hv with (hv | hv) | hv
 · exact supL_le.1 h1 v (List.mem_of_mem_take hv)
 · exact supL_le.1 h2 v hv
 · exact supL_le.1 h1 v (List.mem_of_mem_drop hv)
theorem afill_sup {place : Nat → Option (Nat × Nat)} {n : Nat} : ∀ {parts : List (Nat × AV)} {cells out : List AV}, afill place cells parts = some out → supL cells ≤ n → (∀ p ∈ parts, p.2.sup ≤ n) → supL out ≤ n
 | [], cells, out, h, hc, _ => by simp only [afill, Option.some.injEq] at h; subst h; exact hc
 | (i, v) :: rest, cells, out, h, hc, hp => by
   simp only [afill] at h
   cases hpl : place i with
   | none => simp [hpl] at h
   | some p =>
     obtain ⟨off, size⟩ := p
     simp only [hpl] at h
     split at h
     · exact afill_sup h (splice_sup hc (by rw [cells_sup_le]; exact hp (i, v) (by simp))) fun q hq => hp q (by simp [hq])
     · simp at h
def evP (sl : List (Nat × AV)) : List (Nat × Operand) → Option (List (Nat × AV))
 | [] => some []
 | (i, x) :: r => match ev sl x, evP sl r with
   | some v, some l => some ((i, v) :: l)
   | _, _ => none
theorem evP_eval {s : St} {ρ : Ren} {a : Act} {w : World} (hr : Rel ρ s a w) : ∀ {l : List (Nat × Operand)} {vs : List (Nat × AV)}, evP s.slots l = some vs → l.map (fun p => (p.1, a.eval p.2)) = vs.map (fun p => (p.1, conc ρ p.2))
 | [], vs, h => by simp only [evP, Option.some.injEq] at h; subst h; rfl
 | (i, x) :: r, vs, h => by
   simp only [evP] at h
   cases h1 : ev s.slots x with
   | none => simp [h1] at h
   | some v =>
     cases h2 : evP s.slots r with
     | none => simp [h1, h2] at h
     | some l => simp only [h1, h2, Option.some.injEq] at h; subst h; simp [ev_eval hr h1, evP_eval hr h2]
theorem evP_sup {s : St} (hw : s.wf) : ∀ {l : List (Nat × Operand)} {vs : List (Nat × AV)}, evP s.slots l = some vs → ∀ p ∈ vs, p.2.sup ≤ s.h.next
 | [], vs, h => by simp only [evP, Option.some.injEq] at h; subst h; simp
 | (i, x) :: r, vs, h => by
   simp only [evP] at h
   cases h1 : ev s.slots x with
   | none => simp [h1] at h
   | some v =>
     cases h2 : evP s.slots r with
     | none => simp [h1, h2] at h
     | some l =>
       simp only [h1, h2, Option.some.injEq] at h; subst h
       intro p hp
       rcases List.mem_cons.1 hp with rfl | hp
       · exact ev_sup hw h1
       · exact evP_sup hw h2 p hp
def structIs (P : Program) (T : TypeId) (pl : List (Nat × Nat)) : Prop :=
 ∃ fs, P.underlying T = some (.struct fs) ∧ fs.toList.map (fun f => (f.offset, (P.info? f.type).map (·.size))) = pl.map (fun p => (p.1, some p.2))
theorem run_places {P : Program} : ∀ (fs : List Field) (pl : List (Nat × Nat)) (w : World), fs.map (fun f => (f.offset, (P.info? f.type).map (·.size))) = pl.map (fun p => (p.1, some p.2)) →
 (fs.mapM fun f => do pure (f.offset, ← sizeOf f.type) : Sem (List (Nat × Nat))).run P w = .ok pl w
 | [], pl, w, h => by cases pl <;> simp at h ⊢
 | f :: r, pl, w, h => by
   cases pl with
   | nil => simp at h
   | cons p q =>
     simp only [List.map_cons, List.cons.injEq, Prod.mk.injEq] at h
     obtain ⟨⟨h1, h2⟩, h3⟩ := h
     have ih := run_places r q w h3
     simp only [List.mapM_cons, Sem.run_bind, run_sizeOf' h2, Result.andThen_ok, Sem.run_pure, ih, h1]
section rules
variable {P : Program} {r : Option Nat} {s : St} {Q : AExit → St → Prop} {o : Oper} {d : Nat} {x y : Operand} {v u : AV} {T U : TypeId} {k : IntKind} {a b : Int}
theorem o_build {parts : Array (Nat × Operand)} {vs : List (Nat × AV)} {pl : List (Nat × Nat)} {z : AV} {out : List AV} (hs : structIs P T pl) (hz : zeroIs P T z)
 (ho : o.op = .build T parts) (hd : o.dst = some d) (hdn : d < s.n) (hx : evP s.slots parts.toList = some vs) (hf : afill (pl[·]?) z.cells vs = some out)
 (h : Q .normal ⟨(d, .agg out) :: s.slots, s.h, s.n, s.defs⟩) : JO P r o s Q :=
 JO_val hd hdn (by simp [Oper.noDefer, ho]) (fun hw => by
  simp only [AV.sup]; exact afill_sup hf (by rw [cells_sup_le, zero_sup hz]; exact Nat.zero_le _) (evP_sup hw hx)) (fun ρ a w hrel => by
  obtain ⟨fs, h1, h2⟩ := hs
  have h3 := run_places fs.toList pl w h2
  have h4 : (parts.map fun (i, x) => (i, a.eval x)).toList = vs.map fun p => (p.1, conc ρ p.2) := by
   rw [← evP_eval hrel hx, Array.toList_map]
  have h5 : (fs.mapM fun f => do pure (f.offset, ← sizeOf f.type) : Sem (Array (Nat × Nat))).run P w = .ok pl.toArray w := by
   rw [← Array.toArray_toList (xs := fs), List.mapM_toArray, Sem.run_map, h3]; rfl
  simp only [execOp, ho, Instr.build, Sem.run_bind, run_zero hz ρ, Result.andThen_ok, Go.run_underlying h1, h5, h4, conc_cells]
  have h6 := afill_fill (ρ := ρ) hf
  have h7 : (fun x : Nat => pl.toArray[x]?) = (fun x => pl[x]?) := by funext i; simp
  simp only [h7, h6, Sem.run_pure, Result.andThen_ok, conc]) h
theorem o_buildArr {parts : Array (Nat × Operand)} {vs : List (Nat × AV)} {len n : Nat} {z : AV} {out : List AV} (hs : P.underlying T = some (.array len U)) (hn : (P.info? U).map (·.size) = some n) (hz : zeroIs P T z)
 (ho : o.op = .build T parts) (hd : o.dst = some d) (hdn : d < s.n) (hx : evP s.slots parts.toList = some vs) (hf : afill (fun i => some (i * n, n)) z.cells vs = some out)
 (h : Q .normal ⟨(d, .agg out) :: s.slots, s.h, s.n, s.defs⟩) : JO P r o s Q :=
 JO_val hd hdn (by simp [Oper.noDefer, ho]) (fun hw => by
  simp only [AV.sup]; exact afill_sup hf (by rw [cells_sup_le, zero_sup hz]; exact Nat.zero_le _) (evP_sup hw hx)) (fun ρ a w hrel => by
  have h4 : (parts.map fun (i, x) => (i, a.eval x)).toList = vs.map fun p => (p.1, conc ρ p.2) := by
   rw [← evP_eval hrel hx, Array.toList_map]
  have h6 := afill_fill (ρ := ρ) hf
  simp only [execOp, ho, Instr.build, Sem.run_bind, run_zero hz ρ, Result.andThen_ok, Go.run_underlying hs, run_sizeOf' hn, h4, conc_cells, h6, Sem.run_pure, conc]) h
theorem JO_new {c : Chunk} {cap : Nat} (hd : o.dst = some d) (hdn : d < s.n) (hdef : Oper.noDefer o = true) (hwf : s.wf → c.sup ≤ s.h.next + 1 ∧ v.sup ≤ s.h.next + 1)
 (hrun : s.wf → ∀ ρ a w, Rel ρ s a w → ∃ ob dr, (execOp a.eval o).run P w = .ok (.value (conc (ρ.plus s.h.next w.heap.size cap) v)) { w with heap := w.heap.push ob, drawn := dr } ∧
   Real (ρ.plus s.h.next w.heap.size cap) s.h.next { w with heap := w.heap.push ob, drawn := dr } c)
 (h : Q .normal ⟨(d, v) :: s.slots, s.h.add c, s.n, s.defs⟩) : JO P r o s Q := by
 refine JO_eff hd hdn hdef (fun hw => ⟨AH.add_wf hw.2.1 (hwf hw).1, by simp [AH.add], by simpa [AH.add] using (hwf hw).2⟩) (fun hw ρ a w hrel => ?_) h
 obtain ⟨ob, dr, h1, h2⟩ := hrun hw ρ a w hrel
 exact ⟨_, _, h1, HRel.addBlk hrel.2.2 hw.2.1 h2, Fr.addBlk hw.2.1⟩
theorem o_alloc {z : AV} {zc : List AV} (hz : zeroIs P T z) (hzc : z.cells = zc) (ho : o.op = .alloc T) (hd : o.dst = some d) (hdn : d < s.n)
 (h : ∀ i h', s.h.AddTo i (.own zc) h' → Q .normal ⟨(d, .ptr (some (i, 0))) :: s.slots, h', s.n, s.defs⟩) : JO P r o s Q := by
 subst hzc
 refine JO_new (cap := 0) hd hdn (by simp [Oper.noDefer, ho]) (fun hw => ⟨?_, by simp [AV.sup, supA]⟩) (fun hw ρ a w hrel => ?_) (h _ _ (AH.addTo _ _))
 · simp only [Chunk.sup, cells_sup_le, zero_sup hz]; exact Nat.zero_le _
 · refine ⟨.cells (concL ρ z.cells).toArray T, w.drawn, ?_, by simp [Ren.plus], T, ?_⟩
   · simp [execOp, ho, Instr.alloc, run_zero hz ρ, newVar, newRow, conc_cells, conc, Ren.addr, Ren.plus]
   · rw [concL_ext (ρ.plus_ext _ _ _) _ (by rw [cells_sup_le, zero_sup hz]; exact Nat.zero_le _)]
     simp [Ren.plus]
theorem concL_one {ρ : Ren} {l : List AV} (h : l.all AV.one = true) : ∀ x ∈ concL ρ l, x.oneCell' = true := by
 intro x hx
 rw [concL_eq] at hx
 obtain ⟨v, hv, rfl⟩ := List.mem_map.1 hx
 exact conc_one (List.all_eq_true.1 h v hv)
theorem run_storeOwn {ρ : Ren} {w : World} {id off n : Nat} {cur : Array Value} {e : TypeId} (hb : w.heap[ρ.blk id]? = some (.cells cur e (0, 0))) (h0 : ρ.off id = 0) (hn : (P.info? T).map (·.size) = some n)
 (hvn : v.cells.length = n) (hle : off + n ≤ cur.size) (h1 : v.cells.all AV.one = true) :
 (storeVar T (ρ.addr (id, off)) (conc ρ v)).run P w = .ok () (w.setRow (ρ.blk id) (cur.toList.take off ++ concL ρ v.cells ++ cur.toList.drop (off + n)).toArray) := by
 unfold storeVar
 rw [Sem.run_bind, run_sizeOf' hn, Result.andThen_ok, conc_cells]
 have e1 : ¬ (concL ρ v.cells).toArray.size ≠ n := by simp [hvn]
 rw [if_neg e1]
 have := run_storeCells_at (P := P) (ρ.blk id) off e (concL ρ v.cells) 0 cur w hb (by simp [hvn]; omega) (concL_one h1)
 simpa [Ren.addr, h0, hvn] using this
theorem o_store {n id off : Nat} {cs vc cs' : List AV} (hn : (P.info? T).map (·.size) = some n)
 (ho : o.op = .store T x y) (hd : o.dst = none) (hx : ev s.slots x = some (.ptr (some (id, off)))) (hy : ev s.slots y = some v) (hvc : v.cells = vc) (hg : s.h.get id = some (.own cs))
 (hvn : vc.length = n) (hle : off + n ≤ cs.length) (h1 : vc.all AV.one = true) (hcs : splice cs off vc = cs')
 (h : ∀ h', s.h.SetTo id (.own cs') h' → Q .normal ⟨s.slots, h', s.n, s.defs⟩) : JO P r o s Q := by
 subst hvc; subst hcs
 refine JO_act (h' := s.h.set id (.own (splice cs off v.cells))) hd (by simp [Oper.noDefer, ho]) (fun hw => ⟨AH.set_wf hw.2.1 (hw.2.1 id _ hg).1 ?_, Nat.le_refl _⟩) (fun hw ρ a w hrel => ?_) (h _ (AH.setTo _ _ _))
 · exact splice_sup (hw.2.1 id _ hg).2 (by rw [cells_sup_le]; exact ev_sup hw hy)
 · obtain ⟨h0, e, hb⟩ := hrel.2.2.1 id _ hg
   have hrun := run_storeOwn (P := P) (T := T) (v := v) (off := off) hb h0 hn hvn (by simp; omega) h1
   generalize hnew : (List.take off (concL ρ cs).toArray.toList ++ concL ρ v.cells ++ List.drop (off + n) (concL ρ cs).toArray.toList).toArray = new at hrun
   refine ⟨ρ, w.setRow (ρ.blk id) new, ?_, HRel.setBlk hrel.2.2 hg rfl (fun B hB => setRow_other w _ B _ hB) ⟨h0, e, ?_⟩, Fr.setBlk hg rfl ⟨rfl, rfl, rfl⟩ (by simp) (fun B hB => setRow_other w _ B _ hB)⟩
   · simp only [execOp, ho, ev_eval hrel hx, ev_eval hrel hy, Instr.storeAt, conc, Option.map_some, Instr.sureAddr, Sem.run_bind, Sem.run_pure, Result.andThen_ok, hrun]
   · rw [setRow_heap w _ _ _ _ _ hb, ← hnew, conc_splice, hvn]
theorem o_storeG {n id off esz : Nat} {cs vc cs' : List AV} (hn : (P.info? T).map (·.size) = some n)
 (ho : o.op = .store T x y) (hd : o.dst = none) (hx : ev s.slots x = some (.ptr (some (id, off)))) (hy : ev s.slots y = some v) (hvc : v.cells = vc) (hg : s.h.get id = some (.grow esz cs))
 (hvn : vc.length = n) (hle : off + n ≤ cs.length) (h1 : vc.all AV.one = true) (hcs : splice cs off vc = cs')
 (h : ∀ h', s.h.SetTo id (.grow esz cs') h' → Q .normal ⟨s.slots, h', s.n, s.defs⟩) : JO P r o s Q := by
 subst hvc; subst hcs
 refine JO_act (h' := s.h.set id (.grow esz (splice cs off v.cells))) hd (by simp [Oper.noDefer, ho]) (fun hw => ⟨AH.set_wf hw.2.1 (hw.2.1 id _ hg).1 ?_, Nat.le_refl _⟩) (fun hw ρ a w hrel => ?_) (h _ (AH.setTo _ _ _))
 · exact splice_sup (hw.2.1 id _ hg).2 (by rw [cells_sup_le]; exact ev_sup hw hy)
 · obtain ⟨h0, e, arr, hb, hsz, hlen, hval⟩ := hrel.2.2.1 id _ hg
   have hrun := run_storeOwn (P := P) (T := T) (v := v) (off := off) hb h0 hn hvn (by omega) h1
   have hspl : (splice cs off v.cells).length = cs.length := splice_length (by omega)
   have hsz' : (arr.toList.take off ++ concL ρ v.cells ++ arr.toList.drop (off + n)).length = arr.size := by simp; omega
   refine ⟨ρ, w.setRow (ρ.blk id) (arr.toList.take off ++ concL ρ v.cells ++ arr.toList.drop (off + n)).toArray, ?_, HRel.setBlk hrel.2.2 hg rfl (fun B hB => setRow_other w _ B _ hB) ⟨h0, e, _, setRow_heap w _ _ _ _ _ hb, by rw [List.size_toArray, hsz', hsz], by rw [List.size_toArray, hsz', hspl]; exact hlen, fun i u hu => ?_⟩,
    Fr.setBlk hg rfl ⟨rfl, rfl, rfl⟩ (by simp) (fun B hB => setRow_other w _ B _ hB)⟩
   · simp only [execOp, ho, ev_eval hrel hx, ev_eval hrel hy, Instr.storeAt, conc, Option.map_some, Instr.sureAddr, Sem.run_bind, Sem.run_pure, Result.andThen_ok, hrun]
   · rw [List.getElem?_toArray]
     simp only [splice, List.append_assoc] at hu ⊢
     by_cases c1 : i < off
     · rw [List.getElem?_append_left (by simp; omega)] at hu ⊢
       simp only [List.getElem?_take, c1, if_true] at hu ⊢
       simpa using hval i u hu
     · rw [List.getElem?_append_right (by simp; omega)] at hu
       rw [List.getElem?_append_right (by simp; omega)]
       have m1 : min off cs.length = off := by omega
       have m2 : min off arr.size = off := by omega
       simp only [List.length_take, Array.length_toList, m1, m2] at hu ⊢
       by_cases c2 : i - off < v.cells.length
       · rw [List.getElem?_append_left (by simpa using c2)] at hu ⊢
         rw [concL_get, hu]; rfl
       · rw [List.getElem?_append_right (by omega)] at hu
         rw [List.getElem?_append_right (by simp; omega)]
         simp only [List.getElem?_drop, concL_length] at hu ⊢
         rw [hvn] at hu ⊢
         simpa using hval _ u hu
theorem run_builtin {b : Builtin} {args : Array Operand} {ats : Array TypeId} (ho : o.op = .call { callee := .builtin b, args, argTypes := ats }) (ev : Operand → Value) (w : World) :
 ∃ cs, (execOp ev o).run P w = (builtin b ats o.type cs (args.map ev)).run P w := by
 simp only [execOp, ho, resolve, Sem.run_bind, Sem.run_pure, Result.andThen_ok, invoke]
 exact ⟨_, rfl⟩
theorem o_len {t : TypeId} {p : Option (Nat × Nat)} {len : Nat} {c : Cap} (hT : P.underlying t = some (.slice T)) (ho : o.op = .call { callee := .builtin .len, args := #[x], argTypes := #[t] }) (hd : o.dst = some d) (hdn : d < s.n)
 (hx : ev s.slots x = some (.slice p len c)) (h : Q .normal ⟨(d, .int .i64 len) :: s.slots, s.h, s.n, s.defs⟩) : JO P r o s Q :=
 JO_val hd hdn (by simp [Oper.noDefer, ho]) (fun _ => Nat.zero_le _) (fun ρ a w hrel => by
  obtain ⟨cst, hcst⟩ := run_builtin (P := P) ho a.eval w
  simp [hcst, builtin, Builtin.len_, ev_eval hrel hx, underlying, hT, conc, goInt]) h
theorem o_lenStr {t : TypeId} {p : ByteArray} (hT : P.underlying t = some .string) (ho : o.op = .call { callee := .builtin .len, args := #[x], argTypes := #[t] }) (hd : o.dst = some d) (hdn : d < s.n)
 (hx : ev s.slots x = some (.str p)) (h : Q .normal ⟨(d, .int .i64 p.size) :: s.slots, s.h, s.n, s.defs⟩) : JO P r o s Q :=
 JO_val hd hdn (by simp [Oper.noDefer, ho]) (fun _ => Nat.zero_le _) (fun ρ a w hrel => by
  obtain ⟨cst, hcst⟩ := run_builtin (P := P) ho a.eval w
  simp [hcst, builtin, Builtin.len_, ev_eval hrel hx, underlying, hT, conc, goInt]) h
theorem o_lenArr {t : TypeId} {n : Nat} (hT : P.underlying t = some (.array n T)) (ho : o.op = .call { callee := .builtin .len, args := #[x], argTypes := #[t] }) (hd : o.dst = some d) (hdn : d < s.n)
 (hx : ev s.slots x = some v) (h : Q .normal ⟨(d, .int .i64 n) :: s.slots, s.h, s.n, s.defs⟩) : JO P r o s Q :=
 JO_val hd hdn (by simp [Oper.noDefer, ho]) (fun _ => Nat.zero_le _) (fun ρ a w hrel => by
  obtain ⟨cst, hcst⟩ := run_builtin (P := P) ho a.eval w
  simp [hcst, builtin, Builtin.len_, ev_eval hrel hx, underlying, hT, conc, goInt]) h
theorem o_lenMap {t K E : TypeId} {id : Nat} {es : List (AV × AV × Nat)} {cl : Nat} (hT : P.underlying t = some (.map K E)) (ho : o.op = .call { callee := .builtin .len, args := #[x], argTypes := #[t] }) (hd : o.dst = some d) (hdn : d < s.n)
 (hx : ev s.slots x = some (.map (some id))) (hg : s.h.get id = some (.map es cl)) (h : Q .normal ⟨(d, .int .i64 es.length) :: s.slots, s.h, s.n, s.defs⟩) : JO P r o s Q :=
 JO_val hd hdn (by simp [Oper.noDefer, ho]) (fun _ => Nat.zero_le _) (fun ρ a w hrel => by
  obtain ⟨_, hb⟩ := hrel.2.2.1 id _ hg
  obtain ⟨cst, hcst⟩ := run_builtin (P := P) ho a.eval w
  simp [hcst, builtin, Builtin.len_, ev_eval hrel hx, underlying, hT, conc, goInt, getObj, Sem.run, hb]) h
theorem o_min {p q : Operand} {t1 t2 : TypeId} (ho : o.op = .call { callee := .builtin .min, args := #[p, q], argTypes := #[t1, t2] }) (hd : o.dst = some d) (hdn : d < s.n)
 (hp : ev s.slots p = some (.int k a)) (hq : ev s.slots q = some (.int k b)) (h : Q .normal ⟨(d, .int k (if b < a then b else a)) :: s.slots, s.h, s.n, s.defs⟩) : JO P r o s Q :=
 JO_val hd hdn (by simp [Oper.noDefer, ho]) (fun _ => Nat.zero_le _) (fun ρ ac w hrel => by
  obtain ⟨cst, hcst⟩ := run_builtin (P := P) ho ac.eval w
  simp [hcst, builtin, Builtin.min_, ev_eval hrel hp, ev_eval hrel hq, conc, Builtin.min2]) h
theorem o_max {p q : Operand} {t1 t2 : TypeId} (ho : o.op = .call { callee := .builtin .max, args := #[p, q], argTypes := #[t1, t2] }) (hd : o.dst = some d) (hdn : d < s.n)
 (hp : ev s.slots p = some (.int k a)) (hq : ev s.slots q = some (.int k b)) (h : Q .normal ⟨(d, .int k (if b > a then b else a)) :: s.slots, s.h, s.n, s.defs⟩) : JO P r o s Q :=
 JO_val hd hdn (by simp [Oper.noDefer, ho]) (fun _ => Nat.zero_le _) (fun ρ ac w hrel => by
  obtain ⟨cst, hcst⟩ := run_builtin (P := P) ho ac.eval w
  simp [hcst, builtin, Builtin.max_, ev_eval hrel hp, ev_eval hrel hq, conc, Builtin.max2]) h
end rules
def aRep (z : List AV) (n : Nat) : List AV := (List.replicate n z).flatten
theorem aRep_length (z : List AV) (n : Nat) : (aRep z n).length = n * z.length := by simp [aRep]
theorem aRep_sup {z : List AV} {n m : Nat} (h : supL z ≤ m) : supL (aRep z n) ≤ m := by
 refine supL_le.2 fun v hv => ?_
 simp only [aRep, List.mem_flatten, List.mem_replicate] at hv
 obtain ⟨l, ⟨_, rfl⟩, hv⟩ := hv
 exact supL_le.1 h v hv
theorem flatten_rep_get {α : Type} (z : List α) : ∀ (n i : Nat), i < n * z.length → ((List.replicate n z).flatten)[i]? = z[i % z.length]?
 | 0, i, h => by simp at h
 | n + 1, i, h => by
   simp only [List.replicate_succ, List.flatten_cons]
   by_cases c : i < z.length
   · rw [List.getElem?_append_left c, Nat.mod_eq_of_lt c]
   · have hle : z.length ≤ i := by omega
     have hz : 0 < z.length := by
      rcases Nat.eq_zero_or_pos z.length with h0 | h0
      · rw [h0] at h; omega
      · exact h0
     rw [List.getElem?_append_right hle, flatten_rep_get z n (i - z.length) (by rw [Nat.add_mul] at h; omega)]
     rw [Nat.mod_eq_sub_mod hle]
theorem rep_conc (ρ : Ren) (z : List AV) (n : Nat) : (Array.range (n * z.length)).map (fun i => (concL ρ z).toArray[i % (concL ρ z).toArray.size]!) = (concL ρ (aRep z n)).toArray := by
 have e : concL ρ (aRep z n) = (List.replicate n (concL ρ z)).flatten := by
  simp [aRep, concL_eq, List.map_flatten]
 rw [e]
 apply Array.toList_inj.1
 apply List.ext_getElem?
 intro i
 rw [Array.getElem?_toList]
 by_cases h : i < n * z.length
 · rw [flatten_rep_get _ n i (by simpa using h)]
   have hz : 0 < z.length := by
    rcases Nat.eq_zero_or_pos z.length with h0 | h0
    · rw [h0] at h; omega
    · exact h0
   have hm : i % z.length < z.length := Nat.mod_lt _ hz
   simp [h, concL_length, hm]
 · have h1 : (Array.map (fun i => (concL ρ z).toArray[i % (concL ρ z).toArray.size]!) (Array.range (n * z.length)))[i]? = none := by simp; omega
   have h2 : ((List.replicate n (concL ρ z)).flatten)[i]? = none := by simp; omega
   rw [h1, h2]
section rules
variable {P : Program} {r : Option Nat} {s : St} {Q : AExit → St → Prop} {o : Oper} {d : Nat} {x y : Operand} {v u : AV} {T U : TypeId} {k : IntKind} {a b : Int}
theorem o_buildSlice {len n : Nat} {parts : Array (Nat × Operand)} {vs : List (Nat × AV)} {z : AV} {out : List AV} (hU : P.underlying U = some (.slice T)) (hn : (P.info? T).map (·.size) = some n) (hz : zeroIs P T z) (hzn : z.cells.length = n)
 (hmax : len * n ≤ 16777216) (ho : o.op = .buildSlice U len parts) (hd : o.dst = some d) (hdn : d < s.n) (hx : evP s.slots parts.toList = some vs) (hf : afill (fun i => some (i * n, n)) (aRep z.cells len) vs = some out)
 (h : ∀ i h', s.h.AddTo i (.own out) h' → Q .normal ⟨(d, .slice (some (i, 0)) len (.exact len)) :: s.slots, h', s.n, s.defs⟩) : JO P r o s Q := by
 have hzs : supL (aRep z.cells len) = 0 := Nat.le_zero.1 (aRep_sup (by rw [cells_sup_le, zero_sup hz]; exact Nat.le_refl _))
 refine JO_new (cap := 0) hd hdn (by simp [Oper.noDefer, ho]) (fun hw => ⟨?_, by simp [AV.sup, supA]⟩) (fun hw ρ a w hrel => ?_) (h _ _ (AH.addTo _ _))
 · exact Nat.le_succ_of_le (afill_sup hf (by rw [hzs]; exact Nat.zero_le _) (evP_sup hw hx))
 · have hs : supL out ≤ s.h.next := afill_sup hf (by rw [hzs]; exact Nat.zero_le _) (evP_sup hw hx)
   refine ⟨.cells (concL ρ out).toArray T, w.drawn, ?_, by simp [Ren.plus], T, ?_⟩
   · have h4 : (parts.map fun (i, x) => (i, a.eval x)).toList = vs.map fun p => (p.1, conc ρ p.2) := by
      rw [← evP_eval hrel hx, Array.toList_map]
     have h6 := afill_fill (ρ := ρ) hf
     have hgt : ¬ (len * n > 2 ^ 24) := by omega
     simp only [execOp, ho, Instr.buildSlice, Sem.run_bind, Go.run_underlying hU, Result.andThen_ok, run_sizeOf' hn, if_neg hgt]
     by_cases h0 : len * n = 0
     · have e1 : aRep z.cells len = [] := List.length_eq_zero_iff.1 (by rw [aRep_length, hzn, h0])
       rw [e1] at h6
       simp only [Sem.run_pure, h0, h4]
       simp only [Array.range, Array.ofFn_zero, List.map_toArray, concL] at h6 ⊢
       simp [h6, newRow, conc, Ren.addr, Ren.plus, Cap.conc]
     · have e2 := rep_conc ρ z.cells len
       rw [hzn] at e2
       simp only [if_neg h0, Sem.run_bind, run_zero hz ρ, Result.andThen_ok, Sem.run_pure, conc_cells, e2, h4, h6]
       simp [newRow, conc, Ren.addr, Ren.plus, Cap.conc]
   · rw [concL_ext (ρ.plus_ext _ _ _) _ hs]
     simp [Ren.plus]
theorem o_makeSlice {n by_ : Nat} {z : AV} {l c : Nat} (hU : P.underlying U = some (.slice T)) (hi : (P.info? T).map (fun i => (i.size, i.bytes)) = some (n, by_)) (hz : zeroIs P T z) (hzn : z.cells.length = n)
 (ho : o.op = .makeSlice U x y) (hd : o.dst = some d) (hdn : d < s.n) (hx : ev s.slots x = some (.int .i64 l)) (hy : ev s.slots y = some (.int .i64 c)) (hlc : l ≤ c) (hb : c * by_ ≤ 281474976710656) (hc : c ≤ 281474976710656)
 (h : ∀ i h', s.h.AddTo i (.own (aRep z.cells c)) h' → Q .normal ⟨(d, .slice (some (i, 0)) l (.exact c)) :: s.slots, h', s.n, s.defs⟩) : JO P r o s Q := by
 have hzs : supL (aRep z.cells c) = 0 := Nat.le_zero.1 (aRep_sup (by rw [cells_sup_le, zero_sup hz]; exact Nat.le_refl _))
 have hn : (P.info? T).map (·.size) = some n := by
  cases hh : P.info? T with
  | none => simp [hh] at hi
  | some i => simp [hh] at hi ⊢; exact hi.1
 obtain ⟨inf, hinf, hby⟩ : ∃ i, P.info? T = some i ∧ i.bytes = by_ := by
  cases hh : P.info? T with
  | none => simp [hh] at hi
  | some i => simp [hh] at hi; exact ⟨i, rfl, hi.2⟩
 refine JO_new (cap := 0) hd hdn (by simp [Oper.noDefer, ho]) (fun hw => ⟨by simp only [Chunk.sup, hzs]; exact Nat.zero_le _, by simp [AV.sup, supA]⟩) (fun hw ρ a w hrel => ?_) (h _ _ (AH.addTo _ _))
 refine ⟨.cells (concL ρ (aRep z.cells c)).toArray T, w.drawn, ?_, by simp [Ren.plus], T, ?_⟩
 · have w1 : IntKind.i64.wrap (l : Int) = l := IntWalk.i64_in _ ⟨by omega, by omega⟩
   have w2 : IntKind.i64.wrap (c : Int) = c := IntWalk.i64_in _ ⟨by omega, by omega⟩
   have t0 : ((c : Int) < 0 || (inf.bytes : Int) * (c : Int) > 2 ^ 48) = false := by
    have h2 : ((c * by_ : Nat) : Int) ≤ 281474976710656 := Int.ofNat_le.2 hb
    rw [Nat.mul_comm, Int.natCast_mul, ← hby] at h2
    simp only [Bool.or_eq_false_iff, decide_eq_false_iff_not]
    exact ⟨by omega, by omega⟩
   have t3 : decide ((l : Int) < 0) = false := by simp only [decide_eq_false_iff_not]; omega
   have t4 : decide ((l : Int) > (c : Int)) = false := by simp only [decide_eq_false_iff_not]; omega
   have e2 := rep_conc ρ z.cells c
   rw [hzn] at e2
   have fin : ∀ arr : Array Value, arr = (concL ρ (aRep z.cells c)).toArray → (newRow T arr).run P w = .ok ⟨w.heap.size, 0, none⟩ { w with heap := w.heap.push (.cells (concL ρ (aRep z.cells c)).toArray T) } := by
    intro arr ha; subst ha; simp [newRow]
   simp only [execOp, ho, Instr.makeSlice, Sem.run_bind, Go.run_underlying hU, Result.andThen_ok, ev_eval hrel hx, ev_eval hrel hy, conc, asInt, asIntOf, Sem.run_pure, typeInfo, run_program, hinf, w1, w2, t0, t3, t4, Bool.or_false, Bool.false_eq_true, if_false,
    run_askRoom, run_sizeOf' hn, Int.toNat_natCast]
   by_cases h0 : c * n = 0
   · have e1 : aRep z.cells c = [] := List.length_eq_zero_iff.1 (by rw [aRep_length, hzn, h0])
     rw [if_pos h0, Sem.run_bind, Sem.run_pure, Result.andThen_ok, Sem.run_bind, fin _ (by rw [h0, e1]; simp [concL]), Result.andThen_ok, Sem.run_pure, Result.andThen_ok]
     simp [Ren.addr, Ren.plus, Cap.conc]
   · rw [if_neg h0, Sem.run_bind, run_zero hz ρ, Result.andThen_ok, Sem.run_bind, Sem.run_pure, Result.andThen_ok, Sem.run_bind, fin _ (by rw [conc_cells]; exact e2), Result.andThen_ok, Sem.run_pure, Result.andThen_ok]
     simp [Ren.addr, Ren.plus, Cap.conc]
 · rw [concL_ext (ρ.plus_ext _ _ _) _ (by rw [hzs]; exact Nat.zero_le _)]
   simp [Ren.plus]
def evO (sl : List (Nat × AV)) : Option Operand → Option (Option Int)
 | none => some none
 | some x => match ev sl x with
   | some (.int _ n) => some (some n)
   | _ => none
theorem evO_map {ρ : Ren} {a : Act} {w : World} (hr : Rel ρ s a w) {x : Option Operand} {n : Option Int} (h : evO s.slots x = some n) :
 (n = none ∧ x.map a.eval = none) ∨ ∃ i k, n = some i ∧ x.map a.eval = some (.int k i) := by
 cases x with
 | none => simp only [evO, Option.some.injEq] at h; exact .inl ⟨h.symm, rfl⟩
 | some x =>
   simp only [evO] at h
   cases h1 : ev s.slots x with
   | none => simp [h1] at h
   | some v =>
     cases v <;> simp [h1] at h
     rename_i k n
     exact .inr ⟨n, k, h.symm, by simp [ev_eval hr h1, conc]⟩
theorem run_bounds {isS : Bool} {len cap l hi m : Nat} {lo hi' mx : Option Int} {vlo vhi vmx : Option Value} (w : World)
 (h1 : (lo = none ∧ vlo = none) ∨ ∃ i k, lo = some i ∧ vlo = some (.int k i)) (h2 : (hi' = none ∧ vhi = none) ∨ ∃ i k, hi' = some i ∧ vhi = some (.int k i)) (h3 : (mx = none ∧ vmx = none) ∨ ∃ i k, mx = some i ∧ vmx = some (.int k i))
 (hm : m = (mx.map Int.toNat).getD cap) (hh : hi = (hi'.map Int.toNat).getD len) (hl : l = (lo.map Int.toNat).getD 0) (p1 : ∀ i ∈ lo, 0 ≤ i) (p2 : ∀ i ∈ hi', 0 ≤ i) (p3 : ∀ i ∈ mx, 0 ≤ i) (hnm : mx.isSome = true → hi'.isSome = true)
 (c1 : l ≤ hi) (c2 : hi ≤ m) (c3 : m ≤ cap) : (Instr.sliceBounds isS len cap vlo vhi vmx).run P w = .ok (l, hi, m) w := by
 have sb : ∀ (k : IntKind) (i : Int) (y : Nat) (code : BoundsCode), 0 ≤ i → i ≤ y → (Instr.sliceBound (.int k i) y code).run P w = .ok i.toNat w := by
  intro k i y code h0 hy
  simp [Instr.sliceBound, asIntOf, h0, hy]
 unfold Instr.sliceBounds
 rcases h3 with ⟨rfl, rfl⟩ | ⟨im, km, rfl, rfl⟩
 · simp at hm; subst hm
   rcases h2 with ⟨rfl, rfl⟩ | ⟨ih, kh, rfl, rfl⟩
   · simp at hh; subst hh
     rcases h1 with ⟨rfl, rfl⟩ | ⟨il, kl, rfl, rfl⟩
     · simp at hl; subst hl; simp
     · simp at hl p1; subst hl; simp [sb _ il hi _ p1 (by omega)]
   · simp at hh p2; subst hh
     rcases h1 with ⟨rfl, rfl⟩ | ⟨il, kl, rfl, rfl⟩
     · simp at hl; subst hl; simp [sb _ ih m _ p2 (by omega)]
     · simp at hl p1; subst hl; simp [sb _ ih m _ p2 (by omega), sb _ il ih.toNat _ p1 (by omega)]
 · simp at hm p3; subst hm
   rcases h2 with ⟨rfl, rfl⟩ | ⟨ih, kh, rfl, rfl⟩
   · simp at hnm
   · simp at hh p2; subst hh
     rcases h1 with ⟨rfl, rfl⟩ | ⟨il, kl, rfl, rfl⟩
     · simp at hl; subst hl; simp [sb _ im cap _ p3 (by omega), sb _ ih im.toNat _ p2 (by omega)]
     · simp at hl p1; subst hl; simp [sb _ im cap _ p3 (by omega), sb _ ih im.toNat _ p2 (by omega), sb _ il ih.toNat _ p1 (by omega)]
theorem o_sliceX {n len cap l hi m : Nat} {p : Option (Nat × Nat)} {lo hi' mx : Option Operand} {nl nh nm : Option Int} (hU : P.underlying U = some (.slice T)) (hn : (P.info? T).map (·.size) = some n)
 (ho : o.op = .slice U x lo hi' mx) (hd : o.dst = some d) (hdn : d < s.n) (hx : ev s.slots x = some (.slice p len (.exact cap))) (e1 : evO s.slots lo = some nl) (e2 : evO s.slots hi' = some nh) (e3 : evO s.slots mx = some nm)
 (hm : m = (nm.map Int.toNat).getD cap) (hh : hi = (nh.map Int.toNat).getD len) (hl : l = (nl.map Int.toNat).getD 0) (p1 : ∀ i ∈ nl, 0 ≤ i) (p2 : ∀ i ∈ nh, 0 ≤ i) (p3 : ∀ i ∈ nm, 0 ≤ i) (hnm : nm.isSome = true → nh.isSome = true)
 (c1 : l ≤ hi) (c2 : hi ≤ m) (c3 : m ≤ cap)
 (h : Q .normal ⟨(d, .slice (if m = l then p else p.map fun q => (q.1, q.2 + l * n)) (hi - l) (.exact (m - l))) :: s.slots, s.h, s.n, s.defs⟩) : JO P r o s Q :=
 JO_val hd hdn (by simp [Oper.noDefer, ho]) (fun hw => by
  have := ev_sup hw hx
  simp only [AV.sup] at this ⊢
  split
  · exact this
  · cases p with
    | none => exact Nat.zero_le _
    | some q => exact this) (fun ρ a w hrel => by
  have hb := run_bounds (P := P) (isS := true) w (evO_map hrel e1) (evO_map hrel e2) (evO_map hrel e3) hm hh hl p1 p2 p3 hnm c1 c2 c3
  simp only [execOp, ho, Instr.sliceAt, Instr.slice, Sem.run_bind, Go.run_underlying hU, Result.andThen_ok, ev_eval hrel hx, conc, Cap.conc, hb, run_sizeOf' hn, Sem.run_pure]
  congr 3
  split
  · rfl
  · cases p with
    | none => rfl
    | some q => exact congrArg some (addr_add ρ q.1 q.2 _)) h
theorem o_sliceG {n len l hi esz id off dd : Nat} {cs : List AV} {lo hi' : Option Operand} {nl nh : Option Int} (hU : P.underlying U = some (.slice T)) (hn : (P.info? T).map (·.size) = some n)
 (ho : o.op = .slice U x lo hi' none) (hd : o.dst = some d) (hdn : d < s.n) (hx : ev s.slots x = some (.slice (some (id, off)) len (.grow dd))) (hg : s.h.get id = some (.grow esz cs)) (hes : 0 < esz) (hroom : (dd + len) * esz ≤ cs.length)
 (e1 : evO s.slots lo = some nl) (e2 : evO s.slots hi' = some nh)
 (hh : hi = (nh.map Int.toNat).getD len) (hl : l = (nl.map Int.toNat).getD 0) (p1 : ∀ i ∈ nl, 0 ≤ i) (p2 : ∀ i ∈ nh, 0 ≤ i)
 (c1 : l < hi ∨ l = 0) (c2 : hi ≤ len) (c3 : l = 0 → hi = 0 → 0 < len)
 (h : Q .normal ⟨(d, .slice (some (id, off + l * n)) (hi - l) (.grow (dd + l))) :: s.slots, s.h, s.n, s.defs⟩) : JO P r o s Q :=
 JO_val hd hdn (by simp [Oper.noDefer, ho]) (fun hw => by have := ev_sup hw hx; exact this) (fun ρ a w hrel => by
  obtain ⟨_, e, arr, _, hsz, hlen, _⟩ := hrel.2.2.1 id _ hg
  have hcap : dd + len ≤ ρ.cap id := by
   have : (dd + len) * esz ≤ ρ.cap id * esz := by omega
   exact Nat.le_of_mul_le_mul_right this hes
  have hb := run_bounds (P := P) (isS := true) (len := len) (cap := ρ.cap id - dd) (mx := none) (vmx := none) (m := ρ.cap id - dd) w (evO_map hrel e1) (evO_map hrel e2) (.inl ⟨rfl, rfl⟩) rfl hh hl p1 p2 (by simp) (by simp) (by omega) (by omega) (by omega)
  have hne : ¬ (ρ.cap id - dd = l) := by omega
  simp only [execOp, ho, Instr.sliceAt, Instr.slice, Sem.run_bind, Go.run_underlying hU, Result.andThen_ok, ev_eval hrel hx, conc, Cap.conc, Option.map_some, Option.map_none, hb, run_sizeOf' hn, Sem.run_pure, if_neg hne, addr_add]
  congr 3
  omega) h
theorem o_sliceStr {l hi : Nat} {p : ByteArray} {lo hi' : Option Operand} {nl nh : Option Int} (hU : P.underlying U = some .string)
 (ho : o.op = .slice U x lo hi' none) (hd : o.dst = some d) (hdn : d < s.n) (hx : ev s.slots x = some (.str p)) (e1 : evO s.slots lo = some nl) (e2 : evO s.slots hi' = some nh)
 (hh : hi = (nh.map Int.toNat).getD p.size) (hl : l = (nl.map Int.toNat).getD 0) (p1 : ∀ i ∈ nl, 0 ≤ i) (p2 : ∀ i ∈ nh, 0 ≤ i) (c1 : l ≤ hi) (c2 : hi ≤ p.size)
 (h : Q .normal ⟨(d, .str (p.extract l hi)) :: s.slots, s.h, s.n, s.defs⟩) : JO P r o s Q :=
 JO_val hd hdn (by simp [Oper.noDefer, ho]) (fun _ => Nat.zero_le _) (fun ρ a w hrel => by
  have hb := run_bounds (P := P) (isS := false) (len := p.size) (cap := p.size) (mx := none) (vmx := none) (m := p.size) w (evO_map hrel e1) (evO_map hrel e2) (.inl ⟨rfl, rfl⟩) rfl hh hl p1 p2 (by simp) (by simp) c1 c2 (by omega)
  simp [execOp, ho, Instr.sliceAt, Instr.slice, Go.run_underlying hU, ev_eval hrel hx, conc, hb]) h
theorem o_sliceArr {n len l hi id off : Nat} {lo hi' : Option Operand} {nl nh : Option Int} (hU : P.underlying U = some (.array len T)) (hn : (P.info? T).map (·.size) = some n)
 (ho : o.op = .slice U x lo hi' none) (hd : o.dst = some d) (hdn : d < s.n) (hx : ev s.slots x = some (.ptr (some (id, off)))) (e1 : evO s.slots lo = some nl) (e2 : evO s.slots hi' = some nh)
 (hh : hi = (nh.map Int.toNat).getD len) (hl : l = (nl.map Int.toNat).getD 0) (p1 : ∀ i ∈ nl, 0 ≤ i) (p2 : ∀ i ∈ nh, 0 ≤ i) (c1 : l ≤ hi) (c2 : hi ≤ len)
 (h : Q .normal ⟨(d, .slice (some (if len = l then (id, off) else (id, off + l * n))) (hi - l) (.exact (len - l))) :: s.slots, s.h, s.n, s.defs⟩) : JO P r o s Q :=
 JO_val hd hdn (by simp [Oper.noDefer, ho]) (fun hw => by
  have := ev_sup hw hx
  simp only [AV.sup, supA] at this ⊢
  split <;> exact this) (fun ρ a w hrel => by
  have hb := run_bounds (P := P) (isS := false) (len := len) (cap := len) (mx := none) (vmx := none) (m := len) w (evO_map hrel e1) (evO_map hrel e2) (.inl ⟨rfl, rfl⟩) rfl hh hl p1 p2 (by simp) (by simp) c1 c2 (by omega)
  simp only [execOp, ho, Instr.sliceAt, Sem.run_bind, Go.run_underlying hU, Result.andThen_ok, ev_eval hrel hx, conc, Cap.conc, Option.map_some, Option.map_none, Instr.sureAddr, hb, run_sizeOf' hn, Sem.run_pure]
  congr 4
  split
  · rfl
  · simp [addr_add]) h
end rules
def slCells (h : AH) (n esz : Nat) : AV → Option (List AV)
 | .slice (some (id, off)) _ _ => match h.cells id with
   | some cs => if off + n * esz ≤ cs.length then some ((cs.drop off).take (n * esz)) else none
   | none => none
 | .slice none _ _ => if n = 0 then some [] else none
 | _ => none
theorem run_firstCells {P : Program} {ρ : Ren} {h : AH} {w : World} {n esz : Nat} {v : AV} {cs : List AV} (hr : HRel ρ h w) (hc : slCells h n esz v = some cs) :
 (Builtin.firstCells esz n (conc ρ v)).run P w = .ok (concL ρ cs).toArray w := by
 cases v <;> simp only [slCells] at hc <;> try (simp at hc; done)
 rename_i p len c
 cases p with
 | none =>
   simp only at hc
   split at hc
   · simp only [Option.some.injEq] at hc; subst hc; rfl
   · simp at hc
 | some q =>
   obtain ⟨id, off⟩ := q
   simp only at hc
   cases hid : h.cells id with
   | none => simp [hid] at hc
   | some l =>
     simp only [hid] at hc
     split at hc
     · rename_i hle
       simp only [Option.some.injEq] at hc
       subst hc
       have hl : ((l.drop off).take (n * esz)).length = n * esz := by simp; omega
       have := run_loadCells_list (P := P) w (ρ.addr (id, off)) (concL ρ ((l.drop off).take (n * esz))) (fun j u hu => by
        rw [concL_get] at hu
        obtain ⟨x, hx, rfl⟩ := Option.map_eq_some_iff.1 hu
        rw [addr_add]
        refine hr.cell hid ?_
        rw [List.getElem?_take] at hx
        split at hx
        · rw [List.getElem?_drop] at hx; exact hx
        · simp at hx)
       rw [concL_length, hl] at this
       exact this
     · simp at hc
theorem slCells_sup {h : AH} (hw : h.wf) {n esz : Nat} {v : AV} {cs : List AV} (hc : slCells h n esz v = some cs) : supL cs ≤ h.next := by
 cases v <;> simp only [slCells] at hc <;> try (simp at hc; done)
 rename_i p len c
 cases p with
 | none =>
   simp only at hc
   split at hc
   · simp only [Option.some.injEq] at hc; subst hc; exact Nat.zero_le _
   · simp at hc
 | some q =>
   obtain ⟨id, off⟩ := q
   simp only at hc
   cases hid : h.cells id with
   | none => simp [hid] at hc
   | some l =>
     simp only [hid] at hc
     split at hc
     · simp only [Option.some.injEq] at hc; subst hc
       exact supL_le.2 fun u hu => supL_le.1 (cells_sup hw hid).1 u (List.mem_of_mem_drop (List.mem_of_mem_take hu))
     · simp at hc
theorem slCells_length {h : AH} {n esz : Nat} {v : AV} {cs : List AV} (hc : slCells h n esz v = some cs) : cs.length = n * esz := by
 cases v <;> simp only [slCells] at hc <;> try (simp at hc; done)
 rename_i p len c
 cases p with
 | none =>
   simp only at hc
   split at hc
   · rename_i h0; simp only [Option.some.injEq] at hc; subst hc; simp [h0]
   · simp at hc
 | some q =>
   obtain ⟨id, off⟩ := q
   simp only at hc
   cases hid : h.cells id with
   | none => simp [hid] at hc
   | some l =>
     simp only [hid] at hc
     split at hc
     · simp only [Option.some.injEq] at hc; subst hc; simp; omega
     · simp at hc
structure AppT (P : Program) (t t2 e : TypeId) (esz by_ : Nat) (z : AV) : Prop where
 sl : P.underlying t = some (.slice e)
 sl2 : ∃ D, P.underlying t2 = some D ∧ ∀ k, D ≠ .int k
 info : (P.info? e).map (fun i => (i.size, i.bytes)) = some (esz, by_)
 zero : zeroIs P e z
 zsz : z.cells.length = esz
 small : by_ ≤ 4096
theorem AppT.size {P : Program} {t t2 e : TypeId} {esz by_ : Nat} {z : AV} (h : AppT P t t2 e esz by_ z) : (P.info? e).map (·.size) = some esz := by
 have := h.info
 cases hh : P.info? e with
 | none => simp [hh] at this
 | some i => simp [hh] at this ⊢; exact this.1
theorem AppT.bytes {P : Program} {t t2 e : TypeId} {esz by_ : Nat} {z : AV} (h : AppT P t t2 e esz by_ z) : ∃ i, P.info? e = some i ∧ i.bytes = by_ := by
 have := h.info
 cases hh : P.info? e with
 | none => simp [hh] at this
 | some i => simp [hh] at this; exact ⟨i, rfl, this.2⟩
theorem growBy_le (n : Nat) : ∀ (r c : Nat), c ≤ 4 * n + 4096 → Builtin.growBy n r c ≤ 4 * n + 4096
 | 0, c, h => h
 | r + 1, c, h => by
   simp only [Builtin.growBy]
   split
   · exact h
   · exact growBy_le n r _ (by omega)
theorem nextcap_le (n old : Nat) (h : old < n) : Builtin.nextslicecap n old ≤ 4 * n + 4096 := by
 unfold Builtin.nextslicecap
 split
 · omega
 · split
   · omega
   · exact growBy_le n 4 old (by omega)
theorem run_append_fits {P : Program} {t t2 e ty : TypeId} {esz by_ : Nat} {z : AV} (ha : AppT P t t2 e esz by_ z) {w w' : World} {base : Option Addr} {n0 n cap : Nat} {x : Value} {new : Array Value}
 (hlen : (Builtin.lenOf x).run P w = .ok n w) (hnew : (Builtin.firstCells esz n x).run P w = .ok new w) (hfit : n0 + n ≤ cap)
 (hst : (match base with | some a => storeCells (a.add (n0 * esz)) new.toList | none => pure ()).run P w = .ok () w') :
 (Builtin.append_ #[t, t2] ty #[.slice base n0 cap, x]).run P w = .ok (.slice base (n0 + n) cap) w' := by
 obtain ⟨D, h1, h2⟩ := ha.sl2
 have key : ∀ w0 : World, w0 = w → (Builtin.append_ #[t, t2] ty #[.slice base n0 cap, x]).run P w0 = .ok (.slice base (n0 + n) cap) w' := by
  rintro w0 rfl
  cases D <;> first
   | exact absurd rfl (h2 _)
   | (simp only [Builtin.append_, List.getElem?_toArray, List.getElem?_cons_zero, List.getElem?_cons_succ, Sem.run_bind, Go.run_underlying ha.sl, Result.andThen_ok, run_sizeOf' ha.size, Go.run_underlying h1, Sem.run_pure,
       Bool.false_eq_true, if_false, hlen, if_pos hfit, Bool.not_false, if_true, hnew]
      cases base with
      | none => simp only [Sem.run_pure, Result.ok.injEq, true_and] at hst ⊢; simpa using hst
      | some a => simp only at hst; simp only [Sem.run_bind, hst, Result.andThen_ok, Sem.run_pure])
 exact key w rfl
theorem run_append_grows {P : Program} {t t2 e ty : TypeId} {esz by_ : Nat} {z : AV} (ha : AppT P t t2 e esz by_ z) {w : World} {base : Option Addr} {n0 n cap : Nat} {x : Value} {old new : Array Value}
 (hlen : (Builtin.lenOf x).run P w = .ok n w) (hnew : ∀ dr, (Builtin.firstCells esz n x).run P { w with drawn := dr } = .ok new { w with drawn := dr })
 (hold : ∀ dr, (Builtin.firstCells esz n0 (.slice base n0 cap)).run P { w with drawn := dr } = .ok old { w with drawn := dr })
 (hs1 : old.size = n0 * esz) (hs2 : new.size = n * esz) (hno : ¬ n0 + n ≤ cap) (hle : n0 + n ≤ 4294967296) :
 ∃ (c dr : Nat) (arr : Array Value), n0 + n ≤ c ∧ arr.size = c * esz ∧ (∀ (i : Nat) v, (old ++ new)[i]? = some v → arr[i]? = some v) ∧
  (Builtin.append_ #[t, t2] ty #[.slice base n0 cap, x]).run P w = .ok (.slice (some ⟨w.heap.size, 0, none⟩) (n0 + n) c) { w with heap := w.heap.push (.cells arr e), drawn := dr } := by
 obtain ⟨D, h1, h2⟩ := ha.sl2
 obtain ⟨inf, hi, hby⟩ := ha.bytes
 have hcap : ¬ (Builtin.nextslicecap (n0 + n) cap * inf.bytes > 2 ^ 48) := by
  have h3 := nextcap_le (n0 + n) cap (by omega)
  have h4 : Builtin.nextslicecap (n0 + n) cap * inf.bytes ≤ (4 * (n0 + n) + 4096) * 4096 := Nat.mul_le_mul h3 (by rw [hby]; exact ha.small)
  have h5 : (4 * (n0 + n) + 4096) * 4096 ≤ (4 * 4294967296 + 4096) * 4096 := Nat.mul_le_mul_right _ (by omega)
  omega
 have hmax : ¬ (((n0 + n : Nat) : Int) > IntKind.max .i64) := by
  have : IntKind.max .i64 = 9223372036854775807 := by decide
  rw [this]; omega
 have hzero : ∀ w : World, (zeroValue e).run P w = .ok (conc ⟨fun _ => 0, fun _ => 0, fun _ => 0⟩ z) w := fun w => run_zero ha.zero _ w
 let c := Question.cut (.appendCap (n0 + n) cap e) (w.tape w.drawn (.appendCap (n0 + n) cap e))
 have hc : n0 + n ≤ c := by show n0 + n ≤ (n0 + n) + _; omega
 refine ⟨c, w.drawn + 1, old ++ new ++ Builtin.zeroCells (conc ⟨fun _ => 0, fun _ => 0, fun _ => 0⟩ z).cells (c - (n0 + n)), hc, ?_, ?_, ?_⟩
 · have hzc : (conc ⟨fun _ => 0, fun _ => 0, fun _ => 0⟩ z).cells.size = esz := by rw [conc_cells]; simp [ha.zsz]
   have : (Builtin.zeroCells (conc ⟨fun _ => 0, fun _ => 0, fun _ => 0⟩ z).cells (c - (n0 + n))).size = (c - (n0 + n)) * esz := by simp [Builtin.zeroCells, hzc]
   rw [Array.size_append, Array.size_append, hs1, hs2, this, ← Nat.add_mul, ← Nat.add_mul]
   congr 1; omega
 · intro i v hv
   rw [Array.getElem?_append_left (Array.getElem?_eq_some_iff.1 hv).1]
   exact hv
 · cases D <;> first
    | exact absurd rfl (h2 _)
    | (simp only [Builtin.append_, List.getElem?_toArray, List.getElem?_cons_zero, List.getElem?_cons_succ, Sem.run_bind, Go.run_underlying ha.sl, Result.andThen_ok, run_sizeOf' ha.size, Go.run_underlying h1, Sem.run_pure,
        Bool.false_eq_true, if_false, hlen, if_neg hno, Bool.not_false, if_true, typeInfo, run_program, hi, hmax, false_and, if_neg hcap, run_choose, Question.forced, run_askRoom]
       rw [hold]
       simp only [Result.andThen_ok]
       rw [hnew]
       simp only [Result.andThen_ok, hzero, newRow, Sem.run_bind, run_newObj, Sem.run_pure]
       rfl)
structure AH.MoveTo (h : AH) (id i : Nat) (c : Chunk) (h' : AH) : Prop where
 is : i = h.next
 next : h'.next = h.next + 1
 new : h'.get i = some c
 old : ∀ j, j ≠ i → j ≠ id → h'.get j = h.get j
 gone : h'.get id = none ∨ id = i
def AH.move (h : AH) (id : Nat) (c : Chunk) : AH := ⟨h.next + 1, fun i => if i = h.next then some c else if i = id then none else h.get i⟩
theorem AH.moveTo (h : AH) (id : Nat) (c : Chunk) : h.MoveTo id h.next c (h.move id c) :=
 ⟨rfl, rfl, by simp [AH.move], fun j h1 h2 => by simp [AH.move, h1, h2], by
  by_cases e : id = h.next
  · exact .inr e
  · exact .inl (by simp [AH.move, e])⟩
theorem AH.move_wf {h : AH} {id : Nat} {c : Chunk} (hw : h.wf) (hc : c.sup ≤ h.next + 1) : (h.move id c).wf := fun i c' hg => by
 simp only [AH.move] at hg ⊢
 split at hg
 · simp at hg; subst hg; rename_i e; subst e; exact ⟨Nat.lt_succ_self _, hc⟩
 · split at hg
   · simp at hg
   · have := hw i c' hg; exact ⟨by omega, by omega⟩
theorem HRel.moveBlk {ρ : Ren} {h : AH} {w w' : World} {id cap : Nat} {c c' : Chunk} (hr : HRel ρ h w) (hw : h.wf) (hg : h.get id = some c) (hc : c.isRo = false)
 (hb : ∀ B, B ≠ ρ.blk id → w'.heap[B]? = w.heap[B]?) (hreal : Real (ρ.plus h.next (ρ.blk id) cap) h.next w' c') : HRel (ρ.plus h.next (ρ.blk id) cap) (h.move id c') w' := by
 have hext := ρ.plus_ext h.next (ρ.blk id) cap
 have hnew : (ρ.plus h.next (ρ.blk id) cap).blk h.next = ρ.blk id := by simp [Ren.plus]
 have hold : ∀ j cj, j ≠ id → h.get j = some cj → Real (ρ.plus h.next (ρ.blk id) cap) j w' cj ∧ (ρ.plus h.next (ρ.blk id) cap).blk j ≠ ρ.blk id := by
  intro j cj hne hj
  obtain ⟨h1, h2⟩ := hw j cj hj
  have e1 := (hext j h1).1
  have hn : ρ.blk j ≠ ρ.blk id := Ne.symm (hr.2 id j c cj (Ne.symm hne) hg hj hc)
  refine ⟨((hr.1 j cj hj).ext hext h1 h2).congr (hb _ (by rw [e1]; exact hn)), by rw [e1]; exact hn⟩
 refine ⟨fun j cj hj => ?_, fun i j ci cj hne hi hj hro => ?_⟩
 · simp only [AH.move] at hj
   split at hj
   · rename_i e; simp at hj; subst hj; subst e; exact hreal
   · split at hj
     · simp at hj
     · rename_i e; exact (hold j cj e hj).1
 · simp only [AH.move] at hi hj
   split at hi
   · rename_i e
     subst e
     rw [if_neg (Ne.symm hne)] at hj
     split at hj
     · simp at hj
     · rename_i e; rw [hnew]; exact Ne.symm (hold j cj e hj).2
   · split at hi
     · simp at hi
     · rename_i e1 e2
       split at hj
       · rename_i e; subst e; rw [hnew]; exact (hold i ci e2 hi).2
       · split at hj
         · simp at hj
         · have a1 := (hext i (hw i ci hi).1).1
           have a2 := (hext j (hw j cj hj).1).1
           rw [a1, a2]
           exact hr.2 i j ci cj hne hi hj hro
theorem Fr.moveBlk {ρ : Ren} {h : AH} {w w' : World} {id cap : Nat} {c c' : Chunk} (hw : h.wf) (hg : h.get id = some c) (hc : c.isRo = false) (ho : w'.os = w.os ∧ w'.tape = w.tape ∧ w'.output = w.output)
 (hsz : w.heap.size ≤ w'.heap.size) (hb : ∀ B, B ≠ ρ.blk id → w'.heap[B]? = w.heap[B]?) : Fr ρ h w (ρ.plus h.next (ρ.blk id) cap) (h.move id c') w' := by
 refine ⟨ho, hsz, fun B _ hno => hb B fun e => hno id c hg hc e.symm, fun j cj hj => .inr ?_, ρ.plus_ext _ _ _, by simp [AH.move]⟩
 simp only [AH.move] at hj
 split at hj
 · rename_i e; subst e; exact ⟨id, c, hg, fun _ => hc, by simp [Ren.plus]⟩
 · split at hj
   · simp at hj
   · have := (ρ.plus_ext h.next (ρ.blk id) cap j (hw j cj hj).1).1
     exact ⟨j, cj, hj, fun h => h, this.symm⟩
theorem HRel.dropAdd {ρ : Ren} {h : AH} {w : World} {ob : Obj} {id cap dr : Nat} {c' : Chunk} (hr : HRel ρ h w) (hw : h.wf)
 (hreal : Real (ρ.plus h.next w.heap.size cap) h.next { w with heap := w.heap.push ob, drawn := dr } c') : HRel (ρ.plus h.next w.heap.size cap) (h.move id c') { w with heap := w.heap.push ob, drawn := dr } := by
 have h1 := HRel.addBlk (o := ob) (dr := dr) hr hw hreal
 have sub : ∀ j cj, (h.move id c').get j = some cj → (h.add c').get j = some cj := by
  intro j cj hj
  simp only [AH.move] at hj
  simp only [AH.add]
  split at hj
  · rename_i e; rw [if_pos e]; exact hj
  · rename_i e
    rw [if_neg e]
    split at hj
    · simp at hj
    · exact hj
 exact ⟨fun j cj hj => h1.1 j cj (sub j cj hj), fun i j ci cj hne hi hj hro => h1.2 i j ci cj hne (sub i ci hi) (sub j cj hj) hro⟩
theorem Fr.dropAdd {ρ : Ren} {h : AH} {w : World} {ob : Obj} {id cap dr : Nat} {c' : Chunk} (hw : h.wf) :
 Fr ρ h w (ρ.plus h.next w.heap.size cap) (h.move id c') { w with heap := w.heap.push ob, drawn := dr } := by
 obtain ⟨a1, a2, a3, a4, a5, a6⟩ := Fr.addBlk (ρ := ρ) (o := ob) (c := c') (cap := cap) (dr := dr) (w := w) hw
 refine ⟨a1, a2, a3, fun j cj hj => ?_, a5, by simp [AH.move]⟩
 refine a4 j cj ?_
 simp only [AH.move] at hj
 simp only [AH.add]
 split at hj
 · rename_i e; rw [if_pos e]; exact hj
 · rename_i e
   rw [if_neg e]
   split at hj
   · simp at hj
   · exact hj
section rules
variable {P : Program} {r : Option Nat} {s : St} {Q : AExit → St → Prop} {o : Oper} {d : Nat} {x y : Operand} {v u : AV} {t t2 e : TypeId} {esz by_ : Nat} {z : AV}
theorem lenOf_slice {ρ : Ren} {q : Option (Nat × Nat)} {n : Nat} {c : Cap} (w : World) : (Builtin.lenOf (conc ρ (.slice q n c))).run P w = .ok n w := by simp [conc, Builtin.lenOf]
theorem o_appendN {p q : Option (Nat × Nat)} {n0 n cap : Nat} {c2 : Cap} {old new out : List AV} (ha : AppT P t t2 e esz by_ z)
 (ho : o.op = .call { callee := .builtin .append, args := #[x, y], argTypes := #[t, t2] }) (hd : o.dst = some d) (hdn : d < s.n)
 (hx : ev s.slots x = some (.slice p n0 (.exact cap))) (hy : ev s.slots y = some (.slice q n c2)) (h1 : slCells s.h n0 esz (.slice p n0 (.exact cap)) = some old) (h2 : slCells s.h n esz (.slice q n c2) = some new)
 (hno : cap < n0 + n) (hle : n0 + n ≤ 4294967296) (hout : old ++ new = out)
 (h : ∀ i h', s.h.AddTo i (.grow esz out) h' → Q .normal ⟨(d, .slice (some (i, 0)) (n0 + n) (.grow 0)) :: s.slots, h', s.n, s.defs⟩) : JO P r o s Q := by
 subst hout
 refine JO_eff (h' := s.h.add (.grow esz (old ++ new))) hd hdn (by simp [Oper.noDefer, ho]) (fun hw => ⟨AH.add_wf hw.2.1 ?_, by simp [AH.add], by simp [AV.sup, supA, AH.add]⟩) (fun hw ρ a w hrel => ?_) (h _ _ (AH.addTo _ _))
 · have a1 := slCells_sup hw.2.1 h1
   have a2 := slCells_sup hw.2.1 h2
   simp only [Chunk.sup, supL_append]; omega
 · have hs1 := slCells_length h1
   have hs2 := slCells_length h2
   obtain ⟨c, dr, arr, hc, hsz, hval, hrun⟩ := run_append_grows (ty := o.type) ha (w := w) (n0 := n0) (n := n) (cap := cap) (base := p.map ρ.addr) (x := conc ρ (.slice q n c2)) (old := (concL ρ old).toArray) (new := (concL ρ new).toArray)
    (lenOf_slice w) (fun dr => run_firstCells (drew_HRel dr hrel.2.2) h2) (fun dr => run_firstCells (drew_HRel dr hrel.2.2) h1) (by simp [hs1]) (by simp [hs2]) (by omega) hle
   obtain ⟨cst, hcst⟩ := run_builtin (P := P) ho a.eval w
   refine ⟨ρ.plus s.h.next w.heap.size c, { w with heap := w.heap.push (.cells arr e), drawn := dr }, ?_, ?_, Fr.addBlk hw.2.1⟩
   · rw [hcst]
     simp only [builtin, List.map_toArray, List.map_cons, List.map_nil, ev_eval hrel hx, ev_eval hrel hy, conc, Cap.conc, Sem.run_bind] at hrun ⊢
     rw [hrun]
     simp [Ren.addr, Ren.plus]
   · refine HRel.addBlk hrel.2.2 hw.2.1 ⟨by simp [Ren.plus], e, arr, by simp [Ren.plus], by simp [Ren.plus, hsz], ?_, fun i u hu => ?_⟩
     · rw [List.length_append, hs1, hs2, hsz, ← Nat.add_mul]; exact Nat.mul_le_mul_right _ hc
     · refine hval i _ ?_
       have hsup : u.sup ≤ s.h.next := by
        have a1 := slCells_sup hw.2.1 h1
        have a2 := slCells_sup hw.2.1 h2
        exact sup_get (l := old ++ new) (by rw [supL_append]; omega) hu
       rw [conc_ext (ρ.plus_ext _ _ _) _ hsup]
       have := concL_get ρ (old ++ new) i
       rw [hu, concL_append] at this
       simpa using this
theorem o_append0 {p q : Option (Nat × Nat)} {n0 cap : Nat} {c2 : Cap} (ha : AppT P t t2 e esz by_ z)
 (ho : o.op = .call { callee := .builtin .append, args := #[x, y], argTypes := #[t, t2] }) (hd : o.dst = some d) (hdn : d < s.n)
 (hx : ev s.slots x = some (.slice p n0 (.exact cap))) (hy : ev s.slots y = some (.slice q 0 c2)) (h2 : slCells s.h 0 esz (.slice q 0 c2) = some []) (hle : n0 ≤ cap)
 (h : Q .normal ⟨(d, .slice p n0 (.exact cap)) :: s.slots, s.h, s.n, s.defs⟩) : JO P r o s Q :=
 JO_val hd hdn (by simp [Oper.noDefer, ho]) (fun hw => ev_sup hw hx) (fun ρ a w hrel => by
  obtain ⟨cst, hcst⟩ := run_builtin (P := P) ho a.eval w
  have hrun := run_append_fits (ty := o.type) ha (w := w) (w' := w) (n0 := n0) (n := 0) (cap := cap) (base := p.map ρ.addr) (x := conc ρ (.slice q 0 c2)) (new := #[]) (lenOf_slice w) (by simpa [concL] using run_firstCells hrel.2.2 h2) (by omega)
   (by cases p <;> simp [storeCells])
  rw [hcst]
  simp only [builtin, List.map_toArray, List.map_cons, List.map_nil, ev_eval hrel hx, ev_eval hrel hy, conc, Cap.conc, Sem.run_bind] at hrun ⊢
  rw [hrun]
  rfl) h
theorem o_appendF {q : Option (Nat × Nat)} {id off n0 n cap : Nat} {c2 : Cap} {cs new cs' : List AV} (ha : AppT P t t2 e esz by_ z)
 (ho : o.op = .call { callee := .builtin .append, args := #[x, y], argTypes := #[t, t2] }) (hd : o.dst = some d) (hdn : d < s.n)
 (hx : ev s.slots x = some (.slice (some (id, off)) n0 (.exact cap))) (hy : ev s.slots y = some (.slice q n c2)) (hg : s.h.get id = some (.own cs)) (h2 : slCells s.h n esz (.slice q n c2) = some new) (h1 : new.all AV.one = true)
 (hfit : n0 + n ≤ cap) (hin : off + (n0 + n) * esz ≤ cs.length) (hcs : splice cs (off + n0 * esz) new = cs')
 (h : ∀ h', s.h.SetTo id (.own cs') h' → Q .normal ⟨(d, .slice (some (id, off)) (n0 + n) (.exact cap)) :: s.slots, h', s.n, s.defs⟩) : JO P r o s Q := by
 subst hcs
 have hs2 := slCells_length h2
 refine JO_eff (h' := s.h.set id (.own (splice cs (off + n0 * esz) new))) hd hdn (by simp [Oper.noDefer, ho]) (fun hw => ⟨AH.set_wf hw.2.1 (hw.2.1 id _ hg).1 (splice_sup (hw.2.1 id _ hg).2 (slCells_sup hw.2.1 h2)), Nat.le_refl _, by have := ev_sup hw hx; exact this⟩)
  (fun hw ρ a w hrel => ?_) (h _ (AH.setTo _ _ _))
 obtain ⟨h0, el, hb⟩ := hrel.2.2.1 id _ hg
 obtain ⟨cst, hcst⟩ := run_builtin (P := P) ho a.eval w
 have hlen : off + n0 * esz + new.length ≤ cs.length := by rw [hs2]; rw [Nat.add_mul] at hin; omega
 have hst := run_storeCells_at (P := P) (ρ.blk id) (off + n0 * esz) el (concL ρ new) 0 (concL ρ cs).toArray w hb (by simp; omega) (concL_one h1)
 generalize hnew : ((concL ρ cs).toArray.toList.take (off + n0 * esz + 0) ++ concL ρ new ++ (concL ρ cs).toArray.toList.drop (off + n0 * esz + 0 + (concL ρ new).length)).toArray = arr at hst
 have hrun := run_append_fits (ty := o.type) ha (w := w) (w' := w.setRow (ρ.blk id) arr) (n0 := n0) (n := n) (cap := cap) (base := some (ρ.addr (id, off))) (x := conc ρ (.slice q n c2)) (new := (concL ρ new).toArray) (lenOf_slice w) (run_firstCells hrel.2.2 h2) hfit
  (by show (storeCells ((ρ.addr (id, off)).add (n0 * esz)) (concL ρ new)).run P w = _; rw [addr_add]; simp only [Ren.addr, h0, Nat.zero_add]; exact hst)
 refine ⟨ρ, w.setRow (ρ.blk id) arr, ?_, HRel.setBlk hrel.2.2 hg rfl (fun B hB => setRow_other w _ B _ hB) ⟨h0, el, ?_⟩, Fr.setBlk hg rfl ⟨rfl, rfl, rfl⟩ (by simp) (fun B hB => setRow_other w _ B _ hB)⟩
 · rw [hcst]
   simp only [builtin, List.map_toArray, List.map_cons, List.map_nil, ev_eval hrel hx, ev_eval hrel hy, conc, Cap.conc, Option.map_some, Sem.run_bind] at hrun ⊢
   rw [hrun]
   rfl
 · rw [setRow_heap w _ _ _ _ _ hb, ← hnew, conc_splice]
   simp
theorem o_appendG {q : Option (Nat × Nat)} {id n0 n : Nat} {c2 : Cap} {cs new out : List AV} (ha : AppT P t t2 e esz by_ z)
 (ho : o.op = .call { callee := .builtin .append, args := #[x, y], argTypes := #[t, t2] }) (hd : o.dst = some d) (hdn : d < s.n)
 (hx : ev s.slots x = some (.slice (some (id, 0)) n0 (.grow 0))) (hy : ev s.slots y = some (.slice q n c2)) (hg : s.h.get id = some (.grow esz cs)) (hfull : cs.length = n0 * esz)
 (h2 : slCells s.h n esz (.slice q n c2) = some new) (h1 : new.all AV.one = true) (hle : n0 + n ≤ 4294967296) (hout : cs ++ new = out)
 (h : ∀ i h', s.h.MoveTo id i (.grow esz out) h' → Q .normal ⟨(d, .slice (some (i, 0)) (n0 + n) (.grow 0)) :: s.slots, h', s.n, s.defs⟩) : JO P r o s Q := by
 subst hout
 have hs2 := slCells_length h2
 have hcl : s.h.cells id = some cs := by simp [AH.cells, hg]
 have hold : ∀ cap, slCells s.h n0 esz (.slice (some (id, 0)) n0 cap) = some cs := fun cap => by
  simp only [slCells, hcl, Nat.zero_add, ← hfull, Nat.le_refl, if_true, List.drop_zero, List.take_length]
 refine JO_eff (h' := s.h.move id (.grow esz (cs ++ new))) hd hdn (by simp [Oper.noDefer, ho]) (fun hw => ⟨AH.move_wf hw.2.1 ?_, by simp [AH.move], by simp [AV.sup, supA, AH.move]⟩) (fun hw ρ a w hrel => ?_) (h _ _ (AH.moveTo _ _ _))
 · have a1 : supL cs ≤ s.h.next := (hw.2.1 id _ hg).2
   have a2 := slCells_sup hw.2.1 h2
   simp only [Chunk.sup, supL_append]; omega
 · have hsup : ∀ (i : Nat) u, (cs ++ new)[i]? = some u → u.sup ≤ s.h.next := fun i u hu => by
    have a1 : supL cs ≤ s.h.next := (hw.2.1 id _ hg).2
    have a2 := slCells_sup hw.2.1 h2
    exact sup_get (l := cs ++ new) (by rw [supL_append]; omega) hu
   obtain ⟨h0, el, arr, hb, hsz, hlen, hval⟩ := hrel.2.2.1 id _ hg
   obtain ⟨cst, hcst⟩ := run_builtin (P := P) ho a.eval w
   by_cases hfit : n0 + n ≤ ρ.cap id
   · have hroom : n0 * esz + new.length ≤ arr.size := by rw [hs2, hsz, ← Nat.add_mul]; exact Nat.mul_le_mul_right _ hfit
     have hst := run_storeCells_at (P := P) (ρ.blk id) (n0 * esz) el (concL ρ new) 0 arr w hb (by simp; omega) (concL_one h1)
     generalize hnew : (arr.toList.take (n0 * esz + 0) ++ concL ρ new ++ arr.toList.drop (n0 * esz + 0 + (concL ρ new).length)).toArray = arr2 at hst
     have hrun := run_append_fits (ty := o.type) ha (w := w) (w' := w.setRow (ρ.blk id) arr2) (n0 := n0) (n := n) (cap := ρ.cap id) (base := some (ρ.addr (id, 0))) (x := conc ρ (.slice q n c2)) (new := (concL ρ new).toArray) (lenOf_slice w) (run_firstCells hrel.2.2 h2) hfit
      (by show (storeCells ((ρ.addr (id, 0)).add (n0 * esz)) (concL ρ new)).run P w = _; rw [addr_add]; simp only [Ren.addr, h0, Nat.zero_add]; exact hst)
     have hsz2 : arr2.size = arr.size := by rw [← hnew]; simp; omega
     refine ⟨ρ.plus s.h.next (ρ.blk id) (ρ.cap id), w.setRow (ρ.blk id) arr2, ?_, HRel.moveBlk hrel.2.2 hw.2.1 hg rfl (fun B hB => setRow_other w _ B _ hB) ⟨by simp [Ren.plus], el, arr2, ?_, by simp [Ren.plus, hsz2, hsz], ?_, fun i u hu => ?_⟩,
      Fr.moveBlk hw.2.1 hg rfl ⟨rfl, rfl, rfl⟩ (by simp) (fun B hB => setRow_other w _ B _ hB)⟩
     · rw [hcst]
       simp only [builtin, List.map_toArray, List.map_cons, List.map_nil, ev_eval hrel hx, ev_eval hrel hy, conc, Cap.conc, Option.map_some, Sem.run_bind, Nat.sub_zero] at hrun ⊢
       rw [hrun]
       simp [Ren.addr, Ren.plus, h0]
     · have : (ρ.plus s.h.next (ρ.blk id) (ρ.cap id)).blk s.h.next = ρ.blk id := by simp [Ren.plus]
       rw [this, setRow_heap w _ _ _ _ _ hb]
     · rw [List.length_append, hsz2, hfull]; exact hroom
     · rw [conc_ext (ρ.plus_ext _ _ _) _ (hsup i u hu), ← hnew, List.getElem?_toArray]
       simp only [Nat.add_zero, List.append_assoc]
       have m1 : min (n0 * esz) arr.size = n0 * esz := by omega
       by_cases c1 : i < n0 * esz
       · rw [List.getElem?_append_left (by simp; omega), List.getElem?_take, if_pos c1]
         rw [List.getElem?_append_left (by omega)] at hu
         simpa using hval i u hu
       · rw [List.getElem?_append_right (by omega)] at hu
         rw [List.getElem?_append_right (by simp; omega)]
         simp only [List.length_take, Array.length_toList, m1]
         rw [hfull] at hu
         have hl2 : i - n0 * esz < new.length := (List.getElem?_eq_some_iff.1 hu).1
         rw [List.getElem?_append_left (by simpa using hl2), concL_get, hu]; rfl
   · obtain ⟨c, dr, arr2, hc, hsz2, hval2, hrun⟩ := run_append_grows (ty := o.type) ha (w := w) (n0 := n0) (n := n) (cap := ρ.cap id) (base := some (ρ.addr (id, 0))) (x := conc ρ (.slice q n c2)) (old := (concL ρ cs).toArray) (new := (concL ρ new).toArray)
      (lenOf_slice w) (fun dr => run_firstCells (drew_HRel dr hrel.2.2) h2) (fun dr => by have := run_firstCells (P := P) (drew_HRel dr hrel.2.2) (hold (.exact (ρ.cap id))); simpa [conc, Cap.conc] using this) (by simp [hfull]) (by simp [hs2]) hfit hle
     refine ⟨ρ.plus s.h.next w.heap.size c, { w with heap := w.heap.push (.cells arr2 e), drawn := dr }, ?_, ?_, Fr.dropAdd hw.2.1⟩
     · rw [hcst]
       simp only [builtin, List.map_toArray, List.map_cons, List.map_nil, ev_eval hrel hx, ev_eval hrel hy, conc, Cap.conc, Option.map_some, Sem.run_bind, Nat.sub_zero] at hrun ⊢
       rw [hrun]
       simp [Ren.addr, Ren.plus]
     · refine HRel.dropAdd hrel.2.2 hw.2.1 ⟨by simp [Ren.plus], e, arr2, by simp [Ren.plus], by simp [Ren.plus, hsz2], ?_, fun i u hu => ?_⟩
       · rw [List.length_append, hfull, hs2, hsz2, ← Nat.add_mul]; exact Nat.mul_le_mul_right _ hc
       · refine hval2 i _ ?_
         rw [conc_ext (ρ.plus_ext _ _ _) _ (hsup i u hu)]
         have := concL_get ρ (cs ++ new) i
         rw [hu, concL_append] at this
         simpa using this
theorem o_copy {q : Option (Nat × Nat)} {id off dl sln n cap : Nat} {c2 : Cap} {cs new cs' : List AV} (ht : P.underlying t = some (.slice e)) (hn : (P.info? e).map (·.size) = some esz)
 (ho : o.op = .call { callee := .builtin .copy, args := #[x, y], argTypes := #[t, t2] }) (hd : o.dst = some d) (hdn : d < s.n)
 (hx : ev s.slots x = some (.slice (some (id, off)) dl (.exact cap))) (hy : ev s.slots y = some (.slice q sln c2)) (hg : s.h.get id = some (.own cs)) (hmin : n = min sln dl) (h2 : slCells s.h n esz (.slice q sln c2) = some new) (h1 : new.all AV.one = true)
 (hin : off + n * esz ≤ cs.length) (hcs : splice cs off new = cs')
 (h : ∀ h', s.h.SetTo id (.own cs') h' → Q .normal ⟨(d, .int .i64 n) :: s.slots, h', s.n, s.defs⟩) : JO P r o s Q := by
 subst hcs
 have hs2 := slCells_length h2
 refine JO_eff (h' := s.h.set id (.own (splice cs off new))) hd hdn (by simp [Oper.noDefer, ho]) (fun hw => ⟨AH.set_wf hw.2.1 (hw.2.1 id _ hg).1 (splice_sup (hw.2.1 id _ hg).2 (slCells_sup hw.2.1 h2)), Nat.le_refl _, Nat.zero_le _⟩)
  (fun hw ρ a w hrel => ?_) (h _ (AH.setTo _ _ _))
 obtain ⟨h0, el, hb⟩ := hrel.2.2.1 id _ hg
 obtain ⟨cst, hcst⟩ := run_builtin (P := P) ho a.eval w
 have hst := run_storeCells_at (P := P) (ρ.blk id) off el (concL ρ new) 0 (concL ρ cs).toArray w hb (by simp; omega) (concL_one h1)
 generalize hnew : ((concL ρ cs).toArray.toList.take (off + 0) ++ concL ρ new ++ (concL ρ cs).toArray.toList.drop (off + 0 + (concL ρ new).length)).toArray = arr at hst
 have hfc := run_firstCells (P := P) hrel.2.2 h2
 refine ⟨ρ, w.setRow (ρ.blk id) arr, ?_, HRel.setBlk hrel.2.2 hg rfl (fun B hB => setRow_other w _ B _ hB) ⟨h0, el, ?_⟩, Fr.setBlk hg rfl ⟨rfl, rfl, rfl⟩ (by simp) (fun B hB => setRow_other w _ B _ hB)⟩
 · have hmin' : Nat.min sln dl = n := hmin.symm
   have ha : ρ.addr (id, off) = ⟨ρ.blk id, off, none⟩ := by simp [Ren.addr, h0]
   rw [hcst]
   simp only [builtin, List.map_toArray, List.map_cons, List.map_nil, ev_eval hrel hx, ev_eval hrel hy, conc, Cap.conc, Option.map_some, Sem.run_bind, Builtin.copy_, List.getElem?_toArray, List.getElem?_cons_zero, List.getElem?_cons_succ,
    Go.run_underlying ht, Result.andThen_ok, Builtin.lenOf, Sem.run_pure, hmin', run_sizeOf' hn, ha] at hfc ⊢
   rw [hfc]
   simp only [Result.andThen_ok, hst, goInt]
 · rw [setRow_heap w _ _ _ _ _ hb, ← hnew, conc_splice]
   simp
end rules
inductive AEnd where
 | ret (v : AV)
 | panic (v : AV)
def AEnd.conc (ρ : Ren) : AEnd → Ending
 | .ret v => .returned (J.conc ρ v)
 | .panic v => .panicked [{ v := J.conc ρ v, recovered := false }]
def AEnd.sup : AEnd → Nat
 | .ret v => v.sup
 | .panic v => v.sup
def Rend (ρ : Ren) (h : AH) (w : World) (e : AEnd) (h' : AH) (e' : Ending) (w' : World) : Prop :=
 ∃ ρ', e' = e.conc ρ' ∧ HRel ρ' h' w' ∧ Fr ρ h w ρ' h' w'
def JCall (P : Program) (f : FuncId) (args : List AV) (h : AH) (Q : AEnd → AH → Prop) : Prop :=
 h.wf → supL args ≤ h.next → ∃ e h', h'.wf ∧ e.sup ≤ h'.next ∧ h.next ≤ h'.next ∧ Q e h' ∧
  ∀ ρ w n, HRel ρ h w → CallsIn Fence.wide n P f (concL ρ args).toArray w (Rend ρ h w e h')
def NextIn (n : Nat) (P : Program) (R : Ending → World → Prop) : Result Next → Prop
 | .ok (.enter f args) w => CallsIn Fence.wide n P f args w R
 | .ok (.round l f tmps assign body) w => RoundIn Fence.wide n P l f tmps assign body w R
 | _ => False
def JApp (P : Program) (fv : AV) (args : List AV) (h : AH) (Q : AEnd → AH → Prop) : Prop :=
 h.wf → fv.sup ≤ h.next → supL args ≤ h.next → ∃ e h', h'.wf ∧ e.sup ≤ h'.next ∧ h.next ≤ h'.next ∧ Q e h' ∧
  ∀ ρ w n, HRel ρ h w → NextIn n P (Rend ρ h w e h') ((do let d ← Deferred.ofValue (conc ρ fv) (concL ρ args).toArray; invoke d.target d.args).run P w)
theorem JCall.mono {P : Program} {f : FuncId} {args : List AV} {h : AH} {Q Q' : AEnd → AH → Prop} (hc : JCall P f args h Q) (hq : ∀ e h', Q e h' → Q' e h') : JCall P f args h Q' :=
 fun a b => let ⟨e, h', c1, c2, c3, c4, c5⟩ := hc a b; ⟨e, h', c1, c2, c3, hq e h' c4, c5⟩
theorem JApp.mono {P : Program} {fv : AV} {args : List AV} {h : AH} {Q Q' : AEnd → AH → Prop} (hc : JApp P fv args h Q) (hq : ∀ e h', Q e h' → Q' e h') : JApp P fv args h Q' :=
 fun a b c => let ⟨e, h', c1, c2, c3, c4, c5⟩ := hc a b c; ⟨e, h', c1, c2, c3, hq e h' c4, c5⟩
theorem JApp_wf {P : Program} {fv : AV} {args : List AV} {h : AH} {Q : AEnd → AH → Prop} (hc : h.wf → JApp P fv args h Q) : JApp P fv args h Q := fun a => hc a a
theorem JCall_wf {P : Program} {f : FuncId} {args : List AV} {h : AH} {Q : AEnd → AH → Prop} (hc : h.wf → JCall P f args h Q) : JCall P f args h Q := fun a => hc a a
structure IsFn (P : Program) (f : FuncId) (fn : Func) (c : Code) : Prop where
 at_ : P.funcs[f]? = some fn
 body : fn.body = some c
 name : (fn.name == "runtime.NumGoroutine") = false
theorem run_callFunc {P : Program} {f : FuncId} {fn : Func} {c : Code} (hf : IsFn P f fn c) (args : Array Value) (w : World) : (callFunc f args).run P w = .ok (.enter f args) w := by
 have hn : ¬ fn.name = "runtime.NumGoroutine" := by simpa using hf.name
 simp [callFunc, hf.at_, hn, hf.body]
theorem JApp_fn {P : Program} {f : FuncId} {fn : Func} {c : Code} {first cap args : List AV} {h : AH} {Q : AEnd → AH → Prop} (hf : IsFn P f fn c) (hc : JCall P f (first ++ args ++ cap) h Q) : JApp P (.fn (.func f) first cap) args h Q := by
 intro hw h1 h2
 simp only [AV.sup] at h1
 obtain ⟨e, h', a1, a2, a3, a4, a5⟩ := hc hw (by rw [supL_append, supL_append]; omega)
 refine ⟨e, h', a1, a2, a3, a4, fun ρ w n hr => ?_⟩
 simp only [conc, Deferred.ofValue, Sem.run_bind, Sem.run_pure, Result.andThen_ok, invoke, run_callFunc hf, NextIn]
 have := a5 ρ w n hr
 simpa using this
section rules
variable {P : Program} {r : Option Nat} {s : St} {Q : AExit → St → Prop} {o : Oper} {d : Nat} {x y : Operand} {v u : AV}
def AEnd.exit : AEnd → AExit
 | .ret _ => .normal
 | .panic v => .panic v
def Behind (d : Nat) (s : St) (Q : AExit → St → Prop) : AEnd → AH → Prop
 | .ret v, h' => Q .normal ⟨(d, v) :: s.slots, h', s.n, s.defs⟩
 | .panic v, h' => Q (.panic v) ⟨s.slots, h', s.n, s.defs⟩
theorem Rel.heap {ρ ρ' : Ren} {a : Act} {w w' : World} {h' : AH} (hrel : Rel ρ s a w) (hw : s.wf) (hh : HRel ρ' h' w') (hf : Fr ρ s.h w ρ' h' w') : Rel ρ' ⟨s.slots, h', s.n, s.defs⟩ a w' :=
 ⟨slotsRel_ext hrel.1 hf.2.2.2.2.1 hw.1, by rw [hrel.2.1, concD_ext hf.2.2.2.2.1 _ hw.2.2], hh⟩
theorem JO_next {e : AEnd} {h' : AH} (hd : o.dst = some d) (hdn : d < s.n) (hdef : Oper.noDefer o = true) (hwf : s.wf → h'.wf ∧ e.sup ≤ h'.next ∧ s.h.next ≤ h'.next)
 (hrun : s.wf → ∀ ρ a w n, Rel ρ s a w → NextIn n P (Rend ρ s.h w e h') ((execOp a.eval o).run P w)) (h : Behind d s Q e h') : JO P r o s Q := by
 intro hw hr
 obtain ⟨h1, h2, h3⟩ := hwf hw
 have step : ∀ (e2 : AExit) (s2 : St), (∀ ρ a w ρ' w', Rel ρ s a w → HRel ρ' h' w' → Fr ρ s.h w ρ' h' w' → (match e.conc ρ' with | .returned v => Out ρ s w e2 s2 .normal (a.put o.dst v) w' | .panicked ch => Out ρ s w e2 s2 (.panic ch) a w' | .outgrown => False)) →
  ∀ ρ a w n, Rel ρ s a w → o.wpIn (fen ρ r) n P a w (Out ρ s w e2 s2 .normal) (Out ρ s w e2 s2) := by
  intro e2 s2 hs ρ a w n hrel
  refine ⟨fun _ _ => trivial, ?_⟩
  rw [semAt_of hdef]
  have hx := hrun hw ρ a w (n - 1) hrel
  revert hx
  generalize (execOp a.eval o).run P w = res
  intro hx
  have fin : ∀ e1 w1, Rend ρ s.h w e h' e1 w1 → (match e1, w1 with | .returned v, w'' => Out ρ s w e2 s2 .normal (a.put o.dst v) w'' | .panicked chain, w'' => Out ρ s w e2 s2 (.panic chain) a w'' | .outgrown, _ => LetsOut (Out ρ s w e2 s2)) := by
   rintro e1 w1 ⟨ρ', rfl, k1, k2⟩
   have := hs ρ a w ρ' w1 hrel k1 k2
   cases e <;> exact this
  cases res with
  | halt ht w' => exact hx.elim
  | ok nx w' =>
    cases nx <;> first
     | exact (hx : False).elim
     | exact ⟨fun h => by simp [fen, Fence.wide] at h, (show CallsIn (fen ρ r) _ _ _ _ _ _ from hx).mono fin⟩
     | exact ⟨fun h => by simp [fen, Fence.wide] at h, (show RoundIn (fen ρ r) _ _ _ _ _ _ _ _ _ from hx).mono fin⟩
 cases e with
 | ret v =>
   refine ⟨.normal, ⟨(d, v) :: s.slots, h', s.n, s.defs⟩, wf_put hw h1 h3 h2, Nat.zero_le _, h3, h, step _ _ ?_⟩
   intro ρ a w ρ' w' hrel k1 k2
   simp only [AEnd.conc, hd]
   exact ⟨ρ', rfl, hrel.put hw k1 k2 hdn, k2⟩
 | panic v =>
   refine ⟨.panic v, ⟨s.slots, h', s.n, s.defs⟩, wf_heap hw h1 h3, h2, h3, h, step _ _ ?_⟩
   intro ρ a w ρ' w' hrel k1 k2
   simp only [AEnd.conc]
   exact ⟨ρ', rfl, hrel.heap hw k1 k2, k2⟩
theorem o_callV {args : Array Operand} {ats : Array TypeId} {vs : List AV} {fv : AV} (ho : o.op = .call { callee := .value x, args, argTypes := ats }) (hd : o.dst = some d) (hdn : d < s.n)
 (hx : ev s.slots x = some fv) (ha : evL s.slots args.toList = some vs) (h : JApp P fv vs s.h (Behind d s Q)) : JO P r o s Q := by
 intro hw hr
 obtain ⟨e, h', a1, a2, a3, a4, a5⟩ := h hw.2.1 (ev_sup hw hx) (evL_sup hw ha)
 refine JO_next hd hdn (by simp [Oper.noDefer, ho]) (fun _ => ⟨a1, a2, a3⟩) (fun _ ρ a w n hrel => ?_) a4 hw hr
 have e1 : args.map a.eval = (concL ρ vs).toArray := by rw [← evL_eval hrel ha, ← Array.toList_map, Array.toArray_toList]
 have := a5 ρ w n hrel.2.2
 simp only [execOp, ho, resolve, e1, ev_eval hrel hx]
 exact this
theorem o_call {args : Array Operand} {ats : Array TypeId} {vs : List AV} {f : FuncId} {fn : Func} {c : Code} (hf : IsFn P f fn c) (ho : o.op = .call { callee := .value (.func f), args, argTypes := ats }) (hd : o.dst = some d) (hdn : d < s.n)
 (ha : evL s.slots args.toList = some vs) (h : JCall P f vs s.h (Behind d s Q)) : JO P r o s Q :=
 o_callV (fv := .fn (.func f) [] []) ho hd hdn rfl ha (JApp_fn hf (by simpa using h))
def resV (P : Program) (s : St) : ResultVar → Option AV
 | .tmp t => lk s.slots t
 | .cell a T => match lk s.slots a with
   | some (.ptr (some (id, off))) => match s.h.cells id, P.underlying T, P.info? T with
     | some cs, some D, some i => ldA (isAggD D) i.size cs off
     | _, _, _ => none
   | _ => none
def resL (P : Program) (s : St) : List ResultVar → Option (List AV)
 | [] => some []
 | x :: l => match resV P s x, resL P s l with
   | some v, some vs => some (v :: vs)
   | _, _ => none
def oneOf : List AV → AV
 | [v] => v
 | vs => .tuple vs
theorem resV_cases {x : ResultVar} {v : AV} (h : resV P s x = some v) : (∃ t, x = .tmp t ∧ lk s.slots t = some v) ∨
 ∃ ad T id off cs D n, x = .cell ad T ∧ lk s.slots ad = some (.ptr (some (id, off))) ∧ s.h.cells id = some cs ∧ P.underlying T = some D ∧ (P.info? T).map (·.size) = some n ∧ ldA (isAggD D) n cs off = some v := by
 cases x with
 | tmp t => exact .inl ⟨t, rfl, h⟩
 | cell ad T =>
   right
   unfold resV at h
   split at h
   · rename_i heq; cases heq
   · rename_i a T' heq
     cases heq
     split at h
     · rename_i id off h1
       split at h
       · rename_i cs D i h2 h3 h4
         exact ⟨ad, T, id, off, cs, D, i.size, rfl, h1, h2, h3, by rw [h4]; rfl, h⟩
       · simp at h
     · simp at h
theorem run_resV {ρ : Ren} {a : Act} {w : World} (hrel : Rel ρ s a w) {g : ResultVar → Sem Value} (g1 : ∀ t, g (.tmp t) = pure (a.tmps.getD t undef)) (g2 : ∀ ad T, g (.cell ad T) = (do loadVar T (← asAddr (a.tmps.getD ad undef))))
 {x : ResultVar} {v : AV} (h : resV P s x = some v) : (g x).run P w = .ok (conc ρ v) w := by
 rcases resV_cases h with ⟨t, rfl, h1⟩ | ⟨ad, T, id, off, cs, D, n, rfl, h1, h2, h3, h4, h5⟩
 · have := hrel.1.2 t v h1
   rw [g1]
   simp [Array.getD_eq_getD_getElem?, this]
 · have h6 := hrel.1.2 ad _ h1
   have h7 := run_ldA (P := P) h3 h4 hrel.2.2 h2 h5
   rw [g2]
   simp [Array.getD_eq_getD_getElem?, h6, conc, asAddr, h7]
theorem resV_sup (hw : s.wf) {x : ResultVar} {v : AV} (h : resV P s x = some v) : v.sup ≤ s.h.next := by
 rcases resV_cases h with ⟨t, rfl, h1⟩ | ⟨ad, T, id, off, cs, D, n, rfl, h1, h2, h3, h4, h5⟩
 · exact hw.1 t v h1
 · exact ldA_sup (cells_sup hw.2.1 h2).1 h5
theorem run_resL {ρ : Ren} {w : World} {g : ResultVar → Sem Value} (hg : ∀ x v, resV P s x = some v → (g x).run P w = .ok (conc ρ v) w) : ∀ {l : List ResultVar} {vs : List AV}, resL P s l = some vs → (l.mapM g).run P w = .ok (concL ρ vs) w
 | [], vs, h => by simp only [resL, Option.some.injEq] at h; subst h; rfl
 | x :: l, vs, h => by
   simp only [resL] at h
   cases h1 : resV P s x with
   | none => simp [h1] at h
   | some v =>
     cases h2 : resL P s l with
     | none => simp [h1, h2] at h
     | some us =>
       simp only [h1, h2, Option.some.injEq] at h; subst h
       rw [List.mapM_cons, Sem.run_bind, hg x v h1, Result.andThen_ok, Sem.run_bind, run_resL hg h2]
       rfl
theorem resL_sup (hw : s.wf) : ∀ {l : List ResultVar} {vs : List AV}, resL P s l = some vs → supL vs ≤ s.h.next
 | [], vs, h => by simp only [resL, Option.some.injEq] at h; subst h; exact Nat.zero_le _
 | x :: l, vs, h => by
   simp only [resL] at h
   cases h1 : resV P s x with
   | none => simp [h1] at h
   | some v =>
     cases h2 : resL P s l with
     | none => simp [h1, h2] at h
     | some us =>
       simp only [h1, h2, Option.some.injEq] at h; subst h
       have := resV_sup hw h1
       have := resL_sup hw h2
       simp only [supL]; omega
def resG (tmps : Array Value) : ResultVar → Sem Value
 | .tmp t => pure (tmps.getD t undef)
 | .cell a t => do loadVar t (← asAddr (tmps.getD a undef))
theorem run_results {fn : Func} {ρ : Ren} {a : Act} {w : World} (hrel : Rel ρ s a w) {vs : List AV} (h : resL P s fn.results.toList = some vs) : (results fn a.tmps).run P w = .ok (conc ρ (oneOf vs)) w := by
 have e : results fn a.tmps = (do let vs ← fn.results.mapM (resG a.tmps); pure (if h : vs.size = 1 then vs[0] else .tuple vs)) := rfl
 have h1 := run_resL (g := resG a.tmps) (fun x v hx => run_resV hrel (fun _ => rfl) (fun _ _ => rfl) hx) h
 rw [e, Sem.run_bind, ← Array.toArray_toList (xs := fn.results), List.mapM_toArray, Sem.run_map, h1]
 simp only [Result.andThen_ok, Sem.run_pure]
 match vs with
 | [] => simp [oneOf, conc, concL]
 | [v] => simp [oneOf, concL]
 | v :: u :: l => simp [oneOf, conc, concL]
def initS : Nat → List AV → List (Nat × AV)
 | _, [] => []
 | k, v :: l => (k, v) :: initS (k + 1) l
theorem lk_initS : ∀ {l : List AV} {k i : Nat} {v : AV}, lk (initS k l) i = some v → k ≤ i ∧ l[i - k]? = some v
 | [], k, i, v, h => by simp [initS, lk] at h
 | u :: l, k, i, v, h => by
   simp only [initS, lk] at h
   split at h
   · rename_i hb
     have : k = i := Nat.eq_of_beq_eq_true hb
     subst this
     simp at h; subst h
     exact ⟨Nat.le_refl _, by simp⟩
   · obtain ⟨h1, h2⟩ := lk_initS h
     refine ⟨by omega, ?_⟩
     have : i - k = (i - (k + 1)) + 1 := by omega
     rw [this]; simpa using h2
def dropMarks : List ADef → AH → AH
 | [], h => h
 | .mark id :: ds, h => dropMarks ds ⟨h.next, fun i => if i = id then none else h.get i⟩
 | .call _ _ :: ds, h => dropMarks ds h
def marksOk : List ADef → AH → Prop
 | [], _ => True
 | .mark id :: ds, h => h.get id = some .mark ∧ marksOk ds ⟨h.next, fun i => if i = id then none else h.get i⟩
 | .call _ _ :: _, _ => False
theorem dropMarks_wf : ∀ (ds : List ADef) (h : AH), h.wf → (dropMarks ds h).wf ∧ (dropMarks ds h).next = h.next
 | [], h, hw => ⟨hw, rfl⟩
 | .mark id :: ds, h, hw => by
   have := dropMarks_wf ds ⟨h.next, fun i => if i = id then none else h.get i⟩ (fun i c hg => by
    simp only at hg
    split at hg
    · simp at hg
    · exact hw i c hg)
   exact this
 | .call _ _ :: ds, h, hw => dropMarks_wf ds h hw
def Leaves (P : Program) (fn : Func) (Q : AEnd → AH → Prop) : AExit → St → Prop
 | .normal, s => marksOk s.defs s.h ∧ ∃ vs, resL P ⟨s.slots, dropMarks s.defs s.h, s.n, []⟩ fn.results.toList = some vs ∧ Q (.ret (oneOf vs)) (dropMarks s.defs s.h)
 | .ret, s => marksOk s.defs s.h ∧ ∃ vs, resL P ⟨s.slots, dropMarks s.defs s.h, s.n, []⟩ fn.results.toList = some vs ∧ Q (.ret (oneOf vs)) (dropMarks s.defs s.h)
 | .panic v, s => marksOk s.defs s.h ∧ Q (.panic v) (dropMarks s.defs s.h)
 | _, _ => False
theorem leave_marks {fn : Func} {R : Ending → World → Prop} {tmps : Array Value} {u : FrameMode} {ρ : Ren} (hu : u ≠ .run) : ∀ (ds : List ADef) (h : AH) (w : World), marksOk ds h → HRel ρ h w →
 (∀ w', HRel ρ (dropMarks ds h) w' → Fr ρ h w ρ (dropMarks ds h) w' → LeavesIn Fence.wide 0 P fn tmps R [] u w') → ∀ n, LeavesInM Fence.wide n P fn tmps R (ds.map (concD ρ)) u w
 | [], h, w, _, hr, k, n => by
   have := k w hr (.refl _ _ _)
   cases u <;> exact this
 | .call _ _ :: ds, h, w, hm, _, _, _ => hm.elim
 | .mark id :: ds, h, w, hm, hr, k, n => by
   obtain ⟨h1, h2⟩ := hm
   obtain ⟨h0, hb⟩ := hr.1 id _ h1
   have hlt : ρ.blk id < w.heap.size := (Array.getElem?_eq_some_iff.1 hb).1
   let w' : World := { w with heap := w.heap.setIfInBounds (ρ.blk id) (.deferred none) }
   let h' : AH := ⟨h.next, fun i => if i = id then none else h.get i⟩
   have hother : ∀ B, B ≠ ρ.blk id → w'.heap[B]? = w.heap[B]? := fun B hB => by
    simp only [w']; rw [Array.getElem?_setIfInBounds_ne (Ne.symm hB)]
   have hrel' : HRel ρ h' w' := by
    refine ⟨fun j cj hj => ?_, fun i j ci cj hne hi hj hro => ?_⟩
    · simp only [h'] at hj
      split at hj
      · simp at hj
      · rename_i e
        exact (hr.1 j cj hj).congr (hother _ (Ne.symm (hr.2 id j _ cj (Ne.symm e) h1 hj rfl)))
    · simp only [h'] at hi hj
      split at hi
      · simp at hi
      · split at hj
        · simp at hj
        · exact hr.2 i j ci cj hne hi hj hro
   have hfr : Fr ρ h w ρ h' w' := by
    refine ⟨⟨rfl, rfl, rfl⟩, by simp [w'], fun B _ hno => hother B fun e => hno id _ h1 rfl e.symm, fun j cj hj => .inr ?_, .refl _ _, Nat.le_refl _⟩
    simp only [h'] at hj
    split at hj
    · simp at hj
    · exact ⟨j, cj, hj, fun h => h, rfl⟩
   refine ⟨hu, .inl ⟨ρ.blk id, w', rfl, ?_, leave_marks hu ds h' w' h2 hrel' (fun w2 a b => k w2 a (hfr.trans b)) n⟩⟩
   simp [Instr.takeDeferred, getObj, setObj, Sem.run, hb, w']
theorem JCall_of_J {f : FuncId} {fn : Func} {c : Code} {args : List AV} {h : AH} {R : AEnd → AH → Prop} {N : Nat} {sl : List (Nat × AV)} (hf : IsFn P f fn c) (hN : fn.ntmps = N) (hargs : args.length ≤ N) (hsl : sl = initS 0 args)
 (hj : J P none c ⟨sl, h, N, []⟩ (Leaves P fn R)) : JCall P f args h R := by
 subst hsl
 intro hw hs
 obtain ⟨e, s', w1, w2, w3, hq, hx⟩ := hj ⟨fun k v hk => sup_get hs (lk_initS hk).2, hw, Nat.zero_le _⟩ (Nat.zero_le _)
 have hrel0 : ∀ ρ w, HRel ρ h w → Rel ρ ⟨initS 0 args, h, N, []⟩ { tmps := (concL ρ args).toArray ++ Array.replicate (fn.ntmps - (concL ρ args).toArray.size) undef, defers := [] } w := fun ρ w hr => by
  refine ⟨⟨by simp [hN]; omega, fun k v hk => ?_⟩, rfl, hr⟩
  obtain ⟨_, h2⟩ := lk_initS hk
  simp only [Nat.sub_zero] at h2
  have hk2 : k < args.length := (List.getElem?_eq_some_iff.1 h2).1
  rw [Array.getElem?_append_left (by simpa using hk2)]
  simp [concL_get, h2]
 have fin : ∀ (vs : List AV), marksOk s'.defs s'.h → resL P ⟨s'.slots, dropMarks s'.defs s'.h, s'.n, []⟩ fn.results.toList = some vs → ∀ ρ w n, HRel ρ h w → ∀ ρ' a' w', Rel ρ' s' a' w' → Fr ρ h w ρ' s'.h w' →
  LeavesInM Fence.wide n P fn a'.tmps (Rend ρ h w (.ret (oneOf vs)) (dropMarks s'.defs s'.h)) a'.defers .returning w' := by
  intro vs hm hres ρ w n hr ρ' a' w' hrel hfr
  rw [hrel.2.1]
  refine leave_marks (by simp) _ _ _ hm hrel.2.2 (fun w2 k1 k2 => ?_) n
  refine ⟨conc ρ' (oneOf vs), ?_, ρ', rfl, k1, hfr.trans k2⟩
  exact run_results (s := ⟨s'.slots, dropMarks s'.defs s'.h, s'.n, []⟩) (a := ⟨a'.tmps, []⟩) ⟨hrel.1, rfl, k1⟩ hres
 have wfd := dropMarks_wf s'.defs s'.h w1.2.1
 have supd : ∀ vs, resL P ⟨s'.slots, dropMarks s'.defs s'.h, s'.n, []⟩ fn.results.toList = some vs → (oneOf vs).sup ≤ (dropMarks s'.defs s'.h).next := fun vs hres => by
  have h1 := resL_sup (s := ⟨s'.slots, dropMarks s'.defs s'.h, s'.n, []⟩) ⟨fun k v hk => by rw [wfd.2]; exact w1.1 k v hk, wfd.1, Nat.zero_le _⟩ hres
  match vs, h1 with
  | [], _ => exact Nat.zero_le _
  | [v], h1 => simp only [supL] at h1; simp only [oneOf]; omega
  | v :: u :: l, h1 => exact h1
 cases e with
 | normal =>
   obtain ⟨hm, vs, hres, hR⟩ := hq
   refine ⟨.ret (oneOf vs), _, wfd.1, supd vs hres, by rw [wfd.2]; exact w3, hR, fun ρ w n hr => callsIn_of_wp_marks hf.at_ hf.body trivial (wpIn_mono (hx ρ _ w n (hrel0 ρ w hr)) ?_)⟩
   rintro e' a' w' ⟨ρ', rfl, k1, k2⟩
   exact fin vs hm hres ρ w n hr ρ' a' w' k1 k2
 | ret =>
   obtain ⟨hm, vs, hres, hR⟩ := hq
   refine ⟨.ret (oneOf vs), _, wfd.1, supd vs hres, by rw [wfd.2]; exact w3, hR, fun ρ w n hr => callsIn_of_wp_marks hf.at_ hf.body trivial (wpIn_mono (hx ρ _ w n (hrel0 ρ w hr)) ?_)⟩
   rintro e' a' w' ⟨ρ', rfl, k1, k2⟩
   exact fin vs hm hres ρ w n hr ρ' a' w' k1 k2
 | panic v =>
   obtain ⟨hm, hR⟩ := hq
   refine ⟨.panic v, _, wfd.1, by rw [wfd.2]; exact w2, by rw [wfd.2]; exact w3, hR, fun ρ w n hr => callsIn_of_wp_marks hf.at_ hf.body trivial (wpIn_mono (hx ρ _ w n (hrel0 ρ w hr)) ?_)⟩
   rintro e' a' w' ⟨ρ', rfl, k1, k2⟩
   show LeavesInM Fence.wide n P fn a'.tmps _ a'.defers (.panicking _) w'
   rw [k1.2.1]
   refine leave_marks (by simp) _ _ _ hm k1.2.2 (fun w2 m1 m2 => ?_) n
   exact ⟨ρ', rfl, m1, k2.trans m2⟩
 | exit id => exact hq.elim
 | goto l => exact hq.elim
end rules
def putArgs : List Nat → List AV → List (Nat × AV) → List (Nat × AV)
 | k :: ks, v :: vs, sl => putArgs ks vs ((k, v) :: sl)
 | _, _, sl => sl
theorem putArgs_rel {ρ : Ren} {n : Nat} : ∀ {ks : List Nat} {vs : List AV} {sl : List (Nat × AV)} {tmps : Array Value}, slotsRel ρ sl n tmps → (∀ k ∈ ks, k < n) → ks.length = vs.length →
 slotsRel ρ (putArgs ks vs sl) n ((ks.zip (concL ρ vs)).foldl (fun t (k, v) => t.setIfInBounds k v) tmps)
 | [], [], sl, tmps, h, _, _ => h
 | [], _ :: _, sl, tmps, h, _, hl => by simp at hl
 | _ :: _, [], sl, tmps, h, _, hl => by simp at hl
 | k :: ks, v :: vs, sl, tmps, h, hk, hl => by
   simp only [putArgs, concL, List.zip_cons_cons, List.foldl_cons]
   refine putArgs_rel ⟨by simp [h.1], fun j u hj => ?_⟩ (fun j hj => hk j (by simp [hj])) (by simpa using hl)
   simp only [lk] at hj
   split at hj
   · rename_i hb
     have e : k = j := Nat.eq_of_beq_eq_true hb
     simp at hj; subst hj; subst e
     have : k < tmps.size := by rw [h.1]; exact hk k (by simp)
     simp [this]
   · rename_i hb
     have hne : k ≠ j := fun e => hb (by subst e; exact Nat.beq_refl k)
     have := h.2 j u hj
     simp [hne, this]
theorem putArgs_sup {n : Nat} : ∀ {ks : List Nat} {vs : List AV} {sl : List (Nat × AV)}, (∀ k v, lk sl k = some v → v.sup ≤ n) → supL vs ≤ n → ∀ k v, lk (putArgs ks vs sl) k = some v → v.sup ≤ n
 | [], _, sl, h, _ => h
 | _ :: _, [], sl, h, _ => h
 | k :: ks, v :: vs, sl, h, hs => by
   simp only [supL] at hs
   refine putArgs_sup (ks := ks) (vs := vs) (sl := (k, v) :: sl) (fun j u hj => ?_) (by omega)
   simp only [lk] at hj
   split at hj
   · simp at hj; subst hj; omega
   · exact h j u hj
def RoundEnd (l : Nat) (R : AEnd → AH → Prop) (e : AExit) (s : St) : Prop :=
 ∃ pd ts nt ps assign body m, s.h.get l = some (.loop .busy pd ts nt ps assign body m) ∧
  match e with
  | .normal => ∀ h', s.h.SetTo l (.loop .ready none ts nt ps assign body m) h' → R (.ret (.bool true)) h'
  | .ret => ∀ h', s.h.SetTo l (.loop .done (some .ret) ts nt ps assign body m) h' → R (.ret (.bool false)) h'
  | .exit id => ∀ h', s.h.SetTo l (.loop .done (some (.exit id)) ts nt ps assign body m) h' → R (.ret (.bool false)) h'
  | .goto t => ∀ h', s.h.SetTo l (.loop .done (some (.goto t)) ts nt ps assign body m) h' → R (.ret (.bool false)) h'
  | .panic _ => False
section rules
variable {P : Program} {r : Option Nat} {s : St} {Q : AExit → St → Prop}
theorem HRel.putLoop {ρ : Ren} {h : AH} {w : World} {l : Nat} {st st' : LoopState} {pd pd' : Option Code} {ts : List (Nat × AV)} {nt : Nat} {ps : Array Tmp} {assign body : Code} {m : Nat}
 (hr : HRel ρ h w) (hg : h.get l = some (.loop st pd ts nt ps assign body m)) :
 ∃ fn tmps, slotsRel ρ ts nt tmps ∧ w.heap[ρ.blk l]? = some (.loop { state := st, pending := pd, fn, tmps, params := ps, assign, body, defers := ρ.blk m }) ∧
  HRel ρ (h.set l (.loop st' pd' ts nt ps assign body m)) (w.putObj (ρ.blk l) (.loop { state := st', pending := pd', fn, tmps, params := ps, assign, body, defers := ρ.blk m })) ∧
  Fr ρ h w ρ (h.set l (.loop st' pd' ts nt ps assign body m)) (w.putObj (ρ.blk l) (.loop { state := st', pending := pd', fn, tmps, params := ps, assign, body, defers := ρ.blk m })) := by
 obtain ⟨h0, fn, tmps, hsr, hb⟩ := hr.1 l _ hg
 have hlt := (Array.getElem?_eq_some_iff.1 hb).1
 exact ⟨fn, tmps, hsr, hb, HRel.setBlk hr hg rfl (fun B hB => World.putObj_heap_other hB) ⟨h0, fn, tmps, hsr, World.putObj_heap_same hlt⟩,
  Fr.setBlk hg rfl ⟨rfl, rfl, rfl⟩ (by simp) (fun B hB => World.putObj_heap_other hB)⟩
theorem JApp_yield {l m nt : Nat} {ts : List (Nat × AV)} {ps : Array Tmp} {assign body : Code} {pd : Option Code} {args : List AV} {h : AH} {R : AEnd → AH → Prop}
 (hg : h.get l = some (.loop .ready pd ts nt ps assign body m)) (hlen : ps.size = args.length) (hps : ∀ k ∈ ps.toList, k < nt)
 (hA : J P (some l) assign ⟨putArgs ps.toList args ts, h, nt, []⟩ (Then (fun s1 => ∃ pd1 ts1 nt1 ps1 as1 bd1 m1, s1.h.get l = some (.loop .ready pd1 ts1 nt1 ps1 as1 bd1 m1) ∧
   ∀ h2, s1.h.SetTo l (.loop .busy pd1 ts1 nt1 ps1 as1 bd1 m1) h2 → J P (some l) body ⟨s1.slots, h2, s1.n, s1.defs⟩ (RoundEnd l R)) (fun _ _ => False))) :
 JApp P (.yield l) args h R := by
 intro hw h1 h2
 have hsupts : ∀ k v, lk ts k = some v → v.sup ≤ h.next := fun k v hk => by
  have := (hw l _ hg).2
  simp only [Chunk.sup] at this
  exact Nat.le_trans (supT_lk (Nat.le_refl _) hk) (by omega)
 obtain ⟨e1, s1, w1, _, n1, hq1, hx1⟩ := hA ⟨putArgs_sup hsupts h2, hw, Nat.zero_le _⟩ (by have := (hw l _ hg).1; simp only [rsup]; omega)
 cases e1 with
 | exit id => exact hq1.elim
 | goto t => exact hq1.elim
 | ret => exact hq1.elim
 | panic v => exact hq1.elim
 | normal =>
 obtain ⟨pd1, ts1, nt1, ps1, as1, bd1, m1, hg1, hB⟩ := hq1
 have hl1 := (w1.2.1 l _ hg1)
 have hset : (s1.h.set l (.loop .busy pd1 ts1 nt1 ps1 as1 bd1 m1)).wf := AH.set_wf w1.2.1 hl1.1 (by have := hl1.2; simpa only [Chunk.sup] using this)
 obtain ⟨e2, s2, w2, _, n2, hq2, hx2⟩ := hB _ (AH.setTo _ _ _) ⟨w1.1, hset, w1.2.2⟩ (by have := hl1.1; simp only [rsup, AH.set]; omega)
 obtain ⟨pd2, ts2, nt2, ps2, as2, bd2, m2, hg2, hfin⟩ := hq2
 have hl2 := (w2.2.1 l _ hg2)
 have hlv : l < h.next := (hw l _ hg).1
 have run : ∀ (jump : Option Code), (∀ ρ' : Ren, (e2.conc ρ' = .normal ∧ jump = none ∨ e2.conc ρ' = .ret ∧ jump = some .ret ∨ (∃ id, e2.conc ρ' = .exit id ∧ jump = some (.exit id)) ∨ (∃ t, e2.conc ρ' = .goto t ∧ jump = some (.goto t)))) →
  ∀ ρ w n, HRel ρ h w → NextIn n P (Rend ρ h w (.ret (.bool jump.isNone)) (s2.h.set l (.loop (if jump.isNone then .ready else .done) jump ts2 nt2 ps2 as2 bd2 m2)))
   ((do let d ← Deferred.ofValue (conc ρ (.yield l)) (concL ρ args).toArray; invoke d.target d.args).run P w) := by
  intro jump hj ρ w n hr
  obtain ⟨fn, tmps, hsr, hb, _, _⟩ := hr.putLoop (st' := .ready) (pd' := pd) hg
  have hy := run_yield (P := P) (args := (concL ρ args).toArray) hb (by simp [hlen])
  simp only [conc, Deferred.ofValue, Sem.run_bind, Sem.run_pure, Result.andThen_ok, invoke, List.append_toArray, List.nil_append]
  rw [hy]
  simp only [NextIn]
  have hz : (ps.zip (concL ρ args).toArray).foldl (fun tmps (t, a) => tmps.setIfInBounds t a) tmps = (ps.toList.zip (concL ρ args)).foldl (fun t (k, v) => t.setIfInBounds k v) tmps := by
   rw [← Array.toArray_toList (xs := ps), List.zip_toArray, List.foldl_toArray]
  have hrel0 : Rel ρ ⟨putArgs ps.toList args ts, h, nt, []⟩ { tmps := (ps.toList.zip (concL ρ args)).foldl (fun t (k, v) => t.setIfInBounds k v) tmps, defers := [] } w :=
   ⟨putArgs_rel hsr hps (by simpa using hlen), rfl, hr⟩
  refine roundIn_of_wpIn (F := Fence.wide) trivial ?_
  rw [hz]
  refine wpIn_mono (hx1 ρ _ w n hrel0) ?_
  rintro e' a1 wa ⟨ρ1, rfl, k1, k2⟩
  obtain ⟨fn1, tmps1, hsr1, hb1, hr1, hf1⟩ := k1.2.2.putLoop (st' := .busy) (pd' := pd1) hg1
  have eb : ρ1.blk l = ρ.blk l := (k2.2.2.2.2.1 l hlv).1
  refine ⟨_, run_beginRound (by rw [← eb]; exact hb1) rfl, ?_⟩
  have efen : Fence.wide.inRound (ρ.blk l) = fen ρ1 (some l) := by simp only [fen, Option.map_some, eb]; rfl
  rw [efen, ← eb]
  refine wpIn_mono (hx2 ρ1 a1 _ n ⟨k1.1, k1.2.1, hr1⟩) ?_
  rintro e3 a3 w3 ⟨ρ2, rfl, q1, q2⟩
  obtain ⟨fn2, tmps2, hsr2, hb2, hr2, hf2⟩ := q1.2.2.putLoop (st' := if jump.isNone then .ready else .done) (pd' := jump) hg2
  have hlv1 : l < (s1.h.set l (.loop .busy pd1 ts1 nt1 ps1 as1 bd1 m1)).next := hl1.1
  have eb2 : ρ2.blk l = ρ1.blk l := (q2.2.2.2.2.1 l hlv1).1
  have hend := run_endRound (P := P) jump (l := ρ1.blk l) (by rw [← eb2]; exact hb2)
  have hfr : Fr ρ h w ρ2 (s2.h.set l (.loop (if jump.isNone then .ready else .done) jump ts2 nt2 ps2 as2 bd2 m2)) (w3.putObj (ρ2.blk l) (.loop { state := if jump.isNone then .ready else .done, pending := jump, fn := fn2, tmps := tmps2, params := ps2, assign := as2, body := bd2, defers := ρ2.blk m2 })) :=
   (k2.trans hf1).trans (q2.trans hf2)
  have hR : Rend ρ h w (.ret (.bool jump.isNone)) (s2.h.set l (.loop (if jump.isNone then .ready else .done) jump ts2 nt2 ps2 as2 bd2 m2)) (.returned (.bool jump.isNone))
   (w3.putObj (ρ1.blk l) (.loop { state := if jump.isNone then .ready else .done, pending := jump, fn := fn2, tmps := tmps2, params := ps2, assign := as2, body := bd2, defers := ρ2.blk m2 })) := by
   rw [← eb2]; exact ⟨ρ2, rfl, hr2, hfr⟩
  rcases hj ρ2 with ⟨c1, c2⟩ | ⟨c1, c2⟩ | ⟨id, c1, c2⟩ | ⟨t, c1, c2⟩ <;> rw [c1] <;> subst c2 <;> exact ⟨_, _, hend, hR⟩
 have wfS : ∀ st jump, (s2.h.set l (.loop st jump ts2 nt2 ps2 as2 bd2 m2)).wf := fun st jump => AH.set_wf w2.2.1 hl2.1 (by have := hl2.2; simpa only [Chunk.sup] using this)
 have nxt : ∀ st jump, h.next ≤ (s2.h.set l (.loop st jump ts2 nt2 ps2 as2 bd2 m2)).next := fun _ _ => by
  have a1 : h.next ≤ s1.h.next := n1
  have a2 : s1.h.next ≤ s2.h.next := n2
  exact Nat.le_trans a1 a2
 cases e2 with
 | normal => exact ⟨.ret (.bool true), _, wfS _ _, Nat.zero_le _, nxt _ _, hfin _ (AH.setTo _ _ _), fun ρ w n hr => run none (fun _ => .inl ⟨rfl, rfl⟩) ρ w n hr⟩
 | ret => exact ⟨.ret (.bool false), _, wfS _ _, Nat.zero_le _, nxt _ _, hfin _ (AH.setTo _ _ _), fun ρ w n hr => run (some .ret) (fun _ => .inr (.inl ⟨rfl, rfl⟩)) ρ w n hr⟩
 | exit id => exact ⟨.ret (.bool false), _, wfS _ _, Nat.zero_le _, nxt _ _, hfin _ (AH.setTo _ _ _), fun ρ w n hr => run (some (.exit id)) (fun _ => .inr (.inr (.inl ⟨id, rfl, rfl⟩))) ρ w n hr⟩
 | goto t => exact ⟨.ret (.bool false), _, wfS _ _, Nat.zero_le _, nxt _ _, hfin _ (AH.setTo _ _ _), fun ρ w n hr => run (some (.goto t)) (fun _ => .inr (.inr (.inr ⟨t, rfl, rfl⟩))) ρ w n hr⟩
 | panic v => exact hfin.elim
def AH.drop (h : AH) (id : Nat) : AH := ⟨h.next, fun i => if i = id then none else h.get i⟩
theorem AH.drop_wf {h : AH} {id : Nat} (hw : h.wf) : (h.drop id).wf := fun i c hg => by
 simp only [AH.drop] at hg
 split at hg
 · simp at hg
 · exact hw i c hg
def RangeEnd (P : Program) (r : Option Nat) (l : Nat) (marks : List ADef) (s : St) (Q : AExit → St → Prop) : AEnd → AH → Prop
 | .ret _, h2 => ∃ st pd ts nt ps assign body m, h2.get l = some (.loop st pd ts nt ps assign body m) ∧ st ≠ .busy ∧
    (match pd with
     | none => Q .normal ⟨s.slots, h2.drop l, s.n, marks ++ s.defs⟩
     | some c => J P r c ⟨s.slots, h2.drop l, s.n, marks ++ s.defs⟩ Q)
 | .panic v, h2 => Q (.panic v) ⟨s.slots, h2, s.n, marks ++ s.defs⟩
theorem HRel.drop {ρ : Ren} {h : AH} {w w' : World} {id : Nat} {c : Chunk} (hr : HRel ρ h w) (hg : h.get id = some c) (hc : c.isRo = false)
 (hb : ∀ B, B ≠ ρ.blk id → w'.heap[B]? = w.heap[B]?) : HRel ρ (h.drop id) w' := by
 refine ⟨fun j cj hj => ?_, fun i j ci cj hne hi hj hro => ?_⟩
 · simp only [AH.drop] at hj
   split at hj
   · simp at hj
   · rename_i e
     exact (hr.1 j cj hj).congr (hb _ (Ne.symm (hr.2 id j c cj (Ne.symm e) hg hj hc)))
 · simp only [AH.drop] at hi hj
   split at hi
   · simp at hi
   · split at hj
     · simp at hj
     · exact hr.2 i j ci cj hne hi hj hro
theorem Fr.drop {ρ : Ren} {h : AH} {w w' : World} {id : Nat} {c : Chunk} (hg : h.get id = some c) (hc : c.isRo = false) (ho : w'.os = w.os ∧ w'.tape = w.tape ∧ w'.output = w.output)
 (hsz : w.heap.size ≤ w'.heap.size) (hb : ∀ B, B ≠ ρ.blk id → w'.heap[B]? = w.heap[B]?) : Fr ρ h w ρ (h.drop id) w' := by
 refine ⟨ho, hsz, fun B _ hno => hb B fun e => hno id c hg hc e.symm, fun j cj hj => .inr ?_, .refl _ _, Nat.le_refl _⟩
 simp only [AH.drop] at hj
 split at hj
 · simp at hj
 · exact ⟨j, cj, hj, fun h => h, rfl⟩
theorem J_range {c : Code} {f : Operand} {ps : Array Tmp} {assign body : Code} {fid : FuncId} {fn : Func} {cb : Code} {first cap : List AV} {l : Nat} {h1 : AH} {marks : List ADef}
 (hc : c = .rangeFunc f ps assign body) (hx : ev s.slots f = some (.fn (.func fid) first cap)) (hf : IsFn P fid fn cb)
 (hw1 : s.wf → h1.wf ∧ s.h.next ≤ h1.next ∧ l < h1.next ∧ supD marks ≤ h1.next)
 (hent : s.wf → ∀ ρ a w fn, Rel ρ s a w → ∃ ρ1 w1, (Instr.enterLoop fn a.tmps ps assign body (r.map ρ.blk)).run P w = .ok (ρ1.blk l, marks.map (concD ρ1)) w1 ∧ HRel ρ1 h1 w1 ∧ Fr ρ s.h w ρ1 h1 w1)
 (hcall : JCall P fid (first ++ [.yield l] ++ cap) h1 (RangeEnd P r l marks s Q)) : J P r c s Q := by
 subst hc
 intro hw hr
 obtain ⟨a1, a2, a3, a4⟩ := hw1 hw
 have hs0 : max (supL first) (supL cap) ≤ s.h.next := ev_sup hw hx
 obtain ⟨e, h2, b1, b2, b3, hq, hrun⟩ := hcall a1 (by rw [supL_append, supL_append]; simp only [supL, AV.sup]; omega)
 have conc_part : ∀ ρ a w n (Q' : Exit → Act → World → Prop), Rel ρ s a w →
  (∀ ρ1 w1 ρ2 w2, HRel ρ1 h1 w1 → Fr ρ s.h w ρ1 h1 w1 → HRel ρ2 h2 w2 → Fr ρ1 h1 w1 ρ2 h2 w2 → rangePost (fen ρ r) n P (ρ1.blk l) Q' { a with defers := marks.map (concD ρ1) ++ a.defers } (e.conc ρ2) w2) →
  (Code.rangeFunc f ps assign body).wpIn (fen ρ r) n P Q' a w := by
  intro ρ a w n Q' hrel hk
  refine wpIn_rangeFunc fun fn' _ => ?_
  obtain ⟨ρ1, w1, e1, e2, e3⟩ := hent hw ρ a w fn' hrel
  have hfv : a.eval f = .func (.func fid) (concL ρ1 first).toArray (concL ρ1 cap).toArray := by
   rw [ev_eval hrel hx]
   simp only [conc, concL_ext e3.2.2.2.2.1 first (by omega), concL_ext e3.2.2.2.2.1 cap (by omega)]
  refine ⟨ρ1.blk l, marks.map (concD ρ1), w1, { target := .fn (.func fid) (concL ρ1 cap).toArray, args := (concL ρ1 first).toArray ++ #[.func (.yield (ρ1.blk l)) #[] #[]] }, w1, fid, (concL ρ1 (first ++ [.yield l] ++ cap)).toArray, w1, e1, ?_, fun _ _ => trivial, ?_, fun h => by simp [fen, Fence.wide] at h, ?_⟩
  · have e0 : (#[Operand.const (.func (.yield (ρ1.blk l)) #[] #[])].map a.eval : Array Value) = #[.func (.yield (ρ1.blk l)) #[] #[]] := by simp [Act.eval]
    simp only [resolve, e0, hfv, Deferred.ofValue, Sem.run_pure]
  · simp only [invoke]
    rw [run_callFunc hf]
    simp [conc, concL_eq]
  · refine (show CallsIn (fen ρ r) _ _ _ _ _ _ from hrun ρ1 w1 (n - 1) e2).mono ?_
    rintro e' w2 ⟨ρ2, rfl, k1, k2⟩
    exact hk ρ1 w1 ρ2 w2 e2 e3 k1 k2
 cases e with
 | panic v =>
   refine ⟨.panic v, ⟨s.slots, h2, s.n, marks ++ s.defs⟩, ⟨fun k u hk => Nat.le_trans (hw.1 k u hk) (Nat.le_trans a2 b3), b1, ?_⟩, b2, by show s.h.next ≤ h2.next; omega, hq, fun ρ a w n hrel => conc_part ρ a w n _ hrel ?_⟩
   · have : ∀ l1 l2 : List ADef, supD (l1 ++ l2) = max (supD l1) (supD l2) := by
      intro l1 l2; induction l1 with
      | nil => simp [supD]
      | cons x xs ih => simp only [List.cons_append, supD, ih]; omega
     show supD (marks ++ s.defs) ≤ h2.next
     have h3 : supD s.defs ≤ s.h.next := hw.2.2
     rw [this]; omega
   · intro ρ1 w1 ρ2 w2 k1 k2 k3 k4
     show Out ρ s w (.panic v) ⟨s.slots, h2, s.n, marks ++ s.defs⟩ _ _ _
     refine ⟨ρ2, rfl, ⟨slotsRel_ext (slotsRel_ext hrel.1 k2.2.2.2.2.1 hw.1) k4.2.2.2.2.1 (fun k u hk => Nat.le_trans (hw.1 k u hk) a2), ?_, k3⟩, k2.trans k4⟩
     show marks.map (concD ρ1) ++ a.defers = (marks ++ s.defs).map (concD ρ2)
     rw [List.map_append, concD_ext k4.2.2.2.2.1 marks a4, hrel.2.1, concD_ext k4.2.2.2.2.1 s.defs (Nat.le_trans hw.2.2 a2), concD_ext k2.2.2.2.2.1 s.defs hw.2.2]
 | ret v =>
   obtain ⟨st, pd, ts, nt, ps2, as2, bd2, m2, hg2, hst, hq⟩ := hq
   have supDa : ∀ l1 l2 : List ADef, supD (l1 ++ l2) = max (supD l1) (supD l2) := by
    intro l1 l2; induction l1 with
    | nil => simp [supD]
    | cons x xs ih => simp only [List.cons_append, supD, ih]; omega
   have hwS : St.wf ⟨s.slots, h2.drop l, s.n, marks ++ s.defs⟩ := by
    refine ⟨fun k u hk => Nat.le_trans (hw.1 k u hk) (show s.h.next ≤ h2.next by omega), AH.drop_wf b1, ?_⟩
    show supD (marks ++ s.defs) ≤ h2.next
    have h3 : supD s.defs ≤ s.h.next := hw.2.2
    rw [supDa]; omega
   have hrelS : ∀ ρ a w ρ1 w1 ρ2 w2, Rel ρ s a w → HRel ρ1 h1 w1 → Fr ρ s.h w ρ1 h1 w1 → HRel ρ2 h2 w2 → Fr ρ1 h1 w1 ρ2 h2 w2 →
    ∃ w4, (Instr.endLoop (ρ1.blk l)).run P w2 = .ok pd w4 ∧ Rel ρ2 ⟨s.slots, h2.drop l, s.n, marks ++ s.defs⟩ { a with defers := marks.map (concD ρ1) ++ a.defers } w4 ∧ Fr ρ s.h w ρ2 (h2.drop l) w4 := by
    intro ρ a w ρ1 w1 ρ2 w2 hrel k1 k2 k3 k4
    obtain ⟨fn2, tmps2, hsr2, hb2, _, _⟩ := k3.putLoop (st' := .exhausted) (pd' := pd) hg2
    have eb : ρ2.blk l = ρ1.blk l := (k4.2.2.2.2.1 l a3).1
    refine ⟨_, by rw [← eb]; exact run_endLoop hb2 hst, ⟨slotsRel_ext (slotsRel_ext hrel.1 k2.2.2.2.2.1 hw.1) k4.2.2.2.2.1 (fun k u hk => Nat.le_trans (hw.1 k u hk) a2), ?_, HRel.drop k3 hg2 rfl (fun B hB => World.putObj_heap_other hB)⟩,
     (k2.trans k4).trans (Fr.drop hg2 rfl ⟨rfl, rfl, rfl⟩ (by simp) (fun B hB => World.putObj_heap_other hB))⟩
    show marks.map (concD ρ1) ++ a.defers = (marks ++ s.defs).map (concD ρ2)
    rw [List.map_append, concD_ext k4.2.2.2.2.1 marks a4, hrel.2.1, concD_ext k4.2.2.2.2.1 s.defs (Nat.le_trans hw.2.2 a2), concD_ext k2.2.2.2.2.1 s.defs hw.2.2]
   cases pd with
   | none =>
     refine ⟨.normal, _, hwS, Nat.zero_le _, by show s.h.next ≤ h2.next; omega, hq, fun ρ a w n hrel => conc_part ρ a w n _ hrel fun ρ1 w1 ρ2 w2 k1 k2 k3 k4 => ?_⟩
     obtain ⟨w4, m1, m2, m3⟩ := hrelS ρ a w ρ1 w1 ρ2 w2 hrel k1 k2 k3 k4
     exact ⟨none, w4, m1, ρ2, rfl, m2, m3⟩
   | some c2 =>
     obtain ⟨e3, s3, c1, c2', c3, hq3, hx3⟩ := hq hwS (by have : s.h.next ≤ (h2.drop l).next := (show s.h.next ≤ h2.next by omega); show rsup r ≤ (h2.drop l).next; omega)
     refine ⟨e3, s3, c1, c2', by have : h2.next ≤ s3.h.next := c3; omega, hq3, fun ρ a w n hrel => conc_part ρ a w n _ hrel fun ρ1 w1 ρ2 w2 k1 k2 k3 k4 => ?_⟩
     obtain ⟨w4, m1, m2, m3⟩ := hrelS ρ a w ρ1 w1 ρ2 w2 hrel k1 k2 k3 k4
     refine ⟨some c2, w4, m1, ?_⟩
     have hf2 := fen_ext m3.2.2.2.2.1 (r := r) hr
     show c2.wpIn (fen ρ r) n P _ _ w4
     rw [← hf2]
     refine wpIn_mono (hx3 ρ2 _ w4 n m2) ?_
     rintro e4 a4' w5 ⟨ρ3, q1, q2, q3⟩
     exact ⟨ρ3, q1, q2, m3.trans q3⟩
structure Entered (h : AH) (m l : Nat) (c : Chunk) (h1 : AH) : Prop where
 isM : m = h.next
 isL : l = m + 1
 next : h1.next = m + 2
 mark : h1.get m = some .mark
 loop : h1.get l = some c
 old : ∀ j, j < m → h1.get j = h.get j
theorem AH.add_get {h : AH} {c : Chunk} {j : Nat} (hj : j < h.next) : (h.add c).get j = h.get j := by
 simp only [AH.add]; rw [if_neg (by omega)]
theorem SubL.sup {sl' sl : List (Nat × AV)} {n : Nat} (h : SubL sl' sl) (hw : ∀ k v, J.lk sl k = some v → v.sup ≤ n) : supT sl' ≤ n := by
 induction sl' with
 | nil => exact Nat.zero_le _
 | cons kv r ih =>
   obtain ⟨h1, h2⟩ := h
   have := hw _ _ h1
   have := ih h2
   simp only [supT]; omega
theorem J_range_outerX {c : Code} {f : Operand} {ps : Array Tmp} {assign body : Code} {fid : FuncId} {fn : Func} {cb : Code} {first cap : List AV} {sl' : List (Nat × AV)}
 (hc : c = .rangeFunc f ps assign body) (hx : ev s.slots f = some (.fn (.func fid) first cap)) (hf : IsFn P fid fn cb) (hsub : SubL sl' s.slots)
 (hcall : JCall P fid (first ++ [.yield (s.h.next + 1)] ++ cap) ((s.h.add .mark).add (.loop .ready none sl' s.n ps assign body s.h.next)) (RangeEnd P none (s.h.next + 1) [.mark s.h.next] s Q)) : J P none c s Q := by
 let h0 : AH := s.h.add .mark
 let h1 : AH := h0.add (.loop .ready none sl' s.n ps assign body s.h.next)
 have n0 : h0.next = s.h.next + 1 := rfl
 have g0 : h0.get s.h.next = some .mark := by simp [h0, AH.add]
 have hwf1 : s.wf → h0.wf := fun hw => AH.add_wf hw.2.1 (by simp [Chunk.sup])
 refine J_range (marks := [.mark s.h.next]) hc hx hf (fun hw => ⟨AH.add_wf (hwf1 hw) ?_, by show s.h.next ≤ s.h.next + 1 + 1; omega, by show s.h.next + 1 < s.h.next + 1 + 1; omega, by simp only [supD, ADef.sup]; show max (s.h.next + 1) 0 ≤ s.h.next + 1 + 1; omega⟩) (fun hw ρ a w fn' hrel => ?_) hcall
 · have := hsub.sup hw.1
   simp only [Chunk.sup]; omega
 · let ρ0 := ρ.plus s.h.next w.heap.size 0
   let w0 : World := { w with heap := w.heap.push (.deferred (some [])) }
   have e0 : ρ0.blk s.h.next = w.heap.size := by simp [ρ0, Ren.plus]
   have hr0 : HRel ρ0 h0 w0 := HRel.addBlk (dr := w.drawn) hrel.2.2 hw.2.1 ⟨by simp [Ren.plus], by simp [Ren.plus]⟩
   have hf0 : Fr ρ s.h w ρ0 h0 w0 := Fr.addBlk (dr := w.drawn) hw.2.1
   have sz0 : w0.heap.size = w.heap.size + 1 := by simp [w0]
   let ob : Obj := .loop { state := .ready, pending := none, fn := fn', tmps := a.tmps, params := ps, assign, body, defers := w.heap.size }
   have hsr : slotsRel ρ sl' s.n a.tmps := ⟨hrel.1.1, fun k v hk => hrel.1.2 k v (hsub.lk hk)⟩
   have hsr' : slotsRel (ρ0.plus h0.next w0.heap.size 0) sl' s.n a.tmps := slotsRel_ext (slotsRel_ext hsr hf0.2.2.2.2.1 (fun k v hk => hw.1 k v (hsub.lk hk))) (ρ0.plus_ext _ _ _) (fun k v hk => Nat.le_trans (hw.1 k v (hsub.lk hk)) (by omega))
   have hbm : (ρ0.plus h0.next w0.heap.size 0).blk s.h.next = w.heap.size := by
    have := (ρ0.plus_ext h0.next w0.heap.size 0 s.h.next (by omega)).1
    rw [this, e0]
   have hr1 : HRel (ρ0.plus h0.next w0.heap.size 0) h1 { w0 with heap := w0.heap.push ob } := HRel.addBlk (dr := w0.drawn) hr0 (hwf1 hw) ⟨by simp [Ren.plus], fn', a.tmps, hsr', by rw [hbm]; simp [Ren.plus, ob]⟩
   have hf1 : Fr ρ0 h0 w0 (ρ0.plus h0.next w0.heap.size 0) h1 { w0 with heap := w0.heap.push ob } := Fr.addBlk (dr := w0.drawn) (hwf1 hw)
   refine ⟨_, _, ?_, hr1, hf0.trans hf1⟩
   have := run_enterLoop_outer (P := P) (w := w) fn' a.tmps ps assign body
   rw [show (Option.map ρ.blk none : Option Nat) = none from rfl, this]
   have e1 : (ρ0.plus h0.next w0.heap.size 0).blk (s.h.next + 1) = w.heap.size + 1 := by simp [Ren.plus, n0, sz0]
   simp only [List.map_cons, List.map_nil, concD, hbm, e1]
   rfl
theorem J_range_outer {c : Code} {f : Operand} {ps : Array Tmp} {assign body : Code} {fid : FuncId} {fn : Func} {cb : Code} {first cap : List AV} {sl' : List (Nat × AV)}
 (hc : c = .rangeFunc f ps assign body) (hx : ev s.slots f = some (.fn (.func fid) first cap)) (hf : IsFn P fid fn cb) (hsub : SubL sl' s.slots)
 (hcall : ∀ m l h1, Entered s.h m l (.loop .ready none sl' s.n ps assign body m) h1 → JCall P fid (first ++ [.yield l] ++ cap) h1 (RangeEnd P none l [.mark m] s Q)) : J P none c s Q := by
 let h0 : AH := s.h.add .mark
 let h1 : AH := h0.add (.loop .ready none sl' s.n ps assign body s.h.next)
 have g0 : h0.get s.h.next = some .mark := by simp [h0, AH.add]
 have n0 : h0.next = s.h.next + 1 := rfl
 have hent1 : Entered s.h s.h.next (s.h.next + 1) (.loop .ready none sl' s.n ps assign body s.h.next) h1 :=
  ⟨rfl, rfl, rfl, (AH.add_get (by omega)).trans g0, (AH.addTo h0 _).new, fun j hj => (AH.add_get (by omega)).trans (AH.add_get hj)⟩
 exact J_range_outerX hc hx hf hsub (hcall _ _ h1 hent1)
theorem J_range_inner {c : Code} {f : Operand} {ps : Array Tmp} {assign body : Code} {fid : FuncId} {fn : Func} {cb : Code} {first cap : List AV} {sl' : List (Nat × AV)} {l0 m0 nt0 : Nat} {st0 : LoopState} {pd0 : Option Code} {ts0 : List (Nat × AV)} {ps0 : Array Tmp} {as0 bd0 : Code}
 (hc : c = .rangeFunc f ps assign body) (hx : ev s.slots f = some (.fn (.func fid) first cap)) (hf : IsFn P fid fn cb) (hsub : SubL sl' s.slots)
 (hg : s.h.get l0 = some (.loop st0 pd0 ts0 nt0 ps0 as0 bd0 m0))
 (hcall : ∀ l h1, s.h.AddTo l (.loop .ready none sl' s.n ps assign body m0) h1 → JCall P fid (first ++ [.yield l] ++ cap) h1 (RangeEnd P (some l0) l [] s Q)) : J P (some l0) c s Q := by
 let h1 : AH := s.h.add (.loop .ready none sl' s.n ps assign body m0)
 have hm0 : s.wf → m0 + 1 ≤ s.h.next := fun hw => by have := (hw.2.1 l0 _ hg).2; simp only [Chunk.sup] at this; omega
 refine J_range (marks := []) hc hx hf (fun hw => ⟨AH.add_wf hw.2.1 ?_, by show s.h.next ≤ s.h.next + 1; omega, by show s.h.next < s.h.next + 1; omega, Nat.zero_le _⟩) (fun hw ρ a w fn' hrel => ?_) (hcall _ h1 (AH.addTo _ _))
 · have := hsub.sup hw.1
   have := hm0 hw
   simp only [Chunk.sup]; omega
 · obtain ⟨_, fn0, tmps0, _, hb0⟩ := hrel.2.2.1 l0 _ hg
   let ob : Obj := .loop { state := .ready, pending := none, fn := fn', tmps := a.tmps, params := ps, assign, body, defers := ρ.blk m0 }
   have hsr : slotsRel ρ sl' s.n a.tmps := ⟨hrel.1.1, fun k v hk => hrel.1.2 k v (hsub.lk hk)⟩
   have hsr' : slotsRel (ρ.plus s.h.next w.heap.size 0) sl' s.n a.tmps := slotsRel_ext hsr (ρ.plus_ext _ _ _) (fun k v hk => hw.1 k v (hsub.lk hk))
   have hbm : (ρ.plus s.h.next w.heap.size 0).blk m0 = ρ.blk m0 := (ρ.plus_ext s.h.next w.heap.size 0 m0 (hm0 hw)).1
   have hr1 : HRel (ρ.plus s.h.next w.heap.size 0) h1 { w with heap := w.heap.push ob } := HRel.addBlk (dr := w.drawn) hrel.2.2 hw.2.1 ⟨by simp [Ren.plus], fn', a.tmps, hsr', by rw [hbm]; simp [Ren.plus, ob]⟩
   refine ⟨_, _, ?_, hr1, Fr.addBlk (dr := w.drawn) hw.2.1⟩
   have e1 : (ρ.plus s.h.next w.heap.size 0).blk s.h.next = w.heap.size := by simp [Ren.plus]
   rw [e1]
   simp [Instr.enterLoop, run_getLoop hb0, ob]
end rules
def befGo : List Oper → List (List Nat) → List (List Nat)
 | [], acc => acc
 | o :: r, acc => befGo r (acc ++ [o.after.toList.flatMap fun e => if Region.binds .any e then e.on :: acc.getD e.on [] else []])
def befs (ops : Array Oper) : List (List Nat) := befGo ops.toList []
def isL (listed : Array Bool) (i : Nat) : Prop := listed.getD i false = true
def downC (ops : Array Oper) (listed : Array Bool) : Prop := ∀ i o, ops[i]? = some o → isL listed i → ∀ e ∈ o.after, Region.binds .any e = true → isL listed e.on
theorem befGo_len : ∀ (r : List Oper) (acc : List (List Nat)), (befGo r acc).length = acc.length + r.length
 | [], acc => by simp [befGo]
 | o :: r, acc => by simp only [befGo]; rw [befGo_len r]; simp; omega
theorem befGo_spec {ops : Array Oper} {listed : Array Bool} (hd : downC ops listed) : ∀ (r : List Oper) (acc : List (List Nat)) (pre : List Oper), pre.length = acc.length → ops.toList = pre ++ r →
 (∀ i o, i < acc.length → ops[i]? = some o → (∀ e ∈ o.after, Region.binds .any e = true → isL listed e.on) → ∀ b ∈ acc.getD i [], isL listed b) →
 ∀ i o, ops[i]? = some o → (∀ e ∈ o.after, Region.binds .any e = true → isL listed e.on) → ∀ b ∈ (befGo r acc).getD i [], isL listed b
 | [], acc, pre, hp, hr, ha, i, o, ho, hafter => by
   simp only [befGo]
   by_cases hi : i < acc.length
   · exact ha i o hi ho hafter
   · intro b hb
     rw [List.getD_eq_getElem?_getD, List.getElem?_eq_none (by omega)] at hb
     simp at hb
 | o' :: r, acc, pre, hp, hr, ha, i, o, ho, hafter => by
   simp only [befGo]
   have hsz : ops.size = pre.length + (r.length + 1) := by rw [← Array.length_toList, hr]; simp
   have hget : ops[acc.length]? = some o' := by
    rw [← Array.getElem?_toList, hr, ← hp, List.getElem?_append_right (Nat.le_refl _)]
    simp
   refine befGo_spec hd r _ (pre ++ [o']) (by simp [hp]) (by rw [hr]; simp) ?_ i o ho hafter
   · intro q oq hq hoq haq b hb
     by_cases hlt : q < acc.length
     · rw [List.getD_eq_getElem?_getD, List.getElem?_append_left hlt, ← List.getD_eq_getElem?_getD] at hb
       exact ha q oq hlt hoq haq b hb
     · have hq' : q = acc.length := by simp at hq; omega
       subst hq'
       rw [hget] at hoq
       cases hoq
       rw [List.getD_eq_getElem?_getD, List.getElem?_append_right (by omega)] at hb
       simp only [Nat.sub_self, List.getElem?_cons_zero, Option.getD_some, List.mem_flatMap] at hb
       obtain ⟨e, he, hb⟩ := hb
       split at hb
       · rename_i hbind
         have hl := haq e (by simpa using he) hbind
         rcases List.mem_cons.1 hb with rfl | hb
         · exact hl
         · by_cases hon : e.on < acc.length
           · have : e.on < ops.size := by omega
             exact ha e.on ops[e.on] hon (Array.getElem?_eq_getElem this) (hd e.on _ (Array.getElem?_eq_getElem this) hl) b hb
           · rw [List.getD_eq_getElem?_getD, List.getElem?_eq_none (by omega)] at hb
             simp at hb
       · simp at hb
theorem befs_spec {ops : Array Oper} {listed : Array Bool} (hd : downC ops listed) {i : Nat} {o : Oper} (ho : ops[i]? = some o) (ha : ∀ e ∈ o.after, Region.binds .any e = true → isL listed e.on) :
 ∀ b ∈ (befs ops).getD i [], isL listed b :=
 befGo_spec hd ops.toList [] [] rfl (by simp) (fun _ _ h => by simp at h) i o ho ha
abbrev Src := List (Nat × Option Nat)
def dstIs (ops : Array Oper) (i t : Nat) : Bool := match (ops[i]?).bind (·.dst) with | some d => Nat.beq d t | none => false
def srcOk (ops : Array Oper) (bf : List (List Nat)) (j : Nat) (s : Nat × Option Nat) : Bool :=
 match s.2 with
 | some i => (bf.getD j []).contains i && dstIs ops i s.1
 | none => (List.range ops.size).all fun i => !dstIs ops i s.1 || Nat.beq i j || (bf.getD i []).contains j
def finOk (ops : Array Oper) (s : Nat × Option Nat) : Bool :=
 match s.2 with
 | some i => dstIs ops i s.1
 | none => (List.range ops.size).all fun i => !dstIs ops i s.1
def chainOk (bf : List (List Nat)) : List Nat → Bool
 | a :: b :: r => (bf.getD b []).contains a && chainOk bf (b :: r)
 | _ => true
def planOk (ops : Array Oper) (effs : List Nat) (srcs : List Src) (fin : Src) : Bool :=
 let bf := befs ops
 (List.range ops.size).all (fun i => (List.range ops.size).all fun j => Nat.beq i j || (match (ops[i]?).bind (·.dst) with | some d => !dstIs ops j d | none => true)) &&
 (List.range ops.size).all (fun j => (srcs.getD j []).all (srcOk ops bf j)) &&
 fin.all (finOk ops) &&
 chainOk bf effs && effs.all (· < ops.size) &&
 (List.range ops.size).all (fun j => match ops[j]? with | some o => o.after.all (fun e => !Region.binds .any e || e.on < j) | none => true)
def fillS (sl0 : List (Nat × AV)) (vals : List AV) : Src → List (Nat × AV)
 | [] => []
 | (t, some i) :: r => match vals[i]? with | some v => (t, v) :: fillS sl0 vals r | none => fillS sl0 vals r
 | (t, none) :: r => match lk sl0 t with | some v => (t, v) :: fillS sl0 vals r | none => fillS sl0 vals r
def wantedA (ops : Array Oper) (o : Oper) (sl : List (Nat × AV)) : Option Bool :=
 match o.guard with
 | none => some true
 | some (j, want) => match (ops[j]?).bind (·.dst) with
   | some d => match lk sl d with
     | some (.bool b) => some (b == want)
     | _ => none
   | none => none
def OpDo (P : Program) (r : Option Nat) (ops : Array Oper) (o : Oper) (s : St) (h' : AH) (v : AV) : Prop :=
 (wantedA ops o s.slots = some true ∧ JO P r o s (fun e s' => e = .normal ∧ s'.h = h' ∧ s'.defs = s.defs ∧ s'.n = s.n ∧ ∀ d, o.dst = some d → d < s.n ∧ lk s'.slots d = some v)) ∨
 (wantedA ops o s.slots = some false ∧ h' = s.h ∧ v = .tuple [] ∧ ∀ d, o.dst = some d → d < s.n)
def loOf (bf : List (List Nat)) (j : Nat) : Nat → List Nat → Nat
 | _, [] => 0
 | q, e :: r => if Nat.beq e j then q else if (bf.getD j []).contains e then max (q + 1) (loOf bf j (q + 1) r) else loOf bf j (q + 1) r
def hiOf (bf : List (List Nat)) (j : Nat) : Nat → List Nat → Nat
 | q, [] => q
 | q, e :: r => if Nat.beq e j then q else if (bf.getD e []).contains j then q else hiOf bf j (q + 1) r
def AllDo (P : Program) (r : Option Nat) (ops : Array Oper) (sl0 : List (Nat × AV)) (vals : List AV) (srcs : List Src) (effs : List Nat) (hs : Nat → AH) (n : Nat) (ds : List ADef) (bf : List (List Nat)) : List Oper → Nat → Prop
 | [], _ => True
 | o :: rest, j => (∀ k, loOf bf j 0 effs ≤ k → k ≤ hiOf bf j 0 effs → ∃ v, vals[j]? = some v ∧ OpDo P r ops o ⟨fillS sl0 vals (srcs.getD j []), hs k, n, ds⟩ (if effs.contains j then hs (k + 1) else hs k) v) ∧
    AllDo P r ops sl0 vals srcs effs hs n ds bf rest (j + 1)
theorem AllDo.get {P : Program} {r : Option Nat} {ops : Array Oper} {sl0 : List (Nat × AV)} {vals : List AV} {srcs : List Src} {effs : List Nat} {hs : Nat → AH} {n : Nat} {ds : List ADef} {bf : List (List Nat)} :
 ∀ {l : List Oper} {i : Nat}, AllDo P r ops sl0 vals srcs effs hs n ds bf l i → ∀ {j : Nat} {o : Oper}, l[j]? = some o → ∀ k, loOf bf (i + j) 0 effs ≤ k → k ≤ hiOf bf (i + j) 0 effs →
  ∃ v, vals[i + j]? = some v ∧ OpDo P r ops o ⟨fillS sl0 vals (srcs.getD (i + j) []), hs k, n, ds⟩ (if effs.contains (i + j) then hs (k + 1) else hs k) v
 | [], _, _, j, o, ho, k, _, _ => by simp at ho
 | x :: l, i, h, 0, o, ho, k, h1, h2 => by
   simp only [List.getElem?_cons_zero, Option.some.injEq] at ho; subst ho
   exact h.1 k h1 h2
 | x :: l, i, h, j + 1, o, ho, k, h1, h2 => by
   simp only [List.getElem?_cons_succ] at ho
   have e : i + (j + 1) = (i + 1) + j := by omega
   rw [e] at h1 h2 ⊢
   exact AllDo.get h.2 ho k h1 h2
section main
variable {P : Program} {r : Option Nat} {ops : Array Oper} {sl0 : List (Nat × AV)} {vals : List AV} {srcs : List Src} {effs : List Nat} {fin : Src} {hs : Nat → AH} {n : Nat} {ds : List ADef}
structure Inv (ops : Array Oper) (sl0 : List (Nat × AV)) (vals : List AV) (effs : List Nat) (listed : Array Bool) (sl : List (Nat × AV)) (k : Nat) : Prop where
 size : listed.size = ops.size
 down : downC ops listed
 stage : ∀ q e, effs[q]? = some e → (isL listed e ↔ q < k)
 kle : k ≤ effs.length
 done : ∀ i t v, isL listed i → dstIs ops i t = true → vals[i]? = some v → lk sl t = some v
 rest : ∀ t v, lk sl0 t = some v → (∀ i, dstIs ops i t = true → ¬ isL listed i) → lk sl t = some v
theorem isL_set {listed : Array Bool} {i j : Nat} (hj : j < listed.size) : isL (listed.setIfInBounds j true) i ↔ i = j ∨ isL listed i := by
 unfold isL
 by_cases e : i = j
 · subst e; simp [hj]
 · simp [Array.getElem?_setIfInBounds_ne (Ne.symm e), e]
theorem mem_bf_lo {bf : List (List Nat)} {listed : Array Bool} {j : Nat} (hj : ¬ isL listed j) : ∀ (effs : List Nat) (q0 k : Nat), (∀ q e, effs[q]? = some e → (isL listed e ↔ q0 + q < k)) → q0 ≤ k → (∀ b ∈ bf.getD j [], isL listed b) →
 (∀ e ∈ effs, (∀ b ∈ bf.getD e [], isL listed e → isL listed b)) → k ≤ q0 + effs.length → (∀ q, effs[q]? = some j → q0 + q = k) → loOf bf j q0 effs ≤ k ∧ k ≤ hiOf bf j q0 effs
 | [], q0, k, _, h0, _, _, hk, _ => by simp [loOf, hiOf] at *; omega
 | e :: r, q0, k, hst, h0, hb, hdown, hk, hself => by
   simp only [loOf, hiOf]
   have h1 := hst 0 e (by simp)
   by_cases c1 : Nat.beq e j = true
   · rw [if_pos c1, if_pos c1]
     have ej : e = j := Nat.eq_of_beq_eq_true c1
     have := hself 0 (by simp [ej])
     omega
   · rw [if_neg c1, if_neg c1]
     by_cases hle : q0 + 1 ≤ k
     · have ih := mem_bf_lo hj r (q0 + 1) k (fun q e' he => by have := hst (q + 1) e' (by simpa using he); rw [this]; omega) hle hb (fun e' he' => hdown e' (by simp [he'])) (by simp at hk; omega)
        (fun q hq => by have := hself (q + 1) (by simpa using hq); omega)
       have he : isL listed e := h1.2 (by omega)
       have c2 : ¬ (bf.getD e []).contains j = true := fun hc => hj (hdown e (by simp) j (by simpa using hc) he)
       rw [if_neg c2]
       split
       · exact ⟨Nat.max_le.2 ⟨hle, ih.1⟩, ih.2⟩
       · exact ih
     · have hkq : k = q0 := by omega
       have hne : ¬ isL listed e := fun h => by have := h1.1 h; omega
       have c3 : ¬ (bf.getD j []).contains e = true := fun hc => hne (hb e (by simpa using hc))
       rw [if_neg c3]
       have lo0 : ∀ (r : List Nat) (q1 : Nat), (∀ e' ∈ r, ¬ isL listed e') → (∀ q, r[q]? = some j → q1 + q = k) → loOf bf j q1 r ≤ k := by
        intro r
        induction r with
        | nil => intro q1 _ _; simp [loOf]
        | cons e' r ih =>
          intro q1 hn hs
          simp only [loOf]
          split
          · rename_i hb'
            have := hs 0 (by simp [Nat.eq_of_beq_eq_true hb'])
            omega
          · have c4 : ¬ (bf.getD j []).contains e' = true := fun hc => hn e' (by simp) (hb e' (by simpa using hc))
            rw [if_neg c4]
            exact ih (q1 + 1) (fun e'' h => hn e'' (by simp [h])) (fun q hq => by have := hs (q + 1) (by simpa using hq); omega)
       have hiq : ∀ (r : List Nat) (q1 : Nat), k ≤ q1 → k ≤ hiOf bf j q1 r := by
        intro r
        induction r with
        | nil => intro q1 h; exact h
        | cons e' r ih =>
          intro q1 h
          simp only [hiOf]
          split
          · exact h
          · split
            · exact h
            · exact ih _ (by omega)
       refine ⟨lo0 r _ (fun e' he' hl => ?_) (fun q hq => by have := hself (q + 1) (by simpa using hq); omega), ?_⟩
       · obtain ⟨q, hq⟩ := List.getElem?_of_mem he'
         have := (hst (q + 1) e' (by simpa using hq)).1 hl
         omega
       · split
         · omega
         · exact hiq r _ (by omega)
theorem dstIs_iff {i t : Nat} : dstIs ops i t = true ↔ ∃ o, ops[i]? = some o ∧ o.dst = some t := by
 unfold dstIs
 cases h : ops[i]? with
 | none => simp
 | some o =>
   cases hd : o.dst with
   | none => simp [hd]
   | some d =>
     simp only [Option.bind_some, hd, Option.some.injEq, exists_eq_left']
     exact ⟨fun hb => Nat.eq_of_beq_eq_true hb, fun e => by subst e; exact Nat.beq_refl d⟩
theorem fillS_sub {sl : List (Nat × AV)} : ∀ {src : Src}, (∀ t i v, (t, some i) ∈ src → vals[i]? = some v → lk sl t = some v) → (∀ t v, (t, none) ∈ src → lk sl0 t = some v → lk sl t = some v) → SubL (fillS sl0 vals src) sl
 | [], _, _ => trivial
 | (t, some i) :: src, h1, h2 => by
   simp only [fillS]
   have ih := fillS_sub (src := src) (fun t i v h => h1 t i v (by simp [h])) (fun t v h => h2 t v (by simp [h]))
   cases hv : vals[i]? with
   | none => exact ih
   | some v => exact ⟨h1 t i v (by simp) hv, ih⟩
 | (t, none) :: src, h1, h2 => by
   simp only [fillS]
   have ih := fillS_sub (src := src) (fun t i v h => h1 t i v (by simp [h])) (fun t v h => h2 t v (by simp [h]))
   cases hv : lk sl0 t with
   | none => exact ih
   | some v => exact ⟨h2 t v (by simp) hv, ih⟩
structure PlanOk (ops : Array Oper) (effs : List Nat) (srcs : List Src) (fin : Src) : Prop where
 uniq : ∀ i j t, i ≠ j → dstIs ops i t = true → dstIs ops j t = false
 src : ∀ j, j < ops.size → ∀ s ∈ srcs.getD j [], srcOk ops (befs ops) j s = true
 fin : ∀ s ∈ fin, finOk ops s = true
 chain : chainOk (befs ops) effs = true
 effLt : ∀ e ∈ effs, e < ops.size
 back : ∀ j o, ops[j]? = some o → ∀ e ∈ o.after, Region.binds .any e = true → e.on < j
theorem planOk_spec (h : planOk ops effs srcs fin = true) : PlanOk ops effs srcs fin := by
 simp only [planOk, Bool.and_eq_true] at h
 obtain ⟨⟨⟨⟨⟨h1, h2⟩, h3⟩, h4⟩, h5⟩, h6⟩ := h
 refine ⟨fun i j t hne hi => ?_, fun j hj s hs => ?_, fun s hs => List.all_eq_true.1 h3 s hs, h4, fun e he => by simpa using List.all_eq_true.1 h5 e he, fun j o ho e he hb => ?_⟩
 · obtain ⟨o, ho, hd⟩ := dstIs_iff.1 hi
   have hilt : i < ops.size := (Array.getElem?_eq_some_iff.1 ho).1
   by_cases hjlt : j < ops.size
   · have := List.all_eq_true.1 (List.all_eq_true.1 h1 i (by simpa using hilt)) j (by simpa using hjlt)
     simp only [ho, Option.bind_some, hd, Bool.or_eq_true, Bool.not_eq_true'] at this
     rcases this with h | h
     · exact absurd (Nat.eq_of_beq_eq_true h) hne
     · exact h
   · cases hjd : dstIs ops j t with
     | false => rfl
     | true => obtain ⟨o', ho', _⟩ := dstIs_iff.1 hjd; exact absurd (Array.getElem?_eq_some_iff.1 ho').1 hjlt
 · exact List.all_eq_true.1 (List.all_eq_true.1 h2 j (by simpa using hj)) s hs
 · have hjlt : j < ops.size := (Array.getElem?_eq_some_iff.1 ho).1
   have := List.all_eq_true.1 h6 j (by simpa using hjlt)
   simp only [ho, Array.all_eq_true_iff_forall_mem, Bool.or_eq_true, Bool.not_eq_true', decide_eq_true_eq] at this
   rcases this e he with h | h
   · rw [hb] at h; simp at h
   · exact h
theorem draw_step (hp : PlanOk ops effs srcs fin) (hall : AllDo P r ops sl0 vals srcs effs hs n ds (befs ops) ops.toList 0) {listed : Array Bool} {sl : List (Nat × AV)} {k : Nat} (hi : Inv ops sl0 vals effs listed sl k)
 (hwf : St.wf ⟨sl, hs k, n, ds⟩) (hr : rsup r ≤ (hs k).next) {j : Nat} (hj : j ∈ Region.ready .any ops listed) :
 ∃ sl' k', Inv ops sl0 vals effs (listed.setIfInBounds j true) sl' k' ∧ St.wf ⟨sl', hs k', n, ds⟩ ∧ (hs k).next ≤ (hs k').next ∧
  ∀ ρ a w nn, Rel ρ ⟨sl, hs k, n, ds⟩ a w → ∀ (K : Act → World → Prop) (Q : Exit → Act → World → Prop), (∀ ρ' a' w', Rel ρ' ⟨sl', hs k', n, ds⟩ a' w' → Fr ρ (hs k) w ρ' (hs k') w' → K a' w') → wpOpIn (fen ρ r) nn P ops Q j K a w := by
 obtain ⟨hun, o, ho, hafter⟩ := mem_ready.1 hj
 have hjlt : j < ops.size := (Array.getElem?_eq_some_iff.1 ho).1
 have hjl : j < listed.size := by rw [hi.size]; exact hjlt
 have hnl : ¬ isL listed j := by
  unfold isL
  rw [Array.getD_eq_getD_getElem?, Array.getElem?_eq_getElem hjl] at hun ⊢
  simp at hun ⊢; exact hun
 have hbef := befs_spec hi.down ho (fun e he hb => hafter e he hb)
 have hbefL : ∀ i oi, ops[i]? = some oi → isL listed i → ∀ b ∈ (befs ops).getD i [], isL listed b := fun i oi hoi hl => befs_spec hi.down hoi (hi.down i oi hoi hl)
 have hchain : ∀ (l : List Nat) (q0 : Nat), chainOk (befs ops) l = true → (∀ q e, l[q]? = some e → effs[q0 + q]? = some e) → ∀ q, l[q]? = some j → (q = 0 ∨ ∃ e, l[q - 1]? = some e ∧ isL listed e) := by
  intro l
  induction l with
  | nil => intro q0 _ _ q hq; simp at hq
  | cons x l ih =>
    intro q0 hc he q hq
    cases q with
    | zero => exact .inl rfl
    | succ q =>
      right
      cases l with
      | nil => simp at hq
      | cons y l =>
        simp only [chainOk, Bool.and_eq_true] at hc
        cases q with
        | zero =>
          simp at hq; subst hq
          exact ⟨x, by simp, hbef x (by simpa using hc.1)⟩
        | succ q =>
          have := ih (q0 + 1) hc.2 (fun q' e' h' => by have := he (q' + 1) e' (by simpa using h'); rwa [show q0 + 1 + q' = q0 + (q' + 1) by omega]) (q + 1) (by simpa using hq)
          rcases this with h | ⟨e, h1, h2⟩
          · omega
          · exact ⟨e, by simpa using h1, h2⟩
 have hself : ∀ q, effs[q]? = some j → 0 + q = k := by
  intro q hq
  have h1 := (hi.stage q j hq)
  have h2 : ¬ q < k := fun h => hnl (h1.2 h)
  rcases hchain effs 0 hp.chain (fun q e h => by simpa using h) q hq with h | ⟨e, h3, h4⟩
  · have := hi.kle
    subst h; omega
  · have := (hi.stage (q - 1) e h3).1 h4
    omega
 have hst := mem_bf_lo (bf := befs ops) hnl effs 0 k (fun q e he => by simpa using hi.stage q e he) (Nat.zero_le _) hbef
  (fun e he b hb hl => hbefL e (ops[e]'(hp.effLt e he)) (Array.getElem?_eq_getElem (hp.effLt e he)) hl b hb) (by simpa using hi.kle) hself
 obtain ⟨v, hv, hdo⟩ := hall.get (j := j) (o := o) (by simpa using ho) k (by simpa using hst.1) (by simpa using hst.2)
 simp only [Nat.zero_add] at hv hdo
 have hsub : SubL (fillS sl0 vals (srcs.getD j [])) sl := by
  refine fillS_sub (fun t i u hm hu => ?_) (fun t u hm hu => ?_)
  · have := hp.src j hjlt _ hm
    simp only [srcOk, Bool.and_eq_true] at this
    exact hi.done i t u (hbef i (by simpa using this.1)) this.2 hu
  · have := hp.src j hjlt _ hm
    simp only [srcOk] at this
    refine hi.rest t u hu fun i hdi hl => ?_
    have hil : i < ops.size := by obtain ⟨oi, hoi, _⟩ := dstIs_iff.1 hdi; exact (Array.getElem?_eq_some_iff.1 hoi).1
    have h2 := List.all_eq_true.1 this i (by simpa using hil)
    simp only [hdi, Bool.not_true, Bool.false_or, Bool.or_eq_true] at h2
    rcases h2 with h2 | h2
    · exact hnl (Nat.eq_of_beq_eq_true h2 ▸ hl)
    · exact hnl (hbefL i ops[i] (Array.getElem?_eq_getElem hil) hl j (by simpa using h2))
 have hwfN : St.wf ⟨fillS sl0 vals (srcs.getD j []), hs k, n, ds⟩ := ⟨fun t u h => hwf.1 t u (hsub.lk h), hwf.2.1, hwf.2.2⟩
 have hrelN : ∀ {ρ a w}, Rel ρ ⟨sl, hs k, n, ds⟩ a w → Rel ρ ⟨fillS sl0 vals (srcs.getD j []), hs k, n, ds⟩ a w := fun h => ⟨⟨h.1.1, fun t u hk => h.1.2 t u (hsub.lk hk)⟩, h.2.1, h.2.2⟩
 have hwantG : ∀ need, SubL need sl → ∀ b, wantedA ops o need = some b → ∀ ρ a w, Rel ρ ⟨sl, hs k, n, ds⟩ a w → Region.wanted o (yielded ops a.tmps) = b := by
  intro need hneed b hb ρ a w hrel
  unfold wantedA at hb
  unfold Region.wanted
  cases hg : o.guard with
  | none => simp [hg] at hb; subst hb; rfl
  | some g =>
    obtain ⟨g, want⟩ := g
    simp only [hg] at hb ⊢
    cases hd : (ops[g]?).bind (·.dst) with
    | none => simp [hd] at hb
    | some d =>
      simp only [hd] at hb
      cases hl : lk need d with
      | none => simp [hl] at hb
      | some x =>
        cases x <;> simp [hl] at hb
        rename_i bb
        have h1 := hrel.1.2 d _ (hneed.lk hl)
        subst hb
        have h2 : yielded ops a.tmps g = some bb := by simp [yielded, hd, h1, conc]
        rw [h2]
        cases bb <;> cases want <;> rfl
 have hwantA := hwantG _ hsub
 let k' := if effs.contains j then k + 1 else k
 have hk' : (if effs.contains j then hs (k + 1) else hs k) = hs k' := by simp only [k']; split <;> rfl
 rw [hk'] at hdo
 let sl' : List (Nat × AV) := match o.dst with | some d => (d, v) :: sl | none => sl
 have hinv : Inv ops sl0 vals effs (listed.setIfInBounds j true) sl' k' := by
  have hdj : ∀ t, dstIs ops j t = true ↔ o.dst = some t := fun t => by
   rw [dstIs_iff]; exact ⟨fun ⟨o', h1, h2⟩ => by rw [ho] at h1; cases h1; exact h2, fun h => ⟨o, ho, h⟩⟩
  refine ⟨by simp [hi.size], fun i oi hoi hl e he hb => ?_, fun q e he => ?_, ?_, fun i t u hl hd hu => ?_, fun t u hu hno => ?_⟩
  · rw [isL_set hjl] at hl ⊢
    rcases hl with rfl | hl
    · rw [ho] at hoi; cases hoi; exact .inr (hafter e he hb)
    · exact .inr (hi.down i oi hoi hl e he hb)
  · rw [isL_set hjl]
    have h1 := hi.stage q e he
    simp only [k']
    by_cases hje : effs.contains j = true
    · rw [if_pos hje]
      constructor
      · rintro (rfl | h)
        · have := hself q he; omega
        · have := h1.1 h; omega
      · intro hq
        by_cases hqk : q < k
        · exact .inr (h1.2 hqk)
        · have hqe : q = k := by omega
          subst hqe
          obtain ⟨q', hq'⟩ := List.getElem?_of_mem (show j ∈ effs by simpa using hje)
          have := hself q' hq'
          have e2 : q' = q := by omega
          subst e2
          rw [hq'] at he; cases he; exact .inl rfl
    · rw [if_neg hje]
      constructor
      · rintro (rfl | h)
        · exact absurd (by simpa using List.mem_of_getElem? he) hje
        · exact h1.1 h
      · intro hq; exact .inr (h1.2 hq)
  · simp only [k']
    split
    · rename_i hje
      obtain ⟨q', hq'⟩ := List.getElem?_of_mem (show j ∈ effs by simpa using hje)
      have := hself q' hq'
      have := (List.getElem?_eq_some_iff.1 hq').1
      omega
    · exact hi.kle
  · rw [isL_set hjl] at hl
    rcases hl with rfl | hl
    · have h1 := (hdj t).1 hd
      simp only [sl', h1, lk, Nat.beq_refl, if_true]
      rw [hv] at hu; exact hu
    · have hne : i ≠ j := fun e => hnl (e ▸ hl)
      have h1 := hi.done i t u hl hd hu
      simp only [sl']
      cases hod : o.dst with
      | none => exact h1
      | some d =>
        have h2 : d ≠ t := fun e => by
         have := hp.uniq i j t hne hd
         rw [(hdj t).2 (by rw [hod, e])] at this; simp at this
        have h3 : Nat.beq d t = false := by
         cases hb : Nat.beq d t with
         | false => rfl
         | true => exact absurd (Nat.eq_of_beq_eq_true hb) h2
        simp only [lk, h3, Bool.false_eq_true, if_false]; exact h1
  · have h1 := hi.rest t u hu (fun i hd hl => hno i hd ((isL_set hjl).2 (.inr hl)))
    simp only [sl']
    cases hod : o.dst with
    | none => exact h1
    | some d =>
      have h2 : d ≠ t := fun e => hno j ((hdj t).2 (by rw [hod, e])) ((isL_set hjl).2 (.inl rfl))
      have h3 : Nat.beq d t = false := by
       cases hb : Nat.beq d t with
       | false => rfl
       | true => exact absurd (Nat.eq_of_beq_eq_true hb) h2
      simp only [lk, h3, Bool.false_eq_true, if_false]; exact h1
 have wfSl : ∀ h' : AH, h'.wf → (hs k).next ≤ h'.next → v.sup ≤ h'.next → St.wf ⟨sl', h', n, ds⟩ := by
  intro h' h1 h2 h3
  simp only [sl']
  cases o.dst with
  | none => exact wf_heap (s := ⟨sl, hs k, n, ds⟩) hwf h1 h2
  | some d => exact wf_put (s := ⟨sl, hs k, n, ds⟩) hwf h1 h2 h3
 rcases hdo with ⟨hwt, hjo⟩ | ⟨hwt, hh, rfl, hlt⟩
 · obtain ⟨e, s', w1, _, w3, ⟨rfl, e2, e3, e5, e4⟩, hx⟩ := hjo hwfN hr
   obtain ⟨sl2, h2, n2, ds2⟩ := s'
   simp only at e2 e3 e5 e4 w3
   have e2 := e2.symm; have e3 := e3.symm; have e5 := e5.symm
   subst e2; subst e3; subst e5
   refine ⟨sl', k', hinv, ?_, w3, fun ρ a w nn hrel K Q hK => ?_⟩
   · simp only [sl']
     cases hod : o.dst with
     | none => exact wf_heap (s := ⟨sl, hs k, n, ds⟩) hwf w1.2.1 w3
     | some d => exact wf_put (s := ⟨sl, hs k, n, ds⟩) hwf w1.2.1 w3 (w1.1 d v (e4 d hod).2)
   · unfold wpOpIn
     simp only [ho, hwantA true hwt ρ a w hrel, if_true]
     have hop := hx ρ a w nn (hrelN hrel)
     refine ⟨hop.1, ?_⟩
     have hup := hop.2
     revert hup
     generalize (o.semAt (fen ρ r).round a.eval).run P w = res
     intro hup
     have fin1 : ∀ (x : Value) (w' : World) (a1 : Act), a1 = a.put o.dst x → Out ρ ⟨fillS sl0 vals (srcs.getD j []), hs k, n, ds⟩ w .normal ⟨sl2, hs k', n, ds⟩ .normal a1 w' → K a1 w' := by
      rintro x w' a1 rfl ⟨ρ', _, k1, k2⟩
      refine hK ρ' _ w' ⟨?_, ?_, k1.2.2⟩ k2
      · have hbase := slotsRel_ext hrel.1 k2.2.2.2.2.1 hwf.1
        simp only [sl']
        cases hod : o.dst with
        | none => simpa [Act.put] using hbase
        | some d =>
          refine ⟨by simp [Act.put, hbase.1], fun t u ht => ?_⟩
          simp only [lk] at ht
          split at ht
          · rename_i hb
            have : d = t := Nat.eq_of_beq_eq_true hb
            subst this
            simp at ht; subst ht
            have := k1.1.2 d v (e4 d hod).2
            rw [hod] at this; exact this
          · rename_i hb
            have hne : d ≠ t := fun e => hb (by subst e; exact Nat.beq_refl d)
            have := hbase.2 t u ht
            simpa [Act.put, Array.getElem?_setIfInBounds_ne hne] using this
      · have := k1.2.1
        cases hod : o.dst <;> simpa [Act.put, hod] using this
     cases res with
     | halt ht w' =>
       cases ht <;> first
        | (obtain ⟨ρ', k1, _⟩ := hup; simp [AExit.conc] at k1; done)
        | exact hup
     | ok nx w' =>
       cases nx <;> first
        | exact fin1 _ _ _ rfl hup
        | (refine ⟨hup.1, hup.2.mono ?_⟩
           rintro (v' | ch | _) w'' h'
           · exact fin1 _ _ _ rfl h'
           · obtain ⟨ρ', k1, _⟩ := h'; simp [AExit.conc] at k1
           · obtain ⟨a', w', ρ', k1, _⟩ := h'; simp [AExit.conc] at k1)
        | exact ⟨hup.1, hup.2.mono fun _ _ h' => fin1 _ _ _ rfl h'⟩
        | exact (hup : False).elim
        | (exfalso
           obtain ⟨ρ', _, k1, k2⟩ := hup
           have h5 := congrArg List.length k1.2.1
           have h6 := congrArg List.length hrel.2.1
           cases hod : o.dst <;> (simp only [hod, Act.put] at h5; simp at h5 h6; omega))
 · have hkk : hs k' = hs k := hh
   refine ⟨sl', k', hinv, ?_, by rw [hkk]; exact Nat.le_refl _, fun ρ a w nn hrel K Q hK => ?_⟩
   · rw [hkk]; exact wfSl _ hwf.2.1 (Nat.le_refl _) (Nat.zero_le _)
   · unfold wpOpIn
     simp only [ho, hwantA false hwt ρ a w hrel, Bool.false_eq_true, if_false]
     refine ⟨fun _ _ => trivial, hK ρ _ w ?_ (by rw [hkk]; exact .refl _ _ _)⟩
     rw [hkk]
     simp only [sl']
     cases hod : o.dst with
     | none => exact hrel
     | some d =>
       have := hrel.put (d := d) (v := .tuple []) hwf hrel.2.2 (.refl _ _ _) (hlt d hod)
       simpa [conc, concL, undef] using this
theorem draw_end (hp : PlanOk ops effs srcs fin) {listed : Array Bool} {sl : List (Nat × AV)} {k : Nat} (hi : Inv ops sl0 vals effs listed sl k) (hready : Region.ready .any ops listed = []) : k = effs.length ∧ ∀ i, i < ops.size → isL listed i := by
 have hall' : ∀ i, i < ops.size → isL listed i := by
  intro i
  induction i using Nat.strongRecOn with
  | _ i ih =>
    intro hlt
    by_cases hl : isL listed i
    · exact hl
    · exfalso
      have hsz := hi.size
      have hmem : i ∈ Region.ready .any ops listed := by
       refine mem_ready.2 ⟨?_, ops[i], Array.getElem?_eq_getElem hlt, fun e he hb => ?_⟩
       · unfold isL at hl
         rw [Array.getD_eq_getD_getElem?, Array.getElem?_eq_getElem (by omega)] at hl ⊢
         simp at hl ⊢; exact hl
       · have hon := hp.back i _ (Array.getElem?_eq_getElem hlt) e he hb
         exact ih e.on hon (by omega)
      rw [hready] at hmem
      cases hmem
 refine ⟨?_, hall'⟩
 have hk := hi.kle
 rcases Nat.lt_or_ge k effs.length with hlt | hge
 · have h1 := hi.stage k effs[k] (List.getElem?_eq_getElem hlt)
   have := h1.1 (hall' _ (hp.effLt _ (List.getElem_mem hlt)))
   omega
 · omega
theorem draw_count {listed : Array Bool} (hsz : listed.size = ops.size) {j : Nat} (hj : j ∈ Region.ready .any ops listed) :
 ((List.range ops.size).filter fun i => !(listed.setIfInBounds j true).getD i true).length < ((List.range ops.size).filter fun i => !listed.getD i true).length := by
 obtain ⟨hun, o, ho, _⟩ := mem_ready.1 hj
 have hjlt : j < ops.size := (Array.getElem?_eq_some_iff.1 ho).1
 have hjl : j < listed.size := by rw [hsz]; exact hjlt
 have hsub : ((List.range ops.size).filter fun i => !(listed.setIfInBounds j true).getD i true) = (((List.range ops.size).filter fun i => !listed.getD i true).filter fun i => i != j) := by
  rw [List.filter_filter]
  apply List.filter_congr
  intro i hi2
  by_cases e : i = j
  · subst e; simp [hjl]
  · simp [Array.getElem?_setIfInBounds_ne (Ne.symm e), e]
 rw [hsub]
 have hmem : j ∈ (List.range ops.size).filter fun i => !listed.getD i true := by
  rw [List.mem_filter]; exact ⟨by simpa using hjlt, by rw [hun]; rfl⟩
 exact List.length_filter_lt_length_iff_exists.2 ⟨j, hmem, by simp⟩
theorem draw_any (hp : PlanOk ops effs srcs fin) (hall : AllDo P r ops sl0 vals srcs effs hs n ds (befs ops) ops.toList 0) : ∀ (fuel : Nat) (listed : Array Bool) (sl : List (Nat × AV)) (k : Nat), Inv ops sl0 vals effs listed sl k →
 St.wf ⟨sl, hs k, n, ds⟩ → rsup r ≤ (hs k).next → ((List.range ops.size).filter fun i => !listed.getD i true).length ≤ fuel → ∀ ρ a w nn, Rel ρ ⟨sl, hs k, n, ds⟩ a w →
 ∀ Q : Exit → Act → World → Prop, (∀ ρ' a' w' sl' listed', Inv ops sl0 vals effs listed' sl' effs.length → (∀ i, i < ops.size → isL listed' i) → Rel ρ' ⟨sl', hs effs.length, n, ds⟩ a' w' → Fr ρ (hs k) w ρ' (hs effs.length) w' → Q .normal a' w') →
 wpAnyIn (fen ρ r) nn P .any ops Q fuel listed a w := by
 intro fuel
 induction fuel with
 | zero =>
   intro listed sl k hi hwf hr hf ρ a w nn hrel Q hQ
   have hready : Region.ready .any ops listed = [] := by
    have h0 : ((List.range ops.size).filter fun i => !listed.getD i true) = [] := List.length_eq_zero_iff.1 (by omega)
    unfold Region.ready
    rw [List.filter_eq_nil_iff] at h0 ⊢
    intro x hx h2
    simp only [Bool.and_eq_true] at h2
    exact h0 x hx h2.1
   obtain ⟨rfl, hd⟩ := draw_end hp hi hready
   exact ⟨hready, hQ ρ a w sl listed hi hd hrel (.refl _ _ _)⟩
 | succ fuel ih =>
   intro listed sl k hi hwf hr hf ρ a w nn hrel Q hQ
   refine ⟨fun hready => ?_, fun j hj => ?_⟩
   · obtain ⟨rfl, hd⟩ := draw_end hp hi hready
     exact hQ ρ a w sl listed hi hd hrel (.refl _ _ _)
   · obtain ⟨sl', k', hi', hwf', hnx, hstep⟩ := draw_step hp hall hi hwf hr hj
     refine hstep ρ a w nn hrel _ _ fun ρ' a' w' k1 k2 => ?_
     have hf' := fen_ext k2.2.2.2.2.1 (r := r) hr
     rw [← hf']
     refine ih _ sl' k' hi' hwf' (by omega) ?_ ρ' a' w' nn k1 Q fun ρ'' a'' w'' sl'' listed'' q1 q2 q3 q4 => hQ ρ'' a'' w'' sl'' listed'' q1 q2 q3 (k2.trans q4)
     have := draw_count hi.size hj
     omega
theorem draw_wf (hp : PlanOk ops effs srcs fin) (hall : AllDo P r ops sl0 vals srcs effs hs n ds (befs ops) ops.toList 0) : ∀ (fuel : Nat) (listed : Array Bool) (sl : List (Nat × AV)) (k : Nat), Inv ops sl0 vals effs listed sl k →
 St.wf ⟨sl, hs k, n, ds⟩ → rsup r ≤ (hs k).next → ((List.range ops.size).filter fun i => !listed.getD i true).length ≤ fuel →
 ∃ sl' listed', Inv ops sl0 vals effs listed' sl' effs.length ∧ (∀ i, i < ops.size → isL listed' i) ∧ St.wf ⟨sl', hs effs.length, n, ds⟩ ∧ (hs k).next ≤ (hs effs.length).next := by
 intro fuel
 induction fuel with
 | zero =>
   intro listed sl k hi hwf hr hf
   have hready : Region.ready .any ops listed = [] := by
    have h0 : ((List.range ops.size).filter fun i => !listed.getD i true) = [] := List.length_eq_zero_iff.1 (by omega)
    unfold Region.ready
    rw [List.filter_eq_nil_iff] at h0 ⊢
    intro x hx h2
    simp only [Bool.and_eq_true] at h2
    exact h0 x hx h2.1
   obtain ⟨rfl, hd⟩ := draw_end hp hi hready
   exact ⟨sl, listed, hi, hd, hwf, Nat.le_refl _⟩
 | succ fuel ih =>
   intro listed sl k hi hwf hr hf
   cases hre : Region.ready .any ops listed with
   | nil =>
     obtain ⟨rfl, hd⟩ := draw_end hp hi hre
     exact ⟨sl, listed, hi, hd, hwf, Nat.le_refl _⟩
   | cons j rest =>
     have hj : j ∈ Region.ready .any ops listed := by rw [hre]; simp
     obtain ⟨sl', k', hi', hwf', hnx, _⟩ := draw_step hp hall hi hwf hr hj
     have := draw_count hi.size hj
     obtain ⟨sl2, l2, q1, q2, q3, q4⟩ := ih _ sl' k' hi' hwf' (by omega) (by omega)
     exact ⟨sl2, l2, q1, q2, q3, by omega⟩
theorem fin_sub (hp : PlanOk ops effs srcs fin) {listed : Array Bool} {sl : List (Nat × AV)} {k : Nat} (hi : Inv ops sl0 vals effs listed sl k) (hd : ∀ i, i < ops.size → isL listed i) : SubL (fillS sl0 vals fin) sl := by
 refine fillS_sub (fun t i u hm hu => ?_) (fun t u hm hu => ?_)
 · have h1 : dstIs ops i t = true := hp.fin _ hm
   obtain ⟨o, ho, _⟩ := dstIs_iff.1 h1
   exact hi.done i t u (hd i (Array.getElem?_eq_some_iff.1 ho).1) h1 hu
 · have h1 := hp.fin _ hm
   simp only [finOk] at h1
   refine hi.rest t u hu fun i hdi _ => ?_
   obtain ⟨o, ho, _⟩ := dstIs_iff.1 hdi
   have := List.all_eq_true.1 h1 i (by simpa using (Array.getElem?_eq_some_iff.1 ho).1)
   rw [hdi] at this; simp at this
theorem J_draw {c : Code} {id : Nat} {h h' : AH} {Q : AExit → St → Prop} {slF : List (Nat × AV)} (hc : c = .region id ops true) (hmix : P.follows .mixedOrders = true) (effs : List Nat) (srcs : List Src) (fin : Src) (vals : List AV) (hs : Nat → AH)
 (hplan : planOk ops effs srcs fin = true) (h0 : hs 0 = h) (hm : hs effs.length = h')
 (hall : AllDo P r ops sl0 vals srcs effs hs n ds (befs ops) ops.toList 0) (hF : fillS sl0 vals fin = slF) (hq : Q .normal ⟨slF, h', n, ds⟩) : J P r c ⟨sl0, h, n, ds⟩ Q := by
 subst hc; subst h0; subst hm; subst hF
 intro hw hr
 have hp := planOk_spec hplan
 have hinit : Inv ops sl0 vals effs (Array.replicate ops.size false) sl0 0 := by
  have hno : ∀ i, ¬ isL (Array.replicate ops.size false) i := fun i h => by
   unfold isL at h
   rw [Array.getD_eq_getD_getElem?, Array.getElem?_replicate] at h
   split at h <;> simp at h
  exact ⟨by simp, fun i o _ h => absurd h (hno i), fun q e _ => ⟨fun h => absurd h (hno e), fun h => absurd h (Nat.not_lt_zero q)⟩, Nat.zero_le _, fun i t v h => absurd h (hno i), fun t v h _ => h⟩
 obtain ⟨slW, lW, i1, i2, i3, i4⟩ := draw_wf hp hall _ _ sl0 0 hinit hw hr (Nat.le_refl _)
 have hsubW := fin_sub hp i1 i2
 refine ⟨.normal, ⟨fillS sl0 vals fin, hs effs.length, n, ds⟩, ⟨fun t u h => i3.1 t u (hsubW.lk h), i3.2.1, i3.2.2⟩, Nat.zero_le _, i4, hq, fun ρ a w nn hrel => wpIn_region_any hmix ?_⟩
 refine draw_any hp hall _ _ sl0 0 hinit hw hr ?_ ρ a { w with drawn := w.drawn + 1 } nn ⟨hrel.1, hrel.2.1, drew_HRel _ hrel.2.2⟩ _ ?_
 · exact Nat.le_trans (List.length_filter_le _ _) (by simp)
 · intro ρ' a' w' sl' listed' j1 j2 j3 j4
   have hsub := fin_sub hp j1 j2
   exact ⟨ρ', rfl, ⟨⟨j3.1.1, fun t u hk => j3.1.2 t u (hsub.lk hk)⟩, j3.2.1, j3.2.2⟩, (drew_Fr ρ (hs 0) w _).trans j4⟩
end main
def child : Code → Nat → Code
 | .seq a b, k => if Nat.beq k 0 then a else b
 | .cond _ a b, k => if Nat.beq k 0 then a else b
 | .block _ b, _ => b
 | .loop b, _ => b
 | .scope b, _ => b
 | .rangeFunc _ _ a b, k => if Nat.beq k 0 then a else b
 | c, _ => c
def sel (c : Code) : List Nat → Code
 | [] => c
 | k :: p => sel (child c k) p
def bodyOf (f : Func) : Code := f.body.getD .skip
def opsAt : Code → Array Oper
 | .region _ ops _ => ops
 | _ => #[]
def idAt : Code → Nat
 | .region id _ _ => id
 | _ => 0
def isCell (P : Program) (T : TypeId) : Bool := match P.underlying T, P.info? T with
 | some D, some i => !isAggD D && Nat.beq i.size 1
 | _, _ => false
def isAggT (P : Program) (T : TypeId) (n : Nat) : Bool := match P.underlying T, P.info? T with
 | some D, some i => isAggD D && Nat.beq i.size n
 | _, _ => false
def Cell (P : Program) (T : TypeId) : Prop := isCell P T = true
def Agg (P : Program) (T : TypeId) (n : Nat) : Prop := isAggT P T n = true
theorem Cell.ex {P : Program} {T : TypeId} (h : Cell P T) : ∃ D, P.underlying T = some D ∧ isAggD D = false ∧ (P.info? T).map (·.size) = some 1 := by
 unfold Cell isCell at h
 split at h
 · rename_i D i h1 h2
   simp only [Bool.and_eq_true, Bool.not_eq_true'] at h
   exact ⟨D, h1, h.1, by rw [h2]; simp [Nat.eq_of_beq_eq_true h.2]⟩
 · simp at h
theorem Agg.ex {P : Program} {T : TypeId} {n : Nat} (h : Agg P T n) : ∃ D, P.underlying T = some D ∧ isAggD D = true ∧ (P.info? T).map (·.size) = some n := by
 unfold Agg isAggT at h
 split at h
 · rename_i D i h1 h2
   simp only [Bool.and_eq_true] at h
   exact ⟨D, h1, h.1, by rw [h2]; simp [Nat.eq_of_beq_eq_true h.2]⟩
 · simp at h
structure Le (h h' : AH) : Prop where
 next : h.next ≤ h'.next
 get : ∀ j c, h.get j = some c → h'.get j = some c
theorem Le.refl (h : AH) : Le h h := ⟨Nat.le_refl _, fun _ _ h => h⟩
theorem Le.trans {h h' h'' : AH} (a : Le h h') (b : Le h' h'') : Le h h'' := ⟨Nat.le_trans a.next b.next, fun j c hj => b.get j c (a.get j c hj)⟩
theorem Le.cells {h h' : AH} (a : Le h h') {id : Nat} {cs : List AV} (hc : h.cells id = some cs) : h'.cells id = some cs := by
 unfold AH.cells at hc ⊢
 cases hg : h.get id with
 | none => simp [hg] at hc
 | some c => rw [a.get id c hg]; rw [hg] at hc; exact hc
theorem AH.AddTo.le {h h' : AH} {i : Nat} {c : Chunk} (a : h.AddTo i c h') (hw : h.wf) : Le h h' :=
 ⟨by rw [a.next]; omega, fun j cj hj => by rw [a.old j (by have := (hw j cj hj).1; have := a.is; omega)]; exact hj⟩
theorem cells_own {h : AH} {i : Nat} {cs : List AV} (hg : h.get i = some (.own cs)) : h.cells i = some cs := by simp [AH.cells, hg]
theorem cells_ro {h : AH} {i : Nat} {cs : List AV} (hg : h.get i = some (.ro cs)) : h.cells i = some cs := by simp [AH.cells, hg]
theorem cells_grow {h : AH} {i e : Nat} {cs : List AV} (hg : h.get i = some (.grow e cs)) : h.cells i = some cs := by simp [AH.cells, hg]
section rules
variable {P : Program} {r : Option Nat} {c x y : Code} {s : St} {Q Q' : AExit → St → Prop}
theorem J_reg {l : List Nat} {c : Code} (hc : c = .region (idAt c) (opsAt c) false) (hl : List.range (opsAt c).size = l) (h : JL P r (opsAt c) l s Q) : J P r c s Q :=
 J_region hc (by rw [hl]; exact h)
def Sub (s' s : St) : Prop := s'.h = s.h ∧ s'.n = s.n ∧ s'.defs = s.defs ∧ SubL s'.slots s.slots
theorem J_sub {s' : St} (hs : Sub s' s) (hj : J P r c s' Q) : J P r c s Q := by
 obtain ⟨sl, h, n, ds⟩ := s; obtain ⟨sl', h', n', ds'⟩ := s'
 obtain ⟨rfl, rfl, rfl, h4⟩ := hs
 exact J_keep h4 hj
theorem J_cut {α : Type} (S : α → St) (I : α → Prop) (hc : c = .seq x y) (h1 : J P r x s (Then (fun s' => ∃ a, I a ∧ Sub (S a) s') Q)) (h2 : ∀ a, I a → J P r y (S a) Q) : J P r c s Q :=
 J_seq hc (h1.mono fun e s' h => by
  cases e <;> first | exact h | (obtain ⟨a, ha, hs⟩ := h; exact J_sub hs (h2 a ha)))
theorem J_for {α : Type} (S : α → St) (I : α → Prop) (μ : α → Nat) (a₀ : α) (hc : c = .loop x) (h₀ : Sub (S a₀) s) (hI : I a₀)
 (round : ∀ a, I a → J P r x (S a) (Then (fun s' => ∃ a', (I a' ∧ μ a' < μ a) ∧ Sub (S a') s') Q)) : J P r c s Q := by
 refine J_sub h₀ (J_loop' S I μ a₀ hc hI round)
end rules
def BehindW (d : Nat) (sl : List (Nat × AV)) (nt : Nat) (ds : List ADef) (Q : AExit → St → Prop) : AEnd → AH → Prop
 | .ret v, h' => Q .normal ⟨(d, v) :: sl, h', nt, ds⟩
 | .panic v, h' => Q (.panic v) ⟨sl, h', nt, ds⟩
section rules
variable {P : Program} {r : Option Nat} {sl : List (Nat × AV)} {h₀ : AH} {nt : Nat} {ds : List ADef} {Q : AExit → St → Prop} {o : Oper}
theorem w_move {d : Nat} {x : Operand} {v : AV} (h : Q .normal ⟨(d, v) :: sl, h₀, nt, ds⟩) (ho : o.op = .move x := by exact rfl) (hd : o.dst = some d := by exact rfl) (hx : ev sl x = some v := by exact rfl) (hdn : d < nt := by decide) : JO P r o ⟨sl, h₀, nt, ds⟩ Q :=
 o_move ho hd hdn hx h
theorem w_assign {d : Nat} {x : Operand} {v : AV} (h : Q .normal ⟨(d, v) :: sl, h₀, nt, ds⟩) (ho : o.op = .assign x := by exact rfl) (hd : o.dst = some d := by exact rfl) (hx : ev sl x = some v := by exact rfl) (hdn : d < nt := by decide) : JO P r o ⟨sl, h₀, nt, ds⟩ Q :=
 o_assign ho hd hdn hx h
theorem w_pick_t {d : Nat} {x : Operand} {y : Operand} {z : Operand} {v : AV} (h : Q .normal ⟨(d, v) :: sl, h₀, nt, ds⟩) (ho : o.op = .pick x y z := by exact rfl) (hd : o.dst = some d := by exact rfl) (hx : ev sl x = some (.bool true) := by exact rfl) (hy : ev sl y = some v := by exact rfl) (hdn : d < nt := by decide) : JO P r o ⟨sl, h₀, nt, ds⟩ Q :=
 o_pick_t ho hd hdn hx hy h
theorem w_pick_f {d : Nat} {x : Operand} {y : Operand} {z : Operand} {v : AV} (h : Q .normal ⟨(d, v) :: sl, h₀, nt, ds⟩) (ho : o.op = .pick x y z := by exact rfl) (hd : o.dst = some d := by exact rfl) (hx : ev sl x = some (.bool false) := by exact rfl) (hy : ev sl z = some v := by exact rfl) (hdn : d < nt := by decide) : JO P r o ⟨sl, h₀, nt, ds⟩ Q :=
 o_pick_f ho hd hdn hx hy h
theorem w_addw {d : Nat} {x : Operand} {y : Operand} {T : TypeId} {U : TypeId} {k : IntKind} {a : Int} {b : Int} (h : Q .normal ⟨(d, .int k (wrapI k (a + b))) :: sl, h₀, nt, ds⟩) (ho : o.op = .binOp .add T x y U := by exact rfl) (hd : o.dst = some d := by exact rfl) (hx : ev sl x = some (.int k a) := by exact rfl) (hy : ev sl y = some (.int k b) := by exact rfl) (hdn : d < nt := by decide) : JO P r o ⟨sl, h₀, nt, ds⟩ Q :=
 o_addw ho hd hdn hx hy h
theorem w_subw {d : Nat} {x : Operand} {y : Operand} {T : TypeId} {U : TypeId} {k : IntKind} {a : Int} {b : Int} (h : Q .normal ⟨(d, .int k (wrapI k (a - b))) :: sl, h₀, nt, ds⟩) (ho : o.op = .binOp .sub T x y U := by exact rfl) (hd : o.dst = some d := by exact rfl) (hx : ev sl x = some (.int k a) := by exact rfl) (hy : ev sl y = some (.int k b) := by exact rfl) (hdn : d < nt := by decide) : JO P r o ⟨sl, h₀, nt, ds⟩ Q :=
 o_subw ho hd hdn hx hy h
theorem w_add {d : Nat} {x : Operand} {y : Operand} {T : TypeId} {U : TypeId} {a : Int} {b : Int} (h : Q .normal ⟨(d, .int .i64 (a + b)) :: sl, h₀, nt, ds⟩) (ho : o.op = .binOp .add T x y U := by exact rfl) (hd : o.dst = some d := by exact rfl) (hx : ev sl x = some (.int .i64 a) := by exact rfl) (hy : ev sl y = some (.int .i64 b) := by exact rfl) (hdn : d < nt := by decide) (hr : -9223372036854775808 ≤ a + b ∧ a + b ≤ 9223372036854775807 := by omega) : JO P r o ⟨sl, h₀, nt, ds⟩ Q :=
 o_add ho hd hdn hx hy hr h
theorem w_sub {d : Nat} {x : Operand} {y : Operand} {T : TypeId} {U : TypeId} {a : Int} {b : Int} (h : Q .normal ⟨(d, .int .i64 (a - b)) :: sl, h₀, nt, ds⟩) (ho : o.op = .binOp .sub T x y U := by exact rfl) (hd : o.dst = some d := by exact rfl) (hx : ev sl x = some (.int .i64 a) := by exact rfl) (hy : ev sl y = some (.int .i64 b) := by exact rfl) (hdn : d < nt := by decide) (hr : -9223372036854775808 ≤ a - b ∧ a - b ≤ 9223372036854775807 := by omega) : JO P r o ⟨sl, h₀, nt, ds⟩ Q :=
 o_sub ho hd hdn hx hy hr h
theorem w_mul {d : Nat} {x : Operand} {y : Operand} {T : TypeId} {U : TypeId} {a : Int} {b : Int} (h : Q .normal ⟨(d, .int .i64 (a * b)) :: sl, h₀, nt, ds⟩) (ho : o.op = .binOp .mul T x y U := by exact rfl) (hd : o.dst = some d := by exact rfl) (hx : ev sl x = some (.int .i64 a) := by exact rfl) (hy : ev sl y = some (.int .i64 b) := by exact rfl) (hdn : d < nt := by decide) (hr : -9223372036854775808 ≤ a * b ∧ a * b ≤ 9223372036854775807 := by omega) : JO P r o ⟨sl, h₀, nt, ds⟩ Q :=
 o_mul ho hd hdn hx hy hr h
theorem w_and {d : Nat} {x : Operand} {y : Operand} {T : TypeId} {U : TypeId} {k : IntKind} {a : Int} {b : Int} (h : Q .normal ⟨(d, .int k (bitI .and k a b)) :: sl, h₀, nt, ds⟩) (ho : o.op = .binOp .and T x y U := by exact rfl) (hd : o.dst = some d := by exact rfl) (hx : ev sl x = some (.int k a) := by exact rfl) (hy : ev sl y = some (.int k b) := by exact rfl) (hdn : d < nt := by decide) : JO P r o ⟨sl, h₀, nt, ds⟩ Q :=
 o_and ho hd hdn hx hy h
theorem w_or {d : Nat} {x : Operand} {y : Operand} {T : TypeId} {U : TypeId} {k : IntKind} {a : Int} {b : Int} (h : Q .normal ⟨(d, .int k (bitI .or k a b)) :: sl, h₀, nt, ds⟩) (ho : o.op = .binOp .or T x y U := by exact rfl) (hd : o.dst = some d := by exact rfl) (hx : ev sl x = some (.int k a) := by exact rfl) (hy : ev sl y = some (.int k b) := by exact rfl) (hdn : d < nt := by decide) : JO P r o ⟨sl, h₀, nt, ds⟩ Q :=
 o_or ho hd hdn hx hy h
theorem w_andNot {d : Nat} {x : Operand} {y : Operand} {T : TypeId} {U : TypeId} {k : IntKind} {a : Int} {b : Int} (h : Q .normal ⟨(d, .int k (bitI .andNot k a b)) :: sl, h₀, nt, ds⟩) (ho : o.op = .binOp .andNot T x y U := by exact rfl) (hd : o.dst = some d := by exact rfl) (hx : ev sl x = some (.int k a) := by exact rfl) (hy : ev sl y = some (.int k b) := by exact rfl) (hdn : d < nt := by decide) : JO P r o ⟨sl, h₀, nt, ds⟩ Q :=
 o_andNot ho hd hdn hx hy h
theorem w_shl {d : Nat} {x : Operand} {y : Operand} {T : TypeId} {U : TypeId} {k : IntKind} {a : Int} {b : Int} {j : IntKind} (h : Q .normal ⟨(d, .int k (shlI k a b)) :: sl, h₀, nt, ds⟩) (ho : o.op = .binOp .shl T x y U := by exact rfl) (hd : o.dst = some d := by exact rfl) (hx : ev sl x = some (.int k a) := by exact rfl) (hy : ev sl y = some (.int j b) := by exact rfl) (hdn : d < nt := by decide) (hb : 0 ≤ b := by omega) : JO P r o ⟨sl, h₀, nt, ds⟩ Q :=
 o_shl ho hd hdn hx hy hb h
theorem w_shr {d : Nat} {x : Operand} {y : Operand} {T : TypeId} {U : TypeId} {k : IntKind} {a : Int} {b : Int} {j : IntKind} (h : Q .normal ⟨(d, .int k (shrI k a b)) :: sl, h₀, nt, ds⟩) (ho : o.op = .binOp .shr T x y U := by exact rfl) (hd : o.dst = some d := by exact rfl) (hx : ev sl x = some (.int k a) := by exact rfl) (hy : ev sl y = some (.int j b) := by exact rfl) (hdn : d < nt := by decide) (hb : 0 ≤ b := by omega) : JO P r o ⟨sl, h₀, nt, ds⟩ Q :=
 o_shr ho hd hdn hx hy hb h
theorem w_eq {d : Nat} {x : Operand} {y : Operand} {T : TypeId} {U : TypeId} {k : IntKind} {a : Int} {b : Int} (h : Q .normal ⟨(d, .bool (decide (a = b))) :: sl, h₀, nt, ds⟩) (ho : o.op = .binOp .eql T x y U := by exact rfl) (hd : o.dst = some d := by exact rfl) (hx : ev sl x = some (.int k a) := by exact rfl) (hy : ev sl y = some (.int k b) := by exact rfl) (hdn : d < nt := by decide) : JO P r o ⟨sl, h₀, nt, ds⟩ Q :=
 o_eq ho hd hdn hx hy h
theorem w_ne0 {d : Nat} {x : Operand} {y : Operand} {T : TypeId} {U : TypeId} {k : IntKind} {a : Int} {b : Int} (ho : o.op = .binOp .neq T x y U) (hd : o.dst = some d) (hdn : d < nt) (hx : ev sl x = some (.int k a)) (hy : ev sl y = some (.int k b))
 (h : Q .normal ⟨(d, .bool (decide (¬ a = b))) :: sl, h₀, nt, ds⟩) : JO P r o ⟨sl, h₀, nt, ds⟩ Q :=
 o_ne ho hd hdn hx hy h
theorem w_ne {d : Nat} {x : Operand} {y : Operand} {T : TypeId} {U : TypeId} {k : IntKind} {a : Int} {b : Int} (h : Q .normal ⟨(d, .bool (decide (¬ a = b))) :: sl, h₀, nt, ds⟩) (ho : o.op = .binOp .neq T x y U := by exact rfl) (hd : o.dst = some d := by exact rfl) (hx : ev sl x = some (.int k a) := by exact rfl) (hy : ev sl y = some (.int k b) := by exact rfl) (hdn : d < nt := by decide) : JO P r o ⟨sl, h₀, nt, ds⟩ Q := w_ne0 ho hd hdn hx hy h
theorem w_lt {d : Nat} {x : Operand} {y : Operand} {T : TypeId} {U : TypeId} {k : IntKind} {a : Int} {b : Int} (h : Q .normal ⟨(d, .bool (decide (a < b))) :: sl, h₀, nt, ds⟩) (ho : o.op = .binOp .lss T x y U := by exact rfl) (hd : o.dst = some d := by exact rfl) (hx : ev sl x = some (.int k a) := by exact rfl) (hy : ev sl y = some (.int k b) := by exact rfl) (hdn : d < nt := by decide) : JO P r o ⟨sl, h₀, nt, ds⟩ Q :=
 o_lt ho hd hdn hx hy h
theorem w_le {d : Nat} {x : Operand} {y : Operand} {T : TypeId} {U : TypeId} {k : IntKind} {a : Int} {b : Int} (h : Q .normal ⟨(d, .bool (decide (a ≤ b))) :: sl, h₀, nt, ds⟩) (ho : o.op = .binOp .leq T x y U := by exact rfl) (hd : o.dst = some d := by exact rfl) (hx : ev sl x = some (.int k a) := by exact rfl) (hy : ev sl y = some (.int k b) := by exact rfl) (hdn : d < nt := by decide) : JO P r o ⟨sl, h₀, nt, ds⟩ Q :=
 o_le ho hd hdn hx hy h
theorem w_gt {d : Nat} {x : Operand} {y : Operand} {T : TypeId} {U : TypeId} {k : IntKind} {a : Int} {b : Int} (h : Q .normal ⟨(d, .bool (decide (b < a))) :: sl, h₀, nt, ds⟩) (ho : o.op = .binOp .gtr T x y U := by exact rfl) (hd : o.dst = some d := by exact rfl) (hx : ev sl x = some (.int k a) := by exact rfl) (hy : ev sl y = some (.int k b) := by exact rfl) (hdn : d < nt := by decide) : JO P r o ⟨sl, h₀, nt, ds⟩ Q :=
 o_gt ho hd hdn hx hy h
theorem w_ge {d : Nat} {x : Operand} {y : Operand} {T : TypeId} {U : TypeId} {k : IntKind} {a : Int} {b : Int} (h : Q .normal ⟨(d, .bool (decide (b ≤ a))) :: sl, h₀, nt, ds⟩) (ho : o.op = .binOp .geq T x y U := by exact rfl) (hd : o.dst = some d := by exact rfl) (hx : ev sl x = some (.int k a) := by exact rfl) (hy : ev sl y = some (.int k b) := by exact rfl) (hdn : d < nt := by decide) : JO P r o ⟨sl, h₀, nt, ds⟩ Q :=
 o_ge ho hd hdn hx hy h
theorem w_seq {d : Nat} {x : Operand} {y : Operand} {T : TypeId} {U : TypeId} {p q : ByteArray} (ho : o.op = .binOp .eql T x y U) (hd : o.dst = some d) (hdn : d < nt) (hx : ev sl x = some (.str p)) (hy : ev sl y = some (.str q))
 (h : Q .normal ⟨(d, .bool (p.toList == q.toList)) :: sl, h₀, nt, ds⟩) : JO P r o ⟨sl, h₀, nt, ds⟩ Q :=
 o_seq ho hd hdn hx hy h
theorem w_sne {d : Nat} {x : Operand} {y : Operand} {T : TypeId} {U : TypeId} {p q : ByteArray} (ho : o.op = .binOp .neq T x y U) (hd : o.dst = some d) (hdn : d < nt) (hx : ev sl x = some (.str p)) (hy : ev sl y = some (.str q))
 (h : Q .normal ⟨(d, .bool (!(p.toList == q.toList))) :: sl, h₀, nt, ds⟩) : JO P r o ⟨sl, h₀, nt, ds⟩ Q :=
 o_sne ho hd hdn hx hy h
theorem w_not {d : Nat} {x : Operand} {T : TypeId} {t : Bool} (h : Q .normal ⟨(d, .bool (!t)) :: sl, h₀, nt, ds⟩) (ho : o.op = .unOp .not T x := by exact rfl) (hd : o.dst = some d := by exact rfl) (hx : ev sl x = some (.bool t) := by exact rfl) (hdn : d < nt := by decide) : JO P r o ⟨sl, h₀, nt, ds⟩ Q :=
 o_not ho hd hdn hx h
theorem w_conv0 {d : Nat} {x : Operand} {a : Int} {T' U' : TypeId} {j k' : IntKind} (ho : o.op = .convert T' U' x) (hd : o.dst = some d) (hdn : d < nt) (hx : ev sl x = some (.int j a)) {dT : TypeDesc} (hT : P.underlying T' = some dT)
 (hU : P.underlying U' = some (.int k')) (h : Q .normal ⟨(d, .int k' (wrapI k' a)) :: sl, h₀, nt, ds⟩) : JO P r o ⟨sl, h₀, nt, ds⟩ Q :=
 o_conv ho hd hdn hx hT hU h
theorem w_conv {d : Nat} {x : Operand} {a : Int} {T' U' : TypeId} {j k' : IntKind} {dT : TypeDesc} (hT : P.underlying T' = some dT) (hU : P.underlying U' = some (.int k')) (h : Q .normal ⟨(d, .int k' (wrapI k' a)) :: sl, h₀, nt, ds⟩) (ho : o.op = .convert T' U' x := by exact rfl) (hd : o.dst = some d := by exact rfl) (hx : ev sl x = some (.int j a) := by exact rfl) (hdn : d < nt := by decide) : JO P r o ⟨sl, h₀, nt, ds⟩ Q := w_conv0 ho hd hdn hx hT hU h
theorem w_extract {d : Nat} {x : Operand} {v : AV} {i : Nat} {vs : List AV} (h : Q .normal ⟨(d, v) :: sl, h₀, nt, ds⟩) (ho : o.op = .extract x i := by exact rfl) (hd : o.dst = some d := by exact rfl) (hx : ev sl x = some (.tuple vs) := by exact rfl) (hv : vs[i]? = some v := by exact rfl) (hdn : d < nt := by decide) : JO P r o ⟨sl, h₀, nt, ds⟩ Q :=
 o_extract ho hd hdn hx hv h
theorem w_nilCheck_ptr {d : Nat} {x : Operand} {p : Nat × Nat} (h : Q .normal ⟨(d, .ptr (some p)) :: sl, h₀, nt, ds⟩) (ho : o.op = .nilCheck x := by exact rfl) (hd : o.dst = some d := by exact rfl) (hx : ev sl x = some (.ptr (some p)) := by exact rfl) (hdn : d < nt := by decide) : JO P r o ⟨sl, h₀, nt, ds⟩ Q :=
 o_nilCheck_ptr ho hd hdn hx h
theorem w_makeFunc {d : Nat} {f : Fn} {l1 l2 : Array Operand} {v1 v2 : List AV} (h : Q .normal ⟨(d, .fn f v1 v2) :: sl, h₀, nt, ds⟩) (ho : o.op = .makeFunc f l1 l2 := by exact rfl) (hd : o.dst = some d := by exact rfl) (h1 : evL sl l1.toList = some v1 := by exact rfl) (h2 : evL sl l2.toList = some v2 := by exact rfl) (hdn : d < nt := by decide) : JO P r o ⟨sl, h₀, nt, ds⟩ Q :=
 o_makeFunc ho hd hdn h1 h2 h
theorem w_indexStr {d : Nat} {x : Operand} {y : Operand} {k : IntKind} {A : TypeId} {p : ByteArray} {i : Int} (hA : P.underlying A = some .string)
 (ho : o.op = .index A x y) (hd : o.dst = some d) (hdn : d < nt) (hx : ev sl x = some (.str p)) (hy : ev sl y = some (.int k i)) (h0 : 0 ≤ i) {c : UInt8} (hc : p[i.toNat]? = some c)
 (h : Q .normal ⟨(d, .int .u8 c.toNat) :: sl, h₀, nt, ds⟩) : JO P r o ⟨sl, h₀, nt, ds⟩ Q :=
 o_indexStr hA ho hd hdn hx hy h0 hc h
theorem w_fieldAddr {d : Nat} {x : Operand} {T : TypeId} {S : TypeId} {i off id fo n : Nat} (hf : fieldIs P S i fo T) (hn : (P.info? T).map (·.size) = some n) (h : Q .normal ⟨(d, .ptr (some (id, off + fo))) :: sl, h₀, nt, ds⟩) (ho : o.op = .fieldAddr S x i := by exact rfl) (hd : o.dst = some d := by exact rfl) (hx : ev sl x = some (.ptr (some (id, off))) := by exact rfl) (hn0 : n ≠ 0 := by decide) (hdn : d < nt := by decide) : JO P r o ⟨sl, h₀, nt, ds⟩ Q :=
 o_fieldAddr hf hn hn0 ho hd hdn hx h
theorem w_indexAddrS {d : Nat} {x : Operand} {y : Operand} {T : TypeId} {U : TypeId} {k : IntKind} {n id off len : Nat} {c : Cap} {i : Int} (hU : P.underlying U = some (.slice T)) (hn : (P.info? T).map (·.size) = some n) (h : Q .normal ⟨(d, .ptr (some (id, off + i.toNat * n))) :: sl, h₀, nt, ds⟩) (ho : o.op = .indexAddr U x y := by exact rfl) (hd : o.dst = some d := by exact rfl) (hx : ev sl x = some (.slice (some (id, off)) len c) := by exact rfl) (hy : ev sl y = some (.int k i) := by exact rfl) (hdn : d < nt := by decide) (hi : 0 ≤ i ∧ i < len := by omega) : JO P r o ⟨sl, h₀, nt, ds⟩ Q :=
 o_indexAddrS hU hn ho hd hdn hx hy hi h
theorem w_indexAddrA {d : Nat} {x : Operand} {y : Operand} {T : TypeId} {U : TypeId} {k : IntKind} {n id off len : Nat} {i : Int} (hU : P.underlying U = some (.array len T)) (hn : (P.info? T).map (·.size) = some n) (h : Q .normal ⟨(d, .ptr (some (id, off + i.toNat * n))) :: sl, h₀, nt, ds⟩) (ho : o.op = .indexAddr U x y := by exact rfl) (hd : o.dst = some d := by exact rfl) (hx : ev sl x = some (.ptr (some (id, off))) := by exact rfl) (hy : ev sl y = some (.int k i) := by exact rfl) (hdn : d < nt := by decide) (hi : 0 ≤ i ∧ i < len := by omega) : JO P r o ⟨sl, h₀, nt, ds⟩ Q :=
 o_indexAddrA hU hn ho hd hdn hx hy hi h
theorem w_box0 {d : Nat} {x : Operand} {v : AV} {T : TypeId} {z : List AV} (ho : o.op = .box T x) (hd : o.dst = some d) (hdn : d < nt) (hx : ev sl x = some v) (hz : v.cells = z)
 (h : ∀ i h', h₀.AddTo i (.own z) h' → Q .normal ⟨(d, .ptr (some (i, 0))) :: sl, h', nt, ds⟩) : JO P r o ⟨sl, h₀, nt, ds⟩ Q :=
 o_box ho hd hdn hx hz h
theorem w_box {d : Nat} {x : Operand} {v : AV} {T : TypeId} {z : List AV} (h : ∀ i h', h₀.AddTo i (.own z) h' → Q .normal ⟨(d, .ptr (some (i, 0))) :: sl, h', nt, ds⟩) (ho : o.op = .box T x := by exact rfl) (hd : o.dst = some d := by exact rfl) (hx : ev sl x = some v := by exact rfl) (hz : v.cells = z := by exact rfl) (hdn : d < nt := by decide) : JO P r o ⟨sl, h₀, nt, ds⟩ Q := w_box0 ho hd hdn hx hz h
theorem w_build {d : Nat} {T : TypeId} {parts : Array (Nat × Operand)} {vs : List (Nat × AV)} {pl : List (Nat × Nat)} {z : AV} {out : List AV} (hs : structIs P T pl) (hz : zeroIs P T z) (h : Q .normal ⟨(d, .agg out) :: sl, h₀, nt, ds⟩) (ho : o.op = .build T parts := by exact rfl) (hd : o.dst = some d := by exact rfl) (hx : evP sl parts.toList = some vs := by exact rfl) (hf : afill (pl[·]?) z.cells vs = some out := by exact rfl) (hdn : d < nt := by decide) : JO P r o ⟨sl, h₀, nt, ds⟩ Q :=
 o_build hs hz ho hd hdn hx hf h
theorem w_alloc0 {d : Nat} {T : TypeId} {z : AV} {zc : List AV} (hz : zeroIs P T z) (hzc : z.cells = zc) (ho : o.op = .alloc T) (hd : o.dst = some d) (hdn : d < nt)
 (h : ∀ i h', h₀.AddTo i (.own zc) h' → Q .normal ⟨(d, .ptr (some (i, 0))) :: sl, h', nt, ds⟩) : JO P r o ⟨sl, h₀, nt, ds⟩ Q :=
 o_alloc hz hzc ho hd hdn h
theorem w_alloc {d : Nat} {T : TypeId} {z : AV} {zc : List AV} (hz : zeroIs P T z) (h : ∀ i h', h₀.AddTo i (.own zc) h' → Q .normal ⟨(d, .ptr (some (i, 0))) :: sl, h', nt, ds⟩) (hzc : z.cells = zc := by exact rfl) (ho : o.op = .alloc T := by exact rfl) (hd : o.dst = some d := by exact rfl) (hdn : d < nt := by decide) : JO P r o ⟨sl, h₀, nt, ds⟩ Q := w_alloc0 hz hzc ho hd hdn h
theorem w_store {x : Operand} {y : Operand} {v : AV} {T : TypeId} {n id off : Nat} {cs vc cs' : List AV} (hn : (P.info? T).map (·.size) = some n)
 (ho : o.op = .store T x y) (hd : o.dst = none) (hx : ev sl x = some (.ptr (some (id, off)))) (hy : ev sl y = some v) (hvc : v.cells = vc) (hg : h₀.get id = some (.own cs))
 (hvn : vc.length = n) (hle : off + n ≤ cs.length) (h1 : vc.all AV.one = true) (hcs : splice cs off vc = cs')
 (h : ∀ h', h₀.SetTo id (.own cs') h' → Q .normal ⟨sl, h', nt, ds⟩) : JO P r o ⟨sl, h₀, nt, ds⟩ Q :=
 o_store hn ho hd hx hy hvc hg hvn hle h1 hcs h
theorem w_storeG {x : Operand} {y : Operand} {v : AV} {T : TypeId} {n id off esz : Nat} {cs vc cs' : List AV} (hn : (P.info? T).map (·.size) = some n)
 (ho : o.op = .store T x y) (hd : o.dst = none) (hx : ev sl x = some (.ptr (some (id, off)))) (hy : ev sl y = some v) (hvc : v.cells = vc) (hg : h₀.get id = some (.grow esz cs))
 (hvn : vc.length = n) (hle : off + n ≤ cs.length) (h1 : vc.all AV.one = true) (hcs : splice cs off vc = cs')
 (h : ∀ h', h₀.SetTo id (.grow esz cs') h' → Q .normal ⟨sl, h', nt, ds⟩) : JO P r o ⟨sl, h₀, nt, ds⟩ Q :=
 o_storeG hn ho hd hx hy hvc hg hvn hle h1 hcs h
theorem w_len {d : Nat} {x : Operand} {T : TypeId} {t : TypeId} {p : Option (Nat × Nat)} {len : Nat} {c : Cap} (hT : P.underlying t = some (.slice T)) (h : Q .normal ⟨(d, .int .i64 len) :: sl, h₀, nt, ds⟩) (ho : o.op = .call { callee := .builtin .len, args := #[x], argTypes := #[t] } := by exact rfl) (hd : o.dst = some d := by exact rfl) (hx : ev sl x = some (.slice p len c) := by exact rfl) (hdn : d < nt := by decide) : JO P r o ⟨sl, h₀, nt, ds⟩ Q :=
 o_len hT ho hd hdn hx h
theorem w_lenStr {d : Nat} {x : Operand} {t : TypeId} {p : ByteArray} (hT : P.underlying t = some .string) (h : Q .normal ⟨(d, .int .i64 p.size) :: sl, h₀, nt, ds⟩) (ho : o.op = .call { callee := .builtin .len, args := #[x], argTypes := #[t] } := by exact rfl) (hd : o.dst = some d := by exact rfl) (hx : ev sl x = some (.str p) := by exact rfl) (hdn : d < nt := by decide) : JO P r o ⟨sl, h₀, nt, ds⟩ Q :=
 o_lenStr hT ho hd hdn hx h
theorem w_buildSlice {d : Nat} {T : TypeId} {U : TypeId} {len n : Nat} {parts : Array (Nat × Operand)} {vs : List (Nat × AV)} {z : AV} {out : List AV} (hU : P.underlying U = some (.slice T)) (hn : (P.info? T).map (·.size) = some n) (hz : zeroIs P T z) (hzn : z.cells.length = n)
 (hmax : len * n ≤ 16777216) (ho : o.op = .buildSlice U len parts) (hd : o.dst = some d) (hdn : d < nt) (hx : evP sl parts.toList = some vs) (hf : afill (fun i => some (i * n, n)) (aRep z.cells len) vs = some out)
 (h : ∀ i h', h₀.AddTo i (.own out) h' → Q .normal ⟨(d, .slice (some (i, 0)) len (.exact len)) :: sl, h', nt, ds⟩) : JO P r o ⟨sl, h₀, nt, ds⟩ Q :=
 o_buildSlice hU hn hz hzn hmax ho hd hdn hx hf h
theorem w_makeSlice {d : Nat} {x : Operand} {y : Operand} {T : TypeId} {U : TypeId} {n by_ : Nat} {z : AV} {l c : Nat} (hU : P.underlying U = some (.slice T)) (hi : (P.info? T).map (fun i => (i.size, i.bytes)) = some (n, by_)) (hz : zeroIs P T z) (hzn : z.cells.length = n)
 (ho : o.op = .makeSlice U x y) (hd : o.dst = some d) (hdn : d < nt) (hx : ev sl x = some (.int .i64 l)) (hy : ev sl y = some (.int .i64 c)) (hlc : l ≤ c) (hb : c * by_ ≤ 281474976710656) (hc : c ≤ 281474976710656)
 (h : ∀ i h', h₀.AddTo i (.own (aRep z.cells c)) h' → Q .normal ⟨(d, .slice (some (i, 0)) l (.exact c)) :: sl, h', nt, ds⟩) : JO P r o ⟨sl, h₀, nt, ds⟩ Q :=
 o_makeSlice hU hi hz hzn ho hd hdn hx hy hlc hb hc h
theorem w_sliceX {d : Nat} {x : Operand} {T : TypeId} {U : TypeId} {n len cap l hi m : Nat} {p : Option (Nat × Nat)} {lo hi' mx : Option Operand} {nl nh nm : Option Int} (hU : P.underlying U = some (.slice T)) (hn : (P.info? T).map (·.size) = some n) (h : Q .normal ⟨(d, .slice (if m = l then p else p.map fun q => (q.1, q.2 + l * n)) (hi - l) (.exact (m - l))) :: sl, h₀, nt, ds⟩) (ho : o.op = .slice U x lo hi' mx := by exact rfl) (hd : o.dst = some d := by exact rfl) (hx : ev sl x = some (.slice p len (.exact cap)) := by exact rfl) (e1 : evO sl lo = some nl := by exact rfl) (e2 : evO sl hi' = some nh := by exact rfl) (e3 : evO sl mx = some nm := by exact rfl) (hm : m = (nm.map Int.toNat).getD cap := by exact rfl) (hh : hi = (nh.map Int.toNat).getD len := by exact rfl) (hl : l = (nl.map Int.toNat).getD 0 := by exact rfl) (hdn : d < nt := by decide) (p1 : ∀ i ∈ nl, 0 ≤ i := by simp) (p2 : ∀ i ∈ nh, 0 ≤ i) (p3 : ∀ i ∈ nm, 0 ≤ i := by simp) (hnm : nm.isSome = true → nh.isSome = true) (c1 : l ≤ hi := by omega) (c2 : hi ≤ m := by omega) (c3 : m ≤ cap := by omega) : JO P r o ⟨sl, h₀, nt, ds⟩ Q :=
 o_sliceX hU hn ho hd hdn hx e1 e2 e3 hm hh hl p1 p2 p3 hnm c1 c2 c3 h
theorem w_appendN {d : Nat} {x : Operand} {y : Operand} {t : TypeId} {t2 : TypeId} {e : TypeId} {esz : Nat} {by_ : Nat} {z : AV} {p q : Option (Nat × Nat)} {n0 n cap : Nat} {c2 : Cap} {old new out : List AV} (ha : AppT P t t2 e esz by_ z)
 (ho : o.op = .call { callee := .builtin .append, args := #[x, y], argTypes := #[t, t2] }) (hd : o.dst = some d) (hdn : d < nt)
 (hx : ev sl x = some (.slice p n0 (.exact cap))) (hy : ev sl y = some (.slice q n c2)) (h1 : slCells h₀ n0 esz (.slice p n0 (.exact cap)) = some old) (h2 : slCells h₀ n esz (.slice q n c2) = some new)
 (hno : cap < n0 + n) (hle : n0 + n ≤ 4294967296) (hout : old ++ new = out)
 (h : ∀ i h', h₀.AddTo i (.grow esz out) h' → Q .normal ⟨(d, .slice (some (i, 0)) (n0 + n) (.grow 0)) :: sl, h', nt, ds⟩) : JO P r o ⟨sl, h₀, nt, ds⟩ Q :=
 o_appendN ha ho hd hdn hx hy h1 h2 hno hle hout h
theorem w_append0 {d : Nat} {x : Operand} {y : Operand} {t : TypeId} {t2 : TypeId} {e : TypeId} {esz : Nat} {by_ : Nat} {z : AV} {p q : Option (Nat × Nat)} {n0 cap : Nat} {c2 : Cap} (ha : AppT P t t2 e esz by_ z)
 (ho : o.op = .call { callee := .builtin .append, args := #[x, y], argTypes := #[t, t2] }) (hd : o.dst = some d) (hdn : d < nt)
 (hx : ev sl x = some (.slice p n0 (.exact cap))) (hy : ev sl y = some (.slice q 0 c2)) (h2 : slCells h₀ 0 esz (.slice q 0 c2) = some []) (hle : n0 ≤ cap)
 (h : Q .normal ⟨(d, .slice p n0 (.exact cap)) :: sl, h₀, nt, ds⟩) : JO P r o ⟨sl, h₀, nt, ds⟩ Q :=
 o_append0 ha ho hd hdn hx hy h2 hle h
theorem w_appendG {d : Nat} {x : Operand} {y : Operand} {t : TypeId} {t2 : TypeId} {e : TypeId} {esz : Nat} {by_ : Nat} {z : AV} {q : Option (Nat × Nat)} {id n0 n : Nat} {c2 : Cap} {cs new out : List AV} (ha : AppT P t t2 e esz by_ z)
 (ho : o.op = .call { callee := .builtin .append, args := #[x, y], argTypes := #[t, t2] }) (hd : o.dst = some d) (hdn : d < nt)
 (hx : ev sl x = some (.slice (some (id, 0)) n0 (.grow 0))) (hy : ev sl y = some (.slice q n c2)) (hg : h₀.get id = some (.grow esz cs)) (hfull : cs.length = n0 * esz)
 (h2 : slCells h₀ n esz (.slice q n c2) = some new) (h1 : new.all AV.one = true) (hle : n0 + n ≤ 4294967296) (hout : cs ++ new = out)
 (h : ∀ i h', h₀.MoveTo id i (.grow esz out) h' → Q .normal ⟨(d, .slice (some (i, 0)) (n0 + n) (.grow 0)) :: sl, h', nt, ds⟩) : JO P r o ⟨sl, h₀, nt, ds⟩ Q :=
 o_appendG ha ho hd hdn hx hy hg hfull h2 h1 hle hout h
theorem w_copy {d : Nat} {x : Operand} {y : Operand} {t : TypeId} {t2 : TypeId} {e : TypeId} {esz : Nat} {q : Option (Nat × Nat)} {id off dl sln n cap : Nat} {c2 : Cap} {cs new cs' : List AV} (ht : P.underlying t = some (.slice e)) (hn : (P.info? e).map (·.size) = some esz)
 (ho : o.op = .call { callee := .builtin .copy, args := #[x, y], argTypes := #[t, t2] }) (hd : o.dst = some d) (hdn : d < nt)
 (hx : ev sl x = some (.slice (some (id, off)) dl (.exact cap))) (hy : ev sl y = some (.slice q sln c2)) (hg : h₀.get id = some (.own cs)) (hmin : n = min sln dl) (h2 : slCells h₀ n esz (.slice q sln c2) = some new) (h1 : new.all AV.one = true)
 (hin : off + n * esz ≤ cs.length) (hcs : splice cs off new = cs')
 (h : ∀ h', h₀.SetTo id (.own cs') h' → Q .normal ⟨(d, .int .i64 n) :: sl, h', nt, ds⟩) : JO P r o ⟨sl, h₀, nt, ds⟩ Q :=
 o_copy ht hn ho hd hdn hx hy hg hmin h2 h1 hin hcs h
theorem w_callV {d : Nat} {x : Operand} {args : Array Operand} {ats : Array TypeId} {vs : List AV} {fv : AV} (ho : o.op = .call { callee := .value x, args, argTypes := ats }) (hd : o.dst = some d) (hdn : d < nt)
 (hx : ev sl x = some fv) (ha : evL sl args.toList = some vs) (h : JApp P fv vs h₀ (BehindW d sl nt ds Q)) : JO P r o ⟨sl, h₀, nt, ds⟩ Q :=
 o_callV ho hd hdn hx ha h
theorem w_call {d : Nat} {args : Array Operand} {ats : Array TypeId} {vs : List AV} {f : FuncId} {fn : Func} {c : Code} (hf : IsFn P f fn c) (ho : o.op = .call { callee := .value (.func f), args, argTypes := ats }) (hd : o.dst = some d) (hdn : d < nt)
 (ha : evL sl args.toList = some vs) (h : JCall P f vs h₀ (BehindW d sl nt ds Q)) : JO P r o ⟨sl, h₀, nt, ds⟩ Q :=
 o_call hf ho hd hdn ha h
end rules
section rules
variable {P : Program} {r : Option Nat} {sl : List (Nat × AV)} {h₀ : AH} {nt : Nat} {ds : List ADef} {Q : AExit → St → Prop} {o : Oper} {d : Nat} {x y : Operand} {v u : AV} {c cx cy : Code}
theorem k_cond {b : Bool} (hc : c = .cond x cx cy) (ho : ev sl x = some (.bool b)) (ht : b = true → J P r cx ⟨sl, h₀, nt, ds⟩ Q) (hf : b = false → J P r cy ⟨sl, h₀, nt, ds⟩ Q) : J P r c ⟨sl, h₀, nt, ds⟩ Q := J_cond hc ho ht hf
theorem k_condD {p : Prop} {dp : Decidable p} (hc : c = .cond x cx cy) (ho : ev sl x = some (.bool (decide p))) (ht : p → J P r cx ⟨sl, h₀, nt, ds⟩ Q) (hf : ¬p → J P r cy ⟨sl, h₀, nt, ds⟩ Q) : J P r c ⟨sl, h₀, nt, ds⟩ Q := J_condD hc ho ht hf
theorem k_condT (hc : c = .cond x cx cy) (ho : ev sl x = some (.bool true)) (ht : J P r cx ⟨sl, h₀, nt, ds⟩ Q) : J P r c ⟨sl, h₀, nt, ds⟩ Q := J_cond hc ho (fun _ => ht) (fun h => by simp at h)
theorem k_condF (hc : c = .cond x cx cy) (ho : ev sl x = some (.bool false)) (hf : J P r cy ⟨sl, h₀, nt, ds⟩ Q) : J P r c ⟨sl, h₀, nt, ds⟩ Q := J_cond hc ho (fun h => by simp at h) (fun _ => hf)
theorem w_ldC {T : TypeId} {id off : Nat} {cs : List AV} (hT : Cell P T) (hc : h₀.cells id = some cs) (h : Q .normal ⟨(d, v) :: sl, h₀, nt, ds⟩) (ho : o.op = .load T x := by exact rfl) (hd : o.dst = some d := by exact rfl) (hx : ev sl x = some (.ptr (some (id, off))) := by exact rfl) (hv : cs[off]? = some v := by exact rfl) (hdn : d < nt := by decide) : JO P r o ⟨sl, h₀, nt, ds⟩ Q := by
 obtain ⟨D, h1, h2, h3⟩ := hT.ex
 exact o_load h1 h3 ho hd hdn hx hc (by rw [h2]; exact hv) h
theorem w_ldA {T : TypeId} {id off n : Nat} {cs l : List AV} (hT : Agg P T n) (hc : h₀.cells id = some cs) (h : Q .normal ⟨(d, .agg l) :: sl, h₀, nt, ds⟩) (ho : o.op = .load T x := by exact rfl) (hd : o.dst = some d := by exact rfl) (hx : ev sl x = some (.ptr (some (id, off))) := by exact rfl) (hl : (cs.drop off).take n = l := by exact rfl) (hdn : d < nt := by decide) (hn : off + n ≤ cs.length := by simp) : JO P r o ⟨sl, h₀, nt, ds⟩ Q := by
 obtain ⟨D, h1, h2, h3⟩ := hT.ex
 exact o_load (v := .agg l) h1 h3 ho hd hdn hx hc (by rw [h2]; simp only [ldA, if_true, if_pos hn, hl]) h
theorem w_fieldC {T S : TypeId} {i off : Nat} {cs : List AV} (hf : fieldIs P S i off T) (hT : Cell P T) (h : Q .normal ⟨(d, v) :: sl, h₀, nt, ds⟩) (ho : o.op = .field S x i := by exact rfl) (hd : o.dst = some d := by exact rfl) (hx : ev sl x = some (.agg cs) := by exact rfl) (hv : cs[off]? = some v := by exact rfl) (hdn : d < nt := by decide) : JO P r o ⟨sl, h₀, nt, ds⟩ Q := by
 obtain ⟨D, h1, h2, h3⟩ := hT.ex
 exact o_field hf h1 h3 ho hd hdn hx (by rw [h2]; exact hv) h
theorem w_fieldA {T S : TypeId} {i off n : Nat} {cs l : List AV} (hf : fieldIs P S i off T) (hT : Agg P T n) (h : Q .normal ⟨(d, .agg l) :: sl, h₀, nt, ds⟩) (ho : o.op = .field S x i := by exact rfl) (hd : o.dst = some d := by exact rfl) (hx : ev sl x = some (.agg cs) := by exact rfl) (hv : (cs.drop off).take n = l := by exact rfl) (hdn : d < nt := by decide) : JO P r o ⟨sl, h₀, nt, ds⟩ Q := by
 obtain ⟨D, h1, h2, h3⟩ := hT.ex
 exact o_field (v := .agg l) hf h1 h3 ho hd hdn hx (by rw [h2]; simp only [partA, if_true, hv]) h
theorem w_callV' {args : Array Operand} {ats : Array TypeId} {vs : List AV} {fv : AV} {R : AEnd → AH → Prop} (h : ∀ e h', R e h' → BehindW d sl nt ds Q e h') (ho : o.op = .call { callee := .value x, args, argTypes := ats } := by exact rfl) (hd : o.dst = some d := by exact rfl) (hx : ev sl x = some fv := by exact rfl) (ha : evL sl args.toList = some vs := by exact rfl) (hdn : d < nt := by decide) (hR : JApp P fv vs h₀ R) : JO P r o ⟨sl, h₀, nt, ds⟩ Q := w_callV ho hd hdn hx ha (hR.mono h)
theorem w_call'0 {args : Array Operand} {ats : Array TypeId} {vs : List AV} {f : FuncId} {fn : Func} {cb : Code} {R : AEnd → AH → Prop} (hf : IsFn P f fn cb) (ho : o.op = .call { callee := .value (.func f), args, argTypes := ats }) (hd : o.dst = some d) (hdn : d < nt)
 (ha : evL sl args.toList = some vs) (hR : JCall P f vs h₀ R) (h : ∀ e h', R e h' → BehindW d sl nt ds Q e h') : JO P r o ⟨sl, h₀, nt, ds⟩ Q := w_call hf ho hd hdn ha (hR.mono h)
theorem w_call' {args : Array Operand} {ats : Array TypeId} {vs : List AV} {f : FuncId} {fn : Func} {cb : Code} {R : AEnd → AH → Prop} (hf : IsFn P f fn cb) (h : ∀ e h', R e h' → BehindW d sl nt ds Q e h') (ho : o.op = .call { callee := .value (.func f), args, argTypes := ats } := by exact rfl) (hd : o.dst = some d := by exact rfl) (ha : evL sl args.toList = some vs := by exact rfl) (hdn : d < nt := by decide) (hR : JCall P f vs h₀ R) : JO P r o ⟨sl, h₀, nt, ds⟩ Q := w_call'0 hf ho hd hdn ha hR h
end rules
structure Ext (h h' : AH) : Prop where
 next : h.next ≤ h'.next
 get : ∀ j cs, h.get j = some (.ro cs) → h'.get j = some (.ro cs)
theorem Ext.refl (h : AH) : Ext h h := ⟨Nat.le_refl _, fun _ _ h => h⟩
theorem Ext.trans {h h' h'' : AH} (a : Ext h h') (b : Ext h' h'') : Ext h h'' := ⟨Nat.le_trans a.next b.next, fun j c hj => b.get j c (a.get j c hj)⟩
theorem Le.ext {h h' : AH} (a : Le h h') : Ext h h' := ⟨a.next, fun j cs hj => a.get j _ hj⟩
def Ro (h : AH) (i : Nat) (cs : List AV) : Prop := h.get i = some (.ro cs)
def Own (h : AH) (i : Nat) (cs : List AV) : Prop := h.get i = some (.own cs)
def Grow (h : AH) (i e : Nat) (cs : List AV) : Prop := h.get i = some (.grow e cs)
theorem Ro.ext {h h' : AH} {i : Nat} {cs : List AV} (a : Ro h i cs) (e : Ext h h') : Ro h' i cs := e.get i cs a
theorem Ro.le {h h' : AH} {i : Nat} {cs : List AV} (a : Ro h i cs) (e : Le h h') : Ro h' i cs := e.get i _ a
theorem Own.le {h h' : AH} {i : Nat} {cs : List AV} (a : Own h i cs) (e : Le h h') : Own h' i cs := e.get i _ a
theorem Grow.le {h h' : AH} {i n : Nat} {cs : List AV} (a : Grow h i n cs) (e : Le h h') : Grow h' i n cs := e.get i _ a
theorem Ro.cells {h : AH} {i : Nat} {cs : List AV} (a : Ro h i cs) : h.cells i = some cs := cells_ro a
theorem Own.cells {h : AH} {i : Nat} {cs : List AV} (a : Own h i cs) : h.cells i = some cs := cells_own a
theorem Grow.cells {h : AH} {i n : Nat} {cs : List AV} (a : Grow h i n cs) : h.cells i = some cs := cells_grow a
structure But (h : AH) (i : Nat) (h' : AH) : Prop where
 next : h.next ≤ h'.next
 get : ∀ j c, j ≠ i → h.get j = some c → h'.get j = some c
theorem Own.but {h h' : AH} {i j : Nat} {cs : List AV} (a : Own h j cs) (e : But h i h') (hne : j ≠ i) : Own h' j cs := e.get j _ hne a
theorem Grow.but {h h' : AH} {i j n : Nat} {cs : List AV} (a : Grow h j n cs) (e : But h i h') (hne : j ≠ i) : Grow h' j n cs := e.get j _ hne a
theorem AH.SetTo.but {h h' : AH} {i : Nat} {c : Chunk} (a : h.SetTo i c h') : But h i h' := ⟨by rw [a.next]; exact Nat.le_refl _, fun j _ hne hj => by rw [a.old j hne]; exact hj⟩
theorem AH.MoveTo.but {h h' : AH} {i k : Nat} {c : Chunk} (a : h.MoveTo i k c h') (hw : h.wf) : But h i h' :=
 ⟨by rw [a.next]; omega, fun j cj hne hj => by rw [a.old j (by have := (hw j cj hj).1; have := a.is; omega) hne]; exact hj⟩
theorem But.ext {h h' : AH} {i : Nat} {c : Chunk} (a : But h i h') (hg : h.get i = some c) (hro : c.isRo = false) : Ext h h' :=
 ⟨a.next, fun j cs hj => a.get j _ (fun e => by subst e; rw [hj] at hg; cases hg; simp [Chunk.isRo] at hro) hj⟩
theorem AH.lt {h : AH} {i : Nat} {c : Chunk} (hw : h.wf) (hg : h.get i = some c) : i < h.next := (hw i c hg).1
section guards
variable {P : Program} {r : Option Nat} {sl : List (Nat × AV)} {h₀ : AH} {nt : Nat} {ds : List ADef} {Q : AExit → St → Prop} {ops : Array Oper} {l : List Nat} {o : Oper} {d : Nat}
theorem JL_more {v : AV} (hb : lk sl d = some v) (hj : JL P r ops l ⟨(d, v) :: sl, h₀, nt, ds⟩ Q) : JL P r ops l ⟨sl, h₀, nt, ds⟩ Q := by
 have key : ∀ k u, lk ((d, v) :: sl) k = some u → lk sl k = some u := fun k u hk => by
  simp only [lk] at hk
  split at hk
  · rename_i hb'
    have : d = k := Nat.eq_of_beq_eq_true hb'
    subst this; rw [hb]; exact hk
  · exact hk
 intro hw hr
 obtain ⟨e, s', w1, w2, w3, q, x⟩ := hj ⟨fun k u hk => hw.1 k u (key k u hk), hw.2.1, hw.2.2⟩ hr
 exact ⟨e, s', w1, w2, w3, q, fun ρ a w n hrel => x ρ a w n ⟨⟨hrel.1.1, fun k u hk => hrel.1.2 k u (key k u hk)⟩, hrel.2.1, hrel.2.2⟩⟩
theorem k_splitD {p : Prop} {dp : Decidable p} (hb : lk sl d = some (.bool (decide p))) (ht : p → JL P r ops l ⟨(d, .bool true) :: sl, h₀, nt, ds⟩ Q) (hf : ¬p → JL P r ops l ⟨(d, .bool false) :: sl, h₀, nt, ds⟩ Q) : JL P r ops l ⟨sl, h₀, nt, ds⟩ Q := by
 by_cases h : p
 · exact JL_more (hb.trans (by rw [decide_eq_true h])) (ht h)
 · exact JL_more (hb.trans (by rw [decide_eq_false h])) (hf h)
theorem k_splitB {b : Bool} (hb : lk sl d = some (.bool b)) (ht : b = true → JL P r ops l ⟨(d, .bool true) :: sl, h₀, nt, ds⟩ Q) (hf : b = false → JL P r ops l ⟨(d, .bool false) :: sl, h₀, nt, ds⟩ Q) : JL P r ops l ⟨sl, h₀, nt, ds⟩ Q := by
 cases b
 · exact JL_more hb (hf rfl)
 · exact JL_more hb (ht rfl)
theorem w_skip {i j g : Nat} {want b : Bool} {oj : Oper} (ho : ops[i]? = some o) (hg : o.guard = some (j, want)) (hj : ops[j]? = some oj) (hd : oj.dst = some g) (hb : lk sl g = some (.bool b)) (hne : b ≠ want) (hod : o.dst = some d) (hdn : d < nt)
 (h : JL P r ops l ⟨(d, .tuple []) :: sl, h₀, nt, ds⟩ Q) : JL P r ops (i :: l) ⟨sl, h₀, nt, ds⟩ Q := by
 intro hw hr
 obtain ⟨e, s', w1, w2, w3, q, x⟩ := h (wf_put (s := ⟨sl, h₀, nt, ds⟩) hw hw.2.1 (Nat.le_refl _) (Nat.zero_le _)) hr
 refine ⟨e, s', w1, w2, w3, q, fun ρ a w n hrel => ?_⟩
 have hwant : Region.wanted o (yielded ops a.tmps) = false := by simp [Region.wanted, hg, yielded_of hrel hj hd hb, hne]
 simp only [wpOpsIn, ho, hwant, if_false, Bool.false_eq_true]
 refine ⟨fun _ _ => trivial, ?_⟩
 have := hrel.put (v := .tuple []) hw hrel.2.2 (.refl _ _ _) (show d < nt from hdn)
 rw [hod]
 exact x ρ _ w n (by simpa [conc, concL, undef] using this)
end guards
structure LeM (M : List Nat) (h h' : AH) : Prop where
 next : h.next ≤ h'.next
 get : ∀ j c, j ∉ M → h.get j = some c → h'.get j = some c
theorem LeM.refl (M : List Nat) (h : AH) : LeM M h h := ⟨Nat.le_refl _, fun _ _ _ h => h⟩
theorem LeM.trans {M : List Nat} {h h' h'' : AH} (a : LeM M h h') (b : LeM M h' h'') : LeM M h h'' := ⟨Nat.le_trans a.next b.next, fun j c hm hj => b.get j c hm (a.get j c hm hj)⟩
theorem LeM.le {M : List Nat} {h h' h'' : AH} (a : LeM M h h') (b : Le h' h'') : LeM M h h'' := ⟨Nat.le_trans a.next b.next, fun j c hm hj => b.get j c (a.get j c hm hj)⟩
theorem Le.leM {M : List Nat} {h h' : AH} (a : Le h h') : LeM M h h' := ⟨a.next, fun j c _ hj => a.get j c hj⟩
theorem LeM.but {M : List Nat} {h h' h'' : AH} {i : Nat} (a : LeM M h h') (b : But h' i h'') (hw : h.wf) (hi : i ∈ M ∨ h.next ≤ i) : LeM M h h'' :=
 ⟨Nat.le_trans a.next b.next, fun j c hm hj => b.get j c (fun e => by
  subst e
  rcases hi with hi | hi
  · exact hm hi
  · have := (hw j c hj).1; omega) (a.get j c hm hj)⟩
theorem Own.leM {M : List Nat} {h h' : AH} {i : Nat} {cs : List AV} (a : Own h i cs) (b : LeM M h h') (hi : i ∉ M) : Own h' i cs := b.get i _ hi a
theorem Grow.leM {M : List Nat} {h h' : AH} {i n : Nat} {cs : List AV} (a : Grow h i n cs) (b : LeM M h h') (hi : i ∉ M) : Grow h' i n cs := b.get i _ hi a
def SlR (h : AH) (p : Option (Nat × Nat)) (n esz : Nat) (E : List AV → Prop) : Prop :=
 0 < n → ∃ id off cs, p = some (id, off) ∧ Ro h id cs ∧ off + n * esz ≤ cs.length ∧ ∀ i : Int, 0 ≤ i → i < n → ∃ l, l.length = esz ∧ E l ∧ (cs.drop (off + i.toNat * esz)).take esz = l
theorem SlR.ext {h h' : AH} {p : Option (Nat × Nat)} {n esz : Nat} {E : List AV → Prop} (a : SlR h p n esz E) (hl : Ext h h') : SlR h' p n esz E := fun hn => by
 obtain ⟨id, off, cs, h1, h2, h3⟩ := a hn
 exact ⟨id, off, cs, h1, h2.ext hl, h3⟩
theorem SlR.le {h h' : AH} {p : Option (Nat × Nat)} {n esz : Nat} {E : List AV → Prop} (a : SlR h p n esz E) (hl : Le h h') : SlR h' p n esz E := a.ext hl.ext
theorem SlR.imp {h : AH} {p : Option (Nat × Nat)} {n esz : Nat} {E E' : List AV → Prop} (a : SlR h p n esz E) (hE : ∀ l, l.length = esz → E l → E' l) : SlR h p n esz E' := fun hn => by
 obtain ⟨id, off, cs, h1, h2, h3, h4⟩ := a hn
 exact ⟨id, off, cs, h1, h2, h3, fun i h0 hi => by obtain ⟨l, q1, q2, q3⟩ := h4 i h0 hi; exact ⟨l, q1, hE l q1 q2, q3⟩⟩
theorem SlR.at {h : AH} {p : Option (Nat × Nat)} {n esz : Nat} {E : List AV → Prop} (a : SlR h p n esz E) {i : Int} (h0 : 0 ≤ i) (hi : i < n) :
 ∃ id off cs l, p = some (id, off) ∧ Ro h id cs ∧ off + i.toNat * esz + esz ≤ cs.length ∧ l.length = esz ∧ E l ∧ (cs.drop (off + i.toNat * esz)).take esz = l := by
 obtain ⟨id, off, cs, h1, h2, h3, h4⟩ := a (by omega)
 obtain ⟨l, q1, q2, q3⟩ := h4 i h0 hi
 refine ⟨id, off, cs, l, h1, h2, ?_, q1, q2, q3⟩
 have : (i.toNat + 1) * esz ≤ n * esz := Nat.mul_le_mul_right _ (by omega)
 rw [Nat.add_mul] at this; omega
theorem SlR.take {h : AH} {p : Option (Nat × Nat)} {n m esz : Nat} {E : List AV → Prop} (a : SlR h p n esz E) (hm : m ≤ n) : SlR h p m esz E := fun h0 => by
 obtain ⟨id, off, cs, h1, h2, h3, h4⟩ := a (by omega)
 exact ⟨id, off, cs, h1, h2, by have := Nat.mul_le_mul_right esz hm; omega, fun i h0 hi => h4 i h0 (by omega)⟩
theorem cell_of_take {cs l : List AV} {o n k : Nat} {v : AV} (h : (cs.drop o).take n = l) (hv : l[k]? = some v) : cs[o + k]? = some v := by
 subst h
 rw [List.getElem?_take] at hv
 split at hv
 · rw [List.getElem?_drop] at hv; exact hv
 · simp at hv
theorem cell_of_take0 {cs l : List AV} {o n : Nat} {v : AV} (h : (cs.drop o).take n = l) (hv : l[0]? = some v) : cs[o]? = some v := cell_of_take h hv
theorem take_of_take {cs l l' : List AV} {o n k m : Nat} (h : (cs.drop o).take n = l) (hk : k + m ≤ n) (hl : (l.drop k).take m = l') : (cs.drop (o + k)).take m = l' := by
 subst h; subst hl
 rw [List.drop_take, List.take_take, List.drop_drop]
 congr 1; omega
def IntE (lo hi : Int) (l : List AV) : Prop := ∃ n, l = [.int .i64 n] ∧ lo ≤ n ∧ n ≤ hi
def AnyInt (l : List AV) : Prop := ∃ n, l = [.int .i64 n]
def AnyStr (l : List AV) : Prop := ∃ s, l = [.str s] ∧ s.size ≤ 1099511627776
end Go.J
