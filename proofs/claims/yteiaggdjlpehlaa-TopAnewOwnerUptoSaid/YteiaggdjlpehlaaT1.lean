import Derived.RangeFuncLeaves
import Derived.RangeFuncRecord
import Derived.Laws.Sem
import Derived.Laws.World
import Derived.IntWalk
import Derived.Laws.Entries
import Derived.Laws.CopyRow
import Derived.Laws.Cells
import Derived.CallsIn
import Derived.OrdersIn
import Derived.KernelRfl
set_option linter.all false
namespace Go
abbrev zbe:=@Option.some.injEq
abbrev zbf:=@Bool.and_eq_true
abbrev zbg:=@Nat.eq_of_beq_eq_true
abbrev zbh:=@List.mem_cons_of_mem
abbrev zbi:=@Nat.le_refl
abbrev zbj:=@Nat.le_of_ble_eq_true
abbrev zbk:=@Result.andThen_ok
abbrev zbl:=@Nat.zero_le
abbrev zbm:=@List.mem_cons
abbrev zbn:=@Bool.false_eq_true
abbrev zbo:=@Nat.le_trans
abbrev zbp:=@Option.map_some
abbrev zbq:=@List.mem_cons_self
abbrev zbr:=@List.mem_append
abbrev zbs:=@List.mem_singleton
abbrev zbt:=@Prod.mk.injEq
abbrev zbu:=@Bool.or_eq_true
abbrev zbv:=@Nat.zero_add
abbrev zbw:=@Option.map_eq_some_iff
abbrev zbx:=@Sem.run_bind
abbrev zby:=@Sem.run_pure
abbrev zbz:=@Option.some.inj
abbrev zc0:=@Nat.lt_succ_self
abbrev zc1:=@List.all_eq_true
abbrev zc2:=@Nat.mul_le_mul_right
abbrev zc3:=@List.map_cons
abbrev zc4:=@List.mem_of_getElem?
abbrev zc5:=@Nat.eq_zero_or_pos
abbrev zc6:=@List.not_mem_nil
abbrev zc7:=@Nat.add_mul
abbrev zc8:=@List.length_append
abbrev zc9:=@Array.getD_eq_getD_getElem?
abbrev zca:=@Nat.beq_refl
abbrev zcb:=@Nat.le_succ
abbrev zcc:=@List.length_take
abbrev zcd:=@List.mem_map
abbrev zce:=@List.length_cons
abbrev zcf:=@Int.toNat_natCast
abbrev zcg:=@List.getElem?_eq_getElem
abbrev zch:=@Array.getElem?_eq_some_iff
abbrev zci:=@List.getElem?_eq_some_iff
abbrev zcj:=@Option.isSome_iff_exists
abbrev zck:=@List.getElem?_append_left
abbrev zcl:=@List.getElem?_append_right
abbrev zcm:=@Nat.lt_of_lt_of_le
abbrev zcn:=@Nat.not_lt_zero
abbrev zco:=@List.pairwise_cons
abbrev zcp:=@List.getElem?_take
abbrev zcq:=@List.getElem?_drop
abbrev zcr:=@List.append_nil
abbrev zcs:=@List.length_drop
end Go
namespace Go.J
inductive Cap where
 | exact(n:Nat)
 | grow (d:Nat)
inductive AV where
 | bool (b:Bool)
 | int (k:IntKind) (n:Int)
 | str (s:ByteArray)
 | ptr (a:Option (Nat×Nat))
 | slice (a:Option (Nat×Nat)) (len:Nat) (cap:Cap)
 | map (r:Option Nat)
 | fn (f:Fn) (first captured:List AV)
 | yield (l:Nat)
 | nilFunc
 | iface (t:TypeId) (v:AV)
 | nilIface
 | agg (cells:List AV)
 | tuple (vs:List AV)
structure Ren where
 blk:Nat→Nat
 off:Nat→Nat
 cap:Nat→Nat
def Ren.addr(ρ:Ren)(p:Nat×Nat):Addr:=⟨ρ.blk p.1,ρ.off p.1+p.2,none⟩
def Cap.conc(ρ:Ren)(a:Option (Nat×Nat)):Cap→Nat
 | .exact n=>n
 | .grow d=>match a with | some p=>ρ.cap p.1 - d | none=>0
mutual
def conc(ρ:Ren):AV→Value
 | .bool b=> .bool b
 | .int k n=> .int k n
 | .str s=> .string s
 | .ptr a=> .pointer (a.map ρ.addr)
 | .slice a len c=> .slice (a.map ρ.addr) len (c.conc ρ a)
 | .map r=> .map (r.map ρ.blk)
 | .fn f first captured=> .func f (q04 ρ first).toArray (q04 ρ captured).toArray
 | .yield l=> .func (.yield (ρ.blk l)) #[] #[]
 | .nilFunc=> .nilFunc
 | .iface t v=> .iface t (conc ρ v)
 | .nilIface=> .nilIface
 | .agg cs=> .agg (q04 ρ cs).toArray
 | .tuple vs=> .tuple (q04 ρ vs).toArray
def q04(ρ:Ren):List AV→List Value
 | []=>[]
 | v :: r=>conc ρ v :: q04 ρ r
end
def supA:Option (Nat×Nat)→Nat
 | some p=>p.1+1
 | none=>0
mutual
def AV.sup:AV→Nat
 | .bool _=>0
 | .int _ _=>0
 | .str _=>0
 | .ptr a=>supA a
 | .slice a _ _=>supA a
 | .map r=>match r with | some r=>r+1 | none=>0
 | .fn _ first captured=>max (supL first) (supL captured)
 | .yield l=>l+1
 | .nilFunc=>0
 | .iface _ v=>v.sup
 | .nilIface=>0
 | .agg cs=>supL cs
 | .tuple vs=>supL vs
def supL:List AV→Nat
 | []=>0
 | v :: r=>max v.sup (supL r)
end
def Ren.ext(ρ ρ':Ren)(n:Nat):Prop:= ∀ i,i<n→ρ'.blk i=ρ.blk i∧ρ'.off i=ρ.off i∧ρ'.cap i=ρ.cap i
theorem Ren.ext.refl(ρ:Ren)(n:Nat):ρ.ext ρ n:=fun _ _=>⟨rfl,rfl,rfl⟩
theorem Ren.ext.trans{ρ ρ' ρ'':Ren}{n n':Nat}(h:ρ.ext ρ' n)(h':ρ'.ext ρ'' n')(hn:n≤n'):ρ.ext ρ'' n:=fun i hi=>by
 obtain⟨a,b,c⟩:=h i hi;obtain⟨a',b',c'⟩:=h' i (by omega)
 exact⟨a'.trans a,b'.trans b,c'.trans c⟩
theorem qq0{ρ ρ':Ren}{n:Nat}(h:ρ.ext ρ' n){p:Nat×Nat}(hp:p.1<n):ρ'.addr p=ρ.addr p:=by
 obtain⟨a,b,_⟩:=h p.1 hp;simp[Ren.addr,a,b]
mutual
theorem q2d{ρ ρ':Ren}{n:Nat}(h:ρ.ext ρ' n):∀ v:AV,v.sup≤n→conc ρ' v=conc ρ v
 | .bool _,_=>rfl
 | .int _ _,_=>rfl
 | .str _,_=>rfl
 | .ptr none,_=>rfl
 | .ptr (some p),hs=>by
   simp only[AV.sup,supA]at hs;simp only[conc,zbp,qq0 h (p:=p) (by omega)]
 | .slice none _ c,_=>by cases c<;>rfl
 | .slice (some p) _ c,hs=>by
   simp only[AV.sup,supA]at hs;have hp:p.1<n:=by omega
   obtain⟨_,_,hc⟩:=h p.1 hp;cases c<;>simp only[conc,Cap.conc,zbp,qq0 h hp,hc]
 | .map none,_=>rfl
 | .map (some r),hs=>by
   simp only[AV.sup]at hs;obtain⟨a,_,_⟩:=h r (by omega)
   simp only[conc,zbp,a]
 | .fn f first captured,hs=>by
   simp only[AV.sup]at hs;simp only[conc,q0u h first (by omega),q0u h captured (by omega)]
 | .yield l,hs=>by
   simp only[AV.sup]at hs;obtain⟨a,_,_⟩:=h l (by omega)
   simp only[conc,a]
 | .nilFunc,_=>rfl
 | .iface t v,hs=>by
   simp only[AV.sup]at hs;simp only[conc,q2d h v hs]
 | .nilIface,_=>rfl
 | .agg cs,hs=>by
   simp only[AV.sup]at hs;simp only[conc,q0u h cs hs]
 | .tuple vs,hs=>by
   simp only[AV.sup]at hs;simp only[conc,q0u h vs hs]
theorem q0u{ρ ρ':Ren}{n:Nat}(h:ρ.ext ρ' n):∀ l:List AV,supL l≤n→q04 ρ' l=q04 ρ l
 | [],_=>rfl
 | v :: r,hs=>by
   simp only[supL]at hs;simp only[q04,q2d h v (by omega),q0u h r (by omega)]
end
theorem q52(ρ:Ren)(l:List AV):q04 ρ l=l.map (conc ρ):=by
 induction l with
 | nil=>rfl
 | cons v r ih=>simp[q04,ih]
@[simp] theorem q53(ρ:Ren)(l:List AV):(q04 ρ l).length=l.length:=by simp[q52]
@[simp] theorem q51(ρ:Ren)(l m:List AV):q04 ρ (l++m)=q04 ρ l++q04 ρ m:=by simp[q52]
theorem q2f(ρ:Ren)(l:List AV)(i:Nat):(q04 ρ l)[i]?=(l[i]?).map (conc ρ):=by simp[q52]
theorem q3s{l:List AV}{n:Nat}:supL l≤n↔ ∀ v∈l,v.sup≤n:=by
 induction l with
 | nil=>simp[supL]
 | cons v r ih=>simp only[supL,zbm,forall_eq_or_imp,←ih]; omega
theorem q1r(l m:List AV):supL (l++m)=max (supL l) (supL m):=by
 induction l with
 | nil=>simp[supL]
 | cons v r ih=>simp only[List.cons_append,supL,ih]; omega
theorem q6m{l:List AV}{n i:Nat}{v:AV}(h:supL l≤n)(hv:l[i]?=some v):v.sup≤n:=q3s.1 h v (zc4 hv)
inductive Chunk where
 | ro (cells:List AV)
 | own (cells:List AV)
 | grow (esz:Nat) (cells:List AV)
 | map (es:List (AV×AV×Nat)) (clock:Nat)
 | siter (s:ByteArray) (pos:Nat)
 | loop (l:LoopState) (pending:Option Code) (tmps:List (Nat×AV)) (ntmps:Nat) (params:Array Tmp) (assign body:Code) (mark:Nat)
 | mark
def Chunk.isRo:Chunk→Bool
 | .ro _=>true
 | _=>false
def supT:List (Nat×AV)→Nat
 | []=>0
 | kv :: r=>max kv.2.sup (supT r)
def supE:List (AV×AV×Nat)→Nat
 | []=>0
 | kv :: r=>max (max kv.1.sup kv.2.1.sup) (supE r)
def Chunk.sup:Chunk→Nat
 | .ro cs=>supL cs
 | .own cs=>supL cs
 | .grow _ cs=>supL cs
 | .map es _=>supE es
 | .siter _ _=>0
 | .loop _ _ ts _ _ _ _ m=>max (supT ts) (m+1)
 | .mark=>0
structure AH where
 next:Nat
 get:Nat→Option Chunk
def AH.wf(h:AH):Prop:= ∀ i c,h.get i=some c→i<h.next∧c.sup≤h.next
def lk:List (Nat×AV)→Nat→Option AV
 | [],_=>none
 | kv :: r,k=>if Nat.beq kv.1 k then some kv.2 else lk r k
theorem qwp{l:List (Nat×AV)}{k:Nat}{v:AV}(h:lk l k=some v):(k,v)∈l:=by
 induction l with
 | nil=>simp[lk]at h
 | cons kv r ih=>
   simp only[lk]at h;split at h
   · rename_i hb
     have:kv.1=k:=zbg hb;cases kv; simp at h this; subst this; subst h; simp
   · exact zbh _ (ih h)
theorem qyc{l:List (Nat×AV)}{k n:Nat}{v:AV}(hs:supT l≤n)(h:lk l k=some v):v.sup≤n:=by
 induction l with
 | nil=>simp[lk]at h
 | cons kv r ih=>
   simp only[supT]at hs;simp only[lk]at h;split at h
   · simp at h; subst h; omega
   · exact ih (by omega) h
inductive ADef where
 | mark (id:Nat)
 | call (f:AV) (args:List AV)
def ADef.sup:ADef→Nat
 | .mark id=>id+1
 | .call f args=>max f.sup (supL args)
def supD:List ADef→Nat
 | []=>0
 | d :: r=>max d.sup (supD r)
structure St where
 slots:List (Nat×AV)
 h:AH
 n:Nat
 defs:List ADef
def St.wf(s:St):Prop:=(∀ k v,lk s.slots k=some v→v.sup≤s.h.next)∧s.h.wf∧supD s.defs≤s.h.next
def q2e(ρ:Ren)(ts:List (Nat×AV))(n:Nat)(tmps:Array Value):Prop:=
 tmps.size=n∧ ∀ k v,lk ts k=some v→tmps[k]?=some (conc ρ v)
def Real(ρ:Ren)(id:Nat)(w:World):Chunk→Prop
 | .ro cells=>ρ.blk id<w.heap.size∧ ∀ (i:Nat) v,cells[i]?=some v→w.cell? ⟨ρ.blk id,ρ.off id+i,none⟩=some (conc ρ v)
 | .own cells=>ρ.off id=0∧ ∃ e,w.heap[ρ.blk id]?=some (.cells (q04 ρ cells).toArray e (0,0))
 | .grow esz cells=>ρ.off id=0∧ ∃ e arr,w.heap[ρ.blk id]?=some (.cells arr e (0,0))∧arr.size=ρ.cap id * esz∧
    cells.length≤arr.size∧ ∀ (i:Nat) v,cells[i]?=some v→arr[i]?=some (conc ρ v)
 | .map es clock=>ρ.off id=0∧w.heap[ρ.blk id]?=some (.map (es.map (fun e=>⟨conc ρ e.1,conc ρ e.2.1,e.2.2⟩)).toArray clock)
 | .siter s pos=>ρ.off id=0∧w.heap[ρ.blk id]?=some (.stringIter s pos)
 | .loop st pend ts n params assign body m=>ρ.off id=0∧ ∃ fn tmps,q2e ρ ts n tmps∧
    w.heap[ρ.blk id]?=some (.loop {state:=st,pending:=pend,fn,tmps,params,assign,body,defers:=ρ.blk m})
 | .mark=>ρ.off id=0∧w.heap[ρ.blk id]?=some (.deferred (some []))
def HRel(ρ:Ren)(h:AH)(w:World):Prop:=
 (∀ id c,h.get id=some c→Real ρ id w c)∧
 (∀ i j ci cj,i≠j→h.get i=some ci→h.get j=some cj→ci.isRo=false→ρ.blk i≠ρ.blk j)
def q6t(ρ:Ren):ADef→Deferred
 | .mark id=>{target:= .collected (ρ.blk id),args:= #[]}
 | .call f args=>match f with
   | .fn fn first captured=>{target:= .fn fn (q04 ρ captured).toArray,args:=((q04 ρ first)++(q04 ρ args)).toArray}
   | _=>{target:= .nil,args:=(q04 ρ args).toArray}
def Rel(ρ:Ren)(s:St)(a:Act)(w:World):Prop:=
 q2e ρ s.slots s.n a.tmps∧a.defers=s.defs.map (q6t ρ)∧HRel ρ s.h w
def Fr(ρ:Ren)(h:AH)(w:World)(ρ':Ren)(h':AH)(w':World):Prop:=
 (w'.os=w.os∧w'.tape=w.tape∧w'.output=w.output)∧w.heap.size≤w'.heap.size∧
 (∀ B,B<w.heap.size→(∀ id c,h.get id=some c→c.isRo=false→ρ.blk id≠B)→w'.heap[B]?=w.heap[B]?)∧
 (∀ id c,h'.get id=some c→w.heap.size≤ρ'.blk id∨ ∃ id0 c0,h.get id0=some c0∧(c.isRo=false→c0.isRo=false)∧ρ.blk id0=ρ'.blk id)∧
 ρ.ext ρ' h.next∧h.next≤h'.next
theorem Fr.trans{ρ ρ' ρ'':Ren}{h h' h'':AH}{w w' w'':World}(a:Fr ρ h w ρ' h' w')(b:Fr ρ' h' w' ρ'' h'' w''):Fr ρ h w ρ'' h'' w'':=by
 obtain⟨⟨a1,a2,a3⟩,a4,a5,a6,a7,a8⟩:=a;obtain⟨⟨b1,b2,b3⟩,b4,b5,b6,b7,b8⟩:=b;refine⟨⟨b1.trans a1,b2.trans a2,b3.trans a3⟩,by omega,?_,?_,a7.trans b7 a8,by omega⟩
 · intro B hB hno
   rw[b5 B (by omega),a5 B hB hno]
   intro id c hg hr he;rcases a6 id c hg with h1 | ⟨id0,c0,h1,h2,h3⟩
   · omega
   · exact hno id0 c0 h1 (h2 hr) (h3.trans he)
 · intro id c hg
   rcases b6 id c hg with h1 | ⟨id0,c0,h1,h2,h3⟩
   · exact .inl (by omega)
   · rcases a6 id0 c0 h1 with h4 | ⟨id1,c1,h4,h5,h6⟩
     · exact .inl (by omega)
     · exact .inr ⟨id1,c1,h4,fun hr=>h5 (h2 hr),h6.trans h3⟩
theorem Fr.refl(ρ:Ren)(h:AH)(w:World):Fr ρ h w ρ h w:=
 ⟨⟨rfl,rfl,rfl⟩,zbi _,fun _ _ _=>rfl,fun id c hg=> .inr ⟨id,c,hg,fun h=>h,rfl⟩,.refl _ _,zbi _⟩
inductive AExit where
 | normal
 | exit (id:Nat)
 | goto (l:Nat)
 | ret
 | panic (v:AV)
def AExit.conc(ρ:Ren):AExit→Exit
 | .normal=> .normal
 | .exit id=> .exit id
 | .goto l=> .goto l
 | .ret=> .ret
 | .panic v=> .panic [{v:=J.conc ρ v,recovered:=false}]
def fen(ρ:Ren)(r:Option Nat):Fence:={Fence.wide with round:=r.map ρ.blk}
def Out(ρ:Ren)(s:St)(w:World)(e:AExit)(s':St)(e':Exit)(a':Act)(w':World):Prop:=
 ∃ ρ',e'=e.conc ρ'∧Rel ρ' s' a' w'∧Fr ρ s.h w ρ' s'.h w'
def AExit.sup:AExit→Nat
 | .panic v=>v.sup
 | _=>0
def rsup:Option Nat→Nat
 | some l=>l+1
 | none=>0
def J(P:Program)(r:Option Nat)(c:Code)(s:St)(Q:AExit→St→Prop):Prop:=
 s.wf→rsup r≤s.h.next→ ∃ e s',s'.wf∧e.sup≤s'.h.next∧s.h.next≤s'.h.next∧Q e s'∧ ∀ ρ a w n,Rel ρ s a w→c.wpIn (fen ρ r) n P (Out ρ s w e s') a w
theorem q94{ρ ρ':Ren}{n:Nat}(h:ρ.ext ρ' n){r:Option Nat}(hr:rsup r≤n):fen ρ' r=fen ρ r:=by
 cases r with
 | none=>rfl
 | some l=>simp only[rsup]at hr; simp only[fen,zbp,(h l (by omega)).1]
def q7g(F:Fence)(n:Nat)(P:Program)(c:Code)(Q:Exit→Act→World→Prop)(a:Act)(w:World):Prop:=
 ∀ (b:Frame) (k:List Item) (cs:List Frame),b.roundOf=F.round→F.fn b.fn→F.room (cs.length+1+n)→
   ∃ e a' w',Q e a' w'∧ArrivesIn (Machine.fenced P F) P (lone (b.atR a (.code c :: .inLoop c :: k)) cs w) b k cs e a' w'
theorem qf9{F:Fence}{n:Nat}{P:Program}{c:Code}{Q Q':Exit→Act→World→Prop}{a:Act}{w:World}(h:q7g F n P c Q a w)(hq:∀ e a w,Q e a w→Q' e a w):
 q7g F n P c Q' a w:=fun b k cs h1 h2 h3=>let ⟨e,a',w',q,x⟩:=h b k cs h1 h2 h3; ⟨e,a',w',hq _ _ _ q,x⟩
theorem q5b{F:Fence}{n:Nat}{P:Program}{c:Code}{Q:Exit→Act→World→Prop}{a:Act}{w:World}
 (h:c.wpIn F n P (Exit.then (q7g F n P c Q) Q) a w):q7g F n P c Q a w:=by
 intro b k cs hro hb hr;obtain⟨e,a₁,w₁,hq,harr⟩:=h b (.inLoop c :: k) cs hro hb hr;cases e with
 | normal=>
   obtain⟨e₂,a₂,w₂,hq₂,harr₂⟩:=hq b k cs hro hb hr;exact⟨e₂,a₂,w₂,hq₂,.of_steps (StepsIn.trans harr (.one (fenced_calm hb hr rfl) stepR_inLoop)) harr₂⟩
 | exit id=>exact⟨_,a₁,w₁,hq,.pass (x:= .inLoop c) rfl (fun _ _=> .inl (by simp)) harr⟩
 | goto l=>exact⟨_,a₁,w₁,hq,.pass (x:= .inLoop c) rfl (fun _ _=> .inl (by simp)) harr⟩
 | ret=>exact⟨_,a₁,w₁,hq,.pass (x:= .inLoop c) rfl (fun _ _=> .inl (by simp)) harr⟩
 | panic ch=>exact⟨_,a₁,w₁,hq,.pass (x:= .inLoop c) rfl (fun _ _=> .inl (by simp)) harr⟩
 | outgrown=>exact⟨_,a₁,w₁,hq,.pass (x:= .inLoop c) rfl (fun _ _=> .inl (by simp)) harr⟩
theorem q8v{F:Fence}{n:Nat}{P:Program}{c:Code}{Q:Exit→Act→World→Prop}{a:Act}{w:World}(h:q7g F n P c Q a w):(Code.loop c).wpIn F n P Q a w:=by
 intro b k cs hro hb hr;obtain⟨e,a',w',hq,harr⟩:=h b k cs hro hb hr;exact⟨e,a',w',hq,.of_steps (.one (fenced_calm hb hr rfl) stepR_loop) harr⟩
section rules
variable{P:Program}{r:Option Nat}{c x y:Code}{s:St}{Q Q':AExit→St→Prop}
theorem J.mono(h:J P r c s Q)(hq:∀ e s',Q e s'→Q' e s'):J P r c s Q':=
 fun hw hr=>let ⟨e,s',a,b,n,q,x⟩:=h hw hr; ⟨e,s',a,b,n,hq e s' q,x⟩
theorem J_wf(h:s.wf→J P r c s Q):J P r c s Q:=fun hw=>h hw hw
def Then(K:St→Prop)(Q:AExit→St→Prop):AExit→St→Prop
 | .normal,s=>K s
 | e,s=>Q e s
theorem Out.zai{ρ:Ren}{w:World}{e:AExit}{s s1:St}(he:e≠ .normal){K:Act→World→Prop}{e':Exit}{a':Act}{w':World}(h:Out ρ s w e s1 e' a' w'):
 Exit.then K (Out ρ s w e s1) e' a' w':=by
 obtain⟨ρ',h1,h2,h3⟩:=h;subst h1;cases e with
 | normal=>exact absurd rfl he
 | _=>exact⟨ρ',rfl,h2,h3⟩
theorem q1p(hc:c= .seq x y)(h:J P r x s (Then (fun s'=>J P r y s' Q) Q)):J P r c s Q:=by
 subst hc;intro hw hr;obtain⟨e,s1,hw1,he1,hn1,hq,hx⟩:=h hw hr
 have other:e≠ .normal→Q e s1→ ∃ e s',s'.wf∧e.sup≤s'.h.next∧s.h.next≤s'.h.next∧Q e s'∧ ∀ ρ a w n,Rel ρ s a w→(Code.seq x y).wpIn (fen ρ r) n P (Out ρ s w e s') a w:=
  fun hne hq=>⟨e,s1,hw1,he1,hn1,hq,fun ρ a w n hrel=>wpIn_seq (wpIn_mono (hx ρ a w n hrel) fun _ _ _ h=>Out.zai hne h)⟩
 cases e with
 | normal=>
   obtain⟨e,s2,hw2,he2,hn2,hq2,hy⟩:=hq hw1 (by omega)
   refine⟨e,s2,hw2,he2,by omega,hq2,fun ρ a w n hrel=>wpIn_seq (wpIn_mono (hx ρ a w n hrel) ?_)⟩
   rintro e1 a1 w1 ⟨ρ',h1,h2,h3⟩;subst h1;have hf:=q94 h3.2.2.2.2.1 (r:=r) hr;show y.wpIn (fen ρ r) n P (Out ρ s w e s2) a1 w1;rw[←hf];refine wpIn_mono (hy ρ' a1 w1 n h2) ?_;rintro e2 a2 w2 ⟨ρ'',k1,k2,k3⟩;exact⟨ρ'',k1,k2,h3.trans k3⟩
 | exit id=>exact other (by simp) hq
 | goto l=>exact other (by simp) hq
 | ret=>exact other (by simp) hq
 | panic v=>exact other (by simp) hq
theorem q8p(hc:c= .skip)(h:Q .normal s):J P r c s Q:=by
 subst hc;exact fun hw _=>⟨.normal,s,hw,zbl _,zbi _,h,fun ρ a w n hrel=>wpIn_skip ⟨ρ,rfl,hrel,.refl _ _ _⟩⟩
theorem qgv{id:Nat}(hc:c= .exit id)(h:Q (.exit id) s):J P r c s Q:=by
 subst hc;exact fun hw _=>⟨.exit id,s,hw,zbl _,zbi _,h,fun ρ a w n hrel=>wpIn_exit ⟨ρ,rfl,hrel,.refl _ _ _⟩⟩
theorem quc(hc:c= .ret)(h:Q .ret s):J P r c s Q:=by
 subst hc;exact fun hw _=>⟨.ret,s,hw,zbl _,zbi _,h,fun ρ a w n hrel=>wpIn_ret ⟨ρ,rfl,hrel,.refl _ _ _⟩⟩
def qku(id:Nat)(Q:AExit→St→Prop):AExit→St→Prop
 | .exit j,s=>if Nat.beq j id then Q .normal s else Q (.exit j) s
 | e,s=>Q e s
theorem q4i{id:Nat}(hc:c= .block id x)(h:J P r x s (qku id Q)):J P r c s Q:=by
 subst hc;intro hw hr;obtain⟨e,s1,hw1,he1,hn1,hq,hx⟩:=h hw hr
 have other:(∀ j,e≠ .exit j)→Q e s1→ ∃ e s',s'.wf∧e.sup≤s'.h.next∧s.h.next≤s'.h.next∧Q e s'∧ ∀ ρ a w n,Rel ρ s a w→(Code.block id x).wpIn (fen ρ r) n P (Out ρ s w e s') a w:=by
  refine fun hne hq=>⟨e,s1,hw1,he1,hn1,hq,fun ρ a w n hrel=>wpIn_block (wpIn_mono (hx ρ a w n hrel) ?_)⟩
  rintro e' a' w' ⟨ρ',h1,h2,h3⟩;subst h1;cases e with
  | exit j=>exact absurd rfl (hne j)
  | _=>exact⟨ρ',rfl,h2,h3⟩
 cases e with
 | exit j=>
   simp only[qku]at hq;split at hq
   · rename_i hb
     have hj:j=id:=zbg hb;subst hj;refine⟨.normal,s1,hw1,zbl _,hn1,hq,fun ρ a w n hrel=>wpIn_block (wpIn_mono (hx ρ a w n hrel) ?_)⟩
     rintro e' a' w' ⟨ρ',h1,h2,h3⟩;subst h1;simp only[AExit.conc,Exit.inBlock,if_true];exact⟨ρ',rfl,h2,h3⟩
   · rename_i hb
     have hj:j≠id:=fun h=>hb (by subst h; exact zca j)
     refine⟨.exit j,s1,hw1,zbl _,hn1,hq,fun ρ a w n hrel=>wpIn_block (wpIn_mono (hx ρ a w n hrel) ?_)⟩
     rintro e' a' w' ⟨ρ',h1,h2,h3⟩;subst h1;simp only[AExit.conc,Exit.inBlock,hj,if_false];exact⟨ρ',rfl,h2,h3⟩
 | normal=>exact other (by simp) hq
 | goto l=>exact other (by simp) hq
 | ret=>exact other (by simp) hq
 | panic v=>exact other (by simp) hq
def SubL:List (Nat×AV)→List (Nat×AV)→Prop
 | [],_=>True
 | kv :: r,l=>lk l kv.1=some kv.2∧SubL r l
theorem SubL.lk{l' l:List (Nat×AV)}(h:SubL l' l){k:Nat}{v:AV}(hk:lk l' k=some v):J.lk l k=some v:=by
 induction l' with
 | nil=>simp[J.lk]at hk
 | cons kv r ih=>
   simp only[J.lk]at hk;obtain⟨h1,h2⟩:=h;split at hk
   · rename_i hb
     have:kv.1=k:=zbg hb;simp at hk; subst this; subst hk; exact h1
   · exact ih h2 hk
theorem qu9{sl':List (Nat×AV)}{sl:List (Nat×AV)}{h:AH}{nt:Nat}{ds:List ADef}(hs:SubL sl' sl)(hj:J P r c ⟨sl',h,nt,ds⟩ Q):J P r c ⟨sl,h,nt,ds⟩ Q:=by
 intro hw hr;obtain⟨e,s',hw',he,hn,hq,hx⟩:=hj ⟨fun k v hk=>hw.1 k v (hs.lk hk),hw.2.1,hw.2.2⟩ hr
 exact⟨e,s',hw',he,hn,hq,fun ρ a w n hrel=>hx ρ a w n ⟨⟨hrel.1.1,fun k v hk=>hrel.1.2 k v (hs.lk hk)⟩,hrel.2.1,hrel.2.2⟩⟩
mutual
def absv:Value→Option AV
 | .bool b=>some (.bool b)
 | .int k n=>some (.int k n)
 | .string s=>some (.str s)
 | .pointer none=>some (.ptr none)
 | .slice none n c=>some (.slice none n (.exact c))
 | .map none=>some (.map none)
 | .nilFunc=>some .nilFunc
 | .nilIface=>some .nilIface
 | .agg ⟨cs⟩=>(absL cs).map .agg
 | _=>none
def absL:List Value→Option (List AV)
 | []=>some []
 | v :: r=>match absv v,absL r with
   | some a,some l=>some (a :: l)
   | _,_=>none
end
mutual
theorem q72(ρ:Ren):∀ (v:Value) (a:AV),absv v=some a→conc ρ a=v∧a.sup=0
 | .bool b,a,h=>by simp only[absv,zbe]at h; subst h; exact⟨rfl,rfl⟩
 | .int k n,a,h=>by simp only[absv,zbe]at h; subst h; exact⟨rfl,rfl⟩
 | .string s,a,h=>by simp only[absv,zbe]at h; subst h; exact⟨rfl,rfl⟩
 | .pointer none,a,h=>by simp only[absv,zbe]at h; subst h; exact⟨rfl,rfl⟩
 | .slice none n c,a,h=>by simp only[absv,zbe]at h; subst h; exact⟨rfl,rfl⟩
 | .map none,a,h=>by simp only[absv,zbe]at h; subst h; exact⟨rfl,rfl⟩
 | .nilFunc,a,h=>by simp only[absv,zbe]at h; subst h; exact⟨rfl,rfl⟩
 | .nilIface,a,h=>by simp only[absv,zbe]at h; subst h; exact⟨rfl,rfl⟩
 | .agg ⟨cs⟩,a,h=>by
   simp only[absv,zbw]at h;obtain⟨l,hl,rfl⟩:=h;obtain⟨h1,h2⟩:=qh2 ρ cs l hl;exact⟨by simp only[conc,h1],by simp only[AV.sup,h2]⟩
 | .float _ _,a,h=>by simp[absv]at h
 | .complex _ _ _,a,h=>by simp[absv]at h
 | .pointer (some _),a,h=>by simp[absv]at h
 | .slice (some _) _ _,a,h=>by simp[absv]at h
 | .map (some _),a,h=>by simp[absv]at h
 | .chan _,a,h=>by simp[absv]at h
 | .func _ _ _,a,h=>by simp[absv]at h
 | .iface _ _,a,h=>by simp[absv]at h
 | .tuple _,a,h=>by simp[absv]at h
theorem qh2(ρ:Ren):∀ (l:List Value) (a:List AV),absL l=some a→q04 ρ a=l∧supL a=0
 | [],a,h=>by simp only[absL,zbe]at h; subst h; exact⟨rfl,rfl⟩
 | v :: r,a,h=>by
   simp only[absL]at h;cases h1:absv v with
   | none=>simp[h1]at h
   | some x=>
     cases h2:absL r with
     | none=>simp[h1,h2]at h
     | some l=>
       simp only[h1,h2,zbe]at h;subst h;obtain⟨a1,a2⟩:=q72 ρ v x h1;obtain⟨b1,b2⟩:=qh2 ρ r l h2;exact⟨by simp only[q04,a1,b1],by simp only[supL,a2,b2]; rfl⟩
end
def ev(sl:List (Nat×AV)):Operand→Option AV
 | .tmp t=>lk sl t
 | .const v=>absv v
 | .func f=>some (.fn (.func f) [] [])
 | .global _=>none
theorem q03{ρ:Ren}{s:St}{a:Act}{w:World}(hr:Rel ρ s a w){x:Operand}{v:AV}(h:ev s.slots x=some v):a.eval x=conc ρ v:=by
 cases x with
 | tmp t=>
   have:=hr.1.2 t v h;simp[Act.eval,zc9,this]
 | const c=>exact(q72 ρ c v h).1.symm
 | func f=>simp only[ev,zbe]at h; subst h; rfl
 | global g=>simp[ev]at h
theorem q1i{s:St}(hw:s.wf){x:Operand}{v:AV}(h:ev s.slots x=some v):v.sup≤s.h.next:=by
 cases x with
 | tmp t=>exact hw.1 t v h
 | const c=>rw[(q72 ⟨fun _=>0,fun _=>0,fun _=>0⟩ c v h).2]; exact zbl _
 | func f=>simp only[ev,zbe]at h; subst h; exact zbl _
 | global g=>simp[ev]at h
theorem qdx{o:Operand}{b:Bool}(hc:c= .cond o x y)(ho:ev s.slots o=some (.bool b))(ht:b=true→J P r x s Q)(hf:b=false→J P r y s Q):J P r c s Q:=by
 subst hc;intro hw hr;cases b with
 | true=>
   obtain⟨e,s',hw',he,hn,hq,hx⟩:=ht rfl hw hr;exact⟨e,s',hw',he,hn,hq,fun ρ a w n hrel=>wpIn_cond_true (by rw[q03 hrel ho]; rfl) (hx ρ a w n hrel)⟩
 | false=>
   obtain⟨e,s',hw',he,hn,hq,hx⟩:=hf rfl hw hr;exact⟨e,s',hw',he,hn,hq,fun ρ a w n hrel=>wpIn_cond_false (by rw[q03 hrel ho]; rfl) (hx ρ a w n hrel)⟩
theorem z3o{o:Operand}{p:Prop}{d:Decidable p}(hc:c= .cond o x y)(ho:ev s.slots o=some (.bool (decide p)))(ht:p→J P r x s Q)(hf:¬p→J P r y s Q):J P r c s Q:=
 qdx hc ho (fun h=>ht (of_decide_eq_true h)) (fun h=>hf (of_decide_eq_false h))
theorem z3r{α:Type}(S:α→St)(I:α→Prop)(μ:α→Nat)(a₀:α)(hc:c= .loop x)(hI:I a₀)
 (round:∀ a,I a→J P r x (S a) (Then (fun s'=> ∃ a',(I a'∧μ a'<μ a)∧((S a').h=s'.h∧(S a').n=s'.n∧(S a').defs=s'.defs∧SubL (S a').slots s'.slots)) Q)):J P r c (S a₀) Q:=by
 subst hc
 have key:∀ n a,μ a=n→I a→(S a).wf→rsup r≤(S a).h.next→ ∃ e s',s'.wf∧e.sup≤s'.h.next∧(S a).h.next≤s'.h.next∧Q e s'∧
  ∀ ρ ac w n,Rel ρ (S a) ac w→q7g (fen ρ r) n P x (Out ρ (S a) w e s') ac w:=by
  intro n
  induction n using Nat.strongRecOn with
  | _ n ih=>
    intro a hn hI hw hr;obtain⟨e,s1,hw1,he1,hn1,hq,hx⟩:=round a hI hw hr
    have other:e≠ .normal→Q e s1→ ∃ e s',s'.wf∧e.sup≤s'.h.next∧(S a).h.next≤s'.h.next∧Q e s'∧ ∀ ρ ac w n,Rel ρ (S a) ac w→q7g (fen ρ r) n P x (Out ρ (S a) w e s') ac w:=
     fun hne hq=>⟨e,s1,hw1,he1,hn1,hq,fun ρ ac w n hrel=>q5b (wpIn_mono (hx ρ ac w n hrel) fun _ _ _ h=>Out.zai hne h)⟩
    cases e with
    | normal=>
      obtain⟨a',⟨hI',hlt⟩,k1,k2,k3,k4⟩:=hq
      have hwA:(S a').wf:=by
       refine⟨fun k v hk=>?_,?_,?_⟩
       · rw[k1]; exact hw1.1 k v (k4.lk hk)
       · rw[k1]; exact hw1.2.1
       · rw[k1,k3]; exact hw1.2.2
      obtain⟨e,s2,hw2,he2,hn2,hq2,hy⟩:=ih (μ a') (by omega) a' rfl hI' hwA (by rw[k1]; exact zbo hr hn1)
      have hn1':(S a).h.next≤(S a').h.next:=by rw[k1]; exact hn1
      refine⟨e,s2,hw2,he2,zbo hn1' hn2,hq2,fun ρ ac w n hrel=>q5b (wpIn_mono (hx ρ ac w n hrel) ?_)⟩
      rintro e1 a1 w1 ⟨ρ',h1,h2,h3⟩;subst h1;have hf:=q94 h3.2.2.2.2.1 (r:=r) hr;show q7g (fen ρ r) n P x (Out ρ (S a) w e s2) a1 w1;rw[←hf];have hrelA:Rel ρ' (S a') a1 w1:=⟨⟨by rw[k2]; exact h2.1.1,fun k v hk=>h2.1.2 k v (k4.lk hk)⟩,by rw[k3]; exact h2.2.1,by rw[k1]; exact h2.2.2⟩
      refine qf9 (hy ρ' a1 w1 n hrelA) ?_;rintro e2 a2 w2 ⟨ρ'',q1,q2,q3⟩;rw[k1]at q3;exact⟨ρ'',q1,q2,h3.trans q3⟩
    | exit id=>exact other (by simp) hq
    | goto l=>exact other (by simp) hq
    | ret=>exact other (by simp) hq
    | panic v=>exact other (by simp) hq
 intro hw hr;obtain⟨e,s',h1,h2,h3,h4,h5⟩:=key _ a₀ rfl hI hw hr;exact⟨e,s',h1,h2,h3,h4,fun ρ ac w n hrel=>q8v (h5 ρ ac w n hrel)⟩
end rules
theorem qpe{F:Fence}{n:Nat}{P:Program}{o:Oper}{a:Act}{next next':Act→World→Prop}{Q Q':Exit→Act→World→Prop}{r:Result Next}
 (h:o.uponIn F n P a next Q r)(hn:∀ a w,next a w→next' a w)(hq:∀ e a w,Q e a w→Q' e a w):o.uponIn F n P a next' Q' r:=by
 have hL:LetsOut Q→LetsOut Q':=fun⟨a,w,h⟩=>⟨a,w,hq _ _ _ h⟩
 cases r with
 | halt ht w=>cases ht<;>first | exact hq _ _ _ h | exact h
 | ok x w=>
   cases x<;>first
    | exact hn _ _ h
    | (refine⟨h.1,h.2.mono ?_⟩; rintro(v | ch | _) w' h'<;>first | exact hn _ _ h' | exact hq _ _ _ h' | exact hL h')
    | exact⟨h.1,h.2.mono fun _ _ h'=>hn _ _ h'⟩
    | exact h
theorem qap{F:Fence}{n:Nat}{P:Program}{o:Oper}{a:Act}{w:World}{next next':Act→World→Prop}{Q Q':Exit→Act→World→Prop}
 (h:o.wpIn F n P a w next Q)(hn:∀ a w,next a w→next' a w)(hq:∀ e a w,Q e a w→Q' e a w):o.wpIn F n P a w next' Q':=
 ⟨h.1,qpe h.2 hn hq⟩
theorem q35{F:Fence}{n:Nat}{P:Program}{ops:Array Oper}{Q Q':Exit→Act→World→Prop}(hq:∀ e a w,Q e a w→Q' e a w):
 ∀ (l:List Nat) (a:Act) (w:World),wpOpsIn F n P ops Q l a w→wpOpsIn F n P ops Q' l a w
 | [],_,_,h=>hq _ _ _ h
 | i :: rest,a,w,h=>by
   simp only[wpOpsIn]at h ⊢;cases ho:ops[i]? with
   | none=>simp only[ho]at h ⊢; exact q35 hq rest a w h
   | some o=>
     simp only[ho]at h ⊢;split
     · rename_i hw
       simp only[hw,if_true]at h;exact qap h (fun a w=>q35 hq rest a w) hq
     · rename_i hw
       simp only[hw,if_false,zbn]at h;exact⟨h.1,q35 hq rest _ w h.2⟩
def JO(P:Program)(r:Option Nat)(o:Oper)(s:St)(Q:AExit→St→Prop):Prop:=
 s.wf→rsup r≤s.h.next→ ∃ e s',s'.wf∧e.sup≤s'.h.next∧s.h.next≤s'.h.next∧Q e s'∧
  ∀ ρ a w n,Rel ρ s a w→o.wpIn (fen ρ r) n P a w (Out ρ s w e s' .normal) (Out ρ s w e s')
def JL(P:Program)(r:Option Nat)(ops:Array Oper)(l:List Nat)(s:St)(Q:AExit→St→Prop):Prop:=
 s.wf→rsup r≤s.h.next→ ∃ e s',s'.wf∧e.sup≤s'.h.next∧s.h.next≤s'.h.next∧Q e s'∧
  ∀ ρ a w n,Rel ρ s a w→wpOpsIn (fen ρ r) n P ops (Out ρ s w e s') l a w
section rules
variable{P:Program}{r:Option Nat}{s:St}{Q Q':AExit→St→Prop}{ops:Array Oper}{o:Oper}
theorem JL.mono{l:List Nat}(h:JL P r ops l s Q)(hq:∀ e s',Q e s'→Q' e s'):JL P r ops l s Q':=
 fun hw hr=>let ⟨e,s',a,b,n,q,x⟩:=h hw hr; ⟨e,s',a,b,n,hq e s' q,x⟩
theorem JO.mono(h:JO P r o s Q)(hq:∀ e s',Q e s'→Q' e s'):JO P r o s Q':=
 fun hw hr=>let ⟨e,s',a,b,n,q,x⟩:=h hw hr; ⟨e,s',a,b,n,hq e s' q,x⟩
theorem qd3{c:Code}{id:Nat}(hc:c= .region id ops false)(h:JL P r ops (List.range ops.size) s Q):J P r c s Q:=by
 subst hc;intro hw hr;obtain⟨e,s',hw',he,hn,hq,hx⟩:=h hw hr;exact⟨e,s',hw',he,hn,hq,fun ρ a w n hrel=>wpIn_region (hx ρ a w n hrel)⟩
theorem q0q(h:Q .normal s):JL P r ops [] s Q:=
 fun hw _=>⟨.normal,s,hw,zbl _,zbi _,h,fun ρ _ _ _ hrel=>⟨ρ,rfl,hrel,.refl _ _ _⟩⟩
theorem qu6{i:Nat}{l:List Nat}(ho:ops[i]?=some o)(hwant:∀ ρ a w,Rel ρ s a w→Region.wanted o (yielded ops a.tmps)=true)
 (h:JO P r o s (Then (fun s'=>JL P r ops l s' Q) Q)):JL P r ops (i :: l) s Q:=by
 intro hw hr;obtain⟨e,s1,hw1,he1,hn1,hq,hx⟩:=h hw hr
 have other:e≠ .normal→Q e s1→ ∃ e s',s'.wf∧e.sup≤s'.h.next∧s.h.next≤s'.h.next∧Q e s'∧ ∀ ρ a w n,Rel ρ s a w→wpOpsIn (fen ρ r) n P ops (Out ρ s w e s') (i :: l) a w:=by
  refine fun hne hq=>⟨e,s1,hw1,he1,hn1,hq,fun ρ a w n hrel=>?_⟩
  simp only[wpOpsIn,ho,hwant ρ a w hrel,if_true];refine qap (hx ρ a w n hrel) ?_ fun _ _ _ h=>h
  rintro a1 w1 ⟨ρ',h1,_⟩;cases e<;>first | exact absurd rfl hne | simp[AExit.conc]at h1
 cases e with
 | normal=>
   obtain⟨e,s2,hw2,he2,hn2,hq2,hy⟩:=hq hw1 (by omega)
   refine⟨e,s2,hw2,he2,by omega,hq2,fun ρ a w n hrel=>?_⟩
   simp only[wpOpsIn,ho,hwant ρ a w hrel,if_true]
   have hz:∀ e1 a1 w1,Out ρ s w .normal s1 e1 a1 w1→wpOpsIn (fen ρ r) n P ops (Out ρ s w e s2) l a1 w1:=by
    rintro e1 a1 w1 ⟨ρ',_,h2,h3⟩;have hf:=q94 h3.2.2.2.2.1 (r:=r) hr;rw[←hf];refine q35 ?_ _ _ _ (hy ρ' a1 w1 n h2);rintro e2 a2 w2 ⟨ρ'',k1,k2,k3⟩;exact⟨ρ'',k1,k2,h3.trans k3⟩
   have hop:=hx ρ a w n hrel;refine⟨hop.1,?_⟩;have hup:=hop.2;revert hup;generalize (o.semAt (fen ρ r).round a.eval).run P w=res;intro hup;cases res with
   | halt h w'=>
     cases h<;>first
      | (obtain⟨ρ',k1,_⟩:=hup; simp[AExit.conc]at k1; done)
      | exact hup
   | ok x w'=>
     cases x<;>first
      | exact hz _ _ _ hup
      | (refine⟨hup.1,hup.2.mono ?_⟩
         rintro(v | ch | _) w'' h'
         · exact hz _ _ _ h'
         · obtain⟨ρ',k1,_⟩:=h'; simp[AExit.conc]at k1
         · obtain⟨a',w',ρ',k1,_⟩:=h'; simp[AExit.conc]at k1)
      | exact⟨hup.1,hup.2.mono fun _ _ h'=>hz _ _ _ h'⟩
      | exact hup
 | exit id=>exact other (by simp) hq
 | goto l=>exact other (by simp) hq
 | ret=>exact other (by simp) hq
 | panic v=>exact other (by simp) hq
theorem q07{i:Nat}{l:List Nat}(ho:ops[i]?=some o)(hg:o.guard=none)(h:JO P r o s (Then (fun s'=>JL P r ops l s' Q) Q)):JL P r ops (i :: l) s Q:=
 qu6 ho (fun ρ a w _=>by simp[Region.wanted,hg]) h
theorem qim{ρ:Ren}{a:Act}{w:World}(hrel:Rel ρ s a w){j d:Nat}{b:Bool}{oj:Oper}(hj:ops[j]?=some oj)(hd:oj.dst=some d)(hb:lk s.slots d=some (.bool b)):
 yielded ops a.tmps j=some b:=by
 have:=hrel.1.2 d _ hb;simp[yielded,hj,hd,this,conc]
theorem qu5{i j d:Nat}{want:Bool}{oj:Oper}{l:List Nat}(ho:ops[i]?=some o)(hg:o.guard=some (j,want))(hj:ops[j]?=some oj)(hd:oj.dst=some d)
 (hb:lk s.slots d=some (.bool want))(h:JO P r o s (Then (fun s'=>JL P r ops l s' Q) Q)):JL P r ops (i :: l) s Q:=
 qu6 ho (fun ρ a w hrel=>by simp[Region.wanted,hg,qim hrel hj hd hb]) h
def z71:List (Nat×AV)→Nat→List (Nat×AV)
 | [],_=>[]
 | kv :: r,k=>if Nat.beq kv.1 k then z71 r k else kv :: z71 r k
theorem q0v{ρ ρ':Ren}{ts:List (Nat×AV)}{n m:Nat}{tmps:Array Value}(h:q2e ρ ts n tmps)(he:ρ.ext ρ' m)(hs:∀ k v,lk ts k=some v→v.sup≤m):q2e ρ' ts n tmps:=
 ⟨h.1,fun k v hk=>by rw[h.2 k v hk,q2d he v (hs k v hk)]⟩
theorem q24{ρ ρ':Ren}{n:Nat}(h:ρ.ext ρ' n):∀ ds:List ADef,supD ds≤n→ds.map (q6t ρ')=ds.map (q6t ρ)
 | [],_=>rfl
 | d :: r,hs=>by
   simp only[supD]at hs;simp only[zc3,q24 h r (by omega)]
   congr 1;cases d with
   | mark id=>simp only[ADef.sup]at hs; simp only[q6t,(h id (by omega)).1]
   | call f args=>
     simp only[ADef.sup]at hs
     cases f<;>first
      | simp only[q6t,q0u h args (by omega)]
     rename_i fn first captured
     simp only[AV.sup]at hs;simp only[q0u h first (by omega),q0u h captured (by omega)]
theorem Rel.put{ρ ρ':Ren}{a:Act}{w w':World}{h':AH}{d:Nat}{v:AV}(hrel:Rel ρ s a w)(hw:s.wf)(hh:HRel ρ' h' w')(hf:Fr ρ s.h w ρ' h' w')(hd:d<s.n):
 Rel ρ' ⟨(d,v) :: s.slots,h',s.n,s.defs⟩ (a.put (some d) (conc ρ' v)) w':=by
 have he:=hf.2.2.2.2.1;refine⟨⟨by simp[Act.put,hrel.1.1],fun k u hk=>?_⟩,by simp only[Act.put]; rw[hrel.2.1,q24 he _ hw.2.2],hh⟩
 simp only[lk]at hk;split at hk
 · rename_i hb
   have hk':d=k:=zbg hb;simp at hk; subst hk; subst hk';simp[Act.put,hrel.1.1,hd]
 · rename_i hb
   have hne:d≠k:=fun e=>hb (by subst e; exact zca d)
   have:=(q0v hrel.1 he hw.1).2 k u hk;simp[Act.put,hne,this]
theorem Rel.put_none{ρ ρ':Ren}{a:Act}{w w':World}{h':AH}{x:Value}(hrel:Rel ρ s a w)(hw:s.wf)(hh:HRel ρ' h' w')(hf:Fr ρ s.h w ρ' h' w'):
 Rel ρ' ⟨s.slots,h',s.n,s.defs⟩ (a.put none x) w':=
 ⟨q0v hrel.1 hf.2.2.2.2.1 hw.1,by simp only[Act.put]; rw[hrel.2.1,q24 hf.2.2.2.2.1 _ hw.2.2],hh⟩
theorem qil{h':AH}{d:Nat}{v:AV}(hw:s.wf)(hh:h'.wf)(hn:s.h.next≤h'.next)(hv:v.sup≤h'.next):St.wf ⟨(d,v) :: s.slots,h',s.n,s.defs⟩:=by
 refine⟨fun k u hk=>?_,hh,zbo hw.2.2 hn⟩
 simp only[lk]at hk;split at hk
 · simp at hk; subst hk; exact hv
 · exact zbo (hw.1 k u hk) hn
theorem qkh{h':AH}(hw:s.wf)(hh:h'.wf)(hn:s.h.next≤h'.next):St.wf ⟨s.slots,h',s.n,s.defs⟩:=
 ⟨fun k u hk=>zbo (hw.1 k u hk) hn,hh,zbo hw.2.2 hn⟩
def Oper.noDefer(o:Oper):Bool:=match o.op with | .defer _=>false | _=>true
theorem qk7{o:Oper}(h:Oper.noDefer o=true)(ro:Option Nat)(ev:Operand→Value):o.semAt ro ev=execOp ev o:=
 Oper.semAt_eq ro ev o fun c hc=>by simp[Oper.noDefer,hc]at h
theorem q4n{ρ:Ren}{h:AH}{w:World}(n:Nat)(hr:HRel ρ h w):HRel ρ h {w with drawn:=n}:=
 ⟨fun id c hg=>by have:=hr.1 id c hg; cases c<;>exact this,hr.2⟩
theorem qvh(ρ:Ren)(h:AH)(w:World)(n:Nat):Fr ρ h w ρ h {w with drawn:=n}:=
 ⟨⟨rfl,rfl,rfl⟩,zbi _,fun _ _ _=>rfl,fun id c hg=> .inr ⟨id,c,hg,fun h=>h,rfl⟩,.refl _ _,zbi _⟩
theorem qc8{d:Nat}{v:AV}{h':AH}(hd:o.dst=some d)(hdn:d<s.n)(hdef:Oper.noDefer o=true)(hwf:s.wf→h'.wf∧s.h.next≤h'.next∧v.sup≤h'.next)
 (hrun:s.wf→ ∀ ρ a w,Rel ρ s a w→ ∃ ρ' w',(execOp a.eval o).run P w= .ok (.value (conc ρ' v)) w'∧HRel ρ' h' w'∧Fr ρ s.h w ρ' h' w')
 (h:Q .normal ⟨(d,v) :: s.slots,h',s.n,s.defs⟩):JO P r o s Q:=by
 intro hw _;obtain⟨h1,h2,h3⟩:=hwf hw;refine⟨.normal,_,qil hw h1 h2 h3,zbl _,h2,h,fun ρ a w n hrel=>⟨fun _ _=>trivial,?_⟩⟩
 obtain⟨ρ',w',hr,hh,hf⟩:=hrun hw ρ a w hrel;rw[qk7 hdef,hr,Oper.uponIn_value,hd];exact⟨ρ',rfl,hrel.put hw hh hf hdn,hf⟩
theorem qu7{h':AH}(hd:o.dst=none)(hdef:Oper.noDefer o=true)(hwf:s.wf→h'.wf∧s.h.next≤h'.next)
 (hrun:s.wf→ ∀ ρ a w,Rel ρ s a w→ ∃ ρ' w',(execOp a.eval o).run P w= .ok .skip w'∧HRel ρ' h' w'∧Fr ρ s.h w ρ' h' w')
 (h:Q .normal ⟨s.slots,h',s.n,s.defs⟩):JO P r o s Q:=by
 intro hw _;obtain⟨h1,h2⟩:=hwf hw;refine⟨.normal,_,qkh hw h1 h2,zbl _,h2,h,fun ρ a w n hrel=>⟨fun _ _=>trivial,?_⟩⟩
 obtain⟨ρ',w',hr,hh,hf⟩:=hrun hw ρ a w hrel;rw[qk7 hdef,hr,Oper.uponIn_skip,hd];exact⟨ρ',rfl,hrel.put_none hw hh hf,hf⟩
theorem q0t{d:Nat}{v:AV}(hd:o.dst=some d)(hdn:d<s.n)(hdef:Oper.noDefer o=true)(hsup:s.wf→v.sup≤s.h.next)
 (hrun:∀ ρ a w,Rel ρ s a w→(execOp a.eval o).run P w= .ok (.value (conc ρ v)) w)(h:Q .normal ⟨(d,v) :: s.slots,s.h,s.n,s.defs⟩):JO P r o s Q:=
 qc8 hd hdn hdef (fun hw=>⟨hw.2.1,zbi _,hsup hw⟩) (fun _ ρ a w hrel=>⟨ρ,w,hrun ρ a w hrel,hrel.2.2,.refl _ _ _⟩) h
variable{d:Nat}{x y z:Operand}{v u:AV}
theorem qxf(ho:o.op= .move x)(hd:o.dst=some d)(hdn:d<s.n)(hx:ev s.slots x=some v)(h:Q .normal ⟨(d,v) :: s.slots,s.h,s.n,s.defs⟩):JO P r o s Q:=
 q0t hd hdn (by simp[Oper.noDefer,ho]) (fun hw=>q1i hw hx) (fun ρ a w hrel=>by simp[execOp,ho,q03 hrel hx]) h
theorem qjt(ho:o.op= .assign x)(hd:o.dst=some d)(hdn:d<s.n)(hx:ev s.slots x=some v)(h:Q .normal ⟨(d,v) :: s.slots,s.h,s.n,s.defs⟩):JO P r o s Q:=
 q0t hd hdn (by simp[Oper.noDefer,ho]) (fun hw=>q1i hw hx) (fun ρ a w hrel=>by simp[execOp,ho,q03 hrel hx]) h
theorem qjw(ho:o.op= .pick x y z)(hd:o.dst=some d)(hdn:d<s.n)(hx:ev s.slots x=some (.bool true))(hy:ev s.slots y=some v)
 (h:Q .normal ⟨(d,v) :: s.slots,s.h,s.n,s.defs⟩):JO P r o s Q:=
 q0t hd hdn (by simp[Oper.noDefer,ho]) (fun hw=>q1i hw hy) (fun ρ a w hrel=>by simp[execOp,ho,q03 hrel hx,q03 hrel hy,conc,asBool]) h
theorem qjv(ho:o.op= .pick x y z)(hd:o.dst=some d)(hdn:d<s.n)(hx:ev s.slots x=some (.bool false))(hy:ev s.slots z=some v)
 (h:Q .normal ⟨(d,v) :: s.slots,s.h,s.n,s.defs⟩):JO P r o s Q:=
 q0t hd hdn (by simp[Oper.noDefer,ho]) (fun hw=>q1i hw hy) (fun ρ a w hrel=>by simp[execOp,ho,q03 hrel hx,q03 hrel hy,conc,asBool]) h
end rules
section rules
variable{P:Program}{r:Option Nat}{s:St}{Q:AExit→St→Prop}{o:Oper}{d:Nat}{x y:Operand}{v u:AV}{T U:TypeId}{k:IntKind}{a b:Int}
def bitI(op:BinOp)(k:IntKind)(x y:Int):Int:=
 k.wrap (match op with
  | .and=>(BitVec.ofInt k.bits x&&& BitVec.ofInt k.bits y).toNat
  | .or=>(BitVec.ofInt k.bits x||| BitVec.ofInt k.bits y).toNat
  | .xor=>(BitVec.ofInt k.bits x ^^^ BitVec.ofInt k.bits y).toNat
  | _=>(BitVec.ofInt k.bits x&&& ~~~BitVec.ofInt k.bits y).toNat)
def shlI(k:IntKind)(x y:Int):Int:=k.wrap (x * 2 ^ min y.toNat k.bits)
def shrI(k:IntKind)(x y:Int):Int:=x.fdiv (2 ^ min y.toNat k.bits)
def q36(k:IntKind)(x:Int):Int:=k.wrap x
def quoI(k:IntKind)(x y:Int):Int:=k.wrap (x.tdiv y)
def remI(x y:Int):Int:=x.tmod y
theorem qdu{op:BinOp}(ho:o.op= .binOp op T x y U)(hd:o.dst=some d)(hdn:d<s.n){vx vy:AV}(hx:ev s.slots x=some vx)(hy:ev s.slots y=some vy)(hs:v.sup=0)
 (hg:∀ ρ w,(eqGuard op T x y (conc ρ vx) (conc ρ vy)).run P w= .ok () w)
 (hrun:∀ ρ w,(binOp op T (conc ρ vx) (conc ρ vy)).run P w= .ok (conc ρ v) w)(h:Q .normal ⟨(d,v) :: s.slots,s.h,s.n,s.defs⟩):JO P r o s Q:=
 q0t hd hdn (by simp[Oper.noDefer,ho]) (fun _=>by rw[hs]; exact zbl _) (fun ρ a w hrel=>by
  simp only[execOp,ho,q03 hrel hx,q03 hrel hy,zbx,hg ρ w,hrun ρ w,zbk,zby]) h
theorem qac(op:BinOp)(x y:Operand)(P:Program)(w:World)(j k:IntKind)(a b:Int):(eqGuard op T x y (.int j a) (.int k b)).run P w= .ok () w:=by
 unfold eqGuard; cases op<;>simp
theorem q3f{op:BinOp}{n:Int}(ho:o.op= .binOp op T x y U)(hd:o.dst=some d)(hdn:d<s.n)(hx:ev s.slots x=some (.int k a))(hy:ev s.slots y=some (.int k b))
 (hrun:∀ w,(binOp op T (.int k a) (.int k b)).run P w= .ok (.int k n) w)(h:Q .normal ⟨(d,.int k n) :: s.slots,s.h,s.n,s.defs⟩):JO P r o s Q:=
 qdu (v:= .int k n) ho hd hdn hx hy rfl (fun _ w=>qac op x y P w k k a b) (fun _ w=>hrun w) h
theorem q5u{op:BinOp}{p:Bool}(ho:o.op= .binOp op T x y U)(hd:o.dst=some d)(hdn:d<s.n)(hx:ev s.slots x=some (.int k a))(hy:ev s.slots y=some (.int k b))
 (hrun:∀ w,(binOp op T (.int k a) (.int k b)).run P w= .ok (.bool p) w)(h:Q .normal ⟨(d,.bool p) :: s.slots,s.h,s.n,s.defs⟩):JO P r o s Q:=
 qdu (v:= .bool p) ho hd hdn hx hy rfl (fun _ w=>qac op x y P w k k a b) (fun _ w=>hrun w) h
theorem qxa(ho:o.op= .binOp .add T x y U)(hd:o.dst=some d)(hdn:d<s.n)(hx:ev s.slots x=some (.int k a))(hy:ev s.slots y=some (.int k b))
 (h:Q .normal ⟨(d,.int k (q36 k (a+b))) :: s.slots,s.h,s.n,s.defs⟩):JO P r o s Q:=q3f ho hd hdn hx hy (fun w=>by simp[binOp,Op.intArith,q36]) h
theorem z32(ho:o.op= .binOp .sub T x y U)(hd:o.dst=some d)(hdn:d<s.n)(hx:ev s.slots x=some (.int k a))(hy:ev s.slots y=some (.int k b))
 (h:Q .normal ⟨(d,.int k (q36 k (a - b))) :: s.slots,s.h,s.n,s.defs⟩):JO P r o s Q:=q3f ho hd hdn hx hy (fun w=>by simp[binOp,Op.intArith,q36]) h
theorem z31(ho:o.op= .binOp .mul T x y U)(hd:o.dst=some d)(hdn:d<s.n)(hx:ev s.slots x=some (.int k a))(hy:ev s.slots y=some (.int k b))
 (h:Q .normal ⟨(d,.int k (q36 k (a * b))) :: s.slots,s.h,s.n,s.defs⟩):JO P r o s Q:=q3f ho hd hdn hx hy (fun w=>by simp[binOp,Op.intArith,q36]) h
theorem z9k(ho:o.op= .binOp .add T x y U)(hd:o.dst=some d)(hdn:d<s.n)(hx:ev s.slots x=some (.int .i64 a))(hy:ev s.slots y=some (.int .i64 b))
 (hr:-9223372036854775808≤a+b∧a+b≤9223372036854775807)
 (h:Q .normal ⟨(d,.int .i64 (a+b)) :: s.slots,s.h,s.n,s.defs⟩):JO P r o s Q:=qxa ho hd hdn hx hy (by rw[q36,IntWalk.i64_in _ hr]; exact h)
theorem z81(ho:o.op= .binOp .quo T x y U)(hd:o.dst=some d)(hdn:d<s.n)(hx:ev s.slots x=some (.int k a))(hy:ev s.slots y=some (.int k b))(hb:b≠0)
 (h:Q .normal ⟨(d,.int k (quoI k a b)) :: s.slots,s.h,s.n,s.defs⟩):JO P r o s Q:=q3f ho hd hdn hx hy (fun w=>by simp[binOp,Op.intDiv,hb,quoI]) h
theorem z82(ho:o.op= .binOp .rem T x y U)(hd:o.dst=some d)(hdn:d<s.n)(hx:ev s.slots x=some (.int k a))(hy:ev s.slots y=some (.int k b))(hb:b≠0)
 (h:Q .normal ⟨(d,.int k (remI a b)) :: s.slots,s.h,s.n,s.defs⟩):JO P r o s Q:=q3f ho hd hdn hx hy (fun w=>by simp[binOp,Op.intDiv,hb,remI]) h
theorem z7s(ho:o.op= .binOp .and T x y U)(hd:o.dst=some d)(hdn:d<s.n)(hx:ev s.slots x=some (.int k a))(hy:ev s.slots y=some (.int k b))
 (h:Q .normal ⟨(d,.int k (bitI .and k a b)) :: s.slots,s.h,s.n,s.defs⟩):JO P r o s Q:=q3f ho hd hdn hx hy (fun w=>by simp[binOp,Op.intBits,bitI]) h
theorem o_or(ho:o.op= .binOp .or T x y U)(hd:o.dst=some d)(hdn:d<s.n)(hx:ev s.slots x=some (.int k a))(hy:ev s.slots y=some (.int k b))
 (h:Q .normal ⟨(d,.int k (bitI .or k a b)) :: s.slots,s.h,s.n,s.defs⟩):JO P r o s Q:=q3f ho hd hdn hx hy (fun w=>by simp[binOp,Op.intBits,bitI]) h
theorem z87(ho:o.op= .binOp .xor T x y U)(hd:o.dst=some d)(hdn:d<s.n)(hx:ev s.slots x=some (.int k a))(hy:ev s.slots y=some (.int k b))
 (h:Q .normal ⟨(d,.int k (bitI .xor k a b)) :: s.slots,s.h,s.n,s.defs⟩):JO P r o s Q:=q3f ho hd hdn hx hy (fun w=>by simp[binOp,Op.intBits,bitI]) h
theorem qrh(ho:o.op= .binOp .andNot T x y U)(hd:o.dst=some d)(hdn:d<s.n)(hx:ev s.slots x=some (.int k a))(hy:ev s.slots y=some (.int k b))
 (h:Q .normal ⟨(d,.int k (bitI .andNot k a b)) :: s.slots,s.h,s.n,s.defs⟩):JO P r o s Q:=q3f ho hd hdn hx hy (fun w=>by simp[binOp,Op.intBits,bitI]) h
theorem z85{j:IntKind}(ho:o.op= .binOp .shl T x y U)(hd:o.dst=some d)(hdn:d<s.n)(hx:ev s.slots x=some (.int k a))(hy:ev s.slots y=some (.int j b))(hb:0≤b)
 (h:Q .normal ⟨(d,.int k (shlI k a b)) :: s.slots,s.h,s.n,s.defs⟩):JO P r o s Q:=
 qdu ho hd hdn hx hy rfl (fun _ w=>qac _ x y P w k j a b) (fun _ w=>by simp[conc,binOp,Op.shift,Int.not_lt.2 hb,shlI]) h
theorem z86{j:IntKind}(ho:o.op= .binOp .shr T x y U)(hd:o.dst=some d)(hdn:d<s.n)(hx:ev s.slots x=some (.int k a))(hy:ev s.slots y=some (.int j b))(hb:0≤b)
 (h:Q .normal ⟨(d,.int k (shrI k a b)) :: s.slots,s.h,s.n,s.defs⟩):JO P r o s Q:=
 qdu ho hd hdn hx hy rfl (fun _ w=>qac _ x y P w k j a b) (fun _ w=>by simp[conc,binOp,Op.shift,Int.not_lt.2 hb,shrI]) h
theorem o_eq(ho:o.op= .binOp .eql T x y U)(hd:o.dst=some d)(hdn:d<s.n)(hx:ev s.slots x=some (.int k a))(hy:ev s.slots y=some (.int k b))
 (h:Q .normal ⟨(d,.bool (decide (a=b))) :: s.slots,s.h,s.n,s.defs⟩):JO P r o s Q:=
 q5u ho hd hdn hx hy (fun w=>by simp only[binOp,Op.intCmp,ne_eq,not_true,if_false,zby]; congr 2) h
theorem o_ne(ho:o.op= .binOp .neq T x y U)(hd:o.dst=some d)(hdn:d<s.n)(hx:ev s.slots x=some (.int k a))(hy:ev s.slots y=some (.int k b))
 (h:Q .normal ⟨(d,.bool (decide (¬ a=b))) :: s.slots,s.h,s.n,s.defs⟩):JO P r o s Q:=
 q5u ho hd hdn hx hy (fun w=>by
  simp only[binOp,Op.intCmp,ne_eq,not_true,if_false,zby]
  by_cases e:a=b<;>simp[e]) h
theorem o_lt(ho:o.op= .binOp .lss T x y U)(hd:o.dst=some d)(hdn:d<s.n)(hx:ev s.slots x=some (.int k a))(hy:ev s.slots y=some (.int k b))
 (h:Q .normal ⟨(d,.bool (decide (a<b))) :: s.slots,s.h,s.n,s.defs⟩):JO P r o s Q:=
 q5u ho hd hdn hx hy (fun w=>by simp[binOp,Op.intCmp]) h
theorem o_le(ho:o.op= .binOp .leq T x y U)(hd:o.dst=some d)(hdn:d<s.n)(hx:ev s.slots x=some (.int k a))(hy:ev s.slots y=some (.int k b))
 (h:Q .normal ⟨(d,.bool (decide (a≤b))) :: s.slots,s.h,s.n,s.defs⟩):JO P r o s Q:=
 q5u ho hd hdn hx hy (fun w=>by simp[binOp,Op.intCmp]) h
theorem o_gt(ho:o.op= .binOp .gtr T x y U)(hd:o.dst=some d)(hdn:d<s.n)(hx:ev s.slots x=some (.int k a))(hy:ev s.slots y=some (.int k b))
 (h:Q .normal ⟨(d,.bool (decide (b<a))) :: s.slots,s.h,s.n,s.defs⟩):JO P r o s Q:=
 q5u ho hd hdn hx hy (fun w=>by simp[binOp,Op.intCmp]) h
theorem o_ge(ho:o.op= .binOp .geq T x y U)(hd:o.dst=some d)(hdn:d<s.n)(hx:ev s.slots x=some (.int k a))(hy:ev s.slots y=some (.int k b))
 (h:Q .normal ⟨(d,.bool (decide (b≤a))) :: s.slots,s.h,s.n,s.defs⟩):JO P r o s Q:=
 q5u ho hd hdn hx hy (fun w=>by simp[binOp,Op.intCmp]) h
theorem z7v{t:Bool}{vx vy:AV}(ho:o.op= .binOp .eql T x y U)(hd:o.dst=some d)(hdn:d<s.n)(hx:ev s.slots x=some vx)(hy:ev s.slots y=some vy)
 (hrun:∀ ρ w,(do eqGuard .eql T x y (conc ρ vx) (conc ρ vy); binOp .eql T (conc ρ vx) (conc ρ vy)).run P w= .ok (.bool t) w)(h:Q .normal ⟨(d,.bool t) :: s.slots,s.h,s.n,s.defs⟩):JO P r o s Q:=
 q0t hd hdn (by simp[Oper.noDefer,ho]) (fun _=>zbl _) (fun ρ a w hrel=>by
  have:=hrun ρ w;simp only[execOp,ho,q03 hrel hx,q03 hrel hy];rw[zbx,this]; rfl) h
theorem z7z{t:Bool}{vx vy:AV}(ho:o.op= .binOp .neq T x y U)(hd:o.dst=some d)(hdn:d<s.n)(hx:ev s.slots x=some vx)(hy:ev s.slots y=some vy)
 (hrun:∀ ρ w,(do eqGuard .neq T x y (conc ρ vx) (conc ρ vy); binOp .neq T (conc ρ vx) (conc ρ vy)).run P w= .ok (.bool t) w)(h:Q .normal ⟨(d,.bool t) :: s.slots,s.h,s.n,s.defs⟩):JO P r o s Q:=
 q0t hd hdn (by simp[Oper.noDefer,ho]) (fun _=>zbl _) (fun ρ a w hrel=>by
  have:=hrun ρ w;simp only[execOp,ho,q03 hrel hx,q03 hrel hy];rw[zbx,this]; rfl) h
theorem z84{p q:ByteArray}(ho:o.op= .binOp .eql T x y U)(hd:o.dst=some d)(hdn:d<s.n)(hx:ev s.slots x=some (.str p))(hy:ev s.slots y=some (.str q))
 (h:Q .normal ⟨(d,.bool (p.toList==q.toList)) :: s.slots,s.h,s.n,s.defs⟩):JO P r o s Q:=
 qdu ho hd hdn hx hy rfl (fun _ w=>by simp[eqGuard,conc]) (fun _ w=>by simp[conc,binOp,Op.stringOp]) h
theorem z5l{p q:ByteArray}(ho:o.op= .binOp .neq T x y U)(hd:o.dst=some d)(hdn:d<s.n)(hx:ev s.slots x=some (.str p))(hy:ev s.slots y=some (.str q))
 (h:Q .normal ⟨(d,.bool (!(p.toList==q.toList))) :: s.slots,s.h,s.n,s.defs⟩):JO P r o s Q:=
 qdu ho hd hdn hx hy rfl (fun _ w=>by simp[eqGuard,conc]) (fun _ w=>by simp[conc,binOp,Op.stringOp]) h
theorem z83{p q:ByteArray}(ho:o.op= .binOp .add T x y U)(hd:o.dst=some d)(hdn:d<s.n)(hx:ev s.slots x=some (.str p))(hy:ev s.slots y=some (.str q))
 (hb:p.size+q.size≤9223372036854775807)
 (h:Q .normal ⟨(d,.str (p++q)) :: s.slots,s.h,s.n,s.defs⟩):JO P r o s Q:=
 qdu ho hd hdn hx hy rfl (fun _ w=>by simp[eqGuard]) (fun _ w=>by
  simp[conc,binOp,Op.stringOp]; omega) h
theorem z80{t:Bool}(ho:o.op= .unOp .not T x)(hd:o.dst=some d)(hdn:d<s.n)(hx:ev s.slots x=some (.bool t))(h:Q .normal ⟨(d,.bool (!t)) :: s.slots,s.h,s.n,s.defs⟩):JO P r o s Q:=
 q0t hd hdn (by simp[Oper.noDefer,ho]) (fun _=>zbl _) (fun ρ a w hrel=>by simp[execOp,ho,q03 hrel hx,conc,Op.unary]) h
theorem z7y(ho:o.op= .unOp .neg T x)(hd:o.dst=some d)(hdn:d<s.n)(hx:ev s.slots x=some (.int k a))(h:Q .normal ⟨(d,.int k (q36 k (0 - a))) :: s.slots,s.h,s.n,s.defs⟩):JO P r o s Q:=
 q0t hd hdn (by simp[Oper.noDefer,ho]) (fun _=>zbl _) (fun ρ a w hrel=>by simp[execOp,ho,q03 hrel hx,conc,Op.unary,Op.intArith,q36]) h
theorem z2z{T' U':TypeId}{j k':IntKind}(ho:o.op= .convert T' U' x)(hd:o.dst=some d)(hdn:d<s.n)(hx:ev s.slots x=some (.int j a)){dT:TypeDesc}(hT:P.underlying T'=some dT)
 (hU:P.underlying U'=some (.int k'))(h:Q .normal ⟨(d,.int k' (q36 k' a)) :: s.slots,s.h,s.n,s.defs⟩):JO P r o s Q:=
 q0t hd hdn (by simp[Oper.noDefer,ho]) (fun _=>zbl _) (fun ρ a w hrel=>by
  simp[execOp,ho,q03 hrel hx,conc,convert,underlying,hT,hU,Conv.intToInt,q36]) h
theorem qmg{i:Nat}{vs:List AV}(ho:o.op= .extract x i)(hd:o.dst=some d)(hdn:d<s.n)(hx:ev s.slots x=some (.tuple vs))(hv:vs[i]?=some v)
 (h:Q .normal ⟨(d,v) :: s.slots,s.h,s.n,s.defs⟩):JO P r o s Q:=
 q0t hd hdn (by simp[Oper.noDefer,ho]) (fun hw=>q6m (by have:=q1i hw hx; simpa [AV.sup]using this) hv) (fun ρ a w hrel=>by
  simp[execOp,ho,q03 hrel hx,conc,Instr.extract,q2f,hv]) h
theorem q3v{p:Nat×Nat}(ho:o.op= .nilCheck x)(hd:o.dst=some d)(hdn:d<s.n)(hx:ev s.slots x=some (.ptr (some p)))(h:Q .normal ⟨(d,.ptr (some p)) :: s.slots,s.h,s.n,s.defs⟩):JO P r o s Q:=
 q0t hd hdn (by simp[Oper.noDefer,ho]) (fun hw=>q1i hw hx) (fun ρ a w hrel=>by simp[execOp,ho,q03 hrel hx,conc]) h
theorem qam{f:FuncId}{l1 l2:List AV}(ho:o.op= .nilCheck x)(hd:o.dst=some d)(hdn:d<s.n)(hx:ev s.slots x=some (.fn (.func f) l1 l2))(h:Q .normal ⟨(d,.fn (.func f) l1 l2) :: s.slots,s.h,s.n,s.defs⟩):JO P r o s Q:=
 q0t hd hdn (by simp[Oper.noDefer,ho]) (fun hw=>q1i hw hx) (fun ρ a w hrel=>by simp[execOp,ho,q03 hrel hx,conc]) h
def evL(sl:List (Nat×AV)):List Operand→Option (List AV)
 | []=>some []
 | x :: r=>match ev sl x,evL sl r with
   | some v,some l=>some (v :: l)
   | _,_=>none
theorem qd8{ρ:Ren}{a:Act}{w:World}(hr:Rel ρ s a w):∀ {l:List Operand} {vs:List AV},evL s.slots l=some vs→l.map a.eval=q04 ρ vs
 | [],vs,h=>by simp only[evL,zbe]at h; subst h; rfl
 | x :: r,vs,h=>by
   simp only[evL]at h;cases h1:ev s.slots x with
   | none=>simp[h1]at h
   | some v=>
     cases h2:evL s.slots r with
     | none=>simp[h1,h2]at h
     | some l=>simp only[h1,h2,zbe]at h; subst h; simp[q04,q03 hr h1,qd8 hr h2]
theorem qj3(hw:s.wf):∀ {l:List Operand} {vs:List AV},evL s.slots l=some vs→supL vs≤s.h.next
 | [],vs,h=>by simp only[evL,zbe]at h; subst h; exact zbl _
 | x :: r,vs,h=>by
   simp only[evL]at h;cases h1:ev s.slots x with
   | none=>simp[h1]at h
   | some v=>
     cases h2:evL s.slots r with
     | none=>simp[h1,h2]at h
     | some l=>
       simp only[h1,h2,zbe]at h; subst h;have a1:=q1i hw h1;have a2:=qj3 hw h2;simp only[supL]; omega
theorem qbt{f:Fn}{l1 l2:Array Operand}{v1 v2:List AV}(ho:o.op= .makeFunc f l1 l2)(hd:o.dst=some d)(hdn:d<s.n)(h1:evL s.slots l1.toList=some v1)(h2:evL s.slots l2.toList=some v2)
 (h:Q .normal ⟨(d,.fn f v1 v2) :: s.slots,s.h,s.n,s.defs⟩):JO P r o s Q:=
 q0t hd hdn (by simp[Oper.noDefer,ho]) (fun hw=>by have:=qj3 hw h1; have:=qj3 hw h2; simp only[AV.sup]; omega) (fun ρ a w hrel=>by
  have e1:=qd8 hrel h1;have e2:=qd8 hrel h2;have f1:l1.map a.eval=(q04 ρ v1).toArray:=by rw[←e1,←Array.toList_map,Array.toArray_toList]
  have f2:l2.map a.eval=(q04 ρ v2).toArray:=by rw[←e2,←Array.toList_map,Array.toArray_toList]
  simp[execOp,ho,conc,Instr.makeFunc,f1,f2]) h
def q40:TypeDesc→Bool
 | .struct _ | .array _ _=>true
 | _=>false
theorem qmw{D:TypeDesc}(h:P.underlying T=some D)(w:World):(isAgg T).run P w= .ok (q40 D) w:=by
 unfold isAgg;rw[zbx,Go.run_underlying h];cases D<;>rfl
theorem q0i{n:Nat}(h:(P.info? T).map (·.size)=some n)(w:World):(sizeOf T).run P w= .ok n w:=by
 cases hi:P.info? T with
 | none=>simp[hi]at h
 | some i=>simp[hi]at h; simp[sizeOf,typeInfo,hi,h]
def qd1(agg:Bool)(n:Nat)(cs:List AV)(off:Nat):Option AV:=
 if agg then some (.agg ((cs.drop off).take n)) else cs[off]?
theorem qmx{D:TypeDesc}{n:Nat}(hT:P.underlying T=some D)(hn:(P.info? T).map (·.size)=some n){cs:List AV}{off:Nat}(hv:qd1 (q40 D) n cs off=some v)(ρ:Ren)(w:World):
 (part T (q04 ρ cs).toArray off).run P w= .ok (conc ρ v) w:=by
 unfold qd1 at hv;unfold part;simp only[zbx,qmw hT,zbk];cases hD:q40 D with
 | true=>
   simp only[hD,if_true,zbe]at hv ⊢;subst hv;simp only[zbx,q0i hn,zbk,zby,conc,q52];congr 2;simp[List.extract_toArray,List.extract_eq_take_drop,List.map_take,List.map_drop]
 | false=>
   simp only[hD,zbn,if_false]at hv ⊢;have:(q04 ρ cs).toArray[off]?=some (conc ρ v):=by simp[q2f,hv]
   simp only[this,zby]
theorem qmp{agg:Bool}{n m:Nat}{cs:List AV}{off:Nat}(hs:supL cs≤m)(hv:qd1 agg n cs off=some v):v.sup≤m:=by
 unfold qd1 at hv;split at hv
 · simp only[zbe]at hv; subst hv
   simp only[AV.sup];exact q3s.2 fun u hu=>q3s.1 hs u (List.mem_of_mem_drop (List.mem_of_mem_take hu))
 · exact q6m hs hv
def q1y(P:Program)(S:TypeId)(i off:Nat)(T:TypeId):Prop:= ∃ fs f,P.underlying S=some (.struct fs)∧fs[i]?=some f∧f.offset=off∧f.type=T
theorem qoy{S:TypeId}{i off n:Nat}{D:TypeDesc}{cs:List AV}(hf:q1y P S i off T)(hT:P.underlying T=some D)(hn:(P.info? T).map (·.size)=some n)
 (ho:o.op= .field S x i)(hd:o.dst=some d)(hdn:d<s.n)(hx:ev s.slots x=some (.agg cs))(hv:qd1 (q40 D) n cs off=some v)
 (h:Q .normal ⟨(d,v) :: s.slots,s.h,s.n,s.defs⟩):JO P r o s Q:=
 q0t hd hdn (by simp[Oper.noDefer,ho]) (fun hw=>qmp (by have:=q1i hw hx; simpa [AV.sup]using this) hv) (fun ρ a w hrel=>by
  obtain⟨fs,f,h1,h2,h3,h4⟩:=hf;subst h3; subst h4;simp[execOp,ho,q03 hrel hx,conc,Instr.field,underlying,h1,h2,asAgg,qmx hT hn hv]) h
theorem qbs{A:TypeId}{len n:Nat}{D:TypeDesc}{cs:List AV}{i:Int}(hA:P.underlying A=some (.array len T))(hT:P.underlying T=some D)(hn:(P.info? T).map (·.size)=some n)
 (ho:o.op= .index A x y)(hd:o.dst=some d)(hdn:d<s.n)(hx:ev s.slots x=some (.agg cs))(hy:ev s.slots y=some (.int k i))(hi:0≤i∧i<len)(hv:qd1 (q40 D) n cs (i.toNat * n)=some v)
 (h:Q .normal ⟨(d,v) :: s.slots,s.h,s.n,s.defs⟩):JO P r o s Q:=
 q0t hd hdn (by simp[Oper.noDefer,ho]) (fun hw=>qmp (by have:=q1i hw hx; simpa [AV.sup]using this) hv) (fun ρ a w hrel=>by
  simp[execOp,ho,q03 hrel hx,q03 hrel hy,conc,Instr.index,asIntOf,underlying,hA,hi,q0i hn,qmx hT hn hv]) h
theorem qho{A:TypeId}{p:ByteArray}{i:Int}(hA:P.underlying A=some .string)
 (ho:o.op= .index A x y)(hd:o.dst=some d)(hdn:d<s.n)(hx:ev s.slots x=some (.str p))(hy:ev s.slots y=some (.int k i))(h0:0≤i){c:UInt8}(hc:p[i.toNat]?=some c)
 (h:Q .normal ⟨(d,.int .u8 c.toNat) :: s.slots,s.h,s.n,s.defs⟩):JO P r o s Q:=
 q0t hd hdn (by simp[Oper.noDefer,ho]) (fun _=>zbl _) (fun ρ a w hrel=>by
  simp[execOp,ho,q03 hrel hx,q03 hrel hy,conc,Instr.index,asIntOf,underlying,hA,h0,hc]) h
end rules
structure AH.SetTo(h:AH)(id:Nat)(c:Chunk)(h':AH):Prop where
 next:h'.next=h.next
 new:h'.get id=some c
 old:∀ j,j≠id→h'.get j=h.get j
structure AH.AddTo(h:AH)(id:Nat)(c:Chunk)(h':AH):Prop where
 is:id=h.next
 next:h'.next=h.next+1
 new:h'.get id=some c
 old:∀ j,j≠id→h'.get j=h.get j
def AH.set(h:AH)(id:Nat)(c:Chunk):AH:=⟨h.next,fun i=>if i=id then some c else h.get i⟩
def AH.add(h:AH)(c:Chunk):AH:=⟨h.next+1,fun i=>if i=h.next then some c else h.get i⟩
theorem AH.za4(h:AH)(id:Nat)(c:Chunk):h.SetTo id c (h.set id c):=⟨rfl,by simp[AH.set],fun j hj=>by simp[AH.set,hj]⟩
theorem AH.z9w(h:AH)(c:Chunk):h.AddTo h.next c (h.add c):=⟨rfl,rfl,by simp[AH.add],fun j hj=>by simp[AH.add,hj]⟩
theorem AH.za5{h:AH}{id:Nat}{c:Chunk}(hw:h.wf)(hi:id<h.next)(hc:c.sup≤h.next):(h.set id c).wf:=fun i c' hg=>by
 simp only[AH.set]at hg ⊢;split at hg
 · simp at hg; subst hg; rename_i e; subst e; exact⟨hi,hc⟩
 · exact hw i c' hg
theorem AH.z9x{h:AH}{c:Chunk}(hw:h.wf)(hc:c.sup≤h.next+1):(h.add c).wf:=fun i c' hg=>by
 simp only[AH.add]at hg ⊢;split at hg
 · simp at hg; subst hg; rename_i e; subst e; exact⟨zc0 _,hc⟩
 · have:=hw i c' hg; exact⟨by omega,by omega⟩
theorem Real.lt{ρ:Ren}{id:Nat}{w:World}{c:Chunk}(h:Real ρ id w c):ρ.blk id<w.heap.size:=by
 have key:∀ {o:Obj},w.heap[ρ.blk id]?=some o→ρ.blk id<w.heap.size:=fun h=>(zch.1 h).1
 cases c with
 | ro cs=>exact h.1
 | own cs=>obtain⟨_,e,h⟩:=h; exact key h
 | grow e cs=>obtain⟨_,e,arr,h,_⟩:=h; exact key h
 | map es cl=>exact key h.2
 | siter _ _=>exact key h.2
 | loop=>obtain⟨_,f,t,_,h⟩:=h; exact key h
 | mark=>exact key h.2
theorem Real.congr{ρ:Ren}{id:Nat}{w w':World}{c:Chunk}(h:Real ρ id w c)(hb:w'.heap[ρ.blk id]?=w.heap[ρ.blk id]?):Real ρ id w' c:=by
 have hsz:ρ.blk id<w'.heap.size:=by
  have hlt:=h.lt;have h1:=(Array.getElem?_eq_getElem hlt);rw[h1]at hb;exact(zch.1 hb).1
 cases c with
 | ro cs=>exact⟨hsz,fun i v hv=>by have:=h.2 i v hv; simpa only[World.cell?,hb]using this⟩
 | own cs=>obtain⟨h0,e,h⟩:=h; exact⟨h0,e,by rw[hb]; exact h⟩
 | grow e cs=>obtain⟨h0,e,arr,h,h'⟩:=h; exact⟨h0,e,arr,by rw[hb]; exact h,h'⟩
 | map es cl=>exact⟨h.1,by rw[hb]; exact h.2⟩
 | siter _ _=>exact⟨h.1,by rw[hb]; exact h.2⟩
 | loop=>obtain⟨h0,f,t,h',h⟩:=h; exact⟨h0,f,t,h',by rw[hb]; exact h⟩
 | mark=>exact⟨h.1,by rw[hb]; exact h.2⟩
theorem q2q{l:List (AV×AV×Nat)}{n:Nat}:supE l≤n↔ ∀ e∈l,e.1.sup≤n∧e.2.1.sup≤n:=by
 induction l with
 | nil=>simp[supE]
 | cons v r ih=>simp only[supE,zbm,forall_eq_or_imp,←ih]; omega
theorem Real.ext{ρ ρ':Ren}{id n:Nat}{w:World}{c:Chunk}(h:Real ρ id w c)(he:ρ.ext ρ' n)(hid:id<n)(hs:c.sup≤n):Real ρ' id w c:=by
 obtain⟨e1,e2,e3⟩:=he id hid;cases c with
 | ro cs=>
   simp only[Chunk.sup]at hs;refine⟨by rw[e1]; exact h.1,fun i v hv=>?_⟩
   rw[e1,e2,q2d he v (q6m hs hv)]; exact h.2 i v hv
 | own cs=>
   simp only[Chunk.sup]at hs;obtain⟨h0,e,h⟩:=h;exact⟨by rw[e2]; exact h0,e,by rw[e1,q0u he cs hs]; exact h⟩
 | grow e cs=>
   simp only[Chunk.sup]at hs;obtain⟨h0,e,arr,h,h1,h2,h3⟩:=h;exact⟨by rw[e2]; exact h0,e,arr,by rw[e1]; exact h,by rw[e3]; exact h1,h2,fun i v hv=>by rw[q2d he v (q6m hs hv)]; exact h3 i v hv⟩
 | map es cl=>
   simp only[Chunk.sup]at hs;refine⟨by rw[e2]; exact h.1,?_⟩
   rw[e1,h.2];congr 3;apply List.map_congr_left;intro x hx;have:=q2q.1 hs x hx;rw[q2d he _ this.1,q2d he _ this.2]
 | siter _ _=>exact⟨by rw[e2]; exact h.1,by rw[e1]; exact h.2⟩
 | loop st pend ts nt params assign body m=>
   simp only[Chunk.sup]at hs;obtain⟨h0,f,t,h',h⟩:=h;exact⟨by rw[e2]; exact h0,f,t,q0v h' he (fun k v hk=>zbo (qyc (zbi _) hk) (by omega)),by rw[e1,(he m (by omega)).1]; exact h⟩
 | mark=>exact⟨by rw[e2]; exact h.1,by rw[e1]; exact h.2⟩
theorem HRel.setBlk{ρ:Ren}{h:AH}{w w':World}{id:Nat}{c c':Chunk}(hr:HRel ρ h w)(hg:h.get id=some c)(hc:c.isRo=false)
 (hb:∀ B,B≠ρ.blk id→w'.heap[B]?=w.heap[B]?)(hreal:Real ρ id w' c'):HRel ρ (h.set id c') w':=by
 refine⟨fun j cj hj=>?_,fun i j ci cj hne hi hj hro=>?_⟩
 · simp only[AH.set]at hj
   split at hj
   · rename_i e; simp at hj; subst hj; subst e; exact hreal
   · rename_i e
     exact(hr.1 j cj hj).congr (hb _ (Ne.symm (hr.2 id j c cj (Ne.symm e) hg hj hc)))
 · simp only[AH.set]at hi hj
   split at hi
   · rename_i e
     subst e;rw[if_neg (Ne.symm hne)]at hj;exact hr.2 i j c cj hne hg hj hc
   · split at hj
     · rename_i e; subst e; exact hr.2 i j ci c hne hi hg hro
     · exact hr.2 i j ci cj hne hi hj hro
theorem Fr.setBlk{ρ:Ren}{h:AH}{w w':World}{id:Nat}{c c':Chunk}(hg:h.get id=some c)(hc:c.isRo=false)(ho:w'.os=w.os∧w'.tape=w.tape∧w'.output=w.output)
 (hsz:w.heap.size≤w'.heap.size)(hb:∀ B,B≠ρ.blk id→w'.heap[B]?=w.heap[B]?):Fr ρ h w ρ (h.set id c') w':=by
 refine⟨ho,hsz,fun B _ hno=>hb B fun e=>hno id c hg hc e.symm,fun j cj hj=> .inr ?_,.refl _ _,zbi _⟩
 simp only[AH.set]at hj;split at hj
 · rename_i e; subst e; exact⟨j,c,hg,fun _=>hc,rfl⟩
 · exact⟨j,cj,hj,fun h=>h,rfl⟩
def Ren.plus(ρ:Ren)(n blk cap:Nat):Ren:=
 ⟨fun i=>if i=n then blk else ρ.blk i,fun i=>if i=n then 0 else ρ.off i,fun i=>if i=n then cap else ρ.cap i⟩
theorem Ren.plus_ext(ρ:Ren)(n blk cap:Nat):ρ.ext (ρ.plus n blk cap) n:=fun i hi=>by
 have:i≠n:=by omega
 simp[Ren.plus,this]
theorem HRel.addBlk{ρ:Ren}{h:AH}{w:World}{o:Obj}{c:Chunk}{cap dr:Nat}(hr:HRel ρ h w)(hw:h.wf)(hreal:Real (ρ.plus h.next w.heap.size cap) h.next {w with heap:=w.heap.push o,drawn:=dr} c):
 HRel (ρ.plus h.next w.heap.size cap) (h.add c) {w with heap:=w.heap.push o,drawn:=dr}:=by
 have hext:=ρ.plus_ext h.next w.heap.size cap
 have hold:∀ j cj,h.get j=some cj→Real (ρ.plus h.next w.heap.size cap) j {w with heap:=w.heap.push o,drawn:=dr} cj∧(ρ.plus h.next w.heap.size cap).blk j<w.heap.size:=by
  intro j cj hj;obtain⟨h1,h2⟩:=hw j cj hj;have hre:=(hr.1 j cj hj).ext hext h1 h2;refine⟨hre.congr ?_,hre.lt⟩;simp[Array.getElem?_push,Nat.ne_of_lt hre.lt]
 have hnew:(ρ.plus h.next w.heap.size cap).blk h.next=w.heap.size:=by simp[Ren.plus]
 refine⟨fun j cj hj=>?_,fun i j ci cj hne hi hj hro=>?_⟩
 · simp only[AH.add]at hj
   split at hj
   · rename_i e; simp at hj; subst hj; subst e; exact hreal
   · exact(hold j cj hj).1
 · simp only[AH.add]at hi hj
   split at hi
   · rename_i e
     subst e;rw[if_neg (Ne.symm hne)]at hj;have:=(hold j cj hj).2;omega
   · have hil:=(hold i ci hi).2
     split at hj
     · rename_i e; subst e; omega
     · have a1:=(hext i (hw i ci hi).1).1
       have a2:=(hext j (hw j cj hj).1).1;rw[a1,a2];exact hr.2 i j ci cj hne hi hj hro
theorem Fr.addBlk{ρ:Ren}{h:AH}{w:World}{o:Obj}{c:Chunk}{cap dr:Nat}(hw:h.wf):
 Fr ρ h w (ρ.plus h.next w.heap.size cap) (h.add c) {w with heap:=w.heap.push o,drawn:=dr}:=by
 refine⟨⟨rfl,rfl,rfl⟩,by simp,fun B hB _=>by simp[Array.getElem?_push,Nat.ne_of_lt hB],fun j cj hj=>?_,ρ.plus_ext _ _ _,by simp[AH.add]⟩
 simp only[AH.add]at hj;split at hj
 · rename_i e; subst e; exact .inl (by simp[Ren.plus])
 · have:=(ρ.plus_ext h.next w.heap.size cap j (hw j cj hj).1).1
   exact .inr ⟨j,cj,hj,fun h=>h,this.symm⟩
def AH.cells(h:AH)(id:Nat):Option (List AV):=
 match h.get id with
 | some (.ro cs)=>some cs
 | some (.own cs)=>some cs
 | some (.grow _ cs)=>some cs
 | _=>none
theorem HRel.cell{ρ:Ren}{h:AH}{w:World}{id i:Nat}{cs:List AV}{v:AV}(hr:HRel ρ h w)(hc:h.cells id=some cs)(hv:cs[i]?=some v):
 w.cell? (ρ.addr (id,i))=some (conc ρ v):=by
 unfold AH.cells at hc;cases hg:h.get id with
 | none=>simp[hg]at hc
 | some c=>
   have hreal:=hr.1 id c hg;cases c<;>simp[hg]at hc
   · subst hc; exact hreal.2 i v hv
   · subst hc
     obtain⟨h0,e,hb⟩:=hreal;simp[World.cell?,Ren.addr,hb,h0,q2f,hv]
   · subst hc
     obtain⟨h0,e,arr,hb,h1,h2,h3⟩:=hreal;simp[World.cell?,Ren.addr,hb,h0,h3 i v hv]
theorem q38(ρ:Ren)(id off n:Nat):(ρ.addr (id,off)).add n=ρ.addr (id,off+n):=by
 unfold Addr.add Ren.addr;split
 · rename_i e; subst e; rfl
 · simp[Nat.add_assoc]
theorem qec{h:AH}(hw:h.wf){id:Nat}{cs:List AV}(hc:h.cells id=some cs):supL cs≤h.next∧id<h.next:=by
 unfold AH.cells at hc;cases hg:h.get id with
 | none=>simp[hg]at hc
 | some c=>
   obtain⟨h1,h2⟩:=hw id c hg;cases c<;>simp[hg]at hc<;>(subst hc; exact⟨h2,h1⟩)
def ldA(agg:Bool)(n:Nat)(cs:List AV)(off:Nat):Option AV:=
 if agg then(if off+n≤cs.length then some (.agg ((cs.drop off).take n)) else none) else cs[off]?
theorem qxv{P:Program}{T:TypeId}{D:TypeDesc}{n:Nat}(hT:P.underlying T=some D)(hn:(P.info? T).map (·.size)=some n){ρ:Ren}{h:AH}{w:World}{id off:Nat}{cs:List AV}{v:AV}
 (hr:HRel ρ h w)(hc:h.cells id=some cs)(hv:ldA (q40 D) n cs off=some v):(loadVar T (ρ.addr (id,off))).run P w= .ok (conc ρ v) w:=by
 unfold ldA at hv;unfold loadVar;rw[zbx,qmw hT,zbk];cases hD:q40 D with
 | true=>
   rw[hD,if_pos rfl]at hv;split at hv
   · rename_i hle
     simp only[zbe]at hv;subst hv;rw[if_pos rfl,zbx,q0i hn,zbk,zbx];have hl:((cs.drop off).take n).length=n:=by simp; omega
     have:=run_loadCells_list (P:=P) w (ρ.addr (id,off)) (q04 ρ ((cs.drop off).take n)) (fun j u hu=>by
      rw[q2f]at hu;obtain⟨x,hx,rfl⟩:=zbw.1 hu;rw[q38];refine hr.cell hc ?_;rw[zcp]at hx;split at hx
      · rw[zcq]at hx; exact hx
      · simp at hx)
     rw[q53,hl]at this;rw[this]; rfl
   · simp at hv
 | false=>
   rw[hD]at hv;simp only[zbn,if_false]at hv ⊢;rw[run_load,hr.cell hc hv]
theorem qwl{agg:Bool}{n m:Nat}{cs:List AV}{off:Nat}{v:AV}(hs:supL cs≤m)(hv:ldA agg n cs off=some v):v.sup≤m:=by
 unfold ldA at hv;split at hv
 · split at hv
   · simp only[zbe]at hv; subst hv
     simp only[AV.sup];exact q3s.2 fun u hu=>q3s.1 hs u (List.mem_of_mem_drop (List.mem_of_mem_take hu))
   · simp at hv
 · exact q6m hs hv
def AV.cells:AV→List AV
 | .agg cs=>cs
 | v=>[v]
def AV.one:AV→Bool
 | .agg _ | .tuple _=>false
 | _=>true
theorem q27(ρ:Ren)(v:AV):(conc ρ v).cells=(q04 ρ v.cells).toArray:=by
 cases v<;>rfl
theorem z01{ρ:Ren}{v:AV}(h:v.one=true):(conc ρ v).oneCell'=true:=by
 cases v<;>first | rfl | simp[AV.one]at h
theorem q19{v:AV}:supL v.cells=v.sup:=by
 cases v<;>simp[AV.cells,supL,AV.sup]
def splice(l:List AV)(off:Nat)(new:List AV):List AV:=l.take off++new++l.drop (off+new.length)
theorem q2p{l:List AV}{off:Nat}{new:List AV}(h:off+new.length≤l.length):(splice l off new).length=l.length:=by
 simp[splice]; omega
section rules
variable{P:Program}{r:Option Nat}{s:St}{Q:AExit→St→Prop}{o:Oper}{d:Nat}{x y:Operand}{v u:AV}{T U:TypeId}{k:IntKind}{a b:Int}
theorem qxe{D:TypeDesc}{n id off:Nat}{cs:List AV}(hT:P.underlying T=some D)(hn:(P.info? T).map (·.size)=some n)
 (ho:o.op= .load T x)(hd:o.dst=some d)(hdn:d<s.n)(hx:ev s.slots x=some (.ptr (some (id,off))))(hc:s.h.cells id=some cs)(hv:ldA (q40 D) n cs off=some v)
 (h:Q .normal ⟨(d,v) :: s.slots,s.h,s.n,s.defs⟩):JO P r o s Q:=
 q0t hd hdn (by simp[Oper.noDefer,ho]) (fun hw=>qwl (qec hw.2.1 hc).1 hv) (fun ρ a w hrel=>by
  simp[execOp,ho,q03 hrel hx,conc,Instr.loadAt,Instr.sureAddr,qxv hT hn hrel.2.2 hc hv]) h
theorem q9f{S:TypeId}{i off id fo n:Nat}(hf:q1y P S i fo T)(hn:(P.info? T).map (·.size)=some n)(hn0:n≠0)
 (ho:o.op= .fieldAddr S x i)(hd:o.dst=some d)(hdn:d<s.n)(hx:ev s.slots x=some (.ptr (some (id,off))))
 (h:Q .normal ⟨(d,.ptr (some (id,off+fo))) :: s.slots,s.h,s.n,s.defs⟩):JO P r o s Q:=
 q0t hd hdn (by simp[Oper.noDefer,ho]) (fun hw=>by have:=q1i hw hx; exact this) (fun ρ a w hrel=>by
  obtain⟨fs,f,h1,h2,h3,h4⟩:=hf;subst h3; subst h4;simp[execOp,ho,q03 hrel hx,conc,Instr.fieldAt,underlying,h1,h2,Instr.sureAddr,fieldPlace,q0i hn,hn0,q38]) h
theorem q5e{n id off len:Nat}{c:Cap}{i:Int}(hU:P.underlying U=some (.slice T))(hn:(P.info? T).map (·.size)=some n)
 (ho:o.op= .indexAddr U x y)(hd:o.dst=some d)(hdn:d<s.n)(hx:ev s.slots x=some (.slice (some (id,off)) len c))(hy:ev s.slots y=some (.int k i))(hi:0≤i∧i<len)
 (h:Q .normal ⟨(d,.ptr (some (id,off+i.toNat * n))) :: s.slots,s.h,s.n,s.defs⟩):JO P r o s Q:=
 q0t hd hdn (by simp[Oper.noDefer,ho]) (fun hw=>by have:=q1i hw hx; exact this) (fun ρ a w hrel=>by
  simp[execOp,ho,q03 hrel hx,q03 hrel hy,conc,Instr.indexAt,asIntOf,underlying,hU,hi,q0i hn,q38]) h
theorem qcn{n id off len:Nat}{i:Int}(hU:P.underlying U=some (.array len T))(hn:(P.info? T).map (·.size)=some n)
 (ho:o.op= .indexAddr U x y)(hd:o.dst=some d)(hdn:d<s.n)(hx:ev s.slots x=some (.ptr (some (id,off))))(hy:ev s.slots y=some (.int k i))(hi:0≤i∧i<len)
 (h:Q .normal ⟨(d,.ptr (some (id,off+i.toNat * n))) :: s.slots,s.h,s.n,s.defs⟩):JO P r o s Q:=
 q0t hd hdn (by simp[Oper.noDefer,ho]) (fun hw=>by have:=q1i hw hx; exact this) (fun ρ a w hrel=>by
  simp[execOp,ho,q03 hrel hx,q03 hrel hy,conc,Instr.indexAt,asIntOf,underlying,hU,hi,q0i hn,q38,Instr.sureAddr]) h
theorem z7t{z:List AV}(ho:o.op= .box T x)(hd:o.dst=some d)(hdn:d<s.n)(hx:ev s.slots x=some v)(hz:v.cells=z)
 (h:∀ i h',s.h.AddTo i (.own z) h'→Q .normal ⟨(d,.ptr (some (i,0))) :: s.slots,h',s.n,s.defs⟩):JO P r o s Q:=by
 subst hz;refine qc8 (h':=s.h.add (.own v.cells)) hd hdn (by simp[Oper.noDefer,ho]) (fun hw=>⟨AH.z9x hw.2.1 ?_,by simp[AH.add],by simp[AV.sup,supA,AH.add]⟩) (fun hw ρ a w hrel=>?_) (h _ _ (AH.z9w _ _))
 · have:=q1i hw hx; simp only[Chunk.sup,q19]; omega
 · have hs:=q1i hw hx
   refine⟨ρ.plus s.h.next w.heap.size 0,{w with heap:=w.heap.push (.cells (q04 ρ v.cells).toArray T)},?_,?_,?_⟩
   · simp[execOp,ho,q03 hrel hx,Instr.box,newVar,newRow,q27,conc,Ren.addr,Ren.plus]
   · refine HRel.addBlk (dr:=w.drawn) hrel.2.2 hw.2.1 ⟨by simp[Ren.plus],T,?_⟩
     rw[q0u (ρ.plus_ext _ _ _) _ (by rw[q19]; exact hs)]
     simp[Ren.plus]
   · exact Fr.addBlk (dr:=w.drawn) hw.2.1
end rules
def q26(P:Program)(T:TypeId)(z:AV):Prop:= ∃ i v,P.info? T=some i∧i.zero=some v∧absv v=some z
theorem q4d{P:Program}{T:TypeId}{z:AV}(h:q26 P T z)(ρ:Ren)(w:World):(zeroValue T).run P w= .ok (conc ρ z) w:=by
 obtain⟨i,v,h1,h2,h3⟩:=h;obtain⟨h4,_⟩:=q72 ρ v z h3;simp[zeroValue,typeInfo,h1,h2,h4]
theorem q3h{P:Program}{T:TypeId}{z:AV}(h:q26 P T z):z.sup=0:=by
 obtain⟨i,v,h1,h2,h3⟩:=h;exact(q72 ⟨fun _=>0,fun _=>0,fun _=>0⟩ v z h3).2
def q5l(place:Nat→Option (Nat×Nat))(cells:List AV):List (Nat×AV)→Option (List AV)
 | []=>some cells
 | (i,v) :: rest=>
   match place i with
   | none=>none
   | some (off,size)=>if v.cells.length=size∧off+v.cells.length≤cells.length then q5l place (splice cells off v.cells) rest else none
theorem qw1(new:List Value):∀ (k off:Nat) (cs:Array Value),off+k+new.length≤cs.size→
 ((new.zipIdx k).foldl (fun(cs:Array Value) (c,j)=>cs.setIfInBounds (off+j) c) cs).size=cs.size∧
 ∀ j,((new.zipIdx k).foldl (fun(cs:Array Value) (c,j)=>cs.setIfInBounds (off+j) c) cs)[j]?=if off+k≤j∧j<off+k+new.length then new[j - (off+k)]? else cs[j]?:=by
 induction new with
 | nil=>intro k off cs h; refine⟨rfl,fun j=>?_⟩; simp; omega
 | cons v r ih=>
   intro k off cs h;simp only[zce]at h;simp only[List.zipIdx_cons,List.foldl_cons];obtain⟨h1,h2⟩:=ih (k+1) off (cs.setIfInBounds (off+k) v) (by simp; omega)
   refine⟨h1.trans (by simp),fun j=>?_⟩
   rw[h2];simp only[zce]
   by_cases c1:off+(k+1)≤j∧j<off+(k+1)+r.length
   · rw[if_pos c1,if_pos (by omega)]
     have e:j - (off+k)=(j - (off+(k+1)))+1:=by omega
     rw[e,List.getElem?_cons_succ]
   · rw[if_neg c1]
     by_cases c2:j=off+k
     · subst c2
       rw[if_pos (by omega)]
       have:off+k<cs.size:=by omega
       simp[this]
     · rw[if_neg (by omega),Array.getElem?_setIfInBounds_ne (by omega)]
theorem qw2(new:List Value)(off:Nat)(cs:Array Value)(h:off+new.length≤cs.size):
 ((new.zipIdx 0).foldl (fun(cs:Array Value) (c,j)=>cs.setIfInBounds (off+j) c) cs).toList=cs.toList.take off++new++cs.toList.drop (off+new.length):=by
 obtain⟨h1,h2⟩:=qw1 new 0 off cs (by omega)
 apply List.ext_getElem?;intro j;rw[Array.getElem?_toList,h2];simp only[Nat.add_zero,List.append_assoc];have m1:min off cs.size=off:=by omega
 by_cases c1:j<off
 · rw[if_neg (by omega),zck (by simp; omega),zcp,if_pos c1,Array.getElem?_toList]
 · rw[zcl (by simp; omega)]
   simp only[zcc,Array.length_toList,m1]
   by_cases c2:j<off+new.length
   · rw[if_pos (by omega),zck (by omega)]
   · rw[if_neg (by omega),zcl (by omega),zcq,Array.getElem?_toList]
     congr 1; omega
theorem q66(ρ:Ren)(l:List AV)(off:Nat)(new:List AV):
 q04 ρ (splice l off new)=(q04 ρ l).take off++q04 ρ new++(q04 ρ l).drop (off+new.length):=by
 simp[splice,q52,List.map_take,List.map_drop]
theorem q7u{ρ:Ren}{place:Nat→Option (Nat×Nat)}:∀ {parts:List (Nat×AV)} {cells out:List AV},q5l place cells parts=some out→
 Instr.fill place (q04 ρ cells).toArray (parts.map fun p=>(p.1,conc ρ p.2))=some (q04 ρ out).toArray
 | [],cells,out,h=>by simp only[q5l,zbe]at h; subst h; rfl
 | (i,v) :: rest,cells,out,h=>by
   simp only[q5l]at h;simp only[zc3,Instr.fill];cases hp:place i with
   | none=>simp[hp]at h
   | some p=>
     obtain⟨off,size⟩:=p;simp only[hp]at h ⊢;split at h
     · rename_i hc
       obtain⟨h1,h2⟩:=hc;have e1:(conc ρ v).cells.size=v.cells.length:=by rw[q27]; simp
       have e2:((conc ρ v).cells.size≠size||decide (off+(conc ρ v).cells.size > (q04 ρ cells).toArray.size))=false:=by
        rw[e1]; simp[h1]; omega
       simp only[e2,zbn,if_false];have h3:=q7u (ρ:=ρ) h;rw[←h3]
       have e5:((conc ρ v).cells.zipIdx.foldl (fun(cs:Array Value) (c,j)=>cs.setIfInBounds (off+j) c) (q04 ρ cells).toArray)=(q04 ρ (splice cells off v.cells)).toArray:=by
        apply Array.toList_inj.1;have:=qw2 (q04 ρ v.cells) off (q04 ρ cells).toArray (by simp; omega)
        rw[q27,q66];have e4:(q04 ρ v.cells).toArray.zipIdx=((q04 ρ v.cells).zipIdx 0).toArray:=by simp
        rw[e4,List.foldl_toArray,this];simp
       rw[e5]
     · simp at h
theorem q5y{l new:List AV}{off n:Nat}(h1:supL l≤n)(h2:supL new≤n):supL (splice l off new)≤n:=by
 refine q3s.2 fun v hv=>?_
 simp only[splice,zbr]at hv;rcases hv with(hv | hv) | hv
 · exact q3s.1 h1 v (List.mem_of_mem_take hv)
 · exact q3s.1 h2 v hv
 · exact q3s.1 h1 v (List.mem_of_mem_drop hv)
theorem q6v{place:Nat→Option (Nat×Nat)}{n:Nat}:∀ {parts:List (Nat×AV)} {cells out:List AV},q5l place cells parts=some out→supL cells≤n→(∀ p∈parts,p.2.sup≤n)→supL out≤n
 | [],cells,out,h,hc,_=>by simp only[q5l,zbe]at h; subst h; exact hc
 | (i,v) :: rest,cells,out,h,hc,hp=>by
   simp only[q5l]at h;cases hpl:place i with
   | none=>simp[hpl]at h
   | some p=>
     obtain⟨off,size⟩:=p;simp only[hpl]at h;split at h
     · exact q6v h (q5y hc (by rw[q19]; exact hp (i,v) (by simp))) fun q hq=>hp q (by simp[hq])
     · simp at h
def evP(sl:List (Nat×AV)):List (Nat×Operand)→Option (List (Nat×AV))
 | []=>some []
 | (i,x) :: r=>match ev sl x,evP sl r with
   | some v,some l=>some ((i,v) :: l)
   | _,_=>none
theorem qda{s:St}{ρ:Ren}{a:Act}{w:World}(hr:Rel ρ s a w):∀ {l:List (Nat×Operand)} {vs:List (Nat×AV)},evP s.slots l=some vs→l.map (fun p=>(p.1,a.eval p.2))=vs.map (fun p=>(p.1,conc ρ p.2))
 | [],vs,h=>by simp only[evP,zbe]at h; subst h; rfl
 | (i,x) :: r,vs,h=>by
   simp only[evP]at h;cases h1:ev s.slots x with
   | none=>simp[h1]at h
   | some v=>
     cases h2:evP s.slots r with
     | none=>simp[h1,h2]at h
     | some l=>simp only[h1,h2,zbe]at h; subst h; simp[q03 hr h1,qda hr h2]
theorem qej{s:St}(hw:s.wf):∀ {l:List (Nat×Operand)} {vs:List (Nat×AV)},evP s.slots l=some vs→ ∀ p∈vs,p.2.sup≤s.h.next
 | [],vs,h=>by simp only[evP,zbe]at h; subst h; simp
 | (i,x) :: r,vs,h=>by
   simp only[evP]at h;cases h1:ev s.slots x with
   | none=>simp[h1]at h
   | some v=>
     cases h2:evP s.slots r with
     | none=>simp[h1,h2]at h
     | some l=>
       simp only[h1,h2,zbe]at h; subst h;intro p hp;rcases zbm.1 hp with rfl | hp
       · exact q1i hw h1
       · exact qej hw h2 p hp
def qdr(P:Program)(T:TypeId)(pl:List (Nat×Nat)):Prop:=
 ∃ fs,P.underlying T=some (.struct fs)∧fs.toList.map (fun f=>(f.offset,(P.info? f.type).map (·.size)))=pl.map (fun p=>(p.1,some p.2))
theorem run_places{P:Program}:∀ (fs:List Field) (pl:List (Nat×Nat)) (w:World),fs.map (fun f=>(f.offset,(P.info? f.type).map (·.size)))=pl.map (fun p=>(p.1,some p.2))→
 (fs.mapM fun f=>do pure (f.offset,←sizeOf f.type):Sem (List (Nat×Nat))).run P w= .ok pl w
 | [],pl,w,h=>by cases pl<;>simp at h ⊢
 | f :: r,pl,w,h=>by
   cases pl with
   | nil=>simp at h
   | cons p q=>
     simp only[zc3,List.cons.injEq,zbt]at h;obtain⟨⟨h1,h2⟩,h3⟩:=h;have ih:=run_places r q w h3;simp only[List.mapM_cons,zbx,q0i h2,zbk,zby,ih,h1]
section rules
variable{P:Program}{r:Option Nat}{s:St}{Q:AExit→St→Prop}{o:Oper}{d:Nat}{x y:Operand}{v u:AV}{T U:TypeId}{k:IntKind}{a b:Int}
theorem qxd{parts:Array (Nat×Operand)}{vs:List (Nat×AV)}{pl:List (Nat×Nat)}{z:AV}{out:List AV}(hs:qdr P T pl)(hz:q26 P T z)
 (ho:o.op= .build T parts)(hd:o.dst=some d)(hdn:d<s.n)(hx:evP s.slots parts.toList=some vs)(hf:q5l (pl[·]?) z.cells vs=some out)
 (h:Q .normal ⟨(d,.agg out) :: s.slots,s.h,s.n,s.defs⟩):JO P r o s Q:=
 q0t hd hdn (by simp[Oper.noDefer,ho]) (fun hw=>by
  simp only[AV.sup]; exact q6v hf (by rw[q19,q3h hz]; exact zbl _) (qej hw hx)) (fun ρ a w hrel=>by
  obtain⟨fs,h1,h2⟩:=hs;have h3:=run_places fs.toList pl w h2
  have h4:(parts.map fun(i,x)=>(i,a.eval x)).toList=vs.map fun p=>(p.1,conc ρ p.2):=by
   rw[←qda hrel hx,Array.toList_map]
  have h5:(fs.mapM fun f=>do pure (f.offset,←sizeOf f.type):Sem (Array (Nat×Nat))).run P w= .ok pl.toArray w:=by
   rw[←Array.toArray_toList (xs:=fs),List.mapM_toArray,Sem.run_map,h3]; rfl
  simp only[execOp,ho,Instr.build,zbx,q4d hz ρ,zbk,Go.run_underlying h1,h5,h4,q27];have h6:=q7u (ρ:=ρ) hf;have h7:(fun x:Nat=>pl.toArray[x]?)=(fun x=>pl[x]?):=by funext i; simp
  simp only[h7,h6,zby,zbk,conc]) h
theorem qhn{parts:Array (Nat×Operand)}{vs:List (Nat×AV)}{len n:Nat}{z:AV}{out:List AV}(hs:P.underlying T=some (.array len U))(hn:(P.info? U).map (·.size)=some n)(hz:q26 P T z)
 (ho:o.op= .build T parts)(hd:o.dst=some d)(hdn:d<s.n)(hx:evP s.slots parts.toList=some vs)(hf:q5l (fun i=>some (i * n,n)) z.cells vs=some out)
 (h:Q .normal ⟨(d,.agg out) :: s.slots,s.h,s.n,s.defs⟩):JO P r o s Q:=
 q0t hd hdn (by simp[Oper.noDefer,ho]) (fun hw=>by
  simp only[AV.sup]; exact q6v hf (by rw[q19,q3h hz]; exact zbl _) (qej hw hx)) (fun ρ a w hrel=>by
  have h4:(parts.map fun(i,x)=>(i,a.eval x)).toList=vs.map fun p=>(p.1,conc ρ p.2):=by
   rw[←qda hrel hx,Array.toList_map]
  have h6:=q7u (ρ:=ρ) hf;simp only[execOp,ho,Instr.build,zbx,q4d hz ρ,zbk,Go.run_underlying hs,q0i hn,h4,q27,h6,zby,conc]) h
theorem qdv{c:Chunk}{cap:Nat}(hd:o.dst=some d)(hdn:d<s.n)(hdef:Oper.noDefer o=true)(hwf:s.wf→c.sup≤s.h.next+1∧v.sup≤s.h.next+1)
 (hrun:s.wf→ ∀ ρ a w,Rel ρ s a w→ ∃ ob dr,(execOp a.eval o).run P w= .ok (.value (conc (ρ.plus s.h.next w.heap.size cap) v)) {w with heap:=w.heap.push ob,drawn:=dr}∧
   Real (ρ.plus s.h.next w.heap.size cap) s.h.next {w with heap:=w.heap.push ob,drawn:=dr} c)
 (h:Q .normal ⟨(d,v) :: s.slots,s.h.add c,s.n,s.defs⟩):JO P r o s Q:=by
 refine qc8 hd hdn hdef (fun hw=>⟨AH.z9x hw.2.1 (hwf hw).1,by simp[AH.add],by simpa [AH.add]using (hwf hw).2⟩) (fun hw ρ a w hrel=>?_) h
 obtain⟨ob,dr,h1,h2⟩:=hrun hw ρ a w hrel;exact⟨_,_,h1,HRel.addBlk hrel.2.2 hw.2.1 h2,Fr.addBlk hw.2.1⟩
theorem qxb{z:AV}{zc:List AV}(hz:q26 P T z)(hzc:z.cells=zc)(ho:o.op= .alloc T)(hd:o.dst=some d)(hdn:d<s.n)
 (h:∀ i h',s.h.AddTo i (.own zc) h'→Q .normal ⟨(d,.ptr (some (i,0))) :: s.slots,h',s.n,s.defs⟩):JO P r o s Q:=by
 subst hzc;refine qdv (cap:=0) hd hdn (by simp[Oper.noDefer,ho]) (fun hw=>⟨?_,by simp[AV.sup,supA]⟩) (fun hw ρ a w hrel=>?_) (h _ _ (AH.z9w _ _))
 · simp only[Chunk.sup,q19,q3h hz]; exact zbl _
 · refine⟨.cells (q04 ρ z.cells).toArray T,w.drawn,?_,by simp[Ren.plus],T,?_⟩
   · simp[execOp,ho,Instr.alloc,q4d hz ρ,newVar,newRow,q27,conc,Ren.addr,Ren.plus]
   · rw[q0u (ρ.plus_ext _ _ _) _ (by rw[q19,q3h hz]; exact zbl _)]
     simp[Ren.plus]
theorem q9w{ρ:Ren}{l:List AV}(h:l.all AV.one=true):∀ x∈q04 ρ l,x.oneCell'=true:=by
 intro x hx;rw[q52]at hx;obtain⟨v,hv,rfl⟩:=zcd.1 hx;exact z01 (zc1.1 h v hv)
theorem qcr{ρ:Ren}{w:World}{id off n:Nat}{cur:Array Value}{e:TypeId}(hb:w.heap[ρ.blk id]?=some (.cells cur e (0,0)))(h0:ρ.off id=0)(hn:(P.info? T).map (·.size)=some n)
 (hvn:v.cells.length=n)(hle:off+n≤cur.size)(h1:v.cells.all AV.one=true):
 (storeVar T (ρ.addr (id,off)) (conc ρ v)).run P w= .ok () (w.setRow (ρ.blk id) (cur.toList.take off++q04 ρ v.cells++cur.toList.drop (off+n)).toArray):=by
 unfold storeVar;rw[zbx,q0i hn,zbk,q27];have e1:¬ (q04 ρ v.cells).toArray.size≠n:=by simp[hvn]
 rw[if_neg e1];have:=run_storeCells_at (P:=P) (ρ.blk id) off e (q04 ρ v.cells) 0 cur w hb (by simp[hvn]; omega) (q9w h1)
 simpa [Ren.addr,h0,hvn]using this
theorem qxg{n id off:Nat}{cs vc cs':List AV}(hn:(P.info? T).map (·.size)=some n)
 (ho:o.op= .store T x y)(hd:o.dst=none)(hx:ev s.slots x=some (.ptr (some (id,off))))(hy:ev s.slots y=some v)(hvc:v.cells=vc)(hg:s.h.get id=some (.own cs))
 (hvn:vc.length=n)(hle:off+n≤cs.length)(h1:vc.all AV.one=true)(hcs:splice cs off vc=cs')
 (h:∀ h',s.h.SetTo id (.own cs') h'→Q .normal ⟨s.slots,h',s.n,s.defs⟩):JO P r o s Q:=by
 subst hvc; subst hcs;refine qu7 (h':=s.h.set id (.own (splice cs off v.cells))) hd (by simp[Oper.noDefer,ho]) (fun hw=>⟨AH.za5 hw.2.1 (hw.2.1 id _ hg).1 ?_,zbi _⟩) (fun hw ρ a w hrel=>?_) (h _ (AH.za4 _ _ _))
 · exact q5y (hw.2.1 id _ hg).2 (by rw[q19]; exact q1i hw hy)
 · obtain⟨h0,e,hb⟩:=hrel.2.2.1 id _ hg
   have hrun:=qcr (P:=P) (T:=T) (v:=v) (off:=off) hb h0 hn hvn (by simp; omega) h1
   generalize hnew:(List.take off (q04 ρ cs).toArray.toList++q04 ρ v.cells++List.drop (off+n) (q04 ρ cs).toArray.toList).toArray=new at hrun;refine⟨ρ,w.setRow (ρ.blk id) new,?_,HRel.setBlk hrel.2.2 hg rfl (fun B hB=>setRow_other w _ B _ hB) ⟨h0,e,?_⟩,Fr.setBlk hg rfl ⟨rfl,rfl,rfl⟩ (by simp) (fun B hB=>setRow_other w _ B _ hB)⟩
   · simp only[execOp,ho,q03 hrel hx,q03 hrel hy,Instr.storeAt,conc,zbp,Instr.sureAddr,zbx,zby,zbk,hrun]
   · rw[setRow_heap w _ _ _ _ _ hb,←hnew,q66,hvn]
theorem qrj{n id off esz:Nat}{cs vc cs':List AV}(hn:(P.info? T).map (·.size)=some n)
 (ho:o.op= .store T x y)(hd:o.dst=none)(hx:ev s.slots x=some (.ptr (some (id,off))))(hy:ev s.slots y=some v)(hvc:v.cells=vc)(hg:s.h.get id=some (.grow esz cs))
 (hvn:vc.length=n)(hle:off+n≤cs.length)(h1:vc.all AV.one=true)(hcs:splice cs off vc=cs')
 (h:∀ h',s.h.SetTo id (.grow esz cs') h'→Q .normal ⟨s.slots,h',s.n,s.defs⟩):JO P r o s Q:=by
 subst hvc; subst hcs;refine qu7 (h':=s.h.set id (.grow esz (splice cs off v.cells))) hd (by simp[Oper.noDefer,ho]) (fun hw=>⟨AH.za5 hw.2.1 (hw.2.1 id _ hg).1 ?_,zbi _⟩) (fun hw ρ a w hrel=>?_) (h _ (AH.za4 _ _ _))
 · exact q5y (hw.2.1 id _ hg).2 (by rw[q19]; exact q1i hw hy)
 · obtain⟨h0,e,arr,hb,hsz,hlen,hval⟩:=hrel.2.2.1 id _ hg
   have hrun:=qcr (P:=P) (T:=T) (v:=v) (off:=off) hb h0 hn hvn (by omega) h1
   have hspl:(splice cs off v.cells).length=cs.length:=q2p (by omega)
   have hsz':(arr.toList.take off++q04 ρ v.cells++arr.toList.drop (off+n)).length=arr.size:=by simp; omega
   refine⟨ρ,w.setRow (ρ.blk id) (arr.toList.take off++q04 ρ v.cells++arr.toList.drop (off+n)).toArray,?_,HRel.setBlk hrel.2.2 hg rfl (fun B hB=>setRow_other w _ B _ hB) ⟨h0,e,_,setRow_heap w _ _ _ _ _ hb,by rw[List.size_toArray,hsz',hsz],by rw[List.size_toArray,hsz',hspl]; exact hlen,fun i u hu=>?_⟩,
    Fr.setBlk hg rfl ⟨rfl,rfl,rfl⟩ (by simp) (fun B hB=>setRow_other w _ B _ hB)⟩
   · simp only[execOp,ho,q03 hrel hx,q03 hrel hy,Instr.storeAt,conc,zbp,Instr.sureAddr,zbx,zby,zbk,hrun]
   · rw[List.getElem?_toArray]
     simp only[splice,List.append_assoc]at hu ⊢
     by_cases c1:i<off
     · rw[zck (by simp; omega)]at hu ⊢
       simp only[zcp,c1,if_true]at hu ⊢;simpa using hval i u hu
     · rw[zcl (by simp; omega)]at hu
       rw[zcl (by simp; omega)]
       have m1:min off cs.length=off:=by omega
       have m2:min off arr.size=off:=by omega
       simp only[zcc,Array.length_toList,m1,m2]at hu ⊢
       by_cases c2:i - off<v.cells.length
       · rw[zck (by simpa using c2)]at hu ⊢
         rw[q2f,hu]; rfl
       · rw[zcl (by omega)]at hu
         rw[zcl (by simp; omega)]
         simp only[zcq,q53]at hu ⊢;rw[hvn]at hu ⊢;simpa using hval _ u hu
theorem q10{b:Builtin}{args:Array Operand}{ats:Array TypeId}(ho:o.op= .call {callee:= .builtin b,args,argTypes:=ats})(ev:Operand→Value)(w:World):
 ∃ cs,(execOp ev o).run P w=(builtin b ats o.type cs (args.map ev)).run P w:=by
 simp only[execOp,ho,resolve,zbx,zby,zbk,invoke];exact⟨_,rfl⟩
theorem z5k{t:TypeId}{p:Option (Nat×Nat)}{len:Nat}{c:Cap}(hT:P.underlying t=some (.slice T))(ho:o.op= .call {callee:= .builtin .len,args:= #[x],argTypes:= #[t]})(hd:o.dst=some d)(hdn:d<s.n)
 (hx:ev s.slots x=some (.slice p len c))(h:Q .normal ⟨(d,.int .i64 len) :: s.slots,s.h,s.n,s.defs⟩):JO P r o s Q:=
 q0t hd hdn (by simp[Oper.noDefer,ho]) (fun _=>zbl _) (fun ρ a w hrel=>by
  obtain⟨cst,hcst⟩:=q10 (P:=P) ho a.eval w;simp[hcst,builtin,Builtin.len_,q03 hrel hx,underlying,hT,conc,goInt]) h
theorem qri{t:TypeId}{p:ByteArray}(hT:P.underlying t=some .string)(ho:o.op= .call {callee:= .builtin .len,args:= #[x],argTypes:= #[t]})(hd:o.dst=some d)(hdn:d<s.n)
 (hx:ev s.slots x=some (.str p))(h:Q .normal ⟨(d,.int .i64 p.size) :: s.slots,s.h,s.n,s.defs⟩):JO P r o s Q:=
 q0t hd hdn (by simp[Oper.noDefer,ho]) (fun _=>zbl _) (fun ρ a w hrel=>by
  obtain⟨cst,hcst⟩:=q10 (P:=P) ho a.eval w;simp[hcst,builtin,Builtin.len_,q03 hrel hx,underlying,hT,conc,goInt]) h
theorem z0z{t:TypeId}{n:Nat}(hT:P.underlying t=some (.array n T))(ho:o.op= .call {callee:= .builtin .len,args:= #[x],argTypes:= #[t]})(hd:o.dst=some d)(hdn:d<s.n)
 (hx:ev s.slots x=some v)(h:Q .normal ⟨(d,.int .i64 n) :: s.slots,s.h,s.n,s.defs⟩):JO P r o s Q:=
 q0t hd hdn (by simp[Oper.noDefer,ho]) (fun _=>zbl _) (fun ρ a w hrel=>by
  obtain⟨cst,hcst⟩:=q10 (P:=P) ho a.eval w;simp[hcst,builtin,Builtin.len_,q03 hrel hx,underlying,hT,conc,goInt]) h
theorem z10{t K E:TypeId}{id:Nat}{es:List (AV×AV×Nat)}{cl:Nat}(hT:P.underlying t=some (.map K E))(ho:o.op= .call {callee:= .builtin .len,args:= #[x],argTypes:= #[t]})(hd:o.dst=some d)(hdn:d<s.n)
 (hx:ev s.slots x=some (.map (some id)))(hg:s.h.get id=some (.map es cl))(h:Q .normal ⟨(d,.int .i64 es.length) :: s.slots,s.h,s.n,s.defs⟩):JO P r o s Q:=
 q0t hd hdn (by simp[Oper.noDefer,ho]) (fun _=>zbl _) (fun ρ a w hrel=>by
  obtain⟨_,hb⟩:=hrel.2.2.1 id _ hg;obtain⟨cst,hcst⟩:=q10 (P:=P) ho a.eval w;simp[hcst,builtin,Builtin.len_,q03 hrel hx,underlying,hT,conc,goInt,getObj,Sem.run,hb]) h
theorem z7x{p q:Operand}{t1 t2:TypeId}(ho:o.op= .call {callee:= .builtin .min,args:= #[p,q],argTypes:= #[t1,t2]})(hd:o.dst=some d)(hdn:d<s.n)
 (hp:ev s.slots p=some (.int k a))(hq:ev s.slots q=some (.int k b))(h:Q .normal ⟨(d,.int k (if b<a then b else a)) :: s.slots,s.h,s.n,s.defs⟩):JO P r o s Q:=
 q0t hd hdn (by simp[Oper.noDefer,ho]) (fun _=>zbl _) (fun ρ ac w hrel=>by
  obtain⟨cst,hcst⟩:=q10 (P:=P) ho ac.eval w;simp[hcst,builtin,Builtin.min_,q03 hrel hp,q03 hrel hq,conc,Builtin.min2]) h
theorem z7w{p q:Operand}{t1 t2:TypeId}(ho:o.op= .call {callee:= .builtin .max,args:= #[p,q],argTypes:= #[t1,t2]})(hd:o.dst=some d)(hdn:d<s.n)
 (hp:ev s.slots p=some (.int k a))(hq:ev s.slots q=some (.int k b))(h:Q .normal ⟨(d,.int k (if b > a then b else a)) :: s.slots,s.h,s.n,s.defs⟩):JO P r o s Q:=
 q0t hd hdn (by simp[Oper.noDefer,ho]) (fun _=>zbl _) (fun ρ ac w hrel=>by
  obtain⟨cst,hcst⟩:=q10 (P:=P) ho ac.eval w;simp[hcst,builtin,Builtin.max_,q03 hrel hp,q03 hrel hq,conc,Builtin.max2]) h
end rules
def aRep(z:List AV)(n:Nat):List AV:=(List.replicate n z).flatten
theorem q4j(z:List AV)(n:Nat):(aRep z n).length=n * z.length:=by simp[aRep]
theorem qpy{z:List AV}{n m:Nat}(h:supL z≤m):supL (aRep z n)≤m:=by
 refine q3s.2 fun v hv=>?_
 simp only[aRep,List.mem_flatten,List.mem_replicate]at hv;obtain⟨l,⟨_,rfl⟩,hv⟩:=hv;exact q3s.1 h v hv
theorem q79{α:Type}(z:List α):∀ (n i:Nat),i<n * z.length→((List.replicate n z).flatten)[i]?=z[i % z.length]?
 | 0,i,h=>by simp at h
 | n+1,i,h=>by
   simp only[List.replicate_succ,List.flatten_cons]
   by_cases c:i<z.length
   · rw[zck c,Nat.mod_eq_of_lt c]
   · have hle:z.length≤i:=by omega
     have hz:0<z.length:=by
      rcases zc5 z.length with h0 | h0
      · rw[h0]at h; omega
      · exact h0
     rw[zcl hle,q79 z n (i - z.length) (by rw[zc7]at h; omega)]
     rw[Nat.mod_eq_sub_mod hle]
theorem qru(ρ:Ren)(z:List AV)(n:Nat):(Array.range (n * z.length)).map (fun i=>(q04 ρ z).toArray[i % (q04 ρ z).toArray.size]!)=(q04 ρ (aRep z n)).toArray:=by
 have e:q04 ρ (aRep z n)=(List.replicate n (q04 ρ z)).flatten:=by
  simp[aRep,q52,List.map_flatten]
 rw[e];apply Array.toList_inj.1;apply List.ext_getElem?;intro i;rw[Array.getElem?_toList]
 by_cases h:i<n * z.length
 · rw[q79 _ n i (by simpa using h)]
   have hz:0<z.length:=by
    rcases zc5 z.length with h0 | h0
    · rw[h0]at h; omega
    · exact h0
   have hm:i % z.length<z.length:=Nat.mod_lt _ hz;simp[h,q53,hm]
 · have h1:(Array.map (fun i=>(q04 ρ z).toArray[i % (q04 ρ z).toArray.size]!) (Array.range (n * z.length)))[i]?=none:=by simp; omega
   have h2:((List.replicate n (q04 ρ z)).flatten)[i]?=none:=by simp; omega
   rw[h1,h2]
section rules
variable{P:Program}{r:Option Nat}{s:St}{Q:AExit→St→Prop}{o:Oper}{d:Nat}{x y:Operand}{v u:AV}{T U:TypeId}{k:IntKind}{a b:Int}
theorem qcm{len n:Nat}{parts:Array (Nat×Operand)}{vs:List (Nat×AV)}{z:AV}{out:List AV}(hU:P.underlying U=some (.slice T))(hn:(P.info? T).map (·.size)=some n)(hz:q26 P T z)(hzn:z.cells.length=n)
 (hmax:len * n≤16777216)(ho:o.op= .buildSlice U len parts)(hd:o.dst=some d)(hdn:d<s.n)(hx:evP s.slots parts.toList=some vs)(hf:q5l (fun i=>some (i * n,n)) (aRep z.cells len) vs=some out)
 (h:∀ i h',s.h.AddTo i (.own out) h'→Q .normal ⟨(d,.slice (some (i,0)) len (.exact len)) :: s.slots,h',s.n,s.defs⟩):JO P r o s Q:=by
 have hzs:supL (aRep z.cells len)=0:=Nat.le_zero.1 (qpy (by rw[q19,q3h hz]; exact zbi _))
 refine qdv (cap:=0) hd hdn (by simp[Oper.noDefer,ho]) (fun hw=>⟨?_,by simp[AV.sup,supA]⟩) (fun hw ρ a w hrel=>?_) (h _ _ (AH.z9w _ _))
 · exact Nat.le_succ_of_le (q6v hf (by rw[hzs]; exact zbl _) (qej hw hx))
 · have hs:supL out≤s.h.next:=q6v hf (by rw[hzs]; exact zbl _) (qej hw hx)
   refine⟨.cells (q04 ρ out).toArray T,w.drawn,?_,by simp[Ren.plus],T,?_⟩
   · have h4:(parts.map fun(i,x)=>(i,a.eval x)).toList=vs.map fun p=>(p.1,conc ρ p.2):=by
      rw[←qda hrel hx,Array.toList_map]
     have h6:=q7u (ρ:=ρ) hf;have hgt:¬ (len * n > 2 ^ 24):=by omega
     simp only[execOp,ho,Instr.buildSlice,zbx,Go.run_underlying hU,zbk,q0i hn,if_neg hgt]
     by_cases h0:len * n=0
     · have e1:aRep z.cells len=[]:=List.length_eq_zero_iff.1 (by rw[q4j,hzn,h0])
       rw[e1]at h6;simp only[zby,h0,h4];simp only[Array.range,Array.ofFn_zero,List.map_toArray,q04]at h6 ⊢;simp[h6,newRow,conc,Ren.addr,Ren.plus,Cap.conc]
     · have e2:=qru ρ z.cells len
       rw[hzn]at e2;simp only[if_neg h0,zbx,q4d hz ρ,zbk,zby,q27,e2,h4,h6];simp[newRow,conc,Ren.addr,Ren.plus,Cap.conc]
   · rw[q0u (ρ.plus_ext _ _ _) _ hs]
     simp[Ren.plus]
theorem qfj{n by_:Nat}{z:AV}{l c:Nat}(hU:P.underlying U=some (.slice T))(hi:(P.info? T).map (fun i=>(i.size,i.bytes))=some (n,by_))(hz:q26 P T z)(hzn:z.cells.length=n)
 (ho:o.op= .makeSlice U x y)(hd:o.dst=some d)(hdn:d<s.n)(hx:ev s.slots x=some (.int .i64 l))(hy:ev s.slots y=some (.int .i64 c))(hlc:l≤c)(hb:c * by_≤281474976710656)(hc:c≤281474976710656)
 (h:∀ i h',s.h.AddTo i (.own (aRep z.cells c)) h'→Q .normal ⟨(d,.slice (some (i,0)) l (.exact c)) :: s.slots,h',s.n,s.defs⟩):JO P r o s Q:=by
 have hzs:supL (aRep z.cells c)=0:=Nat.le_zero.1 (qpy (by rw[q19,q3h hz]; exact zbi _))
 have hn:(P.info? T).map (·.size)=some n:=by
  cases hh:P.info? T with
  | none=>simp[hh]at hi
  | some i=>simp[hh]at hi ⊢; exact hi.1
 obtain⟨inf,hinf,hby⟩:∃ i,P.info? T=some i∧i.bytes=by_:=by
  cases hh:P.info? T with
  | none=>simp[hh]at hi
  | some i=>simp[hh]at hi; exact⟨i,rfl,hi.2⟩
 refine qdv (cap:=0) hd hdn (by simp[Oper.noDefer,ho]) (fun hw=>⟨by simp only[Chunk.sup,hzs]; exact zbl _,by simp[AV.sup,supA]⟩) (fun hw ρ a w hrel=>?_) (h _ _ (AH.z9w _ _))
 refine⟨.cells (q04 ρ (aRep z.cells c)).toArray T,w.drawn,?_,by simp[Ren.plus],T,?_⟩
 · have w1:IntKind.i64.wrap (l:Int)=l:=IntWalk.i64_in _ ⟨by omega,by omega⟩
   have w2:IntKind.i64.wrap (c:Int)=c:=IntWalk.i64_in _ ⟨by omega,by omega⟩
   have t0:((c:Int)<0||(inf.bytes:Int) * (c:Int) > 2 ^ 48)=false:=by
    have h2:((c * by_:Nat):Int)≤281474976710656:=Int.ofNat_le.2 hb;rw[Nat.mul_comm,Int.natCast_mul,←hby]at h2;simp only[Bool.or_eq_false_iff,decide_eq_false_iff_not];exact⟨by omega,by omega⟩
   have t3:decide ((l:Int)<0)=false:=by simp only[decide_eq_false_iff_not]; omega
   have t4:decide ((l:Int) > (c:Int))=false:=by simp only[decide_eq_false_iff_not]; omega
   have e2:=qru ρ z.cells c;rw[hzn]at e2
   have fin:∀ arr:Array Value,arr=(q04 ρ (aRep z.cells c)).toArray→(newRow T arr).run P w= .ok ⟨w.heap.size,0,none⟩ {w with heap:=w.heap.push (.cells (q04 ρ (aRep z.cells c)).toArray T)}:=by
    intro arr ha; subst ha; simp[newRow]
   simp only[execOp,ho,Instr.makeSlice,zbx,Go.run_underlying hU,zbk,q03 hrel hx,q03 hrel hy,conc,asInt,asIntOf,zby,typeInfo,run_program,hinf,w1,w2,t0,t3,t4,Bool.or_false,zbn,if_false,
    run_askRoom,q0i hn,zcf]
   by_cases h0:c * n=0
   · have e1:aRep z.cells c=[]:=List.length_eq_zero_iff.1 (by rw[q4j,hzn,h0])
     rw[if_pos h0,zbx,zby,zbk,zbx,fin _ (by rw[h0,e1]; simp[q04]),zbk,zby,zbk]
     simp[Ren.addr,Ren.plus,Cap.conc]
   · rw[if_neg h0,zbx,q4d hz ρ,zbk,zbx,zby,zbk,zbx,fin _ (by rw[q27]; exact e2),zbk,zby,zbk]
     simp[Ren.addr,Ren.plus,Cap.conc]
 · rw[q0u (ρ.plus_ext _ _ _) _ (by rw[hzs]; exact zbl _)]
   simp[Ren.plus]
def evO(sl:List (Nat×AV)):Option Operand→Option (Option Int)
 | none=>some none
 | some x=>match ev sl x with
   | some (.int _ n)=>some (some n)
   | _=>none
theorem q45{ρ:Ren}{a:Act}{w:World}(hr:Rel ρ s a w){x:Option Operand}{n:Option Int}(h:evO s.slots x=some n):
 (n=none∧x.map a.eval=none)∨ ∃ i k,n=some i∧x.map a.eval=some (.int k i):=by
 cases x with
 | none=>simp only[evO,zbe]at h; exact .inl ⟨h.symm,rfl⟩
 | some x=>
   simp only[evO]at h;cases h1:ev s.slots x with
   | none=>simp[h1]at h
   | some v=>
     cases v<;>simp[h1]at h
     rename_i k n;exact .inr ⟨n,k,h.symm,by simp[q03 hr h1,conc]⟩
theorem q5w{isS:Bool}{len cap l hi m:Nat}{lo hi' mx:Option Int}{vlo vhi vmx:Option Value}(w:World)
 (h1:(lo=none∧vlo=none)∨ ∃ i k,lo=some i∧vlo=some (.int k i))(h2:(hi'=none∧vhi=none)∨ ∃ i k,hi'=some i∧vhi=some (.int k i))(h3:(mx=none∧vmx=none)∨ ∃ i k,mx=some i∧vmx=some (.int k i))
 (hm:m=(mx.map Int.toNat).getD cap)(hh:hi=(hi'.map Int.toNat).getD len)(hl:l=(lo.map Int.toNat).getD 0)(p1:∀ i∈lo,0≤i)(p2:∀ i∈hi',0≤i)(p3:∀ i∈mx,0≤i)(hnm:mx.isSome=true→hi'.isSome=true)
 (c1:l≤hi)(c2:hi≤m)(c3:m≤cap):(Instr.sliceBounds isS len cap vlo vhi vmx).run P w= .ok (l,hi,m) w:=by
 have sb:∀ (k:IntKind) (i:Int) (y:Nat) (code:BoundsCode),0≤i→i≤y→(Instr.sliceBound (.int k i) y code).run P w= .ok i.toNat w:=by
  intro k i y code h0 hy;simp[Instr.sliceBound,asIntOf,h0,hy]
 unfold Instr.sliceBounds;rcases h3 with⟨rfl,rfl⟩ | ⟨im,km,rfl,rfl⟩
 · simp at hm; subst hm
   rcases h2 with⟨rfl,rfl⟩ | ⟨ih,kh,rfl,rfl⟩
   · simp at hh; subst hh
     rcases h1 with⟨rfl,rfl⟩ | ⟨il,kl,rfl,rfl⟩
     · simp at hl; subst hl; simp
     · simp at hl p1; subst hl; simp[sb _ il hi _ p1 (by omega)]
   · simp at hh p2; subst hh
     rcases h1 with⟨rfl,rfl⟩ | ⟨il,kl,rfl,rfl⟩
     · simp at hl; subst hl; simp[sb _ ih m _ p2 (by omega)]
     · simp at hl p1; subst hl; simp[sb _ ih m _ p2 (by omega),sb _ il ih.toNat _ p1 (by omega)]
 · simp at hm p3; subst hm
   rcases h2 with⟨rfl,rfl⟩ | ⟨ih,kh,rfl,rfl⟩
   · simp at hnm
   · simp at hh p2; subst hh
     rcases h1 with⟨rfl,rfl⟩ | ⟨il,kl,rfl,rfl⟩
     · simp at hl; subst hl; simp[sb _ im cap _ p3 (by omega),sb _ ih im.toNat _ p2 (by omega)]
     · simp at hl p1; subst hl; simp[sb _ im cap _ p3 (by omega),sb _ ih im.toNat _ p2 (by omega),sb _ il ih.toNat _ p1 (by omega)]
theorem qjx{n len cap l hi m:Nat}{p:Option (Nat×Nat)}{lo hi' mx:Option Operand}{nl nh nm:Option Int}(hU:P.underlying U=some (.slice T))(hn:(P.info? T).map (·.size)=some n)
 (ho:o.op= .slice U x lo hi' mx)(hd:o.dst=some d)(hdn:d<s.n)(hx:ev s.slots x=some (.slice p len (.exact cap)))(e1:evO s.slots lo=some nl)(e2:evO s.slots hi'=some nh)(e3:evO s.slots mx=some nm)
 (hm:m=(nm.map Int.toNat).getD cap)(hh:hi=(nh.map Int.toNat).getD len)(hl:l=(nl.map Int.toNat).getD 0)(p1:∀ i∈nl,0≤i)(p2:∀ i∈nh,0≤i)(p3:∀ i∈nm,0≤i)(hnm:nm.isSome=true→nh.isSome=true)
 (c1:l≤hi)(c2:hi≤m)(c3:m≤cap)
 (h:Q .normal ⟨(d,.slice (if m=l then p else p.map fun q=>(q.1,q.2+l * n)) (hi - l) (.exact (m - l))) :: s.slots,s.h,s.n,s.defs⟩):JO P r o s Q:=
 q0t hd hdn (by simp[Oper.noDefer,ho]) (fun hw=>by
  have:=q1i hw hx;simp only[AV.sup]at this ⊢;split
  · exact this
  · cases p with
    | none=>exact zbl _
    | some q=>exact this) (fun ρ a w hrel=>by
  have hb:=q5w (P:=P) (isS:=true) w (q45 hrel e1) (q45 hrel e2) (q45 hrel e3) hm hh hl p1 p2 p3 hnm c1 c2 c3;simp only[execOp,ho,Instr.sliceAt,Instr.slice,zbx,Go.run_underlying hU,zbk,q03 hrel hx,conc,Cap.conc,hb,q0i hn,zby];congr 3;split
  · rfl
  · cases p with
    | none=>rfl
    | some q=>exact congrArg some (q38 ρ q.1 q.2 _)) h
theorem z11{n len l hi esz id off dd:Nat}{cs:List AV}{lo hi':Option Operand}{nl nh:Option Int}(hU:P.underlying U=some (.slice T))(hn:(P.info? T).map (·.size)=some n)
 (ho:o.op= .slice U x lo hi' none)(hd:o.dst=some d)(hdn:d<s.n)(hx:ev s.slots x=some (.slice (some (id,off)) len (.grow dd)))(hg:s.h.get id=some (.grow esz cs))(hes:0<esz)(hroom:(dd+len) * esz≤cs.length)
 (e1:evO s.slots lo=some nl)(e2:evO s.slots hi'=some nh)
 (hh:hi=(nh.map Int.toNat).getD len)(hl:l=(nl.map Int.toNat).getD 0)(p1:∀ i∈nl,0≤i)(p2:∀ i∈nh,0≤i)
 (c1:l<hi∨l=0)(c2:hi≤len)(c3:l=0→hi=0→0<len)
 (h:Q .normal ⟨(d,.slice (some (id,off+l * n)) (hi - l) (.grow (dd+l))) :: s.slots,s.h,s.n,s.defs⟩):JO P r o s Q:=
 q0t hd hdn (by simp[Oper.noDefer,ho]) (fun hw=>by have:=q1i hw hx; exact this) (fun ρ a w hrel=>by
  obtain⟨_,e,arr,_,hsz,hlen,_⟩:=hrel.2.2.1 id _ hg
  have hcap:dd+len≤ρ.cap id:=by
   have:(dd+len) * esz≤ρ.cap id * esz:=by omega
   exact Nat.le_of_mul_le_mul_right this hes
  have hb:=q5w (P:=P) (isS:=true) (len:=len) (cap:=ρ.cap id - dd) (mx:=none) (vmx:=none) (m:=ρ.cap id - dd) w (q45 hrel e1) (q45 hrel e2) (.inl ⟨rfl,rfl⟩) rfl hh hl p1 p2 (by simp) (by simp) (by omega) (by omega) (by omega)
  have hne:¬ (ρ.cap id - dd=l):=by omega
  simp only[execOp,ho,Instr.sliceAt,Instr.slice,zbx,Go.run_underlying hU,zbk,q03 hrel hx,conc,Cap.conc,zbp,Option.map_none,hb,q0i hn,zby,if_neg hne,q38];congr 3;omega) h
theorem qhq{l hi:Nat}{p:ByteArray}{lo hi':Option Operand}{nl nh:Option Int}(hU:P.underlying U=some .string)
 (ho:o.op= .slice U x lo hi' none)(hd:o.dst=some d)(hdn:d<s.n)(hx:ev s.slots x=some (.str p))(e1:evO s.slots lo=some nl)(e2:evO s.slots hi'=some nh)
 (hh:hi=(nh.map Int.toNat).getD p.size)(hl:l=(nl.map Int.toNat).getD 0)(p1:∀ i∈nl,0≤i)(p2:∀ i∈nh,0≤i)(c1:l≤hi)(c2:hi≤p.size)
 (h:Q .normal ⟨(d,.str (p.extract l hi)) :: s.slots,s.h,s.n,s.defs⟩):JO P r o s Q:=
 q0t hd hdn (by simp[Oper.noDefer,ho]) (fun _=>zbl _) (fun ρ a w hrel=>by
  have hb:=q5w (P:=P) (isS:=false) (len:=p.size) (cap:=p.size) (mx:=none) (vmx:=none) (m:=p.size) w (q45 hrel e1) (q45 hrel e2) (.inl ⟨rfl,rfl⟩) rfl hh hl p1 p2 (by simp) (by simp) c1 c2 (by omega)
  simp[execOp,ho,Instr.sliceAt,Instr.slice,Go.run_underlying hU,q03 hrel hx,conc,hb]) h
theorem qhp{n len l hi id off:Nat}{lo hi':Option Operand}{nl nh:Option Int}(hU:P.underlying U=some (.array len T))(hn:(P.info? T).map (·.size)=some n)
 (ho:o.op= .slice U x lo hi' none)(hd:o.dst=some d)(hdn:d<s.n)(hx:ev s.slots x=some (.ptr (some (id,off))))(e1:evO s.slots lo=some nl)(e2:evO s.slots hi'=some nh)
 (hh:hi=(nh.map Int.toNat).getD len)(hl:l=(nl.map Int.toNat).getD 0)(p1:∀ i∈nl,0≤i)(p2:∀ i∈nh,0≤i)(c1:l≤hi)(c2:hi≤len)
 (h:Q .normal ⟨(d,.slice (some (if len=l then(id,off) else(id,off+l * n))) (hi - l) (.exact (len - l))) :: s.slots,s.h,s.n,s.defs⟩):JO P r o s Q:=
 q0t hd hdn (by simp[Oper.noDefer,ho]) (fun hw=>by
  have:=q1i hw hx;simp only[AV.sup,supA]at this ⊢;split<;>exact this) (fun ρ a w hrel=>by
  have hb:=q5w (P:=P) (isS:=false) (len:=len) (cap:=len) (mx:=none) (vmx:=none) (m:=len) w (q45 hrel e1) (q45 hrel e2) (.inl ⟨rfl,rfl⟩) rfl hh hl p1 p2 (by simp) (by simp) c1 c2 (by omega)
  simp only[execOp,ho,Instr.sliceAt,zbx,Go.run_underlying hU,zbk,q03 hrel hx,conc,Cap.conc,zbp,Option.map_none,Instr.sureAddr,hb,q0i hn,zby];congr 4;split
  · rfl
  · simp[q38]) h
end rules
def q0g(h:AH)(n esz:Nat):AV→Option (List AV)
 | .slice (some (id,off)) _ _=>match h.cells id with
   | some cs=>if off+n * esz≤cs.length then some ((cs.drop off).take (n * esz)) else none
   | none=>none
 | .slice none _ _=>if n=0 then some [] else none
 | _=>none
theorem q1j{P:Program}{ρ:Ren}{h:AH}{w:World}{n esz:Nat}{v:AV}{cs:List AV}(hr:HRel ρ h w)(hc:q0g h n esz v=some cs):
 (Builtin.firstCells esz n (conc ρ v)).run P w= .ok (q04 ρ cs).toArray w:=by
 cases v<;>simp only[q0g]at hc<;>try (simp at hc; done)
 rename_i p len c;cases p with
 | none=>
   simp only at hc;split at hc
   · simp only[zbe]at hc; subst hc; rfl
   · simp at hc
 | some q=>
   obtain⟨id,off⟩:=q;simp only at hc;cases hid:h.cells id with
   | none=>simp[hid]at hc
   | some l=>
     simp only[hid]at hc;split at hc
     · rename_i hle
       simp only[zbe]at hc;subst hc;have hl:((l.drop off).take (n * esz)).length=n * esz:=by simp; omega
       have:=run_loadCells_list (P:=P) w (ρ.addr (id,off)) (q04 ρ ((l.drop off).take (n * esz))) (fun j u hu=>by
        rw[q2f]at hu;obtain⟨x,hx,rfl⟩:=zbw.1 hu;rw[q38];refine hr.cell hid ?_;rw[zcp]at hx;split at hx
        · rw[zcq]at hx; exact hx
        · simp at hx)
       rw[q53,hl]at this;exact this
     · simp at hc
theorem q2i{h:AH}(hw:h.wf){n esz:Nat}{v:AV}{cs:List AV}(hc:q0g h n esz v=some cs):supL cs≤h.next:=by
 cases v<;>simp only[q0g]at hc<;>try (simp at hc; done)
 rename_i p len c;cases p with
 | none=>
   simp only at hc;split at hc
   · simp only[zbe]at hc; subst hc; exact zbl _
   · simp at hc
 | some q=>
   obtain⟨id,off⟩:=q;simp only at hc;cases hid:h.cells id with
   | none=>simp[hid]at hc
   | some l=>
     simp only[hid]at hc;split at hc
     · simp only[zbe]at hc; subst hc
       exact q3s.2 fun u hu=>q3s.1 (qec hw hid).1 u (List.mem_of_mem_drop (List.mem_of_mem_take hu))
     · simp at hc
theorem q1k{h:AH}{n esz:Nat}{v:AV}{cs:List AV}(hc:q0g h n esz v=some cs):cs.length=n * esz:=by
 cases v<;>simp only[q0g]at hc<;>try (simp at hc; done)
 rename_i p len c;cases p with
 | none=>
   simp only at hc;split at hc
   · rename_i h0; simp only[zbe]at hc; subst hc; simp[h0]
   · simp at hc
 | some q=>
   obtain⟨id,off⟩:=q;simp only at hc;cases hid:h.cells id with
   | none=>simp[hid]at hc
   | some l=>
     simp only[hid]at hc;split at hc
     · simp only[zbe]at hc; subst hc; simp; omega
     · simp at hc
structure AppT(P:Program)(t t2 e:TypeId)(esz by_:Nat)(z:AV):Prop where
 sl:P.underlying t=some (.slice e)
 sl2:∃ D,P.underlying t2=some D∧ ∀ k,D≠ .int k
 info:(P.info? e).map (fun i=>(i.size,i.bytes))=some (esz,by_)
 zero:q26 P e z
 zsz:z.cells.length=esz
 small:by_≤4096
theorem AppT.size{P:Program}{t t2 e:TypeId}{esz by_:Nat}{z:AV}(h:AppT P t t2 e esz by_ z):(P.info? e).map (·.size)=some esz:=by
 have:=h.info;cases hh:P.info? e with
 | none=>simp[hh]at this
 | some i=>simp[hh]at this ⊢; exact this.1
theorem AppT.bytes{P:Program}{t t2 e:TypeId}{esz by_:Nat}{z:AV}(h:AppT P t t2 e esz by_ z):∃ i,P.info? e=some i∧i.bytes=by_:=by
 have:=h.info;cases hh:P.info? e with
 | none=>simp[hh]at this
 | some i=>simp[hh]at this; exact⟨i,rfl,this.2⟩
theorem qlr(n:Nat):∀ (r c:Nat),c≤4 * n+4096→Builtin.growBy n r c≤4 * n+4096
 | 0,c,h=>h
 | r+1,c,h=>by
   simp only[Builtin.growBy];split
   · exact h
   · exact qlr n r _ (by omega)
theorem qt8(n old:Nat)(h:old<n):Builtin.nextslicecap n old≤4 * n+4096:=by
 unfold Builtin.nextslicecap;split
 · omega
 · split
   · omega
   · exact qlr n 4 old (by omega)
theorem run_append_fits{P:Program}{t t2 e ty:TypeId}{esz by_:Nat}{z:AV}(ha:AppT P t t2 e esz by_ z){w w':World}{base:Option Addr}{n0 n cap:Nat}{x:Value}{new:Array Value}
 (hlen:(Builtin.lenOf x).run P w= .ok n w)(hnew:(Builtin.firstCells esz n x).run P w= .ok new w)(hfit:n0+n≤cap)
 (hst:(match base with | some a=>storeCells (a.add (n0 * esz)) new.toList | none=>pure ()).run P w= .ok () w'):
 (Builtin.append_ #[t,t2] ty #[.slice base n0 cap,x]).run P w= .ok (.slice base (n0+n) cap) w':=by
 obtain⟨D,h1,h2⟩:=ha.sl2
 have key:∀ w0:World,w0=w→(Builtin.append_ #[t,t2] ty #[.slice base n0 cap,x]).run P w0= .ok (.slice base (n0+n) cap) w':=by
  rintro w0 rfl
  cases D<;>first
   | exact absurd rfl (h2 _)
   | (simp only[Builtin.append_,List.getElem?_toArray,List.getElem?_cons_zero,List.getElem?_cons_succ,zbx,Go.run_underlying ha.sl,zbk,q0i ha.size,Go.run_underlying h1,zby,
       zbn,if_false,hlen,if_pos hfit,Bool.not_false,if_true,hnew]
      cases base with
      | none=>simp only[zby,Result.ok.injEq,true_and]at hst ⊢; simpa using hst
      | some a=>simp only at hst; simp only[zbx,hst,zbk,zby])
 exact key w rfl
theorem q6q{P:Program}{t t2 e ty:TypeId}{esz by_:Nat}{z:AV}(ha:AppT P t t2 e esz by_ z){w:World}{base:Option Addr}{n0 n cap:Nat}{x:Value}{old new:Array Value}
 (hlen:(Builtin.lenOf x).run P w= .ok n w)(hnew:∀ dr,(Builtin.firstCells esz n x).run P {w with drawn:=dr}= .ok new {w with drawn:=dr})
 (hold:∀ dr,(Builtin.firstCells esz n0 (.slice base n0 cap)).run P {w with drawn:=dr}= .ok old {w with drawn:=dr})
 (hs1:old.size=n0 * esz)(hs2:new.size=n * esz)(hno:¬ n0+n≤cap)(hle:n0+n≤4294967296):
 ∃ (c dr:Nat) (arr:Array Value),n0+n≤c∧arr.size=c * esz∧(∀ (i:Nat) v,(old++new)[i]?=some v→arr[i]?=some v)∧
   (Builtin.append_ #[t,t2] ty #[.slice base n0 cap,x]).run P w= .ok (.slice (some ⟨w.heap.size,0,none⟩) (n0+n) c) {w with heap:=w.heap.push (.cells arr e),drawn:=dr}:=by
 obtain⟨D,h1,h2⟩:=ha.sl2;obtain⟨inf,hi,hby⟩:=ha.bytes
 have hcap:¬ (Builtin.nextslicecap (n0+n) cap * inf.bytes > 2 ^ 48):=by
  have h3:=qt8 (n0+n) cap (by omega)
  have h4:Builtin.nextslicecap (n0+n) cap * inf.bytes≤(4 * (n0+n)+4096) * 4096:=Nat.mul_le_mul h3 (by rw[hby]; exact ha.small)
  have h5:(4 * (n0+n)+4096) * 4096≤(4 * 4294967296+4096) * 4096:=zc2 _ (by omega)
  omega
 have hmax:¬ (((n0+n:Nat):Int) > IntKind.max .i64):=by
  have:IntKind.max .i64=9223372036854775807:=by decide
  rw[this]; omega
 have hzero:∀ w:World,(zeroValue e).run P w= .ok (conc ⟨fun _=>0,fun _=>0,fun _=>0⟩ z) w:=fun w=>q4d ha.zero _ w
 let c:=Question.cut (.appendCap (n0+n) cap e) (w.tape w.drawn (.appendCap (n0+n) cap e))
 have hc:n0+n≤c:=by show n0+n≤(n0+n)+_; omega
 refine⟨c,w.drawn+1,old++new++Builtin.zeroCells (conc ⟨fun _=>0,fun _=>0,fun _=>0⟩ z).cells (c - (n0+n)),hc,?_,?_,?_⟩
 · have hzc:(conc ⟨fun _=>0,fun _=>0,fun _=>0⟩ z).cells.size=esz:=by rw[q27]; simp[ha.zsz]
   have:(Builtin.zeroCells (conc ⟨fun _=>0,fun _=>0,fun _=>0⟩ z).cells (c - (n0+n))).size=(c - (n0+n)) * esz:=by simp[Builtin.zeroCells,hzc]
   rw[Array.size_append,Array.size_append,hs1,hs2,this,←zc7,←zc7];congr 1; omega
 · intro i v hv
   rw[Array.getElem?_append_left (zch.1 hv).1];exact hv
 · cases D<;>first
    | exact absurd rfl (h2 _)
    | (simp only[Builtin.append_,List.getElem?_toArray,List.getElem?_cons_zero,List.getElem?_cons_succ,zbx,Go.run_underlying ha.sl,zbk,q0i ha.size,Go.run_underlying h1,zby,
        zbn,if_false,hlen,if_neg hno,Bool.not_false,if_true,typeInfo,run_program,hi,hmax,false_and,if_neg hcap,run_choose,Question.forced,run_askRoom]
       rw[hold];simp only[zbk];rw[hnew];simp only[zbk,hzero,newRow,zbx,run_newObj,zby];rfl)
structure AH.MoveTo(h:AH)(id i:Nat)(c:Chunk)(h':AH):Prop where
 is:i=h.next
 next:h'.next=h.next+1
 new:h'.get i=some c
 old:∀ j,j≠i→j≠id→h'.get j=h.get j
 gone:h'.get id=none∨id=i
def AH.move(h:AH)(id:Nat)(c:Chunk):AH:=⟨h.next+1,fun i=>if i=h.next then some c else if i=id then none else h.get i⟩
theorem AH.za2(h:AH)(id:Nat)(c:Chunk):h.MoveTo id h.next c (h.move id c):=
 ⟨rfl,rfl,by simp[AH.move],fun j h1 h2=>by simp[AH.move,h1,h2],by
  by_cases e:id=h.next
  · exact .inr e
  · exact .inl (by simp[AH.move,e])⟩
theorem AH.za3{h:AH}{id:Nat}{c:Chunk}(hw:h.wf)(hc:c.sup≤h.next+1):(h.move id c).wf:=fun i c' hg=>by
 simp only[AH.move]at hg ⊢;split at hg
 · simp at hg; subst hg; rename_i e; subst e; exact⟨zc0 _,hc⟩
 · split at hg
   · simp at hg
   · have:=hw i c' hg; exact⟨by omega,by omega⟩
theorem HRel.moveBlk{ρ:Ren}{h:AH}{w w':World}{id cap:Nat}{c c':Chunk}(hr:HRel ρ h w)(hw:h.wf)(hg:h.get id=some c)(hc:c.isRo=false)
 (hb:∀ B,B≠ρ.blk id→w'.heap[B]?=w.heap[B]?)(hreal:Real (ρ.plus h.next (ρ.blk id) cap) h.next w' c'):HRel (ρ.plus h.next (ρ.blk id) cap) (h.move id c') w':=by
 have hext:=ρ.plus_ext h.next (ρ.blk id) cap;have hnew:(ρ.plus h.next (ρ.blk id) cap).blk h.next=ρ.blk id:=by simp[Ren.plus]
 have hold:∀ j cj,j≠id→h.get j=some cj→Real (ρ.plus h.next (ρ.blk id) cap) j w' cj∧(ρ.plus h.next (ρ.blk id) cap).blk j≠ρ.blk id:=by
  intro j cj hne hj;obtain⟨h1,h2⟩:=hw j cj hj;have e1:=(hext j h1).1;have hn:ρ.blk j≠ρ.blk id:=Ne.symm (hr.2 id j c cj (Ne.symm hne) hg hj hc);refine⟨((hr.1 j cj hj).ext hext h1 h2).congr (hb _ (by rw[e1]; exact hn)),by rw[e1]; exact hn⟩
 refine⟨fun j cj hj=>?_,fun i j ci cj hne hi hj hro=>?_⟩
 · simp only[AH.move]at hj
   split at hj
   · rename_i e; simp at hj; subst hj; subst e; exact hreal
   · split at hj
     · simp at hj
     · rename_i e; exact(hold j cj e hj).1
 · simp only[AH.move]at hi hj
   split at hi
   · rename_i e
     subst e;rw[if_neg (Ne.symm hne)]at hj;split at hj
     · simp at hj
     · rename_i e; rw[hnew]; exact Ne.symm (hold j cj e hj).2
   · split at hi
     · simp at hi
     · rename_i e1 e2
       split at hj
       · rename_i e; subst e; rw[hnew]; exact(hold i ci e2 hi).2
       · split at hj
         · simp at hj
         · have a1:=(hext i (hw i ci hi).1).1
           have a2:=(hext j (hw j cj hj).1).1;rw[a1,a2];exact hr.2 i j ci cj hne hi hj hro
theorem Fr.moveBlk{ρ:Ren}{h:AH}{w w':World}{id cap:Nat}{c c':Chunk}(hw:h.wf)(hg:h.get id=some c)(hc:c.isRo=false)(ho:w'.os=w.os∧w'.tape=w.tape∧w'.output=w.output)
 (hsz:w.heap.size≤w'.heap.size)(hb:∀ B,B≠ρ.blk id→w'.heap[B]?=w.heap[B]?):Fr ρ h w (ρ.plus h.next (ρ.blk id) cap) (h.move id c') w':=by
 refine⟨ho,hsz,fun B _ hno=>hb B fun e=>hno id c hg hc e.symm,fun j cj hj=> .inr ?_,ρ.plus_ext _ _ _,by simp[AH.move]⟩
 simp only[AH.move]at hj;split at hj
 · rename_i e; subst e; exact⟨id,c,hg,fun _=>hc,by simp[Ren.plus]⟩
 · split at hj
   · simp at hj
   · have:=(ρ.plus_ext h.next (ρ.blk id) cap j (hw j cj hj).1).1
     exact⟨j,cj,hj,fun h=>h,this.symm⟩
theorem HRel.dropAdd{ρ:Ren}{h:AH}{w:World}{ob:Obj}{id cap dr:Nat}{c':Chunk}(hr:HRel ρ h w)(hw:h.wf)
 (hreal:Real (ρ.plus h.next w.heap.size cap) h.next {w with heap:=w.heap.push ob,drawn:=dr} c'):HRel (ρ.plus h.next w.heap.size cap) (h.move id c') {w with heap:=w.heap.push ob,drawn:=dr}:=by
 have h1:=HRel.addBlk (o:=ob) (dr:=dr) hr hw hreal
 have sub:∀ j cj,(h.move id c').get j=some cj→(h.add c').get j=some cj:=by
  intro j cj hj;simp only[AH.move]at hj;simp only[AH.add];split at hj
  · rename_i e; rw[if_pos e]; exact hj
  · rename_i e
    rw[if_neg e];split at hj
    · simp at hj
    · exact hj
 exact⟨fun j cj hj=>h1.1 j cj (sub j cj hj),fun i j ci cj hne hi hj hro=>h1.2 i j ci cj hne (sub i ci hi) (sub j cj hj) hro⟩
theorem Fr.dropAdd{ρ:Ren}{h:AH}{w:World}{ob:Obj}{id cap dr:Nat}{c':Chunk}(hw:h.wf):
 Fr ρ h w (ρ.plus h.next w.heap.size cap) (h.move id c') {w with heap:=w.heap.push ob,drawn:=dr}:=by
 obtain⟨a1,a2,a3,a4,a5,a6⟩:=Fr.addBlk (ρ:=ρ) (o:=ob) (c:=c') (cap:=cap) (dr:=dr) (w:=w) hw;refine⟨a1,a2,a3,fun j cj hj=>?_,a5,by simp[AH.move]⟩
 refine a4 j cj ?_;simp only[AH.move]at hj;simp only[AH.add];split at hj
 · rename_i e; rw[if_pos e]; exact hj
 · rename_i e
   rw[if_neg e];split at hj
   · simp at hj
   · exact hj
section rules
variable{P:Program}{r:Option Nat}{s:St}{Q:AExit→St→Prop}{o:Oper}{d:Nat}{x y:Operand}{v u:AV}{t t2 e:TypeId}{esz by_:Nat}{z:AV}
theorem q2y{ρ:Ren}{q:Option (Nat×Nat)}{n:Nat}{c:Cap}(w:World):(Builtin.lenOf (conc ρ (.slice q n c))).run P w= .ok n w:=by simp[conc,Builtin.lenOf]
theorem qmf{p q:Option (Nat×Nat)}{n0 n cap:Nat}{c2:Cap}{old new out:List AV}(ha:AppT P t t2 e esz by_ z)
 (ho:o.op= .call {callee:= .builtin .append,args:= #[x,y],argTypes:= #[t,t2]})(hd:o.dst=some d)(hdn:d<s.n)
 (hx:ev s.slots x=some (.slice p n0 (.exact cap)))(hy:ev s.slots y=some (.slice q n c2))(h1:q0g s.h n0 esz (.slice p n0 (.exact cap))=some old)(h2:q0g s.h n esz (.slice q n c2)=some new)
 (hno:cap<n0+n)(hle:n0+n≤4294967296)(hout:old++new=out)
 (h:∀ i h',s.h.AddTo i (.grow esz out) h'→Q .normal ⟨(d,.slice (some (i,0)) (n0+n) (.grow 0)) :: s.slots,h',s.n,s.defs⟩):JO P r o s Q:=by
 subst hout;refine qc8 (h':=s.h.add (.grow esz (old++new))) hd hdn (by simp[Oper.noDefer,ho]) (fun hw=>⟨AH.z9x hw.2.1 ?_,by simp[AH.add],by simp[AV.sup,supA,AH.add]⟩) (fun hw ρ a w hrel=>?_) (h _ _ (AH.z9w _ _))
 · have a1:=q2i hw.2.1 h1
   have a2:=q2i hw.2.1 h2;simp only[Chunk.sup,q1r]; omega
 · have hs1:=q1k h1
   have hs2:=q1k h2
   obtain⟨c,dr,arr,hc,hsz,hval,hrun⟩:=q6q (ty:=o.type) ha (w:=w) (n0:=n0) (n:=n) (cap:=cap) (base:=p.map ρ.addr) (x:=conc ρ (.slice q n c2)) (old:=(q04 ρ old).toArray) (new:=(q04 ρ new).toArray)
    (q2y w) (fun dr=>q1j (q4n dr hrel.2.2) h2) (fun dr=>q1j (q4n dr hrel.2.2) h1) (by simp[hs1]) (by simp[hs2]) (by omega) hle
   obtain⟨cst,hcst⟩:=q10 (P:=P) ho a.eval w;refine⟨ρ.plus s.h.next w.heap.size c,{w with heap:=w.heap.push (.cells arr e),drawn:=dr},?_,?_,Fr.addBlk hw.2.1⟩
   · rw[hcst]
     simp only[builtin,List.map_toArray,zc3,List.map_nil,q03 hrel hx,q03 hrel hy,conc,Cap.conc,zbx]at hrun ⊢;rw[hrun];simp[Ren.addr,Ren.plus]
   · refine HRel.addBlk hrel.2.2 hw.2.1 ⟨by simp[Ren.plus],e,arr,by simp[Ren.plus],by simp[Ren.plus,hsz],?_,fun i u hu=>?_⟩
     · rw[zc8,hs1,hs2,hsz,←zc7]; exact zc2 _ hc
     · refine hval i _ ?_
       have hsup:u.sup≤s.h.next:=by
        have a1:=q2i hw.2.1 h1;have a2:=q2i hw.2.1 h2;exact q6m (l:=old++new) (by rw[q1r]; omega) hu
       rw[q2d (ρ.plus_ext _ _ _) _ hsup];have:=q2f ρ (old++new) i;rw[hu,q51]at this;simpa using this
theorem qxc{p q:Option (Nat×Nat)}{n0 cap:Nat}{c2:Cap}(ha:AppT P t t2 e esz by_ z)
 (ho:o.op= .call {callee:= .builtin .append,args:= #[x,y],argTypes:= #[t,t2]})(hd:o.dst=some d)(hdn:d<s.n)
 (hx:ev s.slots x=some (.slice p n0 (.exact cap)))(hy:ev s.slots y=some (.slice q 0 c2))(h2:q0g s.h 0 esz (.slice q 0 c2)=some [])(hle:n0≤cap)
 (h:Q .normal ⟨(d,.slice p n0 (.exact cap)) :: s.slots,s.h,s.n,s.defs⟩):JO P r o s Q:=
 q0t hd hdn (by simp[Oper.noDefer,ho]) (fun hw=>q1i hw hx) (fun ρ a w hrel=>by
  obtain⟨cst,hcst⟩:=q10 (P:=P) ho a.eval w
  have hrun:=run_append_fits (ty:=o.type) ha (w:=w) (w':=w) (n0:=n0) (n:=0) (cap:=cap) (base:=p.map ρ.addr) (x:=conc ρ (.slice q 0 c2)) (new:= #[]) (q2y w) (by simpa [q04]using q1j hrel.2.2 h2) (by omega)
   (by cases p<;>simp[storeCells])
  rw[hcst];simp only[builtin,List.map_toArray,zc3,List.map_nil,q03 hrel hx,q03 hrel hy,conc,Cap.conc,zbx]at hrun ⊢;rw[hrun];rfl) h
theorem qmd{q:Option (Nat×Nat)}{id off n0 n cap:Nat}{c2:Cap}{cs new cs':List AV}(ha:AppT P t t2 e esz by_ z)
 (ho:o.op= .call {callee:= .builtin .append,args:= #[x,y],argTypes:= #[t,t2]})(hd:o.dst=some d)(hdn:d<s.n)
 (hx:ev s.slots x=some (.slice (some (id,off)) n0 (.exact cap)))(hy:ev s.slots y=some (.slice q n c2))(hg:s.h.get id=some (.own cs))(h2:q0g s.h n esz (.slice q n c2)=some new)(h1:new.all AV.one=true)
 (hfit:n0+n≤cap)(hin:off+(n0+n) * esz≤cs.length)(hcs:splice cs (off+n0 * esz) new=cs')
 (h:∀ h',s.h.SetTo id (.own cs') h'→Q .normal ⟨(d,.slice (some (id,off)) (n0+n) (.exact cap)) :: s.slots,h',s.n,s.defs⟩):JO P r o s Q:=by
 subst hcs;have hs2:=q1k h2
 refine qc8 (h':=s.h.set id (.own (splice cs (off+n0 * esz) new))) hd hdn (by simp[Oper.noDefer,ho]) (fun hw=>⟨AH.za5 hw.2.1 (hw.2.1 id _ hg).1 (q5y (hw.2.1 id _ hg).2 (q2i hw.2.1 h2)),zbi _,by have:=q1i hw hx; exact this⟩)
  (fun hw ρ a w hrel=>?_) (h _ (AH.za4 _ _ _))
 obtain⟨h0,el,hb⟩:=hrel.2.2.1 id _ hg;obtain⟨cst,hcst⟩:=q10 (P:=P) ho a.eval w;have hlen:off+n0 * esz+new.length≤cs.length:=by rw[hs2]; rw[zc7]at hin; omega
 have hst:=run_storeCells_at (P:=P) (ρ.blk id) (off+n0 * esz) el (q04 ρ new) 0 (q04 ρ cs).toArray w hb (by simp; omega) (q9w h1)
 generalize hnew:((q04 ρ cs).toArray.toList.take (off+n0 * esz+0)++q04 ρ new++(q04 ρ cs).toArray.toList.drop (off+n0 * esz+0+(q04 ρ new).length)).toArray=arr at hst
 have hrun:=run_append_fits (ty:=o.type) ha (w:=w) (w':=w.setRow (ρ.blk id) arr) (n0:=n0) (n:=n) (cap:=cap) (base:=some (ρ.addr (id,off))) (x:=conc ρ (.slice q n c2)) (new:=(q04 ρ new).toArray) (q2y w) (q1j hrel.2.2 h2) hfit
  (by show(storeCells ((ρ.addr (id,off)).add (n0 * esz)) (q04 ρ new)).run P w=_; rw[q38]; simp only[Ren.addr,h0,zbv]; exact hst)
 refine⟨ρ,w.setRow (ρ.blk id) arr,?_,HRel.setBlk hrel.2.2 hg rfl (fun B hB=>setRow_other w _ B _ hB) ⟨h0,el,?_⟩,Fr.setBlk hg rfl ⟨rfl,rfl,rfl⟩ (by simp) (fun B hB=>setRow_other w _ B _ hB)⟩
 · rw[hcst]
   simp only[builtin,List.map_toArray,zc3,List.map_nil,q03 hrel hx,q03 hrel hy,conc,Cap.conc,zbp,zbx]at hrun ⊢;rw[hrun];rfl
 · rw[setRow_heap w _ _ _ _ _ hb,←hnew,q66]
   simp
theorem qme{q:Option (Nat×Nat)}{id n0 n:Nat}{c2:Cap}{cs new out:List AV}(ha:AppT P t t2 e esz by_ z)
 (ho:o.op= .call {callee:= .builtin .append,args:= #[x,y],argTypes:= #[t,t2]})(hd:o.dst=some d)(hdn:d<s.n)
 (hx:ev s.slots x=some (.slice (some (id,0)) n0 (.grow 0)))(hy:ev s.slots y=some (.slice q n c2))(hg:s.h.get id=some (.grow esz cs))(hfull:cs.length=n0 * esz)
 (h2:q0g s.h n esz (.slice q n c2)=some new)(h1:new.all AV.one=true)(hle:n0+n≤4294967296)(hout:cs++new=out)
 (h:∀ i h',s.h.MoveTo id i (.grow esz out) h'→Q .normal ⟨(d,.slice (some (i,0)) (n0+n) (.grow 0)) :: s.slots,h',s.n,s.defs⟩):JO P r o s Q:=by
 subst hout;have hs2:=q1k h2;have hcl:s.h.cells id=some cs:=by simp[AH.cells,hg]
 have hold:∀ cap,q0g s.h n0 esz (.slice (some (id,0)) n0 cap)=some cs:=fun cap=>by
  simp only[q0g,hcl,zbv,←hfull,zbi,if_true,List.drop_zero,List.take_length]
 refine qc8 (h':=s.h.move id (.grow esz (cs++new))) hd hdn (by simp[Oper.noDefer,ho]) (fun hw=>⟨AH.za3 hw.2.1 ?_,by simp[AH.move],by simp[AV.sup,supA,AH.move]⟩) (fun hw ρ a w hrel=>?_) (h _ _ (AH.za2 _ _ _))
 · have a1:supL cs≤s.h.next:=(hw.2.1 id _ hg).2
   have a2:=q2i hw.2.1 h2;simp only[Chunk.sup,q1r]; omega
 · have hsup:∀ (i:Nat) u,(cs++new)[i]?=some u→u.sup≤s.h.next:=fun i u hu=>by
    have a1:supL cs≤s.h.next:=(hw.2.1 id _ hg).2;have a2:=q2i hw.2.1 h2;exact q6m (l:=cs++new) (by rw[q1r]; omega) hu
   obtain⟨h0,el,arr,hb,hsz,hlen,hval⟩:=hrel.2.2.1 id _ hg;obtain⟨cst,hcst⟩:=q10 (P:=P) ho a.eval w
   by_cases hfit:n0+n≤ρ.cap id
   · have hroom:n0 * esz+new.length≤arr.size:=by rw[hs2,hsz,←zc7]; exact zc2 _ hfit
     have hst:=run_storeCells_at (P:=P) (ρ.blk id) (n0 * esz) el (q04 ρ new) 0 arr w hb (by simp; omega) (q9w h1)
     generalize hnew:(arr.toList.take (n0 * esz+0)++q04 ρ new++arr.toList.drop (n0 * esz+0+(q04 ρ new).length)).toArray=arr2 at hst
     have hrun:=run_append_fits (ty:=o.type) ha (w:=w) (w':=w.setRow (ρ.blk id) arr2) (n0:=n0) (n:=n) (cap:=ρ.cap id) (base:=some (ρ.addr (id,0))) (x:=conc ρ (.slice q n c2)) (new:=(q04 ρ new).toArray) (q2y w) (q1j hrel.2.2 h2) hfit
      (by show(storeCells ((ρ.addr (id,0)).add (n0 * esz)) (q04 ρ new)).run P w=_; rw[q38]; simp only[Ren.addr,h0,zbv]; exact hst)
     have hsz2:arr2.size=arr.size:=by rw[←hnew]; simp; omega
     refine⟨ρ.plus s.h.next (ρ.blk id) (ρ.cap id),w.setRow (ρ.blk id) arr2,?_,HRel.moveBlk hrel.2.2 hw.2.1 hg rfl (fun B hB=>setRow_other w _ B _ hB) ⟨by simp[Ren.plus],el,arr2,?_,by simp[Ren.plus,hsz2,hsz],?_,fun i u hu=>?_⟩,
      Fr.moveBlk hw.2.1 hg rfl ⟨rfl,rfl,rfl⟩ (by simp) (fun B hB=>setRow_other w _ B _ hB)⟩
     · rw[hcst]
       simp only[builtin,List.map_toArray,zc3,List.map_nil,q03 hrel hx,q03 hrel hy,conc,Cap.conc,zbp,zbx,Nat.sub_zero]at hrun ⊢;rw[hrun];simp[Ren.addr,Ren.plus,h0]
     · have:(ρ.plus s.h.next (ρ.blk id) (ρ.cap id)).blk s.h.next=ρ.blk id:=by simp[Ren.plus]
       rw[this,setRow_heap w _ _ _ _ _ hb]
     · rw[zc8,hsz2,hfull]; exact hroom
     · rw[q2d (ρ.plus_ext _ _ _) _ (hsup i u hu),←hnew,List.getElem?_toArray]
       simp only[Nat.add_zero,List.append_assoc];have m1:min (n0 * esz) arr.size=n0 * esz:=by omega
       by_cases c1:i<n0 * esz
       · rw[zck (by simp; omega),zcp,if_pos c1]
         rw[zck (by omega)]at hu
         simpa using hval i u hu
       · rw[zcl (by omega)]at hu
         rw[zcl (by simp; omega)]
         simp only[zcc,Array.length_toList,m1];rw[hfull]at hu;have hl2:i - n0 * esz<new.length:=(zci.1 hu).1;rw[zck (by simpa using hl2),q2f,hu]; rfl
   · obtain⟨c,dr,arr2,hc,hsz2,hval2,hrun⟩:=q6q (ty:=o.type) ha (w:=w) (n0:=n0) (n:=n) (cap:=ρ.cap id) (base:=some (ρ.addr (id,0))) (x:=conc ρ (.slice q n c2)) (old:=(q04 ρ cs).toArray) (new:=(q04 ρ new).toArray)
      (q2y w) (fun dr=>q1j (q4n dr hrel.2.2) h2) (fun dr=>by have:=q1j (P:=P) (q4n dr hrel.2.2) (hold (.exact (ρ.cap id))); simpa [conc,Cap.conc]using this) (by simp[hfull]) (by simp[hs2]) hfit hle
     refine⟨ρ.plus s.h.next w.heap.size c,{w with heap:=w.heap.push (.cells arr2 e),drawn:=dr},?_,?_,Fr.dropAdd hw.2.1⟩
     · rw[hcst]
       simp only[builtin,List.map_toArray,zc3,List.map_nil,q03 hrel hx,q03 hrel hy,conc,Cap.conc,zbp,zbx,Nat.sub_zero]at hrun ⊢;rw[hrun];simp[Ren.addr,Ren.plus]
     · refine HRel.dropAdd hrel.2.2 hw.2.1 ⟨by simp[Ren.plus],e,arr2,by simp[Ren.plus],by simp[Ren.plus,hsz2],?_,fun i u hu=>?_⟩
       · rw[zc8,hfull,hs2,hsz2,←zc7]; exact zc2 _ hc
       · refine hval2 i _ ?_
         rw[q2d (ρ.plus_ext _ _ _) _ (hsup i u hu)];have:=q2f ρ (cs++new) i;rw[hu,q51]at this;simpa using this
theorem z30{q:Option (Nat×Nat)}{id off dl sln n cap:Nat}{c2:Cap}{cs new cs':List AV}(ht:P.underlying t=some (.slice e))(hn:(P.info? e).map (·.size)=some esz)
 (ho:o.op= .call {callee:= .builtin .copy,args:= #[x,y],argTypes:= #[t,t2]})(hd:o.dst=some d)(hdn:d<s.n)
 (hx:ev s.slots x=some (.slice (some (id,off)) dl (.exact cap)))(hy:ev s.slots y=some (.slice q sln c2))(hg:s.h.get id=some (.own cs))(hmin:n=min sln dl)(h2:q0g s.h n esz (.slice q sln c2)=some new)(h1:new.all AV.one=true)
 (hin:off+n * esz≤cs.length)(hcs:splice cs off new=cs')
 (h:∀ h',s.h.SetTo id (.own cs') h'→Q .normal ⟨(d,.int .i64 n) :: s.slots,h',s.n,s.defs⟩):JO P r o s Q:=by
 subst hcs;have hs2:=q1k h2
 refine qc8 (h':=s.h.set id (.own (splice cs off new))) hd hdn (by simp[Oper.noDefer,ho]) (fun hw=>⟨AH.za5 hw.2.1 (hw.2.1 id _ hg).1 (q5y (hw.2.1 id _ hg).2 (q2i hw.2.1 h2)),zbi _,zbl _⟩)
  (fun hw ρ a w hrel=>?_) (h _ (AH.za4 _ _ _))
 obtain⟨h0,el,hb⟩:=hrel.2.2.1 id _ hg;obtain⟨cst,hcst⟩:=q10 (P:=P) ho a.eval w;have hst:=run_storeCells_at (P:=P) (ρ.blk id) off el (q04 ρ new) 0 (q04 ρ cs).toArray w hb (by simp; omega) (q9w h1)
 generalize hnew:((q04 ρ cs).toArray.toList.take (off+0)++q04 ρ new++(q04 ρ cs).toArray.toList.drop (off+0+(q04 ρ new).length)).toArray=arr at hst;have hfc:=q1j (P:=P) hrel.2.2 h2;refine⟨ρ,w.setRow (ρ.blk id) arr,?_,HRel.setBlk hrel.2.2 hg rfl (fun B hB=>setRow_other w _ B _ hB) ⟨h0,el,?_⟩,Fr.setBlk hg rfl ⟨rfl,rfl,rfl⟩ (by simp) (fun B hB=>setRow_other w _ B _ hB)⟩
 · have hmin':Nat.min sln dl=n:=hmin.symm
   have ha:ρ.addr (id,off)=⟨ρ.blk id,off,none⟩:=by simp[Ren.addr,h0]
   rw[hcst]
   simp only[builtin,List.map_toArray,zc3,List.map_nil,q03 hrel hx,q03 hrel hy,conc,Cap.conc,zbp,zbx,Builtin.copy_,List.getElem?_toArray,List.getElem?_cons_zero,List.getElem?_cons_succ,
    Go.run_underlying ht,zbk,Builtin.lenOf,zby,hmin',q0i hn,ha]at hfc ⊢
   rw[hfc];simp only[zbk,hst,goInt]
 · rw[setRow_heap w _ _ _ _ _ hb,←hnew,q66]
   simp
end rules
inductive AEnd where
 | ret (v:AV)
 | panic (v:AV)
def AEnd.conc(ρ:Ren):AEnd→Ending
 | .ret v=> .returned (J.conc ρ v)
 | .panic v=> .panicked [{v:=J.conc ρ v,recovered:=false}]
def AEnd.sup:AEnd→Nat
 | .ret v=>v.sup
 | .panic v=>v.sup
def Rend(ρ:Ren)(h:AH)(w:World)(e:AEnd)(h':AH)(e':Ending)(w':World):Prop:=
 ∃ ρ',e'=e.conc ρ'∧HRel ρ' h' w'∧Fr ρ h w ρ' h' w'
def q0n(P:Program)(f:FuncId)(args:List AV)(h:AH)(Q:AEnd→AH→Prop):Prop:=
 h.wf→supL args≤h.next→ ∃ e h',h'.wf∧e.sup≤h'.next∧h.next≤h'.next∧Q e h'∧
  ∀ ρ w n,HRel ρ h w→CallsIn Fence.wide n P f (q04 ρ args).toArray w (Rend ρ h w e h')
def qky(n:Nat)(P:Program)(R:Ending→World→Prop):Result Next→Prop
 | .ok (.enter f args) w=>CallsIn Fence.wide n P f args w R
 | .ok (.round l f tmps assign body) w=>RoundIn Fence.wide n P l f tmps assign body w R
 | _=>False
def JApp(P:Program)(fv:AV)(args:List AV)(h:AH)(Q:AEnd→AH→Prop):Prop:=
 h.wf→fv.sup≤h.next→supL args≤h.next→ ∃ e h',h'.wf∧e.sup≤h'.next∧h.next≤h'.next∧Q e h'∧
  ∀ ρ w n,HRel ρ h w→qky n P (Rend ρ h w e h') ((do let d ←Deferred.ofValue (conc ρ fv) (q04 ρ args).toArray; invoke d.target d.args).run P w)
theorem q0n.mono{P:Program}{f:FuncId}{args:List AV}{h:AH}{Q Q':AEnd→AH→Prop}(hc:q0n P f args h Q)(hq:∀ e h',Q e h'→Q' e h'):q0n P f args h Q':=
 fun a b=>let ⟨e,h',c1,c2,c3,c4,c5⟩:=hc a b; ⟨e,h',c1,c2,c3,hq e h' c4,c5⟩
theorem JApp.mono{P:Program}{fv:AV}{args:List AV}{h:AH}{Q Q':AEnd→AH→Prop}(hc:JApp P fv args h Q)(hq:∀ e h',Q e h'→Q' e h'):JApp P fv args h Q':=
 fun a b c=>let ⟨e,h',c1,c2,c3,c4,c5⟩:=hc a b c; ⟨e,h',c1,c2,c3,hq e h' c4,c5⟩
theorem qu3{P:Program}{fv:AV}{args:List AV}{h:AH}{Q:AEnd→AH→Prop}(hc:h.wf→JApp P fv args h Q):JApp P fv args h Q:=fun a=>hc a a
theorem q2k{P:Program}{f:FuncId}{args:List AV}{h:AH}{Q:AEnd→AH→Prop}(hc:h.wf→q0n P f args h Q):q0n P f args h Q:=fun a=>hc a a
structure IsFn(P:Program)(f:FuncId)(fn:Func)(c:Code):Prop where
 at_:P.funcs[f]?=some fn
 body:fn.body=some c
 name:(fn.name== "runtime.NumGoroutine")=false
theorem qcq{P:Program}{f:FuncId}{fn:Func}{c:Code}(hf:IsFn P f fn c)(args:Array Value)(w:World):(callFunc f args).run P w= .ok (.enter f args) w:=by
 have hn:¬ fn.name= "runtime.NumGoroutine" :=by simpa using hf.name
 simp[callFunc,hf.at_,hn,hf.body]
theorem q37{P:Program}{f:FuncId}{fn:Func}{c:Code}{first cap args:List AV}{h:AH}{Q:AEnd→AH→Prop}(hf:IsFn P f fn c)(hc:q0n P f (first++args++cap) h Q):JApp P (.fn (.func f) first cap) args h Q:=by
 intro hw h1 h2;simp only[AV.sup]at h1;obtain⟨e,h',a1,a2,a3,a4,a5⟩:=hc hw (by rw[q1r,q1r]; omega)
 refine⟨e,h',a1,a2,a3,a4,fun ρ w n hr=>?_⟩
 simp only[conc,Deferred.ofValue,zbx,zby,zbk,invoke,qcq hf,qky];have:=a5 ρ w n hr;simpa using this
section rules
variable{P:Program}{r:Option Nat}{s:St}{Q:AExit→St→Prop}{o:Oper}{d:Nat}{x y:Operand}{v u:AV}
def AEnd.exit:AEnd→AExit
 | .ret _=> .normal
 | .panic v=> .panic v
def qu2(d:Nat)(s:St)(Q:AExit→St→Prop):AEnd→AH→Prop
 | .ret v,h'=>Q .normal ⟨(d,v) :: s.slots,h',s.n,s.defs⟩
 | .panic v,h'=>Q (.panic v) ⟨s.slots,h',s.n,s.defs⟩
theorem Rel.heap{ρ ρ':Ren}{a:Act}{w w':World}{h':AH}(hrel:Rel ρ s a w)(hw:s.wf)(hh:HRel ρ' h' w')(hf:Fr ρ s.h w ρ' h' w'):Rel ρ' ⟨s.slots,h',s.n,s.defs⟩ a w':=
 ⟨q0v hrel.1 hf.2.2.2.2.1 hw.1,by rw[hrel.2.1,q24 hf.2.2.2.2.1 _ hw.2.2],hh⟩
theorem z3n{e:AEnd}{h':AH}(hd:o.dst=some d)(hdn:d<s.n)(hdef:Oper.noDefer o=true)(hwf:s.wf→h'.wf∧e.sup≤h'.next∧s.h.next≤h'.next)
 (hrun:s.wf→ ∀ ρ a w n,Rel ρ s a w→qky n P (Rend ρ s.h w e h') ((execOp a.eval o).run P w))(h:qu2 d s Q e h'):JO P r o s Q:=by
 intro hw hr;obtain⟨h1,h2,h3⟩:=hwf hw
 have step:∀ (e2:AExit) (s2:St),(∀ ρ a w ρ' w',Rel ρ s a w→HRel ρ' h' w'→Fr ρ s.h w ρ' h' w'→(match e.conc ρ' with | .returned v=>Out ρ s w e2 s2 .normal (a.put o.dst v) w' | .panicked ch=>Out ρ s w e2 s2 (.panic ch) a w' | .outgrown=>False))→
  ∀ ρ a w n,Rel ρ s a w→o.wpIn (fen ρ r) n P a w (Out ρ s w e2 s2 .normal) (Out ρ s w e2 s2):=by
  intro e2 s2 hs ρ a w n hrel;refine⟨fun _ _=>trivial,?_⟩
  rw[qk7 hdef];have hx:=hrun hw ρ a w (n - 1) hrel;revert hx;generalize (execOp a.eval o).run P w=res;intro hx
  have fin:∀ e1 w1,Rend ρ s.h w e h' e1 w1→(match e1,w1 with | .returned v,w''=>Out ρ s w e2 s2 .normal (a.put o.dst v) w'' | .panicked chain,w''=>Out ρ s w e2 s2 (.panic chain) a w'' | .outgrown,_=>LetsOut (Out ρ s w e2 s2)):=by
   rintro e1 w1 ⟨ρ',rfl,k1,k2⟩;have:=hs ρ a w ρ' w1 hrel k1 k2;cases e<;>exact this
  cases res with
  | halt ht w'=>exact hx.elim
  | ok nx w'=>
    cases nx<;>first
     | exact(hx:False).elim
     | exact⟨fun h=>by simp[fen,Fence.wide]at h,(show CallsIn (fen ρ r) _ _ _ _ _ _ from hx).mono fin⟩
     | exact⟨fun h=>by simp[fen,Fence.wide]at h,(show RoundIn (fen ρ r) _ _ _ _ _ _ _ _ _ from hx).mono fin⟩
 cases e with
 | ret v=>
   refine⟨.normal,⟨(d,v) :: s.slots,h',s.n,s.defs⟩,qil hw h1 h3 h2,zbl _,h3,h,step _ _ ?_⟩;intro ρ a w ρ' w' hrel k1 k2;simp only[AEnd.conc,hd];exact⟨ρ',rfl,hrel.put hw k1 k2 hdn,k2⟩
 | panic v=>
   refine⟨.panic v,⟨s.slots,h',s.n,s.defs⟩,qkh hw h1 h3,h2,h3,h,step _ _ ?_⟩;intro ρ a w ρ' w' hrel k1 k2;simp only[AEnd.conc];exact⟨ρ',rfl,hrel.heap hw k1 k2,k2⟩
theorem qju{args:Array Operand}{ats:Array TypeId}{vs:List AV}{fv:AV}(ho:o.op= .call {callee:= .value x,args,argTypes:=ats})(hd:o.dst=some d)(hdn:d<s.n)
 (hx:ev s.slots x=some fv)(ha:evL s.slots args.toList=some vs)(h:JApp P fv vs s.h (qu2 d s Q)):JO P r o s Q:=by
 intro hw hr;obtain⟨e,h',a1,a2,a3,a4,a5⟩:=h hw.2.1 (q1i hw hx) (qj3 hw ha);refine z3n hd hdn (by simp[Oper.noDefer,ho]) (fun _=>⟨a1,a2,a3⟩) (fun _ ρ a w n hrel=>?_) a4 hw hr
 have e1:args.map a.eval=(q04 ρ vs).toArray:=by rw[←qd8 hrel ha,←Array.toList_map,Array.toArray_toList]
 have:=a5 ρ w n hrel.2.2;simp only[execOp,ho,resolve,e1,q03 hrel hx];exact this
theorem z7u{args:Array Operand}{ats:Array TypeId}{vs:List AV}{f:FuncId}{fn:Func}{c:Code}(hf:IsFn P f fn c)(ho:o.op= .call {callee:= .value (.func f),args,argTypes:=ats})(hd:o.dst=some d)(hdn:d<s.n)
 (ha:evL s.slots args.toList=some vs)(h:q0n P f vs s.h (qu2 d s Q)):JO P r o s Q:=
 qju (fv:= .fn (.func f) [] []) ho hd hdn rfl ha (q37 hf (by simpa using h))
def resV(P:Program)(s:St):ResultVar→Option AV
 | .tmp t=>lk s.slots t
 | .cell a T=>match lk s.slots a with
   | some (.ptr (some (id,off)))=>match s.h.cells id,P.underlying T,P.info? T with
     | some cs,some D,some i=>ldA (q40 D) i.size cs off
     | _,_,_=>none
   | _=>none
def resL(P:Program)(s:St):List ResultVar→Option (List AV)
 | []=>some []
 | x :: l=>match resV P s x,resL P s l with
   | some v,some vs=>some (v :: vs)
   | _,_=>none
def oneOf:List AV→AV
 | [v]=>v
 | vs=> .tuple vs
theorem qi6{x:ResultVar}{v:AV}(h:resV P s x=some v):(∃ t,x= .tmp t∧lk s.slots t=some v)∨
 ∃ ad T id off cs D n,x= .cell ad T∧lk s.slots ad=some (.ptr (some (id,off)))∧s.h.cells id=some cs∧P.underlying T=some D∧(P.info? T).map (·.size)=some n∧ldA (q40 D) n cs off=some v:=by
 cases x with
 | tmp t=>exact .inl ⟨t,rfl,h⟩
 | cell ad T=>
   right;unfold resV at h;split at h
   · rename_i heq; cases heq
   · rename_i a T' heq
     cases heq;split at h
     · rename_i id off h1
       split at h
       · rename_i cs D i h2 h3 h4
         exact⟨ad,T,id,off,cs,D,i.size,rfl,h1,h2,h3,by rw[h4]; rfl,h⟩
       · simp at h
     · simp at h
theorem z1h{ρ:Ren}{a:Act}{w:World}(hrel:Rel ρ s a w){g:ResultVar→Sem Value}(g1:∀ t,g (.tmp t)=pure (a.tmps.getD t undef))(g2:∀ ad T,g (.cell ad T)=(do loadVar T (←asAddr (a.tmps.getD ad undef))))
 {x:ResultVar}{v:AV}(h:resV P s x=some v):(g x).run P w= .ok (conc ρ v) w:=by
 rcases qi6 h with⟨t,rfl,h1⟩ | ⟨ad,T,id,off,cs,D,n,rfl,h1,h2,h3,h4,h5⟩
 · have:=hrel.1.2 t v h1
   rw[g1];simp[zc9,this]
 · have h6:=hrel.1.2 ad _ h1
   have h7:=qxv (P:=P) h3 h4 hrel.2.2 h2 h5;rw[g2];simp[zc9,h6,conc,asAddr,h7]
theorem z1g(hw:s.wf){x:ResultVar}{v:AV}(h:resV P s x=some v):v.sup≤s.h.next:=by
 rcases qi6 h with⟨t,rfl,h1⟩ | ⟨ad,T,id,off,cs,D,n,rfl,h1,h2,h3,h4,h5⟩
 · exact hw.1 t v h1
 · exact qwl (qec hw.2.1 h2).1 h5
theorem qry{ρ:Ren}{w:World}{g:ResultVar→Sem Value}(hg:∀ x v,resV P s x=some v→(g x).run P w= .ok (conc ρ v) w):∀ {l:List ResultVar} {vs:List AV},resL P s l=some vs→(l.mapM g).run P w= .ok (q04 ρ vs) w
 | [],vs,h=>by simp only[resL,zbe]at h; subst h; rfl
 | x :: l,vs,h=>by
   simp only[resL]at h;cases h1:resV P s x with
   | none=>simp[h1]at h
   | some v=>
     cases h2:resL P s l with
     | none=>simp[h1,h2]at h
     | some us=>
       simp only[h1,h2,zbe]at h; subst h;rw[List.mapM_cons,zbx,hg x v h1,zbk,zbx,qry hg h2];rfl
theorem qrw(hw:s.wf):∀ {l:List ResultVar} {vs:List AV},resL P s l=some vs→supL vs≤s.h.next
 | [],vs,h=>by simp only[resL,zbe]at h; subst h; exact zbl _
 | x :: l,vs,h=>by
   simp only[resL]at h;cases h1:resV P s x with
   | none=>simp[h1]at h
   | some v=>
     cases h2:resL P s l with
     | none=>simp[h1,h2]at h
     | some us=>
       simp only[h1,h2,zbe]at h; subst h;have:=z1g hw h1;have:=qrw hw h2;simp only[supL]; omega
def resG(tmps:Array Value):ResultVar→Sem Value
 | .tmp t=>pure (tmps.getD t undef)
 | .cell a t=>do loadVar t (←asAddr (tmps.getD a undef))
theorem qpc{fn:Func}{ρ:Ren}{a:Act}{w:World}(hrel:Rel ρ s a w){vs:List AV}(h:resL P s fn.results.toList=some vs):(results fn a.tmps).run P w= .ok (conc ρ (oneOf vs)) w:=by
 have e:results fn a.tmps=(do let vs ←fn.results.mapM (resG a.tmps); pure (if h:vs.size=1 then vs[0] else .tuple vs)):=rfl
 have h1:=qry (g:=resG a.tmps) (fun x v hx=>z1h hrel (fun _=>rfl) (fun _ _=>rfl) hx) h
 rw[e,zbx,←Array.toArray_toList (xs:=fn.results),List.mapM_toArray,Sem.run_map,h1];simp only[zbk,zby]
 match vs with
 | []=>simp[oneOf,conc,q04]
 | [v]=>simp[oneOf,q04]
 | v :: u :: l=>simp[oneOf,conc,q04]
def q4x:Nat→List AV→List (Nat×AV)
 | _,[]=>[]
 | k,v :: l=>(k,v) :: q4x (k+1) l
theorem qdk:∀ {l:List AV} {k i:Nat} {v:AV},lk (q4x k l) i=some v→k≤i∧l[i - k]?=some v
 | [],k,i,v,h=>by simp[q4x,lk]at h
 | u :: l,k,i,v,h=>by
   simp only[q4x,lk]at h;split at h
   · rename_i hb
     have:k=i:=zbg hb;subst this;simp at h; subst h;exact⟨zbi _,by simp⟩
   · obtain⟨h1,h2⟩:=qdk h
     refine⟨by omega,?_⟩
     have:i - k=(i - (k+1))+1:=by omega
     rw[this]; simpa using h2
def q0j:List ADef→AH→AH
 | [],h=>h
 | .mark id :: ds,h=>q0j ds ⟨h.next,fun i=>if i=id then none else h.get i⟩
 | .call _ _ :: ds,h=>q0j ds h
def q5j:List ADef→AH→Prop
 | [],_=>True
 | .mark id :: ds,h=>h.get id=some .mark∧q5j ds ⟨h.next,fun i=>if i=id then none else h.get i⟩
 | .call _ _ :: _,_=>False
theorem q74:∀ (ds:List ADef) (h:AH),h.wf→(q0j ds h).wf∧(q0j ds h).next=h.next
 | [],h,hw=>⟨hw,rfl⟩
 | .mark id :: ds,h,hw=>by
   have:=q74 ds ⟨h.next,fun i=>if i=id then none else h.get i⟩ (fun i c hg=>by
    simp only at hg;split at hg
    · simp at hg
    · exact hw i c hg)
   exact this
 | .call _ _ :: ds,h,hw=>q74 ds h hw
def Leaves(P:Program)(fn:Func)(Q:AEnd→AH→Prop):AExit→St→Prop
 | .normal,s=>q5j s.defs s.h∧ ∃ vs,resL P ⟨s.slots,q0j s.defs s.h,s.n,[]⟩ fn.results.toList=some vs∧Q (.ret (oneOf vs)) (q0j s.defs s.h)
 | .ret,s=>q5j s.defs s.h∧ ∃ vs,resL P ⟨s.slots,q0j s.defs s.h,s.n,[]⟩ fn.results.toList=some vs∧Q (.ret (oneOf vs)) (q0j s.defs s.h)
 | .panic v,s=>q5j s.defs s.h∧Q (.panic v) (q0j s.defs s.h)
 | _,_=>False
theorem q9a{fn:Func}{R:Ending→World→Prop}{tmps:Array Value}{u:FrameMode}{ρ:Ren}(hu:u≠ .run):∀ (ds:List ADef) (h:AH) (w:World),q5j ds h→HRel ρ h w→
 (∀ w',HRel ρ (q0j ds h) w'→Fr ρ h w ρ (q0j ds h) w'→LeavesIn Fence.wide 0 P fn tmps R [] u w')→ ∀ n,LeavesInM Fence.wide n P fn tmps R (ds.map (q6t ρ)) u w
 | [],h,w,_,hr,k,n=>by
   have:=k w hr (.refl _ _ _);cases u<;>exact this
 | .call _ _ :: ds,h,w,hm,_,_,_=>hm.elim
 | .mark id :: ds,h,w,hm,hr,k,n=>by
   obtain⟨h1,h2⟩:=hm;obtain⟨h0,hb⟩:=hr.1 id _ h1;have hlt:ρ.blk id<w.heap.size:=(zch.1 hb).1
   let w':World:={w with heap:=w.heap.setIfInBounds (ρ.blk id) (.deferred none)}
   let h':AH:=⟨h.next,fun i=>if i=id then none else h.get i⟩
   have hother:∀ B,B≠ρ.blk id→w'.heap[B]?=w.heap[B]?:=fun B hB=>by
    simp only[w']; rw[Array.getElem?_setIfInBounds_ne (Ne.symm hB)]
   have hrel':HRel ρ h' w':=by
    refine⟨fun j cj hj=>?_,fun i j ci cj hne hi hj hro=>?_⟩
    · simp only[h']at hj
      split at hj
      · simp at hj
      · rename_i e
        exact(hr.1 j cj hj).congr (hother _ (Ne.symm (hr.2 id j _ cj (Ne.symm e) h1 hj rfl)))
    · simp only[h']at hi hj
      split at hi
      · simp at hi
      · split at hj
        · simp at hj
        · exact hr.2 i j ci cj hne hi hj hro
   have hfr:Fr ρ h w ρ h' w':=by
    refine⟨⟨rfl,rfl,rfl⟩,by simp[w'],fun B _ hno=>hother B fun e=>hno id _ h1 rfl e.symm,fun j cj hj=> .inr ?_,.refl _ _,zbi _⟩
    simp only[h']at hj;split at hj
    · simp at hj
    · exact⟨j,cj,hj,fun h=>h,rfl⟩
   refine⟨hu,.inl ⟨ρ.blk id,w',rfl,?_,q9a hu ds h' w' h2 hrel' (fun w2 a b=>k w2 a (hfr.trans b)) n⟩⟩
   simp[Instr.takeDeferred,getObj,setObj,Sem.run,hb,w']
theorem q0s{f:FuncId}{fn:Func}{c:Code}{args:List AV}{h:AH}{R:AEnd→AH→Prop}{N:Nat}{sl:List (Nat×AV)}(hf:IsFn P f fn c)(hN:fn.ntmps=N)(hargs:args.length≤N)(hsl:sl=q4x 0 args)
 (hj:J P none c ⟨sl,h,N,[]⟩ (Leaves P fn R)):q0n P f args h R:=by
 subst hsl;intro hw hs;obtain⟨e,s',w1,w2,w3,hq,hx⟩:=hj ⟨fun k v hk=>q6m hs (qdk hk).2,hw,zbl _⟩ (zbl _)
 have hrel0:∀ ρ w,HRel ρ h w→Rel ρ ⟨q4x 0 args,h,N,[]⟩ {tmps:=(q04 ρ args).toArray++Array.replicate (fn.ntmps - (q04 ρ args).toArray.size) undef,defers:=[]} w:=fun ρ w hr=>by
  refine⟨⟨by simp[hN]; omega,fun k v hk=>?_⟩,rfl,hr⟩
  obtain⟨_,h2⟩:=qdk hk;simp only[Nat.sub_zero]at h2;have hk2:k<args.length:=(zci.1 h2).1;rw[Array.getElem?_append_left (by simpa using hk2)]
  simp[q2f,h2]
 have fin:∀ (vs:List AV),q5j s'.defs s'.h→resL P ⟨s'.slots,q0j s'.defs s'.h,s'.n,[]⟩ fn.results.toList=some vs→ ∀ ρ w n,HRel ρ h w→ ∀ ρ' a' w',Rel ρ' s' a' w'→Fr ρ h w ρ' s'.h w'→
  LeavesInM Fence.wide n P fn a'.tmps (Rend ρ h w (.ret (oneOf vs)) (q0j s'.defs s'.h)) a'.defers .returning w':=by
  intro vs hm hres ρ w n hr ρ' a' w' hrel hfr;rw[hrel.2.1];refine q9a (by simp) _ _ _ hm hrel.2.2 (fun w2 k1 k2=>?_) n
  refine⟨conc ρ' (oneOf vs),?_,ρ',rfl,k1,hfr.trans k2⟩;exact qpc (s:=⟨s'.slots,q0j s'.defs s'.h,s'.n,[]⟩) (a:=⟨a'.tmps,[]⟩) ⟨hrel.1,rfl,k1⟩ hres
 have wfd:=q74 s'.defs s'.h w1.2.1
 have supd:∀ vs,resL P ⟨s'.slots,q0j s'.defs s'.h,s'.n,[]⟩ fn.results.toList=some vs→(oneOf vs).sup≤(q0j s'.defs s'.h).next:=fun vs hres=>by
  have h1:=qrw (s:=⟨s'.slots,q0j s'.defs s'.h,s'.n,[]⟩) ⟨fun k v hk=>by rw[wfd.2]; exact w1.1 k v hk,wfd.1,zbl _⟩ hres
  match vs,h1 with
  | [],_=>exact zbl _
  | [v],h1=>simp only[supL]at h1; simp only[oneOf]; omega
  | v :: u :: l,h1=>exact h1
 cases e with
 | normal=>
   obtain⟨hm,vs,hres,hR⟩:=hq;refine⟨.ret (oneOf vs),_,wfd.1,supd vs hres,by rw[wfd.2]; exact w3,hR,fun ρ w n hr=>callsIn_of_wp_marks hf.at_ hf.body trivial (wpIn_mono (hx ρ _ w n (hrel0 ρ w hr)) ?_)⟩
   rintro e' a' w' ⟨ρ',rfl,k1,k2⟩;exact fin vs hm hres ρ w n hr ρ' a' w' k1 k2
 | ret=>
   obtain⟨hm,vs,hres,hR⟩:=hq;refine⟨.ret (oneOf vs),_,wfd.1,supd vs hres,by rw[wfd.2]; exact w3,hR,fun ρ w n hr=>callsIn_of_wp_marks hf.at_ hf.body trivial (wpIn_mono (hx ρ _ w n (hrel0 ρ w hr)) ?_)⟩
   rintro e' a' w' ⟨ρ',rfl,k1,k2⟩;exact fin vs hm hres ρ w n hr ρ' a' w' k1 k2
 | panic v=>
   obtain⟨hm,hR⟩:=hq;refine⟨.panic v,_,wfd.1,by rw[wfd.2]; exact w2,by rw[wfd.2]; exact w3,hR,fun ρ w n hr=>callsIn_of_wp_marks hf.at_ hf.body trivial (wpIn_mono (hx ρ _ w n (hrel0 ρ w hr)) ?_)⟩
   rintro e' a' w' ⟨ρ',rfl,k1,k2⟩;show LeavesInM Fence.wide n P fn a'.tmps _ a'.defers (.panicking _) w';rw[k1.2.1];refine q9a (by simp) _ _ _ hm k1.2.2 (fun w2 m1 m2=>?_) n
   exact⟨ρ',rfl,m1,k2.trans m2⟩
 | exit id=>exact hq.elim
 | goto l=>exact hq.elim
end rules
def q4s:List Nat→List AV→List (Nat×AV)→List (Nat×AV)
 | k :: ks,v :: vs,sl=>q4s ks vs ((k,v) :: sl)
 | _,_,sl=>sl
theorem qfx{ρ:Ren}{n:Nat}:∀ {ks:List Nat} {vs:List AV} {sl:List (Nat×AV)} {tmps:Array Value},q2e ρ sl n tmps→(∀ k∈ks,k<n)→ks.length=vs.length→
 q2e ρ (q4s ks vs sl) n ((ks.zip (q04 ρ vs)).foldl (fun t (k,v)=>t.setIfInBounds k v) tmps)
 | [],[],sl,tmps,h,_,_=>h
 | [],_ :: _,sl,tmps,h,_,hl=>by simp at hl
 | _ :: _,[],sl,tmps,h,_,hl=>by simp at hl
 | k :: ks,v :: vs,sl,tmps,h,hk,hl=>by
   simp only[q4s,q04,List.zip_cons_cons,List.foldl_cons];refine qfx ⟨by simp[h.1],fun j u hj=>?_⟩ (fun j hj=>hk j (by simp[hj])) (by simpa using hl)
   simp only[lk]at hj;split at hj
   · rename_i hb
     have e:k=j:=zbg hb;simp at hj; subst hj; subst e;have:k<tmps.size:=by rw[h.1]; exact hk k (by simp)
     simp[this]
   · rename_i hb
     have hne:k≠j:=fun e=>hb (by subst e; exact zca k)
     have:=h.2 j u hj;simp[hne,this]
theorem qfy{n:Nat}:∀ {ks:List Nat} {vs:List AV} {sl:List (Nat×AV)},(∀ k v,lk sl k=some v→v.sup≤n)→supL vs≤n→ ∀ k v,lk (q4s ks vs sl) k=some v→v.sup≤n
 | [],_,sl,h,_=>h
 | _ :: _,[],sl,h,_=>h
 | k :: ks,v :: vs,sl,h,hs=>by
   simp only[supL]at hs;refine qfy (ks:=ks) (vs:=vs) (sl:=(k,v) :: sl) (fun j u hj=>?_) (by omega)
   simp only[lk]at hj;split at hj
   · simp at hj; subst hj; omega
   · exact h j u hj
def qzl(l:Nat)(R:AEnd→AH→Prop)(e:AExit)(s:St):Prop:=
 ∃ pd ts nt ps assign body m,s.h.get l=some (.loop .busy pd ts nt ps assign body m)∧
   match e with
   | .normal=> ∀ h',s.h.SetTo l (.loop .ready none ts nt ps assign body m) h'→R (.ret (.bool true)) h'
   | .ret=> ∀ h',s.h.SetTo l (.loop .done (some .ret) ts nt ps assign body m) h'→R (.ret (.bool false)) h'
   | .exit id=> ∀ h',s.h.SetTo l (.loop .done (some (.exit id)) ts nt ps assign body m) h'→R (.ret (.bool false)) h'
   | .goto t=> ∀ h',s.h.SetTo l (.loop .done (some (.goto t)) ts nt ps assign body m) h'→R (.ret (.bool false)) h'
   | .panic _=>False
section rules
variable{P:Program}{r:Option Nat}{s:St}{Q:AExit→St→Prop}
theorem HRel.putLoop{ρ:Ren}{h:AH}{w:World}{l:Nat}{st st':LoopState}{pd pd':Option Code}{ts:List (Nat×AV)}{nt:Nat}{ps:Array Tmp}{assign body:Code}{m:Nat}
 (hr:HRel ρ h w)(hg:h.get l=some (.loop st pd ts nt ps assign body m)):
 ∃ fn tmps,q2e ρ ts nt tmps∧w.heap[ρ.blk l]?=some (.loop {state:=st,pending:=pd,fn,tmps,params:=ps,assign,body,defers:=ρ.blk m})∧
   HRel ρ (h.set l (.loop st' pd' ts nt ps assign body m)) (w.putObj (ρ.blk l) (.loop {state:=st',pending:=pd',fn,tmps,params:=ps,assign,body,defers:=ρ.blk m}))∧
   Fr ρ h w ρ (h.set l (.loop st' pd' ts nt ps assign body m)) (w.putObj (ρ.blk l) (.loop {state:=st',pending:=pd',fn,tmps,params:=ps,assign,body,defers:=ρ.blk m})):=by
 obtain⟨h0,fn,tmps,hsr,hb⟩:=hr.1 l _ hg;have hlt:=(zch.1 hb).1
 exact⟨fn,tmps,hsr,hb,HRel.setBlk hr hg rfl (fun B hB=>World.putObj_heap_other hB) ⟨h0,fn,tmps,hsr,World.putObj_heap_same hlt⟩,
  Fr.setBlk hg rfl ⟨rfl,rfl,rfl⟩ (by simp) (fun B hB=>World.putObj_heap_other hB)⟩
theorem qgu{l m nt:Nat}{ts:List (Nat×AV)}{ps:Array Tmp}{assign body:Code}{pd:Option Code}{args:List AV}{h:AH}{R:AEnd→AH→Prop}
 (hg:h.get l=some (.loop .ready pd ts nt ps assign body m))(hlen:ps.size=args.length)(hps:∀ k∈ps.toList,k<nt)
 (hA:J P (some l) assign ⟨q4s ps.toList args ts,h,nt,[]⟩ (Then (fun s1=> ∃ pd1 ts1 nt1 ps1 as1 bd1 m1,s1.h.get l=some (.loop .ready pd1 ts1 nt1 ps1 as1 bd1 m1)∧
   ∀ h2,s1.h.SetTo l (.loop .busy pd1 ts1 nt1 ps1 as1 bd1 m1) h2→J P (some l) body ⟨s1.slots,h2,s1.n,s1.defs⟩ (qzl l R)) (fun _ _=>False))):
 JApp P (.yield l) args h R:=by
 intro hw h1 h2
 have hsupts:∀ k v,lk ts k=some v→v.sup≤h.next:=fun k v hk=>by
  have:=(hw l _ hg).2;simp only[Chunk.sup]at this;exact zbo (qyc (zbi _) hk) (by omega)
 obtain⟨e1,s1,w1,_,n1,hq1,hx1⟩:=hA ⟨qfy hsupts h2,hw,zbl _⟩ (by have:=(hw l _ hg).1; simp only[rsup]; omega)
 cases e1 with
 | exit id=>exact hq1.elim
 | goto t=>exact hq1.elim
 | ret=>exact hq1.elim
 | panic v=>exact hq1.elim
 | normal=>
 obtain⟨pd1,ts1,nt1,ps1,as1,bd1,m1,hg1,hB⟩:=hq1;have hl1:=(w1.2.1 l _ hg1);have hset:(s1.h.set l (.loop .busy pd1 ts1 nt1 ps1 as1 bd1 m1)).wf:=AH.za5 w1.2.1 hl1.1 (by have:=hl1.2; simpa only[Chunk.sup]using this)
 obtain⟨e2,s2,w2,_,n2,hq2,hx2⟩:=hB _ (AH.za4 _ _ _) ⟨w1.1,hset,w1.2.2⟩ (by have:=hl1.1; simp only[rsup,AH.set]; omega)
 obtain⟨pd2,ts2,nt2,ps2,as2,bd2,m2,hg2,hfin⟩:=hq2;have hl2:=(w2.2.1 l _ hg2);have hlv:l<h.next:=(hw l _ hg).1
 have run:∀ (jump:Option Code),(∀ ρ':Ren,(e2.conc ρ'= .normal∧jump=none∨e2.conc ρ'= .ret∧jump=some .ret∨(∃ id,e2.conc ρ'= .exit id∧jump=some (.exit id))∨(∃ t,e2.conc ρ'= .goto t∧jump=some (.goto t))))→
  ∀ ρ w n,HRel ρ h w→qky n P (Rend ρ h w (.ret (.bool jump.isNone)) (s2.h.set l (.loop (if jump.isNone then .ready else .done) jump ts2 nt2 ps2 as2 bd2 m2)))
    ((do let d ←Deferred.ofValue (conc ρ (.yield l)) (q04 ρ args).toArray; invoke d.target d.args).run P w):=by
  intro jump hj ρ w n hr;obtain⟨fn,tmps,hsr,hb,_,_⟩:=hr.putLoop (st':= .ready) (pd':=pd) hg;have hy:=run_yield (P:=P) (args:=(q04 ρ args).toArray) hb (by simp[hlen])
  simp only[conc,Deferred.ofValue,zbx,zby,zbk,invoke,List.append_toArray,List.nil_append];rw[hy];simp only[qky]
  have hz:(ps.zip (q04 ρ args).toArray).foldl (fun tmps (t,a)=>tmps.setIfInBounds t a) tmps=(ps.toList.zip (q04 ρ args)).foldl (fun t (k,v)=>t.setIfInBounds k v) tmps:=by
   rw[←Array.toArray_toList (xs:=ps),List.zip_toArray,List.foldl_toArray]
  have hrel0:Rel ρ ⟨q4s ps.toList args ts,h,nt,[]⟩ {tmps:=(ps.toList.zip (q04 ρ args)).foldl (fun t (k,v)=>t.setIfInBounds k v) tmps,defers:=[]} w:=
   ⟨qfx hsr hps (by simpa using hlen),rfl,hr⟩
  refine roundIn_of_wpIn (F:=Fence.wide) trivial ?_;rw[hz];refine wpIn_mono (hx1 ρ _ w n hrel0) ?_;rintro e' a1 wa ⟨ρ1,rfl,k1,k2⟩;obtain⟨fn1,tmps1,hsr1,hb1,hr1,hf1⟩:=k1.2.2.putLoop (st':= .busy) (pd':=pd1) hg1;have eb:ρ1.blk l=ρ.blk l:=(k2.2.2.2.2.1 l hlv).1;refine⟨_,run_beginRound (by rw[←eb]; exact hb1) rfl,?_⟩
  have efen:Fence.wide.inRound (ρ.blk l)=fen ρ1 (some l):=by simp only[fen,zbp,eb]; rfl
  rw[efen,←eb];refine wpIn_mono (hx2 ρ1 a1 _ n ⟨k1.1,k1.2.1,hr1⟩) ?_;rintro e3 a3 w3 ⟨ρ2,rfl,q1,q2⟩;obtain⟨fn2,tmps2,hsr2,hb2,hr2,hf2⟩:=q1.2.2.putLoop (st':=if jump.isNone then .ready else .done) (pd':=jump) hg2
  have hlv1:l<(s1.h.set l (.loop .busy pd1 ts1 nt1 ps1 as1 bd1 m1)).next:=hl1.1;have eb2:ρ2.blk l=ρ1.blk l:=(q2.2.2.2.2.1 l hlv1).1;have hend:=run_endRound (P:=P) jump (l:=ρ1.blk l) (by rw[←eb2]; exact hb2)
  have hfr:Fr ρ h w ρ2 (s2.h.set l (.loop (if jump.isNone then .ready else .done) jump ts2 nt2 ps2 as2 bd2 m2)) (w3.putObj (ρ2.blk l) (.loop {state:=if jump.isNone then .ready else .done,pending:=jump,fn:=fn2,tmps:=tmps2,params:=ps2,assign:=as2,body:=bd2,defers:=ρ2.blk m2})):=
   (k2.trans hf1).trans (q2.trans hf2)
  have hR:Rend ρ h w (.ret (.bool jump.isNone)) (s2.h.set l (.loop (if jump.isNone then .ready else .done) jump ts2 nt2 ps2 as2 bd2 m2)) (.returned (.bool jump.isNone))
   (w3.putObj (ρ1.blk l) (.loop {state:=if jump.isNone then .ready else .done,pending:=jump,fn:=fn2,tmps:=tmps2,params:=ps2,assign:=as2,body:=bd2,defers:=ρ2.blk m2})):=by
   rw[←eb2]; exact⟨ρ2,rfl,hr2,hfr⟩
  rcases hj ρ2 with⟨c1,c2⟩ | ⟨c1,c2⟩ | ⟨id,c1,c2⟩ | ⟨t,c1,c2⟩<;>rw[c1]<;>subst c2<;>exact⟨_,_,hend,hR⟩
 have wfS:∀ st jump,(s2.h.set l (.loop st jump ts2 nt2 ps2 as2 bd2 m2)).wf:=fun st jump=>AH.za5 w2.2.1 hl2.1 (by have:=hl2.2; simpa only[Chunk.sup]using this)
 have nxt:∀ st jump,h.next≤(s2.h.set l (.loop st jump ts2 nt2 ps2 as2 bd2 m2)).next:=fun _ _=>by
  have a1:h.next≤s1.h.next:=n1;have a2:s1.h.next≤s2.h.next:=n2;exact zbo a1 a2
 cases e2 with
 | normal=>exact⟨.ret (.bool true),_,wfS _ _,zbl _,nxt _ _,hfin _ (AH.za4 _ _ _),fun ρ w n hr=>run none (fun _=> .inl ⟨rfl,rfl⟩) ρ w n hr⟩
 | ret=>exact⟨.ret (.bool false),_,wfS _ _,zbl _,nxt _ _,hfin _ (AH.za4 _ _ _),fun ρ w n hr=>run (some .ret) (fun _=> .inr (.inl ⟨rfl,rfl⟩)) ρ w n hr⟩
 | exit id=>exact⟨.ret (.bool false),_,wfS _ _,zbl _,nxt _ _,hfin _ (AH.za4 _ _ _),fun ρ w n hr=>run (some (.exit id)) (fun _=> .inr (.inr (.inl ⟨id,rfl,rfl⟩))) ρ w n hr⟩
 | goto t=>exact⟨.ret (.bool false),_,wfS _ _,zbl _,nxt _ _,hfin _ (AH.za4 _ _ _),fun ρ w n hr=>run (some (.goto t)) (fun _=> .inr (.inr (.inr ⟨t,rfl,rfl⟩))) ρ w n hr⟩
 | panic v=>exact hfin.elim
def AH.drop(h:AH)(id:Nat):AH:=⟨h.next,fun i=>if i=id then none else h.get i⟩
theorem AH.za1{h:AH}{id:Nat}(hw:h.wf):(h.drop id).wf:=fun i c hg=>by
 simp only[AH.drop]at hg;split at hg
 · simp at hg
 · exact hw i c hg
def q4y(P:Program)(r:Option Nat)(l:Nat)(marks:List ADef)(s:St)(Q:AExit→St→Prop):AEnd→AH→Prop
 | .ret _,h2=> ∃ st pd ts nt ps assign body m,h2.get l=some (.loop st pd ts nt ps assign body m)∧st≠ .busy∧
    (match pd with
     | none=>Q .normal ⟨s.slots,h2.drop l,s.n,marks++s.defs⟩
     | some c=>J P r c ⟨s.slots,h2.drop l,s.n,marks++s.defs⟩ Q)
 | .panic v,h2=>Q (.panic v) ⟨s.slots,h2,s.n,marks++s.defs⟩
theorem HRel.drop{ρ:Ren}{h:AH}{w w':World}{id:Nat}{c:Chunk}(hr:HRel ρ h w)(hg:h.get id=some c)(hc:c.isRo=false)
 (hb:∀ B,B≠ρ.blk id→w'.heap[B]?=w.heap[B]?):HRel ρ (h.drop id) w':=by
 refine⟨fun j cj hj=>?_,fun i j ci cj hne hi hj hro=>?_⟩
 · simp only[AH.drop]at hj
   split at hj
   · simp at hj
   · rename_i e
     exact(hr.1 j cj hj).congr (hb _ (Ne.symm (hr.2 id j c cj (Ne.symm e) hg hj hc)))
 · simp only[AH.drop]at hi hj
   split at hi
   · simp at hi
   · split at hj
     · simp at hj
     · exact hr.2 i j ci cj hne hi hj hro
theorem Fr.drop{ρ:Ren}{h:AH}{w w':World}{id:Nat}{c:Chunk}(hg:h.get id=some c)(hc:c.isRo=false)(ho:w'.os=w.os∧w'.tape=w.tape∧w'.output=w.output)
 (hsz:w.heap.size≤w'.heap.size)(hb:∀ B,B≠ρ.blk id→w'.heap[B]?=w.heap[B]?):Fr ρ h w ρ (h.drop id) w':=by
 refine⟨ho,hsz,fun B _ hno=>hb B fun e=>hno id c hg hc e.symm,fun j cj hj=> .inr ?_,.refl _ _,zbi _⟩
 simp only[AH.drop]at hj;split at hj
 · simp at hj
 · exact⟨j,cj,hj,fun h=>h,rfl⟩
theorem qub{c:Code}{f:Operand}{ps:Array Tmp}{assign body:Code}{fid:FuncId}{fn:Func}{cb:Code}{first cap:List AV}{l:Nat}{h1:AH}{marks:List ADef}
 (hc:c= .rangeFunc f ps assign body)(hx:ev s.slots f=some (.fn (.func fid) first cap))(hf:IsFn P fid fn cb)
 (hw1:s.wf→h1.wf∧s.h.next≤h1.next∧l<h1.next∧supD marks≤h1.next)
 (hent:s.wf→ ∀ ρ a w fn,Rel ρ s a w→ ∃ ρ1 w1,(Instr.enterLoop fn a.tmps ps assign body (r.map ρ.blk)).run P w= .ok (ρ1.blk l,marks.map (q6t ρ1)) w1∧HRel ρ1 h1 w1∧Fr ρ s.h w ρ1 h1 w1)
 (hcall:q0n P fid (first++[.yield l]++cap) h1 (q4y P r l marks s Q)):J P r c s Q:=by
 subst hc;intro hw hr;obtain⟨a1,a2,a3,a4⟩:=hw1 hw;have hs0:max (supL first) (supL cap)≤s.h.next:=q1i hw hx
 obtain⟨e,h2,b1,b2,b3,hq,hrun⟩:=hcall a1 (by rw[q1r,q1r]; simp only[supL,AV.sup]; omega)
 have conc_part:∀ ρ a w n (Q':Exit→Act→World→Prop),Rel ρ s a w→
  (∀ ρ1 w1 ρ2 w2,HRel ρ1 h1 w1→Fr ρ s.h w ρ1 h1 w1→HRel ρ2 h2 w2→Fr ρ1 h1 w1 ρ2 h2 w2→rangePost (fen ρ r) n P (ρ1.blk l) Q' {a with defers:=marks.map (q6t ρ1)++a.defers} (e.conc ρ2) w2)→
  (Code.rangeFunc f ps assign body).wpIn (fen ρ r) n P Q' a w:=by
  intro ρ a w n Q' hrel hk;refine wpIn_rangeFunc fun fn' _=>?_
  obtain⟨ρ1,w1,e1,e2,e3⟩:=hent hw ρ a w fn' hrel
  have hfv:a.eval f= .func (.func fid) (q04 ρ1 first).toArray (q04 ρ1 cap).toArray:=by
   rw[q03 hrel hx];simp only[conc,q0u e3.2.2.2.2.1 first (by omega),q0u e3.2.2.2.2.1 cap (by omega)]
  refine⟨ρ1.blk l,marks.map (q6t ρ1),w1,{target:= .fn (.func fid) (q04 ρ1 cap).toArray,args:=(q04 ρ1 first).toArray++ #[.func (.yield (ρ1.blk l)) #[] #[]]},w1,fid,(q04 ρ1 (first++[.yield l]++cap)).toArray,w1,e1,?_,fun _ _=>trivial,?_,fun h=>by simp[fen,Fence.wide]at h,?_⟩
  · have e0:(#[Operand.const (.func (.yield (ρ1.blk l)) #[] #[])].map a.eval:Array Value)= #[.func (.yield (ρ1.blk l)) #[] #[]]:=by simp[Act.eval]
    simp only[resolve,e0,hfv,Deferred.ofValue,zby]
  · simp only[invoke]
    rw[qcq hf];simp[conc,q52]
  · refine(show CallsIn (fen ρ r) _ _ _ _ _ _ from hrun ρ1 w1 (n - 1) e2).mono ?_
    rintro e' w2 ⟨ρ2,rfl,k1,k2⟩;exact hk ρ1 w1 ρ2 w2 e2 e3 k1 k2
 cases e with
 | panic v=>
   refine⟨.panic v,⟨s.slots,h2,s.n,marks++s.defs⟩,⟨fun k u hk=>zbo (hw.1 k u hk) (zbo a2 b3),b1,?_⟩,b2,by show s.h.next≤h2.next; omega,hq,fun ρ a w n hrel=>conc_part ρ a w n _ hrel ?_⟩
   · have:∀ l1 l2:List ADef,supD (l1++l2)=max (supD l1) (supD l2):=by
      intro l1 l2; induction l1 with
      | nil=>simp[supD]
      | cons x xs ih=>simp only[List.cons_append,supD,ih]; omega
     show supD (marks++s.defs)≤h2.next;have h3:supD s.defs≤s.h.next:=hw.2.2;rw[this]; omega
   · intro ρ1 w1 ρ2 w2 k1 k2 k3 k4
     show Out ρ s w (.panic v) ⟨s.slots,h2,s.n,marks++s.defs⟩ _ _ _;refine⟨ρ2,rfl,⟨q0v (q0v hrel.1 k2.2.2.2.2.1 hw.1) k4.2.2.2.2.1 (fun k u hk=>zbo (hw.1 k u hk) a2),?_,k3⟩,k2.trans k4⟩
     show marks.map (q6t ρ1)++a.defers=(marks++s.defs).map (q6t ρ2);rw[List.map_append,q24 k4.2.2.2.2.1 marks a4,hrel.2.1,q24 k4.2.2.2.2.1 s.defs (zbo hw.2.2 a2),q24 k2.2.2.2.2.1 s.defs hw.2.2]
 | ret v=>
   obtain⟨st,pd,ts,nt,ps2,as2,bd2,m2,hg2,hst,hq⟩:=hq
   have supDa:∀ l1 l2:List ADef,supD (l1++l2)=max (supD l1) (supD l2):=by
    intro l1 l2; induction l1 with
    | nil=>simp[supD]
    | cons x xs ih=>simp only[List.cons_append,supD,ih]; omega
   have hwS:St.wf ⟨s.slots,h2.drop l,s.n,marks++s.defs⟩:=by
    refine⟨fun k u hk=>zbo (hw.1 k u hk) (show s.h.next≤h2.next by omega),AH.za1 b1,?_⟩
    show supD (marks++s.defs)≤h2.next;have h3:supD s.defs≤s.h.next:=hw.2.2;rw[supDa]; omega
   have hrelS:∀ ρ a w ρ1 w1 ρ2 w2,Rel ρ s a w→HRel ρ1 h1 w1→Fr ρ s.h w ρ1 h1 w1→HRel ρ2 h2 w2→Fr ρ1 h1 w1 ρ2 h2 w2→
    ∃ w4,(Instr.endLoop (ρ1.blk l)).run P w2= .ok pd w4∧Rel ρ2 ⟨s.slots,h2.drop l,s.n,marks++s.defs⟩ {a with defers:=marks.map (q6t ρ1)++a.defers} w4∧Fr ρ s.h w ρ2 (h2.drop l) w4:=by
    intro ρ a w ρ1 w1 ρ2 w2 hrel k1 k2 k3 k4;obtain⟨fn2,tmps2,hsr2,hb2,_,_⟩:=k3.putLoop (st':= .exhausted) (pd':=pd) hg2;have eb:ρ2.blk l=ρ1.blk l:=(k4.2.2.2.2.1 l a3).1
    refine⟨_,by rw[←eb]; exact run_endLoop hb2 hst,⟨q0v (q0v hrel.1 k2.2.2.2.2.1 hw.1) k4.2.2.2.2.1 (fun k u hk=>zbo (hw.1 k u hk) a2),?_,HRel.drop k3 hg2 rfl (fun B hB=>World.putObj_heap_other hB)⟩,
     (k2.trans k4).trans (Fr.drop hg2 rfl ⟨rfl,rfl,rfl⟩ (by simp) (fun B hB=>World.putObj_heap_other hB))⟩
    show marks.map (q6t ρ1)++a.defers=(marks++s.defs).map (q6t ρ2);rw[List.map_append,q24 k4.2.2.2.2.1 marks a4,hrel.2.1,q24 k4.2.2.2.2.1 s.defs (zbo hw.2.2 a2),q24 k2.2.2.2.2.1 s.defs hw.2.2]
   cases pd with
   | none=>
     refine⟨.normal,_,hwS,zbl _,by show s.h.next≤h2.next; omega,hq,fun ρ a w n hrel=>conc_part ρ a w n _ hrel fun ρ1 w1 ρ2 w2 k1 k2 k3 k4=>?_⟩
     obtain⟨w4,m1,m2,m3⟩:=hrelS ρ a w ρ1 w1 ρ2 w2 hrel k1 k2 k3 k4;exact⟨none,w4,m1,ρ2,rfl,m2,m3⟩
   | some c2=>
     obtain⟨e3,s3,c1,c2',c3,hq3,hx3⟩:=hq hwS (by have:s.h.next≤(h2.drop l).next:=(show s.h.next≤h2.next by omega); show rsup r≤(h2.drop l).next; omega)
     refine⟨e3,s3,c1,c2',by have:h2.next≤s3.h.next:=c3; omega,hq3,fun ρ a w n hrel=>conc_part ρ a w n _ hrel fun ρ1 w1 ρ2 w2 k1 k2 k3 k4=>?_⟩
     obtain⟨w4,m1,m2,m3⟩:=hrelS ρ a w ρ1 w1 ρ2 w2 hrel k1 k2 k3 k4;refine⟨some c2,w4,m1,?_⟩;have hf2:=q94 m3.2.2.2.2.1 (r:=r) hr;show c2.wpIn (fen ρ r) n P _ _ w4;rw[←hf2];refine wpIn_mono (hx3 ρ2 _ w4 n m2) ?_;rintro e4 a4' w5 ⟨ρ3,q1,q2,q3⟩;exact⟨ρ3,q1,q2,m3.trans q3⟩
structure Entered(h:AH)(m l:Nat)(c:Chunk)(h1:AH):Prop where
 isM:m=h.next
 isL:l=m+1
 next:h1.next=m+2
 mark:h1.get m=some .mark
 loop:h1.get l=some c
 old:∀ j,j<m→h1.get j=h.get j
theorem AH.add_get{h:AH}{c:Chunk}{j:Nat}(hj:j<h.next):(h.add c).get j=h.get j:=by
 simp only[AH.add]; rw[if_neg (by omega)]
theorem SubL.sup{sl' sl:List (Nat×AV)}{n:Nat}(h:SubL sl' sl)(hw:∀ k v,J.lk sl k=some v→v.sup≤n):supT sl'≤n:=by
 induction sl' with
 | nil=>exact zbl _
 | cons kv r ih=>
   obtain⟨h1,h2⟩:=h;have:=hw _ _ h1;have:=ih h2;simp only[supT]; omega
theorem q8o{c:Code}{f:Operand}{ps:Array Tmp}{assign body:Code}{fid:FuncId}{fn:Func}{cb:Code}{first cap:List AV}{sl':List (Nat×AV)}
 (hc:c= .rangeFunc f ps assign body)(hx:ev s.slots f=some (.fn (.func fid) first cap))(hf:IsFn P fid fn cb)(hsub:SubL sl' s.slots)
 (hcall:q0n P fid (first++[.yield (s.h.next+1)]++cap) ((s.h.add .mark).add (.loop .ready none sl' s.n ps assign body s.h.next)) (q4y P none (s.h.next+1) [.mark s.h.next] s Q)):J P none c s Q:=by
 let h0:AH:=s.h.add .mark
 let h1:AH:=h0.add (.loop .ready none sl' s.n ps assign body s.h.next)
 have n0:h0.next=s.h.next+1:=rfl;have g0:h0.get s.h.next=some .mark:=by simp[h0,AH.add]
 have hwf1:s.wf→h0.wf:=fun hw=>AH.z9x hw.2.1 (by simp[Chunk.sup])
 refine qub (marks:=[.mark s.h.next]) hc hx hf (fun hw=>⟨AH.z9x (hwf1 hw) ?_,by show s.h.next≤s.h.next+1+1; omega,by show s.h.next+1<s.h.next+1+1; omega,by simp only[supD,ADef.sup]; show max (s.h.next+1) 0≤s.h.next+1+1; omega⟩) (fun hw ρ a w fn' hrel=>?_) hcall
 · have:=hsub.sup hw.1
   simp only[Chunk.sup]; omega
 · let ρ0:=ρ.plus s.h.next w.heap.size 0
   let w0:World:={w with heap:=w.heap.push (.deferred (some []))}
   have e0:ρ0.blk s.h.next=w.heap.size:=by simp[ρ0,Ren.plus]
   have hr0:HRel ρ0 h0 w0:=HRel.addBlk (dr:=w.drawn) hrel.2.2 hw.2.1 ⟨by simp[Ren.plus],by simp[Ren.plus]⟩
   have hf0:Fr ρ s.h w ρ0 h0 w0:=Fr.addBlk (dr:=w.drawn) hw.2.1;have sz0:w0.heap.size=w.heap.size+1:=by simp[w0]
   let ob:Obj:= .loop {state:= .ready,pending:=none,fn:=fn',tmps:=a.tmps,params:=ps,assign,body,defers:=w.heap.size}
   have hsr:q2e ρ sl' s.n a.tmps:=⟨hrel.1.1,fun k v hk=>hrel.1.2 k v (hsub.lk hk)⟩
   have hsr':q2e (ρ0.plus h0.next w0.heap.size 0) sl' s.n a.tmps:=q0v (q0v hsr hf0.2.2.2.2.1 (fun k v hk=>hw.1 k v (hsub.lk hk))) (ρ0.plus_ext _ _ _) (fun k v hk=>zbo (hw.1 k v (hsub.lk hk)) (by omega))
   have hbm:(ρ0.plus h0.next w0.heap.size 0).blk s.h.next=w.heap.size:=by
    have:=(ρ0.plus_ext h0.next w0.heap.size 0 s.h.next (by omega)).1
    rw[this,e0]
   have hr1:HRel (ρ0.plus h0.next w0.heap.size 0) h1 {w0 with heap:=w0.heap.push ob}:=HRel.addBlk (dr:=w0.drawn) hr0 (hwf1 hw) ⟨by simp[Ren.plus],fn',a.tmps,hsr',by rw[hbm]; simp[Ren.plus,ob]⟩
   have hf1:Fr ρ0 h0 w0 (ρ0.plus h0.next w0.heap.size 0) h1 {w0 with heap:=w0.heap.push ob}:=Fr.addBlk (dr:=w0.drawn) (hwf1 hw);refine⟨_,_,?_,hr1,hf0.trans hf1⟩;have:=run_enterLoop_outer (P:=P) (w:=w) fn' a.tmps ps assign body;rw[show(Option.map ρ.blk none:Option Nat)=none from rfl,this];have e1:(ρ0.plus h0.next w0.heap.size 0).blk (s.h.next+1)=w.heap.size+1:=by simp[Ren.plus,n0,sz0]
   simp only[zc3,List.map_nil,q6t,hbm,e1];rfl
theorem qip{c:Code}{f:Operand}{ps:Array Tmp}{assign body:Code}{fid:FuncId}{fn:Func}{cb:Code}{first cap:List AV}{sl':List (Nat×AV)}
 (hc:c= .rangeFunc f ps assign body)(hx:ev s.slots f=some (.fn (.func fid) first cap))(hf:IsFn P fid fn cb)(hsub:SubL sl' s.slots)
 (hcall:∀ m l h1,Entered s.h m l (.loop .ready none sl' s.n ps assign body m) h1→q0n P fid (first++[.yield l]++cap) h1 (q4y P none l [.mark m] s Q)):J P none c s Q:=by
 let h0:AH:=s.h.add .mark
 let h1:AH:=h0.add (.loop .ready none sl' s.n ps assign body s.h.next)
 have g0:h0.get s.h.next=some .mark:=by simp[h0,AH.add]
 have n0:h0.next=s.h.next+1:=rfl
 have hent1:Entered s.h s.h.next (s.h.next+1) (.loop .ready none sl' s.n ps assign body s.h.next) h1:=
  ⟨rfl,rfl,rfl,(AH.add_get (by omega)).trans g0,(AH.z9w h0 _).new,fun j hj=>(AH.add_get (by omega)).trans (AH.add_get hj)⟩
 exact q8o hc hx hf hsub (hcall _ _ h1 hent1)
theorem q9n{c:Code}{f:Operand}{ps:Array Tmp}{assign body:Code}{fid:FuncId}{fn:Func}{cb:Code}{first cap:List AV}{sl':List (Nat×AV)}{l0 m0 nt0:Nat}{st0:LoopState}{pd0:Option Code}{ts0:List (Nat×AV)}{ps0:Array Tmp}{as0 bd0:Code}
 (hc:c= .rangeFunc f ps assign body)(hx:ev s.slots f=some (.fn (.func fid) first cap))(hf:IsFn P fid fn cb)(hsub:SubL sl' s.slots)
 (hg:s.h.get l0=some (.loop st0 pd0 ts0 nt0 ps0 as0 bd0 m0))
 (hcall:∀ l h1,s.h.AddTo l (.loop .ready none sl' s.n ps assign body m0) h1→q0n P fid (first++[.yield l]++cap) h1 (q4y P (some l0) l [] s Q)):J P (some l0) c s Q:=by
 let h1:AH:=s.h.add (.loop .ready none sl' s.n ps assign body m0)
 have hm0:s.wf→m0+1≤s.h.next:=fun hw=>by have:=(hw.2.1 l0 _ hg).2; simp only[Chunk.sup]at this; omega
 refine qub (marks:=[]) hc hx hf (fun hw=>⟨AH.z9x hw.2.1 ?_,by show s.h.next≤s.h.next+1; omega,by show s.h.next<s.h.next+1; omega,zbl _⟩) (fun hw ρ a w fn' hrel=>?_) (hcall _ h1 (AH.z9w _ _))
 · have:=hsub.sup hw.1
   have:=hm0 hw;simp only[Chunk.sup]; omega
 · obtain⟨_,fn0,tmps0,_,hb0⟩:=hrel.2.2.1 l0 _ hg
   let ob:Obj:= .loop {state:= .ready,pending:=none,fn:=fn',tmps:=a.tmps,params:=ps,assign,body,defers:=ρ.blk m0}
   have hsr:q2e ρ sl' s.n a.tmps:=⟨hrel.1.1,fun k v hk=>hrel.1.2 k v (hsub.lk hk)⟩
   have hsr':q2e (ρ.plus s.h.next w.heap.size 0) sl' s.n a.tmps:=q0v hsr (ρ.plus_ext _ _ _) (fun k v hk=>hw.1 k v (hsub.lk hk))
   have hbm:(ρ.plus s.h.next w.heap.size 0).blk m0=ρ.blk m0:=(ρ.plus_ext s.h.next w.heap.size 0 m0 (hm0 hw)).1;have hr1:HRel (ρ.plus s.h.next w.heap.size 0) h1 {w with heap:=w.heap.push ob}:=HRel.addBlk (dr:=w.drawn) hrel.2.2 hw.2.1 ⟨by simp[Ren.plus],fn',a.tmps,hsr',by rw[hbm]; simp[Ren.plus,ob]⟩
   refine⟨_,_,?_,hr1,Fr.addBlk (dr:=w.drawn) hw.2.1⟩;have e1:(ρ.plus s.h.next w.heap.size 0).blk s.h.next=w.heap.size:=by simp[Ren.plus]
   rw[e1];simp[Instr.enterLoop,run_getLoop hb0,ob]
end rules
def mrgX(x:Nat)(f:List Nat→List Nat):List Nat→List Nat
 | []=>x :: f []
 | y :: b=>match Nat.beq x y with
   | true=>x :: f b
   | false=>match Nat.blt y x with
     | true=>x :: f (y :: b)
     | false=>y :: mrgX x f b
def mrg:List Nat→List Nat→List Nat
 | [],b=>b
 | x :: a,b=>mrgX x (mrg a) b
theorem mem_mrgX{x i:Nat}{f:List Nat→List Nat}{a:List Nat}(hf:∀ b,i∈f b↔i∈a∨i∈b):∀ {b:List Nat},i∈mrgX x f b↔i=x∨i∈a∨i∈b
 | []=>by simp only[mrgX,zbm,hf]
 | y :: b=>by
   simp only[mrgX];split
   · rename_i h
     have:=zbg h;subst this;simp only[zbm,hf];constructor
     · rintro(h | h | h)
       · exact .inl h
       · exact .inr (.inl h)
       · exact .inr (.inr (.inr h))
     · rintro(h | h | h | h)
       · exact .inl h
       · exact .inr (.inl h)
       · exact .inl h
       · exact .inr (.inr h)
   · split
     · simp only[zbm,hf]
     · simp only[zbm,mem_mrgX hf]
       constructor
       · rintro(h | h | h | h)
         · exact .inr (.inr (.inl h))
         · exact .inl h
         · exact .inr (.inl h)
         · exact .inr (.inr (.inr h))
       · rintro(h | h | h | h)
         · exact .inr (.inl h)
         · exact .inr (.inr (.inl h))
         · exact .inl h
         · exact .inr (.inr (.inr h))
theorem mem_mrg{i:Nat}:∀ {a b:List Nat},i∈mrg a b↔i∈a∨i∈b
 | [],b=>by simp[mrg]
 | x :: a,b=>by
   show i∈mrgX x (mrg a) b↔_;rw[mem_mrgX (a:=a) (fun b=>mem_mrg),zbm,or_assoc]
def befU(acc:List (List Nat)):List Edge→List Nat
 | []=>[]
 | e :: r=>match Region.binds .any e with
   | true=>mrg (e.on :: acc.getD e.on []) (befU acc r)
   | false=>befU acc r
theorem befU_flat{acc:List (List Nat)}{i:Nat}:∀ {l:List Edge},i∈befU acc l↔i∈l.flatMap fun e=>if Region.binds .any e then e.on :: acc.getD e.on [] else[]
 | []=>by simp[befU]
 | e :: r=>by
   simp only[befU,List.flatMap_cons,zbr];rw[←befU_flat (l:=r)];split
   · rename_i hb; rw[mem_mrg,if_pos hb]
   · rename_i hb; rw[if_neg (by rw[hb]; exact Bool.false_ne_true)]; simp
theorem mem_befU{acc:List (List Nat)}{i:Nat}{l:List Edge}(h:i∈befU acc l):∃ e∈l,Region.binds .any e=true∧i∈e.on :: acc.getD e.on []:=by
 rw[befU_flat,List.mem_flatMap]at h;obtain⟨e,he,h⟩:=h;split at h
 · exact⟨e,he,by assumption,h⟩
 · cases h
def qgi:List Oper→List (List Nat)→List (List Nat)
 | [],acc=>acc
 | o :: r,acc=>qgi r (acc++[befU acc o.after.toList])
def befs(ops:Array Oper):List (List Nat):=qgi ops.toList []
def isL(listed:Array Bool)(i:Nat):Prop:=listed.getD i false=true
def qsm(ops:Array Oper)(listed:Array Bool):Prop:= ∀ i o,ops[i]?=some o→isL listed i→ ∀ e∈o.after,Region.binds .any e=true→isL listed e.on
theorem ql4:∀ (r:List Oper) (acc:List (List Nat)),(qgi r acc).length=acc.length+r.length
 | [],acc=>by simp[qgi]
 | o :: r,acc=>by simp only[qgi]; rw[ql4 r]; simp; omega
theorem qgz{ops:Array Oper}{listed:Array Bool}(hd:qsm ops listed):∀ (r:List Oper) (acc:List (List Nat)) (pre:List Oper),pre.length=acc.length→ops.toList=pre++r→
 (∀ i o,i<acc.length→ops[i]?=some o→(∀ e∈o.after,Region.binds .any e=true→isL listed e.on)→ ∀ b∈acc.getD i [],isL listed b)→
 ∀ i o,ops[i]?=some o→(∀ e∈o.after,Region.binds .any e=true→isL listed e.on)→ ∀ b∈(qgi r acc).getD i [],isL listed b
 | [],acc,pre,hp,hr,ha,i,o,ho,hafter=>by
   simp only[qgi]
   by_cases hi:i<acc.length
   · exact ha i o hi ho hafter
   · intro b hb
     rw[List.getD_eq_getElem?_getD,List.getElem?_eq_none (by omega)]at hb
     simp at hb
 | o' :: r,acc,pre,hp,hr,ha,i,o,ho,hafter=>by
   simp only[qgi];have hsz:ops.size=pre.length+(r.length+1):=by rw[←Array.length_toList,hr]; simp
   have hget:ops[acc.length]?=some o':=by
    rw[←Array.getElem?_toList,hr,←hp,zcl (zbi _)];simp
   refine qgz hd r _ (pre++[o']) (by simp[hp]) (by rw[hr]; simp) ?_ i o ho hafter
   · intro q oq hq hoq haq b hb
     by_cases hlt:q<acc.length
     · rw[List.getD_eq_getElem?_getD,zck hlt,←List.getD_eq_getElem?_getD]at hb
       exact ha q oq hlt hoq haq b hb
     · have hq':q=acc.length:=by simp at hq; omega
       subst hq';rw[hget]at hoq;cases hoq;rw[List.getD_eq_getElem?_getD,zcl (by omega)]at hb
       simp only[Nat.sub_self,List.getElem?_cons_zero,Option.getD_some]at hb;obtain⟨e,he,hbind,hb⟩:=mem_befU hb;have hl:=haq e (by simpa using he) hbind
       rcases zbm.1 hb with rfl | hb
       · exact hl
       · by_cases hon:e.on<acc.length
         · have:e.on<ops.size:=by omega
           exact ha e.on ops[e.on] hon (Array.getElem?_eq_getElem this) (hd e.on _ (Array.getElem?_eq_getElem this) hl) b hb
         · rw[List.getD_eq_getElem?_getD,List.getElem?_eq_none (by omega)]at hb
           simp at hb
theorem q6z{ops:Array Oper}{listed:Array Bool}(hd:qsm ops listed){i:Nat}{o:Oper}(ho:ops[i]?=some o)(ha:∀ e∈o.after,Region.binds .any e=true→isL listed e.on):
 ∀ b∈(befs ops).getD i [],isL listed b:=
 qgz hd ops.toList [] [] rfl (by simp) (fun _ _ h=>by simp at h) i o ho ha
abbrev Src:=List (Nat×Option Nat)
def q2x(ops:Array Oper)(i t:Nat):Bool:=match(ops[i]?).bind (·.dst)with | some d=>Nat.beq d t | none=>false
def qbz(ops:Array Oper)(bf:List (List Nat))(j:Nat)(s:Nat×Option Nat):Bool:=
 match s.2 with
 | some i=>(bf.getD j []).contains i&&q2x ops i s.1
 | none=>(List.range ops.size).all fun i=>!q2x ops i s.1||Nat.beq i j||(bf.getD i []).contains j
def qgl(ops:Array Oper)(s:Nat×Option Nat):Bool:=
 match s.2 with
 | some i=>q2x ops i s.1
 | none=>(List.range ops.size).all fun i=>!q2x ops i s.1
def q91(bf:List (List Nat)):List Nat→Bool
 | a :: b :: r=>(bf.getD b []).contains a&&q91 bf (b :: r)
 | _=>true
def qi1(ops:Array Oper)(effs:List Nat)(srcs:List Src)(fin:Src):Bool:=
 let bf:=befs ops
 (List.range ops.size).all (fun i=>(List.range ops.size).all fun j=>Nat.beq i j||(match(ops[i]?).bind (·.dst)with | some d=>!q2x ops j d | none=>true))&&
 (List.range ops.size).all (fun j=>(srcs.getD j []).all (qbz ops bf j))&&
 fin.all (qgl ops)&&
 q91 bf effs&&effs.all (· <ops.size)&&
 (List.range ops.size).all (fun j=>match ops[j]? with | some o=>o.after.all (fun e=>!Region.binds .any e||e.on<j) | none=>true)
def q0d(sl0:List (Nat×AV))(vals:List AV):Src→List (Nat×AV)
 | []=>[]
 | (t,some i) :: r=>match vals[i]? with | some v=>(t,v) :: q0d sl0 vals r | none=>q0d sl0 vals r
 | (t,none) :: r=>match lk sl0 t with | some v=>(t,v) :: q0d sl0 vals r | none=>q0d sl0 vals r
def q1d(ops:Array Oper)(o:Oper)(sl:List (Nat×AV)):Option Bool:=
 match o.guard with
 | none=>some true
 | some (j,want)=>match(ops[j]?).bind (·.dst)with
   | some d=>match lk sl d with
     | some (.bool b)=>some (b==want)
     | some (.tuple _)=>some false
     | _=>none
   | none=>none
def OpDo(P:Program)(r:Option Nat)(ops:Array Oper)(o:Oper)(s:St)(h':AH)(v:AV):Prop:=
 (q1d ops o s.slots=some true∧JO P r o s (fun e s'=>e= .normal∧s'.h=h'∧s'.defs=s.defs∧s'.n=s.n∧ ∀ d,o.dst=some d→d<s.n∧lk s'.slots d=some v))∨
 (q1d ops o s.slots=some false∧h'=s.h∧v= .tuple []∧ ∀ d,o.dst=some d→d<s.n)
def loOf(bf:List (List Nat))(j:Nat):Nat→List Nat→Nat
 | _,[]=>0
 | q,e :: r=>if Nat.beq e j then q else if(bf.getD j []).contains e then max (q+1) (loOf bf j (q+1) r) else loOf bf j (q+1) r
def hiOf(bf:List (List Nat))(j:Nat):Nat→List Nat→Nat
 | q,[]=>q
 | q,e :: r=>if Nat.beq e j then q else if(bf.getD e []).contains j then q else hiOf bf j (q+1) r
def qcx(P:Program)(r:Option Nat)(ops:Array Oper)(sl0:List (Nat×AV))(vals:List AV)(srcs:List Src)(effs:List Nat)(hs:Nat→AH)(n:Nat)(ds:List ADef)(bf:List (List Nat)):List Oper→Nat→Prop
 | [],_=>True
 | o :: rest,j=>(∀ k,loOf bf j 0 effs≤k→k≤hiOf bf j 0 effs→ ∃ v,vals[j]?=some v∧OpDo P r ops o ⟨q0d sl0 vals (srcs.getD j []),hs k,n,ds⟩ (if effs.contains j then hs (k+1) else hs k) v)∧
     qcx P r ops sl0 vals srcs effs hs n ds bf rest (j+1)
theorem qcx.get{P:Program}{r:Option Nat}{ops:Array Oper}{sl0:List (Nat×AV)}{vals:List AV}{srcs:List Src}{effs:List Nat}{hs:Nat→AH}{n:Nat}{ds:List ADef}{bf:List (List Nat)}:
 ∀ {l:List Oper} {i:Nat},qcx P r ops sl0 vals srcs effs hs n ds bf l i→ ∀ {j:Nat} {o:Oper},l[j]?=some o→ ∀ k,loOf bf (i+j) 0 effs≤k→k≤hiOf bf (i+j) 0 effs→
   ∃ v,vals[i+j]?=some v∧OpDo P r ops o ⟨q0d sl0 vals (srcs.getD (i+j) []),hs k,n,ds⟩ (if effs.contains (i+j) then hs (k+1) else hs k) v
 | [],_,_,j,o,ho,k,_,_=>by simp at ho
 | x :: l,i,h,0,o,ho,k,h1,h2=>by
   simp only[List.getElem?_cons_zero,zbe]at ho; subst ho;exact h.1 k h1 h2
 | x :: l,i,h,j+1,o,ho,k,h1,h2=>by
   simp only[List.getElem?_cons_succ]at ho;have e:i+(j+1)=(i+1)+j:=by omega
   rw[e]at h1 h2 ⊢;exact qcx.get h.2 ho k h1 h2
section main
variable{P:Program}{r:Option Nat}{ops:Array Oper}{sl0:List (Nat×AV)}{vals:List AV}{srcs:List Src}{effs:List Nat}{fin:Src}{hs:Nat→AH}{n:Nat}{ds:List ADef}
structure Inv(ops:Array Oper)(sl0:List (Nat×AV))(vals:List AV)(effs:List Nat)(listed:Array Bool)(sl:List (Nat×AV))(k:Nat):Prop where
 size:listed.size=ops.size
 down:qsm ops listed
 stage:∀ q e,effs[q]?=some e→(isL listed e↔q<k)
 kle:k≤effs.length
 done:∀ i t v,isL listed i→q2x ops i t=true→vals[i]?=some v→lk sl t=some v
 rest:∀ t v,lk sl0 t=some v→(∀ i,q2x ops i t=true→ ¬ isL listed i)→lk sl t=some v
theorem q46{listed:Array Bool}{i j:Nat}(hj:j<listed.size):isL (listed.setIfInBounds j true) i↔i=j∨isL listed i:=by
 unfold isL
 by_cases e:i=j
 · subst e; simp[hj]
 · simp[Array.getElem?_setIfInBounds_ne (Ne.symm e),e]
theorem qm4{bf:List (List Nat)}{listed:Array Bool}{j:Nat}(hj:¬ isL listed j):∀ (effs:List Nat) (q0 k:Nat),(∀ q e,effs[q]?=some e→(isL listed e↔q0+q<k))→q0≤k→(∀ b∈bf.getD j [],isL listed b)→
 (∀ e∈effs,(∀ b∈bf.getD e [],isL listed e→isL listed b))→k≤q0+effs.length→(∀ q,effs[q]?=some j→q0+q=k)→loOf bf j q0 effs≤k∧k≤hiOf bf j q0 effs
 | [],q0,k,_,h0,_,_,hk,_=>by simp[loOf,hiOf]at *; omega
 | e :: r,q0,k,hst,h0,hb,hdown,hk,hself=>by
   simp only[loOf,hiOf];have h1:=hst 0 e (by simp)
   by_cases c1:Nat.beq e j=true
   · rw[if_pos c1,if_pos c1]
     have ej:e=j:=zbg c1;have:=hself 0 (by simp[ej])
     omega
   · rw[if_neg c1,if_neg c1]
     by_cases hle:q0+1≤k
     · have ih:=qm4 hj r (q0+1) k (fun q e' he=>by have:=hst (q+1) e' (by simpa using he); rw[this]; omega) hle hb (fun e' he'=>hdown e' (by simp[he'])) (by simp at hk; omega)
        (fun q hq=>by have:=hself (q+1) (by simpa using hq); omega)
       have he:isL listed e:=h1.2 (by omega)
       have c2:¬ (bf.getD e []).contains j=true:=fun hc=>hj (hdown e (by simp) j (by simpa using hc) he)
       rw[if_neg c2];split
       · exact⟨Nat.max_le.2 ⟨hle,ih.1⟩,ih.2⟩
       · exact ih
     · have hkq:k=q0:=by omega
       have hne:¬ isL listed e:=fun h=>by have:=h1.1 h; omega
       have c3:¬ (bf.getD j []).contains e=true:=fun hc=>hne (hb e (by simpa using hc))
       rw[if_neg c3]
       have lo0:∀ (r:List Nat) (q1:Nat),(∀ e'∈r,¬ isL listed e')→(∀ q,r[q]?=some j→q1+q=k)→loOf bf j q1 r≤k:=by
        intro r
        induction r with
        | nil=>intro q1 _ _; simp[loOf]
        | cons e' r ih=>
          intro q1 hn hs;simp only[loOf];split
          · rename_i hb'
            have:=hs 0 (by simp[zbg hb'])
            omega
          · have c4:¬ (bf.getD j []).contains e'=true:=fun hc=>hn e' (by simp) (hb e' (by simpa using hc))
            rw[if_neg c4];exact ih (q1+1) (fun e'' h=>hn e'' (by simp[h])) (fun q hq=>by have:=hs (q+1) (by simpa using hq); omega)
       have hiq:∀ (r:List Nat) (q1:Nat),k≤q1→k≤hiOf bf j q1 r:=by
        intro r
        induction r with
        | nil=>intro q1 h; exact h
        | cons e' r ih=>
          intro q1 h;simp only[hiOf];split
          · exact h
          · split
            · exact h
            · exact ih _ (by omega)
       refine⟨lo0 r _ (fun e' he' hl=>?_) (fun q hq=>by have:=hself (q+1) (by simpa using hq); omega),?_⟩
       · obtain⟨q,hq⟩:=List.getElem?_of_mem he'
         have:=(hst (q+1) e' (by simpa using hq)).1 hl
         omega
       · split
         · omega
         · exact hiq r _ (by omega)
theorem q0x{i t:Nat}:q2x ops i t=true↔ ∃ o,ops[i]?=some o∧o.dst=some t:=by
 unfold q2x;cases h:ops[i]? with
 | none=>simp
 | some o=>
   cases hd:o.dst with
   | none=>simp[hd]
   | some d=>
     simp only[Option.bind_some,hd,zbe,exists_eq_left'];exact⟨fun hb=>zbg hb,fun e=>by subst e; exact zca d⟩
theorem q5o{sl:List (Nat×AV)}:∀ {src:Src},(∀ t i v,(t,some i)∈src→vals[i]?=some v→lk sl t=some v)→(∀ t v,(t,none)∈src→lk sl0 t=some v→lk sl t=some v)→SubL (q0d sl0 vals src) sl
 | [],_,_=>trivial
 | (t,some i) :: src,h1,h2=>by
   simp only[q0d];have ih:=q5o (src:=src) (fun t i v h=>h1 t i v (by simp[h])) (fun t v h=>h2 t v (by simp[h]))
   cases hv:vals[i]? with
   | none=>exact ih
   | some v=>exact⟨h1 t i v (by simp) hv,ih⟩
 | (t,none) :: src,h1,h2=>by
   simp only[q0d];have ih:=q5o (src:=src) (fun t i v h=>h1 t i v (by simp[h])) (fun t v h=>h2 t v (by simp[h]))
   cases hv:lk sl0 t with
   | none=>exact ih
   | some v=>exact⟨h2 t v (by simp) hv,ih⟩
structure PlanOk(ops:Array Oper)(effs:List Nat)(srcs:List Src)(fin:Src):Prop where
 uniq:∀ i j t,i≠j→q2x ops i t=true→q2x ops j t=false
 src:∀ j,j<ops.size→ ∀ s∈srcs.getD j [],qbz ops (befs ops) j s=true
 fin:∀ s∈fin,qgl ops s=true
 chain:q91 (befs ops) effs=true
 effLt:∀ e∈effs,e<ops.size
 back:∀ j o,ops[j]?=some o→ ∀ e∈o.after,Region.binds .any e=true→e.on<j
theorem qft(h:qi1 ops effs srcs fin=true):PlanOk ops effs srcs fin:=by
 simp only[qi1,zbf]at h;obtain⟨⟨⟨⟨⟨h1,h2⟩,h3⟩,h4⟩,h5⟩,h6⟩:=h;refine⟨fun i j t hne hi=>?_,fun j hj s hs=>?_,fun s hs=>zc1.1 h3 s hs,h4,fun e he=>by simpa using zc1.1 h5 e he,fun j o ho e he hb=>?_⟩
 · obtain⟨o,ho,hd⟩:=q0x.1 hi
   have hilt:i<ops.size:=(zch.1 ho).1
   by_cases hjlt:j<ops.size
   · have:=zc1.1 (zc1.1 h1 i (by simpa using hilt)) j (by simpa using hjlt)
     simp only[ho,Option.bind_some,hd,zbu,Bool.not_eq_true']at this;rcases this with h | h
     · exact absurd (zbg h) hne
     · exact h
   · cases hjd:q2x ops j t with
     | false=>rfl
     | true=>obtain⟨o',ho',_⟩:=q0x.1 hjd; exact absurd (zch.1 ho').1 hjlt
 · exact zc1.1 (zc1.1 h2 j (by simpa using hj)) s hs
 · have hjlt:j<ops.size:=(zch.1 ho).1
   have:=zc1.1 h6 j (by simpa using hjlt)
   simp only[ho,Array.all_eq_true_iff_forall_mem,zbu,Bool.not_eq_true',decide_eq_true_eq]at this;rcases this e he with h | h
   · rw[hb]at h; simp at h
   · exact h
theorem qlc(hp:PlanOk ops effs srcs fin)(hall:qcx P r ops sl0 vals srcs effs hs n ds (befs ops) ops.toList 0){listed:Array Bool}{sl:List (Nat×AV)}{k:Nat}(hi:Inv ops sl0 vals effs listed sl k)
 (hwf:St.wf ⟨sl,hs k,n,ds⟩)(hr:rsup r≤(hs k).next){j:Nat}(hj:j∈Region.ready .any ops listed):
 ∃ sl' k',Inv ops sl0 vals effs (listed.setIfInBounds j true) sl' k'∧St.wf ⟨sl',hs k',n,ds⟩∧(hs k).next≤(hs k').next∧
   ∀ ρ a w nn,Rel ρ ⟨sl,hs k,n,ds⟩ a w→ ∀ (K:Act→World→Prop) (Q:Exit→Act→World→Prop),(∀ ρ' a' w',Rel ρ' ⟨sl',hs k',n,ds⟩ a' w'→Fr ρ (hs k) w ρ' (hs k') w'→K a' w')→wpOpIn (fen ρ r) nn P ops Q j K a w:=by
 obtain⟨hun,o,ho,hafter⟩:=mem_ready.1 hj;have hjlt:j<ops.size:=(zch.1 ho).1;have hjl:j<listed.size:=by rw[hi.size]; exact hjlt
 have hnl:¬ isL listed j:=by
  unfold isL;rw[zc9,Array.getElem?_eq_getElem hjl]at hun ⊢;simp at hun ⊢; exact hun
 have hbef:=q6z hi.down ho (fun e he hb=>hafter e he hb)
 have hbefL:∀ i oi,ops[i]?=some oi→isL listed i→ ∀ b∈(befs ops).getD i [],isL listed b:=fun i oi hoi hl=>q6z hi.down hoi (hi.down i oi hoi hl)
 have hchain:∀ (l:List Nat) (q0:Nat),q91 (befs ops) l=true→(∀ q e,l[q]?=some e→effs[q0+q]?=some e)→ ∀ q,l[q]?=some j→(q=0∨ ∃ e,l[q - 1]?=some e∧isL listed e):=by
  intro l
  induction l with
  | nil=>intro q0 _ _ q hq; simp at hq
  | cons x l ih=>
    intro q0 hc he q hq;cases q with
    | zero=>exact .inl rfl
    | succ q=>
      right;cases l with
      | nil=>simp at hq
      | cons y l=>
        simp only[q91,zbf]at hc;cases q with
        | zero=>
          simp at hq; subst hq;exact⟨x,by simp,hbef x (by simpa using hc.1)⟩
        | succ q=>
          have:=ih (q0+1) hc.2 (fun q' e' h'=>by have:=he (q'+1) e' (by simpa using h'); rwa[show q0+1+q'=q0+(q'+1) by omega]) (q+1) (by simpa using hq)
          rcases this with h | ⟨e,h1,h2⟩
          · omega
          · exact⟨e,by simpa using h1,h2⟩
 have hself:∀ q,effs[q]?=some j→0+q=k:=by
  intro q hq;have h1:=(hi.stage q j hq);have h2:¬ q<k:=fun h=>hnl (h1.2 h)
  rcases hchain effs 0 hp.chain (fun q e h=>by simpa using h) q hq with h | ⟨e,h3,h4⟩
  · have:=hi.kle
    subst h; omega
  · have:=(hi.stage (q - 1) e h3).1 h4
    omega
 have hst:=qm4 (bf:=befs ops) hnl effs 0 k (fun q e he=>by simpa using hi.stage q e he) (zbl _) hbef
  (fun e he b hb hl=>hbefL e (ops[e]'(hp.effLt e he)) (Array.getElem?_eq_getElem (hp.effLt e he)) hl b hb) (by simpa using hi.kle) hself
 obtain⟨v,hv,hdo⟩:=hall.get (j:=j) (o:=o) (by simpa using ho) k (by simpa using hst.1) (by simpa using hst.2)
 simp only[zbv]at hv hdo
 have hsub:SubL (q0d sl0 vals (srcs.getD j [])) sl:=by
  refine q5o (fun t i u hm hu=>?_) (fun t u hm hu=>?_)
  · have:=hp.src j hjlt _ hm
    simp only[qbz,zbf]at this;exact hi.done i t u (hbef i (by simpa using this.1)) this.2 hu
  · have:=hp.src j hjlt _ hm
    simp only[qbz]at this;refine hi.rest t u hu fun i hdi hl=>?_
    have hil:i<ops.size:=by obtain⟨oi,hoi,_⟩:=q0x.1 hdi; exact(zch.1 hoi).1
    have h2:=zc1.1 this i (by simpa using hil)
    simp only[hdi,Bool.not_true,Bool.false_or,zbu]at h2;rcases h2 with h2 | h2
    · exact hnl (zbg h2▸hl)
    · exact hnl (hbefL i ops[i] (Array.getElem?_eq_getElem hil) hl j (by simpa using h2))
 have hwfN:St.wf ⟨q0d sl0 vals (srcs.getD j []),hs k,n,ds⟩:=⟨fun t u h=>hwf.1 t u (hsub.lk h),hwf.2.1,hwf.2.2⟩
 have hrelN:∀ {ρ a w},Rel ρ ⟨sl,hs k,n,ds⟩ a w→Rel ρ ⟨q0d sl0 vals (srcs.getD j []),hs k,n,ds⟩ a w:=fun h=>⟨⟨h.1.1,fun t u hk=>h.1.2 t u (hsub.lk hk)⟩,h.2.1,h.2.2⟩
 have hwantG:∀ need,SubL need sl→ ∀ b,q1d ops o need=some b→ ∀ ρ a w,Rel ρ ⟨sl,hs k,n,ds⟩ a w→Region.wanted o (yielded ops a.tmps)=b:=by
  intro need hneed b hb ρ a w hrel;unfold q1d at hb;unfold Region.wanted;cases hg:o.guard with
  | none=>simp[hg]at hb; subst hb; rfl
  | some g=>
    obtain⟨g,want⟩:=g;simp only[hg]at hb ⊢;cases hd:(ops[g]?).bind (·.dst)with
    | none=>simp[hd]at hb
    | some d=>
      simp only[hd]at hb;cases hl:lk need d with
      | none=>simp[hl]at hb
      | some x=>
        cases x with
        | bool bb=>
          simp[hl]at hb;have h1:=hrel.1.2 d _ (hneed.lk hl);subst hb;have h2:yielded ops a.tmps g=some bb:=by simp[yielded,hd,h1,conc]
          rw[h2];cases bb<;>cases want<;>rfl
        | tuple l=>
          simp[hl]at hb;have h1:=hrel.1.2 d _ (hneed.lk hl);subst hb;have h2:yielded ops a.tmps g=none:=by simp[yielded,hd,h1,conc]
          rw[h2];cases want<;>rfl
        | _=>simp[hl]at hb
 have hwantA:=hwantG _ hsub
 let k':=if effs.contains j then k+1 else k
 have hk':(if effs.contains j then hs (k+1) else hs k)=hs k':=by simp only[k']; split<;>rfl
 rw[hk']at hdo
 let sl':List (Nat×AV):=match o.dst with | some d=>(d,v) :: sl | none=>sl
 have hinv:Inv ops sl0 vals effs (listed.setIfInBounds j true) sl' k':=by
  have hdj:∀ t,q2x ops j t=true↔o.dst=some t:=fun t=>by
   rw[q0x]; exact⟨fun⟨o',h1,h2⟩=>by rw[ho]at h1; cases h1; exact h2,fun h=>⟨o,ho,h⟩⟩
  refine⟨by simp[hi.size],fun i oi hoi hl e he hb=>?_,fun q e he=>?_,?_,fun i t u hl hd hu=>?_,fun t u hu hno=>?_⟩
  · rw[q46 hjl]at hl ⊢
    rcases hl with rfl | hl
    · rw[ho]at hoi; cases hoi; exact .inr (hafter e he hb)
    · exact .inr (hi.down i oi hoi hl e he hb)
  · rw[q46 hjl]
    have h1:=hi.stage q e he;simp only[k']
    by_cases hje:effs.contains j=true
    · rw[if_pos hje]
      constructor
      · rintro(rfl | h)
        · have:=hself q he; omega
        · have:=h1.1 h; omega
      · intro hq
        by_cases hqk:q<k
        · exact .inr (h1.2 hqk)
        · have hqe:q=k:=by omega
          subst hqe;obtain⟨q',hq'⟩:=List.getElem?_of_mem (show j∈effs by simpa using hje)
          have:=hself q' hq';have e2:q'=q:=by omega
          subst e2;rw[hq']at he; cases he; exact .inl rfl
    · rw[if_neg hje]
      constructor
      · rintro(rfl | h)
        · exact absurd (by simpa using zc4 he) hje
        · exact h1.1 h
      · intro hq; exact .inr (h1.2 hq)
  · simp only[k']
    split
    · rename_i hje
      obtain⟨q',hq'⟩:=List.getElem?_of_mem (show j∈effs by simpa using hje)
      have:=hself q' hq';have:=(zci.1 hq').1;omega
    · exact hi.kle
  · rw[q46 hjl]at hl
    rcases hl with rfl | hl
    · have h1:=(hdj t).1 hd
      simp only[sl',h1,lk,zca,if_true];rw[hv]at hu; exact hu
    · have hne:i≠j:=fun e=>hnl (e▸hl)
      have h1:=hi.done i t u hl hd hu;simp only[sl'];cases hod:o.dst with
      | none=>exact h1
      | some d=>
        have h2:d≠t:=fun e=>by
         have:=hp.uniq i j t hne hd;rw[(hdj t).2 (by rw[hod,e])]at this; simp at this
        have h3:Nat.beq d t=false:=by
         cases hb:Nat.beq d t with
         | false=>rfl
         | true=>exact absurd (zbg hb) h2
        simp only[lk,h3,zbn,if_false]; exact h1
  · have h1:=hi.rest t u hu (fun i hd hl=>hno i hd ((q46 hjl).2 (.inr hl)))
    simp only[sl'];cases hod:o.dst with
    | none=>exact h1
    | some d=>
      have h2:d≠t:=fun e=>hno j ((hdj t).2 (by rw[hod,e])) ((q46 hjl).2 (.inl rfl))
      have h3:Nat.beq d t=false:=by
       cases hb:Nat.beq d t with
       | false=>rfl
       | true=>exact absurd (zbg hb) h2
      simp only[lk,h3,zbn,if_false]; exact h1
 have wfSl:∀ h':AH,h'.wf→(hs k).next≤h'.next→v.sup≤h'.next→St.wf ⟨sl',h',n,ds⟩:=by
  intro h' h1 h2 h3;simp only[sl'];cases o.dst with
  | none=>exact qkh (s:=⟨sl,hs k,n,ds⟩) hwf h1 h2
  | some d=>exact qil (s:=⟨sl,hs k,n,ds⟩) hwf h1 h2 h3
 rcases hdo with⟨hwt,hjo⟩ | ⟨hwt,hh,rfl,hlt⟩
 · obtain⟨e,s',w1,_,w3,⟨rfl,e2,e3,e5,e4⟩,hx⟩:=hjo hwfN hr
   obtain⟨sl2,h2,n2,ds2⟩:=s';simp only at e2 e3 e5 e4 w3;have e2:=e2.symm; have e3:=e3.symm; have e5:=e5.symm;subst e2; subst e3; subst e5;refine⟨sl',k',hinv,?_,w3,fun ρ a w nn hrel K Q hK=>?_⟩
   · simp only[sl']
     cases hod:o.dst with
     | none=>exact qkh (s:=⟨sl,hs k,n,ds⟩) hwf w1.2.1 w3
     | some d=>exact qil (s:=⟨sl,hs k,n,ds⟩) hwf w1.2.1 w3 (w1.1 d v (e4 d hod).2)
   · unfold wpOpIn
     simp only[ho,hwantA true hwt ρ a w hrel,if_true];have hop:=hx ρ a w nn (hrelN hrel);refine⟨hop.1,?_⟩;have hup:=hop.2;revert hup;generalize (o.semAt (fen ρ r).round a.eval).run P w=res;intro hup
     have fin1:∀ (x:Value) (w':World) (a1:Act),a1=a.put o.dst x→Out ρ ⟨q0d sl0 vals (srcs.getD j []),hs k,n,ds⟩ w .normal ⟨sl2,hs k',n,ds⟩ .normal a1 w'→K a1 w':=by
      rintro x w' a1 rfl ⟨ρ',_,k1,k2⟩;refine hK ρ' _ w' ⟨?_,?_,k1.2.2⟩ k2
      · have hbase:=q0v hrel.1 k2.2.2.2.2.1 hwf.1
        simp only[sl'];cases hod:o.dst with
        | none=>simpa [Act.put]using hbase
        | some d=>
          refine⟨by simp[Act.put,hbase.1],fun t u ht=>?_⟩
          simp only[lk]at ht;split at ht
          · rename_i hb
            have:d=t:=zbg hb;subst this;simp at ht; subst ht;have:=k1.1.2 d v (e4 d hod).2;rw[hod]at this; exact this
          · rename_i hb
            have hne:d≠t:=fun e=>hb (by subst e; exact zca d)
            have:=hbase.2 t u ht;simpa [Act.put,Array.getElem?_setIfInBounds_ne hne]using this
      · have:=k1.2.1
        cases hod:o.dst<;>simpa [Act.put,hod]using this
     cases res with
     | halt ht w'=>
       cases ht<;>first
        | (obtain⟨ρ',k1,_⟩:=hup; simp[AExit.conc]at k1; done)
        | exact hup
     | ok nx w'=>
       cases nx<;>first
        | exact fin1 _ _ _ rfl hup
        | (refine⟨hup.1,hup.2.mono ?_⟩
           rintro(v' | ch | _) w'' h'
           · exact fin1 _ _ _ rfl h'
           · obtain⟨ρ',k1,_⟩:=h'; simp[AExit.conc]at k1
           · obtain⟨a',w',ρ',k1,_⟩:=h'; simp[AExit.conc]at k1)
        | exact⟨hup.1,hup.2.mono fun _ _ h'=>fin1 _ _ _ rfl h'⟩
        | exact(hup:False).elim
        | (exfalso
           obtain⟨ρ',_,k1,k2⟩:=hup;have h5:=congrArg List.length k1.2.1;have h6:=congrArg List.length hrel.2.1;cases hod:o.dst<;>(simp only[hod,Act.put]at h5; simp at h5 h6; omega))
 · have hkk:hs k'=hs k:=hh
   refine⟨sl',k',hinv,?_,by rw[hkk]; exact zbi _,fun ρ a w nn hrel K Q hK=>?_⟩
   · rw[hkk]; exact wfSl _ hwf.2.1 (zbi _) (zbl _)
   · unfold wpOpIn
     simp only[ho,hwantA false hwt ρ a w hrel,zbn,if_false];refine⟨fun _ _=>trivial,hK ρ _ w ?_ (by rw[hkk]; exact .refl _ _ _)⟩
     rw[hkk];simp only[sl'];cases hod:o.dst with
     | none=>exact hrel
     | some d=>
       have:=hrel.put (d:=d) (v:= .tuple []) hwf hrel.2.2 (.refl _ _ _) (hlt d hod);simpa [conc,q04,undef]using this
theorem q81(hp:PlanOk ops effs srcs fin){listed:Array Bool}{sl:List (Nat×AV)}{k:Nat}(hi:Inv ops sl0 vals effs listed sl k)(hready:Region.ready .any ops listed=[]):k=effs.length∧ ∀ i,i<ops.size→isL listed i:=by
 have hall':∀ i,i<ops.size→isL listed i:=by
  intro i
  induction i using Nat.strongRecOn with
  | _ i ih=>
    intro hlt
    by_cases hl:isL listed i
    · exact hl
    · exfalso
      have hsz:=hi.size
      have hmem:i∈Region.ready .any ops listed:=by
       refine mem_ready.2 ⟨?_,ops[i],Array.getElem?_eq_getElem hlt,fun e he hb=>?_⟩
       · unfold isL at hl
         rw[zc9,Array.getElem?_eq_getElem (by omega)]at hl ⊢
         simp at hl ⊢; exact hl
       · have hon:=hp.back i _ (Array.getElem?_eq_getElem hlt) e he hb
         exact ih e.on hon (by omega)
      rw[hready]at hmem;cases hmem
 refine⟨?_,hall'⟩;have hk:=hi.kle;rcases Nat.lt_or_ge k effs.length with hlt | hge
 · have h1:=hi.stage k effs[k] (zcg hlt)
   have:=h1.1 (hall' _ (hp.effLt _ (List.getElem_mem hlt)));omega
 · omega
theorem qbc{listed:Array Bool}(hsz:listed.size=ops.size){j:Nat}(hj:j∈Region.ready .any ops listed):
 ((List.range ops.size).filter fun i=> !(listed.setIfInBounds j true).getD i true).length<((List.range ops.size).filter fun i=>!listed.getD i true).length:=by
 obtain⟨hun,o,ho,_⟩:=mem_ready.1 hj;have hjlt:j<ops.size:=(zch.1 ho).1;have hjl:j<listed.size:=by rw[hsz]; exact hjlt
 have hsub:((List.range ops.size).filter fun i=> !(listed.setIfInBounds j true).getD i true)=(((List.range ops.size).filter fun i=>!listed.getD i true).filter fun i=>i !=j):=by
  rw[List.filter_filter];apply List.filter_congr;intro i hi2
  by_cases e:i=j
  · subst e; simp[hjl]
  · simp[Array.getElem?_setIfInBounds_ne (Ne.symm e),e]
 rw[hsub]
 have hmem:j∈(List.range ops.size).filter fun i=>!listed.getD i true:=by
  rw[List.mem_filter]; exact⟨by simpa using hjlt,by rw[hun]; rfl⟩
 exact List.length_filter_lt_length_iff_exists.2 ⟨j,hmem,by simp⟩
theorem qqi(hp:PlanOk ops effs srcs fin)(hall:qcx P r ops sl0 vals srcs effs hs n ds (befs ops) ops.toList 0):∀ (fuel:Nat) (listed:Array Bool) (sl:List (Nat×AV)) (k:Nat),Inv ops sl0 vals effs listed sl k→
 St.wf ⟨sl,hs k,n,ds⟩→rsup r≤(hs k).next→((List.range ops.size).filter fun i=>!listed.getD i true).length≤fuel→ ∀ ρ a w nn,Rel ρ ⟨sl,hs k,n,ds⟩ a w→
 ∀ Q:Exit→Act→World→Prop,(∀ ρ' a' w' sl' listed',Inv ops sl0 vals effs listed' sl' effs.length→(∀ i,i<ops.size→isL listed' i)→Rel ρ' ⟨sl',hs effs.length,n,ds⟩ a' w'→Fr ρ (hs k) w ρ' (hs effs.length) w'→Q .normal a' w')→
 wpAnyIn (fen ρ r) nn P .any ops Q fuel listed a w:=by
 intro fuel
 induction fuel with
 | zero=>
   intro listed sl k hi hwf hr hf ρ a w nn hrel Q hQ
   have hready:Region.ready .any ops listed=[]:=by
    have h0:((List.range ops.size).filter fun i=>!listed.getD i true)=[]:=List.length_eq_zero_iff.1 (by omega)
    unfold Region.ready;rw[List.filter_eq_nil_iff]at h0 ⊢;intro x hx h2;simp only[zbf]at h2;exact h0 x hx h2.1
   obtain⟨rfl,hd⟩:=q81 hp hi hready;exact⟨hready,hQ ρ a w sl listed hi hd hrel (.refl _ _ _)⟩
 | succ fuel ih=>
   intro listed sl k hi hwf hr hf ρ a w nn hrel Q hQ;refine⟨fun hready=>?_,fun j hj=>?_⟩
   · obtain⟨rfl,hd⟩:=q81 hp hi hready
     exact hQ ρ a w sl listed hi hd hrel (.refl _ _ _)
   · obtain⟨sl',k',hi',hwf',hnx,hstep⟩:=qlc hp hall hi hwf hr hj
     refine hstep ρ a w nn hrel _ _ fun ρ' a' w' k1 k2=>?_
     have hf':=q94 k2.2.2.2.2.1 (r:=r) hr;rw[←hf'];refine ih _ sl' k' hi' hwf' (by omega) ?_ ρ' a' w' nn k1 Q fun ρ'' a'' w'' sl'' listed'' q1 q2 q3 q4=>hQ ρ'' a'' w'' sl'' listed'' q1 q2 q3 (k2.trans q4)
     have:=qbc hi.size hj;omega
theorem qvg(hp:PlanOk ops effs srcs fin)(hall:qcx P r ops sl0 vals srcs effs hs n ds (befs ops) ops.toList 0):∀ (fuel:Nat) (listed:Array Bool) (sl:List (Nat×AV)) (k:Nat),Inv ops sl0 vals effs listed sl k→
 St.wf ⟨sl,hs k,n,ds⟩→rsup r≤(hs k).next→((List.range ops.size).filter fun i=>!listed.getD i true).length≤fuel→
 ∃ sl' listed',Inv ops sl0 vals effs listed' sl' effs.length∧(∀ i,i<ops.size→isL listed' i)∧St.wf ⟨sl',hs effs.length,n,ds⟩∧(hs k).next≤(hs effs.length).next:=by
 intro fuel
 induction fuel with
 | zero=>
   intro listed sl k hi hwf hr hf
   have hready:Region.ready .any ops listed=[]:=by
    have h0:((List.range ops.size).filter fun i=>!listed.getD i true)=[]:=List.length_eq_zero_iff.1 (by omega)
    unfold Region.ready;rw[List.filter_eq_nil_iff]at h0 ⊢;intro x hx h2;simp only[zbf]at h2;exact h0 x hx h2.1
   obtain⟨rfl,hd⟩:=q81 hp hi hready;exact⟨sl,listed,hi,hd,hwf,zbi _⟩
 | succ fuel ih=>
   intro listed sl k hi hwf hr hf;cases hre:Region.ready .any ops listed with
   | nil=>
     obtain⟨rfl,hd⟩:=q81 hp hi hre;exact⟨sl,listed,hi,hd,hwf,zbi _⟩
   | cons j rest=>
     have hj:j∈Region.ready .any ops listed:=by rw[hre]; simp
     obtain⟨sl',k',hi',hwf',hnx,_⟩:=qlc hp hall hi hwf hr hj;have:=qbc hi.size hj;obtain⟨sl2,l2,q1,q2,q3,q4⟩:=ih _ sl' k' hi' hwf' (by omega) (by omega)
     exact⟨sl2,l2,q1,q2,q3,by omega⟩
theorem qj8(hp:PlanOk ops effs srcs fin){listed:Array Bool}{sl:List (Nat×AV)}{k:Nat}(hi:Inv ops sl0 vals effs listed sl k)(hd:∀ i,i<ops.size→isL listed i):SubL (q0d sl0 vals fin) sl:=by
 refine q5o (fun t i u hm hu=>?_) (fun t u hm hu=>?_)
 · have h1:q2x ops i t=true:=hp.fin _ hm
   obtain⟨o,ho,_⟩:=q0x.1 h1;exact hi.done i t u (hd i (zch.1 ho).1) h1 hu
 · have h1:=hp.fin _ hm
   simp only[qgl]at h1;refine hi.rest t u hu fun i hdi _=>?_
   obtain⟨o,ho,_⟩:=q0x.1 hdi;have:=zc1.1 h1 i (by simpa using (zch.1 ho).1)
   rw[hdi]at this; simp at this
theorem z24{c:Code}{id:Nat}{h h':AH}{Q:AExit→St→Prop}{slF:List (Nat×AV)}(hc:c= .region id ops true)(hmix:P.follows .mixedOrders=true)(effs:List Nat)(srcs:List Src)(fin:Src)(vals:List AV)(hs:Nat→AH)
 (hplan:qi1 ops effs srcs fin=true)(h0:hs 0=h)(hm:hs effs.length=h')
 (hall:qcx P r ops sl0 vals srcs effs hs n ds (befs ops) ops.toList 0)(hF:q0d sl0 vals fin=slF)(hq:Q .normal ⟨slF,h',n,ds⟩):J P r c ⟨sl0,h,n,ds⟩ Q:=by
 subst hc; subst h0; subst hm; subst hF;intro hw hr;have hp:=qft hplan
 have hinit:Inv ops sl0 vals effs (Array.replicate ops.size false) sl0 0:=by
  have hno:∀ i,¬ isL (Array.replicate ops.size false) i:=fun i h=>by
   unfold isL at h;rw[zc9,Array.getElem?_replicate]at h;split at h<;>simp at h
  exact⟨by simp,fun i o _ h=>absurd h (hno i),fun q e _=>⟨fun h=>absurd h (hno e),fun h=>absurd h (zcn q)⟩,zbl _,fun i t v h=>absurd h (hno i),fun t v h _=>h⟩
 obtain⟨slW,lW,i1,i2,i3,i4⟩:=qvg hp hall _ _ sl0 0 hinit hw hr (zbi _);have hsubW:=qj8 hp i1 i2;refine⟨.normal,⟨q0d sl0 vals fin,hs effs.length,n,ds⟩,⟨fun t u h=>i3.1 t u (hsubW.lk h),i3.2.1,i3.2.2⟩,zbl _,i4,hq,fun ρ a w nn hrel=>wpIn_region_any hmix ?_⟩
 refine qqi hp hall _ _ sl0 0 hinit hw hr ?_ ρ a {w with drawn:=w.drawn+1} nn ⟨hrel.1,hrel.2.1,q4n _ hrel.2.2⟩ _ ?_
 · exact zbo (List.length_filter_le _ _) (by simp)
 · intro ρ' a' w' sl' listed' j1 j2 j3 j4
   have hsub:=qj8 hp j1 j2;exact⟨ρ',rfl,⟨⟨j3.1.1,fun t u hk=>j3.1.2 t u (hsub.lk hk)⟩,j3.2.1,j3.2.2⟩,(qvh ρ (hs 0) w _).trans j4⟩
end main
def child:Code→Nat→Code
 | .seq a b,k=>if Nat.beq k 0 then a else b
 | .cond _ a b,k=>if Nat.beq k 0 then a else b
 | .block _ b,_=>b
 | .loop b,_=>b
 | .scope b,_=>b
 | .rangeFunc _ _ a b,k=>if Nat.beq k 0 then a else b
 | c,_=>c
def sel(c:Code):List Nat→Code
 | []=>c
 | k :: p=>sel (child c k) p
def q0k(f:Func):Code:=f.body.getD .skip
def qp5:Code→Array Oper
 | .region _ ops _=>ops
 | _=> #[]
def idAt:Code→Nat
 | .region id _ _=>id
 | _=>0
def isCell(P:Program)(T:TypeId):Bool:=match P.underlying T,P.info? T with
 | some D,some i=>!q40 D&&Nat.beq i.size 1
 | _,_=>false
def isAggT(P:Program)(T:TypeId)(n:Nat):Bool:=match P.underlying T,P.info? T with
 | some D,some i=>q40 D&&Nat.beq i.size n
 | _,_=>false
def Cell(P:Program)(T:TypeId):Prop:=isCell P T=true
def Agg(P:Program)(T:TypeId)(n:Nat):Prop:=isAggT P T n=true
theorem Cell.ex{P:Program}{T:TypeId}(h:Cell P T):∃ D,P.underlying T=some D∧q40 D=false∧(P.info? T).map (·.size)=some 1:=by
 unfold Cell isCell at h;split at h
 · rename_i D i h1 h2
   simp only[zbf,Bool.not_eq_true']at h;exact⟨D,h1,h.1,by rw[h2]; simp[zbg h.2]⟩
 · simp at h
theorem Agg.ex{P:Program}{T:TypeId}{n:Nat}(h:Agg P T n):∃ D,P.underlying T=some D∧q40 D=true∧(P.info? T).map (·.size)=some n:=by
 unfold Agg isAggT at h;split at h
 · rename_i D i h1 h2
   simp only[zbf]at h;exact⟨D,h1,h.1,by rw[h2]; simp[zbg h.2]⟩
 · simp at h
structure Le(h h':AH):Prop where
 next:h.next≤h'.next
 get:∀ j c,h.get j=some c→h'.get j=some c
theorem Le.refl(h:AH):Le h h:=⟨zbi _,fun _ _ h=>h⟩
theorem Le.trans{h h' h'':AH}(a:Le h h')(b:Le h' h''):Le h h'':=⟨zbo a.next b.next,fun j c hj=>b.get j c (a.get j c hj)⟩
theorem Le.cells{h h':AH}(a:Le h h'){id:Nat}{cs:List AV}(hc:h.cells id=some cs):h'.cells id=some cs:=by
 unfold AH.cells at hc ⊢;cases hg:h.get id with
 | none=>simp[hg]at hc
 | some c=>rw[a.get id c hg]; rw[hg]at hc; exact hc
theorem AH.AddTo.le{h h':AH}{i:Nat}{c:Chunk}(a:h.AddTo i c h')(hw:h.wf):Le h h':=
 ⟨by rw[a.next]; omega,fun j cj hj=>by rw[a.old j (by have:=(hw j cj hj).1; have:=a.is; omega)]; exact hj⟩
theorem q71{h:AH}{i:Nat}{cs:List AV}(hg:h.get i=some (.own cs)):h.cells i=some cs:=by simp[AH.cells,hg]
theorem qzy{h:AH}{i:Nat}{cs:List AV}(hg:h.get i=some (.ro cs)):h.cells i=some cs:=by simp[AH.cells,hg]
theorem q7y{h:AH}{i e:Nat}{cs:List AV}(hg:h.get i=some (.grow e cs)):h.cells i=some cs:=by simp[AH.cells,hg]
section rules
variable{P:Program}{r:Option Nat}{c x y:Code}{s:St}{Q Q':AExit→St→Prop}
theorem q1v{l:List Nat}{c:Code}(hc:c= .region (idAt c) (qp5 c) false)(hl:List.range (qp5 c).size=l)(h:JL P r (qp5 c) l s Q):J P r c s Q:=
 qd3 hc (by rw[hl]; exact h)
def Sub(s' s:St):Prop:=s'.h=s.h∧s'.n=s.n∧s'.defs=s.defs∧SubL s'.slots s.slots
theorem z93{s':St}(hs:Sub s' s)(hj:J P r c s' Q):J P r c s Q:=by
 obtain⟨sl,h,n,ds⟩:=s; obtain⟨sl',h',n',ds'⟩:=s';obtain⟨rfl,rfl,rfl,h4⟩:=hs;exact qu9 h4 hj
theorem qzk{α:Type}(S:α→St)(I:α→Prop)(μ:α→Nat)(a₀:α)(hc:c= .loop x)(h₀:Sub (S a₀) s)(hI:I a₀)
 (round:∀ a,I a→J P r x (S a) (Then (fun s'=> ∃ a',(I a'∧μ a'<μ a)∧Sub (S a') s') Q)):J P r c s Q:=by
 refine z93 h₀ (z3r S I μ a₀ hc hI round)
end rules
def qin(d:Nat)(sl:List (Nat×AV))(nt:Nat)(ds:List ADef)(Q:AExit→St→Prop):AEnd→AH→Prop
 | .ret v,h'=>Q .normal ⟨(d,v) :: sl,h',nt,ds⟩
 | .panic v,h'=>Q (.panic v) ⟨sl,h',nt,ds⟩
section rules
variable{P:Program}{r:Option Nat}{sl:List (Nat×AV)}{h₀:AH}{nt:Nat}{ds:List ADef}{Q:AExit→St→Prop}{o:Oper}
theorem q0w{d:Nat}{x:Operand}{v:AV}(ho:o.op= .move x)(hd:o.dst=some d)(hdn:d<nt)(hx:ev sl x=some v)(h:Q .normal ⟨(d,v) :: sl,h₀,nt,ds⟩):JO P r o ⟨sl,h₀,nt,ds⟩ Q:=
 qxf ho hd hdn hx h
theorem q1u{d:Nat}{x:Operand}{v:AV}(ho:o.op= .assign x)(hd:o.dst=some d)(hdn:d<nt)(hx:ev sl x=some v)(h:Q .normal ⟨(d,v) :: sl,h₀,nt,ds⟩):JO P r o ⟨sl,h₀,nt,ds⟩ Q:=
 qjt ho hd hdn hx h
theorem q4f{d:Nat}{x:Operand}{y:Operand}{z:Operand}{v:AV}(ho:o.op= .pick x y z)(hd:o.dst=some d)(hdn:d<nt)(hx:ev sl x=some (.bool true))(hy:ev sl y=some v)
 (h:Q .normal ⟨(d,v) :: sl,h₀,nt,ds⟩):JO P r o ⟨sl,h₀,nt,ds⟩ Q:=
 qjw ho hd hdn hx hy h
theorem z1u{d:Nat}{x:Operand}{y:Operand}{z:Operand}{v:AV}(ho:o.op= .pick x y z)(hd:o.dst=some d)(hdn:d<nt)(hx:ev sl x=some (.bool false))(hy:ev sl z=some v)
 (h:Q .normal ⟨(d,v) :: sl,h₀,nt,ds⟩):JO P r o ⟨sl,h₀,nt,ds⟩ Q:=
 qjv ho hd hdn hx hy h
theorem z1r{d:Nat}{x:Operand}{y:Operand}{T:TypeId}{U:TypeId}{a:Int}{b:Int}(ho:o.op= .binOp .add T x y U)(hd:o.dst=some d)(hdn:d<nt)(hx:ev sl x=some (.int .i64 a))(hy:ev sl y=some (.int .i64 b))
 (hr:-9223372036854775808≤a+b∧a+b≤9223372036854775807)
 (h:Q .normal ⟨(d,.int .i64 (a+b)) :: sl,h₀,nt,ds⟩):JO P r o ⟨sl,h₀,nt,ds⟩ Q:=
 z9k ho hd hdn hx hy hr h
theorem w_ne{d:Nat}{x:Operand}{y:Operand}{T:TypeId}{U:TypeId}{k:IntKind}{a:Int}{b:Int}(ho:o.op= .binOp .neq T x y U)(hd:o.dst=some d)(hdn:d<nt)(hx:ev sl x=some (.int k a))(hy:ev sl y=some (.int k b))
 (h:Q .normal ⟨(d,.bool (decide (¬ a=b))) :: sl,h₀,nt,ds⟩):JO P r o ⟨sl,h₀,nt,ds⟩ Q:=
 o_ne ho hd hdn hx hy h
theorem w_lt{d:Nat}{x:Operand}{y:Operand}{T:TypeId}{U:TypeId}{k:IntKind}{a:Int}{b:Int}(ho:o.op= .binOp .lss T x y U)(hd:o.dst=some d)(hdn:d<nt)(hx:ev sl x=some (.int k a))(hy:ev sl y=some (.int k b))
 (h:Q .normal ⟨(d,.bool (decide (a<b))) :: sl,h₀,nt,ds⟩):JO P r o ⟨sl,h₀,nt,ds⟩ Q:=
 o_lt ho hd hdn hx hy h
theorem z9p{d:Nat}{x:Operand}{y:Operand}{T:TypeId}{U:TypeId}{p q:ByteArray}(ho:o.op= .binOp .neq T x y U)(hd:o.dst=some d)(hdn:d<nt)(hx:ev sl x=some (.str p))(hy:ev sl y=some (.str q))
 (h:Q .normal ⟨(d,.bool (!(p.toList==q.toList))) :: sl,h₀,nt,ds⟩):JO P r o ⟨sl,h₀,nt,ds⟩ Q:=
 z5l ho hd hdn hx hy h
theorem q29{d:Nat}{x:Operand}{p:Nat×Nat}(ho:o.op= .nilCheck x)(hd:o.dst=some d)(hdn:d<nt)(hx:ev sl x=some (.ptr (some p)))(h:Q .normal ⟨(d,.ptr (some p)) :: sl,h₀,nt,ds⟩):JO P r o ⟨sl,h₀,nt,ds⟩ Q:=
 q3v ho hd hdn hx h
theorem q34{d:Nat}{f:Fn}{l1 l2:Array Operand}{v1 v2:List AV}(ho:o.op= .makeFunc f l1 l2)(hd:o.dst=some d)(hdn:d<nt)(h1:evL sl l1.toList=some v1)(h2:evL sl l2.toList=some v2)
 (h:Q .normal ⟨(d,.fn f v1 v2) :: sl,h₀,nt,ds⟩):JO P r o ⟨sl,h₀,nt,ds⟩ Q:=
 qbt ho hd hdn h1 h2 h
theorem qts{d:Nat}{x:Operand}{y:Operand}{k:IntKind}{A:TypeId}{p:ByteArray}{i:Int}(hA:P.underlying A=some .string)
 (ho:o.op= .index A x y)(hd:o.dst=some d)(hdn:d<nt)(hx:ev sl x=some (.str p))(hy:ev sl y=some (.int k i))(h0:0≤i){c:UInt8}(hc:p[i.toNat]?=some c)
 (h:Q .normal ⟨(d,.int .u8 c.toNat) :: sl,h₀,nt,ds⟩):JO P r o ⟨sl,h₀,nt,ds⟩ Q:=
 qho hA ho hd hdn hx hy h0 hc h
theorem q15{d:Nat}{x:Operand}{T:TypeId}{S:TypeId}{i off id fo n:Nat}(hf:q1y P S i fo T)(hn:(P.info? T).map (·.size)=some n)(hn0:n≠0)
 (ho:o.op= .fieldAddr S x i)(hd:o.dst=some d)(hdn:d<nt)(hx:ev sl x=some (.ptr (some (id,off))))
 (h:Q .normal ⟨(d,.ptr (some (id,off+fo))) :: sl,h₀,nt,ds⟩):JO P r o ⟨sl,h₀,nt,ds⟩ Q:=
 q9f hf hn hn0 ho hd hdn hx h
theorem q33{d:Nat}{x:Operand}{y:Operand}{T:TypeId}{U:TypeId}{k:IntKind}{n id off len:Nat}{c:Cap}{i:Int}(hU:P.underlying U=some (.slice T))(hn:(P.info? T).map (·.size)=some n)
 (ho:o.op= .indexAddr U x y)(hd:o.dst=some d)(hdn:d<nt)(hx:ev sl x=some (.slice (some (id,off)) len c))(hy:ev sl y=some (.int k i))(hi:0≤i∧i<len)
 (h:Q .normal ⟨(d,.ptr (some (id,off+i.toNat * n))) :: sl,h₀,nt,ds⟩):JO P r o ⟨sl,h₀,nt,ds⟩ Q:=
 q5e hU hn ho hd hdn hx hy hi h
theorem z8u{d:Nat}{x:Operand}{v:AV}{T:TypeId}{z:List AV}(ho:o.op= .box T x)(hd:o.dst=some d)(hdn:d<nt)(hx:ev sl x=some v)(hz:v.cells=z)
 (h:∀ i h',h₀.AddTo i (.own z) h'→Q .normal ⟨(d,.ptr (some (i,0))) :: sl,h',nt,ds⟩):JO P r o ⟨sl,h₀,nt,ds⟩ Q:=
 z7t ho hd hdn hx hz h
theorem qgb{d:Nat}{T:TypeId}{z:AV}{zc:List AV}(hz:q26 P T z)(hzc:z.cells=zc)(ho:o.op= .alloc T)(hd:o.dst=some d)(hdn:d<nt)
 (h:∀ i h',h₀.AddTo i (.own zc) h'→Q .normal ⟨(d,.ptr (some (i,0))) :: sl,h',nt,ds⟩):JO P r o ⟨sl,h₀,nt,ds⟩ Q:=
 qxb hz hzc ho hd hdn h
theorem qyn{x:Operand}{y:Operand}{v:AV}{T:TypeId}{n id off:Nat}{cs vc cs':List AV}(hn:(P.info? T).map (·.size)=some n)
 (ho:o.op= .store T x y)(hd:o.dst=none)(hx:ev sl x=some (.ptr (some (id,off))))(hy:ev sl y=some v)(hvc:v.cells=vc)(hg:h₀.get id=some (.own cs))
 (hvn:vc.length=n)(hle:off+n≤cs.length)(h1:vc.all AV.one=true)(hcs:splice cs off vc=cs')
 (h:∀ h',h₀.SetTo id (.own cs') h'→Q .normal ⟨sl,h',nt,ds⟩):JO P r o ⟨sl,h₀,nt,ds⟩ Q:=
 qxg hn ho hd hx hy hvc hg hvn hle h1 hcs h
theorem qs5{x:Operand}{y:Operand}{v:AV}{T:TypeId}{n id off esz:Nat}{cs vc cs':List AV}(hn:(P.info? T).map (·.size)=some n)
 (ho:o.op= .store T x y)(hd:o.dst=none)(hx:ev sl x=some (.ptr (some (id,off))))(hy:ev sl y=some v)(hvc:v.cells=vc)(hg:h₀.get id=some (.grow esz cs))
 (hvn:vc.length=n)(hle:off+n≤cs.length)(h1:vc.all AV.one=true)(hcs:splice cs off vc=cs')
 (h:∀ h',h₀.SetTo id (.grow esz cs') h'→Q .normal ⟨sl,h',nt,ds⟩):JO P r o ⟨sl,h₀,nt,ds⟩ Q:=
 qrj hn ho hd hx hy hvc hg hvn hle h1 hcs h
theorem qnh{d:Nat}{x:Operand}{T:TypeId}{t:TypeId}{p:Option (Nat×Nat)}{len:Nat}{c:Cap}(hT:P.underlying t=some (.slice T))(ho:o.op= .call {callee:= .builtin .len,args:= #[x],argTypes:= #[t]})(hd:o.dst=some d)(hdn:d<nt)
 (hx:ev sl x=some (.slice p len c))(h:Q .normal ⟨(d,.int .i64 len) :: sl,h₀,nt,ds⟩):JO P r o ⟨sl,h₀,nt,ds⟩ Q:=
 z5k hT ho hd hdn hx h
theorem qng{d:Nat}{T:TypeId}{U:TypeId}{len n:Nat}{parts:Array (Nat×Operand)}{vs:List (Nat×AV)}{z:AV}{out:List AV}(hU:P.underlying U=some (.slice T))(hn:(P.info? T).map (·.size)=some n)(hz:q26 P T z)(hzn:z.cells.length=n)
 (hmax:len * n≤16777216)(ho:o.op= .buildSlice U len parts)(hd:o.dst=some d)(hdn:d<nt)(hx:evP sl parts.toList=some vs)(hf:q5l (fun i=>some (i * n,n)) (aRep z.cells len) vs=some out)
 (h:∀ i h',h₀.AddTo i (.own out) h'→Q .normal ⟨(d,.slice (some (i,0)) len (.exact len)) :: sl,h',nt,ds⟩):JO P r o ⟨sl,h₀,nt,ds⟩ Q:=
 qcm hU hn hz hzn hmax ho hd hdn hx hf h
theorem qph{d:Nat}{x:Operand}{y:Operand}{T:TypeId}{U:TypeId}{n by_:Nat}{z:AV}{l c:Nat}(hU:P.underlying U=some (.slice T))(hi:(P.info? T).map (fun i=>(i.size,i.bytes))=some (n,by_))(hz:q26 P T z)(hzn:z.cells.length=n)
 (ho:o.op= .makeSlice U x y)(hd:o.dst=some d)(hdn:d<nt)(hx:ev sl x=some (.int .i64 l))(hy:ev sl y=some (.int .i64 c))(hlc:l≤c)(hb:c * by_≤281474976710656)(hc:c≤281474976710656)
 (h:∀ i h',h₀.AddTo i (.own (aRep z.cells c)) h'→Q .normal ⟨(d,.slice (some (i,0)) l (.exact c)) :: sl,h',nt,ds⟩):JO P r o ⟨sl,h₀,nt,ds⟩ Q:=
 qfj hU hi hz hzn ho hd hdn hx hy hlc hb hc h
theorem qgc{d:Nat}{x:Operand}{y:Operand}{t:TypeId}{t2:TypeId}{e:TypeId}{esz:Nat}{by_:Nat}{z:AV}{p q:Option (Nat×Nat)}{n0 n cap:Nat}{c2:Cap}{old new out:List AV}(ha:AppT P t t2 e esz by_ z)
 (ho:o.op= .call {callee:= .builtin .append,args:= #[x,y],argTypes:= #[t,t2]})(hd:o.dst=some d)(hdn:d<nt)
 (hx:ev sl x=some (.slice p n0 (.exact cap)))(hy:ev sl y=some (.slice q n c2))(h1:q0g h₀ n0 esz (.slice p n0 (.exact cap))=some old)(h2:q0g h₀ n esz (.slice q n c2)=some new)
 (hno:cap<n0+n)(hle:n0+n≤4294967296)(hout:old++new=out)
 (h:∀ i h',h₀.AddTo i (.grow esz out) h'→Q .normal ⟨(d,.slice (some (i,0)) (n0+n) (.grow 0)) :: sl,h',nt,ds⟩):JO P r o ⟨sl,h₀,nt,ds⟩ Q:=
 qmf ha ho hd hdn hx hy h1 h2 hno hle hout h
theorem qyl{d:Nat}{x:Operand}{y:Operand}{t:TypeId}{t2:TypeId}{e:TypeId}{esz:Nat}{by_:Nat}{z:AV}{q:Option (Nat×Nat)}{id off n0 n cap:Nat}{c2:Cap}{cs new cs':List AV}(ha:AppT P t t2 e esz by_ z)
 (ho:o.op= .call {callee:= .builtin .append,args:= #[x,y],argTypes:= #[t,t2]})(hd:o.dst=some d)(hdn:d<nt)
 (hx:ev sl x=some (.slice (some (id,off)) n0 (.exact cap)))(hy:ev sl y=some (.slice q n c2))(hg:h₀.get id=some (.own cs))(h2:q0g h₀ n esz (.slice q n c2)=some new)(h1:new.all AV.one=true)
 (hfit:n0+n≤cap)(hin:off+(n0+n) * esz≤cs.length)(hcs:splice cs (off+n0 * esz) new=cs')
 (h:∀ h',h₀.SetTo id (.own cs') h'→Q .normal ⟨(d,.slice (some (id,off)) (n0+n) (.exact cap)) :: sl,h',nt,ds⟩):JO P r o ⟨sl,h₀,nt,ds⟩ Q:=
 qmd ha ho hd hdn hx hy hg h2 h1 hfit hin hcs h
theorem qym{d:Nat}{x:Operand}{y:Operand}{t:TypeId}{t2:TypeId}{e:TypeId}{esz:Nat}{by_:Nat}{z:AV}{q:Option (Nat×Nat)}{id n0 n:Nat}{c2:Cap}{cs new out:List AV}(ha:AppT P t t2 e esz by_ z)
 (ho:o.op= .call {callee:= .builtin .append,args:= #[x,y],argTypes:= #[t,t2]})(hd:o.dst=some d)(hdn:d<nt)
 (hx:ev sl x=some (.slice (some (id,0)) n0 (.grow 0)))(hy:ev sl y=some (.slice q n c2))(hg:h₀.get id=some (.grow esz cs))(hfull:cs.length=n0 * esz)
 (h2:q0g h₀ n esz (.slice q n c2)=some new)(h1:new.all AV.one=true)(hle:n0+n≤4294967296)(hout:cs++new=out)
 (h:∀ i h',h₀.MoveTo id i (.grow esz out) h'→Q .normal ⟨(d,.slice (some (i,0)) (n0+n) (.grow 0)) :: sl,h',nt,ds⟩):JO P r o ⟨sl,h₀,nt,ds⟩ Q:=
 qme ha ho hd hdn hx hy hg hfull h2 h1 hle hout h
theorem z8w{d:Nat}{x:Operand}{y:Operand}{t:TypeId}{t2:TypeId}{e:TypeId}{esz:Nat}{q:Option (Nat×Nat)}{id off dl sln n cap:Nat}{c2:Cap}{cs new cs':List AV}(ht:P.underlying t=some (.slice e))(hn:(P.info? e).map (·.size)=some esz)
 (ho:o.op= .call {callee:= .builtin .copy,args:= #[x,y],argTypes:= #[t,t2]})(hd:o.dst=some d)(hdn:d<nt)
 (hx:ev sl x=some (.slice (some (id,off)) dl (.exact cap)))(hy:ev sl y=some (.slice q sln c2))(hg:h₀.get id=some (.own cs))(hmin:n=min sln dl)(h2:q0g h₀ n esz (.slice q sln c2)=some new)(h1:new.all AV.one=true)
 (hin:off+n * esz≤cs.length)(hcs:splice cs off new=cs')
 (h:∀ h',h₀.SetTo id (.own cs') h'→Q .normal ⟨(d,.int .i64 n) :: sl,h',nt,ds⟩):JO P r o ⟨sl,h₀,nt,ds⟩ Q:=
 z30 ht hn ho hd hdn hx hy hg hmin h2 h1 hin hcs h
theorem z65{d:Nat}{x:Operand}{args:Array Operand}{ats:Array TypeId}{vs:List AV}{fv:AV}(ho:o.op= .call {callee:= .value x,args,argTypes:=ats})(hd:o.dst=some d)(hdn:d<nt)
 (hx:ev sl x=some fv)(ha:evL sl args.toList=some vs)(h:JApp P fv vs h₀ (qin d sl nt ds Q)):JO P r o ⟨sl,h₀,nt,ds⟩ Q:=
 qju ho hd hdn hx ha h
theorem z8v{d:Nat}{args:Array Operand}{ats:Array TypeId}{vs:List AV}{f:FuncId}{fn:Func}{c:Code}(hf:IsFn P f fn c)(ho:o.op= .call {callee:= .value (.func f),args,argTypes:=ats})(hd:o.dst=some d)(hdn:d<nt)
 (ha:evL sl args.toList=some vs)(h:q0n P f vs h₀ (qin d sl nt ds Q)):JO P r o ⟨sl,h₀,nt,ds⟩ Q:=
 z7u hf ho hd hdn ha h
end rules
section rules
variable{P:Program}{r:Option Nat}{sl:List (Nat×AV)}{h₀:AH}{nt:Nat}{ds:List ADef}{Q:AExit→St→Prop}{o:Oper}{d:Nat}{x y:Operand}{v u:AV}{c cx cy:Code}
theorem qjf{p:Prop}{dp:Decidable p}(hc:c= .cond x cx cy)(ho:ev sl x=some (.bool (decide p)))(ht:p→J P r cx ⟨sl,h₀,nt,ds⟩ Q)(hf:¬p→J P r cy ⟨sl,h₀,nt,ds⟩ Q):J P r c ⟨sl,h₀,nt,ds⟩ Q:=z3o hc ho ht hf
theorem qog(hc:c= .cond x cx cy)(ho:ev sl x=some (.bool false))(hf:J P r cy ⟨sl,h₀,nt,ds⟩ Q):J P r c ⟨sl,h₀,nt,ds⟩ Q:=qdx hc ho (fun h=>by simp at h) (fun _=>hf)
theorem q7s{T:TypeId}{id off:Nat}{cs:List AV}(hT:Cell P T)(ho:o.op= .load T x)(hd:o.dst=some d)(hdn:d<nt)(hx:ev sl x=some (.ptr (some (id,off))))(hc:h₀.cells id=some cs)(hv:cs[off]?=some v)
 (h:Q .normal ⟨(d,v) :: sl,h₀,nt,ds⟩):JO P r o ⟨sl,h₀,nt,ds⟩ Q:=by
 obtain⟨D,h1,h2,h3⟩:=hT.ex;exact qxe h1 h3 ho hd hdn hx hc (by rw[h2]; exact hv) h
theorem qpg{T:TypeId}{id off n:Nat}{cs l:List AV}(hT:Agg P T n)(ho:o.op= .load T x)(hd:o.dst=some d)(hdn:d<nt)(hx:ev sl x=some (.ptr (some (id,off))))(hc:h₀.cells id=some cs)(hn:off+n≤cs.length)(hl:(cs.drop off).take n=l)
 (h:Q .normal ⟨(d,.agg l) :: sl,h₀,nt,ds⟩):JO P r o ⟨sl,h₀,nt,ds⟩ Q:=by
 obtain⟨D,h1,h2,h3⟩:=hT.ex;exact qxe (v:= .agg l) h1 h3 ho hd hdn hx hc (by rw[h2]; simp only[ldA,if_true,if_pos hn,hl]) h
theorem z1t{T S:TypeId}{i off:Nat}{cs:List AV}(hf:q1y P S i off T)(hT:Cell P T)(ho:o.op= .field S x i)(hd:o.dst=some d)(hdn:d<nt)(hx:ev sl x=some (.agg cs))(hv:cs[off]?=some v)
 (h:Q .normal ⟨(d,v) :: sl,h₀,nt,ds⟩):JO P r o ⟨sl,h₀,nt,ds⟩ Q:=by
 obtain⟨D,h1,h2,h3⟩:=hT.ex;exact qoy hf h1 h3 ho hd hdn hx (by rw[h2]; exact hv) h
theorem z1s{T S:TypeId}{i off n:Nat}{cs l:List AV}(hf:q1y P S i off T)(hT:Agg P T n)(ho:o.op= .field S x i)(hd:o.dst=some d)(hdn:d<nt)(hx:ev sl x=some (.agg cs))(hv:(cs.drop off).take n=l)
 (h:Q .normal ⟨(d,.agg l) :: sl,h₀,nt,ds⟩):JO P r o ⟨sl,h₀,nt,ds⟩ Q:=by
 obtain⟨D,h1,h2,h3⟩:=hT.ex;exact qoy (v:= .agg l) hf h1 h3 ho hd hdn hx (by rw[h2]; simp only[qd1,if_true,hv]) h
theorem qb3{args:Array Operand}{ats:Array TypeId}{vs:List AV}{fv:AV}{R:AEnd→AH→Prop}(ho:o.op= .call {callee:= .value x,args,argTypes:=ats})(hd:o.dst=some d)(hdn:d<nt)(hx:ev sl x=some fv)(ha:evL sl args.toList=some vs)
 (hR:JApp P fv vs h₀ R)(h:∀ e h',R e h'→qin d sl nt ds Q e h'):JO P r o ⟨sl,h₀,nt,ds⟩ Q:=z65 ho hd hdn hx ha (hR.mono h)
theorem q1h{args:Array Operand}{ats:Array TypeId}{vs:List AV}{f:FuncId}{fn:Func}{cb:Code}{R:AEnd→AH→Prop}(hf:IsFn P f fn cb)(ho:o.op= .call {callee:= .value (.func f),args,argTypes:=ats})(hd:o.dst=some d)(hdn:d<nt)
 (ha:evL sl args.toList=some vs)(hR:q0n P f vs h₀ R)(h:∀ e h',R e h'→qin d sl nt ds Q e h'):JO P r o ⟨sl,h₀,nt,ds⟩ Q:=z8v hf ho hd hdn ha (hR.mono h)
end rules
structure Ext(h h':AH):Prop where
 next:h.next≤h'.next
 get:∀ j cs,h.get j=some (.ro cs)→h'.get j=some (.ro cs)
theorem Ext.refl(h:AH):Ext h h:=⟨zbi _,fun _ _ h=>h⟩
theorem Ext.trans{h h' h'':AH}(a:Ext h h')(b:Ext h' h''):Ext h h'':=⟨zbo a.next b.next,fun j c hj=>b.get j c (a.get j c hj)⟩
theorem Le.ext{h h':AH}(a:Le h h'):Ext h h':=⟨a.next,fun j cs hj=>a.get j _ hj⟩
def Ro(h:AH)(i:Nat)(cs:List AV):Prop:=h.get i=some (.ro cs)
def Own(h:AH)(i:Nat)(cs:List AV):Prop:=h.get i=some (.own cs)
def Grow(h:AH)(i e:Nat)(cs:List AV):Prop:=h.get i=some (.grow e cs)
theorem Ro.ext{h h':AH}{i:Nat}{cs:List AV}(a:Ro h i cs)(e:Ext h h'):Ro h' i cs:=e.get i cs a
theorem Ro.le{h h':AH}{i:Nat}{cs:List AV}(a:Ro h i cs)(e:Le h h'):Ro h' i cs:=e.get i _ a
theorem Own.le{h h':AH}{i:Nat}{cs:List AV}(a:Own h i cs)(e:Le h h'):Own h' i cs:=e.get i _ a
theorem Grow.le{h h':AH}{i n:Nat}{cs:List AV}(a:Grow h i n cs)(e:Le h h'):Grow h' i n cs:=e.get i _ a
theorem Ro.cells{h:AH}{i:Nat}{cs:List AV}(a:Ro h i cs):h.cells i=some cs:=qzy a
theorem Own.cells{h:AH}{i:Nat}{cs:List AV}(a:Own h i cs):h.cells i=some cs:=q71 a
theorem Grow.cells{h:AH}{i n:Nat}{cs:List AV}(a:Grow h i n cs):h.cells i=some cs:=q7y a
structure But(h:AH)(i:Nat)(h':AH):Prop where
 next:h.next≤h'.next
 get:∀ j c,j≠i→h.get j=some c→h'.get j=some c
theorem Own.but{h h':AH}{i j:Nat}{cs:List AV}(a:Own h j cs)(e:But h i h')(hne:j≠i):Own h' j cs:=e.get j _ hne a
theorem Grow.but{h h':AH}{i j n:Nat}{cs:List AV}(a:Grow h j n cs)(e:But h i h')(hne:j≠i):Grow h' j n cs:=e.get j _ hne a
theorem AH.SetTo.but{h h':AH}{i:Nat}{c:Chunk}(a:h.SetTo i c h'):But h i h':=⟨by rw[a.next]; exact zbi _,fun j _ hne hj=>by rw[a.old j hne]; exact hj⟩
theorem AH.MoveTo.but{h h':AH}{i k:Nat}{c:Chunk}(a:h.MoveTo i k c h')(hw:h.wf):But h i h':=
 ⟨by rw[a.next]; omega,fun j cj hne hj=>by rw[a.old j (by have:=(hw j cj hj).1; have:=a.is; omega) hne]; exact hj⟩
theorem But.ext{h h':AH}{i:Nat}{c:Chunk}(a:But h i h')(hg:h.get i=some c)(hro:c.isRo=false):Ext h h':=
 ⟨a.next,fun j cs hj=>a.get j _ (fun e=>by subst e; rw[hj]at hg; cases hg; simp[Chunk.isRo]at hro) hj⟩
theorem AH.lt{h:AH}{i:Nat}{c:Chunk}(hw:h.wf)(hg:h.get i=some c):i<h.next:=(hw i c hg).1
section guards
variable{P:Program}{r:Option Nat}{sl:List (Nat×AV)}{h₀:AH}{nt:Nat}{ds:List ADef}{Q:AExit→St→Prop}{ops:Array Oper}{l:List Nat}{o:Oper}{d:Nat}
theorem z8x{i j g:Nat}{want b:Bool}{oj:Oper}(ho:ops[i]?=some o)(hg:o.guard=some (j,want))(hj:ops[j]?=some oj)(hd:oj.dst=some g)(hb:lk sl g=some (.bool b))(hne:b≠want)(hod:o.dst=some d)(hdn:d<nt)
 (h:JL P r ops l ⟨(d,.tuple []) :: sl,h₀,nt,ds⟩ Q):JL P r ops (i :: l) ⟨sl,h₀,nt,ds⟩ Q:=by
 intro hw hr;obtain⟨e,s',w1,w2,w3,q,x⟩:=h (qil (s:=⟨sl,h₀,nt,ds⟩) hw hw.2.1 (zbi _) (zbl _)) hr;refine⟨e,s',w1,w2,w3,q,fun ρ a w n hrel=>?_⟩
 have hwant:Region.wanted o (yielded ops a.tmps)=false:=by simp[Region.wanted,hg,qim hrel hj hd hb,hne]
 simp only[wpOpsIn,ho,hwant,if_false,zbn];refine⟨fun _ _=>trivial,?_⟩
 have:=hrel.put (v:= .tuple []) hw hrel.2.2 (.refl _ _ _) (show d<nt from hdn);rw[hod];exact x ρ _ w n (by simpa [conc,q04,undef]using this)
theorem w_G{i j g:Nat}{want:Bool}{oj:Oper}(ho:ops[i]?=some o)(hg:o.guard=some (j,want))(hj:ops[j]?=some oj)(hd:oj.dst=some g)(hb:lk sl g=some (.bool want))
 (h:JO P r o ⟨sl,h₀,nt,ds⟩ (Then (fun s'=>JL P r ops l s' Q) Q)):JL P r ops (i :: l) ⟨sl,h₀,nt,ds⟩ Q:=qu5 ho hg hj hd hb h
end guards
structure LeM(M:List Nat)(h h':AH):Prop where
 next:h.next≤h'.next
 get:∀ j c,j∉M→h.get j=some c→h'.get j=some c
theorem LeM.refl(M:List Nat)(h:AH):LeM M h h:=⟨zbi _,fun _ _ _ h=>h⟩
theorem LeM.trans{M:List Nat}{h h' h'':AH}(a:LeM M h h')(b:LeM M h' h''):LeM M h h'':=⟨zbo a.next b.next,fun j c hm hj=>b.get j c hm (a.get j c hm hj)⟩
theorem LeM.le{M:List Nat}{h h' h'':AH}(a:LeM M h h')(b:Le h' h''):LeM M h h'':=⟨zbo a.next b.next,fun j c hm hj=>b.get j c (a.get j c hm hj)⟩
theorem LeM.but{M:List Nat}{h h' h'':AH}{i:Nat}(a:LeM M h h')(b:But h' i h'')(hw:h.wf)(hi:i∈M∨h.next≤i):LeM M h h'':=
 ⟨zbo a.next b.next,fun j c hm hj=>b.get j c (fun e=>by
  subst e;rcases hi with hi | hi
  · exact hm hi
  · have:=(hw j c hj).1; omega) (a.get j c hm hj)⟩
def SlR(h:AH)(p:Option (Nat×Nat))(n esz:Nat)(E:List AV→Prop):Prop:=
 0<n→ ∃ id off cs,p=some (id,off)∧Ro h id cs∧off+n * esz≤cs.length∧ ∀ i:Int,0≤i→i<n→ ∃ l,l.length=esz∧E l∧(cs.drop (off+i.toNat * esz)).take esz=l
theorem SlR.ext{h h':AH}{p:Option (Nat×Nat)}{n esz:Nat}{E:List AV→Prop}(a:SlR h p n esz E)(hl:Ext h h'):SlR h' p n esz E:=fun hn=>by
 obtain⟨id,off,cs,h1,h2,h3⟩:=a hn;exact⟨id,off,cs,h1,h2.ext hl,h3⟩
theorem SlR.le{h h':AH}{p:Option (Nat×Nat)}{n esz:Nat}{E:List AV→Prop}(a:SlR h p n esz E)(hl:Le h h'):SlR h' p n esz E:=a.ext hl.ext
theorem SlR.imp{h:AH}{p:Option (Nat×Nat)}{n esz:Nat}{E E':List AV→Prop}(a:SlR h p n esz E)(hE:∀ l,l.length=esz→E l→E' l):SlR h p n esz E':=fun hn=>by
 obtain⟨id,off,cs,h1,h2,h3,h4⟩:=a hn;exact⟨id,off,cs,h1,h2,h3,fun i h0 hi=>by obtain⟨l,q1,q2,q3⟩:=h4 i h0 hi; exact⟨l,q1,hE l q1 q2,q3⟩⟩
theorem SlR.at{h:AH}{p:Option (Nat×Nat)}{n esz:Nat}{E:List AV→Prop}(a:SlR h p n esz E){i:Int}(h0:0≤i)(hi:i<n):
 ∃ id off cs l,p=some (id,off)∧Ro h id cs∧off+i.toNat * esz+esz≤cs.length∧l.length=esz∧E l∧(cs.drop (off+i.toNat * esz)).take esz=l:=by
 obtain⟨id,off,cs,h1,h2,h3,h4⟩:=a (by omega)
 obtain⟨l,q1,q2,q3⟩:=h4 i h0 hi;refine⟨id,off,cs,l,h1,h2,?_,q1,q2,q3⟩;have:(i.toNat+1) * esz≤n * esz:=zc2 _ (by omega)
 rw[zc7]at this; omega
theorem SlR.take{h:AH}{p:Option (Nat×Nat)}{n m esz:Nat}{E:List AV→Prop}(a:SlR h p n esz E)(hm:m≤n):SlR h p m esz E:=fun h0=>by
 obtain⟨id,off,cs,h1,h2,h3,h4⟩:=a (by omega)
 exact⟨id,off,cs,h1,h2,by have:=zc2 esz hm; omega,fun i h0 hi=>h4 i h0 (by omega)⟩
def IntE(lo hi:Int)(l:List AV):Prop:= ∃ n,l=[.int .i64 n]∧lo≤n∧n≤hi
def z9s(l:List AV):Prop:= ∃ n,l=[.int .i64 n]
def z9t(l:List AV):Prop:= ∃ s,l=[.str s]∧s.size≤1099511627776
def SlV(h:AH)(p:Option (Nat×Nat))(n esz:Nat)(E:List AV→Prop):Prop:=
 0<n→ ∃ id off cs,p=some (id,off)∧h.cells id=some cs∧off+n * esz≤cs.length∧ ∀ i:Int,0≤i→i<n→ ∃ l,l.length=esz∧E l∧(cs.drop (off+i.toNat * esz)).take esz=l
theorem SlV.le{h h':AH}{p:Option (Nat×Nat)}{n esz:Nat}{E:List AV→Prop}(a:SlV h p n esz E)(hl:Le h h'):SlV h' p n esz E:=fun hn=>by
 obtain⟨id,off,cs,h1,h2,h3⟩:=a hn;exact⟨id,off,cs,h1,hl.cells h2,h3⟩
theorem SlV.imp{h:AH}{p:Option (Nat×Nat)}{n esz:Nat}{E E':List AV→Prop}(a:SlV h p n esz E)(hE:∀ l,l.length=esz→E l→E' l):SlV h p n esz E':=fun hn=>by
 obtain⟨id,off,cs,h1,h2,h3,h4⟩:=a hn;exact⟨id,off,cs,h1,h2,h3,fun i h0 hi=>by obtain⟨l,q1,q2,q3⟩:=h4 i h0 hi; exact⟨l,q1,hE l q1 q2,q3⟩⟩
theorem SlV.at{h:AH}{p:Option (Nat×Nat)}{n esz:Nat}{E:List AV→Prop}(a:SlV h p n esz E){i:Int}(h0:0≤i)(hi:i<n):
 ∃ id off cs l,p=some (id,off)∧h.cells id=some cs∧off+i.toNat * esz+esz≤cs.length∧l.length=esz∧E l∧(cs.drop (off+i.toNat * esz)).take esz=l:=by
 obtain⟨id,off,cs,h1,h2,h3,h4⟩:=a (by omega)
 obtain⟨l,q1,q2,q3⟩:=h4 i h0 hi;refine⟨id,off,cs,l,h1,h2,?_,q1,q2,q3⟩;have:(i.toNat+1) * esz≤n * esz:=zc2 _ (by omega)
 rw[zc7]at this; omega
theorem SlV.cut{h:AH}{p:Option (Nat×Nat)}{n lo hi esz m:Nat}{E:List AV→Prop}(a:SlV h p n esz E)(h1:lo≤hi)(h2:hi≤n):
 SlV h (if m=lo then p else p.map fun q=>(q.1,q.2+lo * esz)) (hi - lo) esz E∨m=lo:=by
 by_cases c:m=lo
 · exact .inr c
 refine .inl fun h0=>?_
 obtain⟨id,off,cs,e1,e2,e3,e4⟩:=a (by omega)
 subst e1;refine⟨id,off+lo * esz,cs,by rw[if_neg c]; rfl,e2,?_,fun i i0 i1=>?_⟩
 · have:=zc2 esz h2
   have e:(hi - lo) * esz+lo * esz=hi * esz:=by rw[←zc7]; congr 1; omega
   omega
 · obtain⟨l,q1,q2,q3⟩:=e4 (i+lo) (by omega) (by omega)
   refine⟨l,q1,q2,?_⟩;rw[←q3];have:(i+(lo:Int)).toNat=i.toNat+lo:=by omega
   rw[this,zc7];congr 2; omega
theorem SlV.take{h:AH}{p:Option (Nat×Nat)}{n m esz:Nat}{E:List AV→Prop}(a:SlV h p n esz E)(hm:m≤n):SlV h p m esz E:=fun h0=>by
 obtain⟨id,off,cs,h1,h2,h3,h4⟩:=a (by omega)
 exact⟨id,off,cs,h1,h2,by have:=zc2 esz hm; omega,fun i h0 hi=>h4 i h0 (by omega)⟩
theorem SlV.zero{h:AH}{p:Option (Nat×Nat)}{esz:Nat}{E:List AV→Prop}:SlV h p 0 esz E:=fun h0=>absurd h0 (by omega)
theorem SlV.slice{h:AH}{p:Option (Nat×Nat)}{n lo hi esz m:Nat}{E:List AV→Prop}(a:SlV h p n esz E)(h1:lo≤hi)(h2:hi≤n)(h3:hi≤m):
 SlV h (if m=lo then p else p.map fun q=>(q.1,q.2+lo * esz)) (hi - lo) esz E:=by
 rcases a.cut (m:=m) h1 h2 with c | c
 · exact c
 · have:hi - lo=0:=by omega
   rw[this]; exact .zero
inductive Ty where
 | int (lo hi:Int)
 | bool
 | str
 | sl (e:List Ty)
 | sa (e:List Ty)
mutual
def okV(h:AH):Ty→AV→Prop
 | .int lo hi,v=> ∃ n:Int,v= .int .i64 n∧lo≤n∧n≤hi
 | .bool,v=> ∃ b,v= .bool b
 | .str,v=> ∃ s,v= .str s∧s.size≤1048576
 | .sl e,v=> ∃ p n c,v= .slice p n (.exact c)∧n≤c∧n≤1048576∧SlV h p n e.length (okL h e)
 | .sa e,v=> ∃ p n c,v= .slice p n c∧n≤1048576∧SlV h p n e.length (okL h e)
def okL(h:AH):List Ty→List AV→Prop
 | [],l=>l=[]
 | t :: ts,l=> ∃ v r,l=v :: r∧okV h t v∧okL h ts r
end
abbrev q3o:Int:= -9223372036854775808
abbrev q3n:Int:=9223372036854775807
mutual
theorem okV.le{h h':AH}(hl:Le h h'):∀ {t:Ty} {v:AV},okV h t v→okV h' t v
 | .int _ _,_,a=>a
 | .bool,_,a=>a
 | .str,_,a=>a
 | .sl e,_,a=>by
   obtain⟨p,n,c,h1,h2,h3,h4⟩:=a;exact⟨p,n,c,h1,h2,h3,(h4.le hl).imp fun l _ hE=>okL.le hl hE⟩
 | .sa e,_,a=>by
   obtain⟨p,n,c,h1,h2,h4⟩:=a;exact⟨p,n,c,h1,h2,(h4.le hl).imp fun l _ hE=>okL.le hl hE⟩
theorem okL.le{h h':AH}(hl:Le h h'):∀ {t:List Ty} {l:List AV},okL h t l→okL h' t l
 | [],_,a=>a
 | t :: ts,l,a=>by
   obtain⟨v,r,h1,h2,h3⟩:=a;exact⟨v,r,h1,okV.le hl h2,okL.le hl h3⟩
end
theorem qhu{h:AH}:∀ {t:List Ty} {l:List AV},okL h t l→l.length=t.length
 | [],l,a=>by simp only[okL]at a; subst a; rfl
 | t :: ts,l,a=>by
   simp only[okL]at a;obtain⟨v,r,rfl,h2,h3⟩:=a;simp[qhu h3]
def NewN(h:AH)(i:Nat):Prop:=h.get i=none∧h.next≤i
structure New(h:AH)(i:Nat)(c:Chunk)(h':AH):Prop where
 le:Le h h'
 get:h'.get i=some c
 free:h.get i=none
 ge:h.next≤i
theorem New.of{h h':AH}{i:Nat}{c:Chunk}(a:h.AddTo i c h')(hw:h.wf):New h i c h':=
 ⟨a.le hw,a.new,by
  cases hg:h.get i with
  | none=>rfl
  | some cj=>have:=(hw i cj hg).1; have:=a.is; omega,by have:=a.is; omega⟩
theorem New.newN{h h':AH}{i:Nat}{c:Chunk}(a:New h i c h'):NewN h i:=⟨a.free,a.ge⟩
theorem New.own{h h':AH}{i:Nat}{cs:List AV}(a:New h i (.own cs) h'):Own h' i cs:=a.get
theorem New.grow{h h':AH}{i e:Nat}{cs:List AV}(a:New h i (.grow e cs) h'):Grow h' i e cs:=a.get
theorem Le.free{h h':AH}(a:Le h h'){i:Nat}(hn:h'.get i=none):h.get i=none:=by
 cases hg:h.get i with
 | none=>rfl
 | some c=>rw[a.get i c hg]at hn; cases hn
theorem Le.newN{h h':AH}(a:Le h h'){i:Nat}(hn:NewN h' i):NewN h i:=⟨a.free hn.1,zbo a.next hn.2⟩
theorem Le.but{h h' h'':AH}{i:Nat}(a:Le h h')(b:But h' i h'')(hn:h.get i=none):Le h h'':=
 ⟨zbo a.next b.next,fun j c hj=>b.get j c (fun e=>by subst e; rw[hn]at hj; cases hj) (a.get j c hj)⟩
theorem Le.turn{h h' h'':AH}{M:List Nat}(a:Le h h')(b:LeM M h' h'')(hn:∀ i∈M,h.get i=none):Le h h'':=
 ⟨zbo a.next b.next,fun j c hj=>b.get j c (fun hm=>by rw[hn j hm]at hj; cases hj) (a.get j c hj)⟩
theorem q8c{h:AH}{i j:Nat}{c:Chunk}(hn:h.get i=none)(hj:h.get j=some c):j≠i:=fun e=>by subst e; rw[hn]at hj; cases hj
theorem AH.SetTo.own{h h':AH}{i:Nat}{cs:List AV}(a:h.SetTo i (.own cs) h'):Own h' i cs:=a.new
theorem AH.SetTo.grow{h h':AH}{i e:Nat}{cs:List AV}(a:h.SetTo i (.grow e cs) h'):Grow h' i e cs:=a.new
section rules
variable{P:Program}{r:Option Nat}{sl:List (Nat×AV)}{h₀:AH}{nt:Nat}{ds:List ADef}{Q:AExit→St→Prop}{o:Oper}{d:Nat}{x y:Operand}
theorem qb6{s:St}(h:s.wf→JO P r o s Q):JO P r o s Q:=fun hw=>h hw hw
theorem z6h{v:AV}{T:TypeId}{z:List AV}(ho:o.op= .box T x)(hd:o.dst=some d)(hdn:d<nt)(hx:ev sl x=some v)(hz:v.cells=z)
 (h:∀ i h',New h₀ i (.own z) h'→Q .normal ⟨(d,.ptr (some (i,0))) :: sl,h',nt,ds⟩):JO P r o ⟨sl,h₀,nt,ds⟩ Q:=
 qb6 fun hw=>z8u ho hd hdn hx hz fun i h' a=>h i h' (.of a hw.2.1)
theorem z6g{T:TypeId}{z:AV}{zc:List AV}(hz:q26 P T z)(hzc:z.cells=zc)(ho:o.op= .alloc T)(hd:o.dst=some d)(hdn:d<nt)
 (h:∀ i h',New h₀ i (.own zc) h'→Q .normal ⟨(d,.ptr (some (i,0))) :: sl,h',nt,ds⟩):JO P r o ⟨sl,h₀,nt,ds⟩ Q:=
 qb6 fun hw=>qgb hz hzc ho hd hdn fun i h' a=>h i h' (.of a hw.2.1)
theorem qcu{T:TypeId}{U:TypeId}{len n:Nat}{parts:Array (Nat×Operand)}{vs:List (Nat×AV)}{z:AV}{out:List AV}(hU:P.underlying U=some (.slice T))(hn:(P.info? T).map (·.size)=some n)(hz:q26 P T z)(hzn:z.cells.length=n)
 (hmax:len * n≤16777216)(ho:o.op= .buildSlice U len parts)(hd:o.dst=some d)(hdn:d<nt)(hx:evP sl parts.toList=some vs)(hf:q5l (fun i=>some (i * n,n)) (aRep z.cells len) vs=some out)
 (h:∀ i h',New h₀ i (.own out) h'→Q .normal ⟨(d,.slice (some (i,0)) len (.exact len)) :: sl,h',nt,ds⟩):JO P r o ⟨sl,h₀,nt,ds⟩ Q:=
 qb6 fun hw=>qng hU hn hz hzn hmax ho hd hdn hx hf fun i h' a=>h i h' (.of a hw.2.1)
theorem qps{T:TypeId}{U:TypeId}{n by_:Nat}{z:AV}{l c:Nat}(hU:P.underlying U=some (.slice T))(hi:(P.info? T).map (fun i=>(i.size,i.bytes))=some (n,by_))(hz:q26 P T z)(hzn:z.cells.length=n)
 (ho:o.op= .makeSlice U x y)(hd:o.dst=some d)(hdn:d<nt)(hx:ev sl x=some (.int .i64 l))(hy:ev sl y=some (.int .i64 c))(hlc:l≤c)(hb:c * by_≤281474976710656)(hc:c≤281474976710656)
 (h:∀ i h',New h₀ i (.own (aRep z.cells c)) h'→Q .normal ⟨(d,.slice (some (i,0)) l (.exact c)) :: sl,h',nt,ds⟩):JO P r o ⟨sl,h₀,nt,ds⟩ Q:=
 qb6 fun hw=>qph hU hi hz hzn ho hd hdn hx hy hlc hb hc fun i h' a=>h i h' (.of a hw.2.1)
theorem z6i{v:AV}{T:TypeId}{n id off:Nat}{cs vc cs':List AV}(hn:(P.info? T).map (·.size)=some n)
 (ho:o.op= .store T x y)(hd:o.dst=none)(hx:ev sl x=some (.ptr (some (id,off))))(hy:ev sl y=some v)(hvc:v.cells=vc)(hg:Own h₀ id cs)
 (hvn:vc.length=n)(hle:off+n≤cs.length)(h1:vc.all AV.one=true)(hcs:splice cs off vc=cs')
 (h:∀ h',But h₀ id h'→Own h' id cs'→Q .normal ⟨sl,h',nt,ds⟩):JO P r o ⟨sl,h₀,nt,ds⟩ Q:=
 qyn hn ho hd hx hy hvc hg hvn hle h1 hcs fun h' a=>h h' a.but a.own
def SlO(h:AH)(i n esz:Nat)(E:List AV→Prop):Prop:=
 ∃ cs,Own h i cs∧cs.length=n * esz∧ ∀ k:Int,0≤k→k<n→ ∃ l,l.length=esz∧E l∧(cs.drop (k.toNat * esz)).take esz=l
theorem SlO.le{h h':AH}{i n esz:Nat}{E:List AV→Prop}(a:SlO h i n esz E)(hl:Le h h'):SlO h' i n esz E:=by
 obtain⟨cs,h1,h2⟩:=a; exact⟨cs,h1.le hl,h2⟩
theorem SlO.but{h h':AH}{i j n esz:Nat}{E:List AV→Prop}(a:SlO h i n esz E)(hl:But h j h')(hne:i≠j):SlO h' i n esz E:=by
 obtain⟨cs,h1,h2⟩:=a; exact⟨cs,h1.but hl hne,h2⟩
theorem SlO.imp{h:AH}{i n esz:Nat}{E E':List AV→Prop}(a:SlO h i n esz E)(hE:∀ l,l.length=esz→E l→E' l):SlO h i n esz E':=by
 obtain⟨cs,h1,h2,h3⟩:=a;exact⟨cs,h1,h2,fun k k0 k1=>by obtain⟨l,q1,q2,q3⟩:=h3 k k0 k1; exact⟨l,q1,hE l q1 q2,q3⟩⟩
def Bld(hB h:AH)(v:AV)(n esz:Nat)(E:List AV→Prop):Prop:=
 (n=0∧v= .slice none 0 (.exact 0))∨ ∃ i cs,v= .slice (some (i,0)) n (.grow 0)∧Grow h i esz cs∧NewN hB i∧cs.length=n * esz∧ ∀ k:Int,0≤k→k<n→ ∃ l,l.length=esz∧E l∧(cs.drop (k.toNat * esz)).take esz=l
theorem Bld.nil{hB h:AH}{esz:Nat}{E:List AV→Prop}:Bld hB h (.slice none 0 (.exact 0)) 0 esz E:= .inl ⟨rfl,rfl⟩
theorem Bld.le{hB h h':AH}{v:AV}{n esz:Nat}{E:List AV→Prop}(a:Bld hB h v n esz E)(hl:Le h h'):Bld hB h' v n esz E:=by
 rcases a with a | ⟨i,cs,h1,h2,h3⟩
 · exact .inl a
 · exact .inr ⟨i,cs,h1,h2.le hl,h3⟩
theorem Bld.but{hB h h':AH}{v:AV}{n esz j:Nat}{E:List AV→Prop}(a:Bld hB h v n esz E)(hl:But h j h'){c:Chunk}(hj:hB.get j=some c):Bld hB h' v n esz E:=by
 rcases a with a | ⟨i,cs,h1,h2,h3,h4⟩
 · exact .inl a
 · exact .inr ⟨i,cs,h1,h2.but hl (q8c h3.1 hj).symm,h3,h4⟩
theorem Bld.base{hB hA h:AH}{v:AV}{n esz:Nat}{E:List AV→Prop}(a:Bld hB h v n esz E)(hl:Le hA hB):Bld hA h v n esz E:=by
 rcases a with a | ⟨i,cs,h1,h2,h3,h4⟩
 · exact .inl a
 · exact .inr ⟨i,cs,h1,h2,hl.newN h3,h4⟩
theorem Bld.slc{hB h:AH}{v:AV}{n esz:Nat}{E:List AV→Prop}(a:Bld hB h v n esz E):∃ p c,v= .slice p n c∧SlV h p n esz E:=by
 rcases a with⟨rfl,rfl⟩ | ⟨i,cs,rfl,h2,h3,h4,h5⟩
 · exact⟨_,_,rfl,.zero⟩
 · exact⟨_,_,rfl,fun _=>⟨i,0,cs,rfl,h2.cells,by omega,fun k k0 k1=>by obtain⟨l,q1,q2,q3⟩:=h5 k k0 k1; exact⟨l,q1,q2,by rw[zbv]; exact q3⟩⟩⟩
theorem Bld.imp{hB h:AH}{v:AV}{n esz:Nat}{E E':List AV→Prop}(a:Bld hB h v n esz E)(hE:∀ l,l.length=esz→E l→E' l):Bld hB h v n esz E':=by
 rcases a with a | ⟨i,cs,h1,h2,h3,h4,h5⟩
 · exact .inl a
 · exact .inr ⟨i,cs,h1,h2,h3,h4,fun k k0 k1=>by obtain⟨l,q1,q2,q3⟩:=h5 k k0 k1; exact⟨l,q1,hE l q1 q2,q3⟩⟩
structure StepB(v:AV)(h h':AH):Prop where
 next:h.next≤h'.next
 get:∀ j c,(∀ o n k,v≠ .slice (some (j,o)) n k)→h.get j=some c→h'.get j=some c
theorem SlV.cellsOf{h:AH}{q:Option (Nat×Nat)}{m esz:Nat}{E:List AV→Prop}{c2:Cap}(hs:SlV h q m esz E)(hq:m=0→q=none∨ ∃ id off cs,q=some (id,off)∧h.cells id=some cs∧off≤cs.length):∃ new,q0g h m esz (.slice q m c2)=some new∧new.length=m * esz∧ ∀ k:Int,0≤k→k<m→ ∃ l,l.length=esz∧E l∧(new.drop (k.toNat * esz)).take esz=l:=by
 rcases zc5 m with rfl | hm
 · rcases hq rfl with rfl | ⟨id,off,cs,rfl,h1,h2⟩
   · exact⟨[],by simp[q0g],by simp,fun k k0 k1=>by omega⟩
   · exact⟨[],by simp[q0g,h1,h2],by simp,fun k k0 k1=>by omega⟩
 · obtain⟨id,off,cs,rfl,h1,h2,h3⟩:=hs hm
   refine⟨(cs.drop off).take (m * esz),by simp[q0g,h1,h2],by simp; omega,fun k k0 k1=>?_⟩
   obtain⟨l,q1,q2,q3⟩:=h3 k k0 k1;refine⟨l,q1,q2,?_⟩;rw[←q3,List.drop_take,List.take_take,List.drop_drop];have:(k.toNat+1) * esz≤m * esz:=zc2 esz (by omega)
   rw[zc7]at this;congr 1; omega
def z22(v:AV)(h:AH):Prop:= ∀ i o k c,v= .slice (some (i,o)) k c→h.get i=none
end rules
section rules
variable{P:Program}{r:Option Nat}{c x:Code}{s:St}{Q:AExit→St→Prop}
theorem z25{A:Type}(S:A→St)(I:A→Prop)(μ:A→Nat)(a₀:A)(hc:c= .loop x)(h₀:Sub (S a₀) s)(hI:I a₀)
 (round:∀ a,I a→J P r x (S a) (Then (fun s'=> ∃ a',(I a'∧μ a'<μ a)∧Sub (S a') s') Q)):J P r c s Q:=qzk S I μ a₀ hc h₀ hI round
theorem z26{A B:Type}(S:A→B→St)(I:A→B→Prop)(μ:A→B→Nat)(a₀:A)(b₀:B)(hc:c= .loop x)(h₀:Sub (S a₀ b₀) s)(hI:I a₀ b₀)
 (round:∀ a b,I a b→J P r x (S a b) (Then (fun s'=> ∃ a' b',(I a' b'∧μ a' b'<μ a b)∧Sub (S a' b') s') Q)):J P r c s Q:=
 qzk (fun p:A×B=>S p.1 p.2) (fun p=>I p.1 p.2) (fun p=>μ p.1 p.2) (a₀,b₀) hc h₀ hI fun p hp=>(round p.1 p.2 hp).mono fun e s' h=>by
  cases e<;>first | exact h | (obtain⟨a',b',h⟩:=h; exact⟨(a',b'),h⟩)
def z6o(Q:AExit→St→Prop):AExit→St→Prop
 | .goto _,_=>False
 | e,s=>Q e s
theorem q4t{b:Frame}{a:Act}{k:List Item}{cs:List Frame}{w:World}{c:Code}:step P (lone (b.atR a (.code (.scope c) :: k)) cs w)= .next (lone (b.atR a (.code c :: .inScope c :: k)) cs w):=
 step_lone_go (by simp[stepG,stepG.exec,Frame.atR])
theorem qka{b:Frame}{a:Act}{k:List Item}{cs:List Frame}{w:World}{c:Code}:step P (lone (b.atR a (.inScope c :: k)) cs w)= .next (lone (b.atR a k) cs w):=
 step_lone_go (by simp[stepG,stepG.exec,Frame.atR])
theorem qtv{F:Fence}{n:Nat}{Q:Exit→Act→World→Prop}{a:Act}{w:World}{c:Code}(h:c.wpIn F n P Q a w)(hg:∀ l a w,¬ Q (.goto l) a w):(Code.scope c).wpIn F n P Q a w:=by
 intro b k cs hro hb hr;obtain⟨e,a₁,w₁,hq,harr⟩:=h b (.inScope c :: k) cs hro hb hr;have h0:(lone (b.atR a (.code (.scope c) :: k)) cs w).fenced P F:=fenced_calm hb hr rfl;cases e with
 | normal=>exact⟨.normal,a₁,w₁,hq,.head h0 q4t (StepsIn.trans harr (.one (fenced_calm hb hr rfl) qka))⟩
 | exit id=>exact⟨.exit id,a₁,w₁,hq,.of_steps (.one h0 q4t) ⟨fun k' hk=>harr.1 k' (by simp[exitTo,hk]),fun hr hk=>harr.2 hr (by simp[exitTo,hk])⟩⟩
 | goto l=>exact(hg l _ _ hq).elim
 | ret=>exact⟨_,a₁,w₁,hq,.of_steps (.one h0 q4t) harr⟩
 | panic ch=>exact⟨_,a₁,w₁,hq,.of_steps (.one h0 q4t) harr⟩
 | outgrown=>exact⟨_,a₁,w₁,hq,.of_steps (.one h0 q4t) harr⟩
theorem qnu(hc:c= .scope x)(h:J P r x s (z6o Q)):J P r c s Q:=by
 subst hc;intro hw hr;obtain⟨e,s',w1,w2,w3,q,k⟩:=h hw hr;have hne:∀ l,e≠ .goto l:=fun l hl=>by subst hl; exact q
 refine⟨e,s',w1,w2,w3,by cases e<;>first | exact q | exact q.elim,fun ρ a w n hrel=>qtv (k ρ a w n hrel) ?_⟩
 rintro l a' w' ⟨ρ',k1,_⟩;cases e<;>first | exact hne _ rfl | simp[AExit.conc]at k1
theorem qua{l:Nat}(hc:c= .label l)(h:Q .normal s):J P r c s Q:=by
 subst hc;exact fun hw _=>⟨.normal,s,hw,zbl _,zbi _,h,fun ρ a w n hrel=>wpIn_label ⟨ρ,rfl,hrel,.refl _ _ _⟩⟩
theorem ql7{id j:Nat}(hb:Nat.beq j id=true)(h:Q .normal s):qku id Q (.exit j) s:=by simp only[qku,hb,if_true]; exact h
theorem z6v{id j:Nat}(hb:Nat.beq j id=false)(h:Q (.exit j) s):qku id Q (.exit j) s:=by simp only[qku,hb,zbn,if_false]; exact h
theorem qct{K:St→Prop}{j:Nat}(h:Q (.exit j) s):Then K Q (.exit j) s:=h
end rules
theorem qxr{P:Program}{sl:List (Nat×AV)}{h:AH}{nt:Nat}{ds:List ADef}{a id off:Nat}{T:TypeId}{cs:List AV}{v:AV}(hl:lk sl a=some (.ptr (some (id,off))))(hc:h.cells id=some cs)(hT:Cell P T)(hv:cs[off]?=some v):
 resV P ⟨sl,h,nt,ds⟩ (.cell a T)=some v:=by
 obtain⟨D,h1,h2,h3⟩:=hT.ex;obtain⟨i,hi,h4⟩:=zbw.1 h3;simp only[resV,hl,hc,h1,hi,h2];exact hv
theorem qtl{P:Program}{sl:List (Nat×AV)}{h:AH}{nt:Nat}{ds:List ADef}{a id off n:Nat}{T:TypeId}{cs l:List AV}(hl:lk sl a=some (.ptr (some (id,off))))(hc:h.cells id=some cs)(hT:Agg P T n)(hn:off+n≤cs.length)(hv:(cs.drop off).take n=l):
 resV P ⟨sl,h,nt,ds⟩ (.cell a T)=some (.agg l):=by
 obtain⟨D,h1,h2,h3⟩:=hT.ex;obtain⟨i,hi,h4⟩:=zbw.1 h3;simp only[resV,hl,hc,h1,hi,h2];subst h4;simp only[ldA,if_true,if_pos hn,hv]
theorem qf4{P:Program}{fn:Func}{Q:AEnd→AH→Prop}{sl:List (Nat×AV)}{h:AH}{nt:Nat}{vs:List AV}(hr:resL P ⟨sl,h,nt,[]⟩ fn.results.toList=some vs)(hq:Q (.ret (oneOf vs)) h):Leaves P fn Q .ret ⟨sl,h,nt,[]⟩:=⟨trivial,vs,hr,hq⟩
theorem q1a{P:Program}{fn:Func}{Q:AEnd→AH→Prop}{sl:List (Nat×AV)}{h:AH}{nt:Nat}{vs:List AV}(hr:resL P ⟨sl,h,nt,[]⟩ fn.results.toList=some vs)(hq:Q (.ret (oneOf vs)) h):Leaves P fn Q .normal ⟨sl,h,nt,[]⟩:=⟨trivial,vs,hr,hq⟩
theorem LeM.butM{M:List Nat}{h h' h'':AH}{i:Nat}(a:LeM M h h')(b:But h' i h'')(hi:i∈M):LeM M h h'':=
 ⟨zbo a.next b.next,fun j c hm hj=>b.get j c (fun e=>by subst e; exact hm hi) (a.get j c hm hj)⟩
theorem LeM.turnM{M N:List Nat}{h h' h'':AH}(a:LeM M h h')(b:LeM N h' h'')(hi:∀ i∈N,i∈M):LeM M h h'':=
 ⟨zbo a.next b.next,fun j c hm hj=>b.get j c (fun e=>hm (hi j e)) (a.get j c hm hj)⟩
theorem SlO.ne{h:AH}{i j n esz:Nat}{E:List AV→Prop}(a:SlO h j n esz E)(hn:h.get i=none):j≠i:=by
 obtain⟨cs,h1,_⟩:=a; exact q8c hn h1
theorem Own.sl1{h:AH}{i n:Nat}{cs:List AV}{E:List AV→Prop}(a:Own h i cs)(hn:cs.length=n)(hE:∀ v∈cs,E [v]):SlV h (some (i,0)) n 1 E:=fun _=>by
 refine⟨i,0,cs,rfl,a.cells,by omega,fun k k0 k1=>?_⟩
 have hk:k.toNat<cs.length:=by omega
 refine⟨[cs[k.toNat]],rfl,hE _ (List.getElem_mem hk),?_⟩;rw[zbv,Nat.mul_one,List.drop_eq_getElem_cons hk]; rfl
section rules
variable{P:Program}{r:Option Nat}{sl:List (Nat×AV)}{h₀:AH}{nt:Nat}{ds:List ADef}{Q:AExit→St→Prop}{o:Oper}{d:Nat}{x y:Operand}
theorem qar(w:World)(b:Nat)(o:Obj)(B:Nat)(hB:B≠b):({w with heap:=w.heap.setIfInBounds b o}:World).heap[B]?=w.heap[B]?:=by
 show(w.heap.setIfInBounds b o)[B]?=_;rw[Array.getElem?_setIfInBounds_ne (Ne.symm hB)]
theorem qrp{w:World}{b:Nat}{o o':Obj}(hb:w.heap[b]?=some o):({w with heap:=w.heap.setIfInBounds b o'}:World).heap[b]?=some o':=by
 have hlt:b<w.heap.size:=(zch.1 hb).1;show(w.heap.setIfInBounds b o')[b]?=_;simp[hlt]
theorem qdw{id:Nat}{c c':Chunk}{v:AV}{s:St}{ob:Ren→Obj}(hd:o.dst=some d)(hdn:d<s.n)(hdef:Oper.noDefer o=true)(hg:s.h.get id=some c)(hc:c.isRo=false)(hwf:s.wf→c'.sup≤s.h.next∧v.sup≤s.h.next)
 (hrun:s.wf→ ∀ ρ a w,Rel ρ s a w→Real ρ id w c→(∃ o0,w.heap[ρ.blk id]?=some o0)∧(execOp a.eval o).run P w= .ok (.value (conc ρ v)) {w with heap:=w.heap.setIfInBounds (ρ.blk id) (ob ρ)}∧ ∀ w',w'.heap[ρ.blk id]?=some (ob ρ)→Real ρ id w' c')
 (h:Q .normal ⟨(d,v) :: s.slots,s.h.set id c',s.n,s.defs⟩):JO P r o s Q:=by
 refine qc8 hd hdn hdef (fun hw=>⟨AH.za5 hw.2.1 (hw.2.1 id _ hg).1 (hwf hw).1,zbi _,(hwf hw).2⟩) (fun hw ρ a w hrel=>?_) h
 obtain⟨⟨o0,h0⟩,h1,h2⟩:=hrun hw ρ a w hrel (hrel.2.2.1 id _ hg);exact⟨ρ,_,h1,HRel.setBlk hrel.2.2 hg hc (fun B hB=>qar w _ _ B hB) (h2 _ (qrp h0)),Fr.setBlk hg hc ⟨rfl,rfl,rfl⟩ (by simp) (fun B hB=>qar w _ _ B hB)⟩
theorem qu0{T:TypeId}{p:ByteArray}(hT:P.underlying T=some .string)(ho:o.op= .range T x)(hd:o.dst=some d)(hdn:d<nt)(hx:ev sl x=some (.str p))
 (h:∀ i h',New h₀ i (.siter p 0) h'→Q .normal ⟨(d,.ptr (some (i,0))) :: sl,h',nt,ds⟩):JO P r o ⟨sl,h₀,nt,ds⟩ Q:=
 qb6 fun hw=>qdv (cap:=0) (s:=⟨sl,h₀,nt,ds⟩) hd hdn (by simp[Oper.noDefer,ho]) (fun _=>⟨zbl _,by simp[AV.sup,supA]⟩) (fun hw ρ a w hrel=>by
  refine⟨.stringIter p 0,w.drawn,?_,by simp[Ren.plus],by simp[Ren.plus]⟩
  simp only[execOp,ho,q03 hrel hx,conc];simp[Instr.range,run_underlying hT,conc,Ren.addr,Ren.plus]) (h _ _ (.of (AH.z9w _ _) hw.2.1))
theorem qh5(s:ByteArray)(pos:Nat):1≤(Utf8.decode s pos).2:=by
 simp only[Utf8.decode]
 repeat' split
 all_goals simp
theorem qza{i pos:Nat}{p:ByteArray}(ho:o.op= .next x true)(hd:o.dst=some d)(hdn:d<nt)(hx:ev sl x=some (.ptr (some (i,0))))(hg:h₀.get i=some (.siter p pos))
 (h1:pos<p.size→ ∀ (c:Int) (pos':Nat),pos<pos'→ ∀ h',But h₀ i h'→h'.get i=some (.siter p pos')→Q .normal ⟨(d,.tuple [.bool true,.int .i64 pos,.int .i32 c]) :: sl,h',nt,ds⟩)
 (h2:¬ pos<p.size→Q .normal ⟨(d,.tuple [.bool false]) :: sl,h₀,nt,ds⟩):JO P r o ⟨sl,h₀,nt,ds⟩ Q:=by
 by_cases hlt:pos<p.size
 · have hset:=AH.za4 h₀ i (.siter p (pos+(Utf8.decode p pos).2))
   refine qdw (id:=i) (c:= .siter p pos) (c':= .siter p (pos+(Utf8.decode p pos).2)) (v:= .tuple [.bool true,.int .i64 pos,.int .i32 (Utf8.decode p pos).1]) (s:=⟨sl,h₀,nt,ds⟩) (ob:=fun _=> .stringIter p (pos+(Utf8.decode p pos).2))
    hd hdn (by simp[Oper.noDefer,ho]) hg rfl (fun _=>⟨zbl _,by simp[AV.sup,supL]⟩) (fun hw ρ a w hrel hreal=>⟨⟨_,hreal.2⟩,?_,fun w' hw'=>⟨hreal.1,hw'⟩⟩)
    (h1 hlt _ _ (by have:=qh5 p pos; omega) _ hset.but hset.new)
   have he:=q03 hrel hx;have h0:=hreal.1;simp only[execOp,ho,he,conc,zbp,Ren.addr,h0,zbv];simp[Instr.next,getObj,Sem.run,hreal.2,hlt,setObj,goInt,q04,conc]
 · refine q0t (s:=⟨sl,h₀,nt,ds⟩) (v:= .tuple [.bool false]) hd hdn (by simp[Oper.noDefer,ho]) (fun _=>by simp[AV.sup,supL]) (fun ρ a w hrel=>?_) (h2 hlt)
   have hreal:=hrel.2.2.1 i _ hg;have he:=q03 hrel hx;have h0:=hreal.1;simp only[execOp,ho,he,conc,zbp,Ren.addr,h0,zbv];simp[Instr.next,getObj,Sem.run,hreal.2,hlt,q04,conc]
theorem z66{ops:Array Oper}{l:List Nat}{i j g:Nat}{want:Bool}{oj:Oper}(ho:ops[i]?=some o)(hg:o.guard=some (j,want))(hj:ops[j]?=some oj)(hd:oj.dst=some g)(hb:lk sl g=some (.tuple []))(hod:o.dst=some d)(hdn:d<nt)
 (h:JL P r ops l ⟨(d,.tuple []) :: sl,h₀,nt,ds⟩ Q):JL P r ops (i :: l) ⟨sl,h₀,nt,ds⟩ Q:=by
 intro hw hr;obtain⟨e,s',w1,w2,w3,q,x⟩:=h (qil (s:=⟨sl,h₀,nt,ds⟩) hw hw.2.1 (zbi _) (zbl _)) hr;refine⟨e,s',w1,w2,w3,q,fun ρ a w n hrel=>?_⟩
 have hy:yielded ops a.tmps j=none:=by
  have:=hrel.1.2 g _ hb;simp[yielded,hj,hd,this,conc]
 have hwant:Region.wanted o (yielded ops a.tmps)=false:=by simp[Region.wanted,hg,hy]
 simp only[wpOpsIn,ho,hwant,if_false,zbn];refine⟨fun _ _=>trivial,?_⟩
 have:=hrel.put (v:= .tuple []) hw hrel.2.2 (.refl _ _ _) (show d<nt from hdn);rw[hod];exact x ρ _ w n (by simpa [conc,q04,undef]using this)
end rules
def z2o(P:Program)(S:TypeId)(i:Nat):Option (Nat×TypeId):=match P.underlying S with
 | some (.struct fs)=>(fs[i]?).map fun f=>(f.offset,f.type)
 | _=>none
theorem q1y.of{P:Program}{S:TypeId}{i off:Nat}{T:TypeId}(h:z2o P S i=some (off,T)):q1y P S i off T:=by
 unfold z2o at h;split at h
 · rename_i fs hfs
   obtain⟨f,h1,h2⟩:=zbw.1 h;simp only[zbt]at h2;exact⟨fs,f,hfs,h1,h2.1,h2.2⟩
 · simp at h
theorem q26.of{P:Program}{T:TypeId}{z:AV}(h:(match P.info? T with | some i=>(match i.zero with | some v=>absv v | none=>none) | none=>none)=some z):q26 P T z:=by
 split at h
 · rename_i i hi
   split at h
   · rename_i v hv; exact⟨i,v,hi,hv,h⟩
   · simp at h
 · simp at h
def qxn(P:Program)(T:TypeId):Option (List (Nat×Option Nat)):=match P.underlying T with
 | some (.struct fs)=>some (fs.toList.map fun f=>(f.offset,(P.info? f.type).map (·.size)))
 | _=>none
theorem qdr.of{P:Program}{T:TypeId}{pl:List (Nat×Nat)}(h:qxn P T=some (pl.map fun p=>(p.1,some p.2))):qdr P T pl:=by
 unfold qxn at h;split at h
 · rename_i fs hfs; exact⟨fs,hfs,by simpa using h⟩
 · simp at h
def qot(P:Program)(T:TypeId):Bool:=match P.underlying T with
 | some (.int _)=>false
 | some _=>true
 | none=>false
theorem notInt.of{P:Program}{T:TypeId}(h:qot P T=true):∃ D,P.underlying T=some D∧ ∀ k,D≠ .int k:=by
 unfold qot at h;split at h
 · simp at h
 · rename_i D hne hD; exact⟨D,hD,fun k e=>hne k e⟩
 · simp at h
def hAt(H:List AH)(k:Nat):AH:=H.getD k ⟨0,fun _=>none⟩
def q1f(H:List AH):AH:=hAt H (H.length - 1)
def qgo(m:Nat):Nat×Option Nat→Bool
 | (_,some i)=>Nat.blt i m
 | (_,none)=>true
theorem q4g{sl0:List (Nat×AV)}{V:List AV}{v:AV}:∀ {src:Src},src.all (qgo V.length)=true→q0d sl0 (V++[v]) src=q0d sl0 V src
 | [],_=>rfl
 | (t,none) :: r,h=>by
   simp only[List.all_cons,zbf]at h;simp only[q0d,q4g h.2]
 | (t,some i) :: r,h=>by
   simp only[List.all_cons,zbf,qgo,Nat.blt_eq]at h;simp only[q0d,q4g h.2,zck h.1]
theorem qby{m:Nat}{src:Src}(h:src.all (qgo m)=true):src.all (qgo (m+1))=true:=by
 refine zc1.2 fun x hx=>?_
 have:=zc1.1 h x hx;obtain⟨t,_ | i⟩:=x
 · rfl
 · simp only[qgo,Nat.blt_eq]at this ⊢; omega
theorem q88{H:List AH}{h:AH}{k:Nat}(hk:k<H.length):hAt (H++[h]) k=hAt H k:=by
 simp[hAt,List.getD_eq_getElem?_getD,zck hk]
theorem qw5{H:List AH}{h:AH}:hAt (H++[h]) H.length=h:=by simp[hAt,List.getD_eq_getElem?_getD]
theorem qw6{H:List AH}{h:AH}:q1f (H++[h])=h:=by simp[q1f,hAt,List.getD_eq_getElem?_getD]
section
variable(P:Program)(r:Option Nat)(ops:Array Oper)(sl0:List (Nat×AV))(n:Nat)(ds:List ADef)(srcs:List Src)
def Good(V:List AV)(H:List AH)(done:List (Nat×Nat×Bool)):Prop:=
 ∀ x∈done,∃ o v,ops[x.1]?=some o∧V[x.1]?=some v∧x.2.1<H.length∧(x.2.2=true→x.2.1+1<H.length)∧(srcs.getD x.1 []).all (qgo V.length)=true∧
   OpDo P r ops o ⟨q0d sl0 V (srcs.getD x.1 []),hAt H x.2.1,n,ds⟩ (if x.2.2 then hAt H (x.2.1+1) else hAt H x.2.1) v
structure Sane(V:List AV)(H:List AH):Prop where
 ne:0<H.length
 wf:(q1f H).wf
 sl:∀ k v,lk sl0 k=some v→v.sup≤(q1f H).next
 vs:∀ v∈V,v.sup≤(q1f H).next
 dd:supD ds≤(q1f H).next
 rr:rsup r≤(q1f H).next
def JD(G:Prop)(V:List AV)(H:List AH)(done:List (Nat×Nat×Bool)):Prop:=
 Good P r ops sl0 n ds srcs V H done→Sane r sl0 ds V H→G
def DP(G:Prop)(V:List AV)(H:List AH)(done:List (Nat×Nat×Bool))(d:Nat)(e:AExit)(s:St):Prop:=
 e= .normal∧s.h=q1f H∧s.n=n∧s.defs=ds∧ ∃ v,lk s.slots d=some v∧JD P r ops sl0 n ds srcs G (V++[v]) H (done++[(V.length,H.length - 1,false)])
def DE(G:Prop)(V:List AV)(H:List AH)(done:List (Nat×Nat×Bool))(d:Nat)(e:AExit)(s:St):Prop:=
 e= .normal∧s.n=n∧s.defs=ds∧ ∃ v,lk s.slots d=some v∧JD P r ops sl0 n ds srcs G (V++[v]) (H++[s.h]) (done++[(V.length,H.length - 1,true)])
def DA(G:Prop)(V:List AV)(H:List AH)(done:List (Nat×Nat×Bool))(e:AExit)(s:St):Prop:=
 e= .normal∧s.n=n∧s.defs=ds∧JD P r ops sl0 n ds srcs G (V++[.tuple []]) (H++[s.h]) (done++[(V.length,H.length - 1,true)])
def DR(G:Prop)(V:List AV)(H:List AH)(done:List (Nat×Nat×Bool))(j d:Nat)(v:AV)(e:AExit)(s:St):Prop:=
 e= .normal∧s.h=q1f H∧s.n=n∧s.defs=ds∧lk s.slots d=some v∧JD P r ops sl0 n ds srcs G V H (done++[(j,H.length - 1,false)])
end
section rules
variable{P:Program}{r:Option Nat}{ops:Array Oper}{sl0:List (Nat×AV)}{n:Nat}{ds:List ADef}{srcs:List Src}{G:Prop}{V:List AV}{H:List AH}{done:List (Nat×Nat×Bool)}{o:Oper}{d j:Nat}{v:AV}{s:St}
theorem q4w{V':List AV}{D':List (Nat×Nat×Bool)}(h1:s.h=q1f H)(h2:s.n=n)(h3:s.defs=ds)(hv:lk s.slots d=some v)(eV:V++[v]=V')(eD:done++[(V.length,H.length - 1,false)]=D')(h:JD P r ops sl0 n ds srcs G V' H D'):DP P r ops sl0 n ds srcs G V H done d .normal s:=⟨rfl,h1,h2,h3,v,hv,by rw[eV,eD]; exact h⟩
theorem Sane.st(hs:Sane r sl0 ds V H)(src:Src):St.wf ⟨q0d sl0 V src,q1f H,n,ds⟩:=by
 refine⟨fun k v hk=>?_,hs.wf,hs.dd⟩
 have:=qwp hk;clear hk
 induction src with
 | nil=>simp[q0d]at this
 | cons x l ih=>
   obtain⟨t,_ | i⟩:=x
   · simp only[q0d]at this
     split at this
     · rename_i u hu
       rcases zbm.1 this with h | h
       · cases h; exact hs.sl _ _ hu
       · exact ih h
     · exact ih this
   · simp only[q0d]at this
     split at this
     · rename_i u hu
       rcases zbm.1 this with h | h
       · cases h; exact hs.vs v (zc4 hu)
       · exact ih h
     · exact ih this
theorem Good.more(hg:Good P r ops sl0 n ds srcs V H done)(v:AV):Good P r ops sl0 n ds srcs (V++[v]) H done:=fun x hx=>by
 obtain⟨o,u,h1,h2,h3,h4,h5,h6⟩:=hg x hx;have hl:x.1<V.length:=(zci.1 h2).1;exact⟨o,u,h1,by rw[zck hl]; exact h2,h3,h4,by rw[zc8]; exact qby h5,by rw[q4g h5]; exact h6⟩
theorem qkx{P:Program}{r:Option Nat}{o:Oper}{s:St}{Q:AExit→St→Prop}(h:JO P r o s Q)(hw:s.wf)(hr:rsup r≤s.h.next):∃ e s',s'.wf∧s.h.next≤s'.h.next∧Q e s'∧JO P r o s (fun e2 s2=>e2=e∧s2=s'):=by
 obtain⟨e,s',w1,w2,w3,q,x⟩:=h hw hr;exact⟨e,s',w1,w3,q,fun _ _=>⟨e,s',w1,w2,w3,⟨rfl,rfl⟩,x⟩⟩
theorem z92(hj:V.length=j)(ho:ops[j]?=some o)(hd:o.dst=some d)(hdn:d<n)(hsrc:(srcs.getD j []).all (qgo V.length)=true)(hwant:q1d ops o (q0d sl0 V (srcs.getD j []))=some true)
 (h:JO P r o ⟨q0d sl0 V (srcs.getD j []),q1f H,n,ds⟩ (DP P r ops sl0 n ds srcs G V H done d)):JD P r ops sl0 n ds srcs G V H done:=by
 intro hg hs;subst hj;obtain⟨e,s',w1,w3,⟨rfl,q1,q2,q3,v,q4,q5⟩,hx⟩:=qkx h (hs.st _) hs.rr;have hv:v.sup≤(q1f H).next:=by rw[←q1]; exact w1.1 d v q4
 refine q5 (fun x hx'=>?_) ⟨hs.ne,hs.wf,hs.sl,fun u hu=>?_,hs.dd,hs.rr⟩
 · rcases zbr.1 hx' with h1 | h1
   · exact hg.more v x h1
   · simp only[zbs]at h1
     subst h1;have h0:=hs.ne;refine⟨o,v,ho,by simp,by simp only; omega,by simp,by rw[zc8]; exact qby hsrc,?_⟩
     rw[q4g hsrc];refine .inl ⟨hwant,hx.mono ?_⟩;rintro e2 s2 ⟨rfl,rfl⟩;exact⟨rfl,q1,q3,q2,fun d' hd'=>by rw[hd]at hd'; cases hd'; exact⟨hdn,q4⟩⟩
 · rcases zbr.1 hu with h1 | h1
   · exact hs.vs u h1
   · simp at h1; subst h1; exact hv
def qvb(ops:Array Oper)(effs:List Nat)(done:List (Nat×Nat×Bool))(stages:Nat):Bool:=
 let bf:=befs ops
 Nat.beq effs.length stages&&(List.range ops.size).all fun j=>(List.range (stages+1)).all fun k=> !(Nat.ble (loOf bf j 0 effs) k&&Nat.ble k (hiOf bf j 0 effs))||done.any fun x=>Nat.beq x.1 j&&Nat.beq x.2.1 k&&(x.2.2==effs.contains j)
theorem qob{bf:List (List Nat)}{j:Nat}:∀ {effs:List Nat} {q:Nat},hiOf bf j q effs≤q+effs.length
 | [],q=>by simp[hiOf]
 | e :: l,q=>by
   simp only[hiOf,zce];split
   · omega
   · split
     · omega
     · have:=qob (bf:=bf) (j:=j) (effs:=l) (q:=q+1); omega
theorem z23{c:Code}{id:Nat}{h0:AH}{Q:AExit→St→Prop}{slF:List (Nat×AV)}{effs:List Nat}{fin:Src}(hc:c= .region id ops true)(hmix:P.follows .mixedOrders=true)
 (hplan:qi1 ops effs srcs fin=true)(hcov:qvb ops effs done (H.length - 1)=true)(h1:hAt H 0=h0)(hF:q0d sl0 V fin=slF)(hq:Q .normal ⟨slF,q1f H,n,ds⟩):JD P r ops sl0 n ds srcs (J P r c ⟨sl0,h0,n,ds⟩ Q) V H done:=by
 intro hg hs;simp only[qvb,zbf]at hcov;obtain⟨hc1,hc2⟩:=hcov;have hlen:effs.length=H.length - 1:=zbg hc1;refine z24 hc hmix effs srcs fin V (hAt H) hplan h1 (by rw[hlen]; rfl) ?_ hF hq
 have key:∀ j o,ops[j]?=some o→ ∀ k,loOf (befs ops) j 0 effs≤k→k≤hiOf (befs ops) j 0 effs→ ∃ v,V[j]?=some v∧OpDo P r ops o ⟨q0d sl0 V (srcs.getD j []),hAt H k,n,ds⟩ (if effs.contains j then hAt H (k+1) else hAt H k) v:=by
  intro j o ho k k1 k2;have hj:j<ops.size:=(zch.1 ho).1;have hk:k<H.length - 1+1:=by have:=qob (bf:=befs ops) (j:=j) (effs:=effs) (q:=0); omega
  have:=zc1.1 (zc1.1 hc2 j (by simpa using hj)) k (by simpa using hk)
  simp only[zbu,Bool.not_eq_true',Bool.and_eq_false_iff]at this;rcases this with(h | h) | h
  · rw[Nat.ble_eq_true_of_le k1]at h; cases h
  · rw[Nat.ble_eq_true_of_le k2]at h; cases h
  · obtain⟨⟨a,b,f⟩,hx,hxe⟩:=List.any_eq_true.1 h
    simp only[zbf,beq_iff_eq]at hxe;obtain⟨⟨e1,e2⟩,e3⟩:=hxe;have e1:=zbg e1;have e2:=zbg e2;subst e1; subst e2; subst e3;obtain⟨o',v,g1,g2,_,_,_,g6⟩:=hg _ hx;rw[ho]at g1; cases g1;exact⟨v,g2,g6⟩
 have all:∀ (l:List Oper) (i:Nat),(∀ j o,l[j]?=some o→ops[i+j]?=some o)→qcx P r ops sl0 V srcs effs (hAt H) n ds (befs ops) l i:=by
  intro l
  induction l with
  | nil=>intro i _; trivial
  | cons o l ih=>
    intro i hl;exact⟨key i o (by simpa using hl 0 o rfl),ih (i+1) fun j o' hj=>by have:=hl (j+1) o' (by simpa using hj); rw[show i+1+j=i+(j+1) by omega]; exact this⟩
 exact all ops.toList 0 fun j o ho=>by rw[zbv,←Array.getElem?_toList]; exact ho
section primed
variable{sl:List (Nat×AV)}{h₁:AH}
theorem d_op(hj:V.length=j)(ho:ops[j]?=some o)(hd:o.dst=some d)(hdn:d<n)(hsrc:(srcs.getD j []).all (qgo V.length)=true)(hsl:q0d sl0 V (srcs.getD j [])=sl)(hh:q1f H=h₁)(hwant:q1d ops o sl=some true)
 (h:JO P r o ⟨sl,h₁,n,ds⟩ (DP P r ops sl0 n ds srcs G V H done d)):JD P r ops sl0 n ds srcs G V H done:=by
 subst hsl; subst hh; exact z92 hj ho hd hdn hsrc hwant h
end primed
theorem qu8{c:Code}{h0:AH}{Q:AExit→St→Prop}(ops:Array Oper)(srcs:List Src)(h:JD P r ops sl0 n ds srcs (J P r c ⟨sl0,h0,n,ds⟩ Q) [] [h0] []):J P r c ⟨sl0,h0,n,ds⟩ Q:=by
 intro hw hr;exact h (fun x hx=>by simp at hx) ⟨by simp,hw.2.1,hw.1,by simp,hw.2.2,hr⟩ hw hr
end rules
def Rng(cs:List AV)(lo hi:Nat)(a b:Int):Prop:= ∀ k:Nat,lo≤k→k<hi→ ∃ n:Int,cs[k]?=some (.int .i64 n)∧a≤n∧n≤b
theorem qy4{cs:List AV}{off:Nat}{v:AV}(h:off<cs.length):(splice cs off [v])[off]?=some v:=by
 have:(cs.take off).length=off:=by rw[zcc]; omega
 unfold splice;rw[List.append_assoc,zcl (by omega),this,Nat.sub_self]; rfl
theorem qn0{cs:List AV}{off k:Nat}{v:AV}(h:off<cs.length)(hk:k≠off):(splice cs off [v])[k]?=cs[k]?:=by
 have hl:(cs.take off).length=off:=by rw[zcc]; omega
 unfold splice;rcases Nat.lt_or_gt_of_ne hk with c | c
 · rw[List.append_assoc,zck (by omega),List.getElem?_take_of_lt c]
 · rw[zcl (by rw[zc8,hl]; simp; omega),zc8,hl,zcq]
   congr 1; simp; omega
theorem Rng.set{cs:List AV}{lo hi off:Nat}{a b n:Int}(r:Rng cs lo hi a b)(h:off<cs.length)(h1:a≤n)(h2:n≤b):Rng (splice cs off [.int .i64 n]) lo hi a b:=fun k k0 k1=>by
 by_cases c:k=off
 · subst c; exact⟨n,qy4 h,h1,h2⟩
 · rw[qn0 h c]; exact r k k0 k1
theorem Rng.put{cs:List AV}{lo hi off:Nat}{a b:Int}{v:AV}(r:Rng cs lo hi a b)(h:off<cs.length)(ho:off<lo∨hi≤off):Rng (splice cs off [v]) lo hi a b:=fun k k0 k1=>by
 rw[qn0 h (by omega)]; exact r k k0 k1
theorem Rng.rep{cs pre post:List AV}{m lo hi:Nat}{z a b:Int}(h:cs=pre++(List.replicate m (.int .i64 z)++post))(hl:pre.length=lo)(hh:lo+m=hi)(h1:a≤z)(h2:z≤b):Rng cs lo hi a b:=fun k k0 k1=>by
 refine⟨z,?_,h1,h2⟩;rw[h,zcl (by omega),zck (by simp; omega),List.getElem?_replicate,if_pos (by omega)]
theorem But.free{h h':AH}{i c:Nat}(b:But h i h')(hne:c≠i)(hn:h'.get c=none):h.get c=none:=by
 cases hg:h.get c with
 | none=>rfl
 | some ck=>rw[b.get c ck hne hg]at hn; cases hn
theorem LeM.free{h h':AH}{M:List Nat}{c:Nat}(b:LeM M h h')(hne:c∉M)(hn:h'.get c=none):h.get c=none:=by
 cases hg:h.get c with
 | none=>rfl
 | some ck=>rw[b.get c ck hne hg]at hn; cases hn
theorem qoq{h:AH}{i j:Nat}{cs:List AV}(hn:h.get i=none)(hj:h.cells j=some cs):j≠i:=fun e=>by
 subst e; simp[AH.cells,hn]at hj
theorem But.cells{h h':AH}{i j:Nat}{cs:List AV}(b:But h i h')(hne:j≠i)(hc:h.cells j=some cs):h'.cells j=some cs:=by
 unfold AH.cells at hc ⊢;cases hg:h.get j with
 | none=>simp[hg]at hc
 | some c=>rw[b.get j c hne hg]; rw[hg]at hc; exact hc
theorem StepB.own{hB h h':AH}{v:AV}{n esz j:Nat}{E:List AV→Prop}{cs:List AV}(s:StepB v h h')(b:Bld hB h v n esz E){ck:Chunk}(hj:hB.get j=some ck)(o:Own h j cs):Own h' j cs:=by
 refine s.get j _ (fun o' n' k e=>?_) o
 rcases b with⟨_,rfl⟩ | ⟨i,cs',rfl,_,hf,_⟩
 · cases e
 · cases e; rw[hf.1]at hj; cases hj
def nmA(p:Nat→Bool):Option (Nat×Nat)→Bool
 | some q=>p q.1
 | none=>true
def nmO(p:Nat→Bool):Option Nat→Bool
 | some q=>p q
 | none=>true
mutual
def AV.nm(p:Nat→Bool):AV→Bool
 | .bool _=>true
 | .int _ _=>true
 | .str _=>true
 | .ptr a=>nmA p a
 | .slice a _ _=>nmA p a
 | .map r=>nmO p r
 | .fn _ first captured=>nmL p first&&nmL p captured
 | .yield l=>p l
 | .nilFunc=>true
 | .iface _ v=>v.nm p
 | .nilIface=>true
 | .agg cs=>nmL p cs
 | .tuple vs=>nmL p vs
def nmL(p:Nat→Bool):List AV→Bool
 | []=>true
 | v :: r=>v.nm p&&nmL p r
end
def qu1(p:Nat→Bool)(ρ ρ':Ren):Prop:= ∀ i,p i=true→ρ'.blk i=ρ.blk i∧ρ'.off i=ρ.off i∧ρ'.cap i=ρ.cap i
mutual
theorem q92{p:Nat→Bool}{ρ ρ':Ren}(h:qu1 p ρ ρ'):∀ v:AV,v.nm p=true→conc ρ' v=conc ρ v
 | .bool _,_=>rfl
 | .int _ _,_=>rfl
 | .str _,_=>rfl
 | .ptr none,_=>rfl
 | .ptr (some q),hs=>by
   simp only[AV.nm,nmA]at hs;obtain⟨a,b,_⟩:=h _ hs;simp only[conc,zbp,Ren.addr,a,b]
 | .slice none _ c,_=>by cases c<;>rfl
 | .slice (some q) _ c,hs=>by
   simp only[AV.nm,nmA]at hs;obtain⟨a,b,d⟩:=h _ hs;cases c<;>simp only[conc,Cap.conc,zbp,Ren.addr,a,b,d]
 | .map none,_=>rfl
 | .map (some r),hs=>by
   simp only[AV.nm,nmO]at hs;obtain⟨a,_,_⟩:=h _ hs;simp only[conc,zbp,a]
 | .fn f first captured,hs=>by
   simp only[AV.nm,zbf]at hs;simp only[conc,q7z h first hs.1,q7z h captured hs.2]
 | .yield l,hs=>by
   simp only[AV.nm]at hs;obtain⟨a,_,_⟩:=h _ hs;simp only[conc,a]
 | .nilFunc,_=>rfl
 | .iface t v,hs=>by
   simp only[AV.nm]at hs;simp only[conc,q92 h v hs]
 | .nilIface,_=>rfl
 | .agg cs,hs=>by
   simp only[AV.nm]at hs;simp only[conc,q7z h cs hs]
 | .tuple vs,hs=>by
   simp only[AV.nm]at hs;simp only[conc,q7z h vs hs]
theorem q7z{p:Nat→Bool}{ρ ρ':Ren}(h:qu1 p ρ ρ'):∀ l:List AV,nmL p l=true→q04 ρ' l=q04 ρ l
 | [],_=>rfl
 | v :: r,hs=>by
   simp only[nmL,zbf]at hs;simp only[q04,q92 h v hs.1,q7z h r hs.2]
end
theorem qos{p:Nat→Bool}:∀ {l:List AV} {i:Nat} {v:AV},nmL p l=true→l[i]?=some v→v.nm p=true
 | [],i,v,_,h=>by simp at h
 | x :: l,0,v,hs,h=>by simp at h; subst h; simp only[nmL,zbf]at hs; exact hs.1
 | x :: l,i+1,v,hs,h=>by simp only[nmL,zbf]at hs; exact qos hs.2 (by simpa using h)
mutual
theorem nm_sup{p:Nat→Bool}{n:Nat}(hp:∀ i,i<n→p i=true):∀ v:AV,v.sup≤n→v.nm p=true
 | .bool _,_=>rfl
 | .int _ _,_=>rfl
 | .str _,_=>rfl
 | .ptr none,_=>rfl
 | .ptr (some q),hs=>by simp only[AV.sup,supA]at hs; exact hp _ (by omega)
 | .slice none _ c,_=>rfl
 | .slice (some q) _ c,hs=>by simp only[AV.sup,supA]at hs; exact hp _ (by omega)
 | .map none,_=>rfl
 | .map (some r),hs=>by simp only[AV.sup]at hs; exact hp _ (by omega)
 | .fn f first captured,hs=>by
   simp only[AV.sup]at hs;simp only[AV.nm,q7h hp first (by omega),q7h hp captured (by omega),Bool.and_self]
 | .yield l,hs=>by simp only[AV.sup]at hs; exact hp _ (by omega)
 | .nilFunc,_=>rfl
 | .iface t v,hs=>by simp only[AV.sup]at hs; simp only[AV.nm]; exact nm_sup hp v hs
 | .nilIface,_=>rfl
 | .agg cs,hs=>by simp only[AV.sup]at hs; simp only[AV.nm]; exact q7h hp cs hs
 | .tuple vs,hs=>by simp only[AV.sup]at hs; simp only[AV.nm]; exact q7h hp vs hs
theorem q7h{p:Nat→Bool}{n:Nat}(hp:∀ i,i<n→p i=true):∀ l:List AV,supL l≤n→nmL p l=true
 | [],_=>rfl
 | v :: r,hs=>by
   simp only[supL]at hs;simp only[nmL,nm_sup hp v (by omega),q7h hp r (by omega),Bool.and_self]
end
def nmT(p:Nat→Bool):List (Nat×AV)→Bool
 | []=>true
 | kv :: r=>kv.2.nm p&&nmT p r
def nmE(p:Nat→Bool):List (AV×AV×Nat)→Bool
 | []=>true
 | e :: r=>e.1.nm p&&e.2.1.nm p&&nmE p r
def Chunk.nm(p:Nat→Bool):Chunk→Bool
 | .ro cs=>nmL p cs
 | .own cs=>nmL p cs
 | .grow _ cs=>nmL p cs
 | .map es _=>nmE p es
 | .siter _ _=>true
 | .loop _ _ ts _ _ _ _ m=>nmT p ts&&p m
 | .mark=>true
theorem z2x{p:Nat→Bool}:∀ {l:List (Nat×AV)} {k:Nat} {v:AV},nmT p l=true→lk l k=some v→v.nm p=true
 | [],_,_,_,h=>by simp[lk]at h
 | kv :: r,k,v,hs,h=>by
   simp only[nmT,zbf]at hs;simp only[lk]at h;split at h
   · simp at h; subst h; exact hs.1
   · exact z2x hs.2 h
theorem qx4{p:Nat→Bool}:∀ {l:List (AV×AV×Nat)},nmE p l=true→ ∀ e∈l,e.1.nm p=true∧e.2.1.nm p=true
 | [],_,e,he=>by cases he
 | x :: l,hs,e,he=>by
   simp only[nmE,zbf]at hs;rcases zbm.1 he with rfl | he
   · exact hs.1
   · exact qx4 hs.2 e he
theorem qx6{p:Nat→Bool}{n:Nat}(hp:∀ i,i<n→p i=true):∀ l:List (Nat×AV),supT l≤n→nmT p l=true
 | [],_=>rfl
 | kv :: r,hs=>by
   simp only[supT]at hs;simp only[nmT,nm_sup hp kv.2 (by omega),qx6 hp r (by omega),Bool.and_self]
theorem qx5{p:Nat→Bool}{n:Nat}(hp:∀ i,i<n→p i=true):∀ l:List (AV×AV×Nat),supE l≤n→nmE p l=true
 | [],_=>rfl
 | e :: r,hs=>by
   simp only[supE]at hs;simp only[nmE,nm_sup hp e.1 (by omega),nm_sup hp e.2.1 (by omega),qx5 hp r (by omega),Bool.and_self]
theorem Chunk.za7{p:Nat→Bool}{n:Nat}(hp:∀ i,i<n→p i=true){c:Chunk}(h:c.sup≤n):c.nm p=true:=by
 cases c with
 | ro cs=>exact q7h hp cs h
 | own cs=>exact q7h hp cs h
 | grow e cs=>exact q7h hp cs h
 | map es cl=>exact qx5 hp es h
 | siter _ _=>rfl
 | loop st pd ts nt ps a b m=>
   simp only[Chunk.sup]at h;simp only[Chunk.nm,qx6 hp ts (by omega),hp m (by omega),Bool.and_self]
 | mark=>rfl
theorem qg1{p:Nat→Bool}{ρ ρ':Ren}{ts:List (Nat×AV)}{n:Nat}{tmps:Array Value}(h:q2e ρ ts n tmps)(he:qu1 p ρ ρ')(hs:∀ k v,lk ts k=some v→v.nm p=true):q2e ρ' ts n tmps:=
 ⟨h.1,fun k v hk=>by rw[h.2 k v hk,q92 he v (hs k v hk)]⟩
theorem Real.nm{p:Nat→Bool}{ρ ρ':Ren}{id:Nat}{w:World}{c:Chunk}(h:Real ρ id w c)(he:qu1 p ρ ρ')(hid:p id=true)(hs:c.nm p=true):Real ρ' id w c:=by
 obtain⟨e1,e2,e3⟩:=he id hid;cases c with
 | ro cs=>
   refine⟨by rw[e1]; exact h.1,fun i v hv=>?_⟩
   rw[e1,e2,q92 he v (qos hs hv)]; exact h.2 i v hv
 | own cs=>
   obtain⟨h0,e,h⟩:=h;exact⟨by rw[e2]; exact h0,e,by rw[e1,q7z he cs hs]; exact h⟩
 | grow e cs=>
   obtain⟨h0,e,arr,h,h1,h2,h3⟩:=h;exact⟨by rw[e2]; exact h0,e,arr,by rw[e1]; exact h,by rw[e3]; exact h1,h2,fun i v hv=>by rw[q92 he v (qos hs hv)]; exact h3 i v hv⟩
 | map es cl=>
   refine⟨by rw[e2]; exact h.1,?_⟩
   rw[e1,h.2];congr 3;apply List.map_congr_left;intro x hx;have:=qx4 hs x hx;rw[q92 he _ this.1,q92 he _ this.2]
 | siter _ _=>exact⟨by rw[e2]; exact h.1,by rw[e1]; exact h.2⟩
 | loop st pend ts nt params assign body m=>
   simp only[Chunk.nm,zbf]at hs;obtain⟨h0,f,t,h',h⟩:=h;exact⟨by rw[e2]; exact h0,f,t,qg1 h' he (fun k v hk=>z2x hs.1 hk),by rw[e1,(he m hs.2).1]; exact h⟩
 | mark=>exact⟨by rw[e2]; exact h.1,by rw[e1]; exact h.2⟩
def Ren.comp(ρ:Ren)(σ:Nat→Nat):Ren:=⟨fun i=>ρ.blk (σ i),fun i=>ρ.off (σ i),fun i=>ρ.cap (σ i)⟩
def renA(σ:Nat→Nat):Option (Nat×Nat)→Option (Nat×Nat)
 | some p=>some (σ p.1,p.2)
 | none=>none
mutual
def AV.ren(σ:Nat→Nat):AV→AV
 | .bool b=> .bool b
 | .int k n=> .int k n
 | .str s=> .str s
 | .ptr a=> .ptr (renA σ a)
 | .slice a n c=> .slice (renA σ a) n c
 | .map r=> .map (r.map σ)
 | .fn f first captured=> .fn f (renL σ first) (renL σ captured)
 | .yield l=> .yield (σ l)
 | .nilFunc=> .nilFunc
 | .iface t v=> .iface t (v.ren σ)
 | .nilIface=> .nilIface
 | .agg cs=> .agg (renL σ cs)
 | .tuple vs=> .tuple (renL σ vs)
def renL(σ:Nat→Nat):List AV→List AV
 | []=>[]
 | v :: r=>v.ren σ :: renL σ r
end
mutual
theorem q2l(ρ:Ren)(σ:Nat→Nat):∀ v:AV,conc ρ (v.ren σ)=conc (ρ.comp σ) v
 | .bool _=>rfl
 | .int _ _=>rfl
 | .str _=>rfl
 | .ptr none=>rfl
 | .ptr (some p)=>rfl
 | .slice none _ c=>by cases c<;>rfl
 | .slice (some p) _ c=>by cases c<;>rfl
 | .map none=>rfl
 | .map (some r)=>rfl
 | .fn f first captured=>by simp only[AV.ren,conc,q3a ρ σ first,q3a ρ σ captured]
 | .yield l=>rfl
 | .nilFunc=>rfl
 | .iface t v=>by simp only[AV.ren,conc,q2l ρ σ v]
 | .nilIface=>rfl
 | .agg cs=>by simp only[AV.ren,conc,q3a ρ σ cs]
 | .tuple vs=>by simp only[AV.ren,conc,q3a ρ σ vs]
theorem q3a(ρ:Ren)(σ:Nat→Nat):∀ l:List AV,q04 ρ (renL σ l)=q04 (ρ.comp σ) l
 | []=>rfl
 | v :: r=>by simp only[renL,q04,q2l ρ σ v,q3a ρ σ r]
end
theorem q8g(σ:Nat→Nat):∀ l:List AV,renL σ l=l.map (AV.ren σ)
 | []=>rfl
 | v :: r=>by simp only[renL,zc3,q8g σ r]
theorem qdp(σ:Nat→Nat)(l:List AV)(i:Nat):(renL σ l)[i]?=(l[i]?).map (AV.ren σ):=by simp[q8g]
@[simp] theorem z5w(σ:Nat→Nat)(l:List AV):(renL σ l).length=l.length:=by simp[q8g]
mutual
theorem ren_sup{σ:Nat→Nat}{n m:Nat}(h:∀ i,i<n→σ i<m):∀ v:AV,v.sup≤n→(v.ren σ).sup≤m
 | .bool _,_=>zbl _
 | .int _ _,_=>zbl _
 | .str _,_=>zbl _
 | .ptr none,_=>zbl _
 | .ptr (some p),hs=>by simp only[AV.sup,supA]at hs; simp only[AV.ren,renA,AV.sup,supA]; exact h _ (by omega)
 | .slice none _ _,_=>zbl _
 | .slice (some p) _ _,hs=>by simp only[AV.sup,supA]at hs; simp only[AV.ren,renA,AV.sup,supA]; exact h _ (by omega)
 | .map none,_=>zbl _
 | .map (some r),hs=>by simp only[AV.sup]at hs; simp only[AV.ren,zbp,AV.sup]; exact h _ (by omega)
 | .fn f a b,hs=>by
   simp only[AV.sup]at hs;have:=q5f h a (by omega)
   have:=q5f h b (by omega)
   simp only[AV.ren,AV.sup]; omega
 | .yield l,hs=>by simp only[AV.sup]at hs; simp only[AV.ren,AV.sup]; exact h _ (by omega)
 | .nilFunc,_=>zbl _
 | .iface t v,hs=>by simp only[AV.sup]at hs; simp only[AV.ren,AV.sup]; exact ren_sup h v hs
 | .nilIface,_=>zbl _
 | .agg cs,hs=>by simp only[AV.sup]at hs; simp only[AV.ren,AV.sup]; exact q5f h cs hs
 | .tuple vs,hs=>by simp only[AV.sup]at hs; simp only[AV.ren,AV.sup]; exact q5f h vs hs
theorem q5f{σ:Nat→Nat}{n m:Nat}(h:∀ i,i<n→σ i<m):∀ l:List AV,supL l≤n→supL (renL σ l)≤m
 | [],_=>zbl _
 | v :: r,hs=>by
   simp only[supL]at hs;have:=ren_sup h v (by omega)
   have:=q5f h r (by omega)
   simp only[renL,supL]; omega
end
def renT(σ:Nat→Nat)(l:List (Nat×AV)):List (Nat×AV):=l.map fun kv=>(kv.1,kv.2.ren σ)
def renE(σ:Nat→Nat)(l:List (AV×AV×Nat)):List (AV×AV×Nat):=l.map fun e=>(e.1.ren σ,e.2.1.ren σ,e.2.2)
def Chunk.ren(σ:Nat→Nat):Chunk→Chunk
 | .ro cs=> .ro (renL σ cs)
 | .own cs=> .own (renL σ cs)
 | .grow e cs=> .grow e (renL σ cs)
 | .map es cl=> .map (renE σ es) cl
 | .siter s p=> .siter s p
 | .loop st pd ts nt ps a b m=> .loop st pd (renT σ ts) nt ps a b (σ m)
 | .mark=> .mark
theorem Chunk.za9(σ:Nat→Nat)(c:Chunk):(c.ren σ).isRo=c.isRo:=by cases c<;>rfl
theorem qon{σ:Nat→Nat}:∀ {l:List (Nat×AV)} {k:Nat},lk (renT σ l) k=(lk l k).map (AV.ren σ)
 | [],_=>rfl
 | kv :: r,k=>by
   simp only[renT,zc3,lk];split
   · rfl
   · exact qon
theorem Real.ren{ρ:Ren}{σ:Nat→Nat}{id:Nat}{w:World}{c:Chunk}(h:Real (ρ.comp σ) id w c):Real ρ (σ id) w (c.ren σ):=by
 cases c with
 | ro cs=>
   refine⟨h.1,fun i v hv=>?_⟩
   rw[qdp,zbw]at hv;obtain⟨u,h1,rfl⟩:=hv;rw[q2l]; exact h.2 i u h1
 | own cs=>obtain⟨h0,e,h⟩:=h; exact⟨h0,e,by rw[q3a]; exact h⟩
 | grow e cs=>
   obtain⟨h0,e',arr,h1,h2,h3,h4⟩:=h;refine⟨h0,e',arr,h1,h2,by simpa using h3,fun i v hv=>?_⟩
   rw[qdp,zbw]at hv;obtain⟨u,h5,rfl⟩:=hv;rw[q2l]; exact h4 i u h5
 | map es cl=>
   refine⟨h.1,?_⟩;rw[show ρ.blk (σ id)=(ρ.comp σ).blk id from rfl,h.2];congr 3;simp only[renE,List.map_map];apply List.map_congr_left;intro x _;simp only[Function.comp,q2l]
 | siter _ _=>exact h
 | loop st pd ts nt ps a b m=>
   obtain⟨h0,f,t,h1,h2⟩:=h;refine⟨h0,f,t,⟨h1.1,fun k v hk=>?_⟩,h2⟩
   rw[qon,zbw]at hk;obtain⟨u,h5,rfl⟩:=hk;rw[q2l]; exact h1.2 k u h5
 | mark=>exact h
theorem Real.unren{ρ:Ren}{σ:Nat→Nat}{id:Nat}{w:World}{c:Chunk}(h:Real ρ (σ id) w (c.ren σ)):Real (ρ.comp σ) id w c:=by
 cases c with
 | ro cs=>
   refine⟨h.1,fun i v hv=>?_⟩
   have:=h.2 i (v.ren σ) (by rw[qdp,hv]; rfl)
   rw[q2l]at this; exact this
 | own cs=>obtain⟨h0,e,h⟩:=h; exact⟨h0,e,by rw[q3a]at h; exact h⟩
 | grow e cs=>
   obtain⟨h0,e',arr,h1,h2,h3,h4⟩:=h;refine⟨h0,e',arr,h1,h2,by simpa using h3,fun i v hv=>?_⟩
   have:=h4 i (v.ren σ) (by rw[qdp,hv]; rfl)
   rw[q2l]at this; exact this
 | map es cl=>
   refine⟨h.1,?_⟩;rw[show(ρ.comp σ).blk id=ρ.blk (σ id) from rfl,h.2];congr 3;simp only[renE,List.map_map];apply List.map_congr_left;intro x _;simp only[Function.comp,q2l]
 | siter _ _=>exact h
 | loop st pd ts nt ps a b m=>
   obtain⟨h0,f,t,h1,h2⟩:=h;refine⟨h0,f,t,⟨h1.1,fun k v hk=>?_⟩,h2⟩
   have:=h1.2 k (v.ren σ) (by rw[qon,hk]; rfl)
   rw[q2l]at this; exact this
 | mark=>exact h
theorem qs3{σ:Nat→Nat}{n m:Nat}(h:∀ i,i<n→σ i<m):∀ l:List (Nat×AV),supT l≤n→supT (renT σ l)≤m
 | [],_=>zbl _
 | kv :: r,hs=>by
   simp only[supT]at hs;have:=ren_sup h kv.2 (by omega)
   have:=qs3 h r (by omega)
   simp only[renT,zc3,supT]at this ⊢; omega
theorem qs2{σ:Nat→Nat}{n m:Nat}(h:∀ i,i<n→σ i<m):∀ l:List (AV×AV×Nat),supE l≤n→supE (renE σ l)≤m
 | [],_=>zbl _
 | e :: r,hs=>by
   simp only[supE]at hs;have:=ren_sup h e.1 (by omega)
   have:=ren_sup h e.2.1 (by omega)
   have:=qs2 h r (by omega)
   simp only[renE,zc3,supE]at this ⊢; omega
theorem Chunk.zaa{σ:Nat→Nat}{n m:Nat}(h:∀ i,i<n→σ i<m){c:Chunk}(hs:c.sup≤n):(c.ren σ).sup≤m:=by
 cases c with
 | ro cs=>exact q5f h cs hs
 | own cs=>exact q5f h cs hs
 | grow e cs=>exact q5f h cs hs
 | map es cl=>exact qs2 h es hs
 | siter _ _=>exact zbl _
 | loop st pd ts nt ps a b mm=>
   simp only[Chunk.sup]at hs;have:=qs3 h ts (by omega)
   have:=h mm (by omega)
   simp only[Chunk.ren,Chunk.sup]; omega
 | mark=>exact zbl _
structure Emb(σ:Nat→Nat)(h g:AH):Prop where
 lt:∀ i,i<h.next→σ i<g.next
 get:∀ i c,h.get i=some c→g.get (σ i)=some (c.ren σ)
 inj:∀ i j,(∃ c,h.get i=some c)→(∃ c,h.get j=some c)→σ i=σ j→i=j
theorem Emb.rel{σ:Nat→Nat}{h g:AH}(e:Emb σ h g){ρ:Ren}{w:World}(hr:HRel ρ g w):HRel (ρ.comp σ) h w:=by
 refine⟨fun i c hc=>(hr.1 _ _ (e.get i c hc)).unren,fun i j ci cj hne hi hj hro=>?_⟩
 exact hr.2 (σ i) (σ j) _ _ (fun h=>hne (e.inj i j ⟨_,hi⟩ ⟨_,hj⟩ h)) (e.get i ci hi) (e.get j cj hj) (by rw[Chunk.za9]; exact hro)
def ext(σ:Nat→Nat)(n m:Nat)(i:Nat):Nat:=if i<n then σ i else m+(i - n)
open Classical in
noncomputable def after(σ:Nat→Nat)(h h' g:AH):AH:=
 ⟨g.next+(h'.next - h.next),fun k=>if g.next≤k then(h'.get (h.next+(k - g.next))).map (Chunk.ren (ext σ h.next g.next)) else
  if hi:∃ i c,h.get i=some c∧σ i=k then(h'.get hi.choose).map (Chunk.ren (ext σ h.next g.next)) else g.get k⟩
theorem q5m{σ:Nat→Nat}{h h' g:AH}(e:Emb σ h g)(hw:h.wf){i:Nat}{c:Chunk}(hi:h.get i=some c):(after σ h h' g).get (σ i)=(h'.get i).map (Chunk.ren (ext σ h.next g.next)):=by
 have hlt:=e.lt i (hw i c hi).1;have hex:∃ j c,h.get j=some c∧σ j=σ i:=⟨i,c,hi,rfl⟩;simp only[after];rw[if_neg (by omega),dif_pos hex]
 have hs:=hex.choose_spec;obtain⟨c',h1,h2⟩:=hs;rw[e.inj _ _ ⟨c',h1⟩ ⟨c,hi⟩ h2]
theorem q9o{σ:Nat→Nat}{h h' g:AH}{i:Nat}(hi:h.next≤i):(after σ h h' g).get (g.next+(i - h.next))=(h'.get i).map (Chunk.ren (ext σ h.next g.next)):=by
 simp only[after];rw[if_pos (by omega),show h.next+(g.next+(i - h.next) - g.next)=i by omega]
theorem q7v{σ:Nat→Nat}{h h' g:AH}{k:Nat}(hk:k<g.next)(hno:∀ i c,h.get i=some c→σ i≠k):(after σ h h' g).get k=g.get k:=by
 simp only[after];rw[if_neg (by omega),dif_neg]
 rintro⟨i,c,h1,h2⟩;exact hno i c h1 h2
theorem q3i{σ:Nat→Nat}{h h' g:AH}(e:Emb σ h g)(hw:h.wf){k:Nat}{c:Chunk}(hc:(after σ h h' g).get k=some c):
 (∃ i ci,h'.get i=some ci∧k=ext σ h.next g.next i∧c=ci.ren (ext σ h.next g.next)∧(i<h.next→ ∃ c0,h.get i=some c0))∨(g.get k=some c∧k<g.next∧ ∀ i c,h.get i=some c→σ i≠k):=by
 by_cases hk:g.next≤k
 · left
   have hnew:=q9o (σ:=σ) (h:=h) (h':=h') (g:=g) (i:=h.next+(k - g.next)) (by omega)
   rw[show g.next+(h.next+(k - g.next) - h.next)=k by omega,hc]at hnew
   cases hg:h'.get (h.next+(k - g.next))with
   | none=>rw[hg]at hnew; cases hnew
   | some ci=>
     rw[hg]at hnew;simp only[zbp,zbe]at hnew;exact⟨_,ci,hg,by simp only[ext]; rw[if_neg (by omega)]; omega,hnew,fun h=>by omega⟩
 · by_cases hex:∃ i c,h.get i=some c∧σ i=k
   · obtain⟨i,c0,h1,rfl⟩:=hex
     left;rw[q5m e hw h1]at hc;cases hg:h'.get i with
     | none=>rw[hg]at hc; cases hc
     | some ci=>
       rw[hg]at hc;simp only[zbp,zbe]at hc;exact⟨i,ci,hg,by simp only[ext]; rw[if_pos (hw i c0 h1).1],hc.symm,fun _=>⟨c0,h1⟩⟩
   · right
     have hno:∀ i c,h.get i=some c→σ i≠k:=fun i c h1 h2=>hex ⟨i,c,h1,h2⟩
     rw[q7v (by omega) hno]at hc
     exact⟨hc,by omega,hno⟩
def AEnd.ren(σ:Nat→Nat):AEnd→AEnd
 | .ret v=> .ret (v.ren σ)
 | .panic v=> .panic (v.ren σ)
theorem Rend.trans{σ:Nat→Nat}{h g h':AH}(em:Emb σ h g)(hw:h.wf)(gw:g.wf)(hw':h'.wf)(hn:h.next≤h'.next){ρ:Ren}{w:World}{e:AEnd}{e':Ending}{w':World}(hr:HRel ρ g w)
 (hx:Rend (ρ.comp σ) h w e h' e' w'):Rend ρ g w (e.ren (ext σ h.next g.next)) (after σ h h' g) e' w':=by
 obtain⟨ρ1,he,hr1,⟨f1,f4,f5,f6,f7,f8⟩⟩:=hx
 let ρ':Ren:=⟨fun k=>if k<g.next then ρ.blk k else ρ1.blk (h.next+(k - g.next)),fun k=>if k<g.next then ρ.off k else ρ1.off (h.next+(k - g.next)),fun k=>if k<g.next then ρ.cap k else ρ1.cap (h.next+(k - g.next))⟩
 let τ:=ext σ h.next g.next
 have hext:ρ.ext ρ' g.next:=fun k hk=>by simp only[ρ',hk,if_true,and_self]
 have hcomp:∀ i,(ρ'.comp τ).blk i=ρ1.blk i∧(ρ'.comp τ).off i=ρ1.off i∧(ρ'.comp τ).cap i=ρ1.cap i:=fun i=>by
  simp only[Ren.comp,τ,ext]
  by_cases hi:i<h.next
  · simp only[if_pos hi]
    have:=em.lt i hi;obtain⟨q1,q2,q3⟩:=f7 i hi;simp only[ρ',this,if_true];exact⟨q1.symm,q2.symm,q3.symm⟩
  · simp only[if_neg hi,ρ']
    rw[if_neg (by omega),if_neg (by omega),if_neg (by omega),show h.next+(g.next+(i - h.next) - g.next)=i by omega]
    exact⟨rfl,rfl,rfl⟩
 have hcx:∀ n,ρ1.ext (ρ'.comp τ) n:=fun n i _=>hcomp i
 have hreal1:∀ i c,h'.get i=some c→Real ρ' (τ i) w' (c.ren τ):=fun i c hc=>((hr1.1 i c hc).ext (hcx h'.next) (hw' i c hc).1 (hw' i c hc).2).ren
 have hkeep:∀ k c,g.get k=some c→(∀ i c,h.get i=some c→σ i≠k)→w'.heap[ρ.blk k]?=w.heap[ρ.blk k]?:=fun k c hc hno=>by
  refine f5 _ (hr.1 k c hc).lt fun id ci hid hro he=>?_
  exact hr.2 (σ id) k _ c (hno id ci hid) (em.get id ci hid) hc (by rw[Chunk.za9]; exact hro) he
 have hblk:∀ k,k<g.next→ρ'.blk k=ρ.blk k:=fun k hk=>(hext k hk).1
 refine⟨ρ',?_,⟨fun k c hc=>?_,fun k l ck cl hne hk hl hro=>?_⟩,f1,f4,fun B hB hno=>?_,fun k c hc=>?_,hext,by simp only[after]; omega⟩
 · subst he
   cases e with
   | ret v=>
     simp only[AEnd.conc,AEnd.ren];rw[q2l,q2d (hcx v.sup) v (zbi _)]
   | panic v=>
     simp only[AEnd.conc,AEnd.ren];rw[q2l,q2d (hcx v.sup) v (zbi _)]
 · rcases q3i em hw hc with⟨i,ci,h1,rfl,rfl,_⟩ | ⟨h1,h2,h3⟩
   · exact hreal1 i ci h1
   · exact((hr.1 k c h1).congr (hkeep k c h1 h3)).ext hext h2 (gw k c h1).2
 ·
  have out:∀ i ci l cl,h'.get i=some ci→(i<h.next→ ∃ c0,h.get i=some c0)→g.get l=some cl→l<g.next→(∀ i c,h.get i=some c→σ i≠l)→(ci.isRo=false∨cl.isRo=false)→ρ'.blk (τ i)≠ρ'.blk l:=by
   intro i ci l cl h1 _ h3 h4 h5 hro he;rw[show ρ'.blk (τ i)=ρ1.blk i from(hcomp i).1,hblk l h4]at he;have hlt:=(hr.1 l cl h3).lt;rcases f6 i ci h1 with h6 | ⟨id0,c0,h6,h7,h8⟩
   · omega
   · have hne:=h5 id0 c0 h6
     have h8:ρ.blk (σ id0)=ρ1.blk i:=h8;rcases hro with hro | hro
     · exact hr.2 (σ id0) l _ cl hne (em.get id0 c0 h6) h3 (by rw[Chunk.za9]; exact h7 hro) (h8.trans he)
     · exact hr.2 l (σ id0) cl _ (Ne.symm hne) h3 (em.get id0 c0 h6) hro (he.symm.trans h8.symm)
  rcases q3i em hw hk with⟨i,ci,h1,rfl,rfl,h2⟩ | ⟨h1,h2,h3⟩
  · rcases q3i em hw hl with⟨j,cj,k1,rfl,rfl,k2⟩ | ⟨k1,k2,k3⟩
    · rw[show ρ'.blk (ext σ h.next g.next i)=ρ1.blk i from(hcomp i).1,show ρ'.blk (ext σ h.next g.next j)=ρ1.blk j from(hcomp j).1]
      rw[Chunk.za9]at hro;exact hr1.2 i j ci cj (fun h=>hne (by rw[h])) h1 k1 hro
    · rw[Chunk.za9]at hro
      exact out i ci l cl h1 h2 k1 k2 k3 (.inl hro)
  · rcases q3i em hw hl with⟨j,cj,k1,rfl,rfl,k2⟩ | ⟨k1,k2,k3⟩
    · exact fun he=>out j cj k ck k1 k2 h1 h2 h3 (.inr hro) he.symm
    · rw[hblk k h2,hblk l k2]
      exact hr.2 k l ck cl hne h1 k1 hro
 · exact f5 B hB fun id c hid hro he=>hno (σ id) _ (em.get id c hid) (by rw[Chunk.za9]; exact hro) he
 · rcases q3i em hw hc with⟨i,ci,h1,rfl,rfl,h2⟩ | ⟨h1,h2,h3⟩
   · rw[show ρ'.blk (ext σ h.next g.next i)=ρ1.blk i from(hcomp i).1]
     rcases f6 i ci h1 with h6 | ⟨id0,c0,h6,h7,h8⟩
     · exact .inl h6
     · exact .inr ⟨σ id0,_,em.get id0 c0 h6,fun hro=>by rw[Chunk.za9]at hro ⊢; exact h7 hro,h8⟩
   · exact .inr ⟨k,c,h1,fun h=>h,(hblk k h2).symm⟩
theorem qq1{σ:Nat→Nat}{h g h':AH}(em:Emb σ h g)(hw:h.wf)(gw:g.wf)(hw':h'.wf)(hn:h.next≤h'.next):(after σ h h' g).wf:=by
 have hτ:∀ i,i<h'.next→ext σ h.next g.next i<(after σ h h' g).next:=fun i hi=>by
  simp only[ext,after];split
  · rename_i h1; have:=em.lt i h1; omega
  · omega
 intro k c hc;rcases q3i em hw hc with⟨i,ci,h1,rfl,rfl,_⟩ | ⟨h1,h2,_⟩
 · exact⟨hτ i (hw' i ci h1).1,Chunk.zaa hτ (hw' i ci h1).2⟩
 · have:=gw k c h1
   have:g.next≤(after σ h h' g).next:=by simp only[after]; omega
   omega
section
variable{P:Program}{σ:Nat→Nat}{h g:AH}
theorem q61{f:FuncId}{args:List AV}{Q:AEnd→AH→Prop}(hc:q0n P f args h Q)(em:Emb σ h g)(hw:h.wf)(hs:supL args≤h.next):
 q0n P f (renL σ args) g (fun e2 g2=> ∃ e h',Q e h'∧h'.wf∧h.next≤h'.next∧e.sup≤h'.next∧e2=e.ren (ext σ h.next g.next)∧g2=after σ h h' g):=by
 intro gw gs;obtain⟨e,h',a1,a2,a3,a4,a5⟩:=hc hw hs
 have hτ:∀ i,i<h'.next→ext σ h.next g.next i<(after σ h h' g).next:=fun i hi=>by
  simp only[ext,after];split
  · rename_i h1; have:=em.lt i h1; omega
  · omega
 refine⟨e.ren (ext σ h.next g.next),after σ h h' g,qq1 em hw gw a1 a3,?_,by simp only[after]; omega,⟨e,h',a4,a1,a3,a2,rfl,rfl⟩,fun ρ w n hr=>?_⟩
 · cases e with
   | ret v=>exact ren_sup hτ v a2
   | panic v=>exact ren_sup hτ v a2
 · have:=a5 (ρ.comp σ) w n (em.rel hr)
   rw[q3a];exact this.mono fun e' w' hx=>hx.trans em hw gw a1 a3 hr
theorem qb5{fv:AV}{args:List AV}{Q:AEnd→AH→Prop}(hc:JApp P fv args h Q)(em:Emb σ h g)(hw:h.wf)(hf:fv.sup≤h.next)(hs:supL args≤h.next):
 JApp P (fv.ren σ) (renL σ args) g (fun e2 g2=> ∃ e h',Q e h'∧h'.wf∧h.next≤h'.next∧e.sup≤h'.next∧e2=e.ren (ext σ h.next g.next)∧g2=after σ h h' g):=by
 intro gw gf gs;obtain⟨e,h',a1,a2,a3,a4,a5⟩:=hc hw hf hs
 have hτ:∀ i,i<h'.next→ext σ h.next g.next i<(after σ h h' g).next:=fun i hi=>by
  simp only[ext,after];split
  · rename_i h1; have:=em.lt i h1; omega
  · omega
 refine⟨e.ren (ext σ h.next g.next),after σ h h' g,qq1 em hw gw a1 a3,?_,by simp only[after]; omega,⟨e,h',a4,a1,a3,a2,rfl,rfl⟩,fun ρ w n hr=>?_⟩
 · cases e with
   | ret v=>exact ren_sup hτ v a2
   | panic v=>exact ren_sup hτ v a2
 · have:=a5 (ρ.comp σ) w n (em.rel hr)
   rw[q3a,q2l];revert this;generalize ((do let d ←Deferred.ofValue (conc (ρ.comp σ) fv) (q04 (ρ.comp σ) args).toArray; invoke d.target d.args).run P w)=res
   intro this;cases res with
   | halt ht w'=>exact this
   | ok nx w'=>
     cases nx<;>first
      | exact(this:False).elim
      | exact(show CallsIn _ _ _ _ _ _ _ from this).mono fun e' w' hx=>hx.trans em hw gw a1 a3 hr
      | exact(show RoundIn _ _ _ _ _ _ _ _ _ _ from this).mono fun e' w' hx=>hx.trans em hw gw a1 a3 hr
      | exact this
end
mutual
theorem ren_fix{σ:Nat→Nat}{n:Nat}(h:∀ i,i<n→σ i=i):∀ v:AV,v.sup≤n→v.ren σ=v
 | .bool _,_=>rfl
 | .int _ _,_=>rfl
 | .str _,_=>rfl
 | .ptr none,_=>rfl
 | .ptr (some p),hs=>by
   simp only[AV.sup,supA]at hs;simp only[AV.ren,renA,h p.1 (by omega)]
 | .slice none _ c,_=>rfl
 | .slice (some p) _ c,hs=>by
   simp only[AV.sup,supA]at hs;simp only[AV.ren,renA,h p.1 (by omega)]
 | .map none,_=>rfl
 | .map (some r),hs=>by
   simp only[AV.sup]at hs;simp only[AV.ren,zbp,h r (by omega)]
 | .fn f first captured,hs=>by
   simp only[AV.sup]at hs;simp only[AV.ren,q2o h first (by omega),q2o h captured (by omega)]
 | .yield l,hs=>by
   simp only[AV.sup]at hs;simp only[AV.ren,h l (by omega)]
 | .nilFunc,_=>rfl
 | .iface t v,hs=>by
   simp only[AV.sup]at hs;simp only[AV.ren,ren_fix h v hs]
 | .nilIface,_=>rfl
 | .agg cs,hs=>by
   simp only[AV.sup]at hs;simp only[AV.ren,q2o h cs hs]
 | .tuple vs,hs=>by
   simp only[AV.sup]at hs;simp only[AV.ren,q2o h vs hs]
theorem q2o{σ:Nat→Nat}{n:Nat}(h:∀ i,i<n→σ i=i):∀ l:List AV,supL l≤n→renL σ l=l
 | [],_=>rfl
 | v :: r,hs=>by
   simp only[supL]at hs;simp only[renL,ren_fix h v (by omega),q2o h r (by omega)]
end
theorem qrt{σ:Nat→Nat}{n:Nat}(h:∀ i,i<n→σ i=i):∀ l:List (Nat×AV),supT l≤n→renT σ l=l
 | [],_=>rfl
 | kv :: r,hs=>by
   simp only[supT]at hs;have:=qrt h r (by omega)
   simp only[renT]at this;simp only[renT,zc3,ren_fix h kv.2 (by omega),this]
theorem qrs{σ:Nat→Nat}{n:Nat}(h:∀ i,i<n→σ i=i):∀ l:List (AV×AV×Nat),supE l≤n→renE σ l=l
 | [],_=>rfl
 | kv :: r,hs=>by
   simp only[supE]at hs;have:=qrs h r (by omega)
   simp only[renE]at this;simp only[renE,zc3,ren_fix h kv.1 (by omega),ren_fix h kv.2.1 (by omega),this]
theorem Chunk.za8{σ:Nat→Nat}{n:Nat}(h:∀ i,i<n→σ i=i)(c:Chunk)(hs:c.sup≤n):c.ren σ=c:=by
 cases c with
 | ro cs=>simp only[Chunk.sup]at hs; simp only[Chunk.ren,q2o h cs hs]
 | own cs=>simp only[Chunk.sup]at hs; simp only[Chunk.ren,q2o h cs hs]
 | grow e cs=>simp only[Chunk.sup]at hs; simp only[Chunk.ren,q2o h cs hs]
 | map es cl=>simp only[Chunk.sup]at hs; simp only[Chunk.ren,qrs h es hs]
 | siter s p=>rfl
 | loop l pd ts n ps a b m=>simp only[Chunk.sup]at hs; simp only[Chunk.ren,qrt h ts (by omega),h m (by omega)]
 | mark=>rfl
theorem JApp.fix{P:Program}{fv:AV}{args:List AV}{h:AH}{Q:AEnd→AH→Prop}(hc:JApp P fv args h Q)(hw:h.wf)(h1:fv.sup≤h.next)(h2:supL args≤h.next):
 ∃ e H,Q e H∧H.wf∧e.sup≤H.next∧h.next≤H.next∧JApp P fv args h (fun e' H'=>e'=e∧H'=H):=by
 obtain⟨e,H,a1,a2,a3,a4,a5⟩:=hc hw h1 h2;exact⟨e,H,a4,a1,a2,a3,fun _ _ _=>⟨e,H,a1,a2,a3,⟨rfl,rfl⟩,a5⟩⟩
theorem q0n.fix{P:Program}{f:FuncId}{args:List AV}{h:AH}{Q:AEnd→AH→Prop}(hc:q0n P f args h Q)(hw:h.wf)(h2:supL args≤h.next):
 ∃ e H,Q e H∧H.wf∧e.sup≤H.next∧h.next≤H.next∧q0n P f args h (fun e' H'=>e'=e∧H'=H):=by
 obtain⟨e,H,a1,a2,a3,a4,a5⟩:=hc hw h2;exact⟨e,H,a4,a1,a2,a3,fun _ _=>⟨e,H,a1,a2,a3,⟨rfl,rfl⟩,a5⟩⟩
def AH.del(h:AH)(b:Nat):AH:=⟨h.next,fun i=>if i=b then none else h.get i⟩
theorem AH.z9y{h:AH}{b i:Nat}{c:Chunk}(hi:(h.del b).get i=some c):i≠b∧h.get i=some c:=by
 simp only[AH.del]at hi;split at hi
 · cases hi
 · exact⟨by assumption,hi⟩
theorem AH.z9z{h:AH}{b i:Nat}(hi:i≠b):(h.del b).get i=h.get i:=by simp[AH.del,hi]
theorem AH.za0{h:AH}{b:Nat}(hw:h.wf):(h.del b).wf:=fun i c hi=>hw i c (AH.z9y hi).2
def Swap(a b i:Nat):Nat:=if i=a then b else i
theorem Swap.eq(a b:Nat):Swap a b a=b:=by simp[Swap]
theorem Swap.ne{a b i:Nat}(h:i≠a):Swap a b i=i:=by simp[Swap,h]
theorem qqm{n:Nat}:∀ i,ext (fun i=>i) n n i=i:=fun i=>by
 unfold ext;split
 · rfl
 · omega
section
variable{P:Program}{G2 H0:AH}{e0:AEnd}{b:Nat}
structure Framed(G2 H0:AH)(b:Nat)(H1:AH):Prop where
 next:H1.next=H0.next
 new:∀ k,G2.next≤k→H1.get k=H0.get k
 old:∀ k c,k≠b→G2.get k=some c→H1.get k=H0.get k
 box:H1.get b=G2.get b
theorem AEnd.z9v{σ:Nat→Nat}(h:∀ i,σ i=i)(e:AEnd):e.ren σ=e:=by
 cases e with
 | ret v=>simp only[AEnd.ren]; rw[ren_fix (n:=v.sup) (fun i _=>h i) v (zbi _)]
 | panic v=>simp only[AEnd.ren]; rw[ren_fix (n:=v.sup) (fun i _=>h i) v (zbi _)]
theorem qhm{σ:Nat→Nat}(h:∀ i,σ i=i)(o:Option Chunk):o.map (Chunk.ren σ)=o:=by
 cases o with
 | none=>rfl
 | some c=>rw[zbp,Chunk.za8 (n:=c.sup) (fun i _=>h i) c (zbi _)]
theorem qln(gw:G2.wf)(hn:G2.next≤H0.next){cb:Chunk}(hb:G2.get b=some cb):Framed G2 H0 b (after (fun i=>i) (G2.del b) H0 G2):=by
 have em:Emb (fun i=>i) (G2.del b) G2:=⟨fun i hi=>hi,fun i c hi=>by rw[Chunk.za8 (n:=c.sup) (fun i _=>rfl) c (zbi _)]; exact(AH.z9y hi).2,fun i j _ _ h=>h⟩
 refine⟨?_,fun k hk=>?_,fun k c hk hg=>?_,?_⟩
 · show G2.next+(H0.next - G2.next)=H0.next
   omega
 · have:=q9o (σ:=fun i=>i) (h:=G2.del b) (h':=H0) (g:=G2) (i:=k) hk
   rw[show G2.next+(k - (G2.del b).next)=k by simp only[AH.del]; omega]at this
   rw[this]; exact qhm qqm _
 · have:=q5m (h':=H0) em (AH.za0 gw) (i:=k) (c:=c) (by rw[AH.z9z hk]; exact hg)
   rw[this]; exact qhm qqm _
 · exact q7v (gw b cb hb).1 fun i c hi=>(AH.z9y hi).1
theorem qsc{fv:AV}{args:List AV}(hc:JApp P fv args (G2.del b) (fun e H=>e=e0∧H=H0))(gw:G2.wf)(hf:fv.sup≤G2.next)(hs:supL args≤G2.next){cb:Chunk}(hb:G2.get b=some cb):
 JApp P fv args G2 (fun e H1=>e=e0∧Framed G2 H0 b H1):=by
 have em:Emb (fun i=>i) (G2.del b) G2:=⟨fun i hi=>hi,fun i c hi=>by rw[Chunk.za8 (n:=c.sup) (fun i _=>rfl) c (zbi _)]; exact(AH.z9y hi).2,fun i j _ _ h=>h⟩
 have:=qb5 hc em (AH.za0 gw) hf hs;rw[ren_fix (n:=fv.sup) (fun i _=>rfl) fv (zbi _),q2o (n:=supL args) (fun i _=>rfl) args (zbi _)]at this
 refine this.mono ?_;rintro e2 g2 ⟨e,h',⟨rfl,rfl⟩,_,hn,_,rfl,rfl⟩;exact⟨AEnd.z9v qqm _,qln gw hn hb⟩
theorem qnt{f:FuncId}{args:List AV}(hc:q0n P f args (G2.del b) (fun e H=>e=e0∧H=H0))(gw:G2.wf)(hs:supL args≤G2.next){cb:Chunk}(hb:G2.get b=some cb):
 q0n P f args G2 (fun e H1=>e=e0∧Framed G2 H0 b H1):=by
 have em:Emb (fun i=>i) (G2.del b) G2:=⟨fun i hi=>hi,fun i c hi=>by rw[Chunk.za8 (n:=c.sup) (fun i _=>rfl) c (zbi _)]; exact(AH.z9y hi).2,fun i j _ _ h=>h⟩
 have:=q61 hc em (AH.za0 gw) hs;rw[q2o (n:=supL args) (fun i _=>rfl) args (zbi _)]at this
 refine this.mono ?_;rintro e2 g2 ⟨e,h',⟨rfl,rfl⟩,_,hn,_,rfl,rfl⟩;exact⟨AEnd.z9v qqm _,qln gw hn hb⟩
structure Second(M:AH)(a b:Nat)(z:List AV)(g:AH):Prop where
 mw:M.wf
 box:M.get a=some (.own z)
 below:∀ i c,M.get i=some c→i≠a→i<a∧c.sup≤a
 zs:supL z=0
 noB:M.get b=none
 keep:∀ i c,M.get i=some c→i≠a→g.get i=some c
 boxB:g.get b=some (.own z)
 next:M.next≤g.next
 bLt:b<g.next
theorem Second.emb{M g:AH}{a b:Nat}{z:List AV}(s:Second M a b z g):Emb (Swap a b) M g:=by
 refine⟨fun i hi=>?_,fun i c hi=>?_,fun i j hi hj h=>?_⟩
 · unfold Swap; split
   · exact s.bLt
   · have:=s.next; omega
 · by_cases c':i=a
   · subst c'
     rw[s.box]at hi; cases hi;rw[Swap.eq,s.boxB];simp only[Chunk.ren];rw[q2o (n:=0) (fun i hi=>absurd hi (zcn i)) z (by rw[s.zs]; exact zbi _)]
   · obtain⟨h1,h2⟩:=s.below i c hi c'
     rw[Swap.ne c',s.keep i c hi c',Chunk.za8 (n:=a) (fun j hj=>Swap.ne (by omega)) c h2]
 · obtain⟨ci,hi⟩:=hi
   obtain⟨cj,hj⟩:=hj;unfold Swap at h;have hb:=s.noB;split at h<;>split at h
   · omega
   · subst h; rw[hb]at hj; cases hj
   · subst h; rw[hb]at hi; cases hi
   · exact h
structure Again(M H0:AH)(a b:Nat)(g H3:AH):Prop where
 le:Le (g.del b) H3
 box:H3.get b=(H0.get a).map (Chunk.ren (ext (Swap a b) M.next g.next))
 new:∀ i,M.next≤i→H3.get (g.next+(i - M.next))=(H0.get i).map (Chunk.ren (ext (Swap a b) M.next g.next))
theorem qq2{M g:AH}{a:Nat}{z:List AV}(s:Second M a b z g)(gw:g.wf)(hk:∀ i c,M.get i=some c→i≠a→H0.get i=some c):Again M H0 a b g (after (Swap a b) M H0 g):=by
 have em:=s.emb;refine⟨⟨by simp only[after,AH.del]; omega,fun k c hk2=>?_⟩,?_,fun i hi=>q9o hi⟩
 · obtain⟨hkb,hg⟩:=AH.z9y hk2
   by_cases hm:∃ c',M.get k=some c'∧k≠a
   · obtain⟨c',h1,h2⟩:=hm
     have h3:=q5m (h':=H0) em s.mw h1;rw[Swap.ne h2,hk k c' h1 h2,zbp]at h3;rw[h3];have h4:=s.keep k c' h1 h2;rw[hg]at h4; cases h4;obtain⟨b1,b2⟩:=s.below k c h1 h2;have ha:=(s.mw a _ s.box).1;rw[Chunk.za8 (n:=a) (fun j hj=>?_) c b2]
     unfold ext;rw[if_pos (by omega),Swap.ne (by omega)]
   · rw[q7v (gw k c hg).1 fun i ci hi=>?_]
     · exact hg
     · intro e
       by_cases hia:i=a
       · subst hia; rw[Swap.eq]at e; exact hkb e.symm
       · rw[Swap.ne hia]at e; subst e; exact hm ⟨ci,hi,hia⟩
 · have:=q5m (h':=H0) em s.mw s.box
   rw[Swap.eq]at this;exact this
theorem qsb{M g:AH}{a:Nat}{z:List AV}{fv:AV}(hc:JApp P fv [.ptr (some (a,0))] M (fun e H=>e=e0∧H=H0))(s:Second M a b z g)(hf:fv.sup≤a)(hk:∀ i c,M.get i=some c→i≠a→H0.get i=some c):
 JApp P fv [.ptr (some (b,0))] g (fun e H3=>(∀ v,e0= .ret v→ ∃ v',e= .ret v')∧Again M H0 a b g H3):=qu3 fun gw=>by
 have ha:=(s.mw a _ s.box).1;have:=qb5 hc s.emb s.mw (by omega) (by simp only[supL,AV.sup,supA]; omega)
 rw[ren_fix (n:=a) (fun i hi=>Swap.ne (by omega)) fv hf]at this
 have e:renL (Swap a b) [.ptr (some (a,0))]=[.ptr (some (b,0))]:=by simp only[renL,AV.ren,renA,Swap.eq]
 rw[e]at this;refine this.mono ?_;rintro e2 g2 ⟨e,h',⟨rfl,rfl⟩,_,hn,_,rfl,rfl⟩;exact⟨fun v hv=>by subst hv; exact⟨_,rfl⟩,qq2 s gw hk⟩
theorem qns{M g:AH}{a:Nat}{z:List AV}{f:FuncId}{x:AV}(hc:q0n P f [x,.ptr (some (a,0))] M (fun e H=>e=e0∧H=H0))(s:Second M a b z g)(hx:x.sup≤a)(hk:∀ i c,M.get i=some c→i≠a→H0.get i=some c):
 q0n P f [x,.ptr (some (b,0))] g (fun e H3=>(∀ v,e0= .ret v→ ∃ v',e= .ret v')∧Again M H0 a b g H3):=q2k fun gw=>by
 have ha:=(s.mw a _ s.box).1;have:=q61 hc s.emb s.mw (by simp only[supL,AV.sup,supA]; omega)
 have e:renL (Swap a b) [x,.ptr (some (a,0))]=[x,.ptr (some (b,0))]:=by
  simp only[renL,AV.ren,renA,Swap.eq];rw[ren_fix (n:=a) (fun i hi=>Swap.ne (by omega)) x hx]
 rw[e]at this;refine this.mono ?_;rintro e2 g2 ⟨e,h',⟨rfl,rfl⟩,_,hn,_,rfl,rfl⟩;exact⟨fun v hv=>by subst hv; exact⟨_,rfl⟩,qq2 s gw hk⟩
end
def Lst(h:AH)(n0:Nat)(p:Option (Nat×Nat))(vs:List AV):Prop:=
 vs=[]∨ ∃ id off cs,p=some (id,off)∧n0≤id∧h.cells id=some cs∧off+vs.length≤cs.length∧(cs.drop off).take vs.length=vs
def Txt(h:AH)(n0 a:Nat)(p:Option (Nat×Nat))(c:Cap)(q:Option (Nat×Nat))(d:Cap)(L:List Int)(K:List ByteArray):Prop:=
 Own h a [.slice p L.length c,.slice q K.length d]∧Lst h n0 p (L.map (AV.int .i64))∧Lst h n0 q (K.map AV.str)∧L.length≤4294967296∧K.length≤4294967296
theorem qcd{h h':AH}{i j:Nat}(e:h'.get j=h.get i):h'.cells j=h.cells i:=by simp[AH.cells,e]
theorem Lst.move{h h':AH}{n0:Nat}{p:Option (Nat×Nat)}{vs:List AV}(l:Lst h n0 p vs)(hm:∀ i c,n0≤i→h.get i=some c→(∃ o,p=some (i,o))→h'.get i=some c):Lst h' n0 p vs:=by
 rcases l with l | ⟨id,off,cs,h1,h2,h3,h4⟩
 · exact .inl l
 · refine .inr ⟨id,off,cs,h1,h2,?_,h4⟩
   cases hg:h.get id with
   | none=>simp[AH.cells,hg]at h3
   | some c=>rw[←h3]; exact qcd ((hm id c h2 hg ⟨off,h1⟩).trans hg.symm)
theorem qva{h:AH}{h':AH}{σ:Nat→Nat}{i j:Nat}{cs:List AV}(e:h'.get j=(h.get i).map (Chunk.ren σ))(hc:h.cells i=some cs):h'.cells j=some (renL σ cs):=by
 unfold AH.cells at hc ⊢;rw[e];cases hg:h.get i with
 | none=>rw[hg]at hc; cases hc
 | some c=>rw[hg]at hc; cases c<;>simp_all [Chunk.ren]
theorem Lst.ren{h h':AH}{σ:Nat→Nat}{n0:Nat}{p:Option (Nat×Nat)}{vs:List AV}(l:Lst h n0 p vs)(hm:∀ i,n0≤i→h'.get (σ i)=(h.get i).map (Chunk.ren σ))(hv:renL σ vs=vs):Lst h' 0 (renA σ p) vs:=by
 rcases l with l | ⟨id,off,cs,rfl,h2,h3,h4,h5⟩
 · exact .inl l
 · refine .inr ⟨σ id,off,renL σ cs,rfl,zbl _,qva (hm id h2) h3,by simpa using h4,?_⟩
   rw[q8g,←List.map_drop,←List.map_take,h5,←q8g,hv]
theorem qat(σ:Nat→Nat):∀ L:List Int,renL σ (L.map (AV.int .i64))=L.map (AV.int .i64)
 | []=>rfl
 | x :: L=>by simp only[zc3,renL,AV.ren,qat σ L]
theorem qau(σ:Nat→Nat):∀ L:List ByteArray,renL σ (L.map AV.str)=L.map AV.str
 | []=>rfl
 | x :: L=>by simp only[zc3,renL,AV.ren,qau σ L]
theorem Again.txt{M H0 g H3:AH}{a b:Nat}{p:Option (Nat×Nat)}{c:Cap}{q:Option (Nat×Nat)}{d:Cap}{L:List Int}{K:List ByteArray}(s:Again M H0 a b g H3)(t:Txt H0 M.next a p c q d L K):
 ∃ p' q',Txt H3 0 b p' c q' d L K:=by
 obtain⟨t1,t2,t3,t4,t5⟩:=t;refine⟨renA (ext (Swap a b) M.next g.next) p,renA (ext (Swap a b) M.next g.next) q,?_,t2.ren (fun i hi=>?_) (qat _ L),t3.ren (fun i hi=>?_) (qau _ K),t4,t5⟩
 · show H3.get b=_
   rw[s.box,show H0.get a=some (.own _) from t1];rfl
 · rw[show ext (Swap a b) M.next g.next i=g.next+(i - M.next) by unfold ext; rw[if_neg (by omega)]]
   exact s.new i hi
 · rw[show ext (Swap a b) M.next g.next i=g.next+(i - M.next) by unfold ext; rw[if_neg (by omega)]]
   exact s.new i hi
def Puts(P:Program)(M:AH)(a:Nat)(H0:AH)(w:AV):Prop:=
 (∀ i c,M.get i=some c→i≠a→H0.get i=some c)∧ ∃ p c q d L K,Txt H0 M.next a p c q d L K∧
   ∀ g,(∀ i c,M.next≤i→H0.get i=some c→g.get i=some c)→JApp P w [] g (fun e g2=>(∃ v,e= .ret v)∧g.next≤g2.next∧ ∀ i c,g.get i=some c→(i<M.next∨(∃ o,p=some (i,o))∨(∃ o,q=some (i,o)))→g2.get i=some c)
end Go.J
