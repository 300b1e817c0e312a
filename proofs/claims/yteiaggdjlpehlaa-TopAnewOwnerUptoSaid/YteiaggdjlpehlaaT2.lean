import Derived.Test.YteiaggdjlpehlaaT1
import Derived.WideKeyRuns
import Derived.DeepKeys3
set_option linter.all false
namespace Go.J
def z7l:Chunk→Bool
 | .grow _ _=>true
 | _=>false
structure LeO(b:Nat)(h h':AH):Prop where
 next:h.next≤h'.next
 get:∀ j c,h.get j=some c→j≠b→z7l c=false→h'.get j=some c
theorem LeO.refl(b:Nat)(h:AH):LeO b h h:=⟨zbi _,fun _ _ a _ _=>a⟩
theorem LeO.trans{b:Nat}{h h' h'':AH}(a:LeO b h h')(c:LeO b h' h''):LeO b h h'':=⟨zbo a.next c.next,fun j k hj hne hg=>c.get j k (a.get j k hj hne hg) hne hg⟩
theorem Le.leO{b:Nat}{h h':AH}(a:Le h h'):LeO b h h':=⟨a.next,fun j c hj _ _=>a.get j c hj⟩
theorem LeO.le{b:Nat}{h h' h'':AH}(a:LeO b h h')(c:Le h' h''):LeO b h h'':=a.trans c.leO
theorem LeO.own{b:Nat}{h h':AH}(a:LeO b h h'){j:Nat}{cs:List AV}(o:Own h j cs)(hne:j≠b):Own h' j cs:=a.get j _ o hne rfl
theorem But.leO{b:Nat}{h h':AH}(a:But h b h'):LeO b h h':=⟨a.next,fun j c hj hne _=>a.get j c hne hj⟩
theorem StepB.leO{b:Nat}{hB h h':AH}{v:AV}{n esz:Nat}{E:List AV→Prop}(s:StepB v h h')(bl:Bld hB h v n esz E):LeO b h h':=⟨s.next,fun j c hj _ hg=>s.get j c (fun o k d e=>by
 subst e;rcases bl with⟨_,e⟩ | ⟨i,cs,e,g,_⟩
 · cases e
 · cases e
   rw[show h.get j=some (.grow esz cs) from g]at hj;cases hj; cases hg) hj⟩
def qgt(v u:AV):Prop:= ∀ i o k c o' k' c',v= .slice (some (i,o)) k c→u= .slice (some (i,o')) k' c'→False
theorem qgt.symm{v u:AV}(a:qgt v u):qgt u v:=fun i o k c o' k' c' h1 h2=>a i o' k' c' o k c h2 h1
theorem Bld.step{hB' h h':AH}{v u:AV}{m esz:Nat}{E:List AV→Prop}(a:Bld hB' h u m esz E)(s:StepB v h h')(hd:qgt v u):Bld hB' h' u m esz E:=by
 rcases a with a | ⟨i,cs',rfl,h2,h3⟩
 · exact .inl a
 · exact .inr ⟨i,cs',rfl,s.get i _ (fun o k c e=>hd i o k c 0 m (.grow 0) e rfl) h2,h3⟩
theorem z22.apart{hB h:AH}{v u:AV}{m esz:Nat}{E:List AV→Prop}(f:z22 v h)(a:Bld hB h u m esz E):qgt v u:=by
 intro i o k c o' k' c' h1 h2;have hn:=f i o k c h1;rcases a with⟨_,e⟩ | ⟨i',cs',e,h3,_⟩
 · subst e; cases h2
 · subst e; cases h2
   rw[show h.get i=some (.grow esz cs') from h3]at hn;cases hn
abbrev EInt(h:AH):List AV→Prop:=okL h [.int (-9223372036854775808) 9223372036854775807]
abbrev EStr(h:AH):List AV→Prop:=okL h [.str]
structure HBx(hB h:AH)(b n m:Nat)(vn vs:AV):Prop where
 le:Le hB h
 noB:hB.get b=none
 own:Own h b [vn,vs]
 ints:Bld hB h vn n 1 (EInt hB)
 strs:Bld hB h vs m 1 (EStr hB)
 apart:qgt vn vs
def HB(hB h:AH)(b n m:Nat):Prop:= ∃ vn vs,HBx hB h b n m vn vs
theorem HBx.step{hB h h':AH}{b n m:Nat}{vn vs:AV}(a:HBx hB h b n m vn vs)(l:Le h h'):HBx hB h' b n m vn vs:=
 ⟨a.le.trans l,a.noB,a.own.le l,a.ints.le l,a.strs.le l,a.apart⟩
theorem HB.le{hB h h':AH}{b n m:Nat}(a:HB hB h b n m)(l:Le h h'):HB hB h' b n m:=by
 obtain⟨vn,vs,x⟩:=a; exact⟨vn,vs,x.step l⟩
theorem HB.leB{hB h:AH}{b n m:Nat}(a:HB hB h b n m):Le hB h:=by obtain⟨vn,vs,x⟩:=a; exact x.le
theorem HB.ne{hB h:AH}{b n m j:Nat}(a:HB hB h b n m)(hf:h.get j=none):b≠j:=by
 obtain⟨vn,vs,x⟩:=a;intro e; subst e;rw[show h.get b=some (.own [vn,vs]) from x.own]at hf; cases hf
theorem HB.new{h:AH}{b:Nat}(o:Own h b [.slice none 0 (.exact 0),.slice none 0 (.exact 0)]):HB (h.del b) h b 0 0:=
 ⟨_,_,⟨zbi _,fun j c hj=>(AH.z9y hj).2⟩,by simp[AH.del],o,.nil,.nil,fun i o k c o' k' c' e=>by cases e⟩
theorem Lst.at{h:AH}{n0:Nat}{p:Option (Nat×Nat)}{vs:List AV}(l:Lst h n0 p vs){i:Int}(h0:0≤i)(hi:i<vs.length):
 ∃ id off cs,p=some (id,off)∧h.cells id=some cs∧cs[off+i.toNat * 1]?=vs[i.toNat]?:=by
 rcases l with rfl | ⟨id,off,cs,h1,_,h3,h4,h5⟩
 · simp at hi; omega
 · refine⟨id,off,cs,h1,h3,?_⟩
   have e:vs[i.toNat]?=((cs.drop off).take vs.length)[i.toNat]?:=by rw[h5]
   rw[e,List.getElem?_take_of_lt (by omega),zcq,Nat.mul_one]
theorem Lst.le{h h':AH}{n0:Nat}{p:Option (Nat×Nat)}{vs:List AV}(l:Lst h n0 p vs)(a:Le h h'):Lst h' n0 p vs:=by
 rcases l with l | ⟨id,off,cs,h1,h2,h3,h4⟩
 · exact .inl l
 · exact .inr ⟨id,off,cs,h1,h2,a.cells h3,h4⟩
theorem Lst.zero{h:AH}{n0:Nat}{p:Option (Nat×Nat)}{vs:List AV}(l:Lst h n0 p vs):Lst h 0 p vs:=by
 rcases l with l | ⟨id,off,cs,h1,_,h3⟩
 · exact .inl l
 · exact .inr ⟨id,off,cs,h1,zbl _,h3⟩
theorem Lst.int{h:AH}{n0:Nat}{p:Option (Nat×Nat)}{L:List Int}(l:Lst h n0 p (L.map (AV.int .i64))){i:Int}(h0:0≤i)(hi:i<L.length):
 ∃ id off cs,p=some (id,off)∧h.cells id=some cs∧cs[off+i.toNat * 1]?=some (.int .i64 (L.getD i.toNat 0)):=by
 obtain⟨id,off,cs,h1,h2,h3⟩:=l.at h0 (by simpa using hi)
 refine⟨id,off,cs,h1,h2,h3.trans ?_⟩;have:i.toNat<L.length:=by omega
 simp[List.getD,this]
theorem Lst.str{h:AH}{n0:Nat}{p:Option (Nat×Nat)}{L:List ByteArray}(l:Lst h n0 p (L.map AV.str)){i:Int}(h0:0≤i)(hi:i<L.length):
 ∃ id off cs,p=some (id,off)∧h.cells id=some cs∧cs[off+i.toNat * 1]?=some (.str (L.getD i.toNat ByteArray.empty)):=by
 obtain⟨id,off,cs,h1,h2,h3⟩:=l.at h0 (by simpa using hi)
 refine⟨id,off,cs,h1,h2,h3.trans ?_⟩;have:i.toNat<L.length:=by omega
 simp[List.getD,this]
theorem qkv{P:Program}{f:FuncId}{args:List AV}{h:AH}{Q:AEnd→AH→Prop}(hc:supL args≤h.next→q0n P f args h Q):q0n P f args h Q:=fun a b=>hc b a b
section rules
variable{P:Program}{r:Option Nat}{sl:List (Nat×AV)}{h₀:AH}{nt:Nat}{ds:List ADef}{Q:AExit→St→Prop}{o:Oper}{d:Nat}{x y:Operand}
theorem qkr{T U:TypeId}{k:IntKind}{a:Int}(ho:o.op= .binOp .neq T x y U)(hd:o.dst=some d)(hdn:d<nt)(hx:ev sl x=some (.int k a))(hy:ev sl y=some (.int k a))
 (h:Q .normal ⟨(d,.bool false) :: sl,h₀,nt,ds⟩):JO P r o ⟨sl,h₀,nt,ds⟩ Q:=w_ne ho hd hdn hx hy (by simpa using h)
theorem qzb{T U:TypeId}{p:ByteArray}(ho:o.op= .binOp .neq T x y U)(hd:o.dst=some d)(hdn:d<nt)(hx:ev sl x=some (.str p))(hy:ev sl y=some (.str p))
 (h:Q .normal ⟨(d,.bool false) :: sl,h₀,nt,ds⟩):JO P r o ⟨sl,h₀,nt,ds⟩ Q:=z9p ho hd hdn hx hy (by simpa using h)
end rules
def WB(h:AH)(i m:Nat):Prop:= ∃ cs:List AV,m≤cs.length∧(Own h i cs∨ ∃ e,Grow h i e cs)
theorem WB.le{h h':AH}{i m:Nat}(a:WB h i m)(l:Le h h'):WB h' i m:=by
 obtain⟨cs,h1,h2 | ⟨e,h2⟩⟩:=a
 · exact⟨cs,h1,.inl (l.get i _ h2)⟩
 · exact⟨cs,h1,.inr ⟨e,l.get i _ h2⟩⟩
theorem WB.ne{h:AH}{i m j:Nat}(a:WB h i m)(hf:h.get j=none):i≠j:=by
 intro e; subst e;obtain⟨cs,h1,h2 | ⟨e,h2⟩⟩:=a
 · rw[show h.get i=some (.own cs) from h2]at hf; cases hf
 · rw[show h.get i=some (.grow e cs) from h2]at hf; cases hf
section rules
variable{P:Program}{r:Option Nat}{sl:List (Nat×AV)}{h₀:AH}{nt:Nat}{ds:List ADef}{Q:AExit→St→Prop}{o:Oper}{d:Nat}{x y:Operand}
theorem z1y{v:AV}{T:TypeId}{id off m:Nat}(hn:(P.info? T).map (·.size)=some 1)(ho:o.op= .store T x y)(hd:o.dst=none)(hx:ev sl x=some (.ptr (some (id,off))))(hy:ev sl y=some v)(hvc:v.cells=[v])(h1:AV.one v=true)
 (hw:WB h₀ id m)(hlt:off<m)(h:∀ h',But h₀ id h'→WB h' id m→Q .normal ⟨sl,h',nt,ds⟩):JO P r o ⟨sl,h₀,nt,ds⟩ Q:=by
 obtain⟨cs,hm,hg | ⟨e,hg⟩⟩:=hw
 · refine qyn hn ho hd hx hy hvc hg rfl (by omega) (by simp[h1]) rfl fun h' a=>h h' a.but ⟨_,?_,.inl a.own⟩
   rw[q2p (by simp; omega)]; exact hm
 · refine qs5 hn ho hd hx hy hvc hg rfl (by omega) (by simp[h1]) rfl fun h' a=>h h' a.but ⟨_,?_,.inr ⟨e,a.grow⟩⟩
   rw[q2p (by simp; omega)]; exact hm
end rules
def WL(h:AH)(p:Option (Nat×Nat))(n esz:Nat):Prop:=n=0∨ ∃ i off,p=some (i,off)∧WB h i (off+n * esz)
structure LeP(p:Option (Nat×Nat))(h h':AH):Prop where
 next:h.next≤h'.next
 get:∀ j c,h.get j=some c→(∀ o,p≠some (j,o))→h'.get j=some c
theorem LeP.refl(p:Option (Nat×Nat))(h:AH):LeP p h h:=⟨zbi _,fun _ _ a _=>a⟩
theorem LeP.trans{p:Option (Nat×Nat)}{h h' h'':AH}(a:LeP p h h')(b:LeP p h' h''):LeP p h h'':=⟨zbo a.next b.next,fun j c hj hn=>b.get j c (a.get j c hj hn) hn⟩
theorem Bld.wl{hB h:AH}{p:Option (Nat×Nat)}{c:Cap}{n esz:Nat}{E:List AV→Prop}(a:Bld hB h (.slice p n c) n esz E):WL h p n esz:=by
 rcases a with⟨rfl,_⟩ | ⟨i,cs,e,h2,_,h3,_⟩
 · exact .inl rfl
 · cases e; exact .inr ⟨i,0,rfl,cs,by omega,.inr ⟨esz,h2⟩⟩
section rules
variable{P:Program}{r:Option Nat}{sl:List (Nat×AV)}{h₀:AH}{nt:Nat}{ds:List ADef}{Q:AExit→St→Prop}{o:Oper}{d:Nat}{x y:Operand}
theorem qpr{k:IntKind}{A:TypeId}{p:ByteArray}{i:Int}{N:Nat}(hA:P.underlying A=some .string)
 (ho:o.op= .index A x y)(hd:o.dst=some d)(hdn:d<nt)(hx:ev sl x=some (.str p))(hy:ev sl y=some (.int k i))(hN:p.size=N)(h0:0≤i∧i<N)
 (h:∀ c:Int,0≤c→c≤255→Q .normal ⟨(d,.int .u8 c) :: sl,h₀,nt,ds⟩):JO P r o ⟨sl,h₀,nt,ds⟩ Q:=by
 have hlt:i.toNat<p.size:=by omega
 have hc:p[i.toNat]?=some (p[i.toNat]'hlt):=by simp[hlt]
 have:=(p[i.toNat]'hlt).toNat_lt;exact qts hA ho hd hdn hx hy h0.1 hc (h _ (by omega) (by omega))
end rules
def entC(ρ:Ren)(e:AV×AV×Nat):MapEntry:=⟨conc ρ e.1,conc ρ e.2.1,e.2.2⟩
structure MapKey(P:Program)(k:TypeId)(K:AV→Prop)(eqv:AV→AV→Bool):Prop where
 closed:∀ v,K v→v.sup=0
 check:∀ v,K v→ ∀ ρ em w,(Instr.checkKey em 10000 k (conc ρ v)).run P w= .ok () w
 find:(∃ D,P.underlying k=some D∧ ∀ x y,K x→K y→ ∀ ρ,Instr.sameNow D (conc ρ x) (conc ρ y)=some (eqv x y))∨
  ((match P.underlying k with | some (.array _ _) | some (.struct _)=>true | _=>false)=true∧ ∀ x y,K x→K y→ ∀ ρ w,(Op.equal k (conc ρ x) (conc ρ y)).run P w= .ok (eqv x y) w)
 refl:∀ v,K v→eqv v v=true
 stay:∀ x y,K x→K y→eqv x y=true→ ∀ ρ,Instr.sameBits 10000 (conc ρ y) (conc ρ x)=true
def q1w(eqv:AV→AV→Bool)(x:AV):List (AV×AV×Nat)→Nat→Option (Nat×AV)
 | [],_=>none
 | e :: es,i=>if eqv x e.1 then some (i,e.2.1) else q1w eqv x es (i+1)
theorem q2z{eqv:AV→AV→Bool}{x:AV}:∀ {es:List (AV×AV×Nat)} {i j:Nat} {v:AV},q1w eqv x es i=some (j,v)→i≤j∧ ∃ e,es[j - i]?=some e∧e.2.1=v∧eqv x e.1=true
 | [],i,j,v,h=>by simp[q1w]at h
 | e :: es,i,j,v,h=>by
   simp only[q1w]at h;split at h
   · rename_i he
     simp only[zbe,zbt]at h;obtain⟨rfl,rfl⟩:=h;exact⟨zbi _,e,by simp,rfl,he⟩
   · obtain⟨h1,e',h2,h3⟩:=q2z h
     refine⟨by omega,e',?_,h3⟩
     have:j - i=(j - (i+1))+1:=by omega
     rw[this]; simpa using h2
theorem qgx{eqv:AV→AV→Bool}{x zv:AV}{cl:Nat}(hr:eqv x x=true):∀ {es:List (AV×AV×Nat)} {i:Nat},q1w eqv x es i=none→(q1w eqv x (es++[(x,zv,cl)]) i).map (·.2)=some zv
 | [],i,_=>by simp[q1w,hr]
 | e :: es,i,h=>by
   simp only[q1w]at h;split at h
   · simp at h
   · rename_i he
     simp only[List.cons_append,q1w,he,if_false];exact qgx hr h
theorem qc9{eqv:AV→AV→Bool}{x v:AV}(hr:eqv x x=true):∀ {es:List (AV×AV×Nat)} {i j:Nat},q1w eqv x es i=some (j,v)→(q1w eqv x (es.modify (j - i) fun e=>(x,e.2)) i).map (·.2)=some v
 | [],i,j,h=>by simp[q1w]at h
 | e :: es,i,j,h=>by
   have hs:=q2z h;simp only[q1w]at h;split at h
   · simp only[zbe,zbt]at h
     obtain⟨rfl,rfl⟩:=h;simp[q1w,hr]
   · rename_i he
     have h1:=(q2z h).1;have e1:j - i=(j - (i+1))+1:=by omega
     rw[e1];simp only[List.modify_succ_cons,q1w,he,if_false];exact qc9 hr h
theorem MapKey.run_find{P:Program}{k:TypeId}{K:AV→Prop}{eqv:AV→AV→Bool}(m:MapKey P k K eqv){x:AV}(hx:K x)(ρ:Ren)(w:World){es:List (AV×AV×Nat)}(hes:∀ e∈es,K e.1):
 (Instr.findKey k (conc ρ x) (es.map (entC ρ))).run P w= .ok ((q1w eqv x es 0).map fun p=>(p.1,conc ρ p.2)) w:=by
 rcases m.find with⟨D,hD,hn⟩ | ⟨hw,heq⟩
 · have key:∀ (es:List (AV×AV×Nat)) (i:Nat),(∀ e∈es,K e.1)→Instr.findNow D (conc ρ x) (es.map (entC ρ)) i=some ((q1w eqv x es i).map fun p=>(p.1,conc ρ p.2)):=by
    intro es
    induction es with
    | nil=>intro i _; rfl
    | cons e es ih=>
      intro i h;have h1:=hn x e.1 hx (h e (by simp)) ρ
      simp only[zc3,Instr.findNow,entC,h1,q1w];cases hq:eqv x e.1 with
      | true=>simp
      | false=>simp only[zbn,if_false]; exact ih (i+1) fun e' he'=>h e' (by simp[he'])
   simp[Instr.findKey,run_underlying hD,key es 0 hes]
 · rw[run_findKey_eq w hw]
   have key:∀ (es:List (AV×AV×Nat)) (i:Nat),(∀ e∈es,K e.1)→(Instr.findAsking k (conc ρ x) (es.map (entC ρ)) i).run P w= .ok ((q1w eqv x es i).map fun p=>(p.1,conc ρ p.2)) w:=by
    intro es
    induction es with
    | nil=>intro i _; simp[Instr.findAsking,q1w]
    | cons e es ih=>
      intro i h;have h1:=heq x e.1 hx (h e (by simp)) ρ w
      simp only[zc3,Instr.findAsking,zbx];rw[show(entC ρ e).key=conc ρ e.1 from rfl,h1];simp only[zbk,q1w];cases hq:eqv x e.1 with
      | true=>simp[entC]
      | false=>simp only[zbn,if_false]; exact ih (i+1) fun e' he'=>h e' (by simp[he'])
   exact key es 0 hes
theorem q5s(ρ:Ren)(es:List (AV×AV×Nat))(i:Nat)(f:AV×AV×Nat→AV×AV×Nat)(g:MapEntry→MapEntry)(h:∀ e∈es,g (entC ρ e)=entC ρ (f e)):
 ((es.map (entC ρ)).toArray).modify i g=((es.modify i f).map (entC ρ)).toArray:=by
 apply Array.toList_inj.1;rw[Array.toList_modify];apply List.ext_getElem?;intro j;simp only[List.getElem?_modify,List.getElem?_map];cases hj:es[j]? with
 | none=>simp
 | some e=>
   by_cases c:i=j
   · simp[c,h e (zc4 hj)]
   · simp[c]
section rules
variable{P:Program}{r:Option Nat}{sl:List (Nat×AV)}{h₀:AH}{nt:Nat}{ds:List ADef}{Q:AExit→St→Prop}{o:Oper}{d:Nat}{x y z:Operand}
theorem qz8{T:TypeId}(ho:o.op= .makeMap T none)(hd:o.dst=some d)(hdn:d<nt)
 (h:∀ i h',New h₀ i (.map [] 0) h'→Q .normal ⟨(d,.map (some i)) :: sl,h',nt,ds⟩):JO P r o ⟨sl,h₀,nt,ds⟩ Q:=
 qb6 fun hw=>qdv (cap:=0) (s:=⟨sl,h₀,nt,ds⟩) (c:= .map [] 0) (v:= .map (some h₀.next)) hd hdn (by simp[Oper.noDefer,ho]) (fun _=>⟨zbl _,by simp[AV.sup]⟩) (fun hw ρ a w hrel=>by
  refine⟨.map #[] 0,w.drawn,?_,by simp[Ren.plus],by simp[Ren.plus]⟩
  simp only[execOp,ho];simp[Instr.makeMap,conc,Ren.plus]) (h _ _ (.of (AH.z9w _ _) hw.2.1))
def mget(eqv:AV→AV→Bool)(es:List (AV×AV×Nat))(kv zv:AV):AV:=((q1w eqv kv es 0).map (·.2)).getD zv
theorem MapKey.run_stays{P:Program}{k:TypeId}{K:AV→Prop}{eqv:AV→AV→Bool}(m:MapKey P k K eqv){x y:AV}(hx:K x)(hy:K y)(he:eqv x y=true)(ρ:Ren)(w:World):
 (Instr.keyThatStays (conc ρ y) (conc ρ x)).run P w= .ok (conc ρ x) w:=by
 simp[Instr.keyThatStays,m.stay x y hx hy he ρ]
theorem q5t{es:List (AV×AV×Nat)}{i n:Nat}{f:AV×AV×Nat→AV×AV×Nat}(h:supE es≤n)(hf:∀ e∈es,(f e).1.sup≤n∧(f e).2.1.sup≤n):supE (es.modify i f)≤n:=by
 refine q2q.2 fun e he=>?_
 obtain⟨j,hj⟩:=List.getElem?_of_mem he;rw[List.getElem?_modify]at hj;cases hq:es[j]? with
 | none=>simp[hq]at hj
 | some e0=>
   have hm:=zc4 hq;simp only[hq,zbp]at hj;split at hj
   · cases hj; exact hf e0 hm
   · cases hj; exact q2q.1 h e0 hm
theorem mem_modify{es:List (AV×AV×Nat)}{i:Nat}{f:AV×AV×Nat→AV×AV×Nat}{e:AV×AV×Nat}(he:e∈es.modify i f):(∃ e0∈es,e=f e0)∨e∈es:=by
 obtain⟨j,hj⟩:=List.getElem?_of_mem he;rw[List.getElem?_modify]at hj;cases hq:es[j]? with
 | none=>simp[hq]at hj
 | some e0=>
   have hm:=zc4 hq;simp only[hq,zbp]at hj;split at hj
   · cases hj; exact .inl ⟨e0,hm,rfl⟩
   · cases hj; exact .inr hm
theorem qtz{T k e:TypeId}{K:AV→Prop}{eqv:AV→AV→Bool}{id cl:Nat}{es:List (AV×AV×Nat)}{kv zv:AV}(hT:P.underlying T=some (.map k e))(hz:q26 P e zv)(m:MapKey P k K eqv)
 (ho:o.op= .mapEntry T x y)(hd:o.dst=some d)(hdn:d<nt)(hx:ev sl x=some (.map (some id)))(hy:ev sl y=some kv)(hk:K kv)(hg:h₀.get id=some (.map es cl))(hes:∀ e∈es,K e.1)
 (h:∀ es' cl' (b:Nat) v h',But h₀ id h'→h'.get id=some (.map es' cl')→(∀ e∈es',K e.1)→(∃ e∈es',e.2.2=b)→(v=mget eqv es kv zv∧mget eqv es' kv zv=v)→(v=zv∨ ∃ e∈es,e.2.1=v)→(∀ e∈es',e.2.1=zv∨ ∃ e0∈es,e0.2.1=e.2.1)→es'.length≤es.length+1→
   Q .normal ⟨(d,.tuple [v,.int .i64 b]) :: sl,h',nt,ds⟩):JO P r o ⟨sl,h₀,nt,ds⟩ Q:=by
 have hsupk:=m.closed kv hk;cases hq:q1w eqv kv es 0 with
 | none=>
   have hset:=AH.za4 h₀ id (.map (es++[(kv,zv,cl)]) (cl+1))
   refine qdw (id:=id) (c:= .map es cl) (c':= .map (es++[(kv,zv,cl)]) (cl+1)) (v:= .tuple [zv,.int .i64 cl]) (s:=⟨sl,h₀,nt,ds⟩) (ob:=fun ρ=> .map ((es++[(kv,zv,cl)]).map (entC ρ)).toArray (cl+1))
    hd hdn (by simp[Oper.noDefer,ho]) hg rfl (fun hw=>⟨?_,by simp[AV.sup,supL,q3h hz]⟩) (fun hw ρ a w hrel hreal=>⟨⟨_,hreal.2⟩,?_,fun w' hw'=>⟨hreal.1,hw'⟩⟩)
    (h _ _ cl zv _ hset.but hset.new ?_ ⟨_,List.mem_append_right _ (zbs.2 rfl),rfl⟩ ⟨by unfold mget; rw[hq]; rfl,by unfold mget; rw[qgx (m.refl kv hk) hq]; rfl⟩ (.inl rfl) ?_ (by simp))
   · have:=(hw.2.1 id _ hg).2
     simp only[Chunk.sup]at this ⊢;refine q2q.2 fun e he=>?_
     rcases zbr.1 he with h1 | h1
     · exact q2q.1 this e h1
     · simp at h1; subst h1; exact⟨by rw[hsupk]; exact zbl _,by rw[q3h hz]; exact zbl _⟩
   · have hf:=m.run_find hk ρ w hes
     have hc:=m.check kv hk ρ false w;have hb:=hreal.2;rw[show(es.map (fun e=>(⟨conc ρ e.1,conc ρ e.2.1,e.2.2⟩:MapEntry)))=es.map (entC ρ) from rfl]at hb
     simp only[execOp,ho,q03 hrel hx,q03 hrel hy,conc,zbp];simp only[Instr.mapEntry,zbx,run_underlying hT,zbk,getObj,Sem.run,hb];simp only[zby,zbk,hc,hf,hq,Option.map_none,zbx,q4d hz ρ];simp[setObj,Sem.run,hb,goInt,q04,conc,entC]
   · intro e he
     rcases zbr.1 he with h1 | h1
     · exact hes e h1
     · simp at h1; subst h1; exact hk
   · intro e he
     rcases zbr.1 he with h1 | h1
     · exact .inr ⟨e,h1,rfl⟩
     · simp at h1; subst h1; exact .inl rfl
 | some p=>
   obtain⟨i,v⟩:=p;obtain⟨_,e0,e1,e2,e3⟩:=q2z hq;rw[Nat.sub_zero]at e1;have hmem:=zc4 e1;have hset:=AH.za4 h₀ id (.map (es.modify i fun e=>(kv,e.2)) cl)
   have hnew:(es.modify i fun e=>(kv,e.2))[i]?=some (kv,e0.2):=by simp[List.getElem?_modify,e1]
   refine qdw (id:=id) (c:= .map es cl) (c':= .map (es.modify i fun e=>(kv,e.2)) cl) (v:= .tuple [v,.int .i64 e0.2.2]) (s:=⟨sl,h₀,nt,ds⟩) (ob:=fun ρ=> .map ((es.modify i fun e=>(kv,e.2)).map (entC ρ)).toArray cl)
    hd hdn (by simp[Oper.noDefer,ho]) hg rfl (fun hw=>⟨?_,?_⟩) (fun hw ρ a w hrel hreal=>⟨⟨_,hreal.2⟩,?_,fun w' hw'=>⟨hreal.1,hw'⟩⟩)
    (h _ _ e0.2.2 v _ hset.but hset.new ?_ ⟨_,zc4 hnew,rfl⟩ ⟨by unfold mget; rw[hq]; rfl,by unfold mget; rw[show i=i - 0 from rfl,qc9 (m.refl kv hk) hq]; rfl⟩ (.inr ⟨e0,hmem,e2⟩) ?_ (by simp))
   · have:=(hw.2.1 id _ hg).2
     simp only[Chunk.sup]at this ⊢;exact q5t this fun e he=>⟨by rw[hsupk]; exact zbl _,(q2q.1 this e he).2⟩
   · have:=(hw.2.1 id _ hg).2
     simp only[Chunk.sup]at this;have:=(q2q.1 this e0 hmem).2;rw[e2]at this;simpa [AV.sup,supL]using this
   · have hf:=m.run_find hk ρ w hes
     have hc:=m.check kv hk ρ false w;have hb:=hreal.2;have hst:=m.run_stays hk (hes e0 hmem) e3 ρ w;have hmod:=q5s ρ es i (fun e=>(kv,e.2)) (fun e=>{e with key:=conc ρ kv}) (fun e _=>rfl)
     have hkey:((es.map (entC ρ)).toArray)[i]?=some (entC ρ e0):=by simp[e1]
     rw[show(es.map (fun e=>(⟨conc ρ e.1,conc ρ e.2.1,e.2.2⟩:MapEntry)))=es.map (entC ρ) from rfl]at hb
     simp only[execOp,ho,q03 hrel hx,q03 hrel hy,conc,zbp];simp only[Instr.mapEntry,zbx,run_underlying hT,zbk,getObj,Sem.run,hb];simp only[zby,zbk,hc,hf,hq,zbp,zbx,hkey,Option.getD_some];rw[show(entC ρ e0).key=conc ρ e0.1 from rfl,hst];simp only[zbk,setObj,Sem.run,hb,hmod];simp[goInt,q04,conc,entC]
   · intro e he
     rcases mem_modify he with⟨e',h1,rfl⟩ | h1
     · exact hk
     · exact hes e h1
   · intro e he
     rcases mem_modify he with⟨e',h1,rfl⟩ | h1
     · exact .inr ⟨e',h1,rfl⟩
     · exact .inr ⟨e,h1,rfl⟩
theorem qio{id:Nat}{c c':Chunk}{s:St}{ob:Ren→Obj}(hd:o.dst=none)(hdef:Oper.noDefer o=true)(hg:s.h.get id=some c)(hc:c.isRo=false)(hwf:s.wf→c'.sup≤s.h.next)
 (hrun:s.wf→ ∀ ρ a w,Rel ρ s a w→Real ρ id w c→(∃ o0,w.heap[ρ.blk id]?=some o0)∧(execOp a.eval o).run P w= .ok .skip {w with heap:=w.heap.setIfInBounds (ρ.blk id) (ob ρ)}∧ ∀ w',w'.heap[ρ.blk id]?=some (ob ρ)→Real ρ id w' c')
 (h:Q .normal ⟨s.slots,s.h.set id c',s.n,s.defs⟩):JO P r o s Q:=by
 refine qu7 hd hdef (fun hw=>⟨AH.za5 hw.2.1 (hw.2.1 id _ hg).1 (hwf hw),zbi _⟩) (fun hw ρ a w hrel=>?_) h
 obtain⟨⟨o0,h0⟩,h1,h2⟩:=hrun hw ρ a w hrel (hrel.2.2.1 id _ hg);exact⟨ρ,_,h1,HRel.setBlk hrel.2.2 hg hc (fun B hB=>qar w _ _ B hB) (h2 _ (qrp h0)),Fr.setBlk hg hc ⟨rfl,rfl,rfl⟩ (by simp) (fun B hB=>qar w _ _ B hB)⟩
theorem qv5(ρ:Ren)(b:Nat):((fun e:MapEntry=>(e.born:Int)==(b:Int)) ∘ entC ρ)=fun e=>e.2.2==b:=by
 funext e;show(((e.2.2:Nat):Int)==(b:Int))=(e.2.2==b)
 by_cases c:e.2.2=b
 · rw[c]; rw[beq_self_eq_true,beq_self_eq_true]
 · have h1:(((e.2.2:Nat):Int)==(b:Int))=false:=by rw[beq_eq_false_iff_ne]; omega
   have h2:(e.2.2==b)=false:=by rw[beq_eq_false_iff_ne]; exact c
   rw[h1,h2]
theorem qnm{T:TypeId}{K:AV→Prop}{id cl b:Nat}{es:List (AV×AV×Nat)}{v:AV}(ho:o.op= .entryStore T x y z)(hd:o.dst=none)(hx:ev sl x=some (.map (some id)))(hy:ev sl y=some (.int .i64 b))(hv:ev sl z=some v)
 (hg:h₀.get id=some (.map es cl))(hes:∀ e∈es,K e.1)(hb:∃ e∈es,e.2.2=b)
 (h:∀ es' h',But h₀ id h'→h'.get id=some (.map es' cl)→(∀ e∈es',K e.1)→(∀ e∈es',e.2.1=v∨ ∃ e0∈es,e0.2.1=e.2.1)→es'.length=es.length→Q .normal ⟨sl,h',nt,ds⟩):JO P r o ⟨sl,h₀,nt,ds⟩ Q:=by
 have hsome:∃ i,es.findIdx? (fun e=>e.2.2==b)=some i:=by
  cases hq:es.findIdx? (fun e=>e.2.2==b)with
  | some i=>exact⟨i,rfl⟩
  | none=>
    obtain⟨e,he,hbe⟩:=hb;have:=List.findIdx?_eq_none_iff.1 hq e he;simp[hbe]at this
 obtain⟨i,hi⟩:=hsome;have hset:=AH.za4 h₀ id (.map (es.modify i fun e=>(e.1,v,e.2.2)) cl)
 refine qio (id:=id) (c:= .map es cl) (c':= .map (es.modify i fun e=>(e.1,v,e.2.2)) cl) (s:=⟨sl,h₀,nt,ds⟩) (ob:=fun ρ=> .map ((es.modify i fun e=>(e.1,v,e.2.2)).map (entC ρ)).toArray cl)
  hd (by simp[Oper.noDefer,ho]) hg rfl (fun hw=>?_) (fun hw ρ a w hrel hreal=>⟨⟨_,hreal.2⟩,?_,fun w' hw'=>⟨hreal.1,hw'⟩⟩)
  (h _ _ hset.but hset.new ?_ ?_ (by simp))
 · have:=(hw.2.1 id _ hg).2
   simp only[Chunk.sup]at this ⊢;exact q5t this fun e he=>⟨(q2q.1 this e he).1,q1i hw hv⟩
 · have hbk:=hreal.2
   have hmod:=q5s ρ es i (fun e=>(e.1,v,e.2.2)) (fun e=>{e with val:=conc ρ v}) (fun e _=>rfl)
   rw[show(es.map (fun e=>(⟨conc ρ e.1,conc ρ e.2.1,e.2.2⟩:MapEntry)))=es.map (entC ρ) from rfl]at hbk
   have hfi:es.findIdx? ((fun e:MapEntry=>(e.born:Int)==(b:Int)) ∘ entC ρ)=some i:=by rw[qv5]; exact hi
   have hfi2:((es.map (entC ρ)).toArray).findIdx? (fun e=>(e.born:Int)==(b:Int))=some i:=by
    rw[List.findIdx?_toArray,List.findIdx?_map]; exact hfi
   simp only[execOp,ho,q03 hrel hx,q03 hrel hy,q03 hrel hv,conc,zbp];simp only[Instr.entryStore,zbx,zbk,getObj,Sem.run,hbk,asInt,asIntOf];simp only[zby,zbk,hfi2,zbx,setObj,Sem.run,hbk,hmod]
 · intro e he
   rcases mem_modify he with⟨e',h1,rfl⟩ | h1
   · exact hes e' h1
   · exact hes e h1
 · intro e he
   rcases mem_modify he with⟨e',h1,rfl⟩ | h1
   · exact .inl rfl
   · exact .inr ⟨e,h1,rfl⟩
end rules
inductive Lf where
 | bool
 | int (k:IntKind)
 | str
def Lf.fits:Lf→Value→Prop
 | .bool,v=> ∃ b,v= .bool b
 | .int k,v=> ∃ n,v= .int k n
 | .str,v=> ∃ s,v= .string s
def q1z:List Lf→List Value→Prop
 | [],vs=>vs=[]
 | l :: ls,vs=> ∃ v r,vs=v :: r∧l.fits v∧q1z ls r
theorem q3z:∀ {a:List Lf} {x:List Value},q1z a x→x.length=a.length
 | [],x,h=>by simp only[q1z]at h; subst h; rfl
 | l :: ls,x,h=>by obtain⟨v,r,rfl,_,h4⟩:=h; simp[q3z h4]
theorem q3k{a b:List Lf}:∀ {x:List Value},q1z (a++b) x→q1z a (x.take a.length)∧q1z b (x.drop a.length):=by
 induction a with
 | nil=>intro x h; exact⟨by simp[q1z],by simpa using h⟩
 | cons l ls ih=>
   intro x h;obtain⟨v,r,rfl,h3,h4⟩:=h;obtain⟨h5,h6⟩:=ih h4;exact⟨⟨v,_,rfl,h3,h5⟩,h6⟩
def eqc:Value→Value→Bool
 | .bool a,.bool b=>a==b
 | .int _ a,.int _ b=>a==b
 | .string a,.string b=>a==b
 | _,_=>false
def eqcs:List Value→List Value→Bool
 | a :: x,b :: y=>eqc a b&&eqcs x y
 | [],[]=>true
 | _,_=>false
theorem q93:∀ {a b x y:List Value},a.length=b.length→eqcs (a++x) (b++y)=(eqcs a b&&eqcs x y)
 | [],[],x,y,_=>by simp[eqcs]
 | u :: a,v :: b,x,y,h=>by simp only[List.cons_append,eqcs,q93 (a:=a) (b:=b) (by simpa using h),Bool.and_assoc]
 | [],_ :: _,_,_,h=>by simp at h
 | _ :: _,[],_,_,h=>by simp at h
theorem z2l{l:Lf}{a b:Value}(ha:l.fits a)(hb:l.fits b)(h:eqc a b=true):a=b:=by
 cases l<;>(obtain⟨x,rfl⟩:=ha; obtain⟨y,rfl⟩:=hb; simp only[eqc]at h)
 · rw[eq_of_beq h]
 · rw[eq_of_beq h]
 · obtain⟨x⟩:=x; obtain⟨y⟩:=y
   have h':(x==y)=true:=h;rw[eq_of_beq h']
theorem qvs:∀ {ls:List Lf} {a b:List Value},q1z ls a→q1z ls b→eqcs a b=true→a=b
 | [],a,b,ha,hb,_=>by simp only[q1z]at ha hb; rw[ha,hb]
 | l :: ls,a,b,ha,hb,h=>by
   obtain⟨v,r,rfl,h1,h2⟩:=ha;obtain⟨u,q,rfl,h3,h4⟩:=hb;simp only[eqcs,zbf]at h;rw[z2l h1 h3 h.1,qvs h2 h4 h.2]
theorem q6j{l:Lf}{a:Value}(ha:l.fits a)(n:Nat):Instr.sameBits n a a=true:=by
 have hb:∀ x:ByteArray,(x==x)=true:=fun x=>by rw[beq_toListBytes,beq_self_eq_true]
 cases l<;>(obtain⟨x,rfl⟩:=ha; cases n<;>simp[Instr.sameBits,hb])
theorem qk5{ls:List Lf}{xs:List Value}(h:q1z ls xs)(n:Nat):Instr.sameBits (n+1) (.agg xs.toArray) (.agg xs.toArray)=true:=by
 simp only[Instr.sameBits,beq_self_eq_true,Bool.true_and];refine zc1.2 fun p hp=>?_
 have key:∀ (ls:List Lf) (xs:List Value),q1z ls xs→ ∀ p∈xs.zip xs,∃ l:Lf,l.fits p.1∧p.2=p.1:=by
  intro ls
  induction ls with
  | nil=>intro xs h p hp; simp only[q1z]at h; subst h; simp at hp
  | cons l ls ih=>
    intro xs h p hp;obtain⟨v,r,rfl,h1,h2⟩:=h;rcases zbm.1 hp with rfl | hp
    · exact⟨l,h1,rfl⟩
    · exact ih r h2 p hp
 obtain⟨l,h1,h2⟩:=key ls xs h p (by simpa using hp)
 obtain⟨a,b⟩:=p;simp only at h2; subst h2;exact q6j h1 n
def qo7(P:Program)(f:TypeId→Option (List Lf)):List Field→Nat→Option (List Lf)
 | [],_=>some []
 | fl :: r,off=>match f fl.type,qo7 P f r (off+P.cellsOf fl.type)with
   | some ls,some rs=>if fl.name != "_" &&Nat.beq fl.offset off&&Nat.beq (P.cellsOf fl.type) ls.length then some (ls++rs) else none
   | _,_=>none
def q4a(P:Program):Nat→TypeId→Option (List Lf)
 | 0,_=>none
 | d+1,t=>match P.underlying t with
   | some .bool=>some [.bool]
   | some (.int k)=>some [.int k]
   | some .string=>some [.str]
   | some (.struct fs)=>if P.stoodInHeld t then none else qo7 P (q4a P d) fs.toList 0
   | some (.array n e)=>match q4a P d e with
     | some ls=>if Nat.beq (P.cellsOf e) ls.length then some (List.replicate n ls).flatten else none
     | none=>none
   | _=>none
def valOf(P:Program)(t:TypeId)(cs:List Value):Value:=match P.underlying t with
 | some (.struct _)=> .agg cs.toArray
 | some (.array _ _)=> .agg cs.toArray
 | _=>cs.headD .nilFunc
theorem qbg{P:Program}{d:Nat}{t:TypeId}{ls:List Lf}(h:q4a P d t=some ls):(∃ l:Lf,ls=[l]∧((l= .bool∧P.underlying t=some .bool)∨(∃ k,l= .int k∧P.underlying t=some (.int k))∨(l= .str∧P.underlying t=some .string)))∨
 (∃ fs,P.underlying t=some (.struct fs))∨(∃ n e,P.underlying t=some (.array n e)):=by
 cases d with
 | zero=>simp[q4a]at h
 | succ d=>
   simp only[q4a]at h;split at h
   · rename_i hu; simp at h; subst h; exact .inl ⟨_,rfl,.inl ⟨rfl,hu⟩⟩
   · rename_i k hu; simp at h; subst h; exact .inl ⟨_,rfl,.inr (.inl ⟨k,rfl,hu⟩)⟩
   · rename_i hu; simp at h; subst h; exact .inl ⟨_,rfl,.inr (.inr ⟨rfl,hu⟩)⟩
   · rename_i fs hu; exact .inr (.inl ⟨fs,hu⟩)
   · rename_i n e hu; exact .inr (.inr ⟨n,e,hu⟩)
   · simp at h
theorem q5v{P:Program}{d:Nat}{e:TypeId}{ls:List Lf}(w:World)(h:q4a P d e=some ls)(hsz:P.cellsOf e=ls.length){xs:Array Value}{off:Nat}(hf:q1z ls ((xs.toList.drop off).take ls.length)):
 (part e xs off).run P w= .ok (valOf P e ((xs.toList.drop off).take ls.length)) w:=by
 have agg:(∃ fs,P.underlying e=some (.struct fs))∨(∃ n e',P.underlying e=some (.array n e'))→(part e xs off).run P w= .ok (valOf P e ((xs.toList.drop off).take ls.length)) w:=by
  intro hk
  have hl:(xs.extract off (off+P.cellsOf e))=((xs.toList.drop off).take ls.length).toArray:=by
   apply Array.toList_inj.1;rw[Array.toList_extract,hsz];simp[List.extract]
  rcases hk with⟨fs,hu⟩ | ⟨n,e',hu⟩<;>(obtain⟨i,hi⟩:=info_of_underlying hu; simp[part,isAgg,run_underlying hu,run_sizeOf w hi,valOf,hu,hl])
 rcases qbg h with⟨l,rfl,hl⟩ | hk | hk
 · obtain⟨v,r,hv,h1,h2⟩:=hf
   have hg:xs[off]?=some v:=by
    have:((xs.toList.drop off).take 1)[0]?=some v:=by rw[show(1:Nat)=[l].length from rfl,hv]; rfl
    rw[List.getElem?_take_of_lt (by decide),zcq,Nat.add_zero,Array.getElem?_toList]at this
    exact this
   rw[hv];rcases hl with⟨rfl,hu⟩ | ⟨k,rfl,hu⟩ | ⟨rfl,hu⟩<;>simp[part,isAgg,run_underlying hu,valOf,hu,hg]
 · exact agg (.inl hk)
 · exact agg (.inr hk)
theorem qa3{P:Program}{d D:Nat}(IH:∀ t ls xs ys,q4a P d t=some ls→q1z ls xs→q1z ls ys→ ∀ w,(Op.equalIn (D+d) t (valOf P t xs) (valOf P t ys)).run P w= .ok (eqcs xs ys) w)(xs ys:List Value):
 ∀ (fs:List Field) (off:Nat) (rs:List Lf),qo7 P (q4a P d) fs off=some rs→q1z rs (xs.drop off)→q1z rs (ys.drop off)→ ∀ w,(Op.eqFields (D+d) xs.toArray ys.toArray fs).run P w= .ok (eqcs (xs.drop off) (ys.drop off)) w
 | [],off,rs,h,hx,hy,w=>by
   simp only[qo7,zbe]at h; subst h;simp only[q1z]at hx hy;rw[hx,hy]; simp[Op.eqFields,eqcs]
 | f :: r,off,rs,h,hx,hy,w=>by
   simp only[qo7]at h;split at h
   · rename_i ls rs' h1 h2
     split at h
     · rename_i hc
       simp only[zbf]at hc;obtain⟨⟨c1,c2⟩,c3⟩:=hc;have c2:=zbg c2;have c3:=zbg c3;simp only[zbe]at h; subst h;obtain⟨x1,x2⟩:=q3k hx;obtain⟨y1,y2⟩:=q3k hy;have n1:f.name≠ "_" :=by simpa using c1
       rw[List.drop_drop]at x2 y2;rw[←c3]at x2 y2;have ih:=qa3 IH xs ys r (off+P.cellsOf f.type) rs' h2 x2 y2;have p1:=fun w=>q5v (xs:=xs.toArray) (off:=off) w h1 c3 x1
       have p2:=fun w=>q5v (xs:=ys.toArray) (off:=off) w h1 c3 y1
       have e1:=IH _ _ _ _ h1 x1 y1;have sx:xs.drop off=(xs.drop off).take ls.length++xs.drop (off+P.cellsOf f.type):=by rw[c3,←List.drop_drop,List.take_append_drop]
       have sy:ys.drop off=(ys.drop off).take ls.length++ys.drop (off+P.cellsOf f.type):=by rw[c3,←List.drop_drop,List.take_append_drop]
       have hq:eqcs (xs.drop off) (ys.drop off)=(eqcs ((xs.drop off).take ls.length) ((ys.drop off).take ls.length)&&eqcs (xs.drop (off+P.cellsOf f.type)) (ys.drop (off+P.cellsOf f.type))):=by
        rw[sx,sy,q93 (by rw[q3z x1,q3z y1])]
        simp only[←sx,←sy]
       rw[hq];simp only[Op.eqFields,n1,ne_eq,not_false_eq_true,if_true,zbx,c2,p1,p2,e1,zbk];cases eqcs ((xs.drop off).take ls.length) ((ys.drop off).take ls.length)with
       | true=>simpa using ih w
       | false=>simp
     · simp at h
   · simp at h
theorem qcg{P:Program}{d D:Nat}{e:TypeId}{ls:List Lf}(he:q4a P d e=some ls)(hc:P.cellsOf e=ls.length)(IH:∀ xs ys,q1z ls xs→q1z ls ys→ ∀ w,(Op.equalIn (D+d) e (valOf P e xs) (valOf P e ys)).run P w= .ok (eqcs xs ys) w)(xs ys:List Value):
 ∀ (m k:Nat),q1z (List.replicate m ls).flatten (xs.drop (k * P.cellsOf e))→q1z (List.replicate m ls).flatten (ys.drop (k * P.cellsOf e))→ ∀ w,
   (Op.eqItems (D+d) e (P.cellsOf e) xs.toArray ys.toArray (List.range' k m)).run P w= .ok (eqcs (xs.drop (k * P.cellsOf e)) (ys.drop (k * P.cellsOf e))) w
 | 0,k,hx,hy,w=>by
   simp only[List.replicate_zero,List.flatten_nil,q1z]at hx hy;rw[hx,hy]; simp[Op.eqItems,eqcs]
 | m+1,k,hx,hy,w=>by
   rw[List.replicate_succ,List.flatten_cons]at hx hy;obtain⟨x1,x2⟩:=q3k hx;obtain⟨y1,y2⟩:=q3k hy;have hk:k * P.cellsOf e+ls.length=(k+1) * P.cellsOf e:=by rw[zc7,Nat.one_mul,hc]
   rw[List.drop_drop,hk]at x2 y2;have ih:=qcg he hc IH xs ys m (k+1) x2 y2;have p1:=fun w=>q5v (xs:=xs.toArray) (off:=k * P.cellsOf e) w he hc x1
   have p2:=fun w=>q5v (xs:=ys.toArray) (off:=k * P.cellsOf e) w he hc y1
   have e1:=IH _ _ x1 y1;have sx:xs.drop (k * P.cellsOf e)=(xs.drop (k * P.cellsOf e)).take ls.length++xs.drop ((k+1) * P.cellsOf e):=by rw[←hk,←List.drop_drop,List.take_append_drop]
   have sy:ys.drop (k * P.cellsOf e)=(ys.drop (k * P.cellsOf e)).take ls.length++ys.drop ((k+1) * P.cellsOf e):=by rw[←hk,←List.drop_drop,List.take_append_drop]
   have hq:eqcs (xs.drop (k * P.cellsOf e)) (ys.drop (k * P.cellsOf e))=(eqcs ((xs.drop (k * P.cellsOf e)).take ls.length) ((ys.drop (k * P.cellsOf e)).take ls.length)&&eqcs (xs.drop ((k+1) * P.cellsOf e)) (ys.drop ((k+1) * P.cellsOf e))):=by
    rw[sx,sy,q93 (by rw[q3z x1,q3z y1])]
    simp only[←sx,←sy]
   rw[hq,List.range'_succ];simp only[Op.eqItems,zbx,p1,p2,e1,zbk];cases eqcs ((xs.drop (k * P.cellsOf e)).take ls.length) ((ys.drop (k * P.cellsOf e)).take ls.length)with
   | true=>simpa using ih w
   | false=>simp
theorem q83{P:Program}:∀ (d D:Nat) (t:TypeId) (ls:List Lf) (xs ys:List Value),q4a P d t=some ls→q1z ls xs→q1z ls ys→ ∀ w,(Op.equalIn (D+d) t (valOf P t xs) (valOf P t ys)).run P w= .ok (eqcs xs ys) w
 | 0,D,t,ls,xs,ys,h,_,_,_=>by simp[q4a]at h
 | d+1,D,t,ls,xs,ys,h,hx,hy,w=>by
   rw[show D+(d+1)=(D+d)+1 from rfl];have h':=h;simp only[q4a]at h;split at h
   · rename_i hu
     simp only[zbe]at h; subst h;obtain⟨v,r,rfl,⟨a,rfl⟩,h1⟩:=hx; obtain⟨u,q,rfl,⟨b,rfl⟩,h2⟩:=hy;simp only[q1z]at h1 h2; subst h1; subst h2;simp[valOf,hu,Op.equalIn,run_underlying hu,eqcs,eqc]
   · rename_i k hu
     simp only[zbe]at h; subst h;obtain⟨v,r,rfl,⟨a,rfl⟩,h1⟩:=hx; obtain⟨u,q,rfl,⟨b,rfl⟩,h2⟩:=hy;simp only[q1z]at h1 h2; subst h1; subst h2;simp[valOf,hu,Op.equalIn,run_underlying hu,eqcs,eqc]
   · rename_i hu
     simp only[zbe]at h; subst h;obtain⟨v,r,rfl,⟨a,rfl⟩,h1⟩:=hx; obtain⟨u,q,rfl,⟨b,rfl⟩,h2⟩:=hy;simp only[q1z]at h1 h2; subst h1; subst h2;simp[valOf,hu,Op.equalIn,run_underlying hu,eqcs,eqc]
   · rename_i fs hu
     split at h
     · simp at h
     · rename_i hst
       have hfs:P.fieldsOf t=fs:=by simp[Program.fieldsOf,hu]
       have:=qa3 (D:=D) (fun t ls xs ys=>q83 d D t ls xs ys) xs ys fs.toList 0 ls h (by simpa using hx) (by simpa using hy) w
       simp only[valOf,hu];rw[run_equalIn_struct w (D+d) t _ _ (by rw[hfs]; exact hu) (by simpa using hst),hfs,this]
       simp
   · rename_i n e hu
     split at h
     · rename_i ls' he
       split at h
       · rename_i hc
         simp only[zbe]at h; subst h;have hc:=zbg hc
         obtain⟨i,hi⟩:∃ i,P.info? e=some i:=by
          rcases qbg he with⟨l,_,(⟨_,hu⟩ | ⟨k,_,hu⟩ | ⟨_,hu⟩)⟩ | ⟨fs,hu⟩ | ⟨n,e',hu⟩<;>exact info_of_underlying hu
         have:=qcg (D:=D) he hc (fun xs ys=>q83 d D e ls' xs ys he) xs ys n 0 (by simpa using hx) (by simpa using hy) w
         simp only[valOf,hu];rw[run_equalIn_array w (D+d) _ _ hu hi,List.range_eq_range',this];simp
       · simp at h
     · simp at h
   · simp at h
theorem qhb{P:Program}{g:TypeId→Option (List Lf)}{xs:List Value}:∀ {fs:List Field} {off:Nat} {rs:List Lf},qo7 P g fs off=some rs→q1z rs (xs.drop off)→
 ∀ f∈fs,∃ ls,g f.type=some ls∧P.cellsOf f.type=ls.length∧q1z ls ((xs.drop f.offset).take ls.length)∧f.name≠ "_"
 | [],_,_,_,_,f,hf=>by simp at hf
 | a :: r,off,rs,h,hx,f,hf=>by
   simp only[qo7]at h;split at h
   · rename_i ls rs' h1 h2
     split at h
     · rename_i hc
       simp only[zbf]at hc;obtain⟨⟨c1,c2⟩,c3⟩:=hc;have c2:=zbg c2;have c3:=zbg c3;simp only[zbe]at h; subst h;obtain⟨x1,x2⟩:=q3k hx;rw[List.drop_drop,←c3]at x2;rcases zbm.1 hf with rfl | hf
       · exact⟨ls,h1,c3,by rw[c2]; exact x1,by simpa using c1⟩
       · exact qhb h2 x2 f hf
     · simp at h
   · simp at h
theorem qrv{ls:List Lf}{xs:List Value}{c:Nat}(hc:c=ls.length):∀ {m k:Nat},q1z (List.replicate m ls).flatten (xs.drop (k * c))→ ∀ j∈List.range' k m,q1z ls ((xs.drop (j * c)).take ls.length)
 | 0,k,_,j,hj=>by simp at hj
 | m+1,k,hx,j,hj=>by
   rw[List.replicate_succ,List.flatten_cons]at hx;obtain⟨x1,x2⟩:=q3k hx;rw[List.drop_drop,←hc,show k * c+c=(k+1) * c by rw[zc7,Nat.one_mul]]at x2
   rw[List.range'_succ]at hj;rcases zbm.1 hj with rfl | hj
   · exact x1
   · exact qrv hc x2 j hj
theorem qba{P:Program}(em:Bool):∀ (d D:Nat) (t:TypeId) (ls:List Lf) (xs:List Value),q4a P d t=some ls→q1z ls xs→ ∀ w,(Instr.checkKey em (D+d) t (valOf P t xs)).run P w= .ok () w
 | 0,D,t,ls,xs,h,_,_=>by simp[q4a]at h
 | d+1,D,t,ls,xs,h,hx,w=>by
   rw[show D+(d+1)=(D+d)+1 from rfl];simp only[q4a]at h;split at h
   · rename_i hu
     simp only[zbe]at h; subst h;obtain⟨v,r,rfl,⟨a,rfl⟩,h1⟩:=hx;simp[valOf,hu,Instr.checkKey,run_underlying hu]
   · rename_i k hu
     simp only[zbe]at h; subst h;obtain⟨v,r,rfl,⟨a,rfl⟩,h1⟩:=hx;simp[valOf,hu,Instr.checkKey,run_underlying hu]
   · rename_i hu
     simp only[zbe]at h; subst h;obtain⟨v,r,rfl,⟨a,rfl⟩,h1⟩:=hx;simp[valOf,hu,Instr.checkKey,run_underlying hu]
   · rename_i fs hu
     split at h
     · simp at h
     · have each:=qhb (xs:=xs) h (by simpa using hx)
       simp only[valOf,hu,Instr.checkKey,zbx,run_underlying hu,zbk];rw[←Array.forIn_toList];clear h;generalize fs.toList=L at each
       induction L with
       | nil=>simp
       | cons f L ih=>
         obtain⟨lf,e1,e2,e3,e4⟩:=each f (by simp)
         have p1:=q5v (xs:=xs.toArray) (off:=f.offset) w e1 e2 e3;have p2:=qba em d D f.type lf _ e1 e3 w;simp only[List.forIn_cons,zbx,e4,ne_eq,not_false_eq_true,if_true,zbk,p1,p2,zby];exact ih (fun y hy=>each y (by simp[hy]))
   · rename_i n e hu
     split at h
     · rename_i ls' he
       split at h
       · rename_i hc
         simp only[zbe]at h; subst h;have hc:=zbg hc
         obtain⟨i,hi⟩:∃ i,P.info? e=some i:=by
          rcases qbg he with⟨l,_,(⟨_,hu⟩ | ⟨k,_,hu⟩ | ⟨_,hu⟩)⟩ | ⟨fs,hu⟩ | ⟨n,e',hu⟩<;>exact info_of_underlying hu
         have each:=qrv (xs:=xs) hc (m:=n) (k:=0) (by simpa using hx)
         simp only[valOf,hu,Instr.checkKey,zbx,run_underlying hu,zbk];simp only[Std.Legacy.Range.forIn_eq_forIn_range',Std.Legacy.Range.size,Nat.sub_zero,Nat.add_one_sub_one,Nat.div_one];generalize List.range' 0 n=is at each;clear hx
         induction is with
         | nil=>simp
         | cons j is ih=>
           have e3:=each j (by simp)
           have p1:=q5v (xs:=xs.toArray) (off:=j * P.cellsOf e) w he hc e3;have p2:=qba em d D e ls' _ he e3 w;simp only[List.forIn_cons,zbx,run_sizeOf w hi,zbk,p1,p2,zby];exact ih (fun y hy=>each y (by simp[hy]))
       · simp at h
     · simp at h
   · simp at h
def isWide(P:Program)(k:TypeId):Bool:=match P.underlying k with
 | some (.array _ _)=>true
 | some (.struct _)=>true
 | _=>false
def ren0:Ren:=⟨fun _=>0,fun _=>0,fun _=>0⟩
def KeyV(ls:List Lf)(v:AV):Prop:=v.sup=0∧ ∃ cs,v= .agg cs∧q1z ls (q04 ren0 cs)
def z4w(x y:AV):Bool:=match x,y with
 | .agg a,.agg b=>eqcs (q04 ren0 a) (q04 ren0 b)
 | _,_=>false
theorem KeyV.conc{ls:List Lf}{v:AV}(h:KeyV ls v)(ρ:Ren):∃ cs,v= .agg cs∧J.conc ρ v= .agg (q04 ren0 cs).toArray∧q1z ls (q04 ren0 cs):=by
 obtain⟨h0,cs,rfl,h1⟩:=h;refine⟨cs,rfl,?_,h1⟩;simp only[AV.sup]at h0;simp only[J.conc,q0u (ρ:=ren0) (ρ':=ρ) (n:=0) (fun i hi=>by omega) cs (by omega)]
theorem qle:∀ {ls:List Lf} {xs:List Value},q1z ls xs→eqcs xs xs=true
 | [],xs,h=>by simp only[q1z]at h; subst h; rfl
 | l :: ls,xs,h=>by
   obtain⟨v,r,rfl,h1,h2⟩:=h;have hb:∀ x:ByteArray,(x==x)=true:=fun x=>by rw[beq_toListBytes,beq_self_eq_true]
   have:eqc v v=true:=by cases l<;>(obtain⟨x,rfl⟩:=h1; simp[eqc,hb])
   simp only[eqcs,this,qle h2,Bool.and_self]
theorem MapKey.flat{P:Program}{k:TypeId}{ls:List Lf}{d:Nat}(hd:d≤10000)(hf:q4a P d k=some ls)(hw:isWide P k=true):MapKey P k (KeyV ls) z4w:=by
 have hv:∀ cs,valOf P k cs= .agg cs.toArray:=fun cs=>by
  unfold isWide at hw;unfold valOf;split at hw<;>simp_all
 refine⟨fun v h=>h.1,fun v h ρ em w=>?_,.inr ⟨?_,fun x y hx hy ρ w=>?_⟩,fun v h=>by obtain⟨_,cs,rfl,h1⟩:=h; exact qle h1,fun x y hx hy he ρ=>?_⟩
 · obtain⟨cs,rfl,h1,h2⟩:=h.conc ρ
   rw[h1,←hv,show 10000=(10000 - d)+d by omega]
   exact qba em d _ k ls _ hf h2 w
 · unfold isWide at hw; split at hw<;>simp_all
 · obtain⟨cs,rfl,h1,h2⟩:=hx.conc ρ
   obtain⟨cs',rfl,h3,h4⟩:=hy.conc ρ;rw[h1,h3,←hv,←hv];show(Op.equalIn 10000 k _ _).run P w=_;rw[show 10000=(10000 - d)+d by omega]
   exact q83 d _ k ls _ _ hf h2 h4 w
 · obtain⟨cs,rfl,h1,h2⟩:=hx.conc ρ
   obtain⟨cs',rfl,h3,h4⟩:=hy.conc ρ;have:=qvs h2 h4 he;rw[h1,h3,this];exact qk5 h4 9999
theorem qla{P:Program}{k:TypeId}{D:TypeDesc}(hu:P.underlying k=some D)(hD:(∃ kd,D= .int kd)∨D= .string)(em:Bool)(n:Nat)(v:Value)(w:World):(Instr.checkKey em (n+1) k v).run P w= .ok () w:=by
 rcases hD with⟨kd,rfl⟩ | rfl<;>simp[Instr.checkKey,run_underlying hu]
def KeyI(kd:IntKind)(v:AV):Prop:= ∃ n,v= .int kd n
def qhi(x y:AV):Bool:=match x,y with
 | .int _ a,.int _ b=>a==b
 | _,_=>false
theorem MapKey.int{P:Program}{k:TypeId}{kd:IntKind}(hu:P.underlying k=some (.int kd)):MapKey P k (KeyI kd) qhi:=by
 refine⟨fun v h=>by obtain⟨n,rfl⟩:=h; rfl,fun v h ρ em w=>?_,.inl ⟨_,hu,fun x y hx hy ρ=>?_⟩,fun v h=>by obtain⟨n,rfl⟩:=h; simp[qhi],fun x y hx hy he ρ=>?_⟩
 · obtain⟨n,rfl⟩:=h
   exact qla hu (by simp) em 9999 _ w
 · obtain⟨a,rfl⟩:=hx; obtain⟨b,rfl⟩:=hy
   simp[conc,Instr.sameNow,qhi]
 · obtain⟨a,rfl⟩:=hx; obtain⟨b,rfl⟩:=hy
   simp only[qhi,beq_iff_eq]at he; subst he;exact q6j (l:= .int kd) ⟨_,rfl⟩ 10000
def KeyS(v:AV):Prop:= ∃ s,v= .str s
def qr1(x y:AV):Bool:=match x,y with
 | .str a,.str b=>a==b
 | _,_=>false
theorem MapKey.str{P:Program}{k:TypeId}(hu:P.underlying k=some .string):MapKey P k KeyS qr1:=by
 refine⟨fun v h=>by obtain⟨n,rfl⟩:=h; rfl,fun v h ρ em w=>?_,.inl ⟨_,hu,fun x y hx hy ρ=>?_⟩,fun v h=>by obtain⟨n,rfl⟩:=h; show(n==n)=true; rw[beq_toListBytes,beq_self_eq_true],fun x y hx hy he ρ=>?_⟩
 · obtain⟨n,rfl⟩:=h
   exact qla hu (by simp) em 9999 _ w
 · obtain⟨a,rfl⟩:=hx; obtain⟨b,rfl⟩:=hy
   simp[conc,Instr.sameNow,qr1]
 · obtain⟨a,rfl⟩:=hx; obtain⟨b,rfl⟩:=hy
   have:=z2l (l:= .str) (a:= .string a) (b:= .string b) ⟨_,rfl⟩ ⟨_,rfl⟩ he;cases this;exact q6j (l:= .str) ⟨_,rfl⟩ 10000
def MapV(h:AH)(id:Nat)(K V:AV→Prop):Prop:= ∃ es cl,h.get id=some (.map es cl)∧(∀ e∈es,K e.1)∧ ∀ e∈es,V e.2.1
def MapB(h:AH)(id:Nat)(K V:AV→Prop)(b:Nat):Prop:= ∃ es cl,h.get id=some (.map es cl)∧(∀ e∈es,K e.1)∧(∀ e∈es,V e.2.1)∧ ∃ e∈es,e.2.2=b
theorem MapV.le{h h':AH}{id:Nat}{K V:AV→Prop}(a:MapV h id K V)(l:Le h h'):MapV h' id K V:=by
 obtain⟨es,cl,h1,h2⟩:=a; exact⟨es,cl,l.get _ _ h1,h2⟩
theorem MapV.but{h h':AH}{id i:Nat}{K V:AV→Prop}(a:MapV h id K V)(l:But h i h')(hne:id≠i):MapV h' id K V:=by
 obtain⟨es,cl,h1,h2⟩:=a; exact⟨es,cl,l.get _ _ hne h1,h2⟩
theorem MapB.le{h h':AH}{id b:Nat}{K V:AV→Prop}(a:MapB h id K V b)(l:Le h h'):MapB h' id K V b:=by
 obtain⟨es,cl,h1,h2⟩:=a; exact⟨es,cl,l.get _ _ h1,h2⟩
theorem MapV.ne{h:AH}{id i:Nat}{K V:AV→Prop}(a:MapV h id K V)(hn:h.get i=none):id≠i:=by
 obtain⟨es,cl,h1,h2⟩:=a; exact q8c hn h1
section rules
variable{P:Program}{r:Option Nat}{sl:List (Nat×AV)}{h₀:AH}{nt:Nat}{ds:List ADef}{Q:AExit→St→Prop}{o:Oper}{d:Nat}{x y z:Operand}
end rules
noncomputable section
def od{α β:Type}(x:Option α)(f:α→Option β):Option β:=Option.rec (motive:=fun _=>Option β) none f x
def gb{β:Type}(b:Bool)(k:Option β):Option β:=Bool.rec (motive:=fun _=>Option β) none k b
inductive Tr(α:Type) where
 | nil
 | node (v:Option α) (a b c d:Tr α)
def Tr.get{α:Type}(t:Tr α):Nat→Option α:=
 Tr.rec (motive:=fun _=>Nat→Option α) (fun _=>none)
  (fun v _ _ _ _ g0 g1 g2 g3 n=>Nat.rec (motive:=fun _=>Option α) v (fun m _=>Nat.rec (motive:=fun _=>Option α) (g0 (Nat.div m 4)) (fun k1 _=>Nat.rec (motive:=fun _=>Option α) (g1 (Nat.div m 4)) (fun k2 _=>Nat.rec (motive:=fun _=>Option α) (g2 (Nat.div m 4)) (fun _ _=>g3 (Nat.div m 4)) k2) k1) (Nat.mod m 4)) n) t
def Tr.set{α:Type}(f:Nat)(t:Tr α)(n:Nat)(c:Option α):Tr α:=
 Nat.rec (motive:=fun _=>Tr α→Nat→Tr α) (fun t _=>t)
  (fun _ ih t n=>Tr.rec (motive:=fun _=>Tr α)
    (Nat.rec (motive:=fun _=>Tr α) (.node c .nil .nil .nil .nil) (fun m _=>Nat.rec (motive:=fun _=>Tr α) (.node none (ih .nil (Nat.div m 4)) .nil .nil .nil) (fun k1 _=>Nat.rec (motive:=fun _=>Tr α) (.node none .nil (ih .nil (Nat.div m 4)) .nil .nil) (fun k2 _=>Nat.rec (motive:=fun _=>Tr α) (.node none .nil .nil (ih .nil (Nat.div m 4)) .nil) (fun _ _=> .node none .nil .nil .nil (ih .nil (Nat.div m 4))) k2) k1) (Nat.mod m 4)) n)
    (fun v t0 t1 t2 t3 _ _ _ _=>Nat.rec (motive:=fun _=>Tr α) (.node c t0 t1 t2 t3) (fun m _=>Nat.rec (motive:=fun _=>Tr α) (.node v (ih t0 (Nat.div m 4)) t1 t2 t3) (fun k1 _=>Nat.rec (motive:=fun _=>Tr α) (.node v t0 (ih t1 (Nat.div m 4)) t2 t3) (fun k2 _=>Nat.rec (motive:=fun _=>Tr α) (.node v t0 t1 (ih t2 (Nat.div m 4)) t3) (fun _ _=> .node v t0 t1 t2 (ih t3 (Nat.div m 4))) k2) k1) (Nat.mod m 4)) n) t) f t n
def Tr.toL{α:Type}:Tr α→(Nat→Nat)→List (Nat×α)→List (Nat×α)
 | .nil,_,acc=>acc
 | .node v a b c d,f,acc=>match v with
   | some x=>(f 0,x) :: a.toL (fun n=>f (4 * n+1)) (b.toL (fun n=>f (4 * n+2)) (c.toL (fun n=>f (4 * n+3)) (d.toL (fun n=>f (4 * n+4)) acc)))
   | none=>a.toL (fun n=>f (4 * n+1)) (b.toL (fun n=>f (4 * n+2)) (c.toL (fun n=>f (4 * n+3)) (d.toL (fun n=>f (4 * n+4)) acc)))
structure EH where
 next:Nat
 t:Tr Chunk
 log:List Nat
def EH.get(h:EH)(i:Nat):Option Chunk:=h.t.get i
def EH.ah(h:EH):AH:=⟨h.next,h.t.get⟩
def lim:Nat:=1099511627000
def EH.put(h:EH)(i:Nat)(c:Option Chunk):Option EH:=EH.rec (motive:=fun _=>Option EH) (fun next t log=>Bool.rec (motive:=fun _=>Option EH) none (some ⟨next,Tr.set 40 t i c,i :: log⟩) (Nat.ble i lim)) h
def EH.add(h:EH)(c:Chunk):Option EH:=EH.rec (motive:=fun _=>Option EH) (fun next t log=>Bool.rec (motive:=fun _=>Option EH) none (some ⟨Nat.succ next,Tr.set 40 t next (some c),next :: log⟩) (Nat.ble next lim)) h
def Chunk.cellsOf:Chunk→Option (List AV)
 | .ro cs=>some cs
 | .own cs=>some cs
 | .grow _ cs=>some cs
 | _=>none
def EH.cells(h:EH)(i:Nat):Option (List AV):=od (h.t.get i) Chunk.cellsOf
def Chunk.asOwn:Chunk→Option (List AV)
 | .own cs=>some cs
 | _=>none
def Chunk.asGrow:Chunk→Option (Nat×List AV)
 | .grow e cs=>some (e,cs)
 | _=>none
def Chunk.asMap:Chunk→Option (List (AV×AV×Nat)×Nat)
 | .map es cl=>some (es,cl)
 | _=>none
def Chunk.asIter:Chunk→Option (ByteArray×Nat)
 | .siter p n=>some (p,n)
 | _=>none
structure LoopR where
 st:LoopState
 pd:Option Code
 ts:List (Nat×AV)
 nt:Nat
 ps:Array Tmp
 assign:Code
 body:Code
 m:Nat
def Chunk.asLoop:Chunk→Option LoopR
 | .loop st pd ts nt ps a b m=>some ⟨st,pd,ts,nt,ps,a,b,m⟩
 | _=>none
def LoopR.ck(l:LoopR)(st:LoopState)(pd:Option Code):Chunk:= .loop st pd l.ts l.nt l.ps l.assign l.body l.m
def LoopR.isReady(l:LoopR):Bool:=match l.st with
 | .ready=>true
 | _=>false
def LoopR.isBusy(l:LoopR):Bool:=match l.st with
 | .busy=>true
 | _=>false
def EH.getM{β:Type}(h:EH)(i:Nat)(f:Chunk→Option β):Option β:=od (h.t.get i) f
structure ES where
 sl:Tr AV
 h:EH
 ds:List ADef
inductive Tk where
 | code (r:Option Nat) (n:Nat) (c:Code) (s:ES)
 | call (f:Nat) (args:List AV) (h:EH)
 | app (fv:AV) (args:List AV) (h:EH)
inductive Rs where
 | code (e:AExit) (s:ES)
 | fin (v:AV) (h:EH)
 | no (why:String)
def ob{α:Type}(x:Option α)(f:α→Rs):Rs:=Option.rec (motive:=fun _=>Rs) (.no "") f x
def gd(b:Bool)(k:Rs):Rs:=Bool.rec (motive:=fun _=>Rs) (.no "") k b
def AV.asPtr:AV→Option (Nat×Nat)
 | .ptr a=>a
 | _=>none
def AV.asInt:AV→Option (IntKind×Int)
 | .int k n=>some (k,n)
 | _=>none
def AV.asBool:AV→Option Bool
 | .bool b=>some b
 | _=>none
def AV.asStr:AV→Option ByteArray
 | .str s=>some s
 | _=>none
def AV.asSl:AV→Option (Option (Nat×Nat)×Nat×Cap)
 | .slice p n c=>some (p,n,c)
 | _=>none
def AV.asAgg:AV→Option (List AV)
 | .agg cs=>some cs
 | _=>none
def AV.asTup:AV→Option (List AV)
 | .tuple cs=>some cs
 | _=>none
def AV.asMap:AV→Option Nat
 | .map r=>r
 | _=>none
def Cap.asExact:Cap→Option Nat
 | .exact n=>some n
 | .grow _=>none
def beqK:IntKind→IntKind→Bool
 | .i8,k=>match k with | .i8=>true | _=>false
 | .i16,k=>match k with | .i16=>true | _=>false
 | .i32,k=>match k with | .i32=>true | _=>false
 | .i64,k=>match k with | .i64=>true | _=>false
 | .u8,k=>match k with | .u8=>true | _=>false
 | .u16,k=>match k with | .u16=>true | _=>false
 | .u32,k=>match k with | .u32=>true | _=>false
 | .u64,k=>match k with | .u64=>true | _=>false
def natI:Int→Option Nat
 | .ofNat n=>some n
 | .negSucc _=>none
def beqI:Int→Int→Bool
 | .ofNat a,y=>match y with | .ofNat b=>Nat.beq a b | .negSucc _=>false
 | .negSucc a,y=>match y with | .ofNat _=>false | .negSucc b=>Nat.beq a b
def bltI:Int→Int→Bool
 | .ofNat a,y=>match y with | .ofNat b=>Nat.blt a b | .negSucc _=>false
 | .negSucc a,y=>match y with | .ofNat _=>true | .negSucc b=>Nat.blt b a
def szOf(P:Program)(T:TypeId):Option Nat:=od (P.info? T) fun i=>some i.size
def qhe(P:Program)(T:TypeId):Option Bool:=od (P.underlying T) fun D=>some (q40 D)
def qks(P:Program)(T:TypeId):Option AV:=od (P.info? T) fun i=>od i.zero absv
def qq9:TypeDesc→Option (Array Field)
 | .struct fs=>some fs
 | _=>none
def qd5:TypeDesc→Option TypeId
 | .slice e=>some e
 | _=>none
def z2c:TypeDesc→Option (Nat×TypeId)
 | .array n e=>some (n,e)
 | _=>none
def z2d:TypeDesc→Option (TypeId×TypeId)
 | .map k e=>some (k,e)
 | _=>none
def quu:TypeDesc→Option IntKind
 | .int k=>some k
 | _=>none
def q41:TypeDesc→Bool
 | .string=>true
 | _=>false
def z2s:TypeDesc→Bool
 | .pointer _=>true
 | _=>false
def qwd:TypeDesc→Bool
 | .bool=>true
 | _=>false
def qqo(P:Program)(S:TypeId)(i:Nat):Option (Nat×TypeId):=od (P.underlying S) fun D=>od (qq9 D) fun fs=>od (fs.toList[i]?) fun f=>some (f.offset,f.type)
def qfq(P:Program):List Field→Option (List (Nat×Nat))
 | []=>some []
 | f :: r=>od (szOf P f.type) fun n=>od (qfq P r) fun l=>some ((f.offset,n) :: l)
def elemE(P:Program)(T:TypeId):Option TypeId:=od (P.underlying T) qd5
def arrE(P:Program)(T:TypeId):Option (Nat×TypeId):=od (P.underlying T) z2c
def qoo(P:Program)(T:TypeId):Option (TypeId×TypeId):=od (P.underlying T) z2d
def qhh(P:Program)(T:TypeId):Bool:=match P.underlying T with
 | some D=>q41 D
 | none=>false
def qqx(P:Program)(T:TypeId):Bool:=match P.underlying T with
 | some D=>z2s D
 | none=>false
def qwc(P:Program)(T:TypeId):Bool:=match P.underlying T with
 | some D=>qwd D
 | none=>false
def q8z:List UInt8→List UInt8→Bool
 | [],y=>match y with | []=>true | _ :: _=>false
 | a :: x,y=>match y with
   | []=>false
   | b :: y=>match Nat.beq a.toNat b.toNat with
     | true=>q8z x y
     | false=>false
def qgq(p q:ByteArray):Bool:=q8z p.data.toList q.data.toList
def evE(sl:Tr AV)(x:Operand):Option AV:=Operand.rec (motive:=fun _=>Option AV) (fun t=>sl.get t) absv (fun _=>none) (fun f=>some (.fn (.func f) [] [])) x
def evLE(sl:Tr AV):List Operand→Option (List AV)
 | []=>some []
 | x :: r=>od (evE sl x) fun v=>od (evLE sl r) fun l=>some (v :: l)
def evPE(sl:Tr AV):List (Nat×Operand)→Option (List (Nat×AV))
 | []=>some []
 | x :: r=>od (evE sl x.2) fun v=>od (evPE sl r) fun l=>some ((x.1,v) :: l)
def qsq(L:Tr AV)(x:Operand):Option (Nat×Nat):=od (evE L x) AV.asPtr
def qlf(L:Tr AV)(x:Operand):Option (IntKind×Int):=od (evE L x) AV.asInt
def finE(N:Nat)(o:Oper)(L:Tr AV)(D:List ADef)(v:AV)(h:EH):Rs:=ob o.dst fun d=>gd (Nat.blt d N) (.code .normal ⟨Tr.set 20 L d (some v),h,D⟩)
def actE(o:Oper)(L:Tr AV)(D:List ADef)(h:EH):Rs:=Option.rec (motive:=fun _=>Rs) (.code .normal ⟨L,h,D⟩) (fun _=> .no "") o.dst
def cmpE(op:BinOp)(a b:Int):Option Bool:=match op with
 | .eql=>some (beqI a b)
 | .neq=>some (!beqI a b)
 | .lss=>some (bltI a b)
 | .leq=>some (!bltI b a)
 | .gtr=>some (bltI b a)
 | .geq=>some (!bltI a b)
 | _=>none
def nz(b:Int):Bool:=!beqI b 0
def z2b(op:BinOp)(k:IntKind)(a b:Int):Option Int:=match op with
 | .add=>some (q36 k (a+b))
 | .sub=>some (q36 k (a - b))
 | .mul=>some (q36 k (a * b))
 | .quo=>gb (nz b) (some (quoI k a b))
 | .rem=>gb (nz b) (some (remI a b))
 | .and=>some (bitI .and k a b)
 | .or=>some (bitI .or k a b)
 | .xor=>some (bitI .xor k a b)
 | .andNot=>some (bitI .andNot k a b)
 | _=>none
def z3a(op:BinOp)(k:IntKind)(a b:Int):Option Int:=match op with
 | .shl=>od (natI b) fun _=>some (shlI k a b)
 | .shr=>od (natI b) fun _=>some (shrI k a b)
 | _=>none
def qey:BinOp→Bool
 | .shl | .shr=>true
 | _=>false
def z7j:BinOp→Bool
 | .eql | .neq | .lss | .leq | .gtr | .geq=>true
 | _=>false
def qbf:Lf→AV→Bool
 | .bool,v=>match v with | .bool _=>true | _=>false
 | .int k,v=>match v with | .int j _=>beqK j k | _=>false
 | .str,v=>match v with | .str _=>true | _=>false
def q2s:List Lf→List AV→Bool
 | [],vs=>match vs with | []=>true | _ :: _=>false
 | l :: ls,vs=>match vs with
   | []=>false
   | v :: vs=>match qbf l v with
     | true=>q2s ls vs
     | false=>false
def eqA:AV→AV→Bool
 | .bool a,y=>match y with | .bool b=>a==b | _=>false
 | .int _ a,y=>match y with | .int _ b=>beqI a b | _=>false
 | .str a,y=>match y with | .str b=>qgq a b | _=>false
 | _,_=>false
def eqAs:List AV→List AV→Bool
 | a :: x,y=>match y with
   | []=>false
   | b :: y=>match eqA a b with
     | true=>eqAs x y
     | false=>false
 | [],y=>match y with | []=>true | _ :: _=>false
def qj2(P:Program)(T:TypeId)(a b:List AV):Option Bool:=od (q4a P 30 T) fun ls=>gb (q2s ls a) (gb (q2s ls b) (gb (isWide P T) (gb (!P.eqGuardType P.depth T) (some (eqAs a b)))))
def obm{α:Type}(m:String)(x:Option α)(f:α→Rs):Rs:=Option.rec (motive:=fun _=>Rs) (.no m) f x
def gdm(m:String)(b:Bool)(k:Rs):Rs:=Bool.rec (motive:=fun _=>Rs) (.no m) k b
def isNone{α:Type}:Option α→Bool
 | none=>true
 | some _=>false
def q76(P:Program)(T:TypeId)(x y:AV):Option Bool:=match x with
 | .str a=>od y.asStr fun b=>some (qgq a b)
 | .bool a=>od y.asBool fun b=>gb (qwc P T) (some (a==b))
 | .agg a=>od y.asAgg fun b=>qj2 P T a b
 | .slice a _ _=>od y.asSl fun q=>gb (isNone q.1) (gb (Nat.beq q.2.1 0) (od (elemE P T) fun _=>some (isNone a)))
 | .ptr a=>match y with
   | .ptr none=>gb (qqx P T) (some (isNone a))
   | _=>none
 | _=>none
def z2f(op:BinOp)(k j:IntKind)(a b:Int):Option AV:=match qey op with
 | true=>od (z3a op k a b) fun n=>some (.int k n)
 | false=>gb (beqK j k) (match z7j op with
   | true=>od (cmpE op a b) fun t=>some (.bool t)
   | false=>od (z2b op k a b) fun n=>some (.int k n))
def z2g(op:BinOp)(a b:ByteArray):Option AV:=match op with
 | .eql=>some (.bool (qgq a b))
 | .neq=>some (.bool (!qgq a b))
 | .add=>gb (Nat.ble (a.size+b.size) 9223372036854775807) (some (.str (a++b)))
 | _=>none
def qit(P:Program)(op:BinOp)(T:TypeId)(x y:AV):Option AV:=match op with
 | .eql=>od (q76 P T x y) fun b=>some (.bool b)
 | .neq=>od (q76 P T x y) fun b=>some (.bool (!b))
 | _=>none
def binE(P:Program)(op:BinOp)(T:TypeId)(x y:AV):Option AV:=match x with
 | .int k a=>od y.asInt fun q=>z2f op k q.1 a q.2
 | .str a=>od y.asStr fun b=>z2g op a b
 | x=>qit P op T x y
inductive KeyKind where
 | int (k:IntKind)
 | str
 | wide (ls:List Lf)
def qbk(P:Program)(k:TypeId):Option KeyKind:=od (P.underlying k) fun D=>match D with
 | .int kd=>some (.int kd)
 | .string=>some .str
 | .array _ _=>od (q4a P 30 k) fun ls=>some (.wide ls)
 | .struct _=>od (q4a P 30 k) fun ls=>some (.wide ls)
 | _=>none
def isKey:KeyKind→AV→Bool
 | .int kd,v=>match v with | .int j _=>beqK j kd | _=>false
 | .str,v=>match v with | .str _=>true | _=>false
 | .wide ls,v=>match v with | .agg cs=>q2s ls cs | _=>false
def z08:AV→AV→Bool
 | .int _ a,y=>match y with | .int _ b=>beqI a b | _=>false
 | .str a,y=>match y with | .str b=>qgq a b | _=>false
 | .agg a,y=>match y with | .agg b=>eqAs a b | _=>false
 | _,_=>false
def q8w(kk:KeyKind):List (AV×AV×Nat)→Bool
 | []=>true
 | e :: r=>match isKey kk e.1 with
   | true=>q8w kk r
   | false=>false
def qem(x:AV):List (AV×AV×Nat)→Nat→Option (Nat×AV×Nat)
 | [],_=>none
 | e :: es,i=>match z08 x e.1 with
   | true=>some (i,e.2.1,e.2.2)
   | false=>qem x es (i+1)
def qa6(b:Int):List (AV×AV×Nat)→Nat→Option Nat
 | [],_=>none
 | e :: es,i=>match beqI (.ofNat e.2.2) b with
   | true=>some i
   | false=>qa6 b es (i+1)
def setAt{α:Type}(f:α→α):Nat→List α→List α
 | _,[]=>[]
 | 0,a :: l=>f a :: l
 | n+1,a :: l=>a :: setAt f n l
def natE(L:Tr AV)(x:Option Operand)(dflt:Nat):Option Nat:=match x with
 | none=>some dflt
 | some x=>od (evE L x) fun v=>od v.asInt fun q=>natI q.2
def z6r(z:AV)(size bytes:Nat):Bool:=Nat.ble bytes 4096&&Nat.beq z.cells.length size
def z3u(P:Program)(t t2:TypeId):Option Nat:=od (elemE P t) fun e=>gb (qot P t2) (od (P.info? e) fun i=>od (qks P e) fun z=>gb (z6r z i.size i.bytes) (some i.size))
def q4h(h:EH)(n esz:Nat)(p:Option (Nat×Nat)):Option (List AV):=match p with
 | some q=>od (h.cells q.1) fun cs=>gb (Nat.ble (q.2+n * esz) cs.length) (some ((cs.drop q.2).take (n * esz)))
 | none=>gb (Nat.beq n 0) (some [])
def ones:List AV→Bool
 | []=>true
 | v :: r=>match v.one with
   | true=>ones r
   | false=>false
def q7n(cs:List AV)(off:Nat)(new:List AV):List AV:=match off with
 | 0=>new++cs.drop new.length
 | off+1=>match cs with
   | []=>new
   | c :: cs=>c :: q7n cs off new
def z29(N:Nat)(o:Oper)(L:Tr AV)(H:EH)(D:List ADef)(esz n0 n:Nat)(p:Option (Nat×Nat))(new:List AV):Rs:=ob (q4h H n0 esz p) fun old=>gd (Nat.ble (n0+n) 4294967296) (ob (H.add (.grow esz (old++new))) fun h'=>
 finE N o L D (.slice (some (H.next,0)) (n0+n) (.grow 0)) h')
def z28(N:Nat)(o:Oper)(L:Tr AV)(H:EH)(D:List ADef)(esz n0 n cap:Nat)(p:Option (Nat×Nat))(new:List AV):Rs:=ob p fun q=>ob (H.getM q.1 Chunk.asOwn) fun cs=>gd (ones new) (gd (Nat.ble (q.2+(n0+n) * esz) cs.length)
 (ob (H.put q.1 (some (.own (q7n cs (q.2+n0 * esz) new)))) fun h'=>finE N o L D (.slice p (n0+n) (.exact cap)) h'))
def qun(N:Nat)(o:Oper)(L:Tr AV)(H:EH)(D:List ADef)(esz n0 n:Nat)(d:Nat)(p:Option (Nat×Nat))(new:List AV):Rs:=ob p fun q=>gd (Nat.beq q.2 0) (gd (Nat.beq d 0) (ob (H.getM q.1 Chunk.asGrow) fun g=>gd (Nat.beq g.1 esz) (gd (Nat.beq g.2.length (n0 * esz))
 (gd (ones new) (gd (Nat.ble (n0+n) 4294967296) (ob (H.put q.1 none) fun h1=>ob (h1.add (.grow esz (g.2++new))) fun h2=>finE N o L D (.slice (some (H.next,0)) (n0+n) (.grow 0)) h2))))))
def qum(N:Nat)(o:Oper)(L:Tr AV)(H:EH)(D:List ADef)(esz n0 n:Nat)(p:Option (Nat×Nat))(c0:Cap)(new:List AV):Rs:=match c0 with
 | .exact cap=>match Nat.beq n 0 with
   | true=>gd (Nat.ble n0 cap) (finE N o L D (.slice p n0 (.exact cap)) H)
   | false=>match Nat.blt cap (n0+n)with
     | true=>z29 N o L H D esz n0 n p new
     | false=>z28 N o L H D esz n0 n cap p new
 | .grow d=>qun N o L H D esz n0 n d p new
def quq(P:Program)(N:Nat)(o:Oper)(L:Tr AV)(H:EH)(D:List ADef)(t t2:TypeId)(x y:AV):Rs:=ob (z3u P t t2) fun esz=>ob x.asSl fun a=>ob y.asSl fun b=>ob (q4h H b.2.1 esz b.1) fun new=>qum N o L H D esz a.2.1 b.2.1 a.1 a.2.2 new
def z2j(N:Nat)(o:Oper)(L:Tr AV)(H:EH)(D:List ADef)(esz n:Nat)(p q:Option (Nat×Nat)):Rs:=ob p fun a=>ob (H.getM a.1 Chunk.asOwn) fun cs=>ob (q4h H n esz q) fun new=>gd (ones new) (gd (Nat.ble (a.2+n * esz) cs.length)
 (ob (H.put a.1 (some (.own (q7n cs a.2 new)))) fun h'=>finE N o L D (.int .i64 (.ofNat n)) h'))
def z6y(P:Program)(N:Nat)(o:Oper)(L:Tr AV)(H:EH)(D:List ADef)(t:TypeId)(x y:AV):Rs:=ob (elemE P t) fun e=>ob (szOf P e) fun esz=>ob x.asSl fun a=>ob y.asSl fun b=>ob a.2.2.asExact fun _=>z2j N o L H D esz (min b.2.1 a.2.1) a.1 b.1
def lenE(P:Program)(H:EH)(t:TypeId)(x:AV):Option Nat:=match x with
 | .slice _ n _=>od (elemE P t) fun _=>some n
 | .str b=>gb (qhh P t) (some b.size)
 | .map r=>od r fun id=>od (qoo P t) fun _=>od (H.getM id Chunk.asMap) fun m=>some m.1.length
 | _=>od (arrE P t) fun a=>some a.1
def qra(N:Nat)(o:Oper)(L:Tr AV)(H:EH)(D:List ADef)(x y:Operand)(f:Int→Int→Int):Rs:=ob (qlf L x) fun a=>ob (qlf L y) fun b=>gd (beqK b.1 a.1) (finE N o L D (.int a.1 (f a.2 b.2)) H)
def minI(a b:Int):Int:=match bltI b a with
 | true=>b
 | false=>a
def maxI(a b:Int):Int:=match bltI a b with
 | true=>b
 | false=>a
def is1{α:Type}:List α→Option α
 | [a]=>some a
 | _=>none
def is2{α:Type}:List α→Option (α×α)
 | [a,b]=>some (a,b)
 | _=>none
def xLen(P:Program)(N:Nat)(o:Oper)(L:Tr AV)(H:EH)(D:List ADef)(args:List Operand)(ts:List TypeId):Rs:=ob (is1 args) fun x=>ob (is1 ts) fun t=>ob (evE L x) fun v=>ob (lenE P H t v) fun n=>finE N o L D (.int .i64 (.ofNat n)) H
def qpl(P:Program)(N:Nat)(o:Oper)(L:Tr AV)(H:EH)(D:List ADef)(args:List Operand)(ts:List TypeId):Rs:=ob (is2 args) fun x=>ob (is2 ts) fun t=>ob (evE L x.1) fun vx=>ob (evE L x.2) fun vy=>quq P N o L H D t.1 t.2 vx vy
def z6a(P:Program)(N:Nat)(o:Oper)(L:Tr AV)(H:EH)(D:List ADef)(args:List Operand)(ts:List TypeId):Rs:=ob (is2 args) fun x=>ob (is2 ts) fun t=>ob (evE L x.1) fun vx=>ob (evE L x.2) fun vy=>z6y P N o L H D t.1 vx vy
def xMin(N:Nat)(o:Oper)(L:Tr AV)(H:EH)(D:List ADef)(args:List Operand)(ts:List TypeId):Rs:=ob (is2 args) fun x=>ob (is2 ts) fun _=>qra N o L H D x.1 x.2 minI
def xMax(N:Nat)(o:Oper)(L:Tr AV)(H:EH)(D:List ADef)(args:List Operand)(ts:List TypeId):Rs:=ob (is2 args) fun x=>ob (is2 ts) fun _=>qra N o L H D x.1 x.2 maxI
def qiw(P:Program)(N:Nat)(o:Oper)(L:Tr AV)(H:EH)(D:List ADef)(b:Builtin)(args:List Operand)(ts:List TypeId):Rs:=match b with
 | .len=>xLen P N o L H D args ts
 | .append=>qpl P N o L H D args ts
 | .copy=>z6a P N o L H D args ts
 | .min=>xMin N o L H D args ts
 | .max=>xMax N o L H D args ts
 | _=> .no "built-in"
def qnk(N:Nat)(o:Oper)(L:Tr AV)(H:EH)(D:List ADef)(x:Operand):Rs:=ob (evE L x) fun v=>finE N o L D v H
def z6f(N:Nat)(o:Oper)(L:Tr AV)(H:EH)(D:List ADef)(c a b:Operand):Rs:=ob (evE L c) fun v=>ob v.asBool fun t=>match t with
 | true=>qnk N o L H D a
 | false=>qnk N o L H D b
def newP(N:Nat)(o:Oper)(L:Tr AV)(H:EH)(D:List ADef)(c:Chunk):Rs:=ob (H.add c) fun h'=>finE N o L D (.ptr (some (H.next,0))) h'
def qyp(P:Program)(N:Nat)(o:Oper)(L:Tr AV)(H:EH)(D:List ADef)(T:TypeId):Rs:=ob (qks P T) fun z=>newP N o L H D (.own z.cells)
def xBox(N:Nat)(o:Oper)(L:Tr AV)(H:EH)(D:List ADef)(x:Operand):Rs:=ob (evE L x) fun v=>newP N o L H D (.own v.cells)
def z36(P:Program)(T:TypeId):Option (Nat→Option (Nat×Nat)):=od (P.underlying T) fun D=>match D with
 | .struct fs=>od (qfq P fs.toList) fun pl=>some (pl[·]?)
 | .array _ e=>od (szOf P e) fun n=>some (fun i=>some (i * n,n))
 | _=>none
def qyr(P:Program)(N:Nat)(o:Oper)(L:Tr AV)(H:EH)(D:List ADef)(T:TypeId)(parts:List (Nat×Operand)):Rs:=ob (evPE L parts) fun vs=>ob (qks P T) fun z=>ob (z36 P T) fun pl=>ob (q5l pl z.cells vs) fun out=>finE N o L D (.agg out) H
def q9l(P:Program)(N:Nat)(o:Oper)(L:Tr AV)(H:EH)(D:List ADef)(T:TypeId)(len:Nat)(parts:List (Nat×Operand)):Rs:=ob (elemE P T) fun e=>ob (evPE L parts) fun vs=>ob (szOf P e) fun n=>ob (qks P e) fun z=>gd (Nat.beq z.cells.length n) (gd (Nat.ble (len * n) 16777216)
 (ob (q5l (fun i=>some (i * n,n)) (aRep z.cells len) vs) fun out=>ob (H.add (.own out)) fun h'=>finE N o L D (.slice (some (H.next,0)) len (.exact len)) h'))
def qws(cs:List AV)(off n:Nat):Option AV:=gb (Nat.ble (off+n) cs.length) (some (.agg ((cs.drop off).take n)))
def z0n(a:Bool)(n:Nat)(cs:List AV)(off:Nat):Option AV:=match a with
 | true=>qws cs off n
 | false=>cs[off]?
def z6c(P:Program)(N:Nat)(o:Oper)(L:Tr AV)(H:EH)(D:List ADef)(T:TypeId)(x:Operand):Rs:=ob (qsq L x) fun p=>ob (H.cells p.1) fun cs=>ob (qhe P T) fun a=>ob (szOf P T) fun n=>ob (z0n a n cs p.2) fun v=>finE N o L D v H
def qy7(c:Chunk)(off n:Nat)(vc:List AV):Option Chunk:=match c with
 | .own cs=>gb (Nat.ble (off+n) cs.length) (some (.own (q7n cs off vc)))
 | .grow e cs=>gb (Nat.ble (off+n) cs.length) (some (.grow e (q7n cs off vc)))
 | _=>none
def qz5(P:Program)(N:Nat)(o:Oper)(L:Tr AV)(H:EH)(D:List ADef)(T:TypeId)(x y:Operand):Rs:=ob (qsq L x) fun p=>ob (evE L y) fun v=>ob (szOf P T) fun n=>gd (Nat.beq v.cells.length n) (gd (ones v.cells) (ob (H.t.get p.1) fun c=>ob (qy7 c p.2 n v.cells) fun c'=>ob (H.put p.1 (some c')) fun h'=>actE o L D h'))
def qlv:AV→Bool
 | .ptr a=>!isNone a
 | .fn f _ _=>match f with
   | .func _=>true
   | _=>false
 | _=>false
def qgf(N:Nat)(o:Oper)(L:Tr AV)(H:EH)(D:List ADef)(x:Operand):Rs:=ob (evE L x) fun v=>gd (qlv v) (finE N o L D v H)
def xBin(P:Program)(N:Nat)(o:Oper)(L:Tr AV)(H:EH)(D:List ADef)(op:BinOp)(T:TypeId)(x y:Operand):Rs:=ob (evE L x) fun vx=>ob (evE L y) fun vy=>ob (binE P op T vx vy) fun v=>finE N o L D v H
def unE(op:UnOp)(v:AV):Option AV:=match op with
 | .not=>od v.asBool fun t=>some (.bool (!t))
 | .neg=>od v.asInt fun q=>some (.int q.1 (q36 q.1 (0 - q.2)))
 | _=>none
def xUn(N:Nat)(o:Oper)(L:Tr AV)(H:EH)(D:List ADef)(op:UnOp)(x:Operand):Rs:=ob (evE L x) fun v=>ob (unE op v) fun u=>finE N o L D u H
def qki(P:Program)(N:Nat)(o:Oper)(L:Tr AV)(H:EH)(D:List ADef)(T U:TypeId)(x:Operand):Rs:=ob (qlf L x) fun q=>ob (P.underlying T) fun _=>ob (od (P.underlying U) quu) fun k=>finE N o L D (.int k (q36 k q.2)) H
def qgd(N:Nat)(o:Oper)(L:Tr AV)(H:EH)(D:List ADef)(f:Fn)(a b:List Operand):Rs:=ob (evLE L a) fun v1=>ob (evLE L b) fun v2=>finE N o L D (.fn f v1 v2) H
def qko(N:Nat)(o:Oper)(L:Tr AV)(H:EH)(D:List ADef)(z:Option Operand):Rs:=gd (isNone z) (ob (H.add (.map [] 0)) fun h'=>finE N o L D (.map (some H.next)) h')
def int64(v:AV):Option Nat:=od v.asInt fun q=>gb (beqK q.1 .i64) (natI q.2)
def mkOk(z:AV)(size bytes l c:Nat):Bool:=Nat.beq z.cells.length size&&Nat.ble l c&&Nat.ble (c * bytes) 281474976710656&&Nat.ble c 281474976710656
def qc6(P:Program)(N:Nat)(o:Oper)(L:Tr AV)(H:EH)(D:List ADef)(T:TypeId)(x y:Operand):Rs:=ob (elemE P T) fun e=>ob (od (evE L x) int64) fun l=>ob (od (evE L y) int64) fun c=>ob (P.info? e) fun i=>ob (qks P e) fun z=>gd (mkOk z i.size i.bytes l c)
 (ob (H.add (.own (aRep z.cells c))) fun h'=>finE N o L D (.slice (some (H.next,0)) l (.exact c)) h')
def qxo(p:Option (Nat×Nat))(k:Nat):Option (Nat×Nat):=match p with
 | some q=>some (q.1,q.2+k)
 | none=>none
def slP(p:Option (Nat×Nat))(m l k:Nat):Option (Nat×Nat):=Bool.rec (motive:=fun _=>Option (Nat×Nat)) (qxo p k) p (Nat.beq m l)
def slX(N:Nat)(o:Oper)(L:Tr AV)(H:EH)(D:List ADef)(p:Option (Nat×Nat))(n l h m:Nat):Rs:=finE N o L D (.slice (slP p m l (l * n)) (h - l) (.exact (m - l))) H
def isSome{α:Type}:Option α→Bool
 | none=>false
 | some _=>true
def qy2(P:Program)(N:Nat)(o:Oper)(L:Tr AV)(H:EH)(D:List ADef)(e:TypeId)(p:Option (Nat×Nat))(len cap:Nat)(lo hi mx:Option Operand):Rs:=ob (szOf P e) fun n=>ob (natE L lo 0) fun l=>ob (natE L hi len) fun h=>ob (natE L mx cap) fun m=>
 gd (Nat.ble l h&&Nat.ble h m&&Nat.ble m cap&&(isNone mx||isSome hi)) (slX N o L H D p n l h m)
def z3b(P:Program)(N:Nat)(o:Oper)(L:Tr AV)(H:EH)(D:List ADef)(e:TypeId)(p:Option (Nat×Nat))(len dd:Nat)(lo hi mx:Option Operand):Rs:=ob p fun q=>ob (szOf P e) fun n=>ob (natE L lo 0) fun l=>ob (natE L hi len) fun h=>ob (H.getM q.1 Chunk.asGrow) fun g=>
 gd (Nat.ble ((dd+len) * g.1) g.2.length&&Nat.blt 0 g.1&&Nat.ble l h) (match mx with
  | none=>gd ((Nat.blt l h||Nat.beq l 0)&&Nat.ble h len&&Nat.blt 0 len) (finE N o L D (.slice (some (q.1,q.2+l * n)) (h - l) (.grow (dd+l))) H)
  | some _=>ob (natE L mx len) fun m=>gd (isSome hi&&Nat.ble h m&&Nat.ble m len) (slX N o L H D p n l h m))
def z8o(N:Nat)(o:Oper)(L:Tr AV)(H:EH)(D:List ADef)(b:ByteArray)(lo hi mx:Option Operand):Rs:=ob (natE L lo 0) fun l=>ob (natE L hi b.size) fun h=>gd (Nat.ble l h&&Nat.ble h b.size&&isNone mx) (finE N o L D (.str (b.extract l h)) H)
def z8n(P:Program)(N:Nat)(o:Oper)(L:Tr AV)(H:EH)(D:List ADef)(len:Nat)(e:TypeId)(q:Nat×Nat)(lo hi mx:Option Operand):Rs:=ob (szOf P e) fun n=>ob (natE L lo 0) fun l=>ob (natE L hi len) fun h=>gd (Nat.ble l h&&Nat.ble h len&&isNone mx) (slX N o L H D (some q) n l h len)
def qz3(P:Program)(N:Nat)(o:Oper)(L:Tr AV)(H:EH)(D:List ADef)(T:TypeId)(x:Operand)(lo hi mx:Option Operand):Rs:=ob (evE L x) fun v=>match v with
 | .slice p len c=>ob (elemE P T) fun e=>match c with
   | .exact cap=>qy2 P N o L H D e p len cap lo hi mx
   | .grow dd=>z3b P N o L H D e p len dd lo hi mx
 | .str b=>gd (qhh P T) (z8o N o L H D b lo hi mx)
 | .ptr a=>ob a fun q=>ob (arrE P T) fun ae=>z8n P N o L H D ae.1 ae.2 q lo hi mx
 | _=> .no ""
def pos?:Nat→Bool
 | 0=>false
 | _+1=>true
def qc4(P:Program)(N:Nat)(o:Oper)(L:Tr AV)(H:EH)(D:List ADef)(T:TypeId)(x:Operand)(i:Nat):Rs:=ob (qsq L x) fun p=>ob (qqo P T i) fun f=>ob (szOf P f.2) fun n=>gd (pos? n) (finE N o L D (.ptr (some (p.1,p.2+f.1))) H)
def z19(a:Bool)(n:Nat)(cs:List AV)(off:Nat):Option AV:=match a with
 | true=>some (.agg ((cs.drop off).take n))
 | false=>cs[off]?
def qyv(P:Program)(N:Nat)(o:Oper)(L:Tr AV)(H:EH)(D:List ADef)(T:TypeId)(x:Operand)(i:Nat):Rs:=ob (od (evE L x) AV.asAgg) fun cs=>ob (qqo P T i) fun f=>ob (qhe P f.2) fun a=>ob (szOf P f.2) fun n=>ob (z19 a n cs f.1) fun v=>finE N o L D v H
def idx(L:Tr AV)(y:Operand)(len:Nat):Option Nat:=od (qlf L y) fun q=>od (natI q.2) fun i=>gb (Nat.blt i len) (some i)
def qc5(P:Program)(N:Nat)(o:Oper)(L:Tr AV)(H:EH)(D:List ADef)(T:TypeId)(x y:Operand):Rs:=ob (evE L x) fun v=>match v with
 | .slice p len _=>ob p fun q=>ob (elemE P T) fun e=>ob (szOf P e) fun n=>ob (idx L y len) fun i=>finE N o L D (.ptr (some (q.1,q.2+i * n))) H
 | .ptr p=>ob p fun q=>ob (arrE P T) fun ae=>ob (szOf P ae.2) fun n=>ob (idx L y ae.1) fun i=>finE N o L D (.ptr (some (q.1,q.2+i * n))) H
 | _=> .no ""
def qyx(P:Program)(N:Nat)(o:Oper)(L:Tr AV)(H:EH)(D:List ADef)(T:TypeId)(x y:Operand):Rs:=ob (evE L x) fun v=>match v with
 | .agg cs=>ob (arrE P T) fun ae=>ob (qhe P ae.2) fun a=>ob (szOf P ae.2) fun n=>ob (idx L y ae.1) fun i=>ob (z19 a n cs (i * n)) fun v=>finE N o L D v H
 | .str b=>gd (qhh P T) (ob (qlf L y) fun q=>ob (natI q.2) fun i=>ob (b.data.toList[i]?) fun c=>finE N o L D (.int .u8 (.ofNat c.toNat)) H)
 | _=> .no ""
structure MapOp where
 id:Nat
 kv:AV
 e:TypeId
 es:List (AV×AV×Nat)
 cl:Nat
def qwv(P:Program)(L:Tr AV)(H:EH)(T:TypeId)(x y:Operand):Option MapOp:=od (evE L x) fun m=>od m.asMap fun id=>od (evE L y) fun kv=>od (qoo P T) fun ke=>od (qbk P ke.1) fun kk=>od (H.getM id Chunk.asMap) fun mm=>
 gb (isKey kk kv) (gb (q8w kk mm.1) (some ⟨id,kv,ke.2,mm.1,mm.2⟩))
def qpp(P:Program)(N:Nat)(o:Oper)(L:Tr AV)(H:EH)(D:List ADef)(T:TypeId)(x y:Operand)(ok:Bool):Rs:=ob (qwv P L H T x y) fun m=>ob (qks P m.e) fun zv=>match qem m.kv m.es 0 with
 | some f=>finE N o L D (match ok with | true=> .tuple [f.2.1,.bool true] | false=>f.2.1) H
 | none=>finE N o L D (match ok with | true=> .tuple [zv,.bool false] | false=>zv) H
def qc7(P:Program)(N:Nat)(o:Oper)(L:Tr AV)(H:EH)(D:List ADef)(T:TypeId)(x y z:Operand):Rs:=ob (qwv P L H T x y) fun m=>ob (evE L z) fun v=>match qem m.kv m.es 0 with
 | some f=>ob (H.put m.id (some (.map (setAt (fun e=>(m.kv,v,e.2.2)) f.1 m.es) m.cl))) fun h'=>actE o L D h'
 | none=>ob (H.put m.id (some (.map (m.es++[(m.kv,v,m.cl)]) (m.cl+1)))) fun h'=>actE o L D h'
def qge(P:Program)(N:Nat)(o:Oper)(L:Tr AV)(H:EH)(D:List ADef)(T:TypeId)(x y:Operand):Rs:=ob (qwv P L H T x y) fun m=>ob (qks P m.e) fun zv=>match qem m.kv m.es 0 with
 | some f=>ob (H.put m.id (some (.map (setAt (fun e=>(m.kv,e.2)) f.1 m.es) m.cl))) fun h'=>finE N o L D (.tuple [f.2.1,.int .i64 (.ofNat f.2.2)]) h'
 | none=>ob (H.put m.id (some (.map (m.es++[(m.kv,zv,m.cl)]) (m.cl+1)))) fun h'=>finE N o L D (.tuple [zv,.int .i64 (.ofNat m.cl)]) h'
def q9m(N:Nat)(o:Oper)(L:Tr AV)(H:EH)(D:List ADef)(x y z:Operand):Rs:=ob (evE L x) fun mv=>ob mv.asMap fun id=>ob (qlf L y) fun b=>ob (evE L z) fun v=>ob (H.getM id Chunk.asMap) fun m=>ob (qa6 b.2 m.1 0) fun i=>
 ob (H.put id (some (.map (setAt (fun e=>(e.1,v,e.2.2)) i m.1) m.2))) fun h'=>actE o L D h'
def qz1(P:Program)(N:Nat)(o:Oper)(L:Tr AV)(H:EH)(D:List ADef)(T:TypeId)(x:Operand):Rs:=ob (evE L x) fun v=>ob v.asStr fun p=>gd (qhh P T) (newP N o L H D (.siter p 0))
def qyz(N:Nat)(o:Oper)(L:Tr AV)(H:EH)(D:List ADef)(x:Operand)(b:Bool):Rs:=ob (qsq L x) fun q=>gd (b&&Nat.beq q.2 0) (ob (H.getM q.1 Chunk.asIter) fun it=>match Nat.blt it.2 it.1.size with
 | true=>ob (H.put q.1 (some (.siter it.1 (it.2+(Utf8.decode it.1 it.2).2)))) fun h'=>finE N o L D (.tuple [.bool true,.int .i64 (.ofNat it.2),.int .i32 (Utf8.decode it.1 it.2).1]) h'
 | false=>finE N o L D (.tuple [.bool false]) H)
def qkj(N:Nat)(o:Oper)(L:Tr AV)(H:EH)(D:List ADef)(x:Operand)(i:Nat):Rs:=ob (evE L x) fun v=>ob v.asTup fun vs=>ob (vs[i]?) fun u=>finE N o L D u H
def qj0(N:Nat)(o:Oper)(L:Tr AV)(H:EH)(D:List ADef):Rs→Rs
 | .fin v h'=>finE N o L D v h'
 | .no w=> .no w
 | .code _ _=> .no ""
def qyt(ih:Tk→Rs)(N:Nat)(o:Oper)(L:Tr AV)(H:EH)(D:List ADef)(x:Operand)(args:List Operand):Rs:=ob (evE L x) fun fv=>ob (evLE L args) fun vs=>qj0 N o L H D (ih (.app fv vs H))
def z9r(P:Program)(ih:Tk→Rs)(N:Nat)(o:Oper)(L:Tr AV)(H:EH)(D:List ADef)(c:Call):Rs:=match c.callee with
 | .builtin b=>qiw P N o L H D b c.args.toList c.argTypes.toList
 | .value x=>qyt ih N o L H D x c.args.toList
 | _=> .no "invoke"
abbrev OpF:=Program→(Tk→Rs)→Nat→Oper→Tr AV→EH→List ADef→Rs
set_option linter.unusedVariables false in
def opF(op:Op):OpF:=
 Op.rec (motive:=fun _=>OpF)
  (fun x1 P ih N o L H D=>qnk N o L H D x1)
  (fun x1 P ih N o L H D=>qnk N o L H D x1)
  (fun x1 x2 x3 P ih N o L H D=>z6f N o L H D x1 x2 x3)
  (fun x1 P ih N o L H D=>qyp P N o L H D x1)
  (fun _ x P ih N o L H D=>xBox N o L H D x)
  (fun T p P ih N o L H D=>qyr P N o L H D T p.toList)
  (fun T l p P ih N o L H D=>q9l P N o L H D T l p.toList)
  (fun _ _ _ _ _ _ _ _ _ _ _=> .no "insert")
  (fun T x P ih N o L H D=>z6c P N o L H D T x)
  (fun T x y P ih N o L H D=>qz5 P N o L H D T x y)
  (fun _ _ _ _ _ _ _ _=> .no "ready")
  (fun _ _ _ _ _ _ _ _=> .no "waits")
  (fun x P ih N o L H D=>qgf N o L H D x)
  (fun op T x y _ P ih N o L H D=>xBin P N o L H D op T x y)
  (fun op _ x P ih N o L H D=>xUn N o L H D op x)
  (fun T U x P ih N o L H D=>qki P N o L H D T U x)
  (fun _ _ _ _ _ _ _ _ _=> .no "sliceToArrayPointer")
  (fun _ _ _ _ _ _ _ _ _=> .no "makeInterface")
  (fun f a b P ih N o L H D=>qgd N o L H D f a.toList b.toList)
  (fun _ z P ih N o L H D=>qko N o L H D z)
  (fun _ _ _ _ _ _ _ _ _=> .no "makeChan")
  (fun T x y P ih N o L H D=>qc6 P N o L H D T x y)
  (fun T x lo hi mx P ih N o L H D=>qz3 P N o L H D T x lo hi mx)
  (fun T x i P ih N o L H D=>qc4 P N o L H D T x i)
  (fun T x i P ih N o L H D=>qyv P N o L H D T x i)
  (fun T x y P ih N o L H D=>qc5 P N o L H D T x y)
  (fun T x y P ih N o L H D=>qyx P N o L H D T x y)
  (fun T x y ok P ih N o L H D=>qpp P N o L H D T x y ok)
  (fun T x y z P ih N o L H D=>qc7 P N o L H D T x y z)
  (fun T x y P ih N o L H D=>qge P N o L H D T x y)
  (fun _ x y z P ih N o L H D=>q9m N o L H D x y z)
  (fun T x P ih N o L H D=>qz1 P N o L H D T x)
  (fun x b P ih N o L H D=>qyz N o L H D x b)
  (fun _ _ _ _ _ _ _ _=> .no "entry")
  (fun _ _ _ _ _ _ _ _ _ _ _=> .no "typeAssert")
  (fun x i P ih N o L H D=>qkj N o L H D x i)
  (fun c P ih N o L H D=>z9r P ih N o L H D c)
  (fun _ _ _ _ _ _ _ _=> .no "go")
  (fun _ _ _ _ _ _ _ _=> .no "defer")
  (fun _ _ _ _ _ _ _ _=> .no "panic")
  (fun _ _ _ _ _ _ _ _ _=> .no "send")
  (fun _ _ _ _ _ _ _ _ _ _=> .no "recv")
  (fun _ _ _ _ _ _ _ _ _=> .no "select") op
def opE(P:Program)(ih:Tk→Rs)(N:Nat)(o:Oper)(L:Tr AV)(H:EH)(D:List ADef):Rs:=opF o.op P ih N o L H D
def qpk(want:Bool):AV→Option Bool
 | .bool b=>some (b==want)
 | .tuple []=>some false
 | _=>none
def qpj(ops:Array Oper)(o:Oper)(sl:Tr AV):Option Bool:=Option.rec (motive:=fun _=>Option Bool) (some true) (fun g=>od (ops.toList[g.1]?) fun oj=>od oj.dst fun d=>od (sl.get d) (qpk g.2)) o.guard
def q7e(e:AExit):Bool:=AExit.rec (motive:=fun _=>Bool) true (fun _=>false) (fun _=>false) false (fun _=>false) e
def qn9(k:ES→Rs)(z:Rs):Rs:=Rs.rec (motive:=fun _=>Rs) (fun e s=>Bool.rec (motive:=fun _=>Rs) (.code e s) (k s) (q7e e)) .fin .no z
def op1E(P:Program)(ih:Tk→Rs)(ops:Array Oper)(N:Nat)(o:Oper)(s:ES):Rs:=ES.rec (motive:=fun _=>Rs) (fun L H D=>ob (qpj ops o L) fun b=>Bool.rec (motive:=fun _=>Rs) (finE N o L D (.tuple []) H) (opE P ih N o L H D) b) s
def z1o(pos:String)(k:ES→Rs)(z:Rs):Rs:=Rs.rec (motive:=fun _=>Rs) (fun e s=>Bool.rec (motive:=fun _=>Rs) (.code e s) (k s) (q7e e)) .fin (fun w=> .no (w++ " @" ++pos)) z
def opsE(P:Program)(ih:Tk→Rs)(ops:Array Oper)(N:Nat)(l:List Oper):ES→Rs:=
 List.rec (motive:=fun _=>ES→Rs) (fun s=> .code .normal s) (fun o _ rec s=>z1o o.pos rec (op1E P ih ops N o s)) l
def qi4:List Nat→List AV→Tr AV→Tr AV
 | k :: ks,vs,t=>match vs with
   | v :: vs=>qi4 ks vs (Tr.set 20 t k (some v))
   | []=>t
 | [],_,t=>t
def ofL:List (Nat×AV)→Tr AV
 | []=> .nil
 | kv :: r=>match Nat.ble kv.1 1000000 with
   | true=>Tr.set 20 (ofL r) kv.1 (some kv.2)
   | false=>ofL r
def q8f(ih:Tk→Rs)(r:Option Nat)(N l:Nat)(marks:List ADef)(L:Tr AV)(D:List ADef):Rs→Rs
 | .fin _ h2=>ob (h2.getM l Chunk.asLoop) fun lr=>gd (!lr.isBusy) (ob (h2.put l none) fun h3=>match lr.pd with
   | none=> .code .normal ⟨L,h3,marks++D⟩
   | some c=>ih (.code r N c ⟨L,h3,marks++D⟩))
 | .no w=> .no w
 | .code _ _=> .no ""
def AV.asFn:AV→Option (Nat×List AV×List AV)
 | .fn f a b=>match f with
   | .func f=>some (f,a,b)
   | _=>none
 | _=>none
def qrr(ih:Tk→Rs)(N:Nat)(fv:Nat×List AV×List AV)(ps:Array Tmp)(assign body:Code)(L:Tr AV)(H:EH)(D:List ADef):Rs:=
 ob (H.add .mark) fun h1=>ob (h1.add (.loop .ready none (L.toL id []) N ps assign body H.next)) fun h2=>q8f ih none N h1.next [.mark H.next] L D (ih (.call fv.1 (fv.2.1++[.yield h1.next]++fv.2.2) h2))
def qxq(ih:Tk→Rs)(N l0:Nat)(fv:Nat×List AV×List AV)(ps:Array Tmp)(assign body:Code)(L:Tr AV)(H:EH)(D:List ADef):Rs:=
 ob (H.getM l0 Chunk.asLoop) fun lr=>ob (H.add (.loop .ready none (L.toL id []) N ps assign body lr.m)) fun h1=>q8f ih (some l0) N H.next [] L D (ih (.call fv.1 (fv.2.1++[.yield H.next]++fv.2.2) h1))
def qrq(ih:Tk→Rs)(r:Option Nat)(N:Nat)(f:Operand)(ps:Array Tmp)(assign body:Code)(L:Tr AV)(H:EH)(D:List ADef):Rs:=ob (od (evE L f) AV.asFn) fun fv=>match r with
 | none=>qrr ih N fv ps assign body L H D
 | some l0=>qxq ih N l0 fv ps assign body L H D
def qt6(n:Nat):List Nat→Bool
 | []=>true
 | k :: r=>match Nat.blt k n with
   | true=>qt6 n r
   | false=>false
def qav(h:EH)(l:Nat)(lr:LoopR)(st:LoopState)(pd:Option Code)(b:Bool):Rs:=ob (h.put l (some (lr.ck st pd))) fun h'=> .fin (.bool b) h'
def qxt(h:EH)(l:Nat)(lr:LoopR):AExit→Rs
 | .normal=>qav h l lr .ready none true
 | .ret=>qav h l lr .done (some .ret) false
 | .exit id=>qav h l lr .done (some (.exit id)) false
 | .goto t=>qav h l lr .done (some (.goto t)) false
 | .panic _=> .no "round: panic"
def q8i(l:Nat):Rs→Rs
 | .code e s=>ob (s.h.getM l Chunk.asLoop) fun lr=>gd lr.isBusy (qxt s.h l lr e)
 | .no w=> .no w
 | .fin _ _=> .no ""
def qs8(ih:Tk→Rs)(l nt:Nat)(body:Code)(z:Rs):Rs:=Rs.rec (motive:=fun _=>Rs) (fun e s1=>gd (q7e e) (ES.rec (motive:=fun _=>Rs) (fun L H D=>ob (H.getM l Chunk.asLoop) fun lr1=>gd lr1.isReady (ob (H.put l (some (lr1.ck .busy lr1.pd))) fun h2=>q8i l (ih (.code (some l) nt body ⟨L,h2,D⟩)))) s1))
 (fun _ _=> .no "") .no z
def qzc(ih:Tk→Rs)(l:Nat)(args:List AV)(h:EH):Rs:=ob (h.getM l Chunk.asLoop) fun lr=>gd (lr.isReady&&Nat.beq lr.ps.toList.length args.length&&qt6 lr.nt lr.ps.toList&&Nat.ble lr.nt 1000000)
 (qs8 ih l lr.nt lr.body (ih (.code (some l) lr.nt lr.assign ⟨qi4 lr.ps.toList args (ofL lr.ts),h,[]⟩)))
def qhf:Chunk→Option Unit
 | .mark=>some ()
 | _=>none
def q3j:List ADef→EH→Option EH
 | [],h=>some h
 | d :: ds,h=>match d with
   | .mark id=>od (h.getM id qhf) fun _=>od (h.put id none) fun h'=>q3j ds h'
   | .call _ _=>none
def z8j(P:Program)(sl:Tr AV)(h:EH):ResultVar→Option AV
 | .tmp t=>sl.get t
 | .cell a T=>od (sl.get a) fun v=>od v.asPtr fun p=>od (h.cells p.1) fun cs=>od (qhe P T) fun g=>od (szOf P T) fun n=>z0n g n cs p.2
def qtk(P:Program)(sl:Tr AV)(h:EH):List ResultVar→Option (List AV)
 | []=>some []
 | x :: l=>od (z8j P sl h x) fun v=>od (qtk P sl h l) fun vs=>some (v :: vs)
def z4g(P:Program)(rs:List ResultVar)(s:ES):Rs:=ES.rec (motive:=fun _=>Rs) (fun L H D=>ob (q3j D H) fun h'=>ob (qtk P L h' rs) fun vs=> .fin (oneOf vs) h') s
def qsz(e:AExit):Bool:=AExit.rec (motive:=fun _=>Bool) true (fun _=>false) (fun _=>false) true (fun _=>false) e
def qwn(P:Program)(fn:Func)(z:Rs):Rs:=Rs.rec (motive:=fun _=>Rs) (fun e s=>gd (qsz e) (z4g P fn.results.toList s)) (fun _ _=> .no "") (fun w=> .no (w++ " in " ++fn.name)) z
def qnw:List AV→Nat→Tr AV→Tr AV
 | [],_,t=>t
 | v :: r,k,t=>qnw r (k+1) (Tr.set 20 t k (some v))
def qv8(P:Program)(ih:Tk→Rs)(f:Nat)(args:List AV)(h:EH):Rs:=ob (P.funcs.toList[f]?) fun fn=>ob fn.body fun c=>gd (!(fn.name== "runtime.NumGoroutine")&&Nat.ble args.length fn.ntmps&&Nat.ble fn.ntmps 1000000)
 (qwn P fn (ih (.code none fn.ntmps c ⟨qnw args 0 .nil,h,[]⟩)))
def tmpsOf:List Operand→List Nat
 | []=>[]
 | x :: r=>match x with
   | .tmp t=>t :: tmpsOf r
   | _=>tmpsOf r
def z7c(ops:Array Oper)(o:Oper):List Nat:=match o.guard with
 | none=>[]
 | some g=>match(ops.toList[g.1]?).bind (·.dst)with
   | some d=>[d]
   | none=>[]
def qyi(ops:Array Oper)(o:Oper):List Nat:=z7c ops o++tmpsOf o.op.operands.toList
def z4e(t:Nat):List Oper→Nat→Option Nat
 | [],_=>none
 | o :: r,i=>match o.dst with
   | some d=>match Nat.beq d t with
     | true=>some i
     | false=>z4e t r (i+1)
   | none=>z4e t r (i+1)
def q1g(ops:Array Oper)(bf:List Nat)(t:Nat):Nat×Option Nat:=match z4e t ops.toList 0 with
 | some i=>match bf.contains i with
   | true=>(t,some i)
   | false=>(t,none)
 | none=>(t,none)
def qn1(ops:Array Oper):List Oper→List (List Nat)→List Src
 | o :: r,bs=>match bs with
   | b :: bs=>(qyi ops o).map (q1g ops b) :: qn1 ops r bs
   | []=>[]
 | [],_=>[]
def qaz(ops:Array Oper):List Src:=qn1 ops ops.toList (befs ops)
def bfLt:List (List Nat)→Nat→Bool
 | [],_=>true
 | b :: r,j=>b.all (fun k=>Nat.blt k j)&&bfLt r (j+1)
def qy5(ops:Array Oper):Bool:=qi1 ops [] (qaz ops) []&&bfLt (befs ops) 0&&Nat.ble ops.size 1000000
def effB(b:Builtin):Bool:=match b with
 | .append=>true
 | .copy=>true
 | _=>false
def z72(c:Call):Bool:=match c.callee with
 | .value _=>true
 | .builtin b=>effB b
 | _=>true
def z4r(c:Call):Bool:=match c.callee with
 | .builtin _=>false
 | _=>true
def effK(o:Op):Bool:=match o with
 | .alloc _ | .box _ _ | .buildSlice _ _ _ | .store _ _ _ | .makeMap _ _ | .makeSlice _ _ _ | .mapUpdate _ _ _ _ | .mapEntry _ _ _ | .entryStore _ _ _ _ | .range _ _ | .next _ _=>true
 | .call c=>z72 c
 | _=>false
def newK(o:Op):Bool:=match o with
 | .alloc _ | .box _ _ | .buildSlice _ _ _ | .makeMap _ _ | .makeSlice _ _ _ | .range _ _=>true
 | .call c=>z72 c
 | _=>false
def qe8(o:Op):Bool:=match o with
 | .call c=>z4r c
 | _=>false
def z9l(o:Op):Bool:=match o with
 | .load _ _ | .store _ _ _ | .lookup _ _ _ _ | .mapUpdate _ _ _ _ | .mapEntry _ _ _ | .entryStore _ _ _ _ | .next _ _ | .slice _ _ _ _ _ | .call _=>true
 | _=>false
def z4f(ops:Array Oper)(k:Nat):Bool:=match ops.toList[k]? with
 | some o=>effK o.op
 | none=>false
def newAt(ops:Array Oper)(k:Nat):Bool:=match ops.toList[k]? with
 | some o=>newK o.op
 | none=>false
def q9k(ops:Array Oper)(j:Nat)(bj:List Nat):List (List Nat)→Nat→List Nat
 | [],_=>[]
 | b :: r,k=>match Nat.beq k j||bj.contains k||b.contains j||!z4f ops k with
   | true=>q9k ops j bj r (k+1)
   | false=>k :: q9k ops j bj r (k+1)
def qg8(ops:Array Oper)(bf:List (List Nat)):List (List Nat)→Nat→List (List Nat)
 | [],_=>[]
 | b :: r,j=>q9k ops j b bf 0 :: qg8 ops bf r (j+1)
def qtp(ops:Array Oper):List (List Nat):=qg8 ops (befs ops) (befs ops) 0
def q6x(ops:Array Oper)(j:Nat):List (List Nat)→Nat→List (Nat×Nat)→List (Nat×Nat)
 | [],_,acc=>acc
 | b :: r,k,acc=>match Nat.blt j k&&!b.contains j with
   | true=>q6x ops j r (k+1) ((j,k) :: acc)
   | false=>q6x ops j r (k+1) acc
def q6y(ops:Array Oper)(bf:List (List Nat)):List (List Nat)→Nat→List (Nat×Nat)→List (Nat×Nat)
 | [],_,acc=>acc
 | _ :: r,j,acc=>match newAt ops j with
   | true=>q6y ops bf r (j+1) (q6x ops j bf 0 acc)
   | false=>q6y ops bf r (j+1) acc
def quy(ops:Array Oper):List (Nat×Nat):=q6y ops (befs ops) (befs ops) 0 []
def getL{α:Type}(l:List α):Nat→Option α:=List.rec (motive:=fun _=>Nat→Option α) (fun _=>none) (fun a _ ih n=>Nat.rec (motive:=fun _=>Option α) (some a) (fun m _=>ih m) n) l
def q78(L:Tr AV)(vals:Tr AV)(src:Src):List (Nat×AV):=
 List.rec (motive:=fun _=>List (Nat×AV)) [] (fun x _ ih=>Option.rec (motive:=fun _=>List (Nat×AV)) ih (fun v=>(x.1,v) :: ih) (Option.rec (motive:=fun _=>Option AV) (L.get x.1) vals.get x.2)) src
def qyo(ops:Array Oper)(o:Oper)(L:Tr AV):Option Bool:=Option.rec (motive:=fun _=>Option Bool) (some true) (fun g=>od ((ops.toList[g.1]?).bind (·.dst)) fun d=>od (L.get d) fun v=>od v.asBool fun b=>some (b==g.2)) o.guard
def Rs.norm(z:Rs):Option ES:=Rs.rec (motive:=fun _=>Option ES) (fun e s=>Bool.rec (motive:=fun _=>Option ES) none (some s) (q7e e)) (fun _ _=>none) (fun _=>none) z
def z9f(v:AV)(acc:List Nat):List Nat:=match v with
 | .ptr (some p)=>p.1 :: acc
 | .slice (some p) _ _=>p.1 :: acc
 | .map (some r)=>r :: acc
 | _=>acc
def qw7(L:Tr AV):List Operand→List Nat
 | []=>[]
 | x :: r=>Option.rec (motive:=fun _=>List Nat) (qw7 L r) (fun v=>z9f v (qw7 L r)) (evE L x)
def foot(o:Oper)(L:Tr AV):List Nat:=Bool.rec (motive:=fun _=>List Nat) [] (qw7 L o.op.operands.toList) (z9l o.op)
def q6r(t0:Tr Chunk):List Nat→Tr Chunk→Tr Chunk
 | [],t=>t
 | i :: r,t=>q6r t0 r (Bool.rec (motive:=fun _=>Tr Chunk) t (Tr.set 40 t i (t0.get i)) (Nat.ble i lim))
def z0e:List Nat→Tr Chunk→Tr Chunk
 | [],t=>t
 | i :: r,t=>z0e r (Bool.rec (motive:=fun _=>Tr Chunk) t (Tr.set 40 t i none) (Nat.ble i lim))
def qbh(T1:List (List Nat)):List Nat→Tr Chunk→Tr Chunk
 | [],t=>t
 | k :: r,t=>match T1[k]? with
   | some T=>qbh T1 r (z0e T t)
   | none=>qbh T1 r t
def z1a(P:Program)(ih:Tk→Rs)(ops:Array Oper)(N:Nat)(D:List ADef):List Oper→Tr AV→EH→List (List Nat)
 | [],_,_=>[]
 | o :: r,L,H=>Option.rec (motive:=fun _=>List (List Nat)) [] (fun s=>s.h.log :: z1a P ih ops N D r s.sl s.h) (op1E P ih ops N o ⟨L,⟨H.next,H.t,[]⟩,D⟩).norm
def qt9(hw:EH):List Nat→Bool
 | []=>true
 | i :: r=>(match hw.t.get i with | some c=>!c.isRo | none=>true)&&Nat.ble i lim&&qt9 hw r
structure XW where
 v:EH
 w:EH
 f:List Nat
structure XS where
 m:Nat
 vals:Tr AV
 ws:List XW
 h:EH
def XS.at(s:XS)(k:Nat):Option XW:=Bool.rec (motive:=fun _=>Option XW) none (getL s.ws (Nat.sub (Nat.sub s.m k) 1)) (Nat.blt k s.m)
def valOf?(o:Oper)(L:Tr AV):Option AV:=Option.rec (motive:=fun _=>Option AV) (some (.tuple [])) (fun d=>L.get d) o.dst
def qvj(N:Nat)(o:Oper):Bool:=match o.dst with
 | some d=>Nat.blt d N
 | none=>true
def qgp(P:Program)(ih:Tk→Rs)(ops:Array Oper)(N:Nat)(D:List ADef)(Lj:Tr AV)(o:Oper)(hv:EH):Option (AV×EH):=
 od (qyo ops o Lj) fun w=>Bool.rec (motive:=fun _=>Option (AV×EH))
  (gb (qvj N o) (some (.tuple [],hv)))
  (od (opE P ih N o Lj hv D).norm fun s=>od (valOf? o s.sl) fun v=>some (v,s.h)) w
def isNil{α:Type}:List α→Bool
 | []=>true
 | _ :: _=>false
def qd2(T1:List (List Nat))(un:List Nat)(o:Oper)(Lj:Tr AV)(h:EH)(f:List Nat):EH:=
 EH.rec (motive:=fun _=>EH) (fun next t _=>Bool.rec (motive:=fun _=>EH) ⟨next,q6r t f .nil,[]⟩ ⟨next,qbh T1 un t,[]⟩ (qe8 o.op)) h
def qd0(un:List Nat)(o:Oper)(h hw:EH):EH:=EH.rec (motive:=fun _=>EH) (fun next t log=>Bool.rec (motive:=fun _=>EH) ⟨next,q6r hw.t log h.t,[]⟩ ⟨next,t,[]⟩ (qe8 o.op&&isNil un)) hw
def wOk(o:Oper)(hv hw:EH):Bool:=EH.rec (motive:=fun _=>Bool) (fun n0 _ _=>EH.rec (motive:=fun _=>Bool) (fun n1 _ log=>List.rec (motive:=fun _=>Bool) (Nat.ble n0 n1&&(newK o.op||Nat.beq n1 n0)) (fun _ _ _=>Nat.ble n0 n1&&qt9 hw log&&effK o.op&&(newK o.op||Nat.beq n1 n0)) log) hw) hv
def qmq(P:Program)(ih:Tk→Rs)(ops:Array Oper)(N:Nat)(D:List ADef)(L:Tr AV)(T1:List (List Nat)):List Oper→List Src→List (List Nat)→XS→Option XS
 | [],_,_,s=>some s
 | o :: r,srcs,uns,s=>match srcs,uns with
   | src :: srcs,un :: uns=>od (some (ofL (q78 L s.vals src))) fun Lj=>od (some (foot o Lj)) fun f=>od (some (qd2 T1 un o Lj s.h f)) fun hv=>
      od (qgp P ih ops N D Lj o hv) fun vh=>
      gb (wOk o hv vh.2) (qmq P ih ops N D L T1 r srcs uns ⟨Nat.succ s.m,Tr.set 20 s.vals s.m (some vh.1),⟨hv,vh.2,f⟩ :: s.ws,qd0 un o s.h vh.2⟩)
   | _,_=>none
def z5e(lo hi:Nat)(nm:Nat):Bool:= !(Nat.ble lo nm&&Nat.blt nm hi)
def qqb(p:Nat→Bool)(hw:EH):List Nat→Bool
 | []=>true
 | i :: r=>p i&&(match hw.t.get i with | some c=>c.nm p | none=>true)&&qqb p hw r
def qux(a b:XW)(v:AV):Bool:=Nat.ble a.w.next a.v.next||(v.nm (z5e a.v.next a.w.next)&&qqb (z5e a.v.next a.w.next) b.w b.w.log)
def qe4(s:XS):List (Nat×Nat)→Bool
 | []=>true
 | p :: r=>match s.at p.1,s.at p.2,s.vals.get p.2 with
   | some a,some b,some v=>qux a b v&&qe4 s r
   | _,_,_=>false
def disj(x:List Nat):List Nat→Bool
 | []=>true
 | i :: r=>!x.contains i&&disj x r
def qrg(t:Tr Chunk):List Nat→Bool
 | []=>true
 | i :: r=>(match t.get i with | some _=>false | none=>true)&&qrg t r
def eqV0:AV→AV→Bool
 | .bool a,y=>match y with | .bool b=>a==b | _=>false
 | .int j a,y=>match y with | .int k b=>beqK j k&&beqI a b | _=>false
 | .str a,y=>match y with | .str b=>qgq a b | _=>false
 | .ptr a,y=>match y with
   | .ptr b=>match a with
     | some p=>match b with
       | some q=>Nat.beq p.1 q.1&&Nat.beq p.2 q.2
       | none=>false
     | none=>isNone b
   | _=>false
 | _,_=>false
def qo2:List AV→List AV→Bool
 | [],y=>match y with | []=>true | _ :: _=>false
 | a :: x,y=>match y with
   | []=>false
   | b :: y=>match eqV0 a b with
     | true=>qo2 x y
     | false=>false
def eqV:AV→AV→Bool
 | .agg a,y=>match y with | .agg b=>qo2 a b | _=>false
 | .tuple a,y=>match y with | .tuple b=>qo2 a b | _=>false
 | a,y=>eqV0 a y
def qga(s:XS)(hv hk:EH)(f:List Nat):EH:=⟨s.h.next,q6r hk.t (f.filter fun i=>hk.log.contains i&&isSome (hv.t.get i)) hv.t,[]⟩
def qnv(P:Program)(ih:Tk→Rs)(ops:Array Oper)(N:Nat)(D:List ADef)(L:Tr AV)(s:XS)(o:Oper)(src:Src)(bf:List Nat)(v:AV)(a:XW)(k:Nat)(hk:EH):Bool:=
 match qgp P ih ops N D (ofL (q78 L s.vals src)) o (qga s a.v hk a.f)with
  | some vh=>isNil vh.2.log&&Nat.beq vh.2.next s.h.next&&eqV vh.1 v&&bf.all (fun a=>Nat.blt a k)&&isNil a.w.log&&Nat.beq a.w.next a.v.next
  | none=>false
def quiet(a:XW)(hk:EH):Bool:=match hk.log with
 | []=>true
 | i :: r=>qrg a.v.t (i :: r)&&disj a.w.log (i :: r)
def qm1(s:XS)(a:XW):List Nat→Option (List Nat)
 | []=>some []
 | k :: r=>od (s.at k) fun b=>od (qm1 s a r) fun l=>Bool.rec (motive:=fun _=>Option (List Nat)) (some (k :: l)) (some l) (quiet a b.w)
def unOk(P:Program)(ih:Tk→Rs)(ops:Array Oper)(N:Nat)(D:List ADef)(L:Tr AV)(s:XS)(j:Nat)(o:Oper)(src:Src)(bf un:List Nat):Bool:=match un with
 | []=>true
 | _ :: _=>match s.vals.get j,s.at j with
   | some v,some a=>match qm1 s a un with
     | some []=>true
     | some [k]=>match s.at k with
       | some b=>!qe8 o.op&&Nat.blt j k&&qnv P ih ops N D L s o src bf v a k b.w
       | none=>false
     | _=>false
   | _,_=>false
def qne(P:Program)(ih:Tk→Rs)(ops:Array Oper)(N:Nat)(D:List ADef)(L:Tr AV)(s:XS):List Oper→List Src→List (List Nat)→List (List Nat)→Nat→Bool
 | [],_,_,_,_=>true
 | o :: r,srcs,bfs,uns,j=>match srcs,bfs,uns with
   | src :: srcs,bf :: bfs,un :: uns=>match unOk P ih ops N D L s j o src bf un with
     | true=>qne P ih ops N D L s r srcs bfs uns (j+1)
     | false=>false
   | _,_,_=>false
def finL(vals L:Tr AV)(l:List Oper):Nat→Tr AV:=List.rec (motive:=fun _=>Nat→Tr AV) (fun _=>L) (fun o _ ih i=>Option.rec (motive:=fun _=>Tr AV) (ih (Nat.succ i)) (fun d=>Option.rec (motive:=fun _=>Tr AV) (ih (Nat.succ i)) (fun v=>Tr.set 20 (ih (Nat.succ i)) d (some v)) (vals.get i)) o.dst) l
def logs:List XW→List Nat→List Nat
 | [],acc=>acc
 | h :: r,acc=>h.w.log++logs r acc
def z4d(P:Program)(ih:Tk→Rs)(ops:Array Oper)(N:Nat)(s:ES):Rs:=ES.rec (motive:=fun _=>Rs) (fun L H D=>gdm "stat" (qy5 ops) (
 obm "pass" (qmq P ih ops N D L (z1a P ih ops N D ops.toList L H) ops.toList (qaz ops) (qtp ops) ⟨0,.nil,[],⟨H.next,H.t,[]⟩⟩) fun x=>gdm "unordered" (qne P ih ops N D L x ops.toList (qaz ops) (befs ops) (qtp ops) 0&&qe4 x (quy ops))
  (.code .normal ⟨finL x.vals L ops.toList 0,⟨x.h.next,x.h.t,logs x.ws H.log⟩,D⟩))) s
def blkX(id:Nat)(e:AExit):AExit:=match e with
 | .exit j=>Bool.rec (motive:=fun _=>AExit) (.exit j) .normal (Nat.beq j id)
 | e=>e
def blkE(id:Nat)(z:Rs):Rs:=Rs.rec (motive:=fun _=>Rs) (fun e s=> .code (blkX id e) s) .fin .no z
def qwg(e:AExit):Bool:=AExit.rec (motive:=fun _=>Bool) false (fun _=>false) (fun _=>true) false (fun _=>false) e
def qmy(z:Rs):Rs:=Rs.rec (motive:=fun _=>Rs) (fun e s=>gd (!qwg e) (.code e s)) .fin .no z
def z47(ih:Tk→Rs)(r:Option Nat)(N:Nat)(o:Operand)(x y:Code)(s:ES):Rs:=ob (evE s.sl o) fun v=>ob v.asBool fun b=>Bool.rec (motive:=fun _=>Rs) (ih (.code r N y s)) (ih (.code r N x s)) b
def regE(P:Program)(ih:Tk→Rs)(ops:Array Oper)(N:Nat)(s:ES)(b:Bool):Rs:=Bool.rec (motive:=fun _=>Rs) (opsE P ih ops N ops.toList s) (z4d P ih ops N s) b
abbrev z6l:=Program→(Tk→Rs)→Option Nat→Nat→ES→Rs
set_option linter.unusedVariables false in
def codeF(c:Code):z6l:=
 Code.rec (motive:=fun _=>z6l)
  (fun _ _ _ _ s=> .code .normal s)
  (fun _ ops draw P ih _ N s=>regE P ih ops N s draw)
  (fun x y _ _ P ih r N s=>qn9 (fun s'=>ih (.code r N y s')) (ih (.code r N x s)))
  (fun o x y _ _ P ih r N s=>z47 ih r N o x y s)
  (fun id x _ P ih r N s=>blkE id (ih (.code r N x s)))
  (fun x _ P ih r N s=>qn9 (fun s'=>ih (.code r N (.loop x) s')) (ih (.code r N x s)))
  (fun f ps assign body _ _ P ih r N s=>ES.rec (motive:=fun _=>Rs) (fun L H D=>qrq ih r N f ps assign body L H D) s)
  (fun id _ _ _ _ s=> .code (.exit id) s)
  (fun x _ P ih r N s=>qmy (ih (.code r N x s)))
  (fun _ _ _ _ _ s=> .code .normal s)
  (fun _ _ _ _ _ _=> .no "goto")
  (fun _ _ _ _ s=> .code .ret s)
  (fun _ _ _ _ _ _=> .no "refuse") c
def qzz(P:Program)(ih:Tk→Rs)(r:Option Nat)(N:Nat)(c:Code)(s:ES):Rs:=codeF c P ih r N s
def appE(ih:Tk→Rs)(fv:AV)(args:List AV)(h:EH):Rs:=match fv with
 | .fn f first cap=>match f with
   | .func f=>ih (.call f (first++args++cap) h)
   | _=> .no "no function"
 | .yield l=>qzc ih l args h
 | _=> .no "no function value"
def qy6(P:Program)(ih:Tk→Rs)(t:Tk):Rs:=Tk.rec (motive:=fun _=>Rs) (fun r n c s=>qzz P ih r n c s) (fun f args h=>qv8 P ih f args h) (fun fv args h=>appE ih fv args h) t
def runE(P:Program)(n:Nat):Tk→Rs:=Nat.rec (motive:=fun _=>Tk→Rs) (fun _=> .no "fuel") (fun _ ih=>qy6 P ih) n
end
theorem q08{α:Type}{x:Option α}{f:α→Rs}{e:AExit}{s:ES}:ob x f= .code e s↔ ∃ a,x=some a∧f a= .code e s:=by
 cases x<;>simp[ob]
theorem qhr{α:Type}{x:Option α}{f:α→Rs}{v:AV}{h:EH}:ob x f= .fin v h↔ ∃ a,x=some a∧f a= .fin v h:=by
 cases x<;>simp[ob]
theorem q14{b:Bool}{k:Rs}{e:AExit}{s:ES}:gd b k= .code e s↔b=true∧k= .code e s:=by
 cases b<;>simp[gd]
theorem qlo{b:Bool}{k:Rs}{v:AV}{h:EH}:gd b k= .fin v h↔b=true∧k= .fin v h:=by
 cases b<;>simp[gd]
theorem q09{α β:Type}{x:Option α}{f:α→Option β}{b:β}:od x f=some b↔ ∃ a,x=some a∧f a=some b:=by
 cases x<;>simp[od]
theorem q2c{β:Type}{b:Bool}{k:Option β}{v:β}:gb b k=some v↔b=true∧k=some v:=by
 cases b<;>simp[gb]
theorem q7w{a b:Int}:beqI a b=decide (a=b):=by
 cases a with
 | ofNat a=>cases b with
   | ofNat b=>
     simp only[beqI];rw[Bool.eq_iff_iff,decide_eq_true_iff,Nat.beq_eq];simp only[Int.ofNat_eq_natCast]; omega
   | negSucc b=>simp[beqI]
 | negSucc a=>cases b with
   | ofNat b=>simp[beqI]
   | negSucc b=>
     simp only[beqI];rw[Bool.eq_iff_iff,decide_eq_true_iff,Nat.beq_eq];simp
theorem qiv{a b:Int}:bltI a b=decide (a<b):=by
 cases a with
 | ofNat a=>cases b with
   | ofNat b=>
     simp only[bltI];rw[Bool.eq_iff_iff,decide_eq_true_iff,Nat.blt_eq];simp only[Int.ofNat_eq_natCast]; omega
   | negSucc b=>simp only[bltI]; symm; rw[decide_eq_false_iff_not]; simp only[Int.ofNat_eq_natCast]; omega
 | negSucc a=>cases b with
   | ofNat b=>simp only[bltI]; symm; rw[decide_eq_true_iff]; simp only[Int.ofNat_eq_natCast]; omega
   | negSucc b=>simp only[bltI]; rw[Bool.eq_iff_iff,decide_eq_true_iff,Nat.blt_eq]; omega
theorem q4r{x:Int}{n:Nat}:natI x=some n↔x=(n:Int):=by
 cases x with
 | ofNat a=>simp only[natI,zbe,Int.ofNat_eq_natCast]; omega
 | negSucc a=>simp only[natI]; exact⟨fun h=>(by cases h),fun h=>absurd h (by omega)⟩
theorem q47{a b:IntKind}:beqK a b=true↔a=b:=by
 cases a<;>cases b<;>simp[beqK]
theorem q90:∀ {x y:List UInt8},q8z x y=true↔x=y
 | [],[]=>by simp[q8z]
 | [],_ :: _=>by simp[q8z]
 | _ :: _,[]=>by simp[q8z]
 | a :: x,b :: y=>by
   simp only[q8z];cases h:Nat.beq a.toNat b.toNat with
   | true=>
     have:a.toNat=b.toNat:=zbg h;have:a=b:=UInt8.toNat_inj.1 this;subst this;simp[q90]
   | false=>
     have:a≠b:=fun e=>by subst e; simp at h
     simp[this]
theorem qya{p q:ByteArray}:qgq p q=true↔p=q:=by
 unfold qgq;rw[q90];constructor
 · intro h
   cases p; cases q;congr;exact Array.toList_inj.1 h
 · intro h; rw[h]
theorem q7o{p q:ByteArray}:qgq p q=(p.toList==q.toList):=by
 rw[Bool.eq_iff_iff,beq_iff_eq,ByteArray.toList_eq,ByteArray.toList_eq];exact q90
theorem qn4{p q:ByteArray}:qgq p q=(p==q):=by
 rw[beq_toListBytes,q7o]
theorem qsv{l:Lf}{v:AV}(h:qbf l v=true):v.sup=0∧l.fits (conc ren0 v)∧v.one=true:=by
 cases l<;>cases v<;>simp[qbf]at h
 · exact⟨rfl,⟨_,rfl⟩,rfl⟩
 · have:=q47.1 h
   subst this;exact⟨rfl,⟨_,rfl⟩,rfl⟩
 · exact⟨rfl,⟨_,rfl⟩,rfl⟩
theorem q69:∀ {ls:List Lf} {cs:List AV},q2s ls cs=true→supL cs=0∧q1z ls (q04 ren0 cs)
 | [],[],_=>⟨rfl,rfl⟩
 | [],_ :: _,h=>by simp[q2s]at h
 | _ :: _,[],h=>by simp[q2s]at h
 | l :: ls,v :: vs,h=>by
   simp only[q2s]at h;cases h1:qbf l v with
   | false=>simp[h1]at h
   | true=>
     simp only[h1]at h;obtain⟨a1,a2,_⟩:=qsv h1;obtain⟨b1,b2⟩:=q69 h;exact⟨by simp[supL,a1,b1],_,_,rfl,a2,b2⟩
theorem z4h{l:Lf}{x y:AV}(hx:qbf l x=true)(hy:qbf l y=true):eqA x y=eqc (conc ren0 x) (conc ren0 y):=by
 cases l<;>cases x<;>simp[qbf]at hx<;>cases y<;>simp[qbf]at hy<;>simp only[eqA,conc,eqc]
 · rw[q7w]; rfl
 · exact qn4
theorem qeg:∀ {ls:List Lf} {x y:List AV},q2s ls x=true→q2s ls y=true→eqAs x y=eqcs (q04 ren0 x) (q04 ren0 y)
 | [],[],[],_,_=>rfl
 | [],_ :: _,_,h,_=>by simp[q2s]at h
 | [],[],_ :: _,_,h=>by simp[q2s]at h
 | _ :: _,[],_,h,_=>by simp[q2s]at h
 | _ :: _,_ :: _,[],_,h=>by simp[q2s]at h
 | l :: ls,a :: x,b :: y,hx,hy=>by
   simp only[q2s]at hx hy;cases h1:qbf l a with
   | false=>simp[h1]at hx
   | true=>
     cases h2:qbf l b with
     | false=>simp[h2]at hy
     | true=>
       simp only[h1]at hx;simp only[h2]at hy;simp only[eqAs,q04,eqcs,z4h h1 h2];cases eqc (conc ren0 a) (conc ren0 b)with
       | true=>simp[qeg hx hy]
       | false=>simp
def keyK:KeyKind→AV→Prop
 | .int kd=>KeyI kd
 | .str=>KeyS
 | .wide ls=>KeyV ls
def keyQ:KeyKind→AV→AV→Bool
 | .int _=>qhi
 | .str=>qr1
 | .wide _=>z4w
theorem qez{P:Program}{k:TypeId}{kk:KeyKind}(h:qbk P k=some kk):MapKey P k (keyK kk) (keyQ kk):=by
 simp only[qbk,q09]at h;obtain⟨D,hD,h⟩:=h;cases D<;>simp[q09]at h
 · subst h; exact MapKey.int hD
 · subst h; exact MapKey.str hD
 · obtain⟨ls,h1,rfl⟩:=h
   exact MapKey.flat (d:=30) (by omega) h1 (by unfold isWide; rw[hD])
 · obtain⟨ls,h1,rfl⟩:=h
   exact MapKey.flat (d:=30) (by omega) h1 (by unfold isWide; rw[hD])
theorem q7d{kk:KeyKind}{v:AV}(h:isKey kk v=true):keyK kk v:=by
 cases kk<;>cases v<;>simp[isKey]at h
 · have:=q47.1 h; subst this; exact⟨_,rfl⟩
 · exact⟨_,rfl⟩
 · rename_i ls cs
   obtain⟨h1,h2⟩:=q69 h;exact⟨by simp[AV.sup,h1],cs,rfl,h2⟩
theorem z4i{kk:KeyKind}{x y:AV}(hx:isKey kk x=true)(hy:isKey kk y=true):z08 x y=keyQ kk x y:=by
 cases kk<;>cases x<;>simp[isKey]at hx<;>cases y<;>simp[isKey]at hy<;>simp only[z08,keyQ,qhi,qr1,z4w]
 · rw[q7w]; rfl
 · exact qn4
 · exact qeg hx hy
theorem qdy{kk:KeyKind}:∀ {es:List (AV×AV×Nat)},q8w kk es=true→ ∀ e∈es,isKey kk e.1=true
 | [],_,e,he=>by cases he
 | x :: es,h,e,he=>by
   simp only[q8w]at h;cases h1:isKey kk x.1 with
   | false=>simp[h1]at h
   | true=>
     simp only[h1]at h;rcases zbm.1 he with rfl | he
     · exact h1
     · exact qdy h e he
theorem q68{kk:KeyKind}{x:AV}(hx:isKey kk x=true):∀ {es:List (AV×AV×Nat)} {i:Nat},q8w kk es=true→q1w (keyQ kk) x es i=(qem x es i).map (fun r=>(r.1,r.2.1))∧ ∀ r,qem x es i=some r→i≤r.1∧ ∃ e,es[r.1 - i]?=some e∧e.2=r.2
 | [],i,_=>⟨rfl,fun r h=>by simp[qem]at h⟩
 | e :: es,i,h=>by
   simp only[q8w]at h;cases h1:isKey kk e.1 with
   | false=>simp[h1]at h
   | true=>
     simp only[h1]at h;simp only[q1w,qem,←z4i hx h1];cases h2:z08 x e.1 with
     | true=>exact⟨rfl,fun r hr=>by simp only[zbe]at hr; subst hr; exact⟨zbi _,e,by simp,rfl⟩⟩
     | false=>
       obtain⟨a,b⟩:=q68 hx (es:=es) (i:=i+1) h;refine⟨a,fun r hr=>?_⟩
       obtain⟨b1,e',b2,b3⟩:=b r hr;refine⟨by omega,e',?_,b3⟩
       rw[show r.1 - i=(r.1 - (i+1))+1 by omega]
       simpa using b2
theorem q5h{α:Type}(f:α→α):∀ (i:Nat) (l:List α),setAt f i l=l.modify i f
 | _,[]=>by cases ‹Nat› <;>simp[setAt]
 | 0,a :: l=>by simp[setAt]
 | n+1,a :: l=>by simp[setAt,q5h f n l]
section rules
variable{P:Program}{r:Option Nat}{sl:List (Nat×AV)}{h₀:AH}{nt:Nat}{ds:List ADef}{Q:AExit→St→Prop}{o:Oper}{d:Nat}{x y z:Operand}{v:AV}
theorem qdt{T k e:TypeId}{K:AV→Prop}{eqv:AV→AV→Bool}{id cl:Nat}{es:List (AV×AV×Nat)}{kv zv:AV}{ok:Bool}(hT:P.underlying T=some (.map k e))(hz:q26 P e zv)(m:MapKey P k K eqv)
 (ho:o.op= .lookup T x y ok)(hd:o.dst=some d)(hdn:d<nt)(hx:ev sl x=some (.map (some id)))(hy:ev sl y=some kv)(hk:K kv)(hg:h₀.get id=some (.map es cl))(hes:∀ e∈es,K e.1)
 (hv:(match q1w eqv kv es 0,ok with | some p,true=> .tuple [p.2,.bool true] | some p,false=>p.2 | none,true=> .tuple [zv,.bool false] | none,false=>zv)=v)
 (h:Q .normal ⟨(d,v) :: sl,h₀,nt,ds⟩):JO P r o ⟨sl,h₀,nt,ds⟩ Q:=by
 have hmem:∀ p,q1w eqv kv es 0=some p→ ∃ e∈es,e.2.1=p.2:=fun p hp=>by
  obtain⟨_,e,e1,e2,_⟩:=q2z (j:=p.1) (v:=p.2) hp;exact⟨e,zc4 e1,e2⟩
 refine q0t (s:=⟨sl,h₀,nt,ds⟩) (v:=v) hd hdn (by simp[Oper.noDefer,ho]) (fun hw=>?_) (fun ρ a w hrel=>?_) h
 · have hs:=(hw.2.1 id _ hg).2
   simp only[Chunk.sup]at hs;subst hv;cases hq:q1w eqv kv es 0 with
   | none=>cases ok<;>simp[AV.sup,supL,q3h hz]
   | some p=>
     obtain⟨e,he,e2⟩:=hmem p hq;have:=(q2q.1 hs e he).2;rw[e2]at this;cases ok<;>simp[AV.sup,supL,this]
 · obtain⟨_,hb⟩:=hrel.2.2.1 id _ hg
   have hf:=m.run_find hk ρ w hes;have hc:=m.check kv hk ρ es.isEmpty w;rw[show(es.map (fun e=>(⟨conc ρ e.1,conc ρ e.2.1,e.2.2⟩:MapEntry)))=es.map (entC ρ) from rfl]at hb
   have hem:((es.map (entC ρ)).toArray).isEmpty=es.isEmpty:=by cases es<;>simp
   simp only[execOp,ho,q03 hrel hx,q03 hrel hy,conc,zbp];simp only[Instr.lookup,zbx,run_underlying hT,zbk,getObj,Sem.run,hb];simp only[zby,zbk,hem,hc,hf,zbx];subst hv;cases hq:q1w eqv kv es 0 with
   | none=>cases ok<;>simp[q4d hz ρ,conc,q04]
   | some p=>cases ok<;>simp[conc,q04]
theorem qpu{T k e:TypeId}{K:AV→Prop}{eqv:AV→AV→Bool}{id cl:Nat}{es:List (AV×AV×Nat)}{kv zv:AV}(hT:P.underlying T=some (.map k e))(hz:q26 P e zv)(m:MapKey P k K eqv)
 (ho:o.op= .mapEntry T x y)(hd:o.dst=some d)(hdn:d<nt)(hx:ev sl x=some (.map (some id)))(hy:ev sl y=some kv)(hk:K kv)(hg:h₀.get id=some (.map es cl))(hes:∀ e∈es,K e.1)(hq:q1w eqv kv es 0=none)
 (h:∀ h',h₀.SetTo id (.map (es++[(kv,zv,cl)]) (cl+1)) h'→Q .normal ⟨(d,.tuple [zv,.int .i64 cl]) :: sl,h',nt,ds⟩):JO P r o ⟨sl,h₀,nt,ds⟩ Q:=by
 have hsupk:=m.closed kv hk
 refine qdw (id:=id) (c:= .map es cl) (c':= .map (es++[(kv,zv,cl)]) (cl+1)) (v:= .tuple [zv,.int .i64 cl]) (s:=⟨sl,h₀,nt,ds⟩) (ob:=fun ρ=> .map ((es++[(kv,zv,cl)]).map (entC ρ)).toArray (cl+1))
  hd hdn (by simp[Oper.noDefer,ho]) hg rfl (fun hw=>⟨?_,by simp[AV.sup,supL,q3h hz]⟩) (fun hw ρ a w hrel hreal=>⟨⟨_,hreal.2⟩,?_,fun w' hw'=>⟨hreal.1,hw'⟩⟩) (h _ (AH.za4 _ _ _))
 · have:=(hw.2.1 id _ hg).2
   simp only[Chunk.sup]at this ⊢;refine q2q.2 fun e he=>?_
   rcases zbr.1 he with h1 | h1
   · exact q2q.1 this e h1
   · simp at h1; subst h1; exact⟨by rw[hsupk]; exact zbl _,by rw[q3h hz]; exact zbl _⟩
 · have hf:=m.run_find hk ρ w hes
   have hc:=m.check kv hk ρ false w;have hb:=hreal.2;rw[show(es.map (fun e=>(⟨conc ρ e.1,conc ρ e.2.1,e.2.2⟩:MapEntry)))=es.map (entC ρ) from rfl]at hb
   simp only[execOp,ho,q03 hrel hx,q03 hrel hy,conc,zbp];simp only[Instr.mapEntry,zbx,run_underlying hT,zbk,getObj,Sem.run,hb];simp only[zby,zbk,hc,hf,hq,Option.map_none,zbx,q4d hz ρ];simp[setObj,Sem.run,hb,goInt,q04,conc,entC]
theorem qpt{T k e:TypeId}{K:AV→Prop}{eqv:AV→AV→Bool}{id cl i:Nat}{es:List (AV×AV×Nat)}{kv zv u:AV}{e0:AV×AV×Nat}(hT:P.underlying T=some (.map k e))(hz:q26 P e zv)(m:MapKey P k K eqv)
 (ho:o.op= .mapEntry T x y)(hd:o.dst=some d)(hdn:d<nt)(hx:ev sl x=some (.map (some id)))(hy:ev sl y=some kv)(hk:K kv)(hg:h₀.get id=some (.map es cl))(hes:∀ e∈es,K e.1)(hq:q1w eqv kv es 0=some (i,u))(he0:es[i]?=some e0)
 (h:∀ h',h₀.SetTo id (.map (es.modify i fun e=>(kv,e.2)) cl) h'→Q .normal ⟨(d,.tuple [e0.2.1,.int .i64 e0.2.2]) :: sl,h',nt,ds⟩):JO P r o ⟨sl,h₀,nt,ds⟩ Q:=by
 have hsupk:=m.closed kv hk;obtain⟨_,e1,e2,e3,e4⟩:=q2z hq;rw[Nat.sub_zero,he0]at e2;cases e2;have hmem:=zc4 he0
 refine qdw (id:=id) (c:= .map es cl) (c':= .map (es.modify i fun e=>(kv,e.2)) cl) (v:= .tuple [e0.2.1,.int .i64 e0.2.2]) (s:=⟨sl,h₀,nt,ds⟩) (ob:=fun ρ=> .map ((es.modify i fun e=>(kv,e.2)).map (entC ρ)).toArray cl)
  hd hdn (by simp[Oper.noDefer,ho]) hg rfl (fun hw=>⟨?_,?_⟩) (fun hw ρ a w hrel hreal=>⟨⟨_,hreal.2⟩,?_,fun w' hw'=>⟨hreal.1,hw'⟩⟩) (h _ (AH.za4 _ _ _))
 · have:=(hw.2.1 id _ hg).2
   simp only[Chunk.sup]at this ⊢;exact q5t this fun e he=>⟨by rw[hsupk]; exact zbl _,(q2q.1 this e he).2⟩
 · have:=(hw.2.1 id _ hg).2
   simp only[Chunk.sup]at this;have:=(q2q.1 this e0 hmem).2;simpa [AV.sup,supL]using this
 · have hf:=m.run_find hk ρ w hes
   have hc:=m.check kv hk ρ false w;have hb:=hreal.2;have hst:=m.run_stays hk (hes e0 hmem) e4 ρ w;have hmod:=q5s ρ es i (fun e=>(kv,e.2)) (fun e=>{e with key:=conc ρ kv}) (fun e _=>rfl)
   have hkey:((es.map (entC ρ)).toArray)[i]?=some (entC ρ e0):=by simp[he0]
   rw[show(es.map (fun e=>(⟨conc ρ e.1,conc ρ e.2.1,e.2.2⟩:MapEntry)))=es.map (entC ρ) from rfl]at hb
   simp only[execOp,ho,q03 hrel hx,q03 hrel hy,conc,zbp];simp only[Instr.mapEntry,zbx,run_underlying hT,zbk,getObj,Sem.run,hb];simp only[zby,zbk,hc,hf,hq,zbp,zbx,hkey,Option.getD_some];rw[show(entC ρ e0).key=conc ρ e0.1 from rfl,hst];simp only[zbk,setObj,Sem.run,hb,hmod];simp[goInt,q04,conc,entC,←e3]
theorem qcw{T k e:TypeId}{K:AV→Prop}{eqv:AV→AV→Bool}{id cl:Nat}{es:List (AV×AV×Nat)}{kv:AV}(hT:P.underlying T=some (.map k e))(m:MapKey P k K eqv)
 (ho:o.op= .mapUpdate T x y z)(hd:o.dst=none)(hx:ev sl x=some (.map (some id)))(hy:ev sl y=some kv)(hv:ev sl z=some v)(hk:K kv)(hg:h₀.get id=some (.map es cl))(hes:∀ e∈es,K e.1)(hq:q1w eqv kv es 0=none)
 (h:∀ h',h₀.SetTo id (.map (es++[(kv,v,cl)]) (cl+1)) h'→Q .normal ⟨sl,h',nt,ds⟩):JO P r o ⟨sl,h₀,nt,ds⟩ Q:=by
 have hsupk:=m.closed kv hk
 refine qio (id:=id) (c:= .map es cl) (c':= .map (es++[(kv,v,cl)]) (cl+1)) (s:=⟨sl,h₀,nt,ds⟩) (ob:=fun ρ=> .map ((es++[(kv,v,cl)]).map (entC ρ)).toArray (cl+1))
  hd (by simp[Oper.noDefer,ho]) hg rfl (fun hw=>?_) (fun hw ρ a w hrel hreal=>⟨⟨_,hreal.2⟩,?_,fun w' hw'=>⟨hreal.1,hw'⟩⟩) (h _ (AH.za4 _ _ _))
 · have:=(hw.2.1 id _ hg).2
   simp only[Chunk.sup]at this ⊢;refine q2q.2 fun e he=>?_
   rcases zbr.1 he with h1 | h1
   · exact q2q.1 this e h1
   · simp at h1; subst h1; exact⟨by rw[hsupk]; exact zbl _,q1i hw hv⟩
 · have hf:=m.run_find hk ρ w hes
   have hc:=m.check kv hk ρ false w;have hb:=hreal.2;rw[show(es.map (fun e=>(⟨conc ρ e.1,conc ρ e.2.1,e.2.2⟩:MapEntry)))=es.map (entC ρ) from rfl]at hb
   simp only[execOp,ho,q03 hrel hx,q03 hrel hy,q03 hrel hv,conc,zbp];simp only[Instr.mapUpdate,zbx,run_underlying hT,zbk,getObj,Sem.run,hb];simp only[zby,zbk,hc,hf,hq,Option.map_none,zbx];simp[setObj,Sem.run,hb,entC]
theorem qcv{T k e:TypeId}{K:AV→Prop}{eqv:AV→AV→Bool}{id cl i:Nat}{es:List (AV×AV×Nat)}{kv u:AV}(hT:P.underlying T=some (.map k e))(m:MapKey P k K eqv)
 (ho:o.op= .mapUpdate T x y z)(hd:o.dst=none)(hx:ev sl x=some (.map (some id)))(hy:ev sl y=some kv)(hv:ev sl z=some v)(hk:K kv)(hg:h₀.get id=some (.map es cl))(hes:∀ e∈es,K e.1)(hq:q1w eqv kv es 0=some (i,u))
 (h:∀ h',h₀.SetTo id (.map (es.modify i fun e=>(kv,v,e.2.2)) cl) h'→Q .normal ⟨sl,h',nt,ds⟩):JO P r o ⟨sl,h₀,nt,ds⟩ Q:=by
 have hsupk:=m.closed kv hk;obtain⟨_,e0,he0,e3,e4⟩:=q2z hq;rw[Nat.sub_zero]at he0;have hmem:=zc4 he0
 refine qio (id:=id) (c:= .map es cl) (c':= .map (es.modify i fun e=>(kv,v,e.2.2)) cl) (s:=⟨sl,h₀,nt,ds⟩) (ob:=fun ρ=> .map ((es.modify i fun e=>(kv,v,e.2.2)).map (entC ρ)).toArray cl)
  hd (by simp[Oper.noDefer,ho]) hg rfl (fun hw=>?_) (fun hw ρ a w hrel hreal=>⟨⟨_,hreal.2⟩,?_,fun w' hw'=>⟨hreal.1,hw'⟩⟩) (h _ (AH.za4 _ _ _))
 · have:=(hw.2.1 id _ hg).2
   simp only[Chunk.sup]at this ⊢;exact q5t this fun e he=>⟨by rw[hsupk]; exact zbl _,q1i hw hv⟩
 · have hf:=m.run_find hk ρ w hes
   have hc:=m.check kv hk ρ false w;have hb:=hreal.2;have hst:=m.run_stays hk (hes e0 hmem) e4 ρ w;have hmod:=q5s ρ es i (fun e=>(kv,v,e.2.2)) (fun e=>{e with key:=conc ρ kv,val:=conc ρ v}) (fun e _=>rfl)
   have hkey:((es.map (entC ρ)).toArray)[i]?=some (entC ρ e0):=by simp[he0]
   rw[show(es.map (fun e=>(⟨conc ρ e.1,conc ρ e.2.1,e.2.2⟩:MapEntry)))=es.map (entC ρ) from rfl]at hb
   simp only[execOp,ho,q03 hrel hx,q03 hrel hy,q03 hrel hv,conc,zbp];simp only[Instr.mapUpdate,zbx,run_underlying hT,zbk,getObj,Sem.run,hb];simp only[zby,zbk,hc,hf,hq,zbp,zbx,hkey,Option.getD_some];rw[show(entC ρ e0).key=conc ρ e0.1 from rfl,hst];simp only[zbk,setObj,Sem.run,hb,hmod]
theorem qa7{b:Int}:∀ {es:List (AV×AV×Nat)} {i j:Nat},qa6 b es i=some j→i≤j∧es.findIdx? (fun e=>(e.2.2:Int)==b)=some (j - i)
 | [],i,j,h=>by simp[qa6]at h
 | e :: es,i,j,h=>by
   simp only[qa6,q7w,Int.ofNat_eq_natCast]at h;simp only[List.findIdx?_cons]
   by_cases hb:(e.2.2:Int)=b
   · simp only[hb,decide_true,zbe]at h
     subst h;simp[hb]
   · simp only[hb,decide_false]at h
     obtain⟨h1,h2⟩:=qa7 h;refine⟨by omega,?_⟩
     simp only[beq_iff_eq,hb,h2,if_false,zbp,zbe];omega
theorem qnn{T:TypeId}{id cl i:Nat}{b:Int}{k:IntKind}{es:List (AV×AV×Nat)}(ho:o.op= .entryStore T x y z)(hd:o.dst=none)(hx:ev sl x=some (.map (some id)))(hy:ev sl y=some (.int k b))(hv:ev sl z=some v)
 (hg:h₀.get id=some (.map es cl))(hi:es.findIdx? (fun e=>(e.2.2:Int)==b)=some i)
 (h:∀ h',h₀.SetTo id (.map (es.modify i fun e=>(e.1,v,e.2.2)) cl) h'→Q .normal ⟨sl,h',nt,ds⟩):JO P r o ⟨sl,h₀,nt,ds⟩ Q:=by
 refine qio (id:=id) (c:= .map es cl) (c':= .map (es.modify i fun e=>(e.1,v,e.2.2)) cl) (s:=⟨sl,h₀,nt,ds⟩) (ob:=fun ρ=> .map ((es.modify i fun e=>(e.1,v,e.2.2)).map (entC ρ)).toArray cl)
  hd (by simp[Oper.noDefer,ho]) hg rfl (fun hw=>?_) (fun hw ρ a w hrel hreal=>⟨⟨_,hreal.2⟩,?_,fun w' hw'=>⟨hreal.1,hw'⟩⟩) (h _ (AH.za4 _ _ _))
 · have:=(hw.2.1 id _ hg).2
   simp only[Chunk.sup]at this ⊢;exact q5t this fun e he=>⟨(q2q.1 this e he).1,q1i hw hv⟩
 · have hbk:=hreal.2
   have hmod:=q5s ρ es i (fun e=>(e.1,v,e.2.2)) (fun e=>{e with val:=conc ρ v}) (fun e _=>rfl)
   rw[show(es.map (fun e=>(⟨conc ρ e.1,conc ρ e.2.1,e.2.2⟩:MapEntry)))=es.map (entC ρ) from rfl]at hbk
   have hfi2:((es.map (entC ρ)).toArray).findIdx? (fun e=>(e.born:Int)==b)=some i:=by
    rw[List.findIdx?_toArray,List.findIdx?_map]; exact hi
   simp only[execOp,ho,q03 hrel hx,q03 hrel hy,q03 hrel hv,conc,zbp];simp only[Instr.entryStore,zbx,zbk,getObj,Sem.run,hbk,asInt,asIntOf];simp only[zby,zbk,hfi2,zbx,setObj,Sem.run,hbk,hmod]
theorem z6k{i pos:Nat}{p:ByteArray}(ho:o.op= .next x true)(hd:o.dst=some d)(hdn:d<nt)(hx:ev sl x=some (.ptr (some (i,0))))(hg:h₀.get i=some (.siter p pos))(hlt:pos<p.size)
 (h:∀ h',h₀.SetTo i (.siter p (pos+(Utf8.decode p pos).2)) h'→Q .normal ⟨(d,.tuple [.bool true,.int .i64 pos,.int .i32 (Utf8.decode p pos).1]) :: sl,h',nt,ds⟩):JO P r o ⟨sl,h₀,nt,ds⟩ Q:=by
 refine qdw (id:=i) (c:= .siter p pos) (c':= .siter p (pos+(Utf8.decode p pos).2)) (v:= .tuple [.bool true,.int .i64 pos,.int .i32 (Utf8.decode p pos).1]) (s:=⟨sl,h₀,nt,ds⟩) (ob:=fun _=> .stringIter p (pos+(Utf8.decode p pos).2))
  hd hdn (by simp[Oper.noDefer,ho]) hg rfl (fun _=>⟨zbl _,by simp[AV.sup,supL]⟩) (fun hw ρ a w hrel hreal=>⟨⟨_,hreal.2⟩,?_,fun w' hw'=>⟨hreal.1,hw'⟩⟩) (h _ (AH.za4 _ _ _))
 have he:=q03 hrel hx;have h0:=hreal.1;simp only[execOp,ho,he,conc,zbp,Ren.addr,h0,zbv];simp[Instr.next,getObj,Sem.run,hreal.2,hlt,setObj,goInt,q04,conc]
theorem z6j{i pos:Nat}{p:ByteArray}(ho:o.op= .next x true)(hd:o.dst=some d)(hdn:d<nt)(hx:ev sl x=some (.ptr (some (i,0))))(hg:h₀.get i=some (.siter p pos))(hlt:¬ pos<p.size)
 (h:Q .normal ⟨(d,.tuple [.bool false]) :: sl,h₀,nt,ds⟩):JO P r o ⟨sl,h₀,nt,ds⟩ Q:=by
 refine q0t (s:=⟨sl,h₀,nt,ds⟩) (v:= .tuple [.bool false]) hd hdn (by simp[Oper.noDefer,ho]) (fun _=>by simp[AV.sup,supL]) (fun ρ a w hrel=>?_) h
 have hreal:=hrel.2.2.1 i _ hg;have he:=q03 hrel hx;have h0:=hreal.1;simp only[execOp,ho,he,conc,zbp,Ren.addr,h0,zbv];simp[Instr.next,getObj,Sem.run,hreal.2,hlt,q04,conc]
theorem qze{T U:TypeId}{n len l hi m esz id off dd:Nat}{cs:List AV}{lo hi' mx:Option Operand}{nl nh nm:Option Int}(hU:P.underlying U=some (.slice T))(hn:(P.info? T).map (·.size)=some n)
 (ho:o.op= .slice U x lo hi' mx)(hd:o.dst=some d)(hdn:d<nt)(hx:ev sl x=some (.slice (some (id,off)) len (.grow dd)))(hg:h₀.get id=some (.grow esz cs))(hes:0<esz)(hroom:(dd+len) * esz≤cs.length)
 (e1:evO sl lo=some nl)(e2:evO sl hi'=some nh)(e3:evO sl mx=some nm)(hnm:nm.isSome=true)
 (hm:m=(nm.map Int.toNat).getD len)(hh:hi=(nh.map Int.toNat).getD len)(hl:l=(nl.map Int.toNat).getD 0)(p1:∀ i∈nl,0≤i)(p2:∀ i∈nh,0≤i)(p3:∀ i∈nm,0≤i)(hhs:nh.isSome=true)
 (c1:l≤hi)(c2:hi≤m)(c3:m≤len)
 (h:Q .normal ⟨(d,.slice (some (if m=l then(id,off) else(id,off+l * n))) (hi - l) (.exact (m - l))) :: sl,h₀,nt,ds⟩):JO P r o ⟨sl,h₀,nt,ds⟩ Q:=
 q0t (s:=⟨sl,h₀,nt,ds⟩) hd hdn (by simp[Oper.noDefer,ho]) (fun hw=>by
  have:=q1i hw hx;simp only[AV.sup,supA]at this ⊢;split<;>exact this) (fun ρ a w hrel=>by
  obtain⟨_,e,arr,_,hsz,hlen,_⟩:=hrel.2.2.1 id _ hg
  have hcap:dd+len≤ρ.cap id:=by
   have:(dd+len) * esz≤ρ.cap id * esz:=by omega
   exact Nat.le_of_mul_le_mul_right this hes
  have hmm:m=(nm.map Int.toNat).getD (ρ.cap id - dd):=by
   cases nm with
   | none=>simp at hnm
   | some i=>simpa using hm
  have hb:=q5w (P:=P) (isS:=true) (len:=len) (cap:=ρ.cap id - dd) w (q45 hrel e1) (q45 hrel e2) (q45 hrel e3) hmm hh hl p1 p2 p3 (fun _=>hhs) c1 c2 (by omega)
  simp only[execOp,ho,Instr.sliceAt,Instr.slice,zbx,Go.run_underlying hU,zbk,q03 hrel hx,conc,Cap.conc,zbp,hb,q0i hn,zby];congr 3;split
  · rfl
  · simp[q38]) h
end rules
theorem qvm{P:Program}{T:TypeId}(hD:P.underlying T=some .bool)(n:Nat)(a b:Bool)(w:World):(Op.equalIn (n+1) T (.bool a) (.bool b)).run P w= .ok (a==b) w:=by
 simp[Op.equalIn,run_underlying hD]
theorem z07{P:Program}{T e:TypeId}(hD:P.underlying T=some (.pointer e))(n:Nat)(a:Option Addr)(w:World):(Op.equalIn (n+1) T (.pointer a) (.pointer none)).run P w= .ok a.isNone w:=by
 cases a<;>simp[Op.equalIn,run_underlying hD]
theorem qsp{P:Program}{T e:TypeId}(hD:P.underlying T=some (.slice e))(n:Nat)(a:Option Addr)(l c c2:Nat)(w:World):(Op.equalIn (n+1) T (.slice a l c) (.slice none 0 c2)).run P w= .ok a.isNone w:=by
 cases a<;>simp[Op.equalIn,run_underlying hD]
theorem q82{P:Program}{T:TypeId}{x y:AV}{b:Bool}(h:q76 P T x y=some b)(op:BinOp)(hop:op= .eql∨op= .neq)(ox oy:Operand)(hi:(∀ k n,x≠ .int k n)∧ ∀ s,x≠ .str s):
 ∀ ρ w,(do eqGuard op T ox oy (conc ρ x) (conc ρ y); binOp op T (conc ρ x) (conc ρ y)).run P w= .ok (.bool (match op with | .eql=>b | _=>!b)) w:=by
 intro ρ w
 have fin:∀ vx vy:Value,(eqGuard op T ox oy vx vy).run P w= .ok () w→(∀ j m,vx≠ .int j m)→(∀ s,vx≠ .string s)→(∀ j m,vx≠ .float j m)→(∀ j m n,vx≠ .complex j m n)→(Op.equal T vx vy).run P w= .ok b w→
  (do eqGuard op T ox oy vx vy; binOp op T vx vy).run P w= .ok (.bool (match op with | .eql=>b | _=>!b)) w:=by
  intro vx vy h1 h2 h3 h4 h5 h6;rcases hop with rfl | rfl
  · simp only[zbx,h1,zbk]
    cases vx<;>first | exact absurd rfl (h2 _ _) | exact absurd rfl (h3 _) | exact absurd rfl (h4 _ _) | exact absurd rfl (h5 _ _ _) | (simp only[binOp,zbx,h6,zbk,zby])
  · simp only[zbx,h1,zbk]
    cases vx<;>first | exact absurd rfl (h2 _ _) | exact absurd rfl (h3 _) | exact absurd rfl (h4 _ _) | exact absurd rfl (h5 _ _ _) | (simp only[binOp,zbx,h6,zbk,zby])
 have g0:(!(op matches .eql | .neq))=false:=by rcases hop with rfl | rfl<;>rfl
 cases x<;>simp only[q76,q09,q2c,reduceCtorEq]at h
 ·
  obtain⟨c,hc,h1,h2⟩:=h;cases y<;>simp[AV.asBool]at hc
  subst hc;simp only[qwc]at h1;split at h1
  · rename_i D hD
    cases D<;>simp[qwd]at h1
    refine fin _ _ ?_ (by simp[conc]) (by simp[conc]) (by simp[conc]) (by simp[conc]) ?_
    · simp[eqGuard,g0,conc]
    · simp only[zbe]at h2
      subst h2; exact qvm hD 9999 _ _ w
  · simp at h1
 · exact absurd rfl (hi.2 _)
 ·
  split at h
  · rw[q2c]at h
    obtain⟨h1,h2⟩:=h;simp only[qqx]at h1;split at h1
    · rename_i D hD
      cases D<;>simp[z2s]at h1
      rename_i a _ _ _;refine fin _ _ ?_ (by simp[conc]) (by simp[conc]) (by simp[conc]) (by simp[conc]) ?_
      · simp[eqGuard,g0,conc]
      · simp only[zbe]at h2
        subst h2;refine(z07 hD 9999 _ w).trans ?_; cases a<;>rfl
    · simp at h1
  · simp at h
 ·
  obtain⟨q,hq,h1,h2,e,he,h3⟩:=h;cases y<;>simp[AV.asSl]at hq
  subst hq;rename_i p n c p2 n2 c2;simp only at h1 h2;cases p2<;>simp[J.isNone]at h1
  have h2:=zbg h2;subst h2;simp only[elemE,q09]at he;obtain⟨D,hD,he⟩:=he;cases D<;>simp[qd5]at he
  refine fin _ _ ?_ (by simp[conc]) (by simp[conc]) (by simp[conc]) (by simp[conc]) ?_
  · simp[eqGuard,g0,conc]
  · simp only[zbe]at h3
    subst h3;refine(qsp hD 9999 _ _ _ _ w).trans ?_; cases p<;>rfl
 ·
  obtain⟨bs,hb,h⟩:=h;cases y<;>simp[AV.asAgg]at hb
  subst hb;rename_i as bs;simp only[qj2,q09,q2c,zbe]at h;obtain⟨ls,hl,h1,h2,h3,h4,h5⟩:=h;obtain⟨s1,f1⟩:=q69 h1;obtain⟨s2,f2⟩:=q69 h2;have c1:q04 ρ as=q04 ren0 as:=q0u (n:=0) (fun i hi=>by omega) as (by omega)
  have c2:q04 ρ bs=q04 ren0 bs:=q0u (n:=0) (fun i hi=>by omega) bs (by omega)
  have hv:∀ cs,valOf P T cs= .agg cs.toArray:=fun cs=>by
   unfold isWide at h3;unfold valOf;split at h3<;>simp_all
  refine fin _ _ ?_ (by simp[conc]) (by simp[conc]) (by simp[conc]) (by simp[conc]) ?_
  · have h4:P.eqGuardType P.depth T=false:=by simpa using h4
    simp[eqGuard,g0,conc,h4,program,Sem.run]
  · simp only[conc,c1,c2]
    rw[←hv,←hv];have:=q83 (P:=P) 30 (10000 - 30) T ls (q04 ren0 as) (q04 ren0 bs) hl f1 f2 w;refine this.trans ?_;rw[←qeg h1 h2,h5]
inductive TT where
 | int (lo hi:Int)
 | bool
 | str
 | is (v:AV)
 | ro (t:Ty)
 | ls (e:List TT) (lo hi:Nat)
inductive CT where
 | cells (l:List TT)
 | arr (e:List TT) (m:Nat)
 | map (K:AV→Prop) (V:TT)
 | raw (Φ:Chunk→Prop)
abbrev Sig:=Nat→Option CT
mutual
def okT(hB:AH)(g:Sig):TT→AV→Prop
 | .int lo hi,v=> ∃ n:Int,v= .int .i64 n∧lo≤n∧n≤hi
 | .bool,v=> ∃ b,v= .bool b
 | .str,v=> ∃ s,v= .str s∧s.size≤1048576
 | .is u,v=>v=u
 | .ro t,v=>okV hB t v
 | .ls e lo hi,v=> ∃ p n c,v= .slice p n c∧lo≤n∧n≤hi∧((p=none∧n=0)∨ ∃ i k m,p=some (i,k * e.length)∧g i=some (.arr e m)∧k+n≤m)
def okTL(hB:AH)(g:Sig):List TT→List AV→Prop
 | [],l=>l=[]
 | t :: ts,l=> ∃ v r,l=v :: r∧okT hB g t v∧okTL hB g ts r
end
def qb7(g g':Sig):Prop:= ∀ i ct,g i=some ct→g' i=some ct
theorem qb7.refl(g:Sig):qb7 g g:=fun _ _ h=>h
theorem qb7.trans{g g' g'':Sig}(a:qb7 g g')(b:qb7 g' g''):qb7 g g'':=fun i ct h=>b i ct (a i ct h)
def SigA(g g':Sig):Prop:= ∀ i e m,g i=some (.arr e m)→g' i=some (.arr e m)
theorem qb7.a{g g':Sig}(s:qb7 g g'):SigA g g':=fun i _ _=>s i _
theorem SigA.trans{g g' g'':Sig}(a:SigA g g')(b:SigA g' g''):SigA g g'':=fun i e m h=>b i e m (a i e m h)
theorem okT.monoA{hB:AH}{g g':Sig}(s:SigA g g'):∀ {t:TT} {v:AV},okT hB g t v→okT hB g' t v
 | .int _ _,_,h=>h
 | .bool,_,h=>h
 | .str,_,h=>h
 | .is _,_,h=>h
 | .ro _,_,h=>h
 | .ls e lo hi,v,h=>by
   obtain⟨p,n,c,h1,h2,h3,h4⟩:=h;refine⟨p,n,c,h1,h2,h3,?_⟩;rcases h4 with h4 | ⟨i,k,m,h5,h6,h7⟩
   · exact .inl h4
   · exact .inr ⟨i,k,m,h5,s i _ _ h6,h7⟩
theorem okTL.monoA{hB:AH}{g g':Sig}(s:SigA g g'):∀ {t:List TT} {l:List AV},okTL hB g t l→okTL hB g' t l
 | [],_,h=>h
 | t :: ts,l,h=>by
   obtain⟨v,r,h1,h2,h3⟩:=h;exact⟨v,r,h1,h2.monoA s,okTL.monoA s h3⟩
theorem okT.mono{hB:AH}{g g':Sig}(s:qb7 g g'){t:TT}{v:AV}(h:okT hB g t v):okT hB g' t v:=h.monoA s.a
theorem okTL.mono{hB:AH}{g g':Sig}(s:qb7 g g'){t:List TT}{l:List AV}(h:okTL hB g t l):okTL hB g' t l:=h.monoA s.a
def qkt(E:List AV→Prop)(esz m:Nat)(cs:List AV):Prop:=
 cs.length=m * esz∧ ∀ k:Int,0≤k→k<m→ ∃ l,l.length=esz∧E l∧(cs.drop (k.toNat * esz)).take esz=l
def okC(hB:AH)(g:Sig):CT→Chunk→Prop
 | .cells ts,c=> ∃ cs,c= .own cs∧okTL hB g ts cs
 | .arr e m,c=> ∃ cs,(c= .own cs∨ ∃ k,c= .grow k cs)∧qkt (okTL hB g e) e.length m cs
 | .map K V,c=> ∃ es cl,c= .map es cl∧(∀ x∈es,K x.1)∧ ∀ x∈es,okT hB g V x.2.1
 | .raw Φ,c=>Φ c
theorem qkt.imp{E E':List AV→Prop}{esz m:Nat}{cs:List AV}(a:qkt E esz m cs)(h:∀ l,E l→E' l):qkt E' esz m cs:=
 ⟨a.1,fun k k0 k1=>by obtain⟨l,h1,h2,h3⟩:=a.2 k k0 k1; exact⟨l,h1,h l h2,h3⟩⟩
theorem okC.monoA{hB:AH}{g g':Sig}(s:SigA g g'){ct:CT}{c:Chunk}(h:okC hB g ct c):okC hB g' ct c:=by
 cases ct with
 | cells ts=>obtain⟨cs,h1,h2⟩:=h; exact⟨cs,h1,h2.monoA s⟩
 | arr e m=>obtain⟨cs,h1,h2⟩:=h; exact⟨cs,h1,h2.imp fun l hl=>hl.monoA s⟩
 | map K V=>obtain⟨es,cl,h1,h2,h3⟩:=h; exact⟨es,cl,h1,h2,fun x hx=>(h3 x hx).monoA s⟩
 | raw Φ=>exact h
theorem okC.mono{hB:AH}{g g':Sig}(s:qb7 g g'){ct:CT}{c:Chunk}(h:okC hB g ct c):okC hB g' ct c:=h.monoA s.a
def LsK(g:Sig)(e:List TT)(p:Option (Nat×Nat))(n:Nat):Prop:=(p=none∧n=0)∨ ∃ i k m,p=some (i,k * e.length)∧g i=some (.arr e m)∧k+n≤m
theorem LsK.mono{g g':Sig}{e:List TT}{p:Option (Nat×Nat)}{n:Nat}(a:LsK g e p n)(s:qb7 g g'):LsK g' e p n:=by
 rcases a with a | ⟨i,k,m,h1,h2,h3⟩
 · exact .inl a
 · exact .inr ⟨i,k,m,h1,s i _ h2,h3⟩
theorem LsK.monoA{g g':Sig}{e:List TT}{p:Option (Nat×Nat)}{n:Nat}(a:LsK g e p n)(s:SigA g g'):LsK g' e p n:=by
 rcases a with a | ⟨i,k,m,h1,h2,h3⟩
 · exact .inl a
 · exact .inr ⟨i,k,m,h1,s i _ _ h2,h3⟩
structure HT(hB:AH)(g:Sig)(h:AH):Prop where
 le:Le hB h
 fr:∀ i,g i≠none→NewN hB i
 ok:∀ i ct,g i=some ct→ ∃ c,h.get i=some c∧okC hB g ct c
structure Stp(hB:AH)(g:Sig)(h:AH)(g':Sig)(h':AH):Prop where
 le0:Le hB h
 ht:HT hB g' h'
 sub:qb7 g g'
 next:h.next≤h'.next
 keep:∀ i c,g i=none→h.get i=some c→h'.get i=some c∧g' i=none
 new:∀ i,g i=none→g' i≠none→NewN h i
section
variable{hB h h' h'':AH}{g g' g'':Sig}
theorem HT.refl(a:HT hB g h):Stp hB g h g h:=⟨a.le,a,.refl _,zbi _,fun _ _ h1 h2=>⟨h2,h1⟩,fun _ h1 h2=>absurd h1 h2⟩
def Sig.nil:Sig:=fun _=>none
theorem HT.un0(a:HT hB g h){i:Nat}(hn:h.get i=none):g i=none:=by
 cases e:g i with
 | none=>rfl
 | some ct=>obtain⟨c,h1,_⟩:=a.ok i ct e; rw[hn]at h1; cases h1
theorem HT.base(a:HT hB g h){i:Nat}{c:Chunk}(hi:hB.get i=some c):g i=none:=by
 cases e:g i with
 | none=>rfl
 | some ct=>have:=(a.fr i (by rw[e]; simp)).1; rw[hi]at this; cases this
theorem HT.next(a:HT hB g h):hB.next≤h.next:=a.le.next
theorem Stp.newN(a:Stp hB g h g' h'){i:Nat}(hn:NewN h' i):NewN h i:=by
 refine⟨?_,zbo a.next hn.2⟩;cases e:h.get i with
 | none=>rfl
 | some c=>
   cases eg:g i with
   | none=>have:=(a.keep i c eg e).1; rw[hn.1]at this; cases this
   | some ct=>have:=a.ht.un0 hn.1; rw[a.sub i ct eg]at this; cases this
theorem Stp.trans(a:Stp hB g h g' h')(b:Stp hB g' h' g'' h''):Stp hB g h g'' h'':=
 ⟨a.le0,b.ht,a.sub.trans b.sub,zbo a.next b.next,fun i c h1 h2=>b.keep i c (a.keep i c h1 h2).2 (a.keep i c h1 h2).1,fun i h1 h2=>by
  cases e:g' i with
  | none=>exact a.newN (b.new i e h2)
  | some ct=>exact a.new i h1 (by rw[e]; simp)⟩
theorem Stp.le(a:Stp hB g h g' h')(b:Le h' h''):Stp hB g h g' h'':=
 ⟨a.le0,⟨a.ht.le.trans b,a.ht.fr,fun i ct hi=>by obtain⟨c,h1,h2⟩:=a.ht.ok i ct hi; exact⟨c,b.get _ _ h1,h2⟩⟩,a.sub,zbo a.next b.next,
  fun i c h1 h2=>⟨b.get _ _ (a.keep i c h1 h2).1,(a.keep i c h1 h2).2⟩,a.new⟩
def SlW(h:AH)(i m esz:Nat)(E:List AV→Prop):Prop:= ∃ cs,(Own h i cs∨ ∃ k,Grow h i k cs)∧qkt E esz m cs
def TOk(hB:AH)(g:Sig)(h:AH)(i:Nat):Prop:= ∃ ct c,g i=some ct∧h.get i=some c∧okC hB g ct c
theorem TOk.own{i:Nat}{ts:List TT}{cs:List AV}(a:Own h i cs)(hg:g i=some (.cells ts))(hk:okTL hB g ts cs):TOk hB g h i:=⟨_,_,hg,a,cs,rfl,hk⟩
theorem TOk.slo{i m esz:Nat}{e:List TT}{E:List AV→Prop}(a:SlO h i m esz E)(hg:g i=some (.arr e m))(hz:e.length=esz)(hE:∀ l,E l→okTL hB g e l):TOk hB g h i:=by
 obtain⟨cs,h1,h2,h3⟩:=a;subst hz;exact⟨_,_,hg,h1,cs,.inl rfl,qkt.imp ⟨h2,h3⟩ hE⟩
theorem Stp.turn{M:List Nat}(a:Stp hB g h g' h')(b:LeM M h' h'')(hM:∀ i∈M,(g' i=none∧h.get i=none)∨TOk hB g' h'' i):Stp hB g h g' h'':=by
 refine⟨a.le0,⟨⟨zbo a.ht.le.next b.next,fun i c hi=>?_⟩,a.ht.fr,fun i ct hi=>?_⟩,a.sub,zbo a.next b.next,fun i c h1 h2=>?_,a.new⟩
 · refine b.get i c (fun hm=>?_) (a.ht.le.get i c hi)
   rcases hM i hm with⟨_,q⟩ | ⟨ct,_,q,_⟩
   · rw[a.le0.get i c hi]at q; cases q
   · rw[a.ht.base hi]at q; cases q
 · by_cases hm:i∈M
   · rcases hM i hm with⟨q,_⟩ | ⟨ct',c,q,q2,q3⟩
     · rw[hi]at q; cases q
     · rw[hi]at q; cases q; exact⟨c,q2,q3⟩
   · obtain⟨c,h1,h2⟩:=a.ht.ok i ct hi; exact⟨c,b.get _ _ hm h1,h2⟩
 · obtain⟨k1,k2⟩:=a.keep i c h1 h2
   refine⟨b.get i c (fun hm=>?_) k1,k2⟩
   rcases hM i hm with⟨_,q⟩ | ⟨ct,_,q,_⟩
   · rw[h2]at q; cases q
   · rw[k2]at q; cases q
theorem HT.cells(a:HT hB g h){i:Nat}{ts:List TT}(hi:g i=some (.cells ts)):∃ cs,Own h i cs∧okTL hB g ts cs:=by
 obtain⟨c,h1,cs,rfl,h2⟩:=a.ok i _ hi; exact⟨cs,h1,h2⟩
theorem HT.arr(a:HT hB g h){i m:Nat}{e:List TT}(hi:g i=some (.arr e m)):SlW h i m e.length (okTL hB g e):=by
 obtain⟨c,h1,cs,rfl | ⟨k,rfl⟩,h2⟩:=a.ok i _ hi
 · exact⟨cs,.inl h1,h2⟩
 · exact⟨cs,.inr ⟨k,h1⟩,h2⟩
theorem qth{E:List AV→Prop}{h:AH}{i esz m k n:Nat}{cs:List AV}(hc:h.cells i=some cs)(he:qkt E esz m cs)(hk:k+n≤m):SlV h (some (i,k * esz)) n esz E:=fun _=>by
 refine⟨i,k * esz,cs,rfl,hc,by rw[he.1,←zc7]; exact zc2 _ hk,fun j j0 j1=>?_⟩
 obtain⟨l,h1,h2,h3⟩:=he.2 (k+j) (by omega) (by omega)
 refine⟨l,h1,h2,?_⟩;rw[show((k:Int)+j).toNat=k+j.toNat by omega,zc7]at h3
 exact h3
theorem SlW.cells{i m esz:Nat}{E:List AV→Prop}(a:SlW h i m esz E):∃ cs,h.cells i=some cs∧qkt E esz m cs:=by
 obtain⟨cs,h1 | ⟨k,h1⟩,h2⟩:=a
 · exact⟨cs,h1.cells,h2⟩
 · exact⟨cs,h1.cells,h2⟩
theorem SlW.le{i m esz:Nat}{E:List AV→Prop}(a:SlW h i m esz E)(l:Le h h'):SlW h' i m esz E:=by
 obtain⟨cs,h1 | ⟨k,h1⟩,h2⟩:=a
 · exact⟨cs,.inl (h1.le l),h2⟩
 · exact⟨cs,.inr ⟨k,h1.le l⟩,h2⟩
theorem SlW.but{i j m esz:Nat}{E:List AV→Prop}(a:SlW h i m esz E)(l:But h j h')(hne:i≠j):SlW h' i m esz E:=by
 obtain⟨cs,h1 | ⟨k,h1⟩,h2⟩:=a
 · exact⟨cs,.inl (h1.but l hne),h2⟩
 · exact⟨cs,.inr ⟨k,h1.but l hne⟩,h2⟩
theorem SlW.ne{i j m esz:Nat}{E:List AV→Prop}(a:SlW h i m esz E)(hn:h.get j=none):i≠j:=by
 obtain⟨cs,h1,_⟩:=a.cells; exact qoq hn h1
theorem SlW.imp{i m esz:Nat}{E E':List AV→Prop}(a:SlW h i m esz E)(hE:∀ l,E l→E' l):SlW h i m esz E':=by
 obtain⟨cs,h1,h2⟩:=a; exact⟨cs,h1,h2.imp hE⟩
theorem HT.sl(a:HT hB g h){e:List TT}{p:Option (Nat×Nat)}{n:Nat}(k:LsK g e p n):SlV h p n e.length (okTL hB g e):=by
 rcases k with⟨rfl,rfl⟩ | ⟨i,k,m,rfl,h2,h3⟩
 · exact SlV.zero
 · obtain⟨cs,h4,h5⟩:=(a.arr h2).cells
   exact qth h4 h5 h3
def Frs(hB h:AH)(v:AV)(n esz:Nat)(E:List AV→Prop):Prop:=
 ∃ p c,v= .slice p n c∧SlV h p n esz E∧(n=0∨ ∃ i off,p=some (i,off)∧NewN hB i∧ ∃ cs:List AV,off+n * esz≤cs.length∧(Own h i cs∨ ∃ k,Grow h i k cs))
theorem Frs.le{v:AV}{n esz:Nat}{E:List AV→Prop}(a:Frs hB h v n esz E)(l:Le h h'):Frs hB h' v n esz E:=by
 obtain⟨p,c,h1,h2,h3⟩:=a;refine⟨p,c,h1,h2.le l,?_⟩;rcases h3 with h3 | ⟨i,off,k1,k2,cs,k3,k4 | ⟨k,k4⟩⟩
 · exact .inl h3
 · exact .inr ⟨i,off,k1,k2,cs,k3,.inl (l.get _ _ k4)⟩
 · exact .inr ⟨i,off,k1,k2,cs,k3,.inr ⟨k,l.get _ _ k4⟩⟩
theorem Frs.base{hA:AH}{v:AV}{n esz:Nat}{E:List AV→Prop}(a:Frs hB h v n esz E)(l:Le hA hB):Frs hA h v n esz E:=by
 obtain⟨p,c,h1,h2,h3⟩:=a;refine⟨p,c,h1,h2,?_⟩;rcases h3 with h3 | ⟨i,off,k1,k2,k3⟩
 · exact .inl h3
 · exact .inr ⟨i,off,k1,l.newN k2,k3⟩
theorem Frs.imp{v:AV}{n esz:Nat}{E E':List AV→Prop}(a:Frs hB h v n esz E)(hE:∀ l,l.length=esz→E l→E' l):Frs hB h v n esz E':=by
 obtain⟨p,c,h1,h2,h3⟩:=a; exact⟨p,c,h1,h2.imp hE,h3⟩
theorem Frs.nil{esz:Nat}{E:List AV→Prop}:Frs hB h (.slice none 0 (.exact 0)) 0 esz E:=⟨_,_,rfl,SlV.zero,.inl rfl⟩
theorem Stp.own(a:Stp hB g h g' h'){i:Nat}{cs:List AV}(o:Own h i cs)(hn:g i=none):Own h' i cs:=(a.keep i _ hn o).1
theorem Stp.un(a:Stp hB g h g' h'){i:Nat}{c:Chunk}(o:h.get i=some c)(hn:g i=none):g' i=none:=(a.keep i _ hn o).2
end
theorem Stp.slo{hB h h':AH}{g g':Sig}(a:Stp hB g h g' h'){i m esz:Nat}{E:List AV→Prop}(o:SlO h i m esz E)(hn:g i=none):SlO h' i m esz E:=by
 obtain⟨cs,h1,h2⟩:=o; exact⟨cs,a.own h1 hn,h2⟩
theorem SlO.get{h:AH}{i m esz:Nat}{E:List AV→Prop}(o:SlO h i m esz E):∃ c,h.get i=some c:=by
 obtain⟨cs,h1,_⟩:=o; exact⟨_,h1⟩
theorem SlO.q{h:AH}{i m esz n:Nat}{E:List AV→Prop}(o:SlO h i m esz E):n=0→(some (i,0):Option (Nat×Nat))=none∨ ∃ id off cs,(some (i,0):Option (Nat×Nat))=some (id,off)∧h.cells id=some cs∧off≤cs.length:=fun _=>by
 obtain⟨cs,h1,_⟩:=o;exact .inr ⟨i,0,cs,rfl,h1.cells,zbl _⟩
theorem SlW.q{h:AH}{i m esz n:Nat}{E:List AV→Prop}(o:SlW h i m esz E):n=0→(some (i,0):Option (Nat×Nat))=none∨ ∃ id off cs,(some (i,0):Option (Nat×Nat))=some (id,off)∧h.cells id=some cs∧off≤cs.length:=fun _=>by
 obtain⟨cs,h1,_⟩:=o.cells;exact .inr ⟨i,0,cs,rfl,h1,zbl _⟩
theorem LsK.pos{g:Sig}{e:List TT}{p:Option (Nat×Nat)}{n:Nat}(a:LsK g e p n)(hn:0<n):∃ i k m,p=some (i,k * e.length)∧g i=some (.arr e m)∧k+n≤m:=by
 rcases a with⟨_,h⟩ | h
 · omega
 · exact h
theorem Stp.drop{hB h h':AH}{g g':Sig}(a:Stp hB g h g' h'){l:Nat}{Φ:Chunk→Prop}(hl:g' l=some (.raw Φ))(hgl:g l=none)(hn:h.get l=none):
 ∃ g2,Stp hB g h g2 (h'.drop l)∧SigA g' g2∧ ∀ j,j≠l→g2 j=g' j:=by
 have sA:SigA g' (fun j=>if j=l then none else g' j):=fun i e m=>by
  by_cases q:i=l
  · subst q; intro h1; rw[hl]at h1; cases h1
  · simp[q]
 have dg:∀ i,i≠l→(h'.drop l).get i=h'.get i:=fun i hi=>by simp[AH.drop,hi]
 refine⟨fun j=>if j=l then none else g' j,⟨a.le0,⟨⟨a.ht.le.next,fun i c hi=>?_⟩,fun i hi=>?_,fun i ct hi=>?_⟩,fun i ct hi=>?_,a.next,fun i c h1 h2=>?_,fun i h1 h2=>?_⟩,sA,fun j hj=>by simp[hj]⟩
 · have q:i≠l:=fun q=>by subst q; rw[a.le0.get i c hi]at hn; cases hn
   rw[dg i q]; exact a.ht.le.get i c hi
 · by_cases q:i=l
   · simp[q]at hi
   · simp only[q,if_false]at hi; exact a.ht.fr i hi
 · by_cases q:i=l
   · simp[q]at hi
   · simp only[q,if_false]at hi
     obtain⟨c,h1,h2⟩:=a.ht.ok i ct hi;exact⟨c,by rw[dg i q]; exact h1,h2.monoA sA⟩
 · have q:i≠l:=fun q=>by subst q; rw[hgl]at hi; cases hi
   simp only[q,if_false]; exact a.sub i ct hi
 · have q:i≠l:=fun q=>by subst q; rw[hn]at h2; cases h2
   obtain⟨k1,k2⟩:=a.keep i c h1 h2;exact⟨by rw[dg i q]; exact k1,by simp[q,k2]⟩
 · by_cases q:i=l
   · simp[q]at h2
   · simp only[q,if_false]at h2; exact a.new i h1 h2
def q63(h h1 h2:AH):Prop:= ∀ i c,h.get i≠none→h1.get i=some c→h2.get i=some c
theorem q63.refl(h h1:AH):q63 h h1 h1:=fun _ _ _ h=>h
theorem q63.le{h h1 h2 h3:AH}(a:q63 h h1 h2)(b:Le h2 h3):q63 h h1 h3:=fun i c h0 hc=>b.get i c (a i c h0 hc)
theorem q63.but{h h1 h2 h3:AH}{j:Nat}(a:q63 h h1 h2)(b:But h2 j h3)(hj:h.get j=none):q63 h h1 h3:=fun i c h0 hc=>b.get i c (fun e=>by subst e; exact h0 hj) (a i c h0 hc)
def RY(l:Nat)(mk:LoopState→Option Code→Chunk)(C:Code→Prop):Bool→AH→Prop
 | true,h=>h.get l=some (mk .ready none)
 | false,h=> ∃ c,C c∧h.get l=some (mk .done (some c))
theorem RY.keep{l:Nat}{mk:LoopState→Option Code→Chunk}{C:Code→Prop}{h0:AH}(hl:h0.get l≠none):∀ b h1 h2,RY l mk C b h1→q63 h0 h1 h2→RY l mk C b h2
 | true,_,_,a,k=>k _ _ hl a
 | false,_,_,⟨c,hc,a⟩,k=>⟨c,hc,k _ _ hl a⟩
theorem AH.SetTo.get{h h':AH}{i:Nat}{c:Chunk}(a:h.SetTo i c h'):h'.get i=some c:=a.new
theorem TOk.raw{hB h:AH}{g:Sig}{i:Nat}{c:Chunk}{Φ:Chunk→Prop}(hc:h.get i=some c)(hg:g i=some (.raw Φ))(hp:Φ c):TOk hB g h i:=⟨_,_,hg,hc,hp⟩
def upd(hw:Nat→AH)(T:Nat→List Nat)(S:Nat→Bool)(h0:AH):Nat→Nat→Option Chunk
 | 0,i=>h0.get i
 | k+1,i=>if S k=true∧i∈T k then(hw k).get i else upd hw T S h0 k i
theorem q4e{hw:Nat→AH}{T:Nat→List Nat}{S:Nat→Bool}{h0:AH}{i:Nat}:∀ k,(∃ j,j<k∧S j=true∧i∈T j∧(∀ j',j<j'→j'<k→S j'=true→i∉T j')∧upd hw T S h0 k i=(hw j).get i)∨((∀ j,j<k→S j=true→i∉T j)∧upd hw T S h0 k i=h0.get i)
 | 0=> .inr ⟨fun j hj=>by omega,rfl⟩
 | k+1=>by
   simp only[upd];split
   · rename_i h
     exact .inl ⟨k,by omega,h.1,h.2,fun j' h1 h2=>by omega,rfl⟩
   · rename_i h
     rcases q4e k with⟨j,h1,h2,h3,h4,h5⟩ | ⟨h1,h2⟩
     · refine .inl ⟨j,by omega,h2,h3,fun j' a b c d=>?_,h5⟩
       by_cases e:j'=k
       · subst e; exact h ⟨c,d⟩
       · exact h4 j' a (by omega) c d
     · refine .inr ⟨fun j a b c=>?_,h2⟩
       by_cases e:j=k
       · subst e; exact h ⟨b,c⟩
       · exact h1 j (by omega) b c
theorem q7r{hw:Nat→AH}{T:Nat→List Nat}{S S':Nat→Bool}{h0:AH}{i:Nat}:∀ k,(∀ j,j<k→i∈T j→S j=S' j)→upd hw T S h0 k i=upd hw T S' h0 k i
 | 0,_=>rfl
 | k+1,h=>by
   have ih:=q7r (hw:=hw) (T:=T) (S:=S) (S':=S') (h0:=h0) (i:=i) k fun j hj=>h j (by omega)
   simp only[upd,ih]
   by_cases hi:i∈T k
   · simp only[h k (by omega) hi]
   · simp[hi]
def notR(hv hw:Nat→AH)(j:Nat)(nm:Nat):Bool:= !(Nat.ble (hv j).next nm&&Nat.blt nm (hw j).next)
theorem qjq{hv hw:Nat→AH}{j nm:Nat}(h:nm<(hv j).next):notR hv hw j nm=true:=by
 unfold notR
 have:Nat.ble (hv j).next nm=false:=by
  cases hb:Nat.ble (hv j).next nm with
  | false=>rfl
  | true=>have:=zbj hb; omega
 rw[this]; rfl
theorem qdm{hv hw:Nat→AH}{j nm:Nat}:notR hv hw j nm=true↔ ¬((hv j).next≤nm∧nm<(hw j).next):=by
 unfold notR;rw[Bool.not_eq_true',Bool.and_eq_false_iff];constructor
 · rintro(h | h) ⟨h1,h2⟩
   · have:=Nat.ble_eq_true_of_le h1; rw[h]at this; cases this
   · have:Nat.blt nm (hw j).next=true:=by rw[Nat.blt_eq]; exact h2
     rw[h]at this; cases this
 · intro h
   by_cases h1:(hv j).next≤nm
   · right
     cases hb:Nat.blt nm (hw j).next with
     | false=>rfl
     | true=>exact absurd ⟨h1,by rw[Nat.blt_eq]at hb; exact hb⟩ h
   · left
     cases hb:Nat.ble (hv j).next nm with
     | false=>rfl
     | true=>exact absurd (zbj hb) h1
section
variable{rk:Nat→Nat}{P:Program}{r:Option Nat}{ops:Array Oper}{sl0:List (Nat×AV)}{vals:List AV}{srcs:List Src}{fin:Src}{h0 hF:AH}{hv hw:Nat→AH}{T:Nat→List Nat}{evs:Nat→List AH}{n:Nat}{ds:List ADef}
structure XOk(rk:Nat→Nat)(P:Program)(r:Option Nat)(ops:Array Oper)(sl0:List (Nat×AV))(vals:List AV)(srcs:List Src)(fin:Src)(h0 hF:AH)(hv hw:Nat→AH)(T:Nat→List Nat)(evs:Nat→List AH)(n:Nat)(ds:List ADef):Prop where
 plan:PlanOk ops [] srcs fin
 op:∀ j o,ops[j]?=some o→ ∃ v,vals[j]?=some v∧OpDo P r ops o ⟨q0d sl0 vals (srcs.getD j []),hv j,n,ds⟩ (hw j) v
 inj:∀ j k,j<ops.size→k<ops.size→rk j=rk k→j=k
 rlt:∀ j k,j<ops.size→k∈(befs ops).getD j []→rk k<rk j
 lt:∀ j k,j<ops.size→k∈(befs ops).getD j []→k<j
 nx0:∀ j,j<ops.size→h0.next≤(hv j).next
 nx:∀ j k,j<ops.size→k<ops.size→rk k<rk j→(hw k).next≤(hv j).next
 nxF:h0.next≤hF.next∧ ∀ j,j<ops.size→(hw j).next≤hF.next
 touch:∀ j i,j<ops.size→i∉T j→(hw j).get i=(hv j).get i
 hvFrom:∀ j i c,j<ops.size→(hv j).get i=some c→(∃ k,k<ops.size∧rk k<rk j∧i∈T k∧(hw k).get i=some c)∨h0.get i=some c
 evOp:∀ j o v x,ops[j]?=some o→vals[j]?=some v→x∈evs j→OpDo P r ops o ⟨q0d sl0 vals (srcs.getD j []),x,n,ds⟩ x v∧T j=[]∧(hw j).next≤(hv j).next∧x.next=hF.next
 evFrom:∀ j x i c,j<ops.size→x∈evs j→x.get i=some c→(∃ k,k<ops.size∧i∈T k∧(hw k).get i=some c)∨h0.get i=some c
 view:∀ j (S:Nat→Bool),j<ops.size→(∀ k∈(befs ops).getD j [],S k=true)→S j=false→(∀ a b,a<ops.size→S a=true→b∈(befs ops).getD a []→S b=true)→
  (∀ i c,(hv j).get i=some c→upd hw T S h0 ops.size i=some c)∨ ∃ x∈evs j,∀ i c,x.get i=some c→upd hw T S h0 ops.size i=some c
 same:∀ j k i,j<k→k<ops.size→i∈T j→i∈T k→j∈(befs ops).getD k []
 avoid:∀ j k,j<ops.size→rk j<rk k→k<ops.size→j∉(befs ops).getD k []→(∀ v,vals[k]?=some v→v.nm (notR hv hw j)=true)∧ ∀ i,i∈T k→notR hv hw j i=true∧ ∀ c,(hw k).get i=some c→c.nm (notR hv hw j)=true
 skipT:∀ j o,ops[j]?=some o→q1d ops o (q0d sl0 vals (srcs.getD j []))=some false→T j=[]
 fin_:∀ i,hF.get i=upd hw T (fun _=>true) h0 ops.size i
def lst(listed:Array Bool)(k:Nat):Bool:=listed.getD k false
structure InvX(ops:Array Oper)(sl0:List (Nat×AV))(vals:List AV)(h0:AH)(hv hw:Nat→AH)(T:Nat→List Nat)(n:Nat)(ds:List ADef)(ρ0:Ren)(w0:World)(listed:Array Bool)(sl:List (Nat×AV))(ρ:Ren)(a:Act)(w:World):Prop where
 size:listed.size=ops.size
 down:qsm ops listed
 done:∀ i t v,isL listed i→q2x ops i t=true→vals[i]?=some v→lk sl t=some v
 rest:∀ t v,lk sl0 t=some v→(∀ i,q2x ops i t=true→ ¬ isL listed i)→lk sl t=some v
 slots:q2e ρ sl n a.tmps
 avoidS:∀ j,j<ops.size→ ¬ isL listed j→ ∀ k v,lk sl k=some v→v.nm (notR hv hw j)=true
 defs:a.defers=ds.map (q6t ρ)
 heap:HRel ρ ⟨0,upd hw T (lst listed) h0 ops.size⟩ w
 fr:(w.os=w0.os∧w.tape=w0.tape∧w.output=w0.output)∧w0.heap.size≤w.heap.size∧
  (∀ B,B<w0.heap.size→(∀ id c,h0.get id=some c→c.isRo=false→ρ0.blk id≠B)→w.heap[B]?=w0.heap[B]?)∧
  (∀ id c,upd hw T (lst listed) h0 ops.size id=some c→w0.heap.size≤ρ.blk id∨ ∃ id0 c0,h0.get id0=some c0∧(c.isRo=false→c0.isRo=false)∧ρ0.blk id0=ρ.blk id)∧
  ρ0.ext ρ h0.next
theorem ql6{listed:Array Bool}(hd:qsm ops listed){k b:Nat}(hk:k<ops.size)(hl:isL listed k)(hb:b∈(befs ops).getD k []):isL listed b:=
 q6z hd (Array.getElem?_eq_getElem hk) (hd k _ (Array.getElem?_eq_getElem hk) hl) b hb
theorem XOk.wf(hx:XOk rk P r ops sl0 vals srcs fin h0 hF hv hw T evs n ds)(h0wf:h0.wf)(hsl:∀ k v,lk sl0 k=some v→v.sup≤h0.next)(hds:supD ds≤h0.next)(hr:rsup r≤h0.next):
 ∀ m j,rk j<m→j<ops.size→(hv j).wf∧(hw j).wf∧(hv j).next≤(hw j).next∧ ∀ v t,vals[j]?=some v→q2x ops j t=true→v.sup≤(hw j).next:=by
 intro m
 induction m with
 | zero=>intro j hj; omega
 | succ m ih=>
   intro j hjm hj
   by_cases e:rk j<m
   · exact ih j e hj
   have ej:rk j=m:=by omega
   subst ej
   have hvwf:(hv j).wf:=by
    intro i c hc;rcases hx.hvFrom j i c hj hc with⟨k,hk,hlt,_,h1⟩ | h1
    · obtain⟨_,b2,_,_⟩:=ih k hlt hk
      have:=hx.nx j k hj hk hlt;have:=b2 i c h1;omega
    · have:=h0wf i c h1
      have:=hx.nx0 j hj;omega
   obtain⟨v,hv1,hdo⟩:=hx.op j ops[j] (Array.getElem?_eq_getElem hj)
   have hslots:∀ t u,lk (q0d sl0 vals (srcs.getD j [])) t=some u→u.sup≤(hv j).next:=by
    intro t u hu
    have gen:∀ src:Src,(∀ s∈src,qbz ops (befs ops) j s=true)→ ∀ t u,lk (q0d sl0 vals src) t=some u→u.sup≤(hv j).next:=by
     intro src
     induction src with
     | nil=>intro _ t u hu; simp[q0d,lk]at hu
     | cons s src ihs=>
       intro hs t u hu;obtain⟨t0,oi⟩:=s;have ihs':=ihs fun s h=>hs s (zbh _ h)
       cases oi with
       | none=>
         simp only[q0d]at hu;cases hl:lk sl0 t0 with
         | none=>rw[hl]at hu; exact ihs' t u hu
         | some u0=>
           rw[hl]at hu;simp only[lk]at hu;split at hu
           · simp at hu; subst hu; have:=hsl t0 _ hl; have:=hx.nx0 j hj; omega
           · exact ihs' t u hu
       | some i=>
         simp only[q0d]at hu;cases hl:vals[i]? with
         | none=>rw[hl]at hu; exact ihs' t u hu
         | some u0=>
           rw[hl]at hu;simp only[lk]at hu;split at hu
           · simp at hu; subst hu
             have h1:=hs (t0,some i) zbq;simp only[qbz,zbf]at h1;have hlt:=hx.lt j i hj (by simpa using h1.1)
             have hrl:=hx.rlt j i hj (by simpa using h1.1)
             have:=(ih i hrl (by omega)).2.2.2 _ t0 hl h1.2
             have:=hx.nx j i hj (by omega) hrl
             omega
           · exact ihs' t u hu
    exact gen _ (hx.plan.src j hj) t u hu
   have hnx0:=hx.nx0 j hj;have hwfN:St.wf ⟨q0d sl0 vals (srcs.getD j []),hv j,n,ds⟩:=⟨hslots,hvwf,zbo hds hnx0⟩;rcases hdo with⟨_,hjo⟩ | ⟨_,hh,rfl,_⟩
   · obtain⟨e,s',w1,_,w3,⟨rfl,e2,e3,e5,e4⟩,_⟩:=hjo hwfN (zbo hr hnx0)
     rw[←e2];refine⟨hvwf,w1.2.1,w3,fun u t hu ht=>?_⟩
     rw[hv1]at hu; cases hu;obtain⟨o',ho',hd'⟩:=q0x.1 ht;rw[Array.getElem?_eq_getElem hj]at ho'; cases ho';exact w1.1 t v (e4 t hd').2
   · rw[hh]
     exact⟨hvwf,hvwf,zbi _,fun u t hu _=>by rw[hv1]at hu; cases hu; exact zbl _⟩
theorem XOk.avoidAll(hx:XOk rk P r ops sl0 vals srcs fin h0 hF hv hw T evs n ds)(h0wf:h0.wf)(hsl:∀ k v,lk sl0 k=some v→v.sup≤h0.next)(hds:supD ds≤h0.next)(hr:rsup r≤h0.next){j k:Nat}(hj:j<ops.size)(hk:k<ops.size)(hne:j≠k)
 (hb:j∉(befs ops).getD k []):(∀ v t,vals[k]?=some v→q2x ops k t=true→v.nm (notR hv hw j)=true)∧ ∀ i,i∈T k→ ∀ c,(hw k).get i=some c→notR hv hw j i=true∧c.nm (notR hv hw j)=true:=by
 rcases Nat.lt_or_gt_of_ne (fun e=>hne (hx.inj j k hj hk e))with hlt | hgt
 · obtain⟨a,b⟩:=hx.avoid j k hj hlt hk hb
   exact⟨fun v t hv _=>a v hv,fun i hi c hc=>⟨(b i hi).1,(b i hi).2 c hc⟩⟩
 · obtain⟨_,b2,_,b4⟩:=hx.wf h0wf hsl hds hr (rk k+1) k (zc0 _) hk
   have hnx:=hx.nx j k hj hk hgt;have hp:∀ m,m<(hw k).next→notR hv hw j m=true:=fun m hm=>qjq (by omega)
   exact⟨fun v t hv ht=>nm_sup hp v (b4 v t hv ht),fun i _ c hc=>⟨hp i (b2 i c hc).1,Chunk.za7 hp (b2 i c hc).2⟩⟩
theorem qfb{listed:Array Bool}{j k:Nat}(hj:j<listed.size):lst (listed.setIfInBounds j true) k=true↔k=j∨lst listed k=true:=q46 hj
theorem qh6(hx:XOk rk P r ops sl0 vals srcs fin h0 hF hv hw T evs n ds)(h0wf:h0.wf)(hsl:∀ k v,lk sl0 k=some v→v.sup≤h0.next)(hds:supD ds≤h0.next)(hr:rsup r≤h0.next)
 {ρ0 ρ:Ren}{w0 w:World}{a:Act}{listed:Array Bool}{sl:List (Nat×AV)}(hi:InvX ops sl0 vals h0 hv hw T n ds ρ0 w0 listed sl ρ a w){j:Nat}(hj:j∈Region.ready .any ops listed)(nn:Nat)(K:Act→World→Prop)(Q:Exit→Act→World→Prop)
 (hvj hwj:AH)(hview:∀ i c,hvj.get i=some c→upd hw T (lst listed) h0 ops.size i=some c)(hvwf:hvj.wf)(hjv:(hv j).next≤hvj.next){v:AV}(hvj1:vals[j]?=some v){o:Oper}(ho:ops[j]?=some o)
 (hdo:OpDo P r ops o ⟨q0d sl0 vals (srcs.getD j []),hvj,n,ds⟩ hwj v)(htouch:∀ i,i∉T j→hwj.get i=hvj.get i)(hR:∀ i,i<hwj.next→notR hv hw j i=true→i<hvj.next)(hR2:∀ i,hwj.next≤i→notR hv hw j i=true)
 (hT:∀ i,i∈T j→(hw j).get i=hwj.get i)
 (hK:∀ sl' ρ' a' w',InvX ops sl0 vals h0 hv hw T n ds ρ0 w0 (listed.setIfInBounds j true) sl' ρ' a' w'→K a' w'):wpOpIn (fen ρ0 r) nn P ops Q j K a w:=by
 obtain⟨hun,o',ho',hafter⟩:=mem_ready.1 hj;rw[ho]at ho'; cases ho';have hjlt:j<ops.size:=(zch.1 ho).1;have hjl:j<listed.size:=by rw[hi.size]; exact hjlt
 have hnl:¬ isL listed j:=by
  unfold isL;rw[zc9,Array.getElem?_eq_getElem hjl]at hun ⊢;simp at hun ⊢; exact hun
 have hbef:=q6z hi.down ho (fun e he hb=>hafter e he hb)
 have hbefL:∀ i,i<ops.size→isL listed i→ ∀ b∈(befs ops).getD i [],isL listed b:=fun i hil hl=>fun b hb=>ql6 hi.down hil hl hb
 have hnbf:∀ k,k<ops.size→isL listed k→j∉(befs ops).getD k []:=fun k hk hl hb=>hnl (hbefL k hk hl j hb)
 have hsub:SubL (q0d sl0 vals (srcs.getD j [])) sl:=by
  refine q5o (fun t i u hm hu=>?_) (fun t u hm hu=>?_)
  · have:=hx.plan.src j hjlt _ hm
    simp only[qbz,zbf]at this;exact hi.done i t u (hbef i (by simpa using this.1)) this.2 hu
  · have:=hx.plan.src j hjlt _ hm
    simp only[qbz]at this;refine hi.rest t u hu fun i hdi hl=>?_
    have hil:i<ops.size:=by obtain⟨oi,hoi,_⟩:=q0x.1 hdi; exact(zch.1 hoi).1
    have h2:=zc1.1 this i (by simpa using hil)
    simp only[hdi,Bool.not_true,Bool.false_or,zbu]at h2;rcases h2 with h2 | h2
    · exact hnl (zbg h2▸hl)
    · exact hnl (hbefL i hil hl j (by simpa using h2))
 have hrelN:Rel ρ ⟨q0d sl0 vals (srcs.getD j []),hvj,n,ds⟩ a w:=
  ⟨⟨hi.slots.1,fun t u hk=>hi.slots.2 t u (hsub.lk hk)⟩,hi.defs,⟨fun i c hc=>hi.heap.1 i c (hview i c hc),fun i k ci ck hne hci hck hro=>hi.heap.2 i k ci ck hne (hview i ci hci) (hview k ck hck) hro⟩⟩
 have hwantG:∀ b,q1d ops o (q0d sl0 vals (srcs.getD j []))=some b→Region.wanted o (yielded ops a.tmps)=b:=by
  intro b hb;have hrl:=hrelN;revert hb hrl;generalize q0d sl0 vals (srcs.getD j [])=need;intro hb hrl;unfold q1d at hb;unfold Region.wanted;cases hg:o.guard with
  | none=>simp[hg]at hb; subst hb; rfl
  | some g=>
    obtain⟨g,want⟩:=g;simp only[hg]at hb ⊢;cases hd:(ops[g]?).bind (·.dst)with
    | none=>simp[hd]at hb
    | some d=>
      simp only[hd]at hb;cases hl:lk need d with
      | none=>simp[hl]at hb
      | some x=>
        cases x with
        | bool bb=>
          simp[hl]at hb;have h1:=hrl.1.2 d _ hl;subst hb;have h2:yielded ops a.tmps g=some bb:=by simp[yielded,hd,h1,conc]
          rw[h2];cases bb<;>cases want<;>rfl
        | tuple l=>
          simp[hl]at hb;have h1:=hrl.1.2 d _ hl;subst hb;have h2:yielded ops a.tmps g=none:=by simp[yielded,hd,h1,conc]
          rw[h2];cases want<;>rfl
        | _=>simp[hl]at hb
 let sl':List (Nat×AV):=match o.dst with | some d=>(d,v) :: sl | none=>sl
 have hdj:∀ t,q2x ops j t=true↔o.dst=some t:=fun t=>by
  rw[q0x]; exact⟨fun⟨o',h1,h2⟩=>by rw[ho]at h1; cases h1; exact h2,fun h=>⟨o,ho,h⟩⟩
 have hdown':qsm ops (listed.setIfInBounds j true):=by
  intro i oi hoi hl e he hb;rw[q46 hjl]at hl ⊢;rcases hl with rfl | hl
  · rw[ho]at hoi; cases hoi; exact .inr (hafter e he hb)
  · exact .inr (hi.down i oi hoi hl e he hb)
 have hdone':∀ i t u,isL (listed.setIfInBounds j true) i→q2x ops i t=true→vals[i]?=some u→lk sl' t=some u:=by
  intro i t u hl hd hu;rw[q46 hjl]at hl;rcases hl with rfl | hl
  · have h1:=(hdj t).1 hd
    simp only[sl',h1,lk,zca,if_true];rw[hvj1]at hu; exact hu
  · have hne:i≠j:=fun e=>hnl (e▸hl)
    have h1:=hi.done i t u hl hd hu;simp only[sl'];cases hod:o.dst with
    | none=>exact h1
    | some d=>
      have h2:d≠t:=fun e=>by
       have:=hx.plan.uniq i j t hne hd;rw[(hdj t).2 (by rw[hod,e])]at this; simp at this
      have h3:Nat.beq d t=false:=by
       cases hb:Nat.beq d t with
       | false=>rfl
       | true=>exact absurd (zbg hb) h2
      simp only[lk,h3,zbn,if_false]; exact h1
 have hrest':∀ t u,lk sl0 t=some u→(∀ i,q2x ops i t=true→ ¬ isL (listed.setIfInBounds j true) i)→lk sl' t=some u:=by
  intro t u hu hno;have h1:=hi.rest t u hu (fun i hd hl=>hno i hd ((q46 hjl).2 (.inr hl)))
  simp only[sl'];cases hod:o.dst with
  | none=>exact h1
  | some d=>
    have h2:d≠t:=fun e=>hno j ((hdj t).2 (by rw[hod,e])) ((q46 hjl).2 (.inl rfl))
    have h3:Nat.beq d t=false:=by
     cases hb:Nat.beq d t with
     | false=>rfl
     | true=>exact absurd (zbg hb) h2
    simp only[lk,h3,zbn,if_false]; exact h1
 have havoid':∀ k,k<ops.size→ ¬ isL (listed.setIfInBounds j true) k→ ∀ t u,lk sl' t=some u→u.nm (notR hv hw k)=true:=by
  intro k hk hnk t u hu;have hkj:k≠j:=fun e=>hnk ((q46 hjl).2 (.inl e))
  have hnk0:¬ isL listed k:=fun h=>hnk ((q46 hjl).2 (.inr h))
  have hkbf:k∉(befs ops).getD j []:=fun h=>hnk0 (hbef k h)
  simp only[sl']at hu;cases hod:o.dst with
  | none=>rw[hod]at hu; exact hi.avoidS k hk hnk0 t u hu
  | some d=>
    rw[hod]at hu;simp only[lk]at hu;split at hu
    · simp at hu; subst hu; exact(hx.avoidAll h0wf hsl hds hr hk hjlt hkj hkbf).1 _ d hvj1 ((hdj d).2 hod)
    · exact hi.avoidS k hk hnk0 t u hu
 have hupd:∀ i,upd hw T (lst (listed.setIfInBounds j true)) h0 ops.size i=if i∈T j then hwj.get i else upd hw T (lst listed) h0 ops.size i:=by
  intro i
  by_cases hij:i∈T j
  · rw[if_pos hij]
    rcases q4e (hw:=hw) (T:=T) (S:=lst (listed.setIfInBounds j true)) (h0:=h0) (i:=i) ops.size with⟨k,k1,k2,k3,k4,k5⟩ | ⟨k1,_⟩
    · rw[k5]
      by_cases e:k=j
      · rw[e]; exact hT i hij
      · exfalso
        rcases Nat.lt_or_gt_of_ne e with hlt | hgt
        · exact k4 j hlt hjlt ((qfb hjl).2 (.inl rfl)) hij
        · have hb:=hx.same j k i hgt k1 hij k3
          rcases(qfb hjl).1 k2 with h | h
          · exact e h
          · exact hnbf k k1 h hb
    · exact absurd hij (k1 j hjlt ((qfb hjl).2 (.inl rfl)))
  · rw[if_neg hij]
    refine q7r ops.size fun k hk hik=>?_
    have hkj:k≠j:=fun e=>hij (e▸hik)
    cases h1:lst listed k with
    | true=>exact(qfb hjl).2 (.inr h1)
    | false=>
      cases h2:lst (listed.setIfInBounds j true) k with
      | false=>rfl
      | true=>rcases(qfb hjl).1 h2 with h | h
              · exact absurd h hkj
              · rw[h1]at h; cases h
 have hstand:∀ i c,upd hw T (lst listed) h0 ops.size i=some c→notR hv hw j i=true∧c.nm (notR hv hw j)=true:=by
  intro i c hc;rcases q4e (hw:=hw) (T:=T) (S:=lst listed) (h0:=h0) (i:=i) ops.size with⟨k,k1,k2,k3,k4,k5⟩ | ⟨_,k2⟩
  · rw[k5]at hc
    have hkj:j≠k:=fun e=>hnl (e▸k2)
    exact(hx.avoidAll h0wf hsl hds hr hjlt k1 hkj (hnbf k k1 k2)).2 i k3 c hc
  · rw[k2]at hc
    have:=h0wf i c hc;have h1:=hx.nx0 j hjlt;have hp:∀ m,m<h0.next→notR hv hw j m=true:=fun m hm=>qjq (by omega)
    exact⟨hp i this.1,Chunk.za7 hp this.2⟩
 have hnx00:=hx.nx0 j hjlt;have hnx0:=zbo hnx00 hjv;have hp0:∀ m,m<h0.next→notR hv hw j m=true:=fun m hm=>qjq (by omega)
 rcases hdo with⟨hwt,hjo⟩ | ⟨hwt,hh,rfl,hlt⟩
 · have hwfN:St.wf ⟨q0d sl0 vals (srcs.getD j []),hvj,n,ds⟩:=by
    refine⟨fun t u h=>?_,hvwf,zbo hds hnx0⟩
    have gen:∀ src:Src,(∀ s∈src,qbz ops (befs ops) j s=true)→ ∀ t u,lk (q0d sl0 vals src) t=some u→u.sup≤hvj.next:=by
     intro src
     induction src with
     | nil=>intro _ t u hu; simp[q0d,lk]at hu
     | cons s src ihs=>
       intro hs t u hu;obtain⟨t0,oi⟩:=s;have ihs':=ihs fun s h=>hs s (zbh _ h)
       cases oi with
       | none=>
         simp only[q0d]at hu;cases hl:lk sl0 t0 with
         | none=>rw[hl]at hu; exact ihs' t u hu
         | some u0=>
           rw[hl]at hu;simp only[lk]at hu;split at hu
           · simp at hu; subst hu; have:=hsl t0 _ hl; omega
           · exact ihs' t u hu
       | some i=>
         simp only[q0d]at hu;cases hl:vals[i]? with
         | none=>rw[hl]at hu; exact ihs' t u hu
         | some u0=>
           rw[hl]at hu;simp only[lk]at hu;split at hu
           · simp at hu; subst hu
             have h1:=hs (t0,some i) zbq;simp only[qbz,zbf]at h1;have hlt:=hx.lt j i hjlt (by simpa using h1.1)
             have hrl:=hx.rlt j i hjlt (by simpa using h1.1)
             have:=(hx.wf h0wf hsl hds hr (rk i+1) i (zc0 _) (by omega)).2.2.2 _ t0 hl h1.2
             have:=hx.nx j i hjlt (by omega) hrl
             omega
           · exact ihs' t u hu
    exact gen _ (hx.plan.src j hjlt) t u h
   obtain⟨e,s',w1,_,w3,⟨rfl,e2,e3,e5,e4⟩,hxr⟩:=hjo hwfN (zbo hr hnx0);obtain⟨sl2,h2,n2,ds2⟩:=s';simp only at e2 e3 e5 e4 w3;have e2:=e2.symm;subst e2; subst e3; subst e5;have hwwf:=w1.2.1;unfold wpOpIn;simp only[ho,hwantG true hwt,if_true];have hfen:fen ρ r=fen ρ0 r:=q94 hi.fr.2.2.2.2 hr;have hop:=hxr ρ a w nn hrelN;rw[hfen]at hop;refine⟨hop.1,?_⟩;have hup:=hop.2;revert hup;generalize (o.semAt (fen ρ0 r).round a.eval).run P w=res;intro hup
   have fin1:∀ (x:Value) (w':World) (a1:Act),a1=a.put o.dst x→Out ρ ⟨q0d sl0 vals (srcs.getD j []),hvj,n2,ds2⟩ w .normal ⟨sl2,hwj,n2,ds2⟩ .normal a1 w'→K a1 w':=by
    rintro x w' a1 rfl ⟨ρ1,_,k1,k2⟩;obtain⟨⟨f1,f2,f3⟩,f4,f5,f6',f7,f8⟩:=k2;have f6:∀ id c,hwj.get id=some c→c.isRo=false→w.heap.size≤ρ1.blk id∨ ∃ id0 c0,hvj.get id0=some c0∧c0.isRo=false∧ρ.blk id0=ρ1.blk id:=fun id c hg hr=>(f6' id c hg).imp (fun h=>h) fun⟨a,b,x,y,z⟩=>⟨a,b,x,y hr,z⟩
    let ρ':Ren:=⟨fun i=>if notR hv hw j i=true then ρ.blk i else ρ1.blk i,fun i=>if notR hv hw j i=true then ρ.off i else ρ1.off i,fun i=>if notR hv hw j i=true then ρ.cap i else ρ1.cap i⟩
    have agr:qu1 (notR hv hw j) ρ ρ':=fun i hi=>by simp only[ρ',hi,if_true,and_self]
    have agr1:∀ i,i<hwj.next→ρ'.blk i=ρ1.blk i∧ρ'.off i=ρ1.off i∧ρ'.cap i=ρ1.cap i:=by
     intro i hil
     by_cases hn:notR hv hw j i=true
     · have:i<hvj.next:=hR i hil hn
       obtain⟨q1,q2,q3⟩:=f7 i this;simp only[ρ',hn,if_true,q1,q2,q3,and_self]
     · simp only[ρ',hn,if_false,zbn,and_self]
    have hreal1:∀ i c,hwj.get i=some c→Real ρ' i w' c:=fun i c hc=>
     (k1.2.2.1 i c hc).ext (n:=hwj.next) (fun m hm=>agr1 m hm) (hwwf i c hc).1 (hwwf i c hc).2
    have hkeep:∀ i c,upd hw T (lst listed) h0 ops.size i=some c→hvj.get i=none→w'.heap[ρ.blk i]?=w.heap[ρ.blk i]?:=by
     intro i c hc hnone;have hlt:=(hi.heap.1 i c hc).lt;refine f5 _ hlt fun id cid hid hro he=>?_
     have hne:id≠i:=fun e=>by subst e; rw[hnone]at hid; cases hid
     exact hi.heap.2 id i cid c hne (hview id cid hid) hc hro he
    have hrealU:∀ i c,upd hw T (lst (listed.setIfInBounds j true)) h0 ops.size i=some c→Real ρ' i w' c:=by
     intro i c hc;rw[hupd]at hc;split at hc
     · exact hreal1 i c hc
     · rename_i hij
       cases hg:hvj.get i with
       | some c0=>
         have h1:=hview i c0 hg;rw[hc]at h1; cases h1;exact hreal1 i c (by rw[htouch i hij]; exact hg)
       | none=>
         obtain⟨q1,q2⟩:=hstand i c hc;exact((hi.heap.1 i c hc).congr (hkeep i c hc hg)).nm agr q1 q2
    have hblk:∀ i c,upd hw T (lst listed) h0 ops.size i=some c→ρ'.blk i=ρ.blk i:=fun i c hc=>(agr i (hstand i c hc).1).1
    have hblk1:∀ i c,hwj.get i=some c→ρ'.blk i=ρ1.blk i:=fun i c hc=>(agr1 i (hwwf i c hc).1).1
    have hdisj:∀ i k ci ck,i≠k→upd hw T (lst (listed.setIfInBounds j true)) h0 ops.size i=some ci→upd hw T (lst (listed.setIfInBounds j true)) h0 ops.size k=some ck→ci.isRo=false→ρ'.blk i≠ρ'.blk k:=by
     have cases1:∀ i c,upd hw T (lst (listed.setIfInBounds j true)) h0 ops.size i=some c→hwj.get i=some c∨(hvj.get i=none∧upd hw T (lst listed) h0 ops.size i=some c):=by
      intro i c hc;rw[hupd]at hc;split at hc
      · exact .inl hc
      · rename_i hij
        cases hg:hvj.get i with
        | some c0=>
          have h1:=hview i c0 hg;rw[hc]at h1; cases h1;exact .inl (by rw[htouch i hij]; exact hg)
        | none=>exact .inr ⟨rfl,hc⟩
     have out:∀ i ci k ck,hwj.get i=some ci→(hvj.get k=none∧upd hw T (lst listed) h0 ops.size k=some ck)→(ci.isRo=false∨ck.isRo=false)→ρ'.blk i≠ρ'.blk k:=by
      intro i ci k ck hci ⟨hk1,hk2⟩ hro he;rw[hblk1 i ci hci,hblk k ck hk2]at he;have hklt:=(hi.heap.1 k ck hk2).lt;rcases hro with hro | hro
      · rcases f6 i ci hci hro with h1 | ⟨id0,c0,h1,h2,h3⟩
        · omega
        · have hne:id0≠k:=fun e=>by subst e; rw[hk1]at h1; cases h1
          exact hi.heap.2 id0 k c0 ck hne (hview id0 c0 h1) hk2 h2 (h3.trans he)
      · by_cases hij:i∈T j
        · rcases f6' i ci hci with h1 | ⟨id0,c0,h1,_,h3⟩
          · omega
          · have hne:k≠id0:=fun e=>by subst e; rw[hk1]at h1; cases h1
            exact hi.heap.2 k id0 ck c0 hne hk2 (hview id0 c0 h1) hro (h3.trans he).symm
        · have hc0:hvj.get i=some ci:=by rw[←htouch i hij]; exact hci
          have hne:k≠i:=fun e=>by subst e; rw[hk1]at hc0; cases hc0
          have h1:=(f7 i (hvwf i ci hc0).1).1;rw[h1]at he;exact hi.heap.2 k i ck ci hne hk2 (hview i ci hc0) hro he.symm
     intro i k ci ck hne hci hck hro;rcases cases1 i ci hci with h1 | h1
     · rcases cases1 k ck hck with h2 | h2
       · rw[hblk1 i ci h1,hblk1 k ck h2]
         exact k1.2.2.2 i k ci ck hne h1 h2 hro
       · exact out i ci k ck h1 h2 (.inl hro)
     · rcases cases1 k ck hck with h2 | h2
       · exact fun he=>out k ck i ci h2 h1 (.inr hro) he.symm
       · rw[hblk i ci h1.2,hblk k ck h2.2]
         exact hi.heap.2 i k ci ck hne h1.2 h2.2 hro
    refine hK sl' ρ' _ w' ⟨by simp[hi.size],hdown',hdone',hrest',?_,havoid',?_,⟨hrealU,hdisj⟩,?_⟩
    · have hbase:=qg1 hi.slots agr (hi.avoidS j hjlt hnl)
      simp only[sl'];cases hod:o.dst with
      | none=>simpa [Act.put]using hbase
      | some d=>
        refine⟨by simp[Act.put,hbase.1],fun t u ht=>?_⟩
        simp only[lk]at ht;split at ht
        · rename_i hb
          have:d=t:=zbg hb;subst this;simp at ht; subst ht;have h9:=k1.1.2 d v (e4 d hod).2;rw[hod]at h9;rw[h9];have hsup:=w1.1 d v (e4 d hod).2;rw[q2d (ρ:=ρ1) (ρ':=ρ') (n:=hwj.next) (fun m hm=>agr1 m hm) v hsup]
        · rename_i hb
          have hne:d≠t:=fun e=>hb (by subst e; exact zca d)
          have:=hbase.2 t u ht;simpa [Act.put,Array.getElem?_setIfInBounds_ne hne]using this
    · have hd1:ds2.map (q6t ρ')=ds2.map (q6t ρ):=q24 (n:=h0.next) (fun m hm=>agr m (hp0 m hm)) ds2 hds
      rw[hd1];cases hod:o.dst<;>simpa [Act.put,hod]using hi.defs
    · obtain⟨⟨g1,g2,g3⟩,g4,g5,g6,g7⟩:=hi.fr
      refine⟨⟨f1.trans g1,f2.trans g2,f3.trans g3⟩,by omega,fun B hB hno=>?_,fun id c hc=>?_,fun m hm=>?_⟩
      · rw[f5 B (by omega) fun id c hid hro he=>?_,g5 B hB hno]
        rcases g6 id c (hview id c hid)with h1 | ⟨id0,c0,h1,h2,h3⟩
        · omega
        · exact hno id0 c0 h1 (h2 hro) (h3.trans he)
      · rw[hupd]at hc
        split at hc
        · rw[hblk1 id c hc]
          rcases f6' id c hc with h1 | ⟨id0,c0,h1,h2,h3⟩
          · exact .inl (by omega)
          · rcases g6 id0 c0 (hview id0 c0 h1)with h4 | ⟨id1,c1,h4,h5,h6⟩
            · exact .inl (by omega)
            · exact .inr ⟨id1,c1,h4,fun h=>h5 (h2 h),h6.trans h3⟩
        · rw[hblk id c hc]
          rcases g6 id c hc with h4 | ⟨id1,c1,h4,h5,h6⟩
          · exact .inl h4
          · exact .inr ⟨id1,c1,h4,h5,h6⟩
      · obtain⟨q1,q2,q3⟩:=g7 m hm
        obtain⟨p1,p2,p3⟩:=agr m (hp0 m hm);exact⟨p1.trans q1,p2.trans q2,p3.trans q3⟩
   cases res with
   | halt ht w'=>
     cases ht<;>first
      | (obtain⟨ρ',k1,_⟩:=hup; simp[AExit.conc]at k1; done)
      | exact hup
   | ok nx w'=>
     cases nx<;>first
      | exact fin1 _ _ _ rfl hup
      | (refine⟨hup.1,hup.2.mono ?_⟩
         rintro(v' | ch | _) w'' h'
         · exact fin1 _ _ _ rfl h'
         · obtain⟨ρ',k1,_⟩:=h'; simp[AExit.conc]at k1
         · obtain⟨a',w',ρ',k1,_⟩:=h'; simp[AExit.conc]at k1)
      | exact⟨hup.1,hup.2.mono fun _ _ h'=>fin1 _ _ _ rfl h'⟩
      | exact(hup:False).elim
      | (exfalso
         obtain⟨ρ',_,k1,k2⟩:=hup;have h5:=congrArg List.length k1.2.1;have h6:=congrArg List.length hi.defs;cases hod:o.dst<;>(simp only[hod,Act.put]at h5; simp at h5 h6; omega))
 · have hsame:∀ i,upd hw T (lst (listed.setIfInBounds j true)) h0 ops.size i=upd hw T (lst listed) h0 ops.size i:=by
    intro i;rw[hupd];split
    · rename_i hij
      rw[hx.skipT j o ho hwt]at hij;cases hij
    · rfl
   unfold wpOpIn;simp only[ho,hwantG false hwt,zbn,if_false];refine⟨fun _ _=>trivial,hK sl' ρ _ w ?_⟩
   have heq:(upd hw T (lst (listed.setIfInBounds j true)) h0 ops.size)=upd hw T (lst listed) h0 ops.size:=funext hsame;refine⟨by simp[hi.size],hdown',hdone',hrest',?_,havoid',?_,by rw[heq]; exact hi.heap,by rw[heq]; exact hi.fr⟩
   · simp only[sl']
     cases hod:o.dst with
     | none=>exact hi.slots
     | some d=>
       refine⟨by simp[Act.put,hi.slots.1],fun t u ht=>?_⟩
       simp only[lk]at ht;split at ht
       · rename_i hb
         have:d=t:=zbg hb;subst this;simp at ht; subst ht;have hds:d<a.tmps.size:=by rw[hi.slots.1]; exact hlt d hod
         simp[Act.put,hds,conc,q04,undef]
       · rename_i hb
         have hne:d≠t:=fun e=>hb (by subst e; exact zca d)
         have:=hi.slots.2 t u ht;simpa [Act.put,Array.getElem?_setIfInBounds_ne hne]using this
   · cases hod:o.dst<;>simpa [Act.put,hod]using hi.defs
theorem qsn(hx:XOk rk P r ops sl0 vals srcs fin h0 hF hv hw T evs n ds)(h0wf:h0.wf)(hsl:∀ k v,lk sl0 k=some v→v.sup≤h0.next)(hds:supD ds≤h0.next)(hr:rsup r≤h0.next)
 {ρ0 ρ:Ren}{w0 w:World}{a:Act}{listed:Array Bool}{sl:List (Nat×AV)}(hi:InvX ops sl0 vals h0 hv hw T n ds ρ0 w0 listed sl ρ a w){j:Nat}(hj:j∈Region.ready .any ops listed)(nn:Nat)(K:Act→World→Prop)(Q:Exit→Act→World→Prop)
 (hK:∀ sl' ρ' a' w',InvX ops sl0 vals h0 hv hw T n ds ρ0 w0 (listed.setIfInBounds j true) sl' ρ' a' w'→K a' w'):wpOpIn (fen ρ0 r) nn P ops Q j K a w:=by
 obtain⟨hun,o,ho,hafter⟩:=mem_ready.1 hj;have hjlt:j<ops.size:=(zch.1 ho).1;have hjl:j<listed.size:=by rw[hi.size]; exact hjlt
 have hnl:¬ isL listed j:=by
  unfold isL;rw[zc9,Array.getElem?_eq_getElem hjl]at hun ⊢;simp at hun ⊢; exact hun
 have hbef:=q6z hi.down ho (fun e he hb=>hafter e he hb)
 obtain⟨hvwf,hwwf,hvw,hvsup⟩:=hx.wf h0wf hsl hds hr (rk j+1) j (zc0 _) hjlt;obtain⟨v,hvj,hdo⟩:=hx.op j o ho
 have hS:lst listed j=false:=by
  cases hb:lst listed j with
  | false=>rfl
  | true=>exact absurd hb hnl
 rcases hx.view j (lst listed) hjlt (fun k hk=>hbef k hk) hS (fun a b ha hl hb=>ql6 hi.down ha hl hb)with hview | ⟨x,hxe,hview⟩
 · refine qh6 hx h0wf hsl hds hr hi hj nn K Q (hv j) (hw j) hview hvwf (zbi _) hvj ho hdo (fun i hi=>hx.touch j i hjlt hi) (fun i h1 h2=>?_) (fun i h1=>?_) (fun i _=>rfl) hK
   · have:=qdm.1 h2; omega
   · rw[qdm]; omega
 · obtain⟨e1,e2,e3,e4⟩:=hx.evOp j o v x ho hvj hxe
   have hxwf:x.wf:=by
    intro i c hc;rw[e4];rcases hx.evFrom j x i c hjlt hxe hc with⟨k,hk,_,h1⟩ | h1
    · obtain⟨_,b2,_,_⟩:=hx.wf h0wf hsl hds hr (rk k+1) k (zc0 _) hk
      have:=b2 i c h1;have:=hx.nxF.2 k hk;omega
    · have:=h0wf i c h1
      have:=hx.nxF.1;omega
   refine qh6 hx h0wf hsl hds hr hi hj nn K Q x x hview hxwf (by have:=hx.nxF.2 j hjlt; omega) hvj ho e1 (fun i _=>rfl) (fun i h1 _=>h1) (fun i _=>?_) (fun i hij=>by rw[e2]at hij; cases hij) hK
   rw[qdm]; omega
theorem qvf(hx:XOk rk P r ops sl0 vals srcs fin h0 hF hv hw T evs n ds)(h0wf:h0.wf)(hsl:∀ k v,lk sl0 k=some v→v.sup≤h0.next)(hds:supD ds≤h0.next)(hr:rsup r≤h0.next){ρ0:Ren}{w0:World}:
 ∀ (fuel:Nat) (listed:Array Bool) (sl:List (Nat×AV)) (ρ:Ren) (a:Act) (w:World),InvX ops sl0 vals h0 hv hw T n ds ρ0 w0 listed sl ρ a w→((List.range ops.size).filter fun i=>!listed.getD i true).length≤fuel→ ∀ (nn:Nat) (Q:Exit→Act→World→Prop),
   (∀ ρ' a' w' sl' listed',InvX ops sl0 vals h0 hv hw T n ds ρ0 w0 listed' sl' ρ' a' w'→(∀ i,i<ops.size→isL listed' i)→Q .normal a' w')→wpAnyIn (fen ρ0 r) nn P .any ops Q fuel listed a w:=by
 have hend:∀ listed:Array Bool,listed.size=ops.size→Region.ready .any ops listed=[]→ ∀ i,i<ops.size→isL listed i:=by
  intro listed hsz hready i
  induction i using Nat.strongRecOn with
  | _ i ih=>
    intro hlt
    by_cases hl:isL listed i
    · exact hl
    · exfalso
      have hmem:i∈Region.ready .any ops listed:=by
       refine mem_ready.2 ⟨?_,ops[i],Array.getElem?_eq_getElem hlt,fun e he hb=>?_⟩
       · unfold isL at hl
         rw[zc9,Array.getElem?_eq_getElem (by omega)]at hl ⊢
         simp at hl ⊢; exact hl
       · have hon:=hx.plan.back i _ (Array.getElem?_eq_getElem hlt) e he hb
         exact ih e.on hon (by omega)
      rw[hready]at hmem;cases hmem
 intro fuel
 induction fuel with
 | zero=>
   intro listed sl ρ a w hi hf nn Q hQ
   have hready:Region.ready .any ops listed=[]:=by
    have h0:((List.range ops.size).filter fun i=>!listed.getD i true)=[]:=List.length_eq_zero_iff.1 (by omega)
    unfold Region.ready;rw[List.filter_eq_nil_iff]at h0 ⊢;intro x hx h2;simp only[zbf]at h2;exact h0 x hx h2.1
   exact⟨hready,hQ ρ a w sl listed hi (hend listed hi.size hready)⟩
 | succ fuel ih=>
   intro listed sl ρ a w hi hf nn Q hQ;refine⟨fun hready=>hQ ρ a w sl listed hi (hend listed hi.size hready),fun j hj=>?_⟩
   refine qsn hx h0wf hsl hds hr hi hj nn _ _ fun sl' ρ' a' w' hi'=>?_
   refine ih _ sl' ρ' a' w' hi' ?_ nn Q hQ;have:=qbc hi.size hj;omega
theorem z3q{c:Code}{id:Nat}{Q:AExit→St→Prop}{slF:List (Nat×AV)}(hc:c= .region id ops true)(hmix:P.follows .mixedOrders=true)
 (hx:XOk rk P r ops sl0 vals srcs fin h0 hF hv hw T evs n ds)(hFl:q0d sl0 vals fin=slF)(hq:Q .normal ⟨slF,hF,n,ds⟩):J P r c ⟨sl0,h0,n,ds⟩ Q:=by
 subst hc; subst hFl;intro hw0 hr;obtain⟨hsl,h0wf,hds⟩:=hw0;simp only at hsl h0wf hds hr
 have hFwf:hF.wf:=by
  intro i c hc;rw[hx.fin_]at hc;rcases q4e (hw:=hw) (T:=T) (S:=fun _=>true) (h0:=h0) (i:=i) ops.size with⟨k,k1,k2,k3,k4,k5⟩ | ⟨_,k2⟩
  · rw[k5]at hc
    obtain⟨_,b2,_,_⟩:=hx.wf h0wf hsl hds hr (rk k+1) k (zc0 _) k1;have:=b2 i c hc;have:=hx.nxF.2 k k1;omega
  · rw[k2]at hc
    have:=h0wf i c hc;have:=hx.nxF.1;omega
 have hslF:∀ t u,lk (q0d sl0 vals fin) t=some u→u.sup≤hF.next:=by
  have gen:∀ src:Src,(∀ s∈src,qgl ops s=true)→ ∀ t u,lk (q0d sl0 vals src) t=some u→u.sup≤hF.next:=by
   intro src
   induction src with
   | nil=>intro _ t u hu; simp[q0d,lk]at hu
   | cons s src ihs=>
     intro hs t u hu;obtain⟨t0,oi⟩:=s;have ihs':=ihs fun s h=>hs s (zbh _ h)
     cases oi with
     | none=>
       simp only[q0d]at hu;cases hl:lk sl0 t0 with
       | none=>rw[hl]at hu; exact ihs' t u hu
       | some u0=>
         rw[hl]at hu;simp only[lk]at hu;split at hu
         · simp at hu; subst hu; have:=hsl t0 _ hl; have:=hx.nxF.1; omega
         · exact ihs' t u hu
     | some i=>
       simp only[q0d]at hu;cases hl:vals[i]? with
       | none=>rw[hl]at hu; exact ihs' t u hu
       | some u0=>
         rw[hl]at hu;simp only[lk]at hu;split at hu
         · simp at hu; subst hu
           have h1:q2x ops i t0=true:=hs (t0,some i) zbq;obtain⟨o,ho,_⟩:=q0x.1 h1;have hlt:=(zch.1 ho).1;have:=(hx.wf h0wf hsl hds hr (rk i+1) i (zc0 _) hlt).2.2.2 _ t0 hl h1;have:=hx.nxF.2 i hlt;omega
         · exact ihs' t u hu
  exact gen fin hx.plan.fin
 refine⟨.normal,⟨q0d sl0 vals fin,hF,n,ds⟩,⟨hslF,hFwf,zbo hds hx.nxF.1⟩,zbl _,hx.nxF.1,hq,fun ρ a w nn hrel=>wpIn_region_any hmix ?_⟩
 have hno:∀ i,¬ isL (Array.replicate ops.size false) i:=fun i h=>by
  unfold isL at h;rw[zc9,Array.getElem?_replicate]at h;split at h<;>simp at h
 have hu0:upd hw T (lst (Array.replicate ops.size false)) h0 ops.size=h0.get:=by
  funext i;rcases q4e (hw:=hw) (T:=T) (S:=lst (Array.replicate ops.size false)) (h0:=h0) (i:=i) ops.size with⟨k,k1,k2,k3,k4,k5⟩ | ⟨_,k2⟩
  · exact absurd k2 (hno k)
  · exact k2
 have hrel':Rel ρ ⟨sl0,h0,n,ds⟩ a {w with drawn:=w.drawn+1}:=⟨hrel.1,hrel.2.1,q4n _ hrel.2.2⟩
 have hinit:InvX ops sl0 vals h0 hv hw T n ds ρ {w with drawn:=w.drawn+1} (Array.replicate ops.size false) sl0 ρ a {w with drawn:=w.drawn+1}:=by
  refine⟨by simp,fun i o _ h=>absurd h (hno i),fun i t v h=>absurd h (hno i),fun t v h _=>h,hrel'.1,fun j hj _ k v hk=>?_,hrel'.2.1,by rw[hu0]; exact hrel'.2.2,?_⟩
  · have:=hsl k v hk
    have h1:=hx.nx0 j hj;exact nm_sup (n:=h0.next) (fun m hm=>qjq (by omega)) v this
  · rw[hu0]
    exact⟨⟨rfl,rfl,rfl⟩,zbi _,fun _ _ _=>rfl,fun id c hg=> .inr ⟨id,c,hg,fun h=>h,rfl⟩,.refl _ _⟩
 refine qvf hx h0wf hsl hds hr _ _ _ _ _ _ hinit ?_ nn _ ?_
 · exact zbo (List.length_filter_le _ _) (by simp)
 · intro ρ' a' w' sl' listed' hi hall
   have hfin:upd hw T (lst listed') h0 ops.size=hF.get:=by
    funext i;rw[hx.fin_];exact q7r ops.size fun k hk _=>hall k hk
   have hsub:SubL (q0d sl0 vals fin) sl':=by
    refine q5o (fun t i u hm hu=>?_) (fun t u hm hu=>?_)
    · have h1:q2x ops i t=true:=hx.plan.fin _ hm
      obtain⟨o,ho,_⟩:=q0x.1 h1;exact hi.done i t u (hall i (zch.1 ho).1) h1 hu
    · have h1:=hx.plan.fin _ hm
      simp only[qgl]at h1;refine hi.rest t u hu fun i hdi _=>?_
      obtain⟨o,ho,_⟩:=q0x.1 hdi;have:=zc1.1 h1 i (by simpa using (zch.1 ho).1)
      rw[hdi]at this; simp at this
   have hheap:=hi.heap;obtain⟨f1,f2,f3,f4,f5⟩:=hi.fr;rw[hfin]at hheap f4;exact⟨ρ',rfl,⟨⟨hi.slots.1,fun t u hk=>hi.slots.2 t u (hsub.lk hk)⟩,hi.defs,⟨hheap.1,hheap.2⟩⟩,f1,f2,f3,f4,f5,hx.nxF.1⟩
end
def emp(M:Nat):AH:=⟨M,fun _=>none⟩
def one(M N:Nat)(cs:List AV):AH:=⟨M,fun i=>if i=N then some (.own cs) else none⟩
inductive FK where
 | p0
 | p1
 | e
 | f (N:Nat) (cs:List AV)
 | p2 (M:Nat)
 | s (a ix N M:Nat) (cs cs':List AV)
def FK.hv(h0 h1:AH):FK→AH
 | .p0=>h0
 | .p1=>h1
 | .e=>h0
 | .f N _=>emp N
 | .p2 M=>emp M
 | .s _ _ N M cs _=>one M N cs
def FK.hw(h0 h1:AH):FK→AH
 | .p0=>h0
 | .p1=>h1
 | .e=>h1
 | .f N cs=>one (N+1) N cs
 | .p2 M=>emp M
 | .s _ _ N M _ cs'=>one M N cs'
def FK.T(h1:AH):FK→List Nat
 | .e=>List.range h1.next
 | .f N _=>[N]
 | .s _ _ N _ _ _=>[N]
 | _=>[]
def FK.late:FK→Bool
 | .f _ _=>true
 | .p2 _=>true
 | .s _ _ _ _ _ _=>true
 | _=>false
def FK.isE:FK→Bool
 | .e=>true
 | _=>false
def FK.isF:FK→Bool
 | .f _ _=>true
 | _=>false
def FK.isP0:FK→Bool
 | .p0=>true
 | _=>false
def FK.top(h0 h1:AH):FK→Nat
 | .p0=>h0.next
 | .p1=>h1.next
 | .e=>h1.next
 | .f N _=>N+1
 | .p2 M=>M
 | .s _ _ _ _ _ _=>0
def nfl(K:List FK):Nat:=(K.filter FK.isF).length
def qly(K:List FK)(j:Nat):Bool:=match K[j]? with | some k=>k.late | none=>false
def qwe(K:List FK)(j:Nat):Bool:=match K[j]? with | some k=>k.isE | none=>false
def z7k(K:List FK)(j:Nat):Bool:=match K[j]? with | some k=>k.isF | none=>false
def sOf(K:List FK)(j:Nat):Option Nat:=match K[j]? with | some (.s a _ _ _ _ _)=>some a | _=>none
def kindOk(bf:List (List Nat))(K:List FK)(j:Nat):FK→Bool
 | .p0=>(bf.getD j []).all (fun b=>!qly K b)&&(List.range K.length).all fun i=>!qwe K i||(bf.getD i []).contains j
 | .p1=>(bf.getD j []).all (fun b=>!qly K b)&&(List.range K.length).all fun i=>!qwe K i||(bf.getD j []).contains i
 | .e=>(bf.getD j []).all (fun b=>!qly K b)&&(List.range K.length).all fun i=>!qwe K i||Nat.beq i j
 | .f _ _=>(bf.getD j []).all fun b=>!qly K b
 | .p2 _=>(List.range K.length).all fun i=>(!qwe K i||(bf.getD j []).contains i)&&(!(z7k K i&&Nat.blt i j)||(bf.getD j []).contains i)
 | .s a ix _ _ _ _=>(bf.getD j []).contains a&&Nat.blt ix j&&(List.range K.length).all fun i=>(!qwe K i||(bf.getD j []).contains i)&&(!(z7k K i&&Nat.blt i j)||(bf.getD j []).contains i||!qly K ix||Nat.blt ix i)&&
    (match sOf K i with | some a'=>Nat.beq i j||!Nat.beq a' a | none=>true)
def z9e(ops:Array Oper)(K:List FK):Bool:=
 let bf:=befs ops
 Nat.beq K.length ops.size&&(List.range K.length).all fun j=>((bf.getD j []).all fun b=>Nat.blt b j)&&match K[j]? with | some k=>kindOk bf K j k | none=>false
variable(P:Program)(r:Option Nat)(ops:Array Oper)(sl0:List (Nat×AV))(n:Nat)(ds:List ADef)(srcs:List Src)
def qsa(h0 h1:AH)(V:List AV)(K:List FK):Prop:=
 ∀ j k,K[j]?=some k→ ∃ o v,ops[j]?=some o∧V[j]?=some v∧(srcs.getD j []).all (qgo V.length)=true∧
   OpDo P r ops o ⟨q0d sl0 V (srcs.getD j []),k.hv h0 h1,n,ds⟩ (k.hw h0 h1) v∧(k.T h1≠[]→q1d ops o (q0d sl0 V (srcs.getD j []))=some true)∧v.sup≤k.top h0 h1∧
   (match k with
     | .f N cs=>N=h1.next+nfl (K.take j)∧supL cs=0∧ ∀ q:Nat→Bool,q N=true→v.nm q=true
     | .p2 M=>M=h1.next+nfl (K.take j)
     | .s a ix N M cs cs'=>M=h1.next+nfl (K.take j)∧a<j∧K[a]?=some (.f N cs)∧ix<j∧ ∃ u kx,V[ix]?=some u∧K[ix]?=some kx∧supL cs'≤u.sup
     | _=>True)
structure SaneF(h0 h1:AH)(V:List AV)(K:List FK):Prop where
 len:V.length=K.length
 w0:h0.wf
 w1:h1.wf
 nx:h0.next≤h1.next
 sl:∀ k v,lk sl0 k=some v→v.sup≤h0.next
 dd:supD ds≤h0.next
 rr:rsup r≤h0.next
 same:(∀ k∈K,k.isE=false)→h1=h0
def JF(G:Prop)(h0 h1:AH)(V:List AV)(K:List FK):Prop:=qsa P r ops sl0 n ds srcs h0 h1 V K→SaneF r sl0 ds h0 h1 V K→G
section main
def z9d(K:List FK)(j:Nat)(cs:List AV):List AV:=
 match K.findSome? (fun k=>match k with | .s a _ _ _ _ cs'=>if Nat.beq a j then some cs' else none | _=>none)with
 | some c=>c
 | none=>cs
def finG(K0:List FK):List FK→Nat→List (Nat×List AV)
 | [],_=>[]
 | .f N cs :: r,j=>(N,z9d K0 j cs) :: finG K0 r (j+1)
 | .p0 :: r,j=>finG K0 r (j+1)
 | .p1 :: r,j=>finG K0 r (j+1)
 | .e :: r,j=>finG K0 r (j+1)
 | .p2 _ :: r,j=>finG K0 r (j+1)
 | .s _ _ _ _ _ _ :: r,j=>finG K0 r (j+1)
def NewC:List (Nat×List AV)→AH→(AH→Prop)→Prop
 | [],h,Q=>Q h
 | (i,c) :: r,h,Q=> ∀ h',New h i (.own c) h'→NewC r h' Q
def addL(h:AH):List (Nat×List AV)→AH
 | []=>h
 | (_,c) :: r=>addL (h.add (.own c)) r
def qx0(a:Nat):List (Nat×List AV)→Prop
 | []=>True
 | (i,_) :: r=>i=a∧qx0 (a+1) r
theorem NewC.add:∀ {L:List (Nat×List AV)} {h:AH} {Q:AH→Prop},NewC L h Q→qx0 h.next L→(∀ i,h.next≤i→h.get i=none)→Q (addL h L)
 | [],_,_,q,_,_=>q
 | (i,c) :: r,h,Q,q,hn,hz=>by
   obtain⟨rfl,hn⟩:=hn;refine NewC.add (L:=r) (q (h.add (.own c)) ⟨⟨by simp[AH.add],fun j cj hj=>?_⟩,by simp[AH.add],hz _ (zbi _),zbi _⟩) hn fun j hj=>?_
   · have:j≠h.next:=fun e=>by subst e; rw[hz _ (zbi _)]at hj; cases hj
     simp[AH.add,this,hj]
   · simp only[AH.add]at hj ⊢
     rw[if_neg (by omega)]; exact hz j (by omega)
def hvK(h0 h1:AH)(K:List FK)(j:Nat):AH:=match K[j]? with | some k=>k.hv h0 h1 | none=>h0
def hwK(h0 h1:AH)(K:List FK)(j:Nat):AH:=match K[j]? with | some k=>k.hw h0 h1 | none=>h0
def TK(h1:AH)(K:List FK)(j:Nat):List Nat:=match K[j]? with | some k=>k.T h1 | none=>[]
variable{P:Program}{r:Option Nat}{ops:Array Oper}{sl0:List (Nat×AV)}{n:Nat}{ds:List ADef}{srcs:List Src}{h0 h1:AH}{V:List AV}{K:List FK}
end main
section main
variable{P:Program}{r:Option Nat}{ops:Array Oper}{sl0:List (Nat×AV)}{n:Nat}{ds:List ADef}{srcs:List Src}{h0 h1:AH}{V:List AV}{K:List FK}
theorem qsa.more(hg:qsa P r ops sl0 n ds srcs h0 h1 V K)(hl:V.length=K.length)(v:AV):∀ j k,K[j]?=some k→ ∃ o u,ops[j]?=some o∧(V++[v])[j]?=some u∧(srcs.getD j []).all (qgo (V++[v]).length)=true∧
 OpDo P r ops o ⟨q0d sl0 (V++[v]) (srcs.getD j []),k.hv h0 h1,n,ds⟩ (k.hw h0 h1) u∧(k.T h1≠[]→q1d ops o (q0d sl0 (V++[v]) (srcs.getD j []))=some true)∧u.sup≤k.top h0 h1∧
 (match k with
   | .f N cs=>N=h1.next+nfl (K.take j)∧supL cs=0∧ ∀ q:Nat→Bool,q N=true→u.nm q=true
   | .p2 M=>M=h1.next+nfl (K.take j)
   | .s a ix N M cs cs'=>M=h1.next+nfl (K.take j)∧a<j∧K[a]?=some (.f N cs)∧ix<j∧ ∃ u kx,(V++[v])[ix]?=some u∧K[ix]?=some kx∧supL cs'≤u.sup
   | _=>True):=fun j k hk=>by
 obtain⟨o,u,a1,a2,a3,a4,a5,a6,a7⟩:=hg j k hk;have hlt:j<V.length:=(zci.1 a2).1;refine⟨o,u,a1,by rw[zck hlt]; exact a2,by rw[zc8]; exact qby a3,by rw[q4g a3]; exact a4,by rw[q4g a3]; exact a5,a6,?_⟩
 cases k with
 | s a ix N M cs cs'=>
   obtain⟨b1,b2,b3,b4,w,kx,b5,b6,b7⟩:=a7;exact⟨b1,b2,b3,b4,w,kx,by rw[zck (zci.1 b5).1]; exact b5,b6,b7⟩
 | _=>exact a7
def z9u(K:List FK)(b:FK→Bool)(src:Src):Bool:=src.all fun s=>match s.2 with | some i=>(match K[i]? with | some k=>b k | none=>true) | none=>true
theorem SaneF.more{v:AV}{k:FK}(hs:SaneF r sl0 ds h0 h1 V K)(hk:k.isE=false):SaneF r sl0 ds h0 h1 (V++[v]) (K++[k]):=
 ⟨by simp[hs.len],hs.w0,hs.w1,hs.nx,hs.sl,hs.dd,hs.rr,fun h=>hs.same fun k' hk'=>h k' (List.mem_append_left _ hk')⟩
variable{G:Prop}{o:Oper}{d:Nat}{v:AV}{sl:List (Nat×AV)}{j:Nat}
def FP(P:Program)(r:Option Nat)(ops:Array Oper)(sl0:List (Nat×AV))(n:Nat)(ds:List ADef)(srcs:List Src)(G:Prop)(h0 h1:AH)(V:List AV)(K:List FK)(k:FK)(h:AH)(d:Nat)(e:AExit)(s:St):Prop:=
 e= .normal∧s.h=h∧s.n=n∧s.defs=ds∧ ∃ v,lk s.slots d=some v∧JF P r ops sl0 n ds srcs G h0 h1 (V++[v]) (K++[k])
theorem z95{K:List FK}(hK:K.all FK.isP0=true){j:Nat}{k:FK}(h:K[j]?=some k):k= .p0:=by
 have:=zc1.1 hK k (zc4 h);cases k<;>simp[FK.isP0]at this; rfl
theorem qsa.turn{h':AH}(hg:qsa P r ops sl0 n ds srcs h0 h0 V K)(hK:K.all FK.isP0=true):qsa P r ops sl0 n ds srcs h0 h' V K:=fun j k hj=>by
 have:=z95 hK hj;subst this;obtain⟨o,v,a⟩:=hg j _ hj;exact⟨o,v,a⟩
def FE(P:Program)(r:Option Nat)(ops:Array Oper)(sl0:List (Nat×AV))(n:Nat)(ds:List ADef)(srcs:List Src)(G:Prop)(h0:AH)(V:List AV)(K:List FK)(d:Nat)(e:AExit)(s:St):Prop:=
 e= .normal∧s.n=n∧s.defs=ds∧ ∃ v,lk s.slots d=some v∧JF P r ops sl0 n ds srcs G h0 s.h (V++[v]) (K++[.e])
theorem NewC.nil{h:AH}{Q:AH→Prop}(q:Q h):NewC [] h Q:=q
theorem NewC.cons{i:Nat}{cs:List AV}{l:List (Nat×List AV)}{h:AH}{Q:AH→Prop}(q:∀ h',New h i (.own cs) h'→NewC l h' Q):NewC ((i,cs) :: l) h Q:=q
end main
variable{P:Program}{r:Option Nat}{sl:List (Nat×AV)}{h₀:AH}{nt:Nat}{ds:List ADef}{Q:AExit→St→Prop}{o:Oper}{d:Nat}{x y z:Operand}
structure FlatEq(P:Program)(T:TypeId)(ls:List Lf):Prop where
 flat:q4a P 30 T=some ls
 wide:isWide P T=true
 guard:P.eqGuardType P.depth T=false
theorem FlatEq.equal{T:TypeId}{ls:List Lf}{a b:List AV}(f:FlatEq P T ls)(ha:q2s ls a=true)(hb:q2s ls b=true):q76 P T (.agg a) (.agg b)=some (eqAs a b):=by
 simp[q76,qj2,AV.asAgg,f.flat,f.wide,f.guard,ha,hb,od,gb]
theorem qeo{ρ:Ren}{w:World}{q:Option (Nat×Nat)}{c:Cap}{esz:Nat}:(Builtin.firstCells esz 0 (conc ρ (.slice q 0 c))).run P w= .ok #[] w:=by
 cases q with
 | none=>rfl
 | some a=>
   have:=run_loadCells_list (P:=P) w (ρ.addr a) [] (fun j u hu=>by simp at hu)
   simpa [Builtin.firstCells,conc]using this
theorem qgg{t t2 e:TypeId}{esz by_:Nat}{z:AV}{p q:Option (Nat×Nat)}{n0 cap:Nat}{c2:Cap}(ha:AppT P t t2 e esz by_ z)
 (ho:o.op= .call {callee:= .builtin .append,args:= #[x,y],argTypes:= #[t,t2]})(hd:o.dst=some d)(hdn:d<nt)
 (hx:ev sl x=some (.slice p n0 (.exact cap)))(hy:ev sl y=some (.slice q 0 c2))(hle:n0≤cap)
 (h:Q .normal ⟨(d,.slice p n0 (.exact cap)) :: sl,h₀,nt,ds⟩):JO P r o ⟨sl,h₀,nt,ds⟩ Q:=
 q0t hd hdn (by simp[Oper.noDefer,ho]) (fun hw=>q1i hw hx) (fun ρ a w hrel=>by
  obtain⟨cst,hcst⟩:=q10 (P:=P) ho a.eval w
  have hrun:=run_append_fits (ty:=o.type) ha (w:=w) (w':=w) (n0:=n0) (n:=0) (cap:=cap) (base:=p.map ρ.addr) (x:=conc ρ (.slice q 0 c2)) (new:= #[]) (q2y w) qeo (by omega)
   (by cases p<;>simp[storeCells])
  rw[hcst];simp only[builtin,List.map_toArray,zc3,List.map_nil,q03 hrel hx,q03 hrel hy,conc,Cap.conc,zbx]at hrun ⊢;rw[hrun];rfl) h
def FrW(hB h:AH)(v:AV)(n esz:Nat)(E:List AV→Prop):Prop:=
 (n=0∧ ∃ p c,v= .slice p 0 c∧(p=none∨ ∃ i off,p=some (i,off)∧NewN hB i))∨ ∃ i c,v= .slice (some (i,0)) n c∧NewN hB i∧SlW h i n esz E
theorem FrW.le{hB h h':AH}{v:AV}{n esz:Nat}{E:List AV→Prop}(a:FrW hB h v n esz E)(l:Le h h'):FrW hB h' v n esz E:=by
 rcases a with a | ⟨i,c,h1,h2,h3⟩
 · exact .inl a
 · exact .inr ⟨i,c,h1,h2,h3.le l⟩
theorem FrW.base{hA hB h:AH}{v:AV}{n esz:Nat}{E:List AV→Prop}(a:FrW hB h v n esz E)(l:Le hA hB):FrW hA h v n esz E:=by
 rcases a with⟨h0,p,c,h1,h2⟩ | ⟨i,c,h1,h2,h3⟩
 · exact .inl ⟨h0,p,c,h1,h2.imp id fun⟨i,off,a,b⟩=>⟨i,off,a,l.newN b⟩⟩
 · exact .inr ⟨i,c,h1,l.newN h2,h3⟩
theorem FrW.pos{hB h:AH}{v:AV}{n esz:Nat}{E:List AV→Prop}(a:FrW hB h v n esz E)(hn:0<n):∃ i c,v= .slice (some (i,0)) n c∧NewN hB i∧SlW h i n esz E:=by
 rcases a with⟨h0,_⟩ | h
 · omega
 · exact h
def VInt(v:AV):Prop:= ∃ n:Int,v= .int .i64 n
theorem qr9{α:Type}{f:α→AV}:∀ {cs:List AV},(∀ k:Nat,k<cs.length→ ∃ x,cs[k]?=some (f x))→ ∃ L:List α,cs=L.map f
 | [],_=>⟨[],rfl⟩
 | v :: cs,h=>by
   obtain⟨x,hx⟩:=h 0 (by simp)
   obtain⟨L,hL⟩:=qr9 (f:=f) (cs:=cs) fun k hk=>by
    obtain⟨y,hy⟩:=h (k+1) (by simp; omega)
    exact⟨y,by simpa using hy⟩
   simp at hx;exact⟨x :: L,by rw[zc3,←hx,←hL]⟩
theorem Bld.lst{α:Type}{f:α→AV}{hB h:AH}{v:AV}{n M0:Nat}{E:List AV→Prop}(a:Bld hB h v n 1 E)(hE:∀ l,E l→ ∃ x,l=[f x])(hn:M0≤hB.next):
 ∃ p c,∃ L:List α,v= .slice p L.length c∧L.length=n∧Lst h M0 p (L.map f)∧ ∀ i o,p=some (i,o)→hB.get i=none:=by
 rcases a with⟨rfl,rfl⟩ | ⟨i,cs,rfl,k1,k2,k3,k4⟩
 · exact⟨none,_,[],rfl,rfl,.inl rfl,fun i o h=>by cases h⟩
 · have hcs:cs.length=n:=by omega
   obtain⟨L,hL⟩:=qr9 (f:=f) (cs:=cs) fun k hk=>by
    obtain⟨l,h1,h2,h3⟩:=k4 k (by omega) (by omega)
    obtain⟨x,rfl⟩:=hE l h2;refine⟨x,?_⟩;have h4:((cs.drop ((k:Int).toNat * 1)).take 1)[0]?=some (f x):=by rw[h3]; rfl
    rw[zcp,if_pos (by omega),zcq]at h4
    simpa using h4
   have hl:L.length=n:=by rw[←hcs,hL]; simp
   subst hl;refine⟨some (i,0),_,L,rfl,rfl,.inr ⟨i,0,cs,rfl,zbo hn k2.2,k1.cells,by simp[hcs],?_⟩,fun j o h=>by cases h; exact k2.1⟩
   rw[←hL,List.drop_zero,List.take_length]
theorem SlV.del{h:AH}{b:Nat}{p:Option (Nat×Nat)}{n esz:Nat}{E:List AV→Prop}(a:SlV h p n esz E)(hb:∀ i off,p=some (i,off)→i≠b):SlV (h.del b) p n esz E:=fun h0=>by
 obtain⟨id,off,cs,h1,h2,h3⟩:=a h0;exact⟨id,off,cs,h1,by rw[qcd (AH.z9z (hb id off h1))]; exact h2,h3⟩
theorem Frs.del{M h:AH}{b:Nat}{p:Option (Nat×Nat)}{n esz:Nat}{c:Cap}{E:List AV→Prop}(a:Frs M h (.slice p n c) n esz E)(hb:M.get b≠none):SlV (h.del b) p n esz E∧WL h p n esz∧(0<n→ ∀ i off,p=some (i,off)→NewN M i):=by
 obtain⟨p',c',e,sv,w⟩:=a;simp only[AV.slice.injEq]at e;obtain⟨rfl,_,rfl⟩:=e
 by_cases h0:n=0
 · subst h0
   exact⟨SlV.zero,.inl rfl,fun h=>absurd h (Nat.lt_irrefl 0)⟩
 · rcases w with w | ⟨i,off,rfl,nw,cs,hl,hc⟩
   · exact absurd w h0
   · refine⟨sv.del fun j o hj=>?_,.inr ⟨i,off,rfl,cs,hl,hc.imp id id⟩,fun _ j o hj=>by cases hj; exact nw⟩
     cases hj;exact fun e=>by subst e; exact hb nw.1
theorem WL.move{h g:AH}{p:Option (Nat×Nat)}{n esz:Nat}(a:WL h p n esz)(k:∀ i c,(∃ o,p=some (i,o))→h.get i=some c→g.get i=some c):WL g p n esz:=by
 rcases a with h0 | ⟨i,off,rfl,cs,h1,h2 | ⟨e,h2⟩⟩
 · exact .inl h0
 · exact .inr ⟨i,off,rfl,cs,h1,.inl (k i _ ⟨off,rfl⟩ h2)⟩
 · exact .inr ⟨i,off,rfl,cs,h1,.inr ⟨e,k i _ ⟨off,rfl⟩ h2⟩⟩
structure LeQ(p:Option (Nat×Nat))(n:Nat)(h h':AH):Prop where
 next:h.next≤h'.next
 get:∀ j c,h.get j=some c→(0<n→ ∀ o,p≠some (j,o))→h'.get j=some c
theorem LeQ.refl(p:Option (Nat×Nat))(n:Nat)(h:AH):LeQ p n h h:=⟨zbi _,fun _ _ a _=>a⟩
theorem LeQ.trans{p:Option (Nat×Nat)}{n:Nat}{h h' h'':AH}(a:LeQ p n h h')(b:LeQ p n h' h''):LeQ p n h h'':=⟨zbo a.next b.next,fun j c hj hn=>b.get j c (a.get j c hj hn) hn⟩
theorem LeM.leQ{i off n:Nat}{h h':AH}(a:LeM [i] h h')(hn:0<n):LeQ (some (i,off)) n h h':=⟨a.next,fun j c hj hk=>a.get j c (fun hm=>by simp at hm; subst hm; exact hk hn off rfl) hj⟩
theorem WL.has{h:AH}{p:Option (Nat×Nat)}{n esz:Nat}(a:WL h p n esz)(hn:0<n):∃ i off c,p=some (i,off)∧h.get i=some c:=by
 rcases a with h0 | ⟨i,off,rfl,cs,h1,h2 | ⟨e,h2⟩⟩
 · omega
 · exact⟨i,off,_,rfl,h2⟩
 · exact⟨i,off,_,rfl,h2⟩
theorem qqr{h G0 G1 G2 H0 H1:AH}{xb a b:Nat}{cells:List AV}{p:Option (Nat×Nat)}{c:Cap}{q:Option (Nat×Nat)}{d:Cap}{L:List Int}{K:List ByteArray}(hw:h.wf)(n0:h.AddTo xb (.own cells) G0)(n1:G0.AddTo a (.own [.slice none 0 (.exact 0),.slice none 0 (.exact 0)]) G1)(n2:G1.AddTo b (.own [.slice none 0 (.exact 0),.slice none 0 (.exact 0)]) G2)
 (t:Txt H0 (G2.del b).next a p c q d L K)(h0n:(G2.del b).next≤H0.next)(keep:∀ i c,(G2.del b).get i=some c→i≠a→H0.get i=some c)(fr:Framed G2 H0 b H1):
 Le h H1∧Own H1 xb cells∧Own H1 a [.slice p L.length c,.slice q K.length d]∧Own H1 b [.slice none 0 (.exact 0),.slice none 0 (.exact 0)]∧xb≠a∧xb≠b∧a≠b∧G2.next≤H1.next:=by
 obtain⟨is0,nx0,new0,old0⟩:=n0;obtain⟨is1,nx1,new1,old1⟩:=n1;obtain⟨is2,nx2,new2,old2⟩:=n2
 have k:∀ i ck,G2.get i=some ck→i≠a→i≠b→H1.get i=some ck:=fun i ck hi ha hb=>by
  rw[fr.old i ck hb hi]; exact keep i ck (by rw[AH.z9z hb]; exact hi) ha
 have h1n:G2.next≤H1.next:=by have:=fr.next; simp only[AH.del]at h0n; omega
 refine⟨⟨by omega,fun i ck hi=>?_⟩,?_,?_,fr.box.trans new2,by omega,by omega,by omega,h1n⟩
 · have:=(hw i ck hi).1
   exact k i ck (by rw[old2 i (by omega),old1 i (by omega),old0 i (by omega)]; exact hi) (by omega) (by omega)
 · exact k xb _ (by rw[old2 xb (by omega),old1 xb (by omega)]; exact new0) (by omega) (by omega)
 · show H1.get a=_
   rw[fr.old a _ (by omega) (by rw[old2 a (by omega)]; exact new1)]; exact t.1
theorem qtn{P:Program}{f:FuncId}{x:AV}{h G0 G1 G2 H0 H1 g:AH}{xb a b:Nat}{cells:List AV}{p:Option (Nat×Nat)}{c:Cap}{q:Option (Nat×Nat)}{d:Cap}{L:List Int}{K:List ByteArray}(hw:h.wf)(n0:h.AddTo xb (.own cells) G0)(n1:G0.AddTo a (.own [.slice none 0 (.exact 0),.slice none 0 (.exact 0)]) G1)(n2:G1.AddTo b (.own [.slice none 0 (.exact 0),.slice none 0 (.exact 0)]) G2)
 (g2w:G2.wf)(hxs:x.sup≤h.next)(hcs:supL cells≤h.next)(t:Txt H0 (G2.del b).next a p c q d L K)(hfx:q0n P f [x,.ptr (some (a,0))] (G2.del b) (fun e H=>e= .ret (.tuple [])∧H=H0))(h0n:(G2.del b).next≤H0.next)
 (keep:∀ i c,(G2.del b).get i=some c→i≠a→H0.get i=some c)(fr:Framed G2 H0 b H1)(l:Le H1 g):
 q0n P f [x,.ptr (some (b,0))] g (fun e H3=>(∃ v,e= .ret v)∧Own H3 a [.slice p L.length c,.slice q K.length d]∧(∃ p' q',Own H3 b [.slice p' L.length c,.slice q' K.length d]∧Lst H3 0 p (L.map (AV.int .i64))∧Lst H3 0 q (K.map AV.str)∧Lst H3 0 p' (L.map (AV.int .i64))∧Lst H3 0 q' (K.map AV.str))∧L.length≤4294967296∧K.length≤4294967296):=by
 obtain⟨lh,ox,oa,ob,hxa,hxb,hab,h1n⟩:=qqr hw n0 n1 n2 t h0n keep fr;obtain⟨is0,nx0,new0,old0⟩:=n0;obtain⟨is1,nx1,new1,old1⟩:=n1;obtain⟨is2,nx2,new2,old2⟩:=n2;have ga:G2.get a=some (.own [.slice none 0 (.exact 0),.slice none 0 (.exact 0)]):=(old2 a hab).trans new1;have back:∀ i ck,G2.get i=some ck→i≠a→i≠b→i≠xb→h.get i=some ck:=fun i ck hi e1 e2 e3=>(old0 i e3).symm.trans ((old1 i e1).symm.trans ((old2 i e2).symm.trans hi))
 have s:Second (G2.del b) a b [.slice none 0 (.exact 0),.slice none 0 (.exact 0)] g:=⟨AH.za0 g2w,by rw[AH.z9z hab]; exact ga,fun i ck hi hia=>by
  obtain⟨e1,e2⟩:=AH.z9y hi
  by_cases e3:i=xb
  · subst e3
    have e4:G2.get i=some (.own cells):=by rw[old2 i e1,old1 i hia]; exact new0
    rw[e4]at e2; cases e2;simp only[Chunk.sup]; omega
  · have:=hw i ck (back i ck e2 hia e1 e3); omega,rfl,by simp[AH.del],fun i ck hi hia=>by
  obtain⟨e1,e2⟩:=AH.z9y hi;exact l.get i ck (by rw[fr.old i ck e1 e2]; exact keep i ck hi hia),l.get b _ ob,by have:=l.next; simp only[AH.del]; omega,by have:=l.next; omega⟩
 refine(qns hfx s (by omega) keep).mono fun e H3 ⟨hr,ag⟩=>?_
 obtain⟨v,rfl⟩:=hr _ rfl;obtain⟨p',q',ob3,l3,l4,_,_⟩:=ag.txt t;obtain⟨t1,t2,t3,t4,t5⟩:=t
 have mv:∀ {r:Option (Nat×Nat)} {vs:List AV},Lst H0 (G2.del b).next r vs→Lst H3 0 r vs:=fun {r vs} lst=>(lst.move (h':=H3) fun i ck hi hg ho=>by
  have hi':G2.next≤i:=hi;have e1:H1.get i=some ck:=(fr.new i hi').trans hg;exact ag.le.get i ck (by rw[AH.z9z (by omega)]; exact l.get i ck e1)).zero
 exact⟨⟨v,rfl⟩,ag.le.get a _ (by rw[AH.z9z hab]; exact l.get a _ oa),⟨p',q',ob3,mv t2,mv t3,l3,l4⟩,t4,t5⟩
end Go.J
