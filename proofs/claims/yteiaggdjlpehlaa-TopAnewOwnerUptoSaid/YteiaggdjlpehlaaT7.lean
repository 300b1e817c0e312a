import Derived.Test.YteiaggdjlpehlaaT2
import Derived.Test.YteiaggdjlpehlaaT1
import Derived.KernelRfl
set_option linter.all false
namespace Go.J
theorem Tr.get_nil{α:Type}(n:Nat):(Tr.nil:Tr α).get n=none:=rfl
def sel4{β:Type}(k:Nat)(a b c d:β):β:=if k=0 then a else if k=1 then b else if k=2 then c else d
theorem qs0{β:Type}{k:Nat}(h:k<4)(a b c d:β):(Nat.rec (motive:=fun _=>β) a (fun k1 _=>Nat.rec (motive:=fun _=>β) b (fun k2 _=>Nat.rec (motive:=fun _=>β) c (fun _ _=>d) k2) k1) k:β)=sel4 k a b c d:=by
 match k,h with
 | 0,_=>rfl
 | 1,_=>rfl
 | 2,_=>rfl
 | 3,_=>rfl
 | k+4,h=>omega
theorem Tr.zar{α:Type}(v:Option α)(a b c d:Tr α):(Tr.node v a b c d).get 0=v:=rfl
theorem Tr.zas{α:Type}(v:Option α)(a b c d:Tr α)(m:Nat):(Tr.node v a b c d).get (m+1)=sel4 (m % 4) (a.get (m / 4)) (b.get (m / 4)) (c.get (m / 4)) (d.get (m / 4)):=
 qs0 (Nat.mod_lt _ (by omega)) _ _ _ _
theorem Tr.zba{α:Type}(f:Nat)(t:Tr α)(c:Option α):Tr.set (f+1) t 0 c=(match t with
 | .nil=> .node c .nil .nil .nil .nil
 | .node _ t0 t1 t2 t3=> .node c t0 t1 t2 t3):=by cases t<;>rfl
theorem Tr.zbb{α:Type}(f:Nat)(t:Tr α)(m:Nat)(c:Option α):Tr.set (f+1) t (m+1) c=(match t with
 | .nil=>sel4 (m % 4) (.node none (Tr.set f .nil (m / 4) c) .nil .nil .nil) (.node none .nil (Tr.set f .nil (m / 4) c) .nil .nil) (.node none .nil .nil (Tr.set f .nil (m / 4) c) .nil) (.node none .nil .nil .nil (Tr.set f .nil (m / 4) c))
 | .node v t0 t1 t2 t3=>sel4 (m % 4) (.node v (Tr.set f t0 (m / 4) c) t1 t2 t3) (.node v t0 (Tr.set f t1 (m / 4) c) t2 t3) (.node v t0 t1 (Tr.set f t2 (m / 4) c) t3) (.node v t0 t1 t2 (Tr.set f t3 (m / 4) c))):=by
 cases t<;>exact qs0 (Nat.mod_lt _ (by omega)) _ _ _ _
theorem mod4(m:Nat):m % 4=0∨m % 4=1∨m % 4=2∨m % 4=3:=by omega
theorem Tr.zat{α:Type}:∀ (f:Nat) (t:Tr α) (n:Nat) (c:Option α) (m:Nat),n+2≤2 ^ f→(Tr.set f t n c).get m=if m=n then c else t.get m
 | 0,t,n,c,m,h=>by simp at h
 | f+1,t,0,c,m,h=>by
   rw[Tr.zba];cases t with
   | nil=>
     cases m with
     | zero=>rfl
     | succ m=>
       simp only[Tr.zas,Tr.get_nil];rcases mod4 m with e | e | e | e<;>simp[sel4,e]
   | node v t0 t1 t2 t3=>
     cases m with
     | zero=>rfl
     | succ m=>simp only[Tr.zas]; rfl
 | f+1,t,n+1,c,m,h=>by
   rw[Tr.zbb];rw[Nat.pow_succ]at h;have ih:=fun(t:Tr α) (m:Nat)=>Tr.zat f t (n / 4) c m (by omega)
   cases t with
   | nil=>
     simp only;cases m with
     | zero=>rcases mod4 n with e | e | e | e<;>simp[sel4,e,Tr.zar,Tr.get_nil]
     | succ m=>
       rcases mod4 n with e | e | e | e<;>rcases mod4 m with e' | e' | e' | e'<;>simp only[sel4,e,e',Tr.zas,Tr.get_nil,ih,if_true,if_false,Nat.reduceEqDiff,reduceCtorEq,Nat.one_ne_zero,Nat.zero_ne_one,Nat.add_right_cancel_iff]<;>split<;>(try split)<;>first | rfl | omega
   | node v t0 t1 t2 t3=>
     simp only;cases m with
     | zero=>rcases mod4 n with e | e | e | e<;>simp[sel4,e,Tr.zar]
     | succ m=>
       rcases mod4 n with e | e | e | e<;>rcases mod4 m with e' | e' | e' | e'<;>simp only[sel4,e,e',Tr.zas,ih,if_true,if_false,Nat.reduceEqDiff,reduceCtorEq,Nat.one_ne_zero,Nat.zero_ne_one,Nat.add_right_cancel_iff]<;>split<;>(try split)<;>first | rfl | omega
theorem AH.ext'{h h':AH}(h1:h.next=h'.next)(h2:∀ i,h.get i=h'.get i):h=h':=by
 cases h; cases h'; simp at h1; subst h1; congr; exact funext h2
def Lg(h h':EH):Prop:= ∃ l,h'.log=l++h.log∧ ∀ i,i∉l→h'.t.get i=h.t.get i
theorem Lg.refl(h:EH):Lg h h:=⟨[],rfl,fun _ _=>rfl⟩
theorem Lg.trans{h h' h'':EH}(a:Lg h h')(b:Lg h' h''):Lg h h'':=by
 obtain⟨l,a1,a2⟩:=a;obtain⟨m,b1,b2⟩:=b;refine⟨m++l,by rw[b1,a1,List.append_assoc],fun i hi=>?_⟩
 simp only[zbr,not_or]at hi;rw[b2 i hi.1,a2 i hi.2]
theorem EH.zaf{h h':EH}{i:Nat}{c:Option Chunk}(hp:h.put i c=some h'):h'.next=h.next∧(∀ j,h'.t.get j=if j=i then c else h.t.get j)∧Lg h h':=by
 cases h with | mk next t log=>
 unfold EH.put at hp;simp only at hp;cases hb:Nat.ble i lim with
 | false=>simp[hb]at hp
 | true=>
   simp only[hb,zbe]at hp;subst hp;have hl:i+2≤2 ^ 40:=by have:=zbj hb; simp only[lim]at this; omega
   refine⟨rfl,fun j=>Tr.zat 40 t i c j hl,⟨[i],rfl,fun j hj=>?_⟩⟩
   rw[Tr.zat 40 t i c j hl,if_neg (by simpa using hj)]
theorem EH.zad{h h':EH}{c:Chunk}(hp:h.add c=some h'):h'.next=h.next+1∧(∀ j,h'.t.get j=if j=h.next then some c else h.t.get j)∧Lg h h':=by
 cases h with | mk next t log=>
 unfold EH.add at hp;simp only at hp;cases hb:Nat.ble next lim with
 | false=>simp[hb]at hp
 | true=>
   simp only[hb,zbe]at hp;subst hp;have hl:next+2≤2 ^ 40:=by have:=zbj hb; simp only[lim]at this; omega
   refine⟨rfl,fun j=>Tr.zat 40 t next (some c) j hl,⟨[next],rfl,fun j hj=>?_⟩⟩
   rw[Tr.zat 40 t next (some c) j hl,if_neg (by simpa using hj)]
theorem q4z{h h':EH}{c:Chunk}(hp:h.add c=some h'){i:Nat}{a:AH}(ha:h.ah.AddTo i c a):i=h.next∧a=h'.ah:=by
 obtain⟨h1,h2,_⟩:=EH.zad hp;have hi:i=h.next:=ha.is;subst hi;refine⟨rfl,AH.ext' (by rw[ha.next]; exact h1.symm) fun j=>?_⟩
 show a.get j=h'.t.get j;rw[h2];split
 · rename_i e; subst e; exact ha.new
 · rename_i e; exact ha.old j e
theorem q21{h h':EH}{i:Nat}{c:Chunk}(hp:h.put i (some c)=some h'){a:AH}(ha:h.ah.SetTo i c a):a=h'.ah:=by
 obtain⟨h1,h2,_⟩:=EH.zaf hp;refine AH.ext' (by rw[ha.next]; exact h1.symm) fun j=>?_
 show a.get j=h'.t.get j;rw[h2];split
 · rename_i e; subst e; exact ha.new
 · rename_i e; exact ha.old j e
theorem qwz{h h1 h':EH}{id:Nat}{c:Chunk}(hq:h.put id none=some h1)(hp:h1.add c=some h'){i:Nat}{a:AH}(ha:h.ah.MoveTo id i c a):i=h.next∧a=h'.ah:=by
 obtain⟨p1,p2,_⟩:=EH.zaf hq;obtain⟨q1,q2,_⟩:=EH.zad hp;have hi:i=h.next:=ha.is;subst hi;refine⟨rfl,AH.ext' (by rw[ha.next]; show h.next+1=h'.next; omega) fun j=>?_⟩
 show a.get j=h'.t.get j;rw[q2,p2,p1];split
 · rename_i e; subst e; exact ha.new
 · rename_i e
   split
   · rename_i e2; subst e2
     rcases ha.gone with g | g
     · exact g
     · exact absurd g e
   · rename_i e2; exact ha.old j e e2
theorem qro{h h':EH}{id:Nat}(hp:h.put id none=some h'):h.ah.drop id=h'.ah:=by
 obtain⟨h1,h2,_⟩:=EH.zaf hp;exact AH.ext' h1.symm fun j=>(h2 j).symm
theorem EH.zae{h:EH}{i:Nat}{cs:List AV}(hc:h.cells i=some cs):h.ah.cells i=some cs:=by
 simp only[EH.cells,q09]at hc;obtain⟨c,h1,h2⟩:=hc;simp only[AH.cells,EH.ah,h1];cases c<;>simp[Chunk.cellsOf]at h2<;>simp[h2]
theorem qqt{h:EH}{i:Nat}{cs:List AV}(hc:h.getM i Chunk.asOwn=some cs):h.ah.get i=some (.own cs):=by
 simp only[EH.getM,q09]at hc;obtain⟨c,h1,h2⟩:=hc;cases c<;>simp[Chunk.asOwn]at h2
 subst h2; exact h1
theorem qew{h:EH}{i:Nat}{g:Nat×List AV}(hc:h.getM i Chunk.asGrow=some g):h.ah.get i=some (.grow g.1 g.2):=by
 simp only[EH.getM,q09]at hc;obtain⟨c,h1,h2⟩:=hc;cases c<;>simp[Chunk.asGrow]at h2
 subst h2; exact h1
theorem qj9{h:EH}{i:Nat}{g:List (AV×AV×Nat)×Nat}(hc:h.getM i Chunk.asMap=some g):h.ah.get i=some (.map g.1 g.2):=by
 simp only[EH.getM,q09]at hc;obtain⟨c,h1,h2⟩:=hc;cases c<;>simp[Chunk.asMap]at h2
 subst h2; exact h1
theorem qlp{h:EH}{i:Nat}{g:ByteArray×Nat}(hc:h.getM i Chunk.asIter=some g):h.ah.get i=some (.siter g.1 g.2):=by
 simp only[EH.getM,q09]at hc;obtain⟨c,h1,h2⟩:=hc;cases c<;>simp[Chunk.asIter]at h2
 subst h2; exact h1
theorem q5q{h:EH}{i:Nat}{l:LoopR}(hc:h.getM i Chunk.asLoop=some l):h.ah.get i=some (.loop l.st l.pd l.ts l.nt l.ps l.assign l.body l.m):=by
 simp only[EH.getM,q09]at hc;obtain⟨c,h1,h2⟩:=hc;cases c<;>simp[Chunk.asLoop]at h2
 subst h2; exact h1
def Lk(L:Tr AV)(sl:List (Nat×AV)):Prop:= ∀ k v,L.get k=some v→lk sl k=some v
theorem Lk.put{L:Tr AV}{sl:List (Nat×AV)}(h:Lk L sl){d:Nat}{v:AV}(hd:d≤1000000):Lk (Tr.set 20 L d (some v)) ((d,v) :: sl):=by
 intro k u hu;rw[Tr.zat 20 L d (some v) k (by omega)]at hu
 simp only[lk];split at hu
 · rename_i e; subst e; simp only[zbe]at hu; subst hu; simp
 · rename_i e
   have:Nat.beq d k=false:=by cases hb:Nat.beq d k with | false=>rfl | true=>exact absurd (zbg hb).symm e
   simp only[this]; exact h k u hu
section ops
variable{P:Program}{r:Option Nat}{N:Nat}{o:Oper}{L:Tr AV}{H:EH}{D:List ADef}{sl:List (Nat×AV)}{e:AExit}{s':ES}{x y z:Operand}{v:AV}
theorem q0m(h:Lk L sl){x:Operand}{v:AV}(hv:evE L x=some v):ev sl x=some v:=by
 cases x with
 | tmp t=>exact h t v hv
 | const c=>exact hv
 | func f=>exact hv
 | global g=>exact absurd hv (by simp[evE])
theorem q85(h:Lk L sl):∀ {l:List Operand} {vs:List AV},evLE L l=some vs→evL sl l=some vs
 | [],vs,hv=>hv
 | x :: l,vs,hv=>by
   simp only[evLE,q09]at hv;obtain⟨v,h1,us,h2,h3⟩:=hv;simp only[evL,q0m h h1,q85 h h2]; exact h3
theorem qd9(h:Lk L sl):∀ {l:List (Nat×Operand)} {vs:List (Nat×AV)},evPE L l=some vs→evP sl l=some vs
 | [],vs,hv=>hv
 | (i,x) :: l,vs,hv=>by
   simp only[evPE,q09]at hv;obtain⟨v,h1,us,h2,h3⟩:=hv;simp only[evP,q0m h h1,qd9 h h2]; exact h3
theorem qa4(h:Lk L sl){p:Nat×Nat}(hv:qsq L x=some p):ev sl x=some (.ptr (some p)):=by
 simp only[qsq,q09]at hv;obtain⟨v,h1,h2⟩:=hv;cases v<;>simp[AV.asPtr]at h2
 subst h2; exact q0m h h1
theorem q54(h:Lk L sl){p:IntKind×Int}(hv:qlf L x=some p):ev sl x=some (.int p.1 p.2):=by
 simp only[qlf,q09]at hv;obtain⟨v,h1,h2⟩:=hv;cases v<;>simp[AV.asInt]at h2
 subst h2; exact q0m h h1
theorem q9p{v:AV}{b:Bool}(h:v.asBool=some b):v= .bool b:=by cases v<;>simp[AV.asBool]at h; subst h; rfl
theorem qq8{v:AV}{b:ByteArray}(h:v.asStr=some b):v= .str b:=by cases v<;>simp[AV.asStr]at h; subst h; rfl
theorem qd4{v:AV}{b:IntKind×Int}(h:v.asInt=some b):v= .int b.1 b.2:=by cases v<;>simp[AV.asInt]at h; subst h; rfl
theorem qir{v:AV}{b:Option (Nat×Nat)×Nat×Cap}(h:v.asSl=some b):v= .slice b.1 b.2.1 b.2.2:=by cases v<;>simp[AV.asSl]at h; subst h; rfl
theorem qzq{v:AV}{b:List AV}(h:v.asAgg=some b):v= .agg b:=by cases v<;>simp[AV.asAgg]at h; subst h; rfl
theorem qzr{v:AV}{b:List AV}(h:v.asTup=some b):v= .tuple b:=by cases v<;>simp[AV.asTup]at h; subst h; rfl
theorem qq7{v:AV}{b:Nat}(h:v.asMap=some b):v= .map (some b):=by cases v<;>simp[AV.asMap]at h; subst h; rfl
theorem q8e:∀ {l:List AV},ones l=true→l.all AV.one=true
 | [],_=>rfl
 | v :: l,h=>by
   simp only[ones]at h;cases h1:v.one with
   | false=>simp[h1]at h
   | true=>simp only[h1]at h; simp[h1]; exact fun x hx=>by have:=zc1.1 (q8e h) x hx; exact this
theorem q2j{T:TypeId}{n:Nat}(h:szOf P T=some n):(P.info? T).map (·.size)=some n:=by
 simp only[szOf,q09,zbe]at h;obtain⟨i,h1,h2⟩:=h;rw[h1,←h2]; rfl
theorem qae{T:TypeId}{a:Bool}(h:qhe P T=some a):∃ D,P.underlying T=some D∧q40 D=a:=by
 simp only[qhe,q09,zbe]at h;exact h
theorem q3x{T:TypeId}{z:AV}(h:qks P T=some z):q26 P T z:=by
 simp only[qks,q09]at h;obtain⟨i,h1,v,h2,h3⟩:=h;exact⟨i,v,h1,h2,h3⟩
theorem q48{T e:TypeId}(h:elemE P T=some e):P.underlying T=some (.slice e):=by
 simp only[elemE,q09]at h;obtain⟨D,h1,h2⟩:=h;cases D<;>simp[qd5]at h2
 subst h2; exact h1
theorem qiq{T:TypeId}{a:Nat×TypeId}(h:arrE P T=some a):P.underlying T=some (.array a.1 a.2):=by
 simp only[arrE,q09]at h;obtain⟨D,h1,h2⟩:=h;cases D<;>simp[z2c]at h2
 subst h2; exact h1
theorem qr8{T:TypeId}{a:TypeId×TypeId}(h:qoo P T=some a):P.underlying T=some (.map a.1 a.2):=by
 simp only[qoo,q09]at h;obtain⟨D,h1,h2⟩:=h;cases D<;>simp[z2d]at h2
 subst h2; exact h1
theorem q7f{T:TypeId}(h:qhh P T=true):P.underlying T=some .string:=by
 unfold qhh at h;split at h
 · rename_i D hD; cases D<;>simp[q41]at h; exact hD
 · simp at h
theorem qli{S:TypeId}{i:Nat}{f:Nat×TypeId}(h:qqo P S i=some f):q1y P S i f.1 f.2:=by
 simp only[qqo,q09]at h;obtain⟨D,h1,fs,h2,fl,h3,h4⟩:=h;have hD:D= .struct fs:=by cases D<;>simp[qq9]at h2; rw[h2]
 subst hD;simp only[zbe]at h4;subst h4;exact⟨fs,fl,h1,by simpa using h3,rfl,rfl⟩
theorem qhz:∀ {fs:List Field} {pl:List (Nat×Nat)},qfq P fs=some pl→fs.map (fun f=>(f.offset,(P.info? f.type).map (·.size)))=pl.map (fun p=>(p.1,some p.2))
 | [],pl,h=>by simp only[qfq,zbe]at h; subst h; rfl
 | f :: fs,pl,h=>by
   simp only[qfq,q09,zbe]at h;obtain⟨n,h1,l,h2,h3⟩:=h;subst h3;simp only[zc3,qhz h2,q2j h1]
theorem qr7{a:Bool}{n off:Nat}{cs:List AV}(h:z0n a n cs off=some v):ldA a n cs off=some v:=by
 cases a with
 | true=>
   simp only[z0n,qws,q2c]at h;simp only[ldA,if_true,if_pos (zbj h.1)]; exact h.2
 | false=>exact h
theorem qrm{a:Bool}{n off:Nat}{cs:List AV}(h:z19 a n cs off=some v):qd1 a n cs off=some v:=by
 cases a<;>simpa [z19,qd1]using h
theorem q5x:∀ {cs:List AV} {off:Nat} {new:List AV},off+new.length≤cs.length→q7n cs off new=splice cs off new
 | cs,0,new,h=>by simp[q7n,splice]
 | [],off+1,new,h=>by simp at h
 | c :: cs,off+1,new,h=>by
   simp only[q7n];rw[q5x (cs:=cs) (off:=off) (new:=new) (by simp at h; omega)]
   simp only[splice,List.take_succ_cons,List.cons_append];rw[show off+1+new.length=(off+new.length)+1 by omega,List.drop_succ_cons]
theorem q3u(h:Lk L sl){x:Option Operand}{dflt n:Nat}(hv:natE L x dflt=some n):∃ m:Option Int,evO sl x=some m∧n=(m.map Int.toNat).getD dflt∧(∀ i∈m,0≤i)∧m.isSome=J.isSome x:=by
 cases x with
 | none=>simp only[natE,zbe]at hv; subst hv; exact⟨none,rfl,rfl,by simp,rfl⟩
 | some x=>
   simp only[natE,q09]at hv;obtain⟨v,h1,q,h2,h3⟩:=hv;have:=qd4 h2;subst this;have h4:=q4r.1 h3;refine⟨some q.2,by simp[evO,q0m h h1],by simp[h4],fun i hi=>?_,rfl⟩
   simp at hi; subst hi; omega
def z94(N:Nat)(s':ES):AExit→St→Prop:=fun e2 s2=>e2= .normal∧s2.h=s'.h.ah∧s2.n=N∧s2.defs=s'.ds∧Lk s'.sl s2.slots
structure OpOk(P:Program)(r:Option Nat)(o:Oper)(sl:List (Nat×AV))(N:Nat)(L:Tr AV)(H:EH)(D:List ADef)(e:AExit)(s':ES):Prop where
 norm:e= .normal
 jo:JO P r o ⟨sl,H.ah,N,D⟩ (z94 N s')
 lg:Lg H s'.h
 ds:s'.ds=D
 slot:∀ d,o.dst=some d→d<N∧ ∃ v,s'.sl=Tr.set 20 L d (some v)
 noSlot:o.dst=none→s'.sl=L
theorem qlk{H':EH}:finE N o L D v H'= .code e s'↔ ∃ d,o.dst=some d∧d<N∧e= .normal∧s'=⟨Tr.set 20 L d (some v),H',D⟩:=by
 simp only[finE,q08,q14,Nat.blt_eq,Rs.code.injEq];constructor
 · rintro⟨d,h1,h2,h3,h4⟩; exact⟨d,h1,h2,h3.symm,h4.symm⟩
 · rintro⟨d,h1,h2,h3,h4⟩; exact⟨d,h1,h2,h3.symm,h4.symm⟩
theorem qug{H':EH}:actE o L D H'= .code e s'↔o.dst=none∧e= .normal∧s'=⟨L,H',D⟩:=by
 unfold actE;cases o.dst with
 | none=>simp only[Rs.code.injEq,true_and]; exact⟨fun⟨a,b⟩=>⟨a.symm,b.symm⟩,fun⟨a,b⟩=>⟨a.symm,b.symm⟩⟩
 | some d=>simp
theorem q0z{H':EH}(hN:N≤1000000)(hL:Lk L sl)(hf:finE N o L D v H'= .code e s')(hlg:Lg H H')
 (hjo:∀ d,o.dst=some d→d<N→ ∀ Q:AExit→St→Prop,Q .normal ⟨(d,v) :: sl,H'.ah,N,D⟩→JO P r o ⟨sl,H.ah,N,D⟩ Q):OpOk P r o sl N L H D e s':=by
 obtain⟨d,h1,h2,rfl,rfl⟩:=qlk.1 hf;have hd9:d≤1000000:=Nat.le_of_lt (zcm h2 hN);refine⟨rfl,hjo d h1 h2 _ ⟨rfl,rfl,rfl,rfl,hL.put hd9⟩,hlg,rfl,fun d' hd'=>?_,fun h=>by rw[h1]at h; cases h⟩
 rw[h1]at hd'; cases hd';exact⟨h2,v,rfl⟩
theorem qpz{H':EH}(hL:Lk L sl)(hf:actE o L D H'= .code e s')(hlg:Lg H H')
 (hjo:o.dst=none→ ∀ Q:AExit→St→Prop,Q .normal ⟨sl,H'.ah,N,D⟩→JO P r o ⟨sl,H.ah,N,D⟩ Q):OpOk P r o sl N L H D e s':=by
 obtain⟨h1,rfl,rfl⟩:=qug.1 hf;exact⟨rfl,hjo h1 _ ⟨rfl,rfl,rfl,rfl,hL⟩,hlg,rfl,fun d hd=>(by rw[h1]at hd; cases hd),fun _=>rfl⟩
end ops
section ops
variable{P:Program}{r:Option Nat}{N:Nat}{o:Oper}{L:Tr AV}{H:EH}{D:List ADef}{sl:List (Nat×AV)}{e:AExit}{s':ES}{x y z:Operand}{v:AV}{T U:TypeId}
theorem qs7(hN:N≤1000000)(hL:Lk L sl)(ho:o.op= .move x∨o.op= .assign x)(h:qnk N o L H D x= .code e s'):OpOk P r o sl N L H D e s':=by
 simp only[qnk,q08]at h;obtain⟨v,h1,h2⟩:=h;refine q0z hN hL h2 (.refl _) fun d hd hdn Q hq=>?_
 rcases ho with ho | ho
 · exact qxf ho hd hdn (q0m hL h1) hq
 · exact qjt ho hd hdn (q0m hL h1) hq
theorem z1x(hN:N≤1000000)(hL:Lk L sl)(ho:o.op= .pick x y z)(h:z6f N o L H D x y z= .code e s'):OpOk P r o sl N L H D e s':=by
 simp only[z6f,q08]at h;obtain⟨c,h1,t,h2,h3⟩:=h;have:=q9p h2;subst this;cases t with
 | true=>
   simp only[qnk,q08]at h3;obtain⟨v,h3,h4⟩:=h3;exact q0z hN hL h4 (.refl _) fun d hd hdn Q hq=>qjw ho hd hdn (q0m hL h1) (q0m hL h3) hq
 | false=>
   simp only[qnk,q08]at h3;obtain⟨v,h3,h4⟩:=h3;exact q0z hN hL h4 (.refl _) fun d hd hdn Q hq=>qjv ho hd hdn (q0m hL h1) (q0m hL h3) hq
theorem qor{c:Chunk}(hN:N≤1000000)(hL:Lk L sl)(h:newP N o L H D c= .code e s')
 (hjo:∀ d,o.dst=some d→d<N→ ∀ Q:AExit→St→Prop,(∀ i h',H.ah.AddTo i c h'→Q .normal ⟨(d,.ptr (some (i,0))) :: sl,h',N,D⟩)→JO P r o ⟨sl,H.ah,N,D⟩ Q):OpOk P r o sl N L H D e s':=by
 simp only[newP,q08]at h;obtain⟨H',h1,h2⟩:=h;refine q0z hN hL h2 (EH.zad h1).2.2 fun d hd hdn Q hq=>hjo d hd hdn Q fun i h' ha=>?_
 obtain⟨rfl,rfl⟩:=q4z h1 ha;exact hq
theorem qyq(hN:N≤1000000)(hL:Lk L sl)(ho:o.op= .alloc T)(h:qyp P N o L H D T= .code e s'):OpOk P r o sl N L H D e s':=by
 simp only[qyp,q08]at h;obtain⟨z,h1,h2⟩:=h;exact qor hN hL h2 fun d hd hdn Q hq=>qxb (q3x h1) rfl ho hd hdn hq
theorem z69(hN:N≤1000000)(hL:Lk L sl)(ho:o.op= .box T x)(h:xBox N o L H D x= .code e s'):OpOk P r o sl N L H D e s':=by
 simp only[xBox,q08]at h;obtain⟨v,h1,h2⟩:=h;exact qor hN hL h2 fun d hd hdn Q hq=>z7t ho hd hdn (q0m hL h1) rfl hq
theorem qys{parts:Array (Nat×Operand)}(hN:N≤1000000)(hL:Lk L sl)(ho:o.op= .build T parts)(h:qyr P N o L H D T parts.toList= .code e s'):OpOk P r o sl N L H D e s':=by
 simp only[qyr,q08]at h;obtain⟨vs,h1,z,h2,pl,h3,out,h4,h5⟩:=h;simp only[z36,q09]at h3;obtain⟨DT,hD,h3⟩:=h3;refine q0z hN hL h5 (.refl _) fun d hd hdn Q hq=>?_
 cases DT<;>simp[q09]at h3
 · obtain⟨n,h6,h7⟩:=h3
   subst h7;exact qhn hD (q2j h6) (q3x h2) ho hd hdn (qd9 hL h1) h4 hq
 · obtain⟨l,h6,h7⟩:=h3
   subst h7;exact qxd ⟨_,hD,qhz h6⟩ (q3x h2) ho hd hdn (qd9 hL h1) h4 hq
theorem qgr{len:Nat}{parts:Array (Nat×Operand)}(hN:N≤1000000)(hL:Lk L sl)(ho:o.op= .buildSlice T len parts)(h:q9l P N o L H D T len parts.toList= .code e s'):OpOk P r o sl N L H D e s':=by
 simp only[q9l,q08,q14]at h;obtain⟨el,h1,vs,h2,n,h3,z,h4,h5,h6,out,h7,H',h8,h9⟩:=h;refine q0z hN hL h9 (EH.zad h8).2.2 fun d hd hdn Q hq=>qcm (q48 h1) (q2j h3) (q3x h4) (zbg h5) (zbj h6) ho hd hdn (qd9 hL h2) h7 fun i h' ha=>?_
 obtain⟨rfl,rfl⟩:=q4z h8 ha;exact hq
theorem z1w(hN:N≤1000000)(hL:Lk L sl)(ho:o.op= .load T x)(h:z6c P N o L H D T x= .code e s'):OpOk P r o sl N L H D e s':=by
 simp only[z6c,q08]at h;obtain⟨p,h1,cs,h2,a,h3,n,h4,v,h5,h6⟩:=h;obtain⟨DT,hD,rfl⟩:=qae h3;exact q0z hN hL h6 (.refl _) fun d hd hdn Q hq=>qxe hD (q2j h4) ho hd hdn (qa4 hL h1) (EH.zae h2) (qr7 h5) hq
theorem qz6(hL:Lk L sl)(ho:o.op= .store T x y)(h:qz5 P N o L H D T x y= .code e s'):OpOk P r o sl N L H D e s':=by
 simp only[qz5,q08,q14]at h;obtain⟨p,h1,v,h2,n,h3,h4,h5,c,h6,c',h7,H',h8,h9⟩:=h;have hn:=zbg h4;refine qpz hL h9 (EH.zaf h8).2.2 fun hd Q hq=>?_
 cases c<;>simp[qy7,q2c]at h7
 · obtain⟨h10,h11⟩:=h7
   subst h11;have hle:p.2+n≤_:=h10;refine qxg (q2j h3) ho hd (qa4 hL h1) (q0m hL h2) rfl h6 hn hle (q8e h5) (q5x (by omega)).symm fun h' ha=>?_
   have:=q21 h8 ha;subst this; exact hq
 · obtain⟨h10,h11⟩:=h7
   subst h11;have hle:p.2+n≤_:=h10;refine qrj (q2j h3) ho hd (qa4 hL h1) (q0m hL h2) rfl h6 hn hle (q8e h5) (q5x (by omega)).symm fun h' ha=>?_
   have:=q21 h8 ha;subst this; exact hq
theorem qnl(hN:N≤1000000)(hL:Lk L sl)(ho:o.op= .nilCheck x)(h:qgf N o L H D x= .code e s'):OpOk P r o sl N L H D e s':=by
 simp only[qgf,q08,q14]at h;obtain⟨v,h1,h2,h3⟩:=h;refine q0z hN hL h3 (.refl _) fun d hd hdn Q hq=>?_
 cases v<;>simp[qlv]at h2
 · rename_i a
   cases a with
   | none=>simp[J.isNone]at h2
   | some p=>exact q3v ho hd hdn (q0m hL h1) hq
 · rename_i f a b
   cases f<;>simp at h2
   exact qam ho hd hdn (q0m hL h1) hq
theorem z7q{b:Int}(h:nz b=true):b≠0:=by
 simp only[nz,q7w,Bool.not_eq_true',decide_eq_false_iff_not]at h; exact h
theorem z68{op:BinOp}(hN:N≤1000000)(hL:Lk L sl)(ho:o.op= .binOp op T x y U)(h:xBin P N o L H D op T x y= .code e s'):OpOk P r o sl N L H D e s':=by
 simp only[xBin,q08]at h;obtain⟨vx,h1,vy,h2,v,h3,h4⟩:=h;have hx:=q0m hL h1;have hy:=q0m hL h2;refine q0z hN hL h4 (.refl _) fun d hd hdn Q hq=>?_
 have other:(∀ k n,vx≠ .int k n)→(∀ s,vx≠ .str s)→qit P op T vx vy=some v→JO P r o ⟨sl,H.ah,N,D⟩ Q:=by
  intro i1 i2 h3;cases op<;>simp only[qit,q09,zbe,reduceCtorEq]at h3
  · obtain⟨b,h5,rfl⟩:=h3
    exact z7v ho hd hdn hx hy (q82 h5 .eql (.inl rfl) x y ⟨i1,i2⟩) hq
  · obtain⟨b,h5,rfl⟩:=h3
    exact z7z ho hd hdn hx hy (q82 h5 .neq (.inr rfl) x y ⟨i1,i2⟩) hq
 cases vx with
 | int k a=>
   simp only[binE,q09]at h3;obtain⟨q,h5,h6⟩:=h3;have:=qd4 h5;subst this;obtain⟨j,b⟩:=q;simp only at hx hy h6;unfold z2f at h6;cases hs:qey op with
   | true=>
     simp only[hs,q09]at h6;obtain⟨n,h7,h8⟩:=h6;simp only[zbe]at h8;subst h8;cases op<;>simp[z3a,q09]at h7
     · obtain⟨⟨m,h9⟩,rfl⟩:=h7
       exact z85 ho hd hdn hx hy (by rw[q4r.1 h9]; omega) hq
     · obtain⟨⟨m,h9⟩,rfl⟩:=h7
       exact z86 ho hd hdn hx hy (by rw[q4r.1 h9]; omega) hq
   | false=>
     simp only[hs,q2c]at h6;obtain⟨h7,h8⟩:=h6;have:=q47.1 h7;subst this;cases hc:z7j op with
     | true=>
       simp only[hc,q09]at h8;obtain⟨t,h9,h10⟩:=h8;simp only[zbe]at h10;subst h10
       have nlt:∀ p q:Int,(!decide (p<q))=decide (q≤p):=fun p q=>by
        rw[←decide_not]; congr 1; exact propext Int.not_lt
       have nne:∀ p q:Int,(!decide (p=q))=decide (¬ p=q):=fun p q=>by rw[←decide_not]
       cases op<;>simp only[cmpE,q7w,qiv,zbe,reduceCtorEq]at h9<;>subst h9
       · exact o_eq ho hd hdn hx hy hq
       · exact o_ne ho hd hdn hx hy (by rw[←nne]; exact hq)
       · exact o_lt ho hd hdn hx hy hq
       · exact o_le ho hd hdn hx hy (by rw[←nlt]; exact hq)
       · exact o_gt ho hd hdn hx hy hq
       · exact o_ge ho hd hdn hx hy (by rw[←nlt]; exact hq)
     | false=>
       simp only[hc,q09]at h8;obtain⟨n,h9,h10⟩:=h8;simp only[zbe]at h10;subst h10;cases op<;>simp[z2b,q2c]at h9
       · subst h9; exact qxa ho hd hdn hx hy hq
       · subst h9; exact z32 ho hd hdn hx hy hq
       · subst h9; exact z31 ho hd hdn hx hy hq
       · obtain⟨h9,rfl⟩:=h9; exact z81 ho hd hdn hx hy (z7q h9) hq
       · obtain⟨h9,rfl⟩:=h9; exact z82 ho hd hdn hx hy (z7q h9) hq
       · subst h9; exact z7s ho hd hdn hx hy hq
       · subst h9; exact o_or ho hd hdn hx hy hq
       · subst h9; exact z87 ho hd hdn hx hy hq
       · subst h9; exact qrh ho hd hdn hx hy hq
 | str a=>
   simp only[binE,q09]at h3;obtain⟨b,h5,h6⟩:=h3;have:=qq8 h5;subst this;cases op<;>simp[z2g,q2c]at h6
   · obtain⟨h7,rfl⟩:=h6
     exact z83 ho hd hdn hx hy h7 hq
   · subst h6; exact z84 ho hd hdn hx hy (by rw[←q7o]; exact hq)
   · subst h6; exact z5l ho hd hdn hx hy (by rw[←q7o]; exact hq)
 | _=>exact other (by simp) (by simp) h3
theorem z90{op:UnOp}(hN:N≤1000000)(hL:Lk L sl)(ho:o.op= .unOp op T x)(h:xUn N o L H D op x= .code e s'):OpOk P r o sl N L H D e s':=by
 simp only[xUn,q08]at h;obtain⟨v,h1,u,h2,h3⟩:=h;have hx:=q0m hL h1;refine q0z hN hL h3 (.refl _) fun d hd hdn Q hq=>?_
 cases op<;>simp only[unE,q09,zbe,reduceCtorEq]at h2
 · obtain⟨q,h4,rfl⟩:=h2
   have:=qd4 h4;subst this;exact z7y ho hd hdn hx hq
 · obtain⟨t,h4,rfl⟩:=h2
   have:=q9p h4;subst this;exact z80 ho hd hdn hx hq
theorem quv{D:TypeDesc}{k:IntKind}(h:quu D=some k):D= .int k:=by cases D<;>simp[quu]at h; rw[h]
theorem qpm(hN:N≤1000000)(hL:Lk L sl)(ho:o.op= .convert T U x)(h:qki P N o L H D T U x= .code e s'):OpOk P r o sl N L H D e s':=by
 simp only[qki,q08,q09]at h;obtain⟨q,h1,DT,h2,k,⟨DU,h3,h4⟩,h5⟩:=h;have:=quv h4;subst this;exact q0z hN hL h5 (.refl _) fun d hd hdn Q hq=>z2z ho hd hdn (q54 hL h1) h2 h3 hq
theorem qni{f:Fn}{a b:Array Operand}(hN:N≤1000000)(hL:Lk L sl)(ho:o.op= .makeFunc f a b)(h:qgd N o L H D f a.toList b.toList= .code e s'):OpOk P r o sl N L H D e s':=by
 simp only[qgd,q08]at h;obtain⟨v1,h1,v2,h2,h3⟩:=h;exact q0z hN hL h3 (.refl _) fun d hd hdn Q hq=>qbt ho hd hdn (q85 hL h1) (q85 hL h2) hq
theorem qpq{rz:Option Operand}(hN:N≤1000000)(hL:Lk L sl)(ho:o.op= .makeMap T rz)(h:qko N o L H D rz= .code e s'):OpOk P r o sl N L H D e s':=by
 simp only[qko,q08,q14]at h;obtain⟨h0,H',h1,h2⟩:=h;cases rz with
 | some z=>simp[J.isNone]at h0
 | none=>
   obtain⟨a1,a2,a3⟩:=EH.zad h1;refine q0z hN hL h2 a3 fun d hd hdn Q hq=>?_
   refine qdv (c:= .map [] 0) (cap:=0) (v:= .map (some H.next)) hd hdn (by simp[Oper.noDefer,ho]) (fun hw=>⟨by simp[Chunk.sup,supE],by simp[AV.sup,EH.ah]⟩) (fun hw ρ a w hrel=>?_) ?_
   · refine⟨.map #[] 0,w.drawn,?_,by simp[Ren.plus,EH.ah],by simp[Ren.plus,EH.ah]⟩
     simp[execOp,ho,Instr.makeMap,newObj,Sem.run,conc,Ren.plus,EH.ah]
   · have:(H.ah.add (.map [] 0))=H'.ah:=(q4z h1 (AH.z9w _ _)).2
     show Q .normal ⟨(d,.map (some H.next)) :: sl,H.ah.add (.map [] 0),N,D⟩;rw[this]; exact hq
theorem qqv{v:AV}{n:Nat}(h:int64 v=some n):v= .int .i64 n:=by
 simp only[int64,q09,q2c]at h;obtain⟨q,h1,h2,h3⟩:=h;rw[qd4 h1,q47.1 h2,q4r.1 h3]
theorem qkp(hN:N≤1000000)(hL:Lk L sl)(ho:o.op= .makeSlice T x y)(h:qc6 P N o L H D T x y= .code e s'):OpOk P r o sl N L H D e s':=by
 simp only[qc6,q08,q14,q09]at h;obtain⟨el,h1,l,⟨vl,h2,h3⟩,c,⟨vc,h4,h5⟩,i,h6,z,h7,h8,H',h9,h10⟩:=h;have e1:=qqv h3;have e2:=qqv h5;subst e1; subst e2;simp only[mkOk,zbf]at h8;obtain⟨⟨⟨k1,k2⟩,k3⟩,k4⟩:=h8;refine q0z hN hL h10 (EH.zad h9).2.2 fun d hd hdn Q hq=>qfj (q48 h1) (n:=i.size) (by_:=i.bytes) (by rw[h6]; rfl) (q3x h7) (zbg k1) ho hd hdn (q0m hL h2) (q0m hL h4) (zbj k2) (zbj k3) (zbj k4) fun j h' ha=>?_
 obtain⟨rfl,rfl⟩:=q4z h9 ha;exact hq
theorem qaf{α:Type}{x:Option α}(h:J.isNone x=true):x=none:=by cases x<;>simp[J.isNone]at h; rfl
theorem qy3{p:Option (Nat×Nat)}{n l h m:Nat}(hN:N≤1000000)(hL:Lk L sl)(hf:slX N o L H D p n l h m= .code e s')
 (hjo:∀ d,o.dst=some d→d<N→ ∀ Q:AExit→St→Prop,Q .normal ⟨(d,.slice (if m=l then p else p.map fun q=>(q.1,q.2+l * n)) (h - l) (.exact (m - l))) :: sl,H.ah,N,D⟩→JO P r o ⟨sl,H.ah,N,D⟩ Q):OpOk P r o sl N L H D e s':=by
 have he:slP p m l (l * n)=(if m=l then p else p.map fun q=>(q.1,q.2+l * n)):=by
  have hp:qxo p (l * n)=p.map fun q=>(q.1,q.2+l * n):=by cases p<;>rfl
  unfold slP
  by_cases hm:m=l
  · subst hm; simp
  · have:Nat.beq m l=false:=by cases hb:Nat.beq m l with | false=>rfl | true=>exact absurd (zbg hb) hm
    rw[this,if_neg hm,hp]
 unfold slX at hf;rw[he]at hf;exact q0z hN hL hf (.refl _) hjo
theorem qz4{lo hi mx:Option Operand}(hN:N≤1000000)(hL:Lk L sl)(ho:o.op= .slice T x lo hi mx)(h:qz3 P N o L H D T x lo hi mx= .code e s'):OpOk P r o sl N L H D e s':=by
 simp only[qz3,q08]at h;obtain⟨v,h1,h2⟩:=h;have hx:=q0m hL h1;cases v<;>simp only[q08,q14,reduceCtorEq]at h2
 ·
  obtain⟨h3,h4⟩:=h2;simp only[z8o,q08,q14,zbf]at h4;obtain⟨l,k1,hh,k2,⟨⟨k3,k4⟩,k5⟩,k6⟩:=h4;have:=qaf k5;subst this;obtain⟨ml,a1,a2,a3,_⟩:=q3u hL k1;obtain⟨mh,b1,b2,b3,_⟩:=q3u hL k2;exact q0z hN hL k6 (.refl _) fun d hd hdn Q hq=>qhq (q7f h3) ho hd hdn hx a1 b1 b2 a2 a3 b3 (zbj k3) (zbj k4) hq
 ·
  obtain⟨q,rfl,ae,h3,h4⟩:=h2;simp only[z8n,q08,q14,zbf]at h4;obtain⟨n,k0,l,k1,hh,k2,⟨⟨k3,k4⟩,k5⟩,k6⟩:=h4;have:=qaf k5;subst this;obtain⟨ml,a1,a2,a3,_⟩:=q3u hL k1;obtain⟨mh,b1,b2,b3,_⟩:=q3u hL k2;refine qy3 hN hL k6 fun d hd hdn Q hq=>qhp (qiq h3) (q2j k0) ho hd hdn hx a1 b1 b2 a2 a3 b3 (zbj k3) (zbj k4) ?_
  have e1:(some (if ae.1=l then(q.1,q.2) else(q.1,q.2+l * n)):Option (Nat×Nat))=(if ae.1=l then some q else(some q).map fun q=>(q.1,q.2+l * n)):=by split<;>rfl
  rw[e1]; exact hq
 ·
  obtain⟨el,h3,h4⟩:=h2;rename_i p len c;cases c with
  | exact cap=>
    simp only[qy2,q08,q14,zbf,zbu]at h4;obtain⟨n,k0,l,k1,hh,k2,m,k3,⟨⟨⟨k4,k5⟩,k6⟩,k7⟩,k8⟩:=h4;obtain⟨ml,a1,a2,a3,_⟩:=q3u hL k1;obtain⟨mh,b1,b2,b3,b4⟩:=q3u hL k2;obtain⟨mm,c1,c2,c3,c4⟩:=q3u hL k3;refine qy3 hN hL k8 fun d hd hdn Q hq=>qjx (q48 h3) (q2j k0) ho hd hdn hx a1 b1 c1 c2 b2 a2 a3 b3 c3 (fun hs=>?_) (zbj k4) (zbj k5) (zbj k6) hq
    rw[c4]at hs;rcases k7 with k7 | k7
    · have:=qaf k7; subst this; simp[J.isSome]at hs
    · rw[b4]; exact k7
  | grow dd=>
    simp only[z3b,q08,q14,zbf]at h4;obtain⟨q,rfl,n,k0,l,k1,hh,k2,g,k3,⟨⟨k4,k5⟩,k6⟩,k7⟩:=h4;obtain⟨ml,a1,a2,a3,_⟩:=q3u hL k1;obtain⟨mh,b1,b2,b3,b4⟩:=q3u hL k2;have kl:=zbj k6;have kp:0<g.1:=by simpa [Nat.blt_eq]using k5
    cases mx with
    | none=>
      simp only[q14,zbf,zbu]at k7;obtain⟨⟨⟨k7,k8⟩,k9⟩,k10⟩:=k7;have k9:0<len:=by simpa [Nat.blt_eq]using k9
      refine q0z hN hL k10 (.refl _) fun d hd hdn Q hq=>z11 (q48 h3) (q2j k0) ho hd hdn hx (qew k3) kp (zbj k4) a1 b1 b2 a2 a3 b3 ?_ (zbj k8) (fun _ _=>k9) hq
      rcases k7 with k7 | k7
      · exact .inl (by simpa [Nat.blt_eq]using k7)
      · exact .inr (zbg k7)
    | some mxo=>
      simp only[q08,q14,zbf]at k7;obtain⟨m,k7,⟨⟨k8,k9⟩,k10⟩,k11⟩:=k7;obtain⟨mm,c1,c2,c3,c4⟩:=q3u hL k7;refine qy3 hN hL k11 fun d hd hdn Q hq=>qze (q48 h3) (q2j k0) ho hd hdn hx (qew k3) kp (zbj k4) a1 b1 c1 (by rw[c4]; rfl) c2 b2 a2 a3 b3 c3 (by rw[b4]; exact k8) kl (zbj k9) (zbj k10) ?_
      have e1:(some (if m=l then(q.1,q.2) else(q.1,q.2+l * n)):Option (Nat×Nat))=(if m=l then some q else(some q).map fun q=>(q.1,q.2+l * n)):=by split<;>rfl
      rw[e1]; exact hq
end ops
section ops
variable{P:Program}{r:Option Nat}{N:Nat}{o:Oper}{L:Tr AV}{H:EH}{D:List ADef}{sl:List (Nat×AV)}{e:AExit}{s':ES}{x y z:Operand}{v:AV}{T U:TypeId}
theorem qkk{i:Nat}(hN:N≤1000000)(hL:Lk L sl)(ho:o.op= .fieldAddr T x i)(h:qc4 P N o L H D T x i= .code e s'):OpOk P r o sl N L H D e s':=by
 simp only[qc4,q08,q14]at h;obtain⟨p,h1,f,h2,n,h3,h4,h5⟩:=h;have hn:n≠0:=by cases n<;>simp[pos?]at h4 ⊢
 exact q0z hN hL h5 (.refl _) fun d hd hdn Q hq=>q9f (qli h2) (q2j h3) hn ho hd hdn (qa4 hL h1) hq
theorem qyw{i:Nat}(hN:N≤1000000)(hL:Lk L sl)(ho:o.op= .field T x i)(h:qyv P N o L H D T x i= .code e s'):OpOk P r o sl N L H D e s':=by
 simp only[qyv,q08,q09]at h;obtain⟨cs,⟨v0,h1,h2⟩,f,h3,a,h4,n,h5,v,h6,h7⟩:=h;have:=qzq h2;subst this;obtain⟨DT,hD,rfl⟩:=qae h4;exact q0z hN hL h7 (.refl _) fun d hd hdn Q hq=>qoy (qli h3) hD (q2j h5) ho hd hdn (q0m hL h1) (qrm h6) hq
theorem qw9{n i:Nat}(hL:Lk L sl)(h:idx L y n=some i):∃ k,ev sl y=some (.int k (i:Int))∧i<n:=by
 simp only[idx,q09,q2c,zbe]at h;obtain⟨q,h1,j,h2,h3,h4⟩:=h;subst h4;refine⟨q.1,?_,by simpa [Nat.blt_eq]using h3⟩
 rw[←q4r.1 h2]; exact q54 hL h1
theorem qkl(hN:N≤1000000)(hL:Lk L sl)(ho:o.op= .indexAddr T x y)(h:qc5 P N o L H D T x y= .code e s'):OpOk P r o sl N L H D e s':=by
 simp only[qc5,q08]at h;obtain⟨v,h1,h2⟩:=h;have hx:=q0m hL h1;cases v<;>simp only[q08,q14,reduceCtorEq]at h2
 · obtain⟨q,rfl,ae,h3,n,h4,i,h5,h6⟩:=h2
   obtain⟨k,h7,h8⟩:=qw9 hL h5;exact q0z hN hL h6 (.refl _) fun d hd hdn Q hq=>qcn (qiq h3) (q2j h4) ho hd hdn hx h7 ⟨by omega,by omega⟩ (by simpa using hq)
 · obtain⟨q,rfl,el,h3,n,h4,i,h5,h6⟩:=h2
   obtain⟨k,h7,h8⟩:=qw9 hL h5;exact q0z hN hL h6 (.refl _) fun d hd hdn Q hq=>q5e (q48 h3) (q2j h4) ho hd hdn hx h7 ⟨by omega,by omega⟩ (by simpa using hq)
theorem qyy(hN:N≤1000000)(hL:Lk L sl)(ho:o.op= .index T x y)(h:qyx P N o L H D T x y= .code e s'):OpOk P r o sl N L H D e s':=by
 simp only[qyx,q08]at h;obtain⟨v,h1,h2⟩:=h;have hx:=q0m hL h1;cases v<;>simp only[q08,q14,reduceCtorEq]at h2
 · obtain⟨h3,q,h4,i,h5,c,h6,h7⟩:=h2
   refine q0z hN hL h7 (.refl _) fun d hd hdn Q hq=>qho (q7f h3) ho hd hdn hx (q54 hL h4) (by rw[q4r.1 h5]; omega) (c:=c) ?_ hq
   rw[q4r.1 h5];rename_i b;have hlt:i<b.data.toList.length:=(zci.1 h6).1;have hlt2:i<b.size:=by rw[Array.length_toList]at hlt; exact hlt
   have h8:=(zci.1 h6).2;simp only[zcf];rw[getElem?_pos b i hlt2];simp only[←h8];congr 1
 · obtain⟨ae,h3,a,h4,n,h5,i,h6,v,h7,h8⟩:=h2
   obtain⟨DT,hD,rfl⟩:=qae h4;obtain⟨k,h9,h10⟩:=qw9 hL h6;exact q0z hN hL h8 (.refl _) fun d hd hdn Q hq=>qbs (qiq h3) hD (q2j h5) ho hd hdn hx h9 ⟨by omega,by omega⟩ (qrm (by simpa using h7)) hq
structure MapOpOk(P:Program)(sl:List (Nat×AV))(H:EH)(T:TypeId)(x y:Operand)(m:MapOp)(k:TypeId)(kk:KeyKind):Prop where
 hx:ev sl x=some (.map (some m.id))
 hy:ev sl y=some m.kv
 hT:P.underlying T=some (.map k m.e)
 mkey:MapKey P k (keyK kk) (keyQ kk)
 hg:H.ah.get m.id=some (.map m.es m.cl)
 hk:isKey kk m.kv=true
 hes:q8w kk m.es=true
theorem qjm{m:MapOp}(hL:Lk L sl)(h:qwv P L H T x y=some m):∃ k kk,MapOpOk P sl H T x y m k kk:=by
 simp only[qwv,q09,q2c,zbe]at h;obtain⟨mv,h1,id,h2,kv,h3,ke,h4,kk,h5,mm,h6,h7,h8,h9⟩:=h;have:=qq7 h2;subst this;subst h9;exact⟨ke.1,kk,q0m hL h1,q0m hL h3,qr8 h4,qez h5,qj9 h6,h7,h8⟩
theorem MapOpOk.keys{m:MapOp}{k:TypeId}{kk:KeyKind}(h:MapOpOk P sl H T x y m k kk):∀ e∈m.es,keyK kk e.1:=fun e he=>q7d (qdy h.hes e he)
theorem qtx{ok:Bool}(hN:N≤1000000)(hL:Lk L sl)(ho:o.op= .lookup T x y ok)(h:qpp P N o L H D T x y ok= .code e s'):OpOk P r o sl N L H D e s':=by
 simp only[qpp,q08]at h;obtain⟨m,h1,zv,h2,h3⟩:=h;obtain⟨k,kk,hm⟩:=qjm hL h1;obtain⟨hf,_⟩:=q68 hm.hk (i:=0) hm.hes;cases hq:qem m.kv m.es 0 with
 | none=>
   rw[hq]at h3 hf;refine q0z hN hL h3 (.refl _) fun d hd hdn Q hq=>qdt hm.hT (q3x h2) hm.mkey ho hd hdn hm.hx hm.hy (q7d hm.hk) hm.hg hm.keys ?_ hq
   rw[hf]; cases ok<;>rfl
 | some f=>
   rw[hq]at h3 hf;refine q0z hN hL h3 (.refl _) fun d hd hdn Q hq=>qdt hm.hT (q3x h2) hm.mkey ho hd hdn hm.hx hm.hy (q7d hm.hk) hm.hg hm.keys ?_ hq
   rw[hf]; cases ok<;>rfl
theorem qkq(hL:Lk L sl)(ho:o.op= .mapUpdate T x y z)(h:qc7 P N o L H D T x y z= .code e s'):OpOk P r o sl N L H D e s':=by
 simp only[qc7,q08]at h;obtain⟨m,h1,v,h2,h3⟩:=h;obtain⟨k,kk,hm⟩:=qjm hL h1;obtain⟨hf,hf2⟩:=q68 hm.hk (i:=0) hm.hes;cases hq:qem m.kv m.es 0 with
 | none=>
   rw[hq]at h3 hf;simp only[q08]at h3;obtain⟨H',h4,h5⟩:=h3;refine qpz hL h5 (EH.zaf h4).2.2 fun hd Q hq=>qcw hm.hT hm.mkey ho hd hm.hx hm.hy (q0m hL h2) (q7d hm.hk) hm.hg hm.keys hf fun h' ha=>?_
   have:=q21 h4 ha;subst this; exact hq
 | some f=>
   rw[hq]at h3 hf;simp only[q08]at h3;obtain⟨H',h4,h5⟩:=h3;rw[q5h]at h4;refine qpz hL h5 (EH.zaf h4).2.2 fun hd Q hq=>qcv hm.hT hm.mkey ho hd hm.hx hm.hy (q0m hL h2) (q7d hm.hk) hm.hg hm.keys hf fun h' ha=>?_
   have:=q21 h4 ha;subst this; exact hq
theorem qnj(hN:N≤1000000)(hL:Lk L sl)(ho:o.op= .mapEntry T x y)(h:qge P N o L H D T x y= .code e s'):OpOk P r o sl N L H D e s':=by
 simp only[qge,q08]at h;obtain⟨m,h1,zv,h2,h3⟩:=h;obtain⟨k,kk,hm⟩:=qjm hL h1;obtain⟨hf,hf2⟩:=q68 hm.hk (i:=0) hm.hes;cases hq:qem m.kv m.es 0 with
 | none=>
   rw[hq]at h3 hf;simp only[q08]at h3;obtain⟨H',h4,h5⟩:=h3;refine q0z hN hL h5 (EH.zaf h4).2.2 fun d hd hdn Q hq=>qpu hm.hT (q3x h2) hm.mkey ho hd hdn hm.hx hm.hy (q7d hm.hk) hm.hg hm.keys hf fun h' ha=>?_
   have:=q21 h4 ha;subst this; exact hq
 | some f=>
   obtain⟨_,e0,h6,h7⟩:=hf2 f hq;rw[hq]at h3 hf;simp only[q08]at h3;obtain⟨H',h4,h5⟩:=h3;rw[q5h]at h4;refine q0z hN hL h5 (EH.zaf h4).2.2 fun d hd hdn Q hq=>qpt hm.hT (q3x h2) hm.mkey ho hd hdn hm.hx hm.hy (q7d hm.hk) hm.hg hm.keys hf (e0:=e0) (by simpa using h6) fun h' ha=>?_
   have:=q21 h4 ha;subst this;rw[show e0.2.1=f.2.1 by rw[h7],show e0.2.2=f.2.2 by rw[h7]]
   exact hq
theorem qgs(hL:Lk L sl)(ho:o.op= .entryStore T x y z)(h:q9m N o L H D x y z= .code e s'):OpOk P r o sl N L H D e s':=by
 simp only[q9m,q08]at h;obtain⟨mv,h1,id,h2,b,h3,v,h4,m,h5,i,h6,H',h7,h8⟩:=h;have:=qq7 h2;subst this;rw[q5h]at h7;refine qpz hL h8 (EH.zaf h7).2.2 fun hd Q hq=>qnn ho hd (q0m hL h1) (q54 hL h3) (q0m hL h4) (qj9 h5) (by simpa using (qa7 h6).2) fun h' ha=>?_
 have:=q21 h7 ha;subst this; exact hq
theorem qz2(hN:N≤1000000)(hL:Lk L sl)(ho:o.op= .range T x)(h:qz1 P N o L H D T x= .code e s'):OpOk P r o sl N L H D e s':=by
 simp only[qz1,q08,q14]at h;obtain⟨v,h1,p,h2,h3,h4⟩:=h;have:=qq8 h2;subst this;refine qor hN hL h4 fun d hd hdn Q hq=>?_
 refine qdv (c:= .siter p 0) (cap:=0) (v:= .ptr (some (H.next,0))) hd hdn (by simp[Oper.noDefer,ho]) (fun hw=>⟨by simp[Chunk.sup],by simp[AV.sup,supA,EH.ah]⟩) (fun hw ρ a w hrel=>?_) (hq _ _ (AH.z9w _ _))
 have hu:=run_underlying (q7f h3) w;refine⟨.stringIter p 0,w.drawn,?_,by simp[Ren.plus,EH.ah],by simp[Ren.plus,EH.ah]⟩
 simp only[execOp,ho];simp[Instr.range,run_underlying (q7f h3),q03 hrel (q0m hL h1),conc,Ren.addr,Ren.plus,EH.ah]
theorem qz0{b:Bool}(hN:N≤1000000)(hL:Lk L sl)(ho:o.op= .next x b)(h:qyz N o L H D x b= .code e s'):OpOk P r o sl N L H D e s':=by
 simp only[qyz,q08,q14,zbf]at h;obtain⟨q,h1,⟨rfl,h2⟩,it,h3,h4⟩:=h;have hx:=qa4 hL h1;obtain⟨i,off⟩:=q;have h2:=zbg h2;simp only at h2 h3 hx;subst h2;cases hb:Nat.blt it.2 it.1.size with
 | true=>
   simp only[hb,q08]at h4;obtain⟨H',h5,h6⟩:=h4;refine q0z hN hL h6 (EH.zaf h5).2.2 fun d hd hdn Q hq=>z6k ho hd hdn hx (qlp h3) (by simpa [Nat.blt_eq]using hb) fun h' ha=>?_
   have:=q21 h5 ha;subst this; exact hq
 | false=>
   simp only[hb]at h4;refine q0z hN hL h4 (.refl _) fun d hd hdn Q hq=>z6j ho hd hdn hx (qlp h3) (fun hlt=>?_) hq
   have:Nat.blt it.2 it.1.size=true:=by rw[Nat.blt_eq]; exact hlt
   rw[hb]at this; cases this
theorem qpn{i:Nat}(hN:N≤1000000)(hL:Lk L sl)(ho:o.op= .extract x i)(h:qkj N o L H D x i= .code e s'):OpOk P r o sl N L H D e s':=by
 simp only[qkj,q08]at h;obtain⟨v,h1,vs,h2,u,h3,h4⟩:=h;have:=qzr h2;subst this;exact q0z hN hL h4 (.refl _) fun d hd hdn Q hq=>qmg ho hd hdn (q0m hL h1) h3 hq
theorem z2r{α:Type}{l:List α}{a:α}(h:is1 l=some a):l=[a]:=by
 cases l with
 | nil=>simp[is1]at h
 | cons b l=>cases l<;>simp[is1]at h; subst h; rfl
theorem qci{α:Type}{l:List α}{a:α×α}(h:is2 l=some a):l=[a.1,a.2]:=by
 cases l with
 | nil=>simp[is2]at h
 | cons b l=>cases l with
   | nil=>simp[is2]at h
   | cons c l=>cases l<;>simp[is2]at h; subst h; rfl
theorem q6w{α:Type}{a:Array α}{l:List α}(h:a.toList=l):a=l.toArray:=by subst h; simp
theorem z6b{args:Array Operand}{ts:Array TypeId}(hN:N≤1000000)(hL:Lk L sl)(ho:o.op= .call {callee:= .builtin .len,args:=args,argTypes:=ts})(h:xLen P N o L H D args.toList ts.toList= .code e s'):OpOk P r o sl N L H D e s':=by
 simp only[xLen,q08]at h;obtain⟨x,h1,t,h2,v,h3,n,h4,h5⟩:=h;have e1:=q6w (z2r h1);have e2:=q6w (z2r h2);subst e1; subst e2;have hx:=q0m hL h3;refine q0z hN hL h5 (.refl _) fun d hd hdn Q hq=>?_
 have arr:od (arrE P t) (fun a=>some a.1)=some n→JO P r o ⟨sl,H.ah,N,D⟩ Q:=by
  intro h6;simp only[q09,zbe]at h6;obtain⟨a,h7,rfl⟩:=h6;exact z0z (qiq h7) ho hd hdn hx hq
 cases v with
 | slice p m c=>
   simp only[lenE,q09,zbe]at h4;obtain⟨el,h6,rfl⟩:=h4;exact z5k (q48 h6) ho hd hdn hx hq
 | str b=>
   simp only[lenE,q2c,zbe]at h4;obtain⟨h6,rfl⟩:=h4;exact qri (q7f h6) ho hd hdn hx hq
 | map rr=>
   simp only[lenE,q09,zbe]at h4;obtain⟨id,rfl,ke,h6,m,h7,rfl⟩:=h4;exact z10 (qr8 h6) ho hd hdn hx (qj9 h7) hq
 | _=>exact arr h4
theorem q6k{n esz:Nat}{p:Option (Nat×Nat)}{cs:List AV}(h:q4h H n esz p=some cs)(len:Nat)(c:Cap):q0g H.ah n esz (.slice p len c)=some cs:=by
 cases p with
 | none=>
   simp only[q4h,q2c,zbe]at h;obtain⟨h1,rfl⟩:=h;simp[q0g,zbg h1]
 | some q=>
   simp only[q4h,q09,q2c,zbe]at h;obtain⟨cs0,h1,h2,rfl⟩:=h;simp[q0g,EH.zae h1,zbj h2]
theorem qzo{t t2:TypeId}{esz:Nat}(h:z3u P t t2=some esz):∃ e by_ z,AppT P t t2 e esz by_ z:=by
 simp only[z3u,q09,q2c,zbe,z6r,zbf]at h;obtain⟨e,h1,h2,i,h3,z,h4,⟨h5,h6⟩,h7⟩:=h;subst h7;exact⟨e,i.bytes,z,q48 h1,notInt.of h2,by rw[h3]; rfl,q3x h4,zbg h6,zbj h5⟩
theorem qtw{args:Array Operand}{ts:Array TypeId}(hN:N≤1000000)(hL:Lk L sl)(ho:o.op= .call {callee:= .builtin .append,args:=args,argTypes:=ts})(h:qpl P N o L H D args.toList ts.toList= .code e s'):OpOk P r o sl N L H D e s':=by
 simp only[qpl,q08]at h;obtain⟨x,h1,t,h2,vx,h3,vy,h4,h5⟩:=h;have e1:=q6w (qci h1);have e2:=q6w (qci h2);subst e1; subst e2;have hx:=q0m hL h3;have hy:=q0m hL h4;simp only[quq,q08]at h5;obtain⟨esz,h6,a,h7,b,h8,new,h9,h10⟩:=h5;have ea:=qir h7;have eb:=qir h8;subst ea; subst eb;obtain⟨p,n0,c0⟩:=a;obtain⟨q,n,c2⟩:=b;simp only at h9 h10 hx hy;obtain⟨el,by_,z,ha⟩:=qzo h6;have hnew:=q6k h9 n c2;cases c0 with
 | exact cap=>
   simp only[qum]at h10;cases hn:Nat.beq n 0 with
   | true=>
     simp only[hn,q14]at h10;have:=zbg hn;subst this;have hlen:=q1k hnew;simp at hlen;subst hlen;exact q0z hN hL h10.2 (.refl _) fun d hd hdn Q hq=>qxc ha ho hd hdn hx hy hnew (zbj h10.1) hq
   | false=>
     simp only[hn]at h10;cases hc:Nat.blt cap (n0+n)with
     | true=>
       simp only[hc,z29,q08,q14]at h10;obtain⟨old,k1,k2,H',k3,k4⟩:=h10;refine q0z hN hL k4 (EH.zad k3).2.2 fun d hd hdn Q hq=>qmf ha ho hd hdn hx hy (q6k k1 n0 (.exact cap)) hnew (by simpa [Nat.blt_eq]using hc) (zbj k2) rfl fun i h' hadd=>?_
       obtain⟨rfl,rfl⟩:=q4z k3 hadd;exact hq
     | false=>
       have hfit:n0+n≤cap:=by
        apply Nat.le_of_not_lt;intro hlt;have:Nat.blt cap (n0+n)=true:=by rw[Nat.blt_eq]; exact hlt
        rw[hc]at this; cases this
       simp only[hc,z28,q08,q14]at h10;obtain⟨a,rfl,cs,k1,k2,k3,H',k4,k5⟩:=h10;have k3:=zbj k3;have hln:=q1k hnew;rw[q5x (by rw[hln]; rw[zc7]at k3; omega)]at k4
       refine q0z hN hL k5 (EH.zaf k4).2.2 fun d hd hdn Q hq=>qmd ha ho hd hdn hx hy (qqt k1) hnew (q8e k2) hfit k3 rfl fun h' hset=>?_
       have:=q21 k4 hset;subst this; exact hq
 | grow dd=>
   simp only[qum,qun,q08,q14]at h10;obtain⟨a,rfl,k1,k2,g,k3,k4,k5,k6,k7,H1,k8,H',k9,k10⟩:=h10;obtain⟨id,off⟩:=a;have k1:=zbg k1;have k2:=zbg k2;have k4:=zbg k4;have k5:=zbg k5;simp only at k1 k3 k8;subst k1; subst k2; subst k4;refine q0z hN hL k10 ((EH.zaf k8).2.2.trans (EH.zad k9).2.2) fun d hd hdn Q hq=>qme ha ho hd hdn hx hy (qew k3) k5 hnew (q8e k6) (zbj k7) rfl fun i h' hm=>?_
   obtain⟨rfl,rfl⟩:=qwz k8 k9 hm;have hnx:H1.next=H.next:=(EH.zaf k8).1;exact hq
theorem qsg{c:Cap}{n:Nat}(h:c.asExact=some n):c= .exact n:=by cases c<;>simp[Cap.asExact]at h; subst h; rfl
theorem z1v{args:Array Operand}{ts:Array TypeId}(hN:N≤1000000)(hL:Lk L sl)(ho:o.op= .call {callee:= .builtin .copy,args:=args,argTypes:=ts})(h:z6a P N o L H D args.toList ts.toList= .code e s'):OpOk P r o sl N L H D e s':=by
 simp only[z6a,q08]at h;obtain⟨x,h1,t,h2,vx,h3,vy,h4,h5⟩:=h;have e1:=q6w (qci h1);have e2:=q6w (qci h2);subst e1; subst e2;have hx:=q0m hL h3;have hy:=q0m hL h4;simp only[z6y,q08]at h5;obtain⟨el,h6,esz,h7,a,h8,b,h9,cap,h10,h11⟩:=h5;have ea:=qir h8;have eb:=qir h9;subst ea; subst eb;obtain⟨p,dl,c0⟩:=a;obtain⟨q,sn,c2⟩:=b;simp only at h10 h11 hx hy;have:=qsg h10;subst this;simp only[z2j,q08,q14]at h11;obtain⟨w,rfl,cs,k1,new,k2,k3,k4,H',k5,k6⟩:=h11;have hnew:=q6k k2 sn c2;have k4:=zbj k4;have hln:=q1k hnew;rw[q5x (by rw[hln]; exact k4)]at k5
 refine q0z hN hL k6 (EH.zaf k5).2.2 fun d hd hdn Q hq=>z30 (q48 h6) (q2j h7) ho hd hdn hx hy (qqt k1) rfl hnew (q8e k3) k4 rfl fun h' hset=>?_
 have:=q21 k5 hset;subst this; exact hq
theorem z5a{a b:Int}:minI a b=if b<a then b else a:=by
 unfold minI;rw[qiv]
 by_cases h:b<a
 · rw[decide_eq_true h,if_pos h]
 · rw[decide_eq_false h,if_neg h]
theorem z59{a b:Int}:maxI a b=if b > a then b else a:=by
 unfold maxI;rw[qiv]
 by_cases h:a<b
 · rw[decide_eq_true h,if_pos h]
 · rw[decide_eq_false h,if_neg h]
theorem z6e{args:Array Operand}{ts:Array TypeId}(hN:N≤1000000)(hL:Lk L sl)(ho:o.op= .call {callee:= .builtin .min,args:=args,argTypes:=ts})(h:xMin N o L H D args.toList ts.toList= .code e s'):OpOk P r o sl N L H D e s':=by
 simp only[xMin,qra,q08,q14]at h;obtain⟨x,h1,t,h2,a,h3,b,h4,h5,h6⟩:=h;have e1:=q6w (qci h1);have e2:=q6w (qci h2);subst e1; subst e2;have hk:=q47.1 h5;have hb:=q54 hL h4;rw[hk]at hb;exact q0z hN hL h6 (.refl _) fun d hd hdn Q hq=>z7x ho hd hdn (q54 hL h3) hb (by rw[←z5a]; exact hq)
theorem z6d{args:Array Operand}{ts:Array TypeId}(hN:N≤1000000)(hL:Lk L sl)(ho:o.op= .call {callee:= .builtin .max,args:=args,argTypes:=ts})(h:xMax N o L H D args.toList ts.toList= .code e s'):OpOk P r o sl N L H D e s':=by
 simp only[xMax,qra,q08,q14]at h;obtain⟨x,h1,t,h2,a,h3,b,h4,h5,h6⟩:=h;have e1:=q6w (qci h1);have e2:=q6w (qci h2);subst e1; subst e2;have hk:=q47.1 h5;have hb:=q54 hL h4;rw[hk]at hb;exact q0z hN hL h6 (.refl _) fun d hd hdn Q hq=>z7w ho hd hdn (q54 hL h3) hb (by rw[←z59]; exact hq)
theorem qny{b:Builtin}{args:Array Operand}{ts:Array TypeId}(hN:N≤1000000)(hL:Lk L sl)(ho:o.op= .call {callee:= .builtin b,args:=args,argTypes:=ts})(h:qiw P N o L H D b args.toList ts.toList= .code e s'):OpOk P r o sl N L H D e s':=by
 cases b<;>simp only[qiw,reduceCtorEq]at h
 · exact qtw hN hL ho h
 · exact z1v hN hL ho h
 · exact z6b hN hL ho h
 · exact z6d hN hL ho h
 · exact z6e hN hL ho h
end ops
def qcy(n:Nat)(e:AExit)(s':ES):AExit→St→Prop:=fun e2 s2=>e2=e∧s2.h=s'.h.ah∧s2.n=n∧s2.defs=s'.ds∧Lk s'.sl s2.slots
def Snd(P:Program):Tk→Rs→Prop
 | .code r n c s,.code e s'=>n≤1000000→(∀ sl,Lk s.sl sl→J P r c ⟨sl,s.h.ah,n,s.ds⟩ (qcy n e s'))∧Lg s.h s'.h
 | .call f args h,.fin v h'=>(∃ fn c,IsFn P f fn c)∧q0n P f args h.ah (fun e h2=>e= .ret v∧h2=h'.ah)∧Lg h h'
 | .app fv args h,.fin v h'=>JApp P fv args h.ah (fun e h2=>e= .ret v∧h2=h'.ah)∧Lg h h'
 | _,_=>True
theorem q7p{α:Type}:∀ (t:Tr α) (f:Nat→Nat) (acc:List (Nat×α)) (k:Nat) (v:α),(k,v)∈t.toL f acc↔(∃ n,f n=k∧t.get n=some v)∨(k,v)∈acc
 | .nil,f,acc,k,v=>by simp[Tr.toL,Tr.get_nil]
 | .node w t0 t1 t2 t3,f,acc,k,v=>by
   have h3:=q7p t3 (fun n=>f (4 * n+4)) acc k v
   have h2:=q7p t2 (fun n=>f (4 * n+3)) (t3.toL (fun n=>f (4 * n+4)) acc) k v
   have h1:=q7p t1 (fun n=>f (4 * n+2)) (t2.toL (fun n=>f (4 * n+3)) (t3.toL (fun n=>f (4 * n+4)) acc)) k v
   have h0:=q7p t0 (fun n=>f (4 * n+1)) (t1.toL (fun n=>f (4 * n+2)) (t2.toL (fun n=>f (4 * n+3)) (t3.toL (fun n=>f (4 * n+4)) acc))) k v
   have split:(∃ n,f n=k∧(Tr.node w t0 t1 t2 t3).get n=some v)↔(f 0=k∧w=some v)∨(∃ n,f (4 * n+1)=k∧t0.get n=some v)∨(∃ n,f (4 * n+2)=k∧t1.get n=some v)∨(∃ n,f (4 * n+3)=k∧t2.get n=some v)∨(∃ n,f (4 * n+4)=k∧t3.get n=some v):=by
    constructor
    · rintro⟨n,q1,q2⟩
      cases n with
      | zero=>exact .inl ⟨q1,q2⟩
      | succ n=>
        rw[Tr.zas]at q2;rcases mod4 n with e | e | e | e<;>simp only[sel4,e,if_true,if_false,Nat.reduceEqDiff,Nat.one_ne_zero]at q2
        · exact .inr (.inl ⟨n / 4,by rw[show 4 * (n / 4)+1=n+1 by omega]; exact q1,q2⟩)
        · exact .inr (.inr (.inl ⟨n / 4,by rw[show 4 * (n / 4)+2=n+1 by omega]; exact q1,q2⟩))
        · exact .inr (.inr (.inr (.inl ⟨n / 4,by rw[show 4 * (n / 4)+3=n+1 by omega]; exact q1,q2⟩)))
        · exact .inr (.inr (.inr (.inr ⟨n / 4,by rw[show 4 * (n / 4)+4=n+1 by omega]; exact q1,q2⟩)))
    · rintro(⟨q1,q2⟩ | ⟨n,q1,q2⟩ | ⟨n,q1,q2⟩ | ⟨n,q1,q2⟩ | ⟨n,q1,q2⟩)
      · exact⟨0,q1,q2⟩
      · refine⟨4 * n+1,q1,?_⟩
        rw[Tr.zas,show 4 * n % 4=0 by omega,show 4 * n / 4=n by omega]; exact q2
      · refine⟨4 * n+2,q1,?_⟩
        rw[show 4 * n+2=(4 * n+1)+1 by omega,Tr.zas,show(4 * n+1) % 4=1 by omega,show(4 * n+1) / 4=n by omega]; exact q2
      · refine⟨4 * n+3,q1,?_⟩
        rw[show 4 * n+3=(4 * n+2)+1 by omega,Tr.zas,show(4 * n+2) % 4=2 by omega,show(4 * n+2) / 4=n by omega]; exact q2
      · refine⟨4 * n+4,q1,?_⟩
        rw[show 4 * n+4=(4 * n+3)+1 by omega,Tr.zas,show(4 * n+3) % 4=3 by omega,show(4 * n+3) / 4=n by omega]; exact q2
   simp only[Tr.toL];rw[split];cases w with
   | none=>simp only[h0,h1,h2,h3,reduceCtorEq,and_false,false_or,or_assoc]
   | some a=>
     simp only[zbm,h0,h1,h2,h3,zbt,zbe,or_assoc];constructor
     · rintro(⟨q1,q2⟩ | h)
       · exact .inl ⟨q1.symm,q2.symm⟩
       · exact .inr h
     · rintro(⟨q1,q2⟩ | h)
       · exact .inl ⟨q1.symm,q2.symm⟩
       · exact .inr h
theorem qm0{l:List (Nat×AV)}{k:Nat}{v:AV}(h:(k,v)∈l)(hu:∀ u,(k,u)∈l→u=v):lk l k=some v:=by
 induction l with
 | nil=>cases h
 | cons kv r ih=>
   simp only[lk];split
   · rename_i hb
     have hk:kv.1=k:=zbg hb;exact congrArg some (hu kv.2 (by rw[←hk]; exact zbq))
   · rename_i hb
     rcases zbm.1 h with h1 | h1
     · subst h1; simp at hb
     · exact ih h1 (fun u hu'=>hu u (zbh _ hu'))
theorem qna(t:Tr AV):Lk t (t.toL id []):=by
 intro k v hv;refine qm0 ((q7p t id [] k v).2 (.inl ⟨k,rfl,hv⟩)) fun u hu=>?_
 rcases(q7p t id [] k u).1 hu with⟨n,h1,h2⟩ | h
 · simp only[id]at h1; subst h1; rw[hv]at h2; cases h2; rfl
 · cases h
theorem qkd{t:Tr AV}{sl:List (Nat×AV)}(h:Lk t sl):SubL (t.toL id []) sl:=by
 have:∀ l:List (Nat×AV),(∀ kv∈l,lk sl kv.1=some kv.2)→SubL l sl:=by
  intro l
  induction l with
  | nil=>intro _; trivial
  | cons kv r ih=>intro hh; exact⟨hh kv zbq,ih fun x hx=>hh x (zbh _ hx)⟩
 refine this _ fun kv hkv=>?_
 rcases(q7p t id [] kv.1 kv.2).1 hkv with⟨n,h1,h2⟩ | h'
 · simp only[id]at h1; subst h1; exact h _ _ h2
 · cases h'
section ops
variable{P:Program}{r:Option Nat}{N:Nat}{o:Oper}{L:Tr AV}{H:EH}{D:List ADef}{sl:List (Nat×AV)}{e:AExit}{s s':ES}{x y z:Operand}{v:AV}{T U:TypeId}{ih:Tk→Rs}
theorem qyu{args:Array Operand}{ts:Array TypeId}(hih:∀ t,Snd P t (ih t))(hN:N≤1000000)(hL:Lk L sl)(ho:o.op= .call {callee:= .value x,args:=args,argTypes:=ts})(h:qyt ih N o L H D x args.toList= .code e s'):OpOk P r o sl N L H D e s':=by
 simp only[qyt,q08]at h;obtain⟨fv,h1,vs,h2,h3⟩:=h;have hs:=hih (.app fv vs H);revert h3 hs;generalize ih (.app fv vs H)=z;intro h3 hs;cases z with
 | code e s=>simp[qj0]at h3
 | no w=>simp[qj0]at h3
 | fin v h'=>
   obtain⟨ha,hlg⟩:=hs;simp only[qj0]at h3;refine q0z hN hL h3 hlg fun d hd hdn Q hq=>qju ho hd hdn (q0m hL h1) (q85 hL h2) (ha.mono ?_)
   rintro e2 h2 ⟨rfl,rfl⟩;exact hq
theorem qrk(hih:∀ t,Snd P t (ih t))(hN:N≤1000000)(hL:Lk L sl)(h:opE P ih N o L H D= .code e s'):OpOk P r o sl N L H D e s':=by
 have h:opF o.op P ih N o L H D= .code e s':=h;cases hop:o.op<;>rw[hop]at h
 case move=>exact qs7 hN hL (.inl hop) h
 case assign=>exact qs7 hN hL (.inr hop) h
 case pick=>exact z1x hN hL hop h
 case alloc=>exact qyq hN hL hop h
 case box=>exact z69 hN hL hop h
 case build=>exact qys hN hL hop h
 case buildSlice=>exact qgr hN hL hop h
 case load=>exact z1w hN hL hop h
 case store=>exact qz6 hL hop h
 case nilCheck=>exact qnl hN hL hop h
 case binOp=>exact z68 hN hL hop h
 case unOp=>exact z90 hN hL hop h
 case convert=>exact qpm hN hL hop h
 case makeFunc=>exact qni hN hL hop h
 case makeMap=>exact qpq hN hL hop h
 case makeSlice=>exact qkp hN hL hop h
 case slice=>exact qz4 hN hL hop h
 case fieldAddr=>exact qkk hN hL hop h
 case field=>exact qyw hN hL hop h
 case indexAddr=>exact qkl hN hL hop h
 case index=>exact qyy hN hL hop h
 case lookup=>exact qtx hN hL hop h
 case mapUpdate=>exact qkq hL hop h
 case mapEntry=>exact qnj hN hL hop h
 case entryStore=>exact qgs hL hop h
 case range=>exact qz2 hN hL hop h
 case next=>exact qz0 hN hL hop h
 case extract=>exact qpn hN hL hop h
 case call c=>
  obtain⟨cal,args,ts⟩:=c;cases cal with
  | value x=>exact qyu hih hN hL hop h
  | builtin b=>exact qny hN hL hop h
  | invoke a b=>exact Rs.noConfusion h
 all_goals exact Rs.noConfusion h
theorem qtt{ops:Array Oper}(h:o.guard=none):qpj ops o L=some true:=by unfold qpj; rw[h]
theorem qij{ops:Array Oper}{g:Nat×Bool}{b:Bool}(h:o.guard=some g)(hw:qpj ops o L=some b):∃ oj d v,ops[g.1]?=some oj∧oj.dst=some d∧L.get d=some v∧qpk g.2 v=some b:=by
 unfold qpj at hw;rw[h]at hw;simp only[q09]at hw;obtain⟨oj,h1,d,h2,v,h3,h4⟩:=hw;exact⟨oj,d,v,by simpa using h1,h2,h3,h4⟩
theorem qik{w b:Bool}{v:AV}(h:qpk w v=some b):(∃ c,v= .bool c∧(c==w)=b)∨(v= .tuple []∧b=false):=by
 cases v with
 | bool c=>simp only[qpk,zbe]at h; exact .inl ⟨c,rfl,h⟩
 | tuple l=>cases l with
   | nil=>simp only[qpk,zbe]at h; exact .inr ⟨rfl,h.symm⟩
   | cons a b=>simp[qpk]at h
 | _=>simp[qpk]at h
theorem qbj{e:AExit}:q7e e=true↔e= .normal:=by cases e<;>simp[q7e]
theorem qc1{k:ES→Rs}{z:Rs}(h:qn9 k z= .code e s'):(∃ s1,z= .code .normal s1∧k s1= .code e s')∨(e≠ .normal∧z= .code e s'):=by
 cases z with
 | code e1 s1=>
   by_cases hn:e1= .normal
   · subst hn; exact .inl ⟨s1,rfl,h⟩
   · right
     have hf:q7e e1=false:=by cases hb:q7e e1 with | false=>rfl | true=>exact absurd (qbj.1 hb) hn
     unfold qn9 at h;simp only[hf,Rs.code.injEq]at h;obtain⟨rfl,rfl⟩:=h;exact⟨hn,rfl⟩
 | fin v h'=>simp[qn9]at h
 | no w=>simp[qn9]at h
theorem qc2{pos:String}{k:ES→Rs}{z:Rs}(h:z1o pos k z= .code e s'):(∃ s1,z= .code .normal s1∧k s1= .code e s')∨(e≠ .normal∧z= .code e s'):=by
 refine qc1 ?_;cases z with
 | code e1 s1=>exact h
 | fin v h'=>exact h
 | no w=>exact absurd h (by simp[z1o])
theorem qk1{ops:Array Oper}(hih:∀ t,Snd P t (ih t))(hN:N≤1000000):∀ (l pre post:List Oper) (s:ES) (sl:List (Nat×AV)),ops.toList=pre++(l++post)→Lk s.sl sl→opsE P ih ops N l s= .code e s'→
 e= .normal∧JL P r ops (List.range' pre.length l.length) ⟨sl,s.h.ah,N,s.ds⟩ (qcy N .normal s')∧Lg s.h s'.h
 | [],pre,post,s,sl,hops,hL,h=>by
   have h:Rs.code .normal s= .code e s':=h;cases h;exact⟨rfl,q0q ⟨rfl,rfl,rfl,rfl,hL⟩,.refl _⟩
 | o :: l,pre,post,s,sl,hops,hL,h=>by
   have h:z1o o.pos (opsE P ih ops N l) (op1E P ih ops N o s)= .code e s':=h
   have ho:ops[pre.length]?=some o:=by
    rw[←Array.getElem?_toList,hops]; simp
   obtain⟨L,H,D⟩:=s;have hdef:op1E P ih ops N o ⟨L,H,D⟩=ob (qpj ops o L) fun b=>Bool.rec (motive:=fun _=>Rs) (finE N o L D (.tuple []) H) (opE P ih N o L H D) b:=rfl
   rw[hdef]at h;have hnext:ops.toList=(pre++[o])++(l++post):=by rw[hops]; simp
   have hlen:(pre++[o]).length=pre.length+1:=by simp
   show e= .normal∧JL P r ops (pre.length :: List.range' (pre.length+1) l.length) _ _∧_;cases hw:qpj ops o L with
   | none=>rw[hw]at h; rcases qc2 h with⟨_,h1,_⟩ | ⟨_,h1⟩<;>simp[ob]at h1
   | some b=>
     rw[hw]at h;cases b with
     | true=>
       have hop:∀ e1 s1,opE P ih N o L H D= .code e1 s1→OpOk P r o sl N L H D e1 s1:=fun e1 s1 h1=>qrk hih hN hL h1
       rcases qc2 h with⟨s1,h1,h2⟩ | ⟨hne,h1⟩
       · have h1:opE P ih N o L H D= .code .normal s1:=h1
         have k:=hop _ _ h1;have rest:∀ sl1,Lk s1.sl sl1→_:=fun sl1 hL1=>qk1 hih hN l (pre++[o]) post s1 sl1 hnext hL1 h2
         rw[hlen]at rest
         have hjo:JO P r o ⟨sl,H.ah,N,D⟩ (Then (fun s2=>JL P r ops (List.range' (pre.length+1) l.length) s2 (qcy N .normal s')) (qcy N .normal s')):=by
          refine k.jo.mono ?_;rintro e2 ⟨sl2,h2',n2,d2⟩ ⟨rfl,q1,q2,q3,q4⟩;simp only at q1 q2 q3 q4;subst q1; subst q2; subst q3;exact(rest sl2 q4).2.1
         have hlg:Lg H s'.h:=k.lg.trans (rest (s1.sl.toL id []) (qna _)).2.2;refine⟨(rest (s1.sl.toL id []) (qna _)).1,?_,hlg⟩;cases hg:o.guard with
         | none=>exact q07 ho hg hjo
         | some g=>
           obtain⟨oj,d,v,g1,g2,g3,g4⟩:=qij hg hw;rcases qik g4 with⟨c,rfl,g5⟩ | ⟨rfl,g5⟩
           · have:c=g.2:=by simpa using g5
             subst this;exact qu5 ho hg g1 g2 (hL _ _ g3) hjo
           · cases g5
       · exact absurd (hop _ _ h1).norm hne
     | false=>
       have hfin:∀ e1 s1,finE N o L D (.tuple []) H= .code e1 s1→ ∃ d,o.dst=some d∧d<N∧e1= .normal∧s1=⟨Tr.set 20 L d (some (.tuple [])),H,D⟩:=fun e1 s1 h1=>qlk.1 h1
       rcases qc2 h with⟨s1,h1,h2⟩ | ⟨hne,h1⟩
       · obtain⟨d,d1,d2,_,rfl⟩:=hfin _ _ h1
         have hL1:Lk (Tr.set 20 L d (some (.tuple []))) ((d,.tuple []) :: sl):=hL.put (Nat.le_of_lt (zcm d2 hN));obtain⟨r1,r2,r3⟩:=qk1 hih hN l (pre++[o]) post _ _ hnext hL1 h2;rw[hlen]at r2;refine⟨r1,?_,r3⟩;cases hg:o.guard with
         | none=>rw[qtt hg]at hw; cases hw
         | some g=>
           obtain⟨oj,dj,v,g1,g2,g3,g4⟩:=qij hg hw;rcases qik g4 with⟨c,rfl,g5⟩ | ⟨rfl,g5⟩
           · exact z8x (want:=g.2) (j:=g.1) ho hg g1 g2 (hL _ _ g3) (by simpa using g5) d1 d2 r2
           · exact z66 (want:=g.2) (j:=g.1) ho hg g1 g2 (hL _ _ g3) d1 d2 r2
       · exact absurd (hfin _ _ h1).choose_spec.2.2.1 hne
end ops
theorem qw4{α:Type}:∀ (l:List α) (n:Nat),getL l n=l[n]?
 | [],n=>by simp[getL]
 | a :: l,0=>rfl
 | a :: l,n+1=>by
   have:getL (a :: l) (n+1)=getL l n:=rfl;rw[this,qw4 l n]; simp
theorem qoz:∀ (l:List (Nat×AV)) (k:Nat) (v:AV),(ofL l).get k=some v→k≤1000000∧lk l k=some v
 | [],k,v,h=>by simp[ofL,Tr.get_nil]at h
 | kv :: r,k,v,h=>by
   simp only[ofL]at h;cases hb:Nat.ble kv.1 1000000 with
   | true=>
     have hle:=zbj hb;simp only[hb]at h;rw[Tr.zat 20 _ _ _ _ (by omega)]at h
     simp only[lk];split at h
     · rename_i e; subst e; simp only[zbe]at h; subst h; exact⟨hle,by simp⟩
     · rename_i e
       have:Nat.beq kv.1 k=false:=by cases hb2:Nat.beq kv.1 k with | false=>rfl | true=>exact absurd (zbg hb2).symm e
       simp only[this];exact qoz r k v h
   | false=>
     simp only[hb]at h;obtain⟨h1,h2⟩:=qoz r k v h;refine⟨h1,?_⟩
     have:Nat.beq kv.1 k=false:=by
      cases hb2:Nat.beq kv.1 k with
      | false=>rfl
      | true=>
        have:=zbg hb2;rw[this]at hb;have:=Nat.ble_eq_true_of_le h1;rw[hb]at this; cases this
     simp only[lk,this]; exact h2
theorem qhs(l:List (Nat×AV)):Lk (ofL l) l:=fun k v h=>(qoz l k v h).2
theorem qr6{L:Tr AV}(t:Nat):lk (L.toL id []) t=L.get t:=by
 cases h:L.get t with
 | some v=>exact qna L t v h
 | none=>
   cases h2:lk (L.toL id []) t with
   | none=>rfl
   | some v=>
     rcases(q7p L id [] t v).1 (qwp h2)with⟨n,h3,h4⟩ | h3
     · simp only[id]at h3; subst h3; rw[h]at h4; cases h4
     · cases h3
theorem z8l{t:Tr Chunk}{i:Nat}{c:Option Chunk}(j:Nat):(Bool.rec (motive:=fun _=>Tr Chunk) t (Tr.set 40 t i c) (Nat.ble i lim):Tr Chunk).get j=if j=i∧i≤lim then c else t.get j:=by
 cases hb:Nat.ble i lim with
 | true=>
   have hl:=zbj hb;have h2:i+2≤2 ^ 40:=by simp only[lim]at hl; omega
   show(Tr.set 40 t i c).get j=_;rw[Tr.zat 40 t i c j h2]
   by_cases e:j=i
   · rw[if_pos e,if_pos ⟨e,hl⟩]
   · rw[if_neg e,if_neg (fun h=>e h.1)]
 | false=>
   show t.get j=_;rw[if_neg];rintro⟨_,h⟩;have:=Nat.ble_eq_true_of_le h;rw[hb]at this; cases this
theorem q8j{t0:Tr Chunk}:∀ {f:List Nat} {t:Tr Chunk} (j:Nat),((q6r t0 f t).get j=t0.get j∧j∈f∧j≤lim)∨((q6r t0 f t).get j=t.get j∧(j∉f∨ ¬ j≤lim))
 | [],t,j=> .inr ⟨rfl,.inl (by simp)⟩
 | i :: r,t,j=>by
   simp only[q6r];rcases q8j (t0:=t0) (f:=r) (t:=Bool.rec (motive:=fun _=>Tr Chunk) t (Tr.set 40 t i (t0.get i)) (Nat.ble i lim)) j with⟨h1,h2,h3⟩ | ⟨h1,h2⟩
   · exact .inl ⟨h1,zbh _ h2,h3⟩
   · rw[z8l]at h1
     by_cases e:j=i∧i≤lim
     · rw[if_pos e]at h1
       left;obtain⟨rfl,e2⟩:=e;exact⟨h1,zbq,e2⟩
     · rw[if_neg e]at h1
       right;refine⟨h1,?_⟩
       by_cases hl:j≤lim
       · left
         rcases h2 with h2 | h2
         · intro hm
           rcases zbm.1 hm with rfl | hm
           · exact e ⟨rfl,hl⟩
           · exact h2 hm
         · exact absurd hl h2
       · exact .inr hl
theorem qlt:∀ {f:List Nat} {t:Tr Chunk} (j:Nat) {c:Chunk},(z0e f t).get j=some c→t.get j=some c
 | [],t,j,c,h=>h
 | i :: r,t,j,c,h=>by
   simp only[z0e]at h;have:=qlt (f:=r) j h;rw[z8l]at this;split at this
   · cases this
   · exact this
theorem q99{T1:List (List Nat)}:∀ {un:List Nat} {t:Tr Chunk} (j:Nat) {c:Chunk},(qbh T1 un t).get j=some c→t.get j=some c
 | [],t,j,c,h=>h
 | k :: r,t,j,c,h=>by
   simp only[qbh]at h;split at h
   · exact qlt j (q99 (un:=r) j h)
   · exact q99 (un:=r) j h
theorem beq_false{a b:Nat}(h:a≠b):Nat.beq a b=false:=by cases hb:Nat.beq a b with | false=>rfl | true=>exact absurd (zbg hb) h
theorem ql5:∀ {l:List (List Nat)} {j0:Nat},bfLt l j0=true→ ∀ (j:Nat) (b:List Nat),l[j]?=some b→ ∀ k∈b,k<j0+j
 | [],_,_,j,b,h=>by simp at h
 | x :: l,j0,hb,j,b,h=>by
   simp only[bfLt,zbf]at hb;cases j with
   | zero=>
     simp at h; subst h;intro k hk;have:=zc1.1 hb.1 k hk;rw[Nat.blt_eq]at this; omega
   | succ j=>
     intro k hk;have:=ql5 hb.2 j b (by simpa using h) k hk
     omega
theorem qis(ops:Array Oper):(befs ops).length=ops.size:=by
 unfold befs;rw[ql4]; simp
theorem qic{ops:Array Oper}:∀ {l:List Oper} {bs:List (List Nat)},l.length=bs.length→ ∀ (j:Nat) (o:Oper) (b:List Nat),l[j]?=some o→bs[j]?=some b→(qn1 ops l bs)[j]?=some ((qyi ops o).map (q1g ops b))
 | [],_,_,j,o,b,h,_=>by simp at h
 | x :: l,[],hl,_,_,_,_,_=>by simp at hl
 | x :: l,y :: bs,hl,j,o,b,h1,h2=>by
   cases j with
   | zero=>simp at h1 h2; subst h1; subst h2; simp[qn1]
   | succ j=>
     simp only[qn1,List.getElem?_cons_succ]at h1 h2 ⊢;exact qic (by simpa using hl) j o b h1 h2
theorem qg7{ops:Array Oper}{j:Nat}{bj:List Nat}:∀ {l:List (List Nat)} {k0 k:Nat} {b:List Nat},l[k]?=some b→k0+k≠j→(k0+k)∉bj→j∉b→z4f ops (k0+k)=true→(k0+k)∈q9k ops j bj l k0
 | [],_,_,_,h,_,_,_,_=>by simp at h
 | x :: l,k0,k,b,h,h1,h2,h3,h4=>by
   simp only[q9k];cases k with
   | zero=>
     simp at h; subst h;simp only[Nat.add_zero]at h1 h2 h4 ⊢;have e1:bj.contains k0=false:=by cases hc:bj.contains k0 with | false=>rfl | true=>exact absurd (List.contains_iff_mem.1 hc) h2
     have e2:x.contains j=false:=by cases hc:x.contains j with | false=>rfl | true=>exact absurd (List.contains_iff_mem.1 hc) h3
     simp only[beq_false h1,e1,e2,h4,Bool.not_true,Bool.or_false];exact zbq
   | succ k=>
     have ih:=qg7 (ops:=ops) (j:=j) (bj:=bj) (l:=l) (k0:=k0+1) (k:=k) (b:=b) (by simpa using h) (by omega) (by rw[show k0+1+k=k0+(k+1) by omega]; exact h2) h3 (by rw[show k0+1+k=k0+(k+1) by omega]; exact h4)
     rw[show k0+1+k=k0+(k+1) by omega]at ih
     split
     · exact ih
     · exact zbh _ ih
theorem qg9{ops:Array Oper}{bf:List (List Nat)}:∀ {l:List (List Nat)} {j0 j:Nat} {b:List Nat},l[j]?=some b→(qg8 ops bf l j0)[j]?=some (q9k ops (j0+j) b bf 0)
 | [],_,_,_,h=>by simp at h
 | x :: l,j0,j,b,h=>by
   cases j with
   | zero=>simp at h; subst h; simp[qg8]
   | succ j=>
     simp only[qg8,List.getElem?_cons_succ]at h ⊢;rw[qg9 h,show j0+1+j=j0+(j+1) by omega]
theorem q64{ops:Array Oper}{j:Nat}:∀ {l:List (List Nat)} {k:Nat} {acc:List (Nat×Nat)} {p:Nat×Nat},p∈acc→p∈q6x ops j l k acc
 | [],_,_,_,h=>h
 | x :: l,k,acc,p,h=>by
   simp only[q6x];split
   · exact q64 (zbh _ h)
   · exact q64 h
theorem qe2{ops:Array Oper}{j:Nat}:∀ {l:List (List Nat)} {k0 k:Nat} {b:List Nat} {acc:List (Nat×Nat)},l[k]?=some b→j<k0+k→j∉b→(j,k0+k)∈q6x ops j l k0 acc
 | [],_,_,_,_,h,_,_=>by simp at h
 | x :: l,k0,k,b,acc,h,h1,h2=>by
   simp only[q6x];cases k with
   | zero=>
     simp at h; subst h;have e1:Nat.blt j k0=true:=by rw[Nat.blt_eq]; omega
     have e2:x.contains j=false:=by cases hc:x.contains j with | false=>rfl | true=>exact absurd (List.contains_iff_mem.1 hc) h2
     simp only[e1,e2,Bool.not_false,Bool.and_self];exact q64 zbq
   | succ k=>
     have ih:∀ acc,(j,k0+(k+1))∈q6x ops j l (k0+1) acc:=fun acc=>by
      rw[show k0+(k+1)=k0+1+k by omega]
      exact qe2 (by simpa using h) (by omega) h2
     split<;>exact ih _
theorem q8y{ops:Array Oper}{bf:List (List Nat)}:∀ {l:List (List Nat)} {j:Nat} {acc:List (Nat×Nat)} {p:Nat×Nat},p∈acc→p∈q6y ops bf l j acc
 | [],_,_,_,h=>h
 | x :: l,j,acc,p,h=>by
   simp only[q6y];split
   · exact q8y (q64 h)
   · exact q8y h
theorem qe3{ops:Array Oper}{bf:List (List Nat)}:∀ {l:List (List Nat)} {j0 j k:Nat} {b:List Nat} {acc:List (Nat×Nat)},j<l.length→newAt ops (j0+j)=true→bf[k]?=some b→j0+j<k→j0+j∉b→(j0+j,k)∈q6y ops bf l j0 acc
 | [],_,_,_,_,_,h,_,_,_,_=>by simp at h
 | x :: l,j0,j,k,b,acc,h,h1,h2,h3,h4=>by
   simp only[q6y];cases j with
   | zero=>
     simp only[Nat.add_zero]at h1 h3 h4 ⊢;simp only[h1];refine q8y ?_;have:=qe2 (ops:=ops) (j:=j0) (l:=bf) (k0:=0) (k:=k) (b:=b) (acc:=acc) h2 (by omega) h4
     simpa using this
   | succ j=>
     have ih:∀ acc,(j0+(j+1),k)∈q6y ops bf l (j0+1) acc:=fun acc=>by
      rw[show j0+(j+1)=j0+1+j by omega]
      exact qe3 (by simpa using h) (by rw[show j0+1+j=j0+(j+1) by omega]; exact h1) h2 (by omega) (by rw[show j0+1+j=j0+(j+1) by omega]; exact h4)
     split<;>exact ih _
section ops
variable{P:Program}{r:Option Nat}{N:Nat}{o:Oper}{L Lj:Tr AV}{H hv hw:EH}{D:List ADef}{sl:List (Nat×AV)}{e:AExit}{s s':ES}{v:AV}{ih:Tk→Rs}{ops:Array Oper}
theorem qm8{z:Rs}{s:ES}(h:z.norm=some s):z= .code .normal s:=by
 cases z with
 | code e s1=>
   by_cases hn:e= .normal
   · subst hn
     have h:(some s1:Option ES)=some s:=h;cases h; rfl
   · have hf:q7e e=false:=by cases hb:q7e e with | false=>rfl | true=>exact absurd (qbj.1 hb) hn
     simp only[Rs.norm,hf]at h; cases h
 | fin v h'=>simp[Rs.norm]at h
 | no w=>simp[Rs.norm]at h
theorem qpi{w:Bool}(hL:Lk L sl)(h:qyo ops o L=some w):q1d ops o sl=some w:=by
 unfold qyo at h;unfold q1d;cases hg:o.guard with
 | none=>rw[hg]at h; exact h
 | some g=>
   rw[hg]at h;simp only[q09,zbe]at h;obtain⟨d,h1,v,h2,b,h3,h4⟩:=h;have e1:ops.toList[g.1]?=ops[g.1]?:=by simp
   rw[e1]at h1;have:=q9p h3;subst this;simp only[h1,hL _ _ h2,h4]
theorem qdq(hih:∀ t,Snd P t (ih t))(hN:N≤1000000)(hL:Lk Lj sl)(hlog:hv.log=[])(h:qgp P ih ops N D Lj o hv=some (v,hw)):
 OpDo P r ops o ⟨sl,hv.ah,N,D⟩ hw.ah v∧(∀ i,i∉hw.log→hw.t.get i=hv.t.get i)∧(q1d ops o sl=some false→hw=hv):=by
 simp only[qgp,q09]at h;obtain⟨w,h1,h2⟩:=h;have hw1:=qpi hL h1;cases w with
 | false=>
   have h2:gb (qvj N o) (some (.tuple [],hv))=some (v,hw):=h2;simp only[q2c,zbe,zbt]at h2;obtain⟨h3,rfl,rfl⟩:=h2;refine⟨.inr ⟨hw1,rfl,rfl,fun d hd=>?_⟩,fun _ _=>rfl,fun _=>rfl⟩
   simp only[qvj,hd,Nat.blt_eq]at h3; exact h3
 | true=>
   have h2:(od (opE P ih N o Lj hv D).norm fun s=>od (valOf? o s.sl) fun v=>some (v,s.h))=some (v,hw):=h2
   simp only[q09,zbe,zbt]at h2;obtain⟨s1,h3,v1,h4,rfl,rfl⟩:=h2;have k:=qrk (r:=r) hih hN hL (qm8 h3);refine⟨.inl ⟨hw1,k.jo.mono ?_⟩,?_,fun hf=>by rw[hw1]at hf; cases hf⟩
   · rintro e2 s2 ⟨rfl,q1,q2,q3,q4⟩
     refine⟨rfl,q1,q3.trans k.ds,q2,fun d hd=>?_⟩
     obtain⟨k1,u,k2⟩:=k.slot d hd;refine⟨k1,q4 d v1 ?_⟩;unfold valOf? at h4;rw[hd]at h4;exact h4
   · obtain⟨l,l1,l2⟩:=k.lg
     rw[hlog,zcr]at l1;rw[l1]; exact l2
structure Link(P:Program)(ih:Tk→Rs)(ops:Array Oper)(N:Nat)(D:List ADef)(L:Tr AV)(T1:List (List Nat))(o:Oper)(src:Src)(un:List Nat)(s s':XS)(v:AV)(w:XW):Prop where
 lf:w.f=foot o (ofL (q78 L s.vals src))
 lv:w.v=qd2 T1 un o (ofL (q78 L s.vals src)) s.h w.f
 lst:qgp P ih ops N D (ofL (q78 L s.vals src)) o w.v=some (v,w.w)
 lok:wOk o w.v w.w=true
 lm:s'.m=s.m+1
 lvals:s'.vals=Tr.set 20 s.vals s.m (some v)
 lws:s'.ws=w :: s.ws
 lh:s'.h=qd0 un o s.h w.w
theorem qfo{T1:List (List Nat)}:∀ {l:List Oper} {srcs:List Src} {uns:List (List Nat)} {s x:XS},qmq P ih ops N D L T1 l srcs uns s=some x→
 ∃ (S:Nat→XS) (V:Nat→AV) (W:Nat→XW),S 0=s∧S l.length=x∧ ∀ (i:Nat) (o:Oper),l[i]?=some o→ ∃ src un,srcs[i]?=some src∧uns[i]?=some un∧Link P ih ops N D L T1 o src un (S i) (S (i+1)) (V i) (W i)
 | [],srcs,uns,s,x,h=>by
   simp only[qmq,zbe]at h;subst h;exact⟨fun _=>s,fun _=> .nilFunc,fun _=>⟨s.h,s.h,[]⟩,rfl,rfl,fun i o h=>by simp at h⟩
 | o :: l,[],uns,s,x,h=>by simp[qmq]at h
 | o :: l,src :: srcs,[],s,x,h=>by simp[qmq]at h
 | o :: l,src :: srcs,un :: uns,s,x,h=>by
   simp only[qmq,q09,q2c,zbe]at h;obtain⟨_,rfl,_,rfl,_,rfl,vh,h1,h2,h3⟩:=h;obtain⟨S,V,W,c1,c2,c3⟩:=qfo h3;refine⟨fun i=>match i with | 0=>s | i+1=>S i,fun i=>match i with | 0=>vh.1 | i+1=>V i,fun i=>match i with | 0=>(⟨qd2 T1 un o (ofL (q78 L s.vals src)) s.h (foot o (ofL (q78 L s.vals src))),vh.2,foot o (ofL (q78 L s.vals src))⟩:XW) | i+1=>W i,rfl,c2,fun i o' h4=>?_⟩
   cases i with
   | zero=>
     simp at h4; subst h4;exact⟨src,un,by simp,by simp,⟨rfl,rfl,h1,h2,by simp only[c1],by simp only[c1],by simp only[c1],by simp only[c1]⟩⟩
   | succ i=>
     obtain⟨src',un',d1,d2,d3⟩:=c3 i o' (by simpa using h4)
     exact⟨src',un',by simpa using d1,by simpa using d2,d3⟩
theorem qkg(h:wOk o hv hw=true):hv.next≤hw.next∧(∀ i∈hw.log,i≤lim∧ ∀ c,hw.t.get i=some c→c.isRo=false)∧(hw.log≠[]→effK o.op=true)∧(hw.next≠hv.next→newK o.op=true):=by
 obtain⟨n0,t0,l0⟩:=hv;obtain⟨n1,t1,l1⟩:=hw;cases l1 with
 | nil=>
   have h:(Nat.ble n0 n1&&(newK o.op||Nat.beq n1 n0))=true:=h;simp only[zbf,zbu]at h;refine⟨zbj h.1,fun i hi=>(by cases hi),fun h=>absurd rfl h,fun hne=>?_⟩
   rcases h.2 with h2 | h2
   · exact h2
   · exact absurd (zbg h2) hne
 | cons a l=>
   have h:(Nat.ble n0 n1&&qt9 ⟨n1,t1,a :: l⟩ (a :: l)&&effK o.op&&(newK o.op||Nat.beq n1 n0))=true:=h;simp only[zbf,zbu]at h;obtain⟨⟨⟨h1,h2⟩,h3⟩,h4⟩:=h;have ro:∀ l:List Nat,qt9 ⟨n1,t1,a :: l⟩ l=true∨True→True:=fun _ _=>trivial
   have key:∀ (l':List Nat) (hw:EH),qt9 hw l'=true→ ∀ i∈l',i≤lim∧ ∀ c,hw.t.get i=some c→c.isRo=false:=by
    intro l'
    induction l' with
    | nil=>intro _ _ i hi; cases hi
    | cons b l' ihl=>
      intro hw h i hi;simp only[qt9,zbf]at h;rcases zbm.1 hi with rfl | hi
      · refine⟨zbj h.1.2,fun c hc=>?_⟩
        have:=h.1.1;rw[hc]at this;simpa using this
      · exact ihl hw h.2 i hi
   refine⟨zbj h1,key _ _ h2,fun _=>h3,fun hne=>?_⟩
   rcases h4 with h4 | h4
   · exact h4
   · exact absurd (zbg h4) hne
theorem q8m{T1:List (List Nat)}{un:List Nat}{h:EH}{f:List Nat}:(qd2 T1 un o Lj h f).next=h.next∧(qd2 T1 un o Lj h f).log=[]∧(∀ i c,(qd2 T1 un o Lj h f).t.get i=some c→h.t.get i=some c∧(qe8 o.op=false→i∈f))∧(qe8 o.op=true→un=[]→(qd2 T1 un o Lj h f).t=h.t):=by
 obtain⟨n,t,l⟩:=h;cases hc:qe8 o.op with
 | true=>
   have e:qd2 T1 un o Lj ⟨n,t,l⟩ f=⟨n,qbh T1 un t,[]⟩:=by unfold qd2; rw[hc]
   rw[e];exact⟨rfl,rfl,fun i c h=>⟨q99 i h,fun h=>by cases h⟩,fun _ h=>by subst h; rfl⟩
 | false=>
   have e:qd2 T1 un o Lj ⟨n,t,l⟩ f=⟨n,q6r t f .nil,[]⟩:=by unfold qd2; rw[hc]
   rw[e];refine⟨rfl,rfl,fun i c h=>?_,fun h=>by cases h⟩
   rcases q8j (t0:=t) (f:=f) (t:= .nil) i with⟨h1,h2,_⟩ | ⟨h1,_⟩
   · have h:(q6r t f .nil).get i=some c:=h
     rw[h1]at h;exact⟨h,fun _=>h2⟩
   · have h:(q6r t f .nil).get i=some c:=h
     rw[h1,Tr.get_nil]at h; cases h
theorem qt0{T1:List (List Nat)}{un:List Nat}{h:EH}{f:List Nat}(hlim:∀ i∈hw.log,i≤lim)(htouch:∀ i,i∉hw.log→hw.t.get i=(qd2 T1 un o Lj h f).t.get i):
 (qd0 un o h hw).next=hw.next∧ ∀ i,(qd0 un o h hw).t.get i=if i∈hw.log then hw.t.get i else h.t.get i:=by
 obtain⟨n,t,l⟩:=hw;simp only at hlim htouch;cases hc:(qe8 o.op&&isNil un)with
 | true=>
   have e:qd0 un o h ⟨n,t,l⟩=⟨n,t,[]⟩:=by unfold qd0; rw[hc]
   rw[e];refine⟨rfl,fun i=>?_⟩
   simp only[zbf]at hc;have hu:un=[]:=by cases un<;>simp[isNil]at hc; rfl
   split
   · rfl
   · rename_i hi
     rw[htouch i hi,q8m.2.2.2 hc.1 hu]
 | false=>
   have e:qd0 un o h ⟨n,t,l⟩=⟨n,q6r t l h.t,[]⟩:=by unfold qd0; rw[hc]
   rw[e];refine⟨rfl,fun i=>?_⟩
   show(q6r t l h.t).get i=_;rcases q8j (t0:=t) (f:=l) (t:=h.t) i with⟨h1,h2,h3⟩ | ⟨h1,h2⟩
   · rw[h1,if_pos h2]
   · rw[h1,if_neg]
     rcases h2 with h2 | h2
     · exact h2
     · exact fun hm=>h2 (hlim i hm)
noncomputable def hwF(W:Nat→XW)(k:Nat):AH:=(W k).w.ah
noncomputable def hvF(W:Nat→XW)(k:Nat):AH:=(W k).v.ah
def TF(W:Nat→XW)(k:Nat):List Nat:=(W k).w.log
structure Fct(m:Nat)(S:Nat→XS)(V:Nat→AV)(W:Nat→XW)(H:EH):Prop where
 fm:∀ i,i≤m→(S i).m=i
 ws:∀ i,i≤m→ ∀ k,k<i→(S i).ws[i - 1 - k]?=some (W k)
 vals:∀ i,i≤m→ ∀ k,(S i).vals.get k=if k<i then some (V k) else none
 nv:∀ i,i<m→(W i).v.next=(S i).h.next∧(W i).v.log=[]
 nw:∀ i,i<m→(S (i+1)).h.next=(W i).w.next∧(W i).v.next≤(W i).w.next
 n0:(S 0).h.next=H.next
 seq:∀ i,i≤m→ ∀ a,(S i).h.t.get a=upd (hwF W) (TF W) (fun _=>true) H.ah i a
 logs:∀ i,i≤m→ ∀ acc,logs (S i).ws acc=(List.range i).reverse.flatMap (TF W)++acc
theorem qnz{T1:List (List Nat)}{srcs:List Src}{uns:List (List Nat)}{l:List Oper}{S:Nat→XS}{V:Nat→AV}{W:Nat→XW}(hih:∀ t,Snd P t (ih t))(hN:N≤1000000)(hm:l.length≤1000000)
 (h0:S 0=⟨0,.nil,[],⟨H.next,H.t,[]⟩⟩)(hc:∀ (i:Nat) (o:Oper),l[i]?=some o→ ∃ src un,srcs[i]?=some src∧uns[i]?=some un∧Link P ih ops N D L T1 o src un (S i) (S (i+1)) (V i) (W i)):Fct l.length S V W H:=by
 have link:∀ i,i<l.length→ ∃ o src un,Link P ih ops N D L T1 o src un (S i) (S (i+1)) (V i) (W i):=fun i hi=>by
  obtain⟨src,un,_,_,hl⟩:=hc i l[i] (zcg hi);exact⟨_,src,un,hl⟩
 have hmm:∀ i,i≤l.length→(S i).m=i:=by
  intro i
  induction i with
  | zero=>intro _; rw[h0]
  | succ i ih=>intro hi; obtain⟨o,src,un,hl⟩:=link i (by omega); rw[hl.lm,ih (by omega)]
 have hv:∀ i,i<l.length→(W i).v.next=(S i).h.next∧(W i).v.log=[]:=fun i hi=>by
  obtain⟨o,src,un,hl⟩:=link i hi;rw[hl.lv];exact⟨q8m.1,q8m.2.1⟩
 have hj:∀ i,i<l.length→(S (i+1)).h.next=(W i).w.next∧ ∀ a,(S (i+1)).h.t.get a=if a∈(W i).w.log then(W i).w.t.get a else(S i).h.t.get a:=fun i hi=>by
  obtain⟨o,src,un,hl⟩:=link i hi;have k:=qdq (r:=none) hih hN (qhs (q78 L (S i).vals src)) (hv i hi).2 hl.lst;have hw:=qkg hl.lok;rw[hl.lh];have ht:=k.2.1;rw[hl.lv]at ht;exact qt0 (fun a ha=>(hw.2.1 a ha).1) ht
 refine⟨hmm,?_,?_,hv,fun i hi=>⟨(hj i hi).1,?_⟩,by rw[h0],?_,?_⟩
 · intro i
   induction i with
   | zero=>intro _ k hk; omega
   | succ i ih=>
     intro hi k hk;obtain⟨o,src,un,hl⟩:=link i (by omega)
     rw[hl.lws]
     by_cases e:k=i
     · subst e; simp
     · rw[show i+1 - 1 - k=(i - 1 - k)+1 by omega]
       simpa using ih (by omega) k (by omega)
 · intro i
   induction i with
   | zero=>intro _ k; rw[h0]; simp[Tr.get_nil]
   | succ i ih=>
     intro hi k;obtain⟨o,src,un,hl⟩:=link i (by omega)
     rw[hl.lvals,hmm i (by omega),Tr.zat 20 _ _ _ _ (by omega),ih (by omega)]
     by_cases e:k=i
     · subst e; simp
     · rw[if_neg e]
       by_cases h1:k<i
       · rw[if_pos h1,if_pos (by omega)]
       · rw[if_neg h1,if_neg (by omega)]
 · obtain⟨o,src,un,hl⟩:=link i hi
   exact(qkg hl.lok).1
 · intro i
   induction i with
   | zero=>intro _ a; rw[h0]; rfl
   | succ i ih=>
     intro hi a;rw[(hj i (by omega)).2]
     simp only[upd,TF,true_and,hwF];split
     · rfl
     · exact ih (by omega) a
 · intro i
   induction i with
   | zero=>intro _ acc; rw[h0]; rfl
   | succ i ih=>
     intro hi acc;obtain⟨o,src,un,hl⟩:=link i (by omega)
     rw[hl.lws];simp only[J.logs,ih (by omega),List.range_succ,List.reverse_append,List.reverse_cons,List.reverse_nil,List.nil_append,List.cons_append,List.flatMap_cons,List.append_assoc]
     rfl
theorem Fct.at_{m:Nat}{S:Nat→XS}{V:Nat→AV}{W:Nat→XW}(f:Fct m S V W H){k:Nat}(hk:k<m):(S m).at k=some (W k):=by
 unfold XS.at;have e1:(S m).m=m:=f.fm m (zbi _);have e2:Nat.blt k m=true:=by rw[Nat.blt_eq]; exact hk
 rw[e1,e2,qw4];show(S m).ws[m - k - 1]?=_;rw[show m - k - 1=m - 1 - k by omega]
 exact f.ws m (zbi _) k hk
theorem Fct.mono{m:Nat}{S:Nat→XS}{V:Nat→AV}{W:Nat→XW}(f:Fct m S V W H):∀ j,j≤m→H.next≤(S j).h.next∧ ∀ i,i<j→(W i).w.next≤(S j).h.next:=by
 intro j
 induction j with
 | zero=>intro _; exact⟨by rw[f.n0]; exact zbi _,fun i hi=>by omega⟩
 | succ j ih=>
   intro hj;obtain⟨a,b⟩:=ih (by omega)
   obtain⟨c,d⟩:=f.nw j (by omega)
   have e:=(f.nv j (by omega)).1
   refine⟨by omega,fun i hi=>?_⟩
   by_cases h:i=j
   · subst h; omega
   · have:=b i (by omega); omega
theorem qj5{vt:Tr AV}{vals:List AV}:∀ {src:Src},(∀ t k,(t,some k)∈src→vt.get k=vals[k]?)→q78 L vt src=q0d (L.toL id []) vals src
 | [],_=>rfl
 | (t,none) :: src,h=>by
   have ih:=qj5 (vt:=vt) (vals:=vals) (src:=src) fun t k hm=>h t k (zbh _ hm)
   have e:q78 L vt ((t,none) :: src)=Option.rec (motive:=fun _=>List (Nat×AV)) (q78 L vt src) (fun v=>(t,v) :: q78 L vt src) (L.get t):=rfl
   rw[e,ih];simp only[q0d,qr6];cases L.get t<;>rfl
 | (t,some k) :: src,h=>by
   have ih:=qj5 (vt:=vt) (vals:=vals) (src:=src) fun t k hm=>h t k (zbh _ hm)
   have e:q78 L vt ((t,some k) :: src)=Option.rec (motive:=fun _=>List (Nat×AV)) (q78 L vt src) (fun v=>(t,v) :: q78 L vt src) (vt.get k):=rfl
   rw[e,ih,h t k zbq];simp only[q0d];cases vals[k]?<;>rfl
theorem qfh{t:Tr Chunk}:∀ {l:List Nat},qrg t l=true→ ∀ i∈l,t.get i=none
 | [],_,i,hi=>by cases hi
 | a :: l,h,i,hi=>by
   simp only[qrg,zbf]at h;rcases zbm.1 hi with rfl | hi
   · have:=h.1
     cases hg:t.get i with
     | none=>rfl
     | some c=>rw[hg]at this; cases this
   · exact qfh h.2 i hi
theorem qlb{x:List Nat}:∀ {l:List Nat},disj x l=true→ ∀ i∈l,i∉x
 | [],_,i,hi=>by cases hi
 | a :: l,h,i,hi=>by
   simp only[disj,zbf,Bool.not_eq_true']at h;rcases zbm.1 hi with rfl | hi
   · intro hx
     rw[List.contains_iff_mem.2 hx]at h; cases h.1
   · exact qlb h.2 i hi
theorem qbv{a:XW}{hk:EH}(h:quiet a hk=true):(∀ i∈hk.log,a.v.t.get i=none)∧ ∀ i∈hk.log,i∉a.w.log:=by
 unfold quiet at h;split at h
 · rename_i e; rw[e]; exact⟨fun i hi=>(by cases hi),fun i hi=>(by cases hi)⟩
 · rename_i i r e
   rw[e];simp only[zbf]at h;exact⟨qfh h.1,qlb h.2⟩
theorem qfa{s:XS}{a:XW}:∀ {un l:List Nat},qm1 s a un=some l→ ∀ k∈un,∃ b,s.at k=some b∧(quiet a b.w=true∨k∈l)
 | [],l,_,k,hk=>by cases hk
 | x :: un,l,h,k,hk=>by
   simp only[qm1,q09]at h;obtain⟨b,h1,l',h2,h3⟩:=h;have ih:=qfa h2;cases hq:quiet a b.w with
   | true=>
     rw[hq]at h3;have h3:some l'=some l:=h3;cases h3;rcases zbm.1 hk with rfl | hk
     · exact⟨b,h1,.inl hq⟩
     · exact ih k hk
   | false=>
     rw[hq]at h3;have h3:some (x :: l')=some l:=h3;cases h3;rcases zbm.1 hk with rfl | hk
     · exact⟨b,h1,.inr zbq⟩
     · obtain⟨b',q1,q2⟩:=ih k hk
       exact⟨b',q1,q2.imp id (zbh _)⟩
theorem qe5{p:Nat→Bool}{hk:EH}:∀ {l:List Nat},qqb p hk l=true→ ∀ i∈l,p i=true∧ ∀ c,hk.t.get i=some c→c.nm p=true
 | [],_,i,hi=>by cases hi
 | a :: l,h,i,hi=>by
   simp only[qqb,zbf]at h;rcases zbm.1 hi with rfl | hi
   · refine⟨h.1.1,fun c hc=>?_⟩
     have:=h.1.2;rw[hc]at this; exact this
   · exact qe5 h.2 i hi
theorem qcb{s:XS}:∀ {l:List (Nat×Nat)},qe4 s l=true→ ∀ p∈l,∃ a b v,s.at p.1=some a∧s.at p.2=some b∧s.vals.get p.2=some v∧qux a b v=true
 | [],_,p,hp=>by cases hp
 | q :: l,h,p,hp=>by
   simp only[qe4]at h;split at h
   · rename_i a b v h1 h2 h3
     simp only[zbf]at h;rcases zbm.1 hp with rfl | hp
     · exact⟨a,b,v,h1,h2,h3,h.1⟩
     · exact qcb h.2 p hp
   · cases h
theorem qvr{a b:AV}(h:eqV0 a b=true):a=b:=by
 cases a<;>cases b<;>simp only[eqV0,reduceCtorEq,zbn]at h
 · rw[eq_of_beq h]
 · simp only[zbf,q7w,decide_eq_true_eq]at h
   rw[q47.1 h.1,h.2]
 · rw[qya.1 h]
 · rename_i p q
   cases p with
   | none=>simp only at h; rw[qaf h]
   | some p=>cases q with
     | none=>simp at h
     | some q=>
       simp only[zbf]at h;have h1:=zbg h.1;have h2:=zbg h.2;cases p; cases q; simp only at h1 h2; subst h1; subst h2; rfl
theorem qj1:∀ {a b:List AV},qo2 a b=true→a=b
 | [],[],_=>rfl
 | [],_ :: _,h=>by simp[qo2]at h
 | _ :: _,[],h=>by simp[qo2]at h
 | x :: a,y :: b,h=>by
   simp only[qo2]at h;cases h1:eqV0 x y with
   | false=>simp[h1]at h
   | true=>simp only[h1]at h; rw[qvr h1,qj1 h]
theorem z73{a b:AV}(h:eqV a b=true):a=b:=by
 cases a with
 | agg x=>cases b<;>simp only[eqV,zbn]at h; rw[qj1 h]
 | tuple x=>cases b<;>simp only[eqV,zbn]at h; rw[qj1 h]
 | _=>exact qvr h
theorem qih{s:XS}:∀ {l:List Oper} {srcs:List Src} {bfs uns:List (List Nat)} {j0:Nat},qne P ih ops N D L s l srcs bfs uns j0=true→
 ∀ (j:Nat) (o:Oper) (src:Src) (bf un:List Nat),l[j]?=some o→srcs[j]?=some src→bfs[j]?=some bf→uns[j]?=some un→unOk P ih ops N D L s (j0+j) o src bf un=true
 | [],_,_,_,_,_,j,o,src,bf,un,h,_,_,_=>by simp at h
 | x :: l,[],_,_,_,h,_,_,_,_,_,_,_,_,_=>by simp[qne]at h
 | x :: l,_ :: _,[],_,_,h,_,_,_,_,_,_,_,_,_=>by simp[qne]at h
 | x :: l,_ :: _,_ :: _,[],_,h,_,_,_,_,_,_,_,_,_=>by simp[qne]at h
 | x :: l,y :: srcs,z :: bfs,u :: uns,j0,h,j,o,src,bf,un,h1,h2,h3,h4=>by
   simp only[qne]at h;split at h
   · rename_i hu
     cases j with
     | zero=>simp at h1 h2 h3 h4; subst h1; subst h2; subst h3; subst h4; exact hu
     | succ j=>
       have:=qih h j o src bf un (by simpa using h1) (by simpa using h2) (by simpa using h3) (by simpa using h4)
       rw[show j0+(j+1)=j0+1+j by omega]; exact this
   · cases h
theorem z0c{m:String}{b:Bool}{k:Rs}{e:AExit}{s:ES}:gdm m b k= .code e s↔b=true∧k= .code e s:=by
 cases b<;>simp[gdm]
theorem z12{α:Type}{m:String}{x:Option α}{f:α→Rs}{e:AExit}{s:ES}:obm m x f= .code e s↔ ∃ a,x=some a∧f a= .code e s:=by
 cases x<;>simp[obm]
theorem qii{hw:Nat→AH}{T:Nat→List Nat}{h0:AH}{i j:Nat}:∀ m,j≤m→upd hw T (fun k=>decide (k<j)) h0 m i=upd hw T (fun _=>true) h0 j i
 | 0,h=>by have:j=0:=by omega
           subst this; rfl
 | m+1,h=>by
   by_cases e:j=m+1
   · subst e
     exact q7r (m+1) fun k hk _=>by simp[hk]
   · simp only[upd]
     rw[if_neg (by rintro⟨h1,_⟩; simp at h1; omega)]
     exact qii m (by omega)
theorem z1l(hih:∀ t,Snd P t (ih t))(hN:N≤1000000)(hL:Lk Lj sl)(hlog:hv.log=[])(h:qgp P ih ops N D Lj o hv=some (v,hw))(h1:hw.log=[])(h2:hw.next=hv.next):hw.ah=hv.ah:=by
 have k:=qdq (r:=none) hih hN hL hlog h;refine AH.ext' h2 fun i=>k.2.1 i (by rw[h1]; simp)
theorem z04{rid:Nat}(hmix:P.follows .mixedOrders=true)(hih:∀ t,Snd P t (ih t))(hN:N≤1000000)(h:z4d P ih ops N s= .code e s'):
 e= .normal∧(∀ sl,Lk s.sl sl→J P r (.region rid ops true) ⟨sl,s.h.ah,N,s.ds⟩ (qcy N .normal s'))∧Lg s.h s'.h:=by
 obtain⟨L,H,D⟩:=s
 have h:gdm "stat" (qy5 ops) (obm "pass" (qmq P ih ops N D L (z1a P ih ops N D ops.toList L H) ops.toList (qaz ops) (qtp ops) ⟨0,.nil,[],⟨H.next,H.t,[]⟩⟩) fun x=>
  gdm "unordered" (qne P ih ops N D L x ops.toList (qaz ops) (befs ops) (qtp ops) 0&&qe4 x (quy ops)) (.code .normal ⟨finL x.vals L ops.toList 0,⟨x.h.next,x.h.t,logs x.ws H.log⟩,D⟩))= .code e s':=h
 simp only[z0c,z12,zbf,Rs.code.injEq,qy5]at h;obtain⟨⟨⟨hplan,hbf⟩,hsz⟩,x,hp,⟨huns,hav⟩,rfl,rfl⟩:=h;have hsz:=zbj hsz;obtain⟨S,V,W,c0,cm,cc⟩:=qfo hp;have hlen:ops.toList.length=ops.size:=by simp
 have f:=qnz (H:=H) hih hN (by rw[hlen]; exact hsz) c0 cc
 rw[hlen]at f cm
 let m:=ops.size
 let sl0:=L.toL id []
 let vals:=(List.range m).map V
 let bf:Nat→List Nat:=fun j=>(befs ops).getD j []
 let un:Nat→List Nat:=fun j=>q9k ops j (bf j) (befs ops) 0
 let src:Nat→Src:=fun j=>(qaz ops).getD j []
 have hvals:∀ k,vals[k]?=if k<m then some (V k) else none:=fun k=>by
  simp only[vals,List.getElem?_map]
  by_cases hk:k<m
  · rw[if_pos hk,List.getElem?_range hk]; rfl
  · rw[if_neg hk,List.getElem?_eq_none (by simp; omega)]; rfl
 have hbfj:∀ j,j<m→(befs ops)[j]?=some (bf j):=fun j hj=>by
  have:j<(befs ops).length:=by rw[qis]; exact hj
  simp only[bf,List.getD_eq_getElem?_getD,zcg this,Option.getD_some]
 have hops:∀ j,j<m→ ∃ o,ops[j]?=some o∧ops.toList[j]?=some o:=fun j hj=>⟨ops[j],Array.getElem?_eq_getElem hj,by simp[hj]⟩
 have hunj:∀ j,j<m→(qtp ops)[j]?=some (un j):=fun j hj=>by
  have:=qg9 (ops:=ops) (bf:=befs ops) (l:=befs ops) (j0:=0) (hbfj j hj);simpa [qtp,un]using this
 have hsrcj:∀ j,j<m→(qaz ops)[j]?=some (src j):=fun j hj=>by
  obtain⟨o,_,ho⟩:=hops j hj;have:=qic (ops:=ops) (l:=ops.toList) (bs:=befs ops) (by rw[qis]; simp) j o _ ho (hbfj j hj)
  have h2:(qaz ops)[j]?=some ((qyi ops o).map (q1g ops (bf j))):=this;simp only[src,List.getD_eq_getElem?_getD,h2,Option.getD_some]
 have plan0:=qft hplan
 have hlt:∀ j k,j<m→k∈bf j→k<j:=fun j k hj hk=>by
  have:=ql5 hbf j (bf j) (hbfj j hj) k hk;omega
 have hidx:∀ j,j<m→ ∀ t k,(t,some k)∈src j→k∈bf j:=fun j hj t k hm=>by
  have:=plan0.src j hj _ hm;simp only[qbz,zbf]at this;exact List.contains_iff_mem.1 this.1
 have hfill:∀ j,j<m→ ∀ i,j≤i→i≤m→q78 L (S i).vals (src j)=q0d sl0 vals (src j):=fun j hj i h1 h2=>qj5 fun t k hm=>by
  have hk:=hlt j k hj (hidx j hj t k hm);rw[f.vals i h2,hvals,if_pos (by omega),if_pos (by omega)]
 have link:∀ j,j<m→ ∃ o,ops[j]?=some o∧Link P ih ops N D L (z1a P ih ops N D ops.toList L H) o (src j) (un j) (S j) (S (j+1)) (V j) (W j):=fun j hj=>by
  obtain⟨o,h1,h2⟩:=hops j hj;obtain⟨sr,u,h3,h4,h5⟩:=cc j o h2;rw[hsrcj j hj]at h3;rw[hunj j hj]at h4;cases h3; cases h4;exact⟨o,h1,h5⟩
 have hstep:∀ j,j<m→ ∀ o,ops[j]?=some o→qgp P ih ops N D (ofL (q0d sl0 vals (src j))) o (W j).v=some (V j,(W j).w):=fun j hj o ho=>by
  obtain⟨o',h1,h2⟩:=link j hj;rw[ho]at h1; cases h1;rw[←hfill j hj j (zbi _) (Nat.le_of_lt hj)];exact h2.lst
 have hok:∀ j,j<m→ ∀ o,ops[j]?=some o→OpDo P r ops o ⟨q0d sl0 vals (src j),(W j).v.ah,N,D⟩ (W j).w.ah (V j)∧(∀ i,i∉(W j).w.log→(W j).w.t.get i=(W j).v.t.get i)∧(q1d ops o (q0d sl0 vals (src j))=some false→(W j).w=(W j).v):=
  fun j hj o ho=>qdq hih hN (qhs _) (f.nv j hj).2 (hstep j hj o ho)
 have hwok:∀ j,j<m→ ∀ o,ops[j]?=some o→((W j).v.next≤(W j).w.next∧(∀ i∈(W j).w.log,i≤lim∧ ∀ c,(W j).w.t.get i=some c→c.isRo=false)∧((W j).w.log≠[]→effK o.op=true)∧((W j).w.next≠(W j).v.next→newK o.op=true)):=fun j hj o ho=>by
  obtain⟨o',h1,h2⟩:=link j hj;rw[ho]at h1; cases h1;exact qkg h2.lok
 have hview:∀ j,j<m→ ∀ i c,(W j).v.t.get i=some c→(S j).h.t.get i=some c∧(∀ o,ops[j]?=some o→qe8 o.op=false→i∈(W j).f):=fun j hj i c hc=>by
  obtain⟨o',h1,h2⟩:=link j hj;rw[h2.lv]at hc;obtain⟨a,b⟩:=q8m.2.2.1 i c hc;exact⟨a,fun o ho hk=>by rw[h1]at ho; cases ho; exact b hk⟩
 have hseq:∀ j,j≤m→ ∀ i,(S j).h.t.get i=upd (hwF W) (TF W) (fun k=>decide (k<j)) H.ah m i:=fun j hj i=>by
  rw[f.seq j hj,qii m hj]
 have hmem:∀ j k,j<m→k<m→k≠j→k∉bf j→j∉bf k→TF W k≠[]→k∈un j:=fun j k hj hk h1 h2 h3 h4=>by
  obtain⟨o,ho,ho2⟩:=hops k hk;have he:=(hwok k hk o ho).2.2.1 h4;have:=qg7 (ops:=ops) (j:=j) (bj:=bf j) (l:=befs ops) (k0:=0) (k:=k) (hbfj k hk) (by omega) (by simpa using h2) h3 (by simp[z4f,ho2,he])
  simpa [un]using this
 let Bp:Nat→Nat→Prop:=fun j k0=> ∃ o,ops[j]?=some o∧qe8 o.op=false∧j<k0∧k0<m∧qnv P ih ops N D L x o (src j) (bf j) (V j) (W j) k0 (W k0).w=true∧ ∀ k∈un j,k<m→k≠k0→quiet (W j) (W k).w=true
 have hUF:∀ j,j<m→(∀ k∈un j,k<m→quiet (W j) (W k).w=true)∨ ∃ k0,Bp j k0:=fun j hj=>by
  obtain⟨o,ho,ho2⟩:=hops j hj;have hu:=qih huns j o (src j) (bf j) (un j) ho2 (hsrcj j hj) (hbfj j hj) (hunj j hj);rw[zbv]at hu;unfold unOk at hu;split at hu
  · rename_i e; left; intro k hk; rw[e]at hk; cases hk
  · rename_i e1 e2 hune
    have hv1:x.vals.get j=some (V j):=by rw[←cm,f.vals m (zbi _),if_pos hj]
    have ha1:x.at j=some (W j):=by rw[←cm]; exact f.at_ hj
    rw[hv1,ha1]at hu;simp only at hu;cases hl:qm1 x (W j) (un j)with
    | none=>rw[hl]at hu; cases hu
    | some ld=>
      rw[hl]at hu;have hq:=qfa hl;have hat:∀ k,k<m→x.at k=some (W k):=fun k hk=>by rw[←cm]; exact f.at_ hk
      cases ld with
      | nil=>
        left;intro k hk hkm;obtain⟨b,h1,h2⟩:=hq k hk;rw[hat k hkm]at h1; cases h1;rcases h2 with h2 | h2
        · exact h2
        · cases h2
      | cons k0 rest=>
        cases rest with
        | cons a b=>cases hu
        | nil=>
          right;simp only at hu;split at hu
          · rename_i b hb
            simp only[zbf,Bool.not_eq_true']at hu;obtain⟨⟨u1,u2⟩,u3⟩:=hu
            have hk0:k0<m:=by
             by_cases hk:k0<m
             · exact hk
             · exfalso
               unfold XS.at at hb;have e1:x.m=m:=by rw[←cm]; exact f.fm m (zbi _)
               have e2:Nat.blt k0 m=false:=by cases hbl:Nat.blt k0 m with | false=>rfl | true=>rw[Nat.blt_eq]at hbl; exact absurd hbl hk
               rw[e1,e2]at hb; cases hb
            rw[hat k0 hk0]at hb; cases hb;refine⟨k0,o,ho,u1,by rw[Nat.blt_eq]at u2; exact u2,hk0,u3,fun k hk hkm hne=>?_⟩
            obtain⟨b,h1,h2⟩:=hq k hk;rw[hat k hkm]at h1; cases h1;rcases h2 with h2 | h2
            · exact h2
            · simp at h2; exact absurd h2 hne
          · cases hu
 have hagain:∀ j k0,j<m→Bp j k0→ ∃ o v' hx,ops[j]?=some o∧qe8 o.op=false∧qgp P ih ops N D (ofL (q0d sl0 vals (src j))) o (qga x (W j).v (W k0).w (W j).f)=some (v',hx)∧hx.log=[]∧hx.next=x.h.next∧v'=V j∧(∀ a∈bf j,a<k0)∧(W j).w.log=[]∧(W j).w.next=(W j).v.next:=by
  rintro j k0 hj ⟨o,ho,h1,h2,h3,h4,h5⟩;unfold qnv at h4;rw[←cm]at h4;rw[hfill j hj m (Nat.le_of_lt hj) (zbi _),cm]at h4;split at h4
  · rename_i vh hst
    simp only[zbf]at h4;obtain⟨⟨⟨⟨⟨g1,g2⟩,g3⟩,g4⟩,g5⟩,g6⟩:=h4;have nil:∀ l:List Nat,isNil l=true→l=[]:=fun l hl=>by cases l<;>simp[isNil]at hl; rfl
    refine⟨o,vh.1,vh.2,ho,h1,hst,nil _ g1,zbg g2,z73 g3,fun a ha=>?_,nil _ g5,zbg g6⟩
    have:=zc1.1 g4 a ha;rw[Nat.blt_eq]at this; exact this
  · cases h4
 have hvm:∀ j k0 i,(qga x (W j).v (W k0).w (W j).f).t.get i=(W k0).w.t.get i∧i∈(W j).f∧i∈(W k0).w.log∧(∃ c,(W j).v.t.get i=some c)∨(qga x (W j).v (W k0).w (W j).f).t.get i=(W j).v.t.get i∧ ¬(i∈(W j).f∧i∈(W k0).w.log∧(∃ c,(W j).v.t.get i=some c)∧i≤lim):=fun j k0 i=>by
  rcases q8j (t0:=(W k0).w.t) (f:=(W j).f.filter fun i=>(W k0).w.log.contains i&&J.isSome ((W j).v.t.get i)) (t:=(W j).v.t) i with⟨h1,h2,_⟩ | ⟨h1,h2⟩
  · left
    simp only[List.mem_filter,zbf]at h2;refine⟨h1,h2.1,List.contains_iff_mem.1 h2.2.1,?_⟩;have:=h2.2.2;cases hg:(W j).v.t.get i with
    | none=>rw[hg]at this; cases this
    | some c=>exact⟨c,rfl⟩
  · right
    refine⟨h1,fun⟨a,b,⟨c,hc⟩,d⟩=>?_⟩
    rcases h2 with h2 | h2
    · apply h2
      simp only[List.mem_filter,zbf];exact⟨a,List.contains_iff_mem.2 b,by rw[hc]; rfl⟩
    · exact h2 d
 classical
 let evs:Nat→List AH:=fun j=>if h:∃ k0,Bp j k0 then[(qga x (W j).v (W h.choose).w (W j).f).ah] else[]
 have hevs:∀ j y,y∈evs j→ ∃ k0,Bp j k0∧y=(qga x (W j).v (W k0).w (W j).f).ah:=fun j y hy=>by
  simp only[evs]at hy;split at hy
  · rename_i h; simp at hy; exact⟨_,h.choose_spec,hy⟩
  · cases hy
 have hmono:=f.mono;have hxn:x.h.next=(S m).h.next:=by rw[←cm]
 let fin:Src:=(List.range m).filterMap (fun i=>(ops[i]?).bind fun o=>o.dst.map fun d=>(d,some i))++(sl0.map (·.1)).filterMap fun t=>if qgl ops (t,none) then some (t,none) else none
 have hfin:∀ s∈fin,qgl ops s=true:=fun s hs=>by
  rcases zbr.1 hs with h | h
  · obtain⟨i,_,h2⟩:=List.mem_filterMap.1 h
    simp only[Option.bind_eq_some_iff,zbw]at h2;obtain⟨o,ho,d,hd,rfl⟩:=h2;exact q0x.2 ⟨o,ho,hd⟩
  · obtain⟨t,_,h2⟩:=List.mem_filterMap.1 h
    split at h2
    · rename_i hf; cases h2; exact hf
    · cases h2
 have hxok:XOk (fun i=>i) P r ops sl0 vals (qaz ops) fin H.ah x.h.ah (hvF W) (hwF W) (TF W) evs N D:=by
  refine⟨⟨plan0.uniq,plan0.src,hfin,plan0.chain,plan0.effLt,plan0.back⟩,?_,fun _ _ _ _ h=>h,fun j k hj hk=>hlt j k hj hk,fun j k hj hk=>hlt j k hj hk,fun j hj=>?_,fun j k hj _ hk=>?_,⟨?_,fun j hj=>?_⟩,fun j i hj hi=>?_,?_,?_,?_,?_,?_,?_,?_,?_⟩
  ·
   intro j o ho;have hj:j<m:=(zch.1 ho).1;exact⟨V j,by rw[hvals,if_pos hj],(hok j hj o ho).1⟩
  · show H.next≤(W j).v.next
    rw[(f.nv j hj).1]; exact(hmono j (Nat.le_of_lt hj)).1
  · show(W k).w.next≤(W j).v.next
    rw[(f.nv j hj).1]; exact(hmono j (Nat.le_of_lt hj)).2 k hk
  · show H.next≤x.h.next
    rw[hxn]; exact(hmono m (zbi _)).1
  · show(W j).w.next≤x.h.next
    rw[hxn]; exact(hmono m (zbi _)).2 j hj
  · obtain⟨o,ho,_⟩:=hops j hj
    exact(hok j hj o ho).2.1 i hi
  ·
   intro j i c hj hc;have h1:=(hview j hj i c hc).1;rw[f.seq j (Nat.le_of_lt hj)]at h1;rcases q4e (hw:=hwF W) (T:=TF W) (S:=fun _=>true) (h0:=H.ah) (i:=i) j with⟨k,k1,_,k3,_,k5⟩ | ⟨_,k2⟩
   · rw[k5]at h1; exact .inl ⟨k,Nat.lt_trans k1 hj,k1,k3,h1⟩
   · rw[k2]at h1; exact .inr h1
  ·
   intro j o v y ho hv hy;have hj:j<m:=(zch.1 ho).1;rw[hvals,if_pos hj]at hv; cases hv;obtain⟨k0,hb,rfl⟩:=hevs j y hy;obtain⟨o',v',hx,g1,g2,g3,g4,g5,rfl,g7,g8,g9⟩:=hagain j k0 hj hb;rw[ho]at g1; cases g1;have e1:=z1l (Lj:=ofL (q0d sl0 vals (src j))) hih hN (qhs _) rfl g3 g4 g5;have k:=qdq (r:=r) hih hN (qhs (q0d sl0 vals (src j))) rfl g3;refine⟨?_,g8,by show(W j).w.next≤(W j).v.next; omega,rfl⟩
   have:=k.1;rw[e1]at this; exact this
  · intro j y i c hj hy hc
    obtain⟨k0,hb,rfl⟩:=hevs j y hy;have hk0:k0<m:=by obtain⟨_,_,_,_,h,_⟩:=hb; exact h
    rcases hvm j k0 i with⟨h1,_,h3,_⟩ | ⟨h1,_⟩
    · have hc:(qga x (W j).v (W k0).w (W j).f).t.get i=some c:=hc
      rw[h1]at hc;exact .inl ⟨k0,hk0,h3,hc⟩
    · have hc:(qga x (W j).v (W k0).w (W j).f).t.get i=some c:=hc
      rw[h1]at hc;have h2:=(hview j hj i c hc).1;rw[f.seq j (Nat.le_of_lt hj)]at h2;rcases q4e (hw:=hwF W) (T:=TF W) (S:=fun _=>true) (h0:=H.ah) (i:=i) j with⟨k,k1,_,k3,_,k5⟩ | ⟨_,k2⟩
      · rw[k5]at h2; exact .inl ⟨k,by omega,k3,h2⟩
      · rw[k2]at h2; exact .inr h2
  ·
   intro j Sx hj hS1 hS2 hS3
   have other:∀ k,k<m→k≠j→k∉bf j→Sx k=true→j∉bf k:=fun k hk _ _ hs hb=>by
    have:=hS3 k j hk hs hb;rw[hS2]at this; cases this
   have plain:∀ i c,(W j).v.t.get i=some c→(∀ k,k<m→k≠j→k∉bf j→j∉bf k→i∈TF W k→Sx k=decide (k<j))→upd (hwF W) (TF W) Sx H.ah m i=some c:=by
    intro i c hc hu;rw[←(hview j hj i c hc).1,hseq j (Nat.le_of_lt hj)];refine q7r m fun k hk hik=>?_
    by_cases h1:k=j
    · subst h1; simp[hS2]
    · by_cases h2:k∈bf j
      · have:=hlt j k hj h2
        simp[hS1 k h2,this]
      · by_cases h3:j∈bf k
        · have h4:=hlt k j hk h3
          cases h5:Sx k with
          | false=>simp; omega
          | true=>exact absurd h3 (other k hk h1 h2 h5)
        · exact hu k hk h1 h2 h3 hik
   by_cases hex:∃ k0,Bp j k0
   · have hb:=hex.choose_spec
     generalize hk0e:hex.choose=k0 at hb;obtain⟨o,v',hx,g1,g2,g3,g4,g5,g6,g7,g8,g9⟩:=hagain j k0 hj hb;obtain⟨o2,b1,b2,b3,b4,b5,b6⟩:=hb
     have rest:∀ k,k<m→k≠j→k∉bf j→j∉bf k→k≠k0→ ∀ i c,i∈TF W k→(W j).v.t.get i=some c→False:=fun k hk h1 h2 h3 h4 i c hik hc=>by
      have hne:TF W k≠[]:=fun e=>by rw[e]at hik; cases hik
      have:=(qbv (b6 k (hmem j k hj hk h1 h2 h3 hne) hk h4)).1 i hik;rw[this]at hc; cases hc
     cases hs0:Sx k0 with
     | false=>
       left;intro i c hc;refine plain i c hc fun k hk h1 h2 h3 hik=>?_
       by_cases h4:k=k0
       · subst h4; rw[hs0]; symm; simp; omega
       · exact(rest k hk h1 h2 h3 h4 i c hik hc).elim
     | true=>
       right
       have hmemx:(qga x (W j).v (W k0).w (W j).f).ah∈evs j:=by
        simp only[evs];rw[dif_pos hex,hk0e]; simp
       refine⟨_,hmemx,fun i c hc=>?_⟩
       have hc:(qga x (W j).v (W k0).w (W j).f).t.get i=some c:=hc;rcases hvm j k0 i with⟨h1,h2,h3,c0,hc0⟩ | ⟨h1,h2⟩
       · rw[h1]at hc
         rcases q4e (hw:=hwF W) (T:=TF W) (S:=Sx) (h0:=H.ah) (i:=i) m with⟨k,k1,k2,k3,k4,k5⟩ | ⟨k1,_⟩
         · rw[k5]
           by_cases e:k=k0
           · rw[e]; exact hc
           · exfalso
             have hgt:k0<k:=by
              rcases Nat.lt_or_gt_of_ne e with hl | hl
              · exact absurd h3 (k4 k0 hl b4 hs0)
              · exact hl
             have hkj:k≠j:=fun e=>by subst e; rw[hS2]at k2; cases k2
             have hkb:k∉bf j:=fun h=>by have:=g7 k h; omega
             exact rest k k1 hkj hkb (other k k1 hkj hkb k2) e i c0 k3 hc0
         · exact absurd h3 (k1 k0 b4 hs0)
       · have hc2:(W j).v.t.get i=some c:=h1▸hc
         refine plain i c hc2 fun k hk q1 q2 q3 hik=>?_
         by_cases h4:k=k0
         · exfalso
           subst h4;have hf:=(hview j hj i c hc2).2 o2 b1 b2;obtain⟨o3,ho3,_⟩:=hops k hk;exact h2 ⟨hf,hik,⟨c,hc2⟩,((hwok k hk o3 ho3).2.1 i hik).1⟩
         · exact(rest k hk q1 q2 q3 h4 i c hik hc2).elim
   · left
     intro i c hc;refine plain i c hc fun k hk h1 h2 h3 hik=>?_
     exfalso;rcases hUF j hj with hq | hq
     · have hne:TF W k≠[]:=fun e=>by rw[e]at hik; cases hik
       have:=(qbv (hq k (hmem j k hj hk h1 h2 h3 hne) hk)).1 i hik;have hc:(W j).v.t.get i=some c:=hc;rw[this]at hc; cases hc
     · exact hex hq
  ·
   intro j k i hjk hk h1 h2;have hj:j<m:=by omega
   by_cases hb:j∈bf k
   · exact hb
   · exfalso
     have hkb:k∉bf j:=fun h=>by have:=hlt j k hj h; omega
     have hne:TF W k≠[]:=fun e=>by rw[e]at h2; cases h2
     have hmu:=hmem j k hj hk (by omega) hkb hb hne
     rcases hUF j hj with hq | ⟨k0,hb0⟩
     · exact(qbv (hq k hmu hk)).2 i h2 h1
     · obtain⟨_,_,_,_,_,_,_,_,_,_,_,g8,_⟩:∃ o v' hx,ops[j]?=some o∧qe8 o.op=false∧qgp P ih ops N D (ofL (q0d sl0 vals (src j))) o (qga x (W j).v (W k0).w (W j).f)=some (v',hx)∧hx.log=[]∧hx.next=x.h.next∧v'=V j∧(∀ a∈bf j,a<k0)∧True∧(W j).w.log=[]∧(W j).w.next=(W j).v.next:=by
        obtain⟨o,v',hx,g1,g2,g3,g4,g5,g6,g7,g8,g9⟩:=hagain j k0 hj hb0;exact⟨o,v',hx,g1,g2,g3,g4,g5,g6,g7,trivial,g8,g9⟩
       have h1:i∈(W j).w.log:=h1;rw[g8]at h1; cases h1
  ·
   intro j k _ hjk hk hb;have hj:j<m:=by omega
   obtain⟨o,ho,ho2⟩:=hops j hj
   by_cases hn:(W j).w.next=(W j).v.next
   · have all:∀ nm,notR (hvF W) (hwF W) j nm=true:=fun nm=>by
      rw[qdm];show ¬((W j).v.next≤nm∧nm<(W j).w.next);omega
     refine⟨fun v _=>nm_sup (n:=v.sup) (fun i _=>all i) v (zbi _),fun i _=>⟨all i,fun c _=>Chunk.za7 (n:=c.sup) (fun i _=>all i) (zbi _)⟩⟩
   · have hnew:=(hwok j hj o ho).2.2.2 hn
     have hmp:=qe3 (ops:=ops) (bf:=befs ops) (l:=befs ops) (j0:=0) (j:=j) (k:=k) (b:=bf k) (acc:=[]) (by rw[qis]; exact hj) (by simp[newAt,ho2,hnew]) (hbfj k hk) (by omega) (by rw[zbv]; exact hb)
     rw[zbv]at hmp;obtain⟨a,b,v,h1,h2,h3,h4⟩:=qcb hav (j,k) hmp;have hat:∀ k,k<m→x.at k=some (W k):=fun k hk=>by rw[←cm]; exact f.at_ hk
     rw[hat j hj]at h1; cases h1;rw[hat k hk]at h2; cases h2;have h3:x.vals.get k=some v:=h3;rw[←cm,f.vals m (zbi _),if_pos hk]at h3; cases h3;simp only[qux,zbu,zbf]at h4;have hp:∀ nm,z5e (W j).v.next (W j).w.next nm=notR (hvF W) (hwF W) j nm:=fun nm=>rfl
     rcases h4 with h4 | ⟨h4,h5⟩
     · have:=zbj h4
       have:=(hwok j hj o ho).1;omega
     · refine⟨fun v hv=>?_,fun i hi=>qe5 h5 i hi⟩
       rw[hvals,if_pos hk]at hv; cases hv;exact h4
  · intro j o ho hw
    have hj:j<m:=(zch.1 ho).1;have:=(hok j hj o ho).2.2 hw;show(W j).w.log=[];rw[this]; exact(f.nv j hj).2
  · intro i
    show x.h.t.get i=_;rw[←cm]; exact f.seq m (zbi _) i
 refine⟨rfl,fun sl hL=>?_,?_⟩
 · refine qu9 (sl':=sl0) (qkd hL) ?_
   refine z3q rfl hmix hxok rfl ⟨rfl,rfl,rfl,rfl,?_⟩
   have hentry:∀ (src:Src) t u,(∃ s∈src,s.1=t∧(match s.2 with | some i=>vals[i]? | none=>lk sl0 t)=some u)→(∀ s∈src,s.1=t→ ∀ u',(match s.2 with | some i=>vals[i]? | none=>lk sl0 t)=some u'→u'=u)→lk (q0d sl0 vals src) t=some u:=by
    intro src t u
    induction src with
    | nil=>rintro⟨s,hs,_⟩; cases hs
    | cons a src ihs=>
      intro hex hun;obtain⟨t0,oi⟩:=a
      have tail:∀ rest:List (Nat×AV),rest=q0d sl0 vals src→(t0=t→(match oi with | some i=>vals[i]? | none=>lk sl0 t)=none)→lk rest t=some u:=by
       intro rest hr hno;rw[hr];refine ihs ?_ fun s hs=>hun s (zbh _ hs)
       obtain⟨s,hs,e1,e2⟩:=hex;rcases zbm.1 hs with rfl | hs
       · have:=hno e1
         simp only at e2; rw[this]at e2; cases e2
       · exact⟨s,hs,e1,e2⟩
      cases oi with
      | none=>
        simp only[q0d];cases hl:lk sl0 t0 with
        | none=>exact tail _ rfl fun e=>by subst e; exact hl
        | some v0=>
          simp only[lk]
          by_cases e:t0=t
          · subst e
            simp only[zca,if_true];rw[hun (t0,none) zbq rfl v0 hl]
          · simp only[beq_false e]
            exact tail _ rfl fun h=>absurd h e
      | some i=>
        simp only[q0d];cases hl:vals[i]? with
        | none=>exact tail _ rfl fun _=>hl
        | some v0=>
          simp only[lk]
          by_cases e:t0=t
          · subst e
            simp only[zca,if_true];rw[hun (t0,some i) zbq rfl v0 hl]
          · simp only[beq_false e]
            exact tail _ rfl fun h=>absurd h e
   have hxv:∀ k,x.vals.get k=if k<m then some (V k) else none:=fun k=>by rw[←cm]; exact f.vals m (zbi _) k
   have hfl:∀ (l:List Oper) (i:Nat),(∀ (q:Nat) (o:Oper),l[q]?=some o→ops[i+q]?=some o)→ ∀ k u,(finL x.vals L l i).get k=some u→(∃ q o,l[q]?=some o∧o.dst=some k∧x.vals.get (i+q)=some u)∨((∀ (q:Nat) (o:Oper),l[q]?=some o→o.dst≠some k)∧L.get k=some u):=by
    intro l
    induction l with
    | nil=>intro i _ k u hu; exact .inr ⟨fun q o h=>by simp at h,hu⟩
    | cons o l ihl=>
      intro i hl k u hu;have ih':=ihl (i+1) (fun q o h=>by rw[show i+1+q=i+(q+1) by omega]; exact hl (q+1) o (by simpa using h)) k u
      have hio:=hl 0 o (by simp)
      have down:(finL x.vals L l (i+1)).get k=some u→(o.dst≠some k)→((∃ q o_1,(o :: l)[q]?=some o_1∧o_1.dst=some k∧x.vals.get (i+q)=some u)∨((∀ (q:Nat) (o_1:Oper),(o :: l)[q]?=some o_1→o_1.dst≠some k)∧L.get k=some u)):=fun h hno=>by
       rcases ih' h with⟨q,o',h1,h2,h3⟩ | ⟨h1,h2⟩
       · exact Or.inl ⟨q+1,o',by simpa using h1,h2,by rw[show i+(q+1)=i+1+q by omega]; exact h3⟩
       · refine Or.inr ⟨fun q o' h=>?_,h2⟩
         cases q with
         | zero=>simp at h; subst h; exact hno
         | succ q=>exact h1 q o' (by simpa using h)
      have e0:finL x.vals L (o :: l) i=Option.rec (motive:=fun _=>Tr AV) (finL x.vals L l (i+1)) (fun d=>Option.rec (motive:=fun _=>Tr AV) (finL x.vals L l (i+1)) (fun v=>Tr.set 20 (finL x.vals L l (i+1)) d (some v)) (x.vals.get i)) o.dst:=rfl
      rw[e0]at hu;cases hd:o.dst with
      | none=>rw[hd]at hu; exact down hu (by rw[hd]; simp)
      | some d=>
        rw[hd]at hu;have him:i<m:=by rw[Nat.add_zero]at hio; exact(zch.1 hio).1
        have hvi:x.vals.get i=some (V i):=by rw[hxv,if_pos him]
        rw[hvi]at hu;have hu:(Tr.set 20 (finL x.vals L l (i+1)) d (some (V i))).get k=some u:=hu
        have hdN:d<N:=by
         rw[Nat.add_zero]at hio;rcases(hok i him o hio).1 with⟨_,hjo⟩ | ⟨_,_,_,h4⟩
         · have hst:=hstep i him o hio
           simp only[qgp,q09]at hst;obtain⟨w,w1,w2⟩:=hst;cases w with
           | false=>
             have w2:gb (qvj N o) (some (AV.tuple [],(W i).v))=some (V i,(W i).w):=w2;simp only[q2c,qvj,hd,Nat.blt_eq]at w2; exact w2.1
           | true=>
             have w2:(od (opE P ih N o (ofL (q0d sl0 vals (src i))) (W i).v D).norm fun s=>od (valOf? o s.sl) fun v=>some (v,s.h))=some (V i,(W i).w):=w2
             simp only[q09]at w2;obtain⟨s1,z1,_⟩:=w2;exact((qrk (r:=r) hih hN (qhs _) (qm8 z1)).slot d hd).1
         · exact h4 d hd
        have hd20:d+2≤2 ^ 20:=zbo (Nat.add_le_add_right (Nat.le_of_lt (zcm hdN hN)) 2) (by decide)
        have hu2:=hu;rw[Tr.zat 20 _ _ _ _ hd20]at hu2;split at hu2
        · rename_i e
          subst e;left;exact⟨0,o,by simp,hd,by rw[Nat.add_zero,hvi]; exact hu2⟩
        · rename_i e
          exact down hu2 (by rw[hd]; exact fun h=>e (by cases h; rfl))
   intro k u hu;have hfin0:=hfl ops.toList 0 (fun q o h=>by rw[zbv,←Array.getElem?_toList]; exact h) k u hu
   refine hentry fin k u ?_ ?_
   · rcases hfin0 with⟨q,o,h1,h2,h3⟩ | ⟨h1,h2⟩
     · rw[zbv]at h3
       have hq:ops[q]?=some o:=by rw[←Array.getElem?_toList]; exact h1
       have hqm:q<m:=(zch.1 hq).1;refine⟨(k,some q),List.mem_append_left _ (List.mem_filterMap.2 ⟨q,by simpa using hqm,by simp[hq,h2]⟩),rfl,?_⟩
       rw[hxv,if_pos hqm]at h3;simp only[hvals,if_pos hqm]; exact h3
     · have hk:(k,u)∈sl0:=qwp (by rw[qr6]; exact h2)
       refine⟨(k,none),List.mem_append_right _ (List.mem_filterMap.2 ⟨k,zcd.2 ⟨(k,u),hk,rfl⟩,?_⟩),rfl,by simp only[sl0,qr6]; exact h2⟩
       rw[if_pos];simp only[qgl,zc1,List.mem_range];intro q hq;cases hd:q2x ops q k with
       | false=>rfl
       | true=>
         obtain⟨o,ho,hd2⟩:=q0x.1 hd;exact absurd hd2 (h1 q o (by rw[Array.getElem?_toList]; exact ho))
   · intro s hs hsk u' hu'
     rcases zbr.1 hs with h | h
     · obtain⟨i,hi,h2⟩:=List.mem_filterMap.1 h
       simp only[Option.bind_eq_some_iff,zbw]at h2;obtain⟨o,ho,d,hd,rfl⟩:=h2;simp only at hsk hu';subst hsk;have him:i<m:=by simpa using hi
       rw[hvals,if_pos him]at hu';rcases hfin0 with⟨q,o',h1,h2,h3⟩ | ⟨h1,h2⟩
       · rw[zbv]at h3
         have hq:ops[q]?=some o':=by rw[←Array.getElem?_toList]; exact h1
         by_cases e:q=i
         · subst e; rw[hxv,if_pos him]at h3; rw[h3]at hu'; cases hu'; rfl
         · have:=plan0.uniq q i d e (q0x.2 ⟨o',hq,h2⟩)
           rw[q0x.2 ⟨o,ho,hd⟩]at this; cases this
       · exact absurd hd (h1 i o (by rw[Array.getElem?_toList]; exact ho))
     · obtain⟨t,_,h2⟩:=List.mem_filterMap.1 h
       split at h2
       · rename_i hf
         cases h2;simp only at hsk hu';subst hsk;rcases hfin0 with⟨q,o',h1,h2,h3⟩ | ⟨h1,h2⟩
         · have hq:ops[q]?=some o':=by rw[←Array.getElem?_toList]; exact h1
           simp only[qgl,zc1,List.mem_range]at hf;have:=hf q (zch.1 hq).1;rw[q0x.2 ⟨o',hq,h2⟩]at this; cases this
         · simp only[sl0,qr6]at hu'
           rw[h2]at hu'; cases hu'; rfl
       · cases h2
 ·
  refine⟨(List.range m).reverse.flatMap (TF W),?_,fun i hi=>?_⟩
  · show logs x.ws H.log=_
    rw[←cm]; exact f.logs m (zbi _) H.log
  · show x.h.t.get i=H.t.get i
    rw[←cm,f.seq m (zbi _)];rcases q4e (hw:=hwF W) (T:=TF W) (S:=fun _=>true) (h0:=H.ah) (i:=i) m with⟨k,k1,_,k3,_,_⟩ | ⟨_,k2⟩
    · exact absurd (List.mem_flatMap.2 ⟨k,by simpa using k1,k3⟩) hi
    · exact k2
end ops
def qkw(P:Program)(r:Option Nat)(c:Code)(s:St)(Q:AExit→St→Prop):Prop:=
 s.wf→rsup r≤s.h.next→ ∃ e s',s'.wf∧e.sup≤s'.h.next∧s.h.next≤s'.h.next∧Q e s'∧ ∀ ρ a w n,Rel ρ s a w→q7g (fen ρ r) n P c (Out ρ s w e s') a w
theorem qgw{P:Program}{r:Option Nat}{c:Code}{s:St}{Q:AExit→St→Prop}(h:qkw P r c s Q):J P r (.loop c) s Q:=fun hw hr=>
 let ⟨e,s',a,b,d,q,x⟩:=h hw hr; ⟨e,s',a,b,d,q,fun ρ ac w n hrel=>q8v (x ρ ac w n hrel)⟩
theorem q62{P:Program}{r:Option Nat}{x:Code}{s:St}{Q:AExit→St→Prop}(h:J P r x s (Then (fun s'=>qkw P r x s' Q) Q)):qkw P r x s Q:=by
 intro hw hr;obtain⟨e,s1,hw1,he1,hn1,hq,hx⟩:=h hw hr
 have other:e≠ .normal→Q e s1→ ∃ e s',s'.wf∧e.sup≤s'.h.next∧s.h.next≤s'.h.next∧Q e s'∧ ∀ ρ ac w n,Rel ρ s ac w→q7g (fen ρ r) n P x (Out ρ s w e s') ac w:=
  fun hne hq=>⟨e,s1,hw1,he1,hn1,hq,fun ρ ac w n hrel=>q5b (wpIn_mono (hx ρ ac w n hrel) fun _ _ _ h=>Out.zai hne h)⟩
 cases e with
 | normal=>
   obtain⟨e,s2,hw2,he2,hn2,hq2,hy⟩:=hq hw1 (by omega)
   refine⟨e,s2,hw2,he2,by omega,hq2,fun ρ ac w n hrel=>q5b (wpIn_mono (hx ρ ac w n hrel) ?_)⟩
   rintro e1 a1 w1 ⟨ρ',h1,h2,h3⟩;subst h1;have hf:=q94 h3.2.2.2.2.1 (r:=r) hr;show q7g (fen ρ r) n P x (Out ρ s w e s2) a1 w1;rw[←hf];refine qf9 (hy ρ' a1 w1 n h2) ?_;rintro e2 a2 w2 ⟨ρ'',q1,q2,q3⟩;exact⟨ρ'',q1,q2,h3.trans q3⟩
 | exit id=>exact other (by simp) hq
 | goto l=>exact other (by simp) hq
 | ret=>exact other (by simp) hq
 | panic v=>exact other (by simp) hq
theorem qkw.mono{P:Program}{r:Option Nat}{c:Code}{s:St}{Q Q':AExit→St→Prop}(h:qkw P r c s Q)(hq:∀ e s',Q e s'→Q' e s'):qkw P r c s Q':=fun hw hr=>
 let ⟨e,s',a,b,d,q,x⟩:=h hw hr; ⟨e,s',a,b,d,hq e s' q,x⟩
def SndL(P:Program):Tk→Rs→Prop
 | .code r n (.loop c) s,.code e s'=>n≤1000000→(∀ sl,Lk s.sl sl→qkw P r c ⟨sl,s.h.ah,n,s.ds⟩ (qcy n e s'))∧Lg s.h s'.h
 | t,z=>Snd P t z
theorem SndL.snd{P:Program}{t:Tk}{z:Rs}(h:SndL P t z):Snd P t z:=by
 cases t with
 | code r n c s=>
   cases c with
   | loop c=>
     cases z with
     | code e s'=>exact fun hn=>⟨fun sl hL=>qgw ((h hn).1 sl hL),(h hn).2⟩
     | fin v h'=>trivial
     | no w=>trivial
   | _=>exact h
 | call f args h'=>exact h
 | app fv args h'=>exact h
section
variable{P:Program}{ih:Tk→Rs}{r:Option Nat}{n:Nat}{s s':ES}{e:AExit}
theorem q39(hih:∀ t,SndL P t (ih t)){c:Code}(hn:n≤1000000)(h:ih (.code r n c s)= .code e s'):(∀ sl,Lk s.sl sl→J P r c ⟨sl,s.h.ah,n,s.ds⟩ (qcy n e s'))∧Lg s.h s'.h:=by
 have:=(hih (.code r n c s)).snd;rw[h]at this;exact this hn
theorem ql0:∀ (l:List AV) (k:Nat) (t:Tr AV) (i:Nat) (v:AV),k+l.length≤1000001→(qnw l k t).get i=some v→(k≤i∧l[i - k]?=some v)∨((i<k∨k+l.length≤i)∧t.get i=some v)
 | [],k,t,i,v,_,h=> .inr ⟨by simp; omega,h⟩
 | a :: l,k,t,i,v,hk,h=>by
   simp only[qnw]at h;simp only[zce]at hk ⊢;rcases ql0 l (k+1) _ i v (by omega) h with⟨h1,h2⟩ | ⟨h1,h2⟩
   · left
     refine⟨by omega,?_⟩
     rw[show i - k=(i - (k+1))+1 by omega]; simpa using h2
   · rw[Tr.zat 20 _ _ _ _ (by omega)]at h2
     split at h2
     · rename_i e; subst e; simp only[zbe]at h2; subst h2; exact .inl ⟨zbi _,by simp⟩
     · right; exact⟨by omega,h2⟩
theorem qqu:∀ (l:List AV) (k i:Nat) (v:AV),k≤i→l[i - k]?=some v→lk (q4x k l) i=some v
 | [],k,i,v,_,h=>by simp at h
 | a :: l,k,i,v,hk,h=>by
   simp only[q4x,lk]
   by_cases e:k=i
   · subst e; simp at h ⊢; exact h
   · rw[beq_false e]
     simp only[zbn,if_false];refine qqu l (k+1) i v (by omega) ?_
     rw[show i - k=(i - (k+1))+1 by omega]at h; simpa using h
theorem qzp{args:List AV}(h:args.length≤1000000):Lk (qnw args 0 .nil) (q4x 0 args):=by
 intro i v hv;rcases ql0 args 0 .nil i v (by omega) hv with⟨h1,h2⟩ | ⟨_,h2⟩
 · exact qqu args 0 i v h1 h2
 · simp[Tr.get_nil]at h2
theorem qmu:∀ {ks:List Nat} {vs:List AV} {t:Tr AV} {sl:List (Nat×AV)} {m:Nat},m≤1000000→qt6 m ks=true→Lk t sl→Lk (qi4 ks vs t) (q4s ks vs sl)
 | [],vs,t,sl,m,_,_,h=>by cases vs<;>exact h
 | k :: ks,[],t,sl,m,_,_,h=>h
 | k :: ks,v :: vs,t,sl,m,hm,hk,h=>by
   simp only[qt6]at hk;cases hb:Nat.blt k m with
   | false=>simp[hb]at hk
   | true=>
     simp only[hb]at hk;rw[Nat.blt_eq]at hb;simp only[qi4,q4s];exact qmu hm hk (h.put (by omega))
theorem qm3:∀ {ks:List Nat} {m:Nat},qt6 m ks=true→ ∀ k∈ks,k<m
 | [],_,_,k,h=>by cases h
 | a :: ks,m,h,k,hk=>by
   simp only[qt6]at h;cases hb:Nat.blt a m with
   | false=>simp[hb]at h
   | true=>
     simp only[hb]at h;rcases zbm.1 hk with rfl | hk
     · rw[Nat.blt_eq]at hb; exact hb
     · exact qm3 h k hk
theorem q9y:∀ {ds:List ADef} {h h':EH},q3j ds h=some h'→q5j ds h.ah∧q0j ds h.ah=h'.ah∧Lg h h'
 | [],h,h',e=>by simp only[q3j,zbe]at e; subst e; exact⟨trivial,rfl,.refl _⟩
 | .call _ _ :: ds,h,h',e=>by simp[q3j]at e
 | .mark id :: ds,h,h',e=>by
   simp only[q3j,q09]at e;obtain⟨_,h1,h2,h3,h4⟩:=e;simp only[EH.getM,q09]at h1;obtain⟨c,h5,h6⟩:=h1;have hc:c= .mark:=by cases c<;>simp[qhf]at h6; rfl
   subst hc;obtain⟨a1,a2,a3⟩:=q9y h4;have hd:(⟨h.ah.next,fun i=>if i=id then none else h.ah.get i⟩:AH)=h2.ah:=qro h3
   refine⟨⟨h5,?_⟩,?_,(EH.zaf h3).2.2.trans a3⟩
   · rw[hd]; exact a1
   · simp only[q0j]; rw[hd]; exact a2
theorem qk3{L:Tr AV}{sl:List (Nat×AV)}{h:EH}{nn:Nat}(hL:Lk L sl):∀ {l:List ResultVar} {vs:List AV},qtk P L h l=some vs→resL P ⟨sl,h.ah,nn,[]⟩ l=some vs
 | [],vs,e=>e
 | x :: l,vs,e=>by
   simp only[qtk,q09,zbe]at e;obtain⟨v,h1,us,h2,h3⟩:=e;have ih':=qk3 (nn:=nn) hL h2
   have hx:resV P ⟨sl,h.ah,nn,[]⟩ x=some v:=by
    cases x with
    | tmp t=>exact hL t v h1
    | cell a T=>
      simp only[z8j,q09]at h1;obtain⟨pv,k1,p,k2,cs,k3,g,k4,m,k5,k6⟩:=h1;have hp:pv= .ptr (some p):=by cases pv<;>simp[AV.asPtr]at k2; subst k2; rfl
      subst hp;obtain⟨DT,hD,rfl⟩:=qae k4;have hsz:=q2j k5;simp only[zbw]at hsz;obtain⟨i,hi,hi2⟩:=hsz;simp only[resV,hL _ _ k1,EH.zae k3,hD,hi,hi2];exact qr7 k6
   simp only[resL,hx,ih'];rw[h3]
theorem qzw(hih:∀ t,SndL P t (ih t)){f:Nat}{args:List AV}{h h':EH}{v:AV}(hc:qv8 P ih f args h= .fin v h'):(∃ fn c,IsFn P f fn c)∧q0n P f args h.ah (fun e h2=>e= .ret v∧h2=h'.ah)∧Lg h h':=by
 simp only[qv8,qhr,qlo,zbf,Bool.not_eq_true']at hc;obtain⟨fn,h1,c,h2,⟨⟨h3,h4⟩,h5⟩,h6⟩:=hc;have h4:=zbj h4;have h5:=zbj h5;have hf:IsFn P f fn c:=⟨by rw[←Array.getElem?_toList]; exact h1,h2,h3⟩
 have key:∀ e s,ih (.code none fn.ntmps c ⟨qnw args 0 .nil,h,[]⟩)= .code e s→qsz e=true→z4g P fn.results.toList s= .fin v h'→q0n P f args h.ah (fun e h2=>e= .ret v∧h2=h'.ah)∧Lg h h':=by
  intro e s hi he hend;obtain⟨hj,hlg⟩:=q39 hih h5 hi;obtain⟨L,H,D⟩:=s;have hend:(ob (q3j D H) fun h'=>ob (qtk P L h' fn.results.toList) fun vs=> .fin (oneOf vs) h')= .fin v h':=hend
  simp only[qhr,Rs.fin.injEq]at hend;obtain⟨H',k1,vs,k2,rfl,rfl⟩:=hend;obtain⟨m1,m2,m3⟩:=q9y k1;refine⟨q0s hf rfl h4 rfl ((hj _ (qzp (by omega))).mono ?_),hlg.trans m3⟩
  rintro e2 ⟨sl2,h2,n2,d2⟩ ⟨rfl,q1,q2,q3,q4⟩;simp only at q1 q2 q3 q4;subst q1; subst q2; subst q3
  have hres:q5j d2 H.ah∧ ∃ vs',resL P ⟨sl2,q0j d2 H.ah,fn.ntmps,[]⟩ fn.results.toList=some vs'∧(AEnd.ret (oneOf vs')= .ret (oneOf vs)∧q0j d2 H.ah=H'.ah):=by
   rw[m2];exact⟨m1,vs,qk3 q4 k2,rfl,rfl⟩
  cases e2 with
  | normal=>exact hres
  | ret=>exact hres
  | exit i=>simp[qsz]at he
  | goto i=>simp[qsz]at he
  | panic i=>simp[qsz]at he
 revert h6 key;generalize ih (.code none fn.ntmps c ⟨qnw args 0 .nil,h,[]⟩)=z;intro h6 key;cases z with
 | code e s=>
   have h6:gd (qsz e) (z4g P fn.results.toList s)= .fin v h':=h6;rw[qlo]at h6;exact⟨⟨fn,c,hf⟩,key e s rfl h6.1 h6.2⟩
 | fin v h'=>simp[qwn]at h6
 | no w=>simp[qwn]at h6
theorem qpb{l:Nat}{z:Rs}{v:AV}{h':EH}(hr:q8i l z= .fin v h'):∃ e s lr st pd b,z= .code e s∧s.h.getM l Chunk.asLoop=some lr∧lr.isBusy=true∧s.h.put l (some (lr.ck st pd))=some h'∧v= .bool b∧
 (match e with | .normal=>st= .ready∧pd=none∧b=true | .ret=>st= .done∧pd=some .ret∧b=false | .exit id=>st= .done∧pd=some (.exit id)∧b=false | .goto t=>st= .done∧pd=some (.goto t)∧b=false | .panic _=>False):=by
 cases z with
 | fin v h=>simp[q8i]at hr
 | no w=>simp[q8i]at hr
 | code e s=>
   simp only[q8i,qhr,qlo]at hr;obtain⟨lr,h1,h2,h3⟩:=hr;cases e<;>simp only[qxt,qav,qhr,Rs.fin.injEq,reduceCtorEq]at h3
   · obtain⟨H',k1,rfl,rfl⟩:=h3
     exact⟨_,_,lr,_,_,_,rfl,h1,h2,k1,rfl,rfl,rfl,rfl⟩
   · obtain⟨H',k1,rfl,rfl⟩:=h3
     exact⟨_,_,lr,_,_,_,rfl,h1,h2,k1,rfl,rfl,rfl,rfl⟩
   · obtain⟨H',k1,rfl,rfl⟩:=h3
     exact⟨_,_,lr,_,_,_,rfl,h1,h2,k1,rfl,rfl,rfl,rfl⟩
   · obtain⟨H',k1,rfl,rfl⟩:=h3
     exact⟨_,_,lr,_,_,_,rfl,h1,h2,k1,rfl,rfl,rfl,rfl⟩
theorem qhg{lr:LoopR}(h:lr.isReady=true):lr.st= .ready:=by
 unfold LoopR.isReady at h;split at h
 · assumption
 · cases h
theorem qlu{lr:LoopR}:lr.isBusy=true↔lr.st= .busy:=by
 unfold LoopR.isBusy;split
 · rename_i h; simp[h]
 · rename_i h; simp; exact h
theorem qzd(hih:∀ t,SndL P t (ih t)){l:Nat}{args:List AV}{h h':EH}{v:AV}(hc:qzc ih l args h= .fin v h'):JApp P (.yield l) args h.ah (fun e h2=>e= .ret v∧h2=h'.ah)∧Lg h h':=by
 simp only[qzc,qhr,qlo,zbf]at hc;obtain⟨lr,h1,⟨⟨⟨h2,h3⟩,h4⟩,h5⟩,h6⟩:=hc;have h5:=zbj h5;have h3:=zbg h3;have hg:=q5q h1;rw[qhg h2]at hg
 have key:∀ e s1,ih (.code (some l) lr.nt lr.assign ⟨qi4 lr.ps.toList args (ofL lr.ts),h,[]⟩)= .code e s1→qs8 ih l lr.nt lr.body (.code e s1)= .fin v h'→JApp P (.yield l) args h.ah (fun e h2=>e= .ret v∧h2=h'.ah)∧Lg h h':=by
  intro e s1 hi hb;obtain⟨L,H,D⟩:=s1;have hb:gd (q7e e) (ob (H.getM l Chunk.asLoop) fun lr1=>gd lr1.isReady (ob (H.put l (some (lr1.ck .busy lr1.pd))) fun h2=>q8i l (ih (.code (some l) lr.nt lr.body ⟨L,h2,D⟩))))= .fin v h':=hb
  simp only[qlo,qhr,qbj]at hb;obtain⟨rfl,lr1,k1,k2,H2,k3,k4⟩:=hb;obtain⟨hj,hlg⟩:=q39 hih h5 hi;obtain⟨e3,s3,lr3,st3,pd3,b3,z1,z2,z3,z4,rfl,z6⟩:=qpb k4;obtain⟨hj3,hlg3⟩:=q39 hih h5 z1;have hg1:=q5q k1;rw[qhg k2]at hg1;refine⟨qgu hg (by rw[←h3]; simp) (qm3 h4) ((hj _ (qmu h5 h4 (qhs lr.ts))).mono ?_),hlg.trans ((EH.zaf k3).2.2.trans (hlg3.trans (EH.zaf z4).2.2))⟩
  rintro e2 ⟨sl2,h2',n2,d2⟩ ⟨rfl,q1,q2,q3,q4⟩;simp only at q1 q2 q3 q4;subst q1; subst q2; subst q3;refine⟨_,_,_,_,_,_,_,hg1,fun a ha=>?_⟩
  have:=q21 k3 ha;subst this;refine(hj3 sl2 q4).mono ?_;rintro e4 ⟨sl4,h4',n4,d4⟩ ⟨rfl,q5,q6,q7,q8⟩;simp only at q5 q6 q7 q8;subst q5;have hg3:=q5q z2;rw[qlu.1 z3]at hg3;refine⟨_,_,_,_,_,_,_,hg3,?_⟩;cases e4 with
  | normal=>obtain⟨rfl,rfl,rfl⟩:=z6; exact fun a ha=>⟨rfl,q21 z4 ha⟩
  | ret=>obtain⟨rfl,rfl,rfl⟩:=z6; exact fun a ha=>⟨rfl,q21 z4 ha⟩
  | exit i=>obtain⟨rfl,rfl,rfl⟩:=z6; exact fun a ha=>⟨rfl,q21 z4 ha⟩
  | goto i=>obtain⟨rfl,rfl,rfl⟩:=z6; exact fun a ha=>⟨rfl,q21 z4 ha⟩
  | panic i=>exact z6.elim
 revert h6 key;generalize ih (.code (some l) lr.nt lr.assign ⟨qi4 lr.ps.toList args (ofL lr.ts),h,[]⟩)=z;intro h6 key;cases z with
 | code e s=>exact key e s rfl h6
 | fin v h'=>simp[qs8]at h6
 | no w=>simp[qs8]at h6
theorem z3t(hih:∀ t,SndL P t (ih t)){fv:AV}{args:List AV}{h h':EH}{v:AV}(hc:appE ih fv args h= .fin v h'):JApp P fv args h.ah (fun e h2=>e= .ret v∧h2=h'.ah)∧Lg h h':=by
 cases fv with
 | fn f first cap=>
   cases f with
   | func f=>
     have hc:ih (.call f (first++args++cap) h)= .fin v h':=hc
     have hs:=hih (.call f (first++args++cap) h)
     rw[hc]at hs;obtain⟨⟨fn,c,hf⟩,hj,hlg⟩:=hs;exact⟨q37 hf hj,hlg⟩
   | _=>simp[appE]at hc
 | yield l=>exact qzd hih hc
 | _=>simp[appE]at hc
theorem qfz(hih:∀ t,SndL P t (ih t))(hn:n≤1000000){l:Nat}{marks:List ADef}{L:Tr AV}{D:List ADef}{z:Rs}(hc:q8f ih r n l marks L D z= .code e s'):∃ v h2,z= .fin v h2∧Lg h2 s'.h∧
 ∀ sl h0,Lk L sl→q4y P r l marks ⟨sl,h0,n,D⟩ (qcy n e s') (.ret v) h2.ah:=by
 cases z with
 | code e s=>simp[q8f]at hc
 | no w=>simp[q8f]at hc
 | fin v h2=>
   simp only[q8f,q08,q14,Bool.not_eq_true']at hc;obtain⟨lr,k1,k2,h3,k3,k4⟩:=hc;have hnb:lr.st≠ .busy:=fun h=>by rw[qlu.2 h]at k2; cases k2
   have hd:=qro k3;have hlg:=(EH.zaf k3).2.2;cases hp:lr.pd with
   | none=>
     rw[hp]at k4;simp only[Rs.code.injEq]at k4;obtain⟨rfl,rfl⟩:=k4;refine⟨v,h2,rfl,hlg,fun sl h0 hL=>?_⟩
     have hg:=q5q k1;rw[hp]at hg;refine⟨_,_,_,_,_,_,_,_,hg,hnb,?_⟩;exact⟨rfl,hd,rfl,rfl,hL⟩
   | some c=>
     rw[hp]at k4;obtain⟨hj,hlg2⟩:=q39 hih hn k4;refine⟨v,h2,rfl,hlg.trans hlg2,fun sl h0 hL=>?_⟩
     have hg:=q5q k1;rw[hp]at hg;refine⟨_,_,_,_,_,_,_,_,hg,hnb,?_⟩;show J P r c ⟨sl,h2.ah.drop l,n,marks++D⟩ (qcy n e s');rw[hd]; exact hj sl hL
theorem z3z{v:AV}{f:Nat×List AV×List AV}(h:v.asFn=some f):v= .fn (.func f.1) f.2.1 f.2.2:=by
 cases v with
 | fn g a b=>cases g<;>simp[AV.asFn]at h; subst h; rfl
 | _=>simp[AV.asFn]at h
theorem qxp(hih:∀ t,SndL P t (ih t))(hn:n≤1000000){f:Operand}{ps:Array Tmp}{assign body:Code}{L:Tr AV}{H:EH}{D:List ADef}(hc:qrq ih r n f ps assign body L H D= .code e s'):
 (∀ sl,Lk L sl→J P r (.rangeFunc f ps assign body) ⟨sl,H.ah,n,D⟩ (qcy n e s'))∧Lg H s'.h:=by
 simp only[qrq,q08,q09]at hc;obtain⟨fv,⟨v0,h1,h2⟩,h3⟩:=hc;have:=z3z h2;subst this;cases r with
 | none=>
   simp only[qrr,q08]at h3;obtain⟨h1',k1,h2',k2,k3⟩:=h3;obtain⟨v,hz,k4,k5,k6⟩:=qfz hih hn k3;have hs:=hih (.call fv.1 (fv.2.1++[.yield h1'.next]++fv.2.2) h2');rw[k4]at hs;obtain⟨⟨fn,cb,hf⟩,hj,hlg⟩:=hs;have a1:=(q4z k1 (AH.z9w _ _)).2;have a2:=(q4z k2 (AH.z9w _ _)).2;have n1:=(EH.zad k1).1;refine⟨fun sl hL=>?_,(EH.zad k1).2.2.trans ((EH.zad k2).2.2.trans (hlg.trans k5))⟩
   refine q8o rfl (q0m hL h1) hf (qkd hL) ?_;show q0n P fv.1 (fv.2.1++[.yield (H.next+1)]++fv.2.2) ((H.ah.add .mark).add (.loop .ready none (L.toL id []) n ps assign body H.next)) (q4y P none (H.next+1) [.mark H.next] ⟨sl,H.ah,n,D⟩ (qcy n e s'));rw[a1,a2,←n1];refine hj.mono ?_;rintro e2 h4 ⟨rfl,rfl⟩;exact k6 sl _ hL
 | some l0=>
   simp only[qxq,q08]at h3;obtain⟨lr,k0,h1',k1,k3⟩:=h3;obtain⟨v,hz,k4,k5,k6⟩:=qfz hih hn k3;have hs:=hih (.call fv.1 (fv.2.1++[.yield H.next]++fv.2.2) h1');rw[k4]at hs;obtain⟨⟨fn,cb,hf⟩,hj,hlg⟩:=hs;refine⟨fun sl hL=>?_,(EH.zad k1).2.2.trans (hlg.trans k5)⟩
   refine q9n rfl (q0m hL h1) hf (qkd hL) (q5q k0) fun l h1 ha=>?_
   obtain⟨rfl,rfl⟩:=q4z k1 ha;refine hj.mono ?_;rintro e2 h4 ⟨rfl,rfl⟩;exact k6 sl _ hL
theorem qzt{id:Nat}{z:Rs}(h:blkE id z= .code e s'):∃ e1,z= .code e1 s'∧e=blkX id e1:=by
 cases z with
 | code e1 s1=>
   have h:Rs.code (blkX id e1) s1= .code e s':=h;simp only[Rs.code.injEq]at h;obtain⟨rfl,rfl⟩:=h;exact⟨e1,rfl,rfl⟩
 | fin v h'=>simp[blkE]at h
 | no w=>simp[blkE]at h
theorem qtm{z:Rs}(h:qmy z= .code e s'):z= .code e s'∧ ∀ l,e≠ .goto l:=by
 cases z with
 | code e1 s1=>
   have h:gd (!qwg e1) (.code e1 s1)= .code e s':=h;simp only[q14,Rs.code.injEq,Bool.not_eq_true']at h;obtain⟨h1,rfl,rfl⟩:=h;refine⟨rfl,fun l hl=>?_⟩
   subst hl; simp[qwg]at h1
 | fin v h'=>simp[qmy]at h
 | no w=>simp[qmy]at h
theorem z00(hmix:P.follows .mixedOrders=true)(hih:∀ t,SndL P t (ih t)){c:Code}(hc:qzz P ih r n c s= .code e s'):SndL P (.code r n c s) (.code e s'):=by
 have hih':∀ t,Snd P t (ih t):=fun t=>(hih t).snd
 cases c with
 | skip=>
   intro hn;have hc:Rs.code .normal s= .code e s':=hc;cases hc;exact⟨fun sl hL=>q8p rfl ⟨rfl,rfl,rfl,rfl,hL⟩,.refl _⟩
 | region id ops draw=>
   intro hn;cases draw with
   | false=>
     have hc:opsE P ih ops n ops.toList s= .code e s':=hc;have k:∀ sl,Lk s.sl sl→_:=fun sl hL=>qk1 (r:=r) hih' hn ops.toList [] [] s sl (by simp) hL hc
     have he:=(k _ (qna _)).1;subst he;refine⟨fun sl hL=>qd3 rfl ?_,(k _ (qna _)).2.2⟩
     have:=(k sl hL).2.1;rw[show List.range ops.size=List.range' ([]:List Oper).length ops.toList.length by simp[List.range_eq_range']]
     exact this
   | true=>
     have hc:z4d P ih ops n s= .code e s':=hc;obtain⟨rfl,h1,h2⟩:=z04 (r:=r) (rid:=id) hmix hih' hn hc;exact⟨h1,h2⟩
 | seq x y=>
   intro hn;have hc:qn9 (fun s'=>ih (.code r n y s')) (ih (.code r n x s))= .code e s':=hc
   rcases qc1 hc with⟨s1,h1,h2⟩ | ⟨hne,h1⟩
   · obtain⟨a1,a2⟩:=q39 hih hn h1
     obtain⟨b1,b2⟩:=q39 hih hn h2;refine⟨fun sl hL=>q1p rfl ((a1 sl hL).mono ?_),a2.trans b2⟩
     rintro e2 ⟨sl2,h2',n2,d2⟩ ⟨rfl,q1,q2,q3,q4⟩;simp only at q1 q2 q3 q4;subst q1; subst q2; subst q3;exact b1 sl2 q4
   · obtain⟨a1,a2⟩:=q39 hih hn h1
     refine⟨fun sl hL=>q1p rfl ((a1 sl hL).mono ?_),a2⟩
     rintro e2 s2 ⟨rfl,hq⟩;cases e2<;>first | exact absurd rfl hne | exact⟨rfl,hq⟩
 | cond o x y=>
   intro hn;have hc:z47 ih r n o x y s= .code e s':=hc;simp only[z47,q08]at hc;obtain⟨v,h1,b,h2,h3⟩:=hc;have:=q9p h2;subst this;cases b with
   | true=>
     have h3:ih (.code r n x s)= .code e s':=h3;obtain⟨a1,a2⟩:=q39 hih hn h3;exact⟨fun sl hL=>qdx rfl (q0m hL h1) (fun _=>a1 sl hL) (fun h=>by cases h),a2⟩
   | false=>
     have h3:ih (.code r n y s)= .code e s':=h3;obtain⟨a1,a2⟩:=q39 hih hn h3;exact⟨fun sl hL=>qdx rfl (q0m hL h1) (fun h=>by cases h) (fun _=>a1 sl hL),a2⟩
 | block id x=>
   intro hn;have hc:blkE id (ih (.code r n x s))= .code e s':=hc;obtain⟨e1,h1,rfl⟩:=qzt hc;obtain⟨a1,a2⟩:=q39 hih hn h1;refine⟨fun sl hL=>q4i rfl ((a1 sl hL).mono ?_),a2⟩
   rintro e2 s2 ⟨rfl,hq⟩;cases e2 with
   | exit j=>
     simp only[qku,blkX];cases hb:Nat.beq j id with
     | true=>simp only[if_true]; exact⟨rfl,hq⟩
     | false=>simp only[zbn,if_false]; exact⟨rfl,hq⟩
   | _=>exact⟨rfl,hq⟩
 | loop x=>
   intro hn;have hc:qn9 (fun s'=>ih (.code r n (.loop x) s')) (ih (.code r n x s))= .code e s':=hc
   rcases qc1 hc with⟨s1,h1,h2⟩ | ⟨hne,h1⟩
   · obtain⟨a1,a2⟩:=q39 hih hn h1
     have hb:=hih (.code r n (.loop x) s1);rw[h2]at hb;obtain⟨b1,b2⟩:=hb hn;refine⟨fun sl hL=>q62 ((a1 sl hL).mono ?_),a2.trans b2⟩
     rintro e2 ⟨sl2,h2',n2,d2⟩ ⟨rfl,q1,q2,q3,q4⟩;simp only at q1 q2 q3 q4;subst q1; subst q2; subst q3;exact b1 sl2 q4
   · obtain⟨a1,a2⟩:=q39 hih hn h1
     refine⟨fun sl hL=>q62 ((a1 sl hL).mono ?_),a2⟩
     rintro e2 s2 ⟨rfl,hq⟩;cases e2<;>first | exact absurd rfl hne | exact⟨rfl,hq⟩
 | rangeFunc f ps assign body=>
   intro hn;obtain⟨L,H,D⟩:=s;have hc:qrq ih r n f ps assign body L H D= .code e s':=hc;exact qxp hih hn hc
 | exit id=>
   intro hn;have hc:Rs.code (.exit id) s= .code e s':=hc;cases hc;exact⟨fun sl hL=>qgv rfl ⟨rfl,rfl,rfl,rfl,hL⟩,.refl _⟩
 | scope x=>
   intro hn;have hc:qmy (ih (.code r n x s))= .code e s':=hc;obtain⟨h1,h2⟩:=qtm hc;obtain⟨a1,a2⟩:=q39 hih hn h1;refine⟨fun sl hL=>qnu rfl ((a1 sl hL).mono ?_),a2⟩
   rintro e2 s2 ⟨rfl,hq⟩;cases e2<;>first | exact absurd rfl (h2 _) | exact⟨rfl,hq⟩
 | label l=>
   intro hn;have hc:Rs.code .normal s= .code e s':=hc;cases hc;exact⟨fun sl hL=>qua rfl ⟨rfl,rfl,rfl,rfl,hL⟩,.refl _⟩
 | goto l=>exact Rs.noConfusion hc
 | ret=>
   intro hn;have hc:Rs.code .ret s= .code e s':=hc;cases hc;exact⟨fun sl hL=>quc rfl ⟨rfl,rfl,rfl,rfl,hL⟩,.refl _⟩
 | refuse w=>exact Rs.noConfusion hc
theorem z1m(hmix:P.follows .mixedOrders=true)(hih:∀ t,SndL P t (ih t)):∀ t,SndL P t (qy6 P ih t):=by
 intro t;cases t with
 | code r n c s=>
   have e:qy6 P ih (.code r n c s)=qzz P ih r n c s:=rfl;rw[e];cases hz:qzz P ih r n c s with
   | code e s'=>exact z00 hmix hih hz
   | fin v h=>cases c<;>trivial
   | no w=>cases c<;>trivial
 | call f args h=>
   have e:qy6 P ih (.call f args h)=qv8 P ih f args h:=rfl;rw[e];cases hz:qv8 P ih f args h with
   | code e s'=>trivial
   | fin v h=>exact qzw hih hz
   | no w=>trivial
 | app fv args h=>
   have e:qy6 P ih (.app fv args h)=appE ih fv args h:=rfl;rw[e];cases hz:appE ih fv args h with
   | code e s'=>trivial
   | fin v h=>exact z3t hih hz
   | no w=>trivial
theorem qk4(hmix:P.follows .mixedOrders=true):∀ k t,SndL P t (runE P k t):=by
 intro k
 induction k with
 | zero=>intro t; cases t<;>first | trivial | (rename_i c _; cases c<;>trivial)
 | succ k ih=>exact z1m hmix ih
theorem qxu(hmix:P.follows .mixedOrders=true){k f:Nat}{args:List AV}{h h':EH}{v:AV}(hr:runE P k (.call f args h)= .fin v h'):q0n P f args h.ah (fun e h2=>e= .ret v∧h2=h'.ah):=by
 have:=qk4 hmix k (.call f args h);rw[hr]at this;exact this.2.1
end
structure Fgt(s s':St):Prop where
 slots:∀ k v,lk s.slots k=some v→lk s'.slots k=some v
 heap:∀ i c,s.h.get i=some c→s'.h.get i=some c
 next:s.h.next=s'.h.next
 n:s.n=s'.n
 defs:s.defs=s'.defs
theorem Fgt.wf{s s':St}(h:Fgt s s')(hw:s'.wf):s.wf:=
 ⟨fun k v hk=>by rw[h.next]; exact hw.1 k v (h.slots k v hk),fun i c hi=>by rw[h.next]; exact hw.2.1 i c (h.heap i c hi),by rw[h.defs,h.next]; exact hw.2.2⟩
theorem Fgt.rel{s s':St}(h:Fgt s s'){ρ:Ren}{a:Act}{w:World}(hr:Rel ρ s' a w):Rel ρ s a w:=
 ⟨⟨by rw[h.n]; exact hr.1.1,fun k v hk=>hr.1.2 k v (h.slots k v hk)⟩,by rw[h.defs]; exact hr.2.1,fun i c hi=>hr.2.2.1 i c (h.heap i c hi),fun i j ci cj hne hi hj hro=>hr.2.2.2 i j ci cj hne (h.heap i ci hi) (h.heap j cj hj) hro⟩
theorem Fr.sub{ρ ρ':Ren}{h h' h'':AH}{w w':World}(a:Fr ρ h w ρ' h' w')(hg:∀ i c,h''.get i=some c→h'.get i=some c)(hn:h''.next=h'.next):Fr ρ h w ρ' h'' w':=by
 obtain⟨a1,a2,a3,a4,a5,a6⟩:=a;exact⟨a1,a2,a3,fun id c hc=>a4 id c (hg id c hc),a5,by omega⟩
theorem z6m{P:Program}{r:Option Nat}{c:Code}{s:St}{Q Q':AExit→St→Prop}(h:J P r c s Q)(hq:∀ e s',Q e s'→ ∃ s2,Fgt s2 s'∧Q' e s2):J P r c s Q':=by
 intro hw hr;obtain⟨e,s',a1,a2,a3,a4,a5⟩:=h hw hr;obtain⟨s2,b1,b2⟩:=hq e s' a4;refine⟨e,s2,b1.wf a1,by rw[b1.next]; exact a2,by rw[b1.next]; exact a3,b2,fun ρ a w n hrel=>wpIn_mono (a5 ρ a w n hrel) ?_⟩
 rintro e' a' w' ⟨ρ',k1,k2,k3⟩;exact⟨ρ',k1,b1.rel k2,k3.sub b1.heap b1.next⟩
theorem qsd{P:Program}{f:FuncId}{args:List AV}{h:AH}{Q Q':AEnd→AH→Prop}(hc:q0n P f args h Q)(hq:∀ e h',Q e h'→ ∃ h2,(∀ i c,h2.get i=some c→h'.get i=some c)∧h2.next=h'.next∧Q' e h2):q0n P f args h Q':=by
 intro hw hs;obtain⟨e,h',a1,a2,a3,a4,a5⟩:=hc hw hs;obtain⟨h2,b1,b2,b3⟩:=hq e h' a4;refine⟨e,h2,fun i c hi=>by rw[b2]; exact a1 i c (b1 i c hi),by rw[b2]; exact a2,by rw[b2]; exact a3,b3,fun ρ w n hr=>(a5 ρ w n hr).mono ?_⟩
 rintro e' w' ⟨ρ',k1,k2,k3⟩;exact⟨ρ',k1,⟨fun i c hi=>k2.1 i c (b1 i c hi),fun i j ci cj hne hi hj hro=>k2.2 i j ci cj hne (b1 i ci hi) (b1 j cj hj) hro⟩,k3.sub b1 b2⟩
noncomputable section
def trL{α:Type}(l:List (Nat×α)):Tr α:=List.rec (motive:=fun _=>Tr α) .nil (fun kv _ t=>Tr.set 40 t kv.1 (some kv.2)) l
def q59{α:Type}(l:List (Nat×α)):Bool:=l.all fun kv=>Nat.ble kv.1 lim
theorem qg6{α:Type}:∀ {l:List (Nat×α)},q59 l=true→ ∀ {k:Nat} {v:α},(trL l).get k=some v→(k,v)∈l
 | [],_,k,v,h=>by simp[trL,Tr.get]at h
 | kv :: l,hk,k,v,h=>by
   simp only[q59,List.all_cons,zbf]at hk;have h0:kv.1≤lim:=zbj hk.1;have e:trL (kv :: l)=Tr.set 40 (trL l) kv.1 (some kv.2):=rfl;rw[e,Tr.zat 40 _ _ _ _ (by unfold lim at h0; omega)]at h
   split at h
   · rename_i e; cases h; subst e; exact zbq ..
   · exact zbh _ (qg6 (l:=l) hk.2 h)
def hp(ch:List (Nat×Chunk))(nx:Nat):AH:=⟨nx,(trL ch).get⟩
def esOf(sl:List (Nat×AV))(ch:List (Nat×Chunk))(nx:Nat):ES:=⟨trL sl,⟨nx,trL ch,[]⟩,[]⟩
def qo9{α:Type}(t:Tr α)(ks:List Nat):List (Option α):=List.rec (motive:=fun _=>List (Option α)) [] (fun k _ r=>t.get k :: r) ks
def ES.pr(s:ES)(ks is:List Nat):Option (List (Option AV)×List (Option Chunk)×Nat):=
 ES.rec (motive:=fun _=>_) (fun sl h ds=>EH.rec (motive:=fun _=>_) (fun nx t _=>List.rec (motive:=fun _=>_) (some (qo9 sl ks,qo9 t is,nx)) (fun _ _ _=>none) ds) h) s
def z4s:AExit→Bool
 | .normal=>true
 | _=>false
def Rs.pr(z:Rs)(ks is:List Nat):Option (List (Option AV)×List (Option Chunk)×Nat):=
 Rs.rec (motive:=fun _=>_) (fun e s=>Bool.rec (motive:=fun _=>_) none (s.pr ks is) (z4s e)) (fun _ _=>none) (fun _=>none) z
def qjg{α:Type}(l:List (Nat×α)):List Nat:=List.rec (motive:=fun _=>List Nat) [] (fun kv _ r=>kv.1 :: r) l
def qyk{α:Type}(l:List (Nat×α)):List (Option α):=List.rec (motive:=fun _=>List (Option α)) [] (fun kv _ r=>some kv.2 :: r) l
end
theorem qab{α:Type}{t:Tr α}:∀ {l:List (Nat×α)},qo9 t (qjg l)=qyk l→ ∀ {k:Nat} {v:α},(k,v)∈l→t.get k=some v
 | [],_,k,v,h=>by simp at h
 | kv :: l,hg,k,v,h=>by
   have hg:t.get kv.1 :: qo9 t (qjg l)=some kv.2 :: qyk l:=hg;simp only[List.cons.injEq]at hg;rcases zbm.1 h with h | h
   · subst h; exact hg.1
   · exact qab hg.2 h
def Cut(P:Program)(n:Nat)(c:Code)(sl:List (Nat×AV))(ch:List (Nat×Chunk))(nx:Nat)(sl':List (Nat×AV))(ch':List (Nat×Chunk))(nx':Nat):Prop:=
 ∀ slots,Lk (trL sl) slots→J P none c ⟨slots,hp ch nx,n,[]⟩ (fun e s=>e= .normal∧ ∃ slots',Lk (trL sl') slots'∧s=⟨slots',hp ch' nx',n,[]⟩)
theorem Cut.seq{P:Program}{n:Nat}{c x y:Code}{sl sl1:List (Nat×AV)}{ch ch1:List (Nat×Chunk)}{nx nx1:Nat}{Q:AExit→St→Prop}(hc:c= .seq x y)(h:Cut P n x sl ch nx sl1 ch1 nx1)
 (hy:∀ slots,Lk (trL sl1) slots→J P none y ⟨slots,hp ch1 nx1,n,[]⟩ Q):∀ slots,Lk (trL sl) slots→J P none c ⟨slots,hp ch nx,n,[]⟩ Q:=fun slots hL=>
 q1p hc ((h slots hL).mono fun e s ⟨he,slots',h1,hs⟩=>by subst he; subst hs; exact hy slots' h1)
theorem qu4{P:Program}{f:FuncId}{v:AV}{R:AEnd→AH→Prop}(h:q0n P f [] (hp [] 0) R)(hR:∀ e h',R e h'→e= .ret v∧v.sup=0)(hv:∀ σ,v.ren σ=v){g:AH}:q0n P f [] g (fun e g'=>e= .ret v∧Le g g'):=q2k fun gw=>by
 have:=q61 (P:=P) (σ:=fun i=>i) (g:=g) h ⟨fun i hi=>by simp[hp]at hi,fun i c hi=>by simp[hp,trL,Tr.get]at hi,fun i j hi=>by obtain⟨c,hc⟩:=hi; simp[hp,trL,Tr.get]at hc⟩ (fun i c hi=>by simp[hp,trL,Tr.get]at hi) (zbl _)
 refine this.mono ?_;rintro e2 g2 ⟨e,h',r1,r2,r3,r4,rfl,rfl⟩;obtain⟨rfl,_⟩:=hR e h' r1;refine⟨by simp only[AEnd.ren,hv],by simp only[after]; omega,fun j c hj=>?_⟩
 rw[q7v (gw j c hj).1 (fun i c' hi=>by simp[hp,trL,Tr.get]at hi)]
 exact hj
structure LS where
 sl:List (Nat×AV)
 ch:List (Nat×Chunk)
 nx:Nat
noncomputable section
def LS.es(s:LS):ES:=⟨trL s.sl,⟨s.nx,trL s.ch,[]⟩,[]⟩
def LS.ok(s:LS):Bool:=q59 s.sl&&q59 s.ch
def exN(e:AExit):Option Nat:=AExit.rec (motive:=fun _=>Option Nat) (some 0) (fun id=>some (Nat.succ (Nat.succ id))) (fun _=>none) (some 1) (fun _=>none) e
def exOf:Nat→AExit
 | 0=> .normal
 | 1=> .ret
 | n+2=> .exit n
def Rs.prX(z:Rs)(ks is:List Nat):Option (Nat×List (Option AV)×List (Option Chunk)×Nat):=
 Rs.rec (motive:=fun _=>_) (fun e s=>Option.rec (motive:=fun _=>_) none (fun m=>Option.rec (motive:=fun _=>_) none (fun q=>some (m,q)) (s.pr ks is)) (exN e)) (fun _ _=>none) (fun _=>none) z
def LS.want(s:LS)(m:Nat):Option (Nat×List (Option AV)×List (Option Chunk)×Nat):=some (m,qyk s.sl,qyk s.ch,s.nx)
def Rs.at(z:Rs)(s:LS):Option (Nat×List (Option AV)×List (Option Chunk)×Nat):=z.prX (qjg s.sl) (qjg s.ch)
end
theorem z09{e:AExit}{m:Nat}(h:exN e=some m):e=exOf m:=by
 cases e<;>cases h<;>rfl
def At(n:Nat)(m:Nat)(s:LS):AExit→St→Prop:=fun e s2=>e=exOf m∧ ∃ slots,Lk (trL s.sl) slots∧s2=⟨slots,hp s.ch s.nx,n,[]⟩
def CutE(P:Program)(n:Nat)(c:Code)(s:LS)(m:Nat)(s':LS):Prop:=
 ∀ slots,Lk (trL s.sl) slots→J P none c ⟨slots,hp s.ch s.nx,n,[]⟩ (At n m s')
def q6u(P:Program)(n:Nat)(c:Code)(s:LS)(m:Nat)(s':LS):Prop:=
 ∀ slots,Lk (trL s.sl) slots→qkw P none c ⟨slots,hp s.ch s.nx,n,[]⟩ (At n m s')
def CutL(P:Program)(n:Nat)(ops:Array Oper)(a m:Nat)(s s':LS):Prop:=
 ∀ slots,Lk (trL s.sl) slots→JL P none ops (List.range' a m) ⟨slots,hp s.ch s.nx,n,[]⟩ (At n 0 s')
def CutC(P:Program)(f:FuncId)(args:List AV)(ch:List (Nat×Chunk))(nx:Nat)(v:AV)(ch':List (Nat×Chunk))(nx':Nat):Prop:=
 q0n P f args (hp ch nx) (fun e h'=>e= .ret v∧h'=hp ch' nx')
theorem z1d{e:AExit}{s:ES}{ks is:List Nat}:(Rs.code e s).prX ks is=(exN e).bind fun m=>(s.pr ks is).map fun q=>(m,q):=by
 unfold Rs.prX;simp only;cases exN e with
 | none=>rfl
 | some m=>cases s.pr ks is<;>rfl
theorem z2e{z:Rs}{s':LS}{m:Nat}(hok:s'.ok=true)(h:z.at s'=s'.want m):
 ∃ s1,z= .code (exOf m) s1∧s1.ds=[]∧s1.h.next=s'.nx∧(∀ k v,(trL s'.sl).get k=some v→s1.sl.get k=some v)∧(∀ i c,(trL s'.ch).get i=some c→s1.h.t.get i=some c):=by
 simp only[LS.ok,zbf]at hok;cases z with
 | fin v h'=>exact absurd h (fun q=>nomatch q)
 | no w=>exact absurd h (fun q=>nomatch q)
 | code e s1=>
   obtain⟨L,⟨nx2,t,log⟩,ds⟩:=s1;have h:(Rs.code e ⟨L,⟨nx2,t,log⟩,ds⟩).prX (qjg s'.sl) (qjg s'.ch)=s'.want m:=h;rw[z1d]at h;cases he:exN e with
   | none=>rw[he]at h; cases h
   | some m2=>
     rw[he]at h;cases ds with
     | cons d ds=>cases h
     | nil=>
       have:some (m2,qo9 L (qjg s'.sl),qo9 t (qjg s'.ch),nx2)=s'.want m:=h;simp only[LS.want,zbe,zbt]at this;obtain⟨rfl,r1,r2,rfl⟩:=this;exact⟨⟨L,⟨s'.nx,t,log⟩,[]⟩,by rw[z09 he],rfl,rfl,fun k v hk=>qab r1 (qg6 hok.1 hk),fun i c hi=>qab r2 (qg6 hok.2 hi)⟩
theorem z6t{n:Nat}{s':LS}{m:Nat}{s1:ES}(h1:s1.ds=[])(h2:s1.h.next=s'.nx)(h3:∀ k v,(trL s'.sl).get k=some v→s1.sl.get k=some v)(h4:∀ i c,(trL s'.ch).get i=some c→s1.h.t.get i=some c)
 {e:AExit}{s2:St}(q:qcy n (exOf m) s1 e s2):∃ s3,Fgt s3 s2∧At n m s' e s3:=by
 obtain⟨rfl,q2,q3,q4,q5⟩:=q;obtain⟨sl2,H2,n2,d2⟩:=s2;simp only at q2 q3 q4 q5;subst q2; subst q3; subst q4;exact⟨⟨sl2,hp s'.ch s'.nx,n2,[]⟩,⟨fun _ _ h=>h,fun i c hi=>h4 i c hi,h2.symm,rfl,h1.symm⟩,rfl,sl2,fun k v hk=>q5 k v (h3 k v hk),rfl⟩
theorem z49{P:Program}(hmix:P.follows .mixedOrders=true)(k:Nat){n m:Nat}{c:Code}{s s':LS}(hn:Nat.ble n 1000000=true)(hok:s'.ok=true)
 (hrun:(runE P k (.code none n c s.es)).at s'=s'.want m):CutE P n c s m s':=by
 intro slots hL;obtain⟨s1,hz,h1,h2,h3,h4⟩:=z2e hok hrun;have hj:=(q39 (ih:=runE P k) (fun t=>qk4 hmix k t) (zbj hn) hz).1 slots hL
 exact z6m hj fun e s2 q=>z6t h1 h2 h3 h4 q
theorem z3m{P:Program}{r:Option Nat}{ops:Array Oper}{l:List Nat}{s:St}{Q Q':AExit→St→Prop}(h:JL P r ops l s Q)(hq:∀ e s',Q e s'→ ∃ s2,Fgt s2 s'∧Q' e s2):JL P r ops l s Q':=by
 intro hw hr;obtain⟨e,s',a1,a2,a3,a4,a5⟩:=h hw hr;obtain⟨s2,b1,b2⟩:=hq e s' a4;refine⟨e,s2,b1.wf a1,by rw[b1.next]; exact a2,by rw[b1.next]; exact a3,b2,fun ρ a w n hrel=>q35 (fun e' a' w' ⟨ρ',k1,k2,k3⟩=>⟨ρ',k1,b1.rel k2,k3.sub b1.heap b1.next⟩) _ _ _ (a5 ρ a w n hrel)⟩
theorem z4a{P:Program}(hmix:P.follows .mixedOrders=true)(k:Nat){n a m:Nat}{ops:Array Oper}{s s':LS}(hn:Nat.ble n 1000000=true)(hok:s'.ok=true)(ha:Nat.ble (a+m) ops.toList.length=true)
 (hrun:(opsE P (runE P k) ops n ((ops.toList.drop a).take m) s.es).at s'=s'.want 0):CutL P n ops a m s s':=by
 intro slots hL;obtain⟨s1,hz,h1,h2,h3,h4⟩:=z2e hok hrun;have ha:=zbj ha;have hj:=(qk1 (r:=none) (ih:=runE P k) (fun t=>(qk4 hmix k t).snd) (zbj hn) ((ops.toList.drop a).take m) (ops.toList.take a) ((ops.toList.drop a).drop m) s.es slots (by rw[List.take_append_drop,List.take_append_drop]) hL hz).2.1
 have e1:(ops.toList.take a).length=a:=by rw[zcc]; omega
 have e2:((ops.toList.drop a).take m).length=m:=by rw[zcc,zcs]; omega
 rw[e1,e2]at hj;exact z3m hj fun e s2 q=>z6t (m:=0) h1 h2 h3 h4 q
section
variable{P:Program}{n:Nat}{c x y:Code}{s s1 s':LS}{m:Nat}
theorem qlg(m:Nat):exOf (m+1)≠ .normal:=by cases m<;>simp[exOf]
theorem CutE.seq(hc:c= .seq x y)(h1:CutE P n x s 0 s1)(h2:CutE P n y s1 m s'):CutE P n c s m s':=fun slots hL=>
 q1p hc ((h1 slots hL).mono fun e s2 ⟨he,sl2,q1,q2⟩=>by subst he; subst q2; exact h2 sl2 q1)
theorem qye{Q:St→Prop}{R:AExit→St→Prop}{e:AExit}{s:St}(h:R e s)(hne:e≠ .normal):Then Q R e s:=by cases e<;>first | exact absurd rfl hne | exact h
theorem CutE.seqX(hc:c= .seq x y)(h1:CutE P n x s (m+1) s'):CutE P n c s (m+1) s':=fun slots hL=>
 q1p hc ((h1 slots hL).mono fun e s2 q=>qye q (by rw[q.1]; exact qlg m))
theorem CutE.loop(hc:c= .loop x)(h:q6u P n x s m s'):CutE P n c s m s':=fun slots hL=>by
 subst hc; exact qgw (h slots hL)
theorem q6u.round(h1:CutE P n x s 0 s1)(h2:q6u P n x s1 m s'):q6u P n x s m s':=fun slots hL=>
 q62 ((h1 slots hL).mono fun e s2 ⟨he,sl2,q1,q2⟩=>by subst he; subst q2; exact h2 sl2 q1)
theorem q6u.out(h1:CutE P n x s (m+1) s'):q6u P n x s (m+1) s':=fun slots hL=>
 q62 ((h1 slots hL).mono fun e s2 q=>qye q (by rw[q.1]; exact qlg m))
def blkN(id:Nat):Nat→Nat
 | 0=>0
 | 1=>1
 | k+2=>match Nat.beq k id with
   | true=>0
   | false=>k+2
theorem CutE.block{id k:Nat}(hc:c= .block id x)(h:CutE P n x s k s')(hm:blkN id k=m):CutE P n c s m s':=fun slots hL=>by
 refine q4i hc ((h slots hL).mono fun e s2 ⟨he,q⟩=>?_)
 subst hm
 match k,he with
 | 0,he=>subst he; exact⟨rfl,q⟩
 | 1,he=>subst he; exact⟨rfl,q⟩
 | k+2,he=>
   subst he;cases hb:Nat.beq k id with
   | true=>
     have:blkN id (k+2)=0:=by simp only[blkN,hb]
     rw[this];exact ql7 hb ⟨rfl,q⟩
   | false=>
     have:blkN id (k+2)=k+2:=by simp only[blkN,hb]
     rw[this];exact z6v hb ⟨rfl,q⟩
theorem CutE.scope(hc:c= .scope x)(h:CutE P n x s m s'):CutE P n c s m s':=fun slots hL=>by
 refine qnu hc ((h slots hL).mono fun e s2 q=>?_)
 obtain⟨rfl,q⟩:=q
 match m,q with
 | 0,q=>exact⟨rfl,q⟩
 | 1,q=>exact⟨rfl,q⟩
 | k+2,q=>exact⟨rfl,q⟩
theorem CutE.zac{o:Operand}(hc:c= .cond o x y)(ho:evE (trL s.sl) o=some (.bool true))(h:CutE P n x s m s'):CutE P n c s m s':=fun slots hL=>
 qdx hc (q0m hL ho) (fun _=>h slots hL) (fun q=>nomatch q)
theorem CutE.zab{o:Operand}(hc:c= .cond o x y)(ho:evE (trL s.sl) o=some (.bool false))(h:CutE P n y s m s'):CutE P n c s m s':=fun slots hL=>
 qdx hc (q0m hL ho) (fun q=>nomatch q) (fun _=>h slots hL)
theorem qnf{F:Fence}{n:Nat}{P:Program}{o:Oper}{a:Act}{next next':Act→World→Prop}{Q Q':Exit→Act→World→Prop}{r:Result Next}
 (h:o.uponIn F n P a next Q r)(hn:∀ a w,next a w→next' a w)(hq:∀ e a w,e≠ .normal→Q e a w→Q' e a w):o.uponIn F n P a next' Q' r:=by
 have hL:LetsOut Q→LetsOut Q':=fun⟨a,w,h⟩=>⟨a,w,hq _ _ _ (fun q=>nomatch q) h⟩
 cases r with
 | halt ht w=>cases ht<;>first | exact hq _ _ _ (fun q=>nomatch q) h | exact h
 | ok x w=>
   cases x<;>first
    | exact hn _ _ h
    | (refine⟨h.1,h.2.mono ?_⟩; rintro(v | ch | _) w' h'<;>first | exact hn _ _ h' | exact hq _ _ _ (fun q=>nomatch q) h' | exact hL h')
    | exact⟨h.1,h.2.mono fun _ _ h'=>hn _ _ h'⟩
    | exact h
theorem q3w{F:Fence}{k:Nat}{ops:Array Oper}{Q1 Q:Exit→Act→World→Prop}{l2:List Nat}(hq:∀ e a w,Q1 e a w→e= .normal∧wpOpsIn F k P ops Q l2 a w):∀ (l1:List Nat) (a:Act) (w:World),
 wpOpsIn F k P ops Q1 l1 a w→wpOpsIn F k P ops Q (l1++l2) a w
 | [],a,w,h=>(hq _ _ _ h).2
 | i :: l1,a,w,h=>by
   rw[List.cons_append];unfold wpOpsIn at h ⊢;cases ho:ops[i]? with
   | none=>rw[ho]at h; exact q3w hq l1 a w h
   | some o=>
     rw[ho]at h;simp only at h ⊢;split
     · rename_i hw
       rw[if_pos hw]at h;exact⟨h.1,qnf h.2 (fun a w=>q3w hq l1 a w) (fun e a w hne q=>absurd (hq e a w q).1 hne)⟩
     · rename_i hw
       rw[if_neg hw]at h;exact⟨h.1,q3w hq l1 _ w h.2⟩
theorem CutL.append{ops:Array Oper}{a m1 m2:Nat}(h1:CutL P n ops a m1 s s1)(h2:CutL P n ops (a+m1) m2 s1 s'):CutL P n ops a (m1+m2) s s':=by
 intro slots hL hw hr;obtain⟨e,s2,a1,a2,a3,⟨rfl,sl2,q1,rfl⟩,a5⟩:=h1 slots hL hw hr;obtain⟨e',s3,b1,b2,b3,b4,b5⟩:=h2 sl2 q1 a1 (by exact zbl _)
 refine⟨e',s3,b1,b2,zbo a3 b3,b4,fun ρ ac w k hrel=>?_⟩
 have e:List.range' a (m1+m2)=List.range' a m1++List.range' (a+m1) m2:=by
  rw[←List.range'_append_1]
 rw[e];refine q3w ?_ _ _ _ (a5 ρ ac w k hrel);rintro e1 ac1 w1 ⟨ρ',rfl,k2,k3⟩;refine⟨rfl,q35 ?_ _ _ _ (b5 ρ' ac1 w1 k k2)⟩;rintro e2 ac2 w2 ⟨ρ2,c1,c2,c3⟩;exact⟨ρ2,c1,c2,k3.trans c3⟩
theorem CutL.region{ops:Array Oper}{k:Nat}(hc:c= .region (idAt c) (qp5 c) false)(ho:qp5 c=ops)(hk:Nat.beq ops.size k=true)(h:CutL P n ops 0 k s s'):CutE P n c s 0 s':=fun slots hL=>by
 subst ho;refine qd3 hc ?_;have hk:=zbg hk;rw[List.range_eq_range',hk];exact h slots hL
noncomputable def endH(z:Rs):EH:=Rs.rec (motive:=fun _=>EH) (fun _ s=>s.h) (fun _ h=>h) (fun _=>⟨0,.nil,[]⟩) z
theorem z48(hmix:P.follows .mixedOrders=true)(k:Nat){f:Nat}{args:List AV}{ch ch':List (Nat×Chunk)}{nx nx':Nat}{v:AV}{h':EH}(hok:q59 ch'=true)(hrun:runE P k (.call f args ⟨nx,trL ch,[]⟩)= .fin v h')
 (h1:qo9 h'.t (qjg ch')=qyk ch')(h2:h'.next=nx'):CutC P f args ch nx v ch' nx':=by
 refine qsd (qxu hmix hrun) ?_;rintro e h2' ⟨rfl,rfl⟩;exact⟨hp ch' nx',fun i c hi=>qab h1 (qg6 hok hi),h2.symm,rfl,rfl⟩
theorem qvc{f k:Nat}{fn:Func}{args:List AV}{vs:List AV}{ch ch':List (Nat×Chunk)}{nx nx':Nat}{v:AV}{sl':List (Nat×AV)}(hf:IsFn P f fn c)(hn:fn.ntmps=n)(ha:Nat.ble args.length n=true)(hn2:Nat.ble n 1000000=true)
 (h:CutE P n c ⟨q4x 0 args,ch,nx⟩ k ⟨sl',ch',nx'⟩)(hk:k<2)(hres:qtk P (trL sl') ⟨nx',trL ch',[]⟩ fn.results.toList=some vs)(hv:oneOf vs=v):CutC P f args ch nx v ch' nx':=by
 have ha:=zbj ha;have hn2:=zbj hn2;refine q0s hf hn ha rfl ((h (q4x 0 args) ?_).mono ?_)
 · intro i u hu
   have hko:q59 (q4x 0 args)=true:=by
    have:∀ (l:List AV) (j:Nat),j+l.length≤lim→q59 (q4x j l)=true:=by
     intro l
     induction l with
     | nil=>intro j _; rfl
     | cons u l ih=>intro j hj; simp only[zce]at hj; simp only[q59,q4x,List.all_cons,zbf]; exact⟨Nat.ble_eq_true_of_le (by omega),ih (j+1) (by omega)⟩
    exact this args 0 (by unfold lim; omega)
   have hm:=qg6 hko hu;refine qm0 hm fun u2 h2=>?_
   have e1:∀ (l:List AV) (j:Nat) (x:AV),(i,x)∈q4x j l→j≤i∧l[i - j]?=some x:=by
    intro l
    induction l with
    | nil=>intro j x hx; cases hx
    | cons u l ih=>
      intro j x hx;rcases zbm.1 hx with hx | hx
      · cases hx; simp
      · obtain⟨q1,q2⟩:=ih (j+1) x hx
        refine⟨by omega,?_⟩
        rw[show i - j=(i - (j+1))+1 by omega]; simpa using q2
   have:=(e1 args 0 _ hm).2.symm.trans (e1 args 0 _ h2).2;exact(zbz this).symm
 · rintro e s2 ⟨rfl,sl2,q1,rfl⟩
   have hr:=qk3 (nn:=n) (h:=⟨nx',trL ch',[]⟩) q1 hres;subst hv
   match k,hk with
   | 0,_=>exact⟨trivial,vs,hr,rfl,rfl⟩
   | 1,_=>exact⟨trivial,vs,hr,rfl,rfl⟩
theorem CutL.call{ops:Array Oper}{i d f:Nat}{o:Oper}{args:Array Operand}{ats:Array TypeId}{vs:List AV}{v:AV}{ch':List (Nat×Chunk)}{nx':Nat}{fn:Func}{cb:Code}(hf:IsFn P f fn cb)(ho:ops[i]?=some o)(hg:o.guard=none)(hop:o.op= .call {callee:= .value (.func f),args,argTypes:=ats})
 (hd:o.dst=some d)(hdn:Nat.blt d n=true)(hn2:Nat.ble n 1000000=true)(hev:evLE (trL s.sl) args.toList=some vs)(hc:CutC P f vs s.ch s.nx v ch' nx'):CutL P n ops i 1 s ⟨(d,v) :: s.sl,ch',nx'⟩:=fun slots hL=>by
 have hdn:d<n:=zbj hdn;have hn2:=zbj hn2;refine q07 ho hg (q1h hf hop hd hdn (q85 hL hev) hc ?_);rintro e h' ⟨rfl,rfl⟩;refine q0q ⟨rfl,(d,v) :: slots,?_,rfl⟩;intro k u hu;have e:trL ((d,v) :: s.sl)=Tr.set 40 (trL s.sl) d (some v):=rfl;rw[e,Tr.zat 40 _ _ _ _ (by omega)]at hu
 simp only[lk];split at hu
 · rename_i e; subst e; cases hu; simp
 · rename_i hne
   rw[if_neg (by simpa using fun q=>hne q.symm)]
   exact hL k u hu
end
theorem qud{l:List (Nat×AV)}(hok:q59 l=true):Lk (trL l) l:=by
 induction l with
 | nil=>intro k v h; have h:(Tr.nil:Tr AV).get k=some v:=h; simp[Tr.get_nil]at h
 | cons kv r ih=>
   intro k v h;simp only[q59,List.all_cons,zbf]at hok;have e:trL (kv :: r)=Tr.set 40 (trL r) kv.1 (some kv.2):=rfl;rw[e,Tr.zat 40 _ _ _ _ (by have:=zbj hok.1; unfold lim at this; omega)]at h
   simp only[lk];split at h
   · rename_i e2; subst e2; cases h; simp
   · rename_i hne
     rw[if_neg (by simpa using fun q=>hne q.symm)]
     exact ih (by simpa [q59]using hok.2) k v h
noncomputable def hsOf(H:List (List (Nat×Chunk)×Nat))(k:Nat):AH:=match H[k]? with
 | some x=>hp x.1 x.2
 | none=>⟨0,fun _=>none⟩
def DoAt(P:Program)(ops:Array Oper)(sl0:List (Nat×AV))(V:List AV)(srcs:List Src)(effs:List Nat)(H:List (List (Nat×Chunk)×Nat))(n j:Nat)(o:Oper)(k:Nat):Prop:=
 ∃ v,V[j]?=some v∧OpDo P none ops o ⟨q0d sl0 V (srcs.getD j []),hsOf H k,n,[]⟩ (if effs.contains j then hsOf H (k+1) else hsOf H k) v
def AllQ(Q:Nat→Prop):List Nat→Prop
 | []=>True
 | x :: r=>Q x∧AllQ Q r
theorem qq3{Q:Nat→Prop}:∀ {l:List Nat},AllQ Q l→ ∀ k∈l,Q k
 | _ :: _,⟨a,b⟩,k,h=>by
   rcases zbm.1 h with rfl | h
   · exact a
   · exact qq3 b k h
theorem allR{Q:Nat→Prop}{lo hi a m:Nat}(h1:Nat.beq lo a=true)(h2:Nat.beq (hi+1) (a+m)=true)(q:AllQ Q (List.range' a m)):∀ k,lo≤k→k≤hi→Q k:=fun k k1 k2=>by
 have:=zbg h1;have:=zbg h2;exact qq3 q k (by rw[List.mem_range'_1]; omega)
section
variable{P:Program}{n:Nat}{ops:Array Oper}{sl0 slj:List (Nat×AV)}{V:List AV}{srcs:List Src}{effs:List Nat}{H:List (List (Nat×Chunk)×Nat)}{j k d:Nat}{o:Oper}{v:AV}{ch ch':List (Nat×Chunk)}{nx nx':Nat}
theorem qve(hmix:P.follows .mixedOrders=true)(fuel:Nat)(hV:V[j]?=some v)(hsl:q0d sl0 V (srcs.getD j [])=slj)(hok:q59 slj=true)(hH:H[k]?=some (ch,nx))(he:effs.contains j=false)(hn:Nat.ble n 1000000=true)
 (hd:o.dst=some d)(hdn:Nat.blt d n=true)(hw:qyo ops o (trL slj)=some true)
 (hz:opE P (runE P fuel) n o (trL slj) ⟨nx,trL ch,[]⟩ []= .code .normal ⟨Tr.set 20 (trL slj) d (some v),⟨nx,trL ch,[]⟩,[]⟩):DoAt P ops sl0 V srcs effs H n j o k:=by
 have hL:=qud hok;have hn:=zbj hn;have hdn:d<n:=zbj hdn;have hk:=qrk (r:=none) (fun t=>(qk4 hmix fuel t).snd) hn hL hz
 refine⟨v,hV,?_⟩;rw[hsl,if_neg (by rw[he]; exact Bool.false_ne_true),show hsOf H k=hp ch nx by unfold hsOf; rw[hH]]
 refine .inl ⟨qpi hL hw,hk.jo.mono fun e s' q=>?_⟩
 obtain⟨rfl,q2,q3,q4,q5⟩:=q;refine⟨rfl,q2,q4,q3,fun d' hd'=>?_⟩
 rw[hd]at hd'; cases hd';refine⟨hdn,q5 d v ?_⟩;rw[Tr.zat 20 _ _ _ _ (by omega)]; simp
theorem doAt_new(hmix:P.follows .mixedOrders=true)(fuel:Nat){i:Nat}{k2:Chunk}{lg:List Nat}(hV:V[j]?=some v)(hsl:q0d sl0 V (srcs.getD j [])=slj)(hok:q59 slj=true)(hH:H[k]?=some (ch,nx))(hH2:H[k+1]?=some ((i,k2) :: ch,nx'))(he:effs.contains j=true)(hn:Nat.ble n 1000000=true)
 (hd:o.dst=some d)(hdn:Nat.blt d n=true)(hw:qyo ops o (trL slj)=some true)
 (hz:opE P (runE P fuel) n o (trL slj) ⟨nx,trL ch,[]⟩ []= .code .normal ⟨Tr.set 20 (trL slj) d (some v),⟨nx',trL ((i,k2) :: ch),lg⟩,[]⟩):DoAt P ops sl0 V srcs effs H n j o k:=by
 have hL:=qud hok;have hn:=zbj hn;have hdn:d<n:=zbj hdn;have hk:=qrk (r:=none) (fun t=>(qk4 hmix fuel t).snd) hn hL hz
 refine⟨v,hV,?_⟩;rw[hsl,if_pos he,show hsOf H k=hp ch nx by unfold hsOf; rw[hH],show hsOf H (k+1)=hp ((i,k2) :: ch) nx' by unfold hsOf; rw[hH2]]
 refine .inl ⟨qpi hL hw,hk.jo.mono fun e s' q=>?_⟩
 obtain⟨rfl,q2,q3,q4,q5⟩:=q;refine⟨rfl,q2,q4,q3,fun d' hd'=>?_⟩
 rw[hd]at hd'; cases hd';refine⟨hdn,q5 d v ?_⟩;rw[Tr.zat 20 _ _ _ _ (by omega)]; simp
theorem qvd{f:Nat}{args:Array Operand}{ats:Array TypeId}{vs:List AV}{fn:Func}{cb:Code}(hV:V[j]?=some v)(hsl:q0d sl0 V (srcs.getD j [])=slj)(hok:q59 slj=true)(hH:H[k]?=some (ch,nx))(hH2:H[k+1]?=some (ch',nx'))(he:effs.contains j=true)
 (hf:IsFn P f fn cb)(hop:o.op= .call {callee:= .value (.func f),args,argTypes:=ats})(hd:o.dst=some d)(hdn:Nat.blt d n=true)(hw:qyo ops o (trL slj)=some true)(hev:evLE (trL slj) args.toList=some vs)(hc:CutC P f vs ch nx v ch' nx'):DoAt P ops sl0 V srcs effs H n j o k:=by
 have hL:=qud hok;have hdn:d<n:=zbj hdn;refine⟨v,hV,?_⟩;rw[hsl,if_pos he,show hsOf H k=hp ch nx by unfold hsOf; rw[hH],show hsOf H (k+1)=hp ch' nx' by unfold hsOf; rw[hH2]]
 refine .inl ⟨qpi hL hw,q1h hf hop hd hdn (q85 hL hev) hc ?_⟩;rintro e h' ⟨rfl,rfl⟩;refine⟨rfl,rfl,rfl,rfl,fun d' hd'=>?_⟩
 rw[hd]at hd'; cases hd';exact⟨hdn,by simp[lk]⟩
theorem doP(hmix:P.follows .mixedOrders=true)(v:AV)(d:Nat)(ch:List (Nat×Chunk))(nx:Nat){o:Oper}(hV:V[j]?=some v:=by kernel_rfl)(hok:q59 (q0d sl0 V (srcs.getD j []))=true:=by kernel_rfl)(hH:H[k]?=some (ch,nx):=by kernel_rfl)(he:effs.contains j=false:=by kernel_rfl)(hn:Nat.ble n 1000000=true:=by kernel_rfl)
 (hd:o.dst=some d:=by kernel_rfl)(hdn:Nat.blt d n=true:=by kernel_rfl)(hw:qyo ops o (trL (q0d sl0 V (srcs.getD j [])))=some true:=by kernel_rfl)
 (hz:opE P (runE P 100000000) n o (trL (q0d sl0 V (srcs.getD j []))) ⟨nx,trL ch,[]⟩ []= .code .normal ⟨Tr.set 20 (trL (q0d sl0 V (srcs.getD j []))) d (some v),⟨nx,trL ch,[]⟩,[]⟩:=by kernel_rfl):DoAt P ops sl0 V srcs effs H n j o k:=qve hmix 100000000 hV rfl hok hH he hn hd hdn hw hz
theorem doN(hmix:P.follows .mixedOrders=true)(v:AV)(d i:Nat)(k2:Chunk)(ch:List (Nat×Chunk))(nx nx':Nat)(lg:List Nat){o:Oper}(hV:V[j]?=some v:=by kernel_rfl)(hok:q59 (q0d sl0 V (srcs.getD j []))=true:=by kernel_rfl)(hH:H[k]?=some (ch,nx):=by kernel_rfl)(hH2:H[k+1]?=some ((i,k2) :: ch,nx'):=by kernel_rfl)(he:effs.contains j=true:=by kernel_rfl)(hn:Nat.ble n 1000000=true:=by kernel_rfl)
 (hd:o.dst=some d:=by kernel_rfl)(hdn:Nat.blt d n=true:=by kernel_rfl)(hw:qyo ops o (trL (q0d sl0 V (srcs.getD j [])))=some true:=by kernel_rfl)
 (hz:opE P (runE P 100000000) n o (trL (q0d sl0 V (srcs.getD j []))) ⟨nx,trL ch,[]⟩ []= .code .normal ⟨Tr.set 20 (trL (q0d sl0 V (srcs.getD j []))) d (some v),⟨nx',trL ((i,k2) :: ch),lg⟩,[]⟩:=by kernel_rfl):DoAt P ops sl0 V srcs effs H n j o k:=doAt_new hmix 100000000 hV rfl hok hH hH2 he hn hd hdn hw hz
theorem aR{Q:Nat→Prop}{lo hi:Nat}(a m:Nat)(q:AllQ Q (List.range' a m))(h1:Nat.beq lo a=true:=by kernel_rfl)(h2:Nat.beq (hi+1) (a+m)=true:=by kernel_rfl):∀ k,lo≤k→k≤hi→Q k:=allR h1 h2 q
theorem CutE.drawn{c:Code}{id:Nat}{s s':LS}(hc:c= .region id ops true)(hmix:P.follows .mixedOrders=true)(effs:List Nat)(srcs:List Src)(fin:Src)(V:List AV)(H:List (List (Nat×Chunk)×Nat))(hsl:(trL s.sl).toL (fun i=>i) []=sl0)
 (hplan:qi1 ops effs srcs fin=true)(h0:H[0]?=some (s.ch,s.nx))(hm:H[effs.length]?=some (s'.ch,s'.nx))(hok:q59 s'.sl=true)
 (hall:qcx P none ops sl0 V srcs effs (hsOf H) n [] (befs ops) ops.toList 0)(hF:q0d sl0 V fin=s'.sl):CutE P n c s 0 s':=fun slots hL=>by
 subst hsl;refine qu9 (qkd hL) (z24 hc hmix effs srcs fin V (hsOf H) hplan (by unfold hsOf; rw[h0]) (h':=hp s'.ch s'.nx) (by unfold hsOf; rw[hm]) hall hF ⟨rfl,s'.sl,qud hok,rfl⟩)
end
end Go.J
