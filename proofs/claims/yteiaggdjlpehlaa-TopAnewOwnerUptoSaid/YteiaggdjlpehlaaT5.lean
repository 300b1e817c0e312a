import Derived.Test.YteiaggdjlpehlaaT4
import Derived.Test.YteiaggdjlpehlaaT1
import Derived.Test.YteiaggdjlpehlaaT2
import Derived.Test.YteiaggdjlpehlaaT3
import Derived.KernelRfl
set_option linter.all false
namespace Go.K
open Go Go.J
noncomputable section
def bitD(D:DPl)(j i:Nat):Bool:=bitT (nthD 0 D.ms j) i
structure DOld(D:DPl)(sl0:List (Nat×AV))(S0:AS)(ν0:Va):Prop where
 ms:D.ms=mkGo D.ops.toList []
 nd:q5d (D.dl.map (·.1))=true
 dl:∀ t i,(t,i)∈D.dl↔q2x D.ops i t=true
 oldD:∀ t v,getL D.oldD t=some v→ ∃ a,lk sl0 t=some a∧Is S0 ν0 v a
 oldN:∀ t v,getL D.oldN t=some v→ ∃ a,lk sl0 t=some a∧Is S0 ν0 v a
 nN:∀ t v i,(t,v)∈D.oldN→(t,i)∉D.dl
def Stab(P:Program)(rr:Option Nat)(D:DPl)(sl0:List (Nat×AV))(n:Nat)(ds:List ADef)(hB hL:AH)(V:Nat→Option AV)(j:Nat):Prop:=
 ∃ (o:Oper) (v:AV) (hb:AH),D.ops[j]?=some o∧V j=some v∧hb.next≤hL.next∧(∀ i c,hb.get i=some c→hB.get i=some c)∧
   ∀ h:AH,hb.next≤h.next→(∀ i c,hb.get i=some c→h.get i=some c)→OpDo P rr D.ops o ⟨q0l sl0 V (q1g D j),h,n,ds⟩ h v
structure DI(P:Program)(rr:Option Nat)(D:DPl)(sl0:List (Nat×AV))(n:Nat)(ds:List ADef)(S0:AS)(ν0:Va)(hB0:AH)(vs:List (Nat×Nat×V))(S:AS)(ν:Va)(hB:AH)(W:Nat→Option AV)(H:List AH)(E semi:List Nat)(seen:Nat):Prop where
 len:H.length=E.length+1
 ag:Ag S0.ns ν0 ν
 ns:S0.ns≤S.ns
 le:Le hB0 hB
 g:γ S ν hB ⟨[],q1f H,n,ds⟩
 vs:∀ p∈vs,(p.2.1,p.1)∈D.dl∧ ∃ a,W p.1=some a∧Is S ν p.2.2 a
 sn:∀ j,bitT seen j=true↔W j≠none
 lt:∀ j,W j≠none→j<D.ops.size
 wf:(q1f H).wf
 sl:∀ k v,lk sl0 k=some v→v.sup≤(q1f H).next
 sv:∀ j v,W j=some v→v.sup≤(q1f H).next
 sd:supD ds≤(q1f H).next
 sr:rsup rr≤(q1f H).next
 src:∀ j,W j≠none→ ∀ b,bitD D j b=true→W b≠none
 back:∀ j o,D.ops[j]?=some o→W j≠none→qgy o j=true
 nodup:∀ (i j:Nat) e,E[i]?=some e→E[j]?=some e→i=j
 chain:∀ (q:Nat) e e',E[q]?=some e→E[q+1]?=some e'→bitD D e' e=true
 ord:∀ (i q:Nat) e b,E[i]?=some e→bitD D e b=true→E[q]?=some b→q<i
 effV:∀ e∈E,W e≠none
 effD:∀ (q:Nat) e,E[q]?=some e→ ∃ o v,D.ops[e]?=some o∧W e=some v∧OpDo P rr D.ops o ⟨q0l sl0 W (q1g D e),hAt H q,n,ds⟩ (hAt H (q+1)) v
 cov:∀ j o v,j∉E→D.ops[j]?=some o→W j=some v→(∃ q0:Nat,(q0=0∨ ∃ e,E[q0 - 1]?=some e∧bitD D j e=true)∧ ∀ k,q0≤k→k≤E.length→(∀ (i:Nat) e,i<k→E[i]?=some e→bitD D e j=false)→OpDo P rr D.ops o ⟨q0l sl0 W (q1g D j),hAt H k,n,ds⟩ (hAt H k) v)∧
  ((∃ e∈E,bitD D e j=true)∨j∈semi∨Stab P rr D sl0 n ds hB (q1f H) W j)
 sem:∀ j∈semi,∃ o,D.ops[j]?=some o∧effO o=false∧q1d D.ops o (q0l sl0 W (q1g D j))=some true∧W j≠none∧j∉E∧ ∀ e∈E,bitD D e j=false
section
variable{P:Program}{rr:Option Nat}{D:DPl}{sl0:List (Nat×AV)}{n:Nat}{ds:List ADef}{S0:AS}{ν0:Va}{hB0:AH}{vs:List (Nat×Nat×V)}{S:AS}{ν:Va}{hB:AH}{W:Nat→Option AV}{H:List AH}{E semi:List Nat}{seen:Nat}
def upd1(W:Nat→Option AV)(j:Nat)(a:AV):Nat→Option AV:=fun i=>if i=j then some a else W i
theorem q3g{j:Nat}{a:AV}:upd1 W j a j=some a:=by simp[upd1]
theorem q6o{j i:Nat}{a:AV}(h:i≠j):upd1 W j a i=W i:=by simp[upd1,h]
theorem qk9{D:DPl}{j t i:Nat}(h:(t,some i)∈q1g D j):bitD D j i=true∧(t,i)∈D.dl:=by
 rcases zbr.1 h with h | h
 · obtain⟨i',e,h1,h2⟩:=q9s h
   cases e; exact⟨h2,h1⟩
 · rcases zbr.1 h with h | h
   · obtain⟨p,_,e⟩:=zcd.1 h; cases e
   · obtain⟨p,_,e⟩:=zcd.1 h; cases e
theorem q49{j j':Nat}{a:AV}(hj:W j=none)(hs:∀ b,bitD D j' b=true→W b≠none):q0l sl0 (upd1 W j a) (q1g D j')=q0l sl0 W (q1g D j'):=
 q95 fun t i hm=>q6o fun e=>by subst e; exact hs _ (qk9 hm).1 hj
theorem DI.st(h:DI P rr D sl0 n ds S0 ν0 hB0 vs S ν hB W H E semi seen)(src:Src):St.wf ⟨q0l sl0 W src,q1f H,n,ds⟩:=by
 refine⟨fun k v hk=>?_,h.wf,h.sd⟩
 rcases q87 hk with⟨i,_,h2⟩ | ⟨_,h2⟩
 · exact h.sv i v h2
 · exact h.sl k v h2
theorem see{h':AH}(hg:γ S ν hB ⟨[],h',n,ds⟩)(hvs:∀ p∈vs,(p.2.1,p.1)∈D.dl∧ ∃ a,W p.1=some a∧Is S ν p.2.2 a)(ag:Ag S0.ns ν0 ν)(ns:S0.ns≤S.ns)(ho:DOld D sl0 S0 ν0)(j:Nat):γ (dS D j vs S) ν hB ⟨q0l sl0 W (q1g D j),h',n,ds⟩:=by
 refine⟨hg.n,hg.le,fun ν' hν=>?_⟩
 have hν:Ag S.ns ν ν':=hν;obtain⟨g1,g2,g3,g4,g5,g6,g7⟩:=hg.g ν' hν;have hA:Ag S0.ns ν0 ν':=ag.trans hν ns;refine⟨fun k v hk=>?_,g2,g3,g4,g5,g6,g7⟩
 have hk:getL (dVs (nthD 0 D.ms j) vs++(List.filter (fun p=>qfl D j p.1) D.oldD++D.oldN)) k=some v:=by rw[←qv9,←qv9]; exact hk
 refine look ho.nd (fun p hp=>?_) (fun t v ht=>?_) (fun t v ht=>?_) ho.nN hk
 · obtain⟨k1,a,k2,k3⟩:=hvs p hp
   exact⟨k1,by rw[k2,k3 ν' hν]⟩
 · obtain⟨a,k1,k2⟩:=ho.oldD t v ht
   rw[k1,k2 ν' hA]
 · obtain⟨a,k1,k2⟩:=ho.oldN t v ht
   rw[k1,k2 ν' hA]
theorem DI.see(h:DI P rr D sl0 n ds S0 ν0 hB0 vs S ν hB W H E semi seen)(ho:DOld D sl0 S0 ν0)(j:Nat):γ (dS D j vs S) ν hB ⟨q0l sl0 W (q1g D j),q1f H,n,ds⟩:=K.see h.g h.vs h.ag h.ns ho j
theorem qqf{seen j i:Nat}:bitT (Nat.lor seen (Nat.shiftLeft 1 j)) i=true↔bitT seen i=true∨i=j:=by
 show Nat.testBit (seen||| 1<<<j) i=true↔_;rw[Nat.testBit_or,zbu,Nat.one_shiftLeft,Nat.testBit_two_pow];constructor
 · rintro(h | h)
   · exact .inl h
   · exact .inr (of_decide_eq_true h).symm
 · rintro(h | rfl)
   · exact .inl h
   · exact .inr (by simp)
theorem DI.put(h:DI P rr D sl0 n ds S0 ν0 hB0 vs S ν hB W H E semi seen){j:Nat}{o:Oper}{a:AV}{S1:AS}{ν1:Va}{vs1:List (Nat×Nat×V)}{semi1:List Nat}
 (ho:D.ops[j]?=some o)(hj:W j=none)(hb:∀ b,bitD D j b=true→W b≠none)(hback:qgy o j=true)(hhead:E=[]∨ ∃ e,E[E.length - 1]?=some e∧bitD D j e=true)
 (hsup:a.sup≤(q1f H).next)(hdo:OpDo P rr D.ops o ⟨q0l sl0 W (q1g D j),q1f H,n,ds⟩ (q1f H) a)
 (ag:Ag S.ns ν ν1)(ns:S.ns≤S1.ns)(g:γ S1 ν1 hB ⟨[],q1f H,n,ds⟩)(hvs:∀ p∈vs1,p∈vs∨(p.1=j∧(p.2.1,j)∈D.dl∧Is S1 ν1 p.2.2 a))
 (hsem:(∀ i∈semi,i∈semi1)∧ ∀ i∈semi1,i∈semi∨(i=j∧effO o=false∧q1d D.ops o (q0l sl0 W (q1g D j))=some true))
 (hst:j∈semi1∨ ∃ hb:AH,hb.next≤(q1f H).next∧(∀ i c,hb.get i=some c→hB.get i=some c)∧ ∀ h:AH,hb.next≤h.next→(∀ i c,hb.get i=some c→h.get i=some c)→OpDo P rr D.ops o ⟨q0l sl0 W (q1g D j),h,n,ds⟩ h a):
 DI P rr D sl0 n ds S0 ν0 hB0 vs1 S1 ν1 hB (upd1 W j a) H E semi1 (Nat.lor seen (Nat.shiftLeft 1 j)):=by
 have old:∀ i,W i≠none→upd1 W j a i=W i:=fun i hi=>q6o fun e=>by subst e; exact hi hj
 have new:∀ i,upd1 W j a i≠none↔W i≠none∨i=j:=fun i=>by
  by_cases e:i=j
  · subst e; simp[upd1]
  · simp[upd1,e]
 have fj:=q49 (sl0:=sl0) (a:=a) (D:=D) hj hb;have fo:∀ i,W i≠none→q0l sl0 (upd1 W j a) (q1g D i)=q0l sl0 W (q1g D i):=fun i hi=>q49 hj (h.src i hi)
 have hlt:j<D.ops.size:=(zch.1 ho).1;have hjE:j∉E:=fun hm=>h.effV j hm hj
 have lastE:E.length<H.length:=by rw[h.len]; omega
 have hLe:hAt H E.length=q1f H:=by unfold q1f; rw[h.len]; rfl
 refine⟨h.len,h.ag.trans ag h.ns,zbo h.ns ns,h.le,g,fun p hp=>?_,fun i=>?_,fun i hi=>?_,h.wf,h.sl,fun i v hi=>?_,h.sd,h.sr,fun i hi b hb'=>?_,fun i o' ho' hi=>?_,h.nodup,h.chain,h.ord,fun e he=>?_,fun q e he=>?_,fun i o' v hi ho' hv=>?_,fun i hi=>?_⟩
 · rcases hvs p hp with hp | ⟨h1,h2,h3⟩
   · obtain⟨k1,x,k2,k3⟩:=h.vs p hp
     exact⟨k1,x,by rw[old _ (by rw[k2]; simp)]; exact k2,k3.mono ag ns⟩
   · obtain⟨p1,p2⟩:=p
     simp only at h1;subst h1;exact⟨h2,a,q3g,h3⟩
 · rw[qqf,new,h.sn]
 · rcases(new i).1 hi with hi | rfl
   · exact h.lt i hi
   · exact hlt
 · by_cases e:i=j
   · subst e; rw[q3g]at hi; cases hi; exact hsup
   · rw[q6o e]at hi; exact h.sv i v hi
 · rw[new]
   rcases(new i).1 hi with hi | rfl
   · exact .inl (h.src i hi b hb')
   · exact .inl (hb b hb')
 · rcases(new i).1 hi with hi | rfl
   · exact h.back i o' ho' hi
   · rw[ho]at ho'; cases ho'; exact hback
 · rw[new]; exact .inl (h.effV e he)
 · obtain⟨o',v,k1,k2,k3⟩:=h.effD q e he
   have hW:W e≠none:=by rw[k2]; simp
   exact⟨o',v,k1,by rw[old e hW]; exact k2,by rw[fo e hW]; exact k3⟩
 · by_cases e:i=j
   · subst e
     rw[ho]at ho'; cases ho';rw[q3g]at hv; cases hv;refine⟨⟨E.length,?_,fun k k1 k2 _=>?_⟩,?_⟩
     · rcases hhead with rfl | ⟨e,h1,h2⟩
       · exact .inl rfl
       · exact .inr ⟨e,h1,h2⟩
     · have:k=E.length:=by omega
       subst this;rw[hLe,fj]; exact hdo
     · rcases hst with hst | ⟨hb',b1,b2,b3⟩
       · exact .inr (.inl hst)
       · exact .inr (.inr ⟨o,a,hb',ho,q3g,b1,b2,fun h' c1 c2=>by rw[fj]; exact b3 h' c1 c2⟩)
   · rw[q6o e]at hv
     have hW:W i≠none:=by rw[hv]; simp
     obtain⟨⟨q0,k1,k2⟩,k3⟩:=h.cov i o' v hi ho' hv;refine⟨⟨q0,k1,fun k x1 x2 x3=>by rw[fo i hW]; exact k2 k x1 x2 x3⟩,?_⟩
     rcases k3 with k3 | k3 | ⟨o2,v2,hb',b0,b1,b2,b3,b4⟩
     · exact .inl k3
     · exact .inr (.inl (hsem.1 i k3))
     · exact .inr (.inr ⟨o2,v2,hb',b0,by rw[old i hW]; exact b1,b2,b3,fun h' c1 c2=>by rw[fo i hW]; exact b4 h' c1 c2⟩)
 · rcases hsem.2 i hi with hi | ⟨rfl,k1,k2⟩
   · obtain⟨o',k1,k2,k3,k4,k5,k6⟩:=h.sem i hi
     exact⟨o',k1,k2,by rw[fo i k4]; exact k3,by rw[new]; exact .inl k4,k5,k6⟩
   · refine⟨o,ho,k1,by rw[fj]; exact k2,by rw[new]; exact .inr rfl,hjE,fun e he=>?_⟩
     cases hb':bitD D e i with
     | false=>rfl
     | true=>exact absurd hj (h.src e (h.effV e he) i hb')
theorem DI.eff(h:DI P rr D sl0 n ds S0 ν0 hB0 vs S ν hB W H E semi seen){j:Nat}{o:Oper}{a:AV}{S1:AS}{ν1:Va}{hB1 h':AH}{vs1:List (Nat×Nat×V)}{semi1:List Nat}
 (ho:D.ops[j]?=some o)(hj:W j=none)(hb:∀ b,bitD D j b=true→W b≠none)(hback:qgy o j=true)(hhead:E=[]∨ ∃ e,E[E.length - 1]?=some e∧bitD D j e=true)
 (hwf:h'.wf)(hnx:(q1f H).next≤h'.next)(hsup:a.sup≤h'.next)(hdo:OpDo P rr D.ops o ⟨q0l sl0 W (q1g D j),q1f H,n,ds⟩ h' a)
 (ag:Ag S.ns ν ν1)(ns:S.ns≤S1.ns)(le:Le hB hB1)(g:γ S1 ν1 hB1 ⟨[],h',n,ds⟩)(hvs:∀ p∈vs1,p∈vs∨(p.1=j∧(p.2.1,j)∈D.dl∧Is S1 ν1 p.2.2 a))
 (hsem:∀ i∈semi1,i∈semi∧bitD D j i=false)(hop:∀ i∈semi,bitD D j i=false→i∈semi1)
 (hre:∀ i∈semi1,∀ o v,D.ops[i]?=some o→W i=some v→OpDo P rr D.ops o ⟨q0l sl0 W (q1g D i),h',n,ds⟩ h' v):
 DI P rr D sl0 n ds S0 ν0 hB0 vs1 S1 ν1 hB1 (upd1 W j a) (H++[h']) (E++[j]) semi1 (Nat.lor seen (Nat.shiftLeft 1 j)):=by
 have old:∀ i,W i≠none→upd1 W j a i=W i:=fun i hi=>q6o fun e=>by subst e; exact hi hj
 have new:∀ i,upd1 W j a i≠none↔W i≠none∨i=j:=fun i=>by
  by_cases e:i=j
  · subst e; simp[upd1]
  · simp[upd1,e]
 have fj:=q49 (sl0:=sl0) (a:=a) (D:=D) hj hb;have fo:∀ i,W i≠none→q0l sl0 (upd1 W j a) (q1g D i)=q0l sl0 W (q1g D i):=fun i hi=>q49 hj (h.src i hi)
 have hlt:j<D.ops.size:=(zch.1 ho).1;have hjE:j∉E:=fun hm=>h.effV j hm hj
 have hl:q1f (H++[h'])=h':=qw6;have hLe:hAt H E.length=q1f H:=by unfold q1f; rw[h.len]; rfl
 have hE:∀ {i:Nat} {e:Nat},(E++[j])[i]?=some e→(i<E.length∧E[i]?=some e)∨(i=E.length∧e=j):=fun {i e} he=>by
  rcases Nat.lt_or_ge i E.length with hi | hi
  · rw[zck hi]at he; exact .inl ⟨hi,he⟩
  · rw[zcl hi]at he
    have:i - E.length=0:=by
     rcases zc5 (i - E.length)with h0 | h0
     · exact h0
     · rw[List.getElem?_eq_none (by simp; omega)]at he; cases he
    rw[this]at he;simp at he;exact .inr ⟨by omega,he.symm⟩
 have hE':∀ {i e:Nat},E[i]?=some e→(E++[j])[i]?=some e:=fun {i e} he=>by
  rw[zck (zci.1 he).1]; exact he
 refine⟨by simp[h.len],h.ag.trans ag h.ns,zbo h.ns ns,h.le.trans le,by rw[hl]; exact g,fun p hp=>?_,fun i=>?_,fun i hi=>?_,by rw[hl]; exact hwf,fun k v hk=>by rw[hl]; exact zbo (h.sl k v hk) hnx,fun i v hi=>?_,by rw[hl]; exact zbo h.sd hnx,by rw[hl]; exact zbo h.sr hnx,fun i hi b hb'=>?_,fun i o' ho' hi=>?_,fun i i' e h1 h2=>?_,fun q e e' h1 h2=>?_,fun i q e b h1 h2 h3=>?_,fun e he=>?_,fun q e he=>?_,fun i o' v hi ho' hv=>?_,fun i hi=>?_⟩
 · rcases hvs p hp with hp | ⟨h1,h2,h3⟩
   · obtain⟨k1,x,k2,k3⟩:=h.vs p hp
     exact⟨k1,x,by rw[old _ (by rw[k2]; simp)]; exact k2,k3.mono ag ns⟩
   · obtain⟨p1,p2⟩:=p
     simp only at h1;subst h1;exact⟨h2,a,q3g,h3⟩
 · rw[qqf,new,h.sn]
 · rcases(new i).1 hi with hi | rfl
   · exact h.lt i hi
   · exact hlt
 · rw[hl]
   by_cases e:i=j
   · subst e; rw[q3g]at hi; cases hi; exact hsup
   · rw[q6o e]at hi; exact zbo (h.sv i v hi) hnx
 · rw[new]
   rcases(new i).1 hi with hi | rfl
   · exact .inl (h.src i hi b hb')
   · exact .inl (hb b hb')
 · rcases(new i).1 hi with hi | rfl
   · exact h.back i o' ho' hi
   · rw[ho]at ho'; cases ho'; exact hback
 · rcases hE h1 with⟨a1,a2⟩ | ⟨a1,a2⟩
   · rcases hE h2 with⟨b1,b2⟩ | ⟨b1,b2⟩
     · exact h.nodup i i' e a2 b2
     · subst b2; exact absurd (zc4 a2) hjE
   · rcases hE h2 with⟨b1,b2⟩ | ⟨b1,b2⟩
     · subst a2; exact absurd (zc4 b2) hjE
     · omega
 · rcases hE h2 with⟨b1,b2⟩ | ⟨b1,b2⟩
   · rcases hE h1 with⟨a1,a2⟩ | ⟨a1,a2⟩
     · exact h.chain q e e' a2 b2
     · omega
   · subst b2
     rcases hE h1 with⟨a1,a2⟩ | ⟨a1,a2⟩
     · rcases hhead with rfl | ⟨x,x1,x2⟩
       · simp at a1
       · rw[show E.length - 1=q by omega,a2]at x1
         cases x1; exact x2
     · omega
 · rcases hE h1 with⟨a1,a2⟩ | ⟨a1,a2⟩
   · rcases hE h3 with⟨b1,b2⟩ | ⟨b1,b2⟩
     · exact h.ord i q e b a2 h2 b2
     · subst b2
       exact absurd hj (h.src e (h.effV e (zc4 a2)) _ h2)
   · rcases hE h3 with⟨b1,b2⟩ | ⟨b1,b2⟩
     · omega
     · subst a2; subst b2
       exact absurd hj (hb _ h2)
 · rw[new]
   rcases zbr.1 he with he | he
   · exact .inl (h.effV e he)
   · simp only[zbs]at he; exact .inr he
 · rcases hE he with⟨a1,a2⟩ | ⟨a1,a2⟩
   · obtain⟨o',v,k1,k2,k3⟩:=h.effD q e a2
     have hW:W e≠none:=by rw[k2]; simp
     exact⟨o',v,k1,by rw[old e hW]; exact k2,by rw[fo e hW,q88 (by rw[h.len]; omega),q88 (by rw[h.len]; omega)]; exact k3⟩
   · subst a2; subst a1
     refine⟨o,a,ho,q3g,?_⟩;rw[fj,q88 (by rw[h.len]; omega),hLe,show E.length+1=H.length by rw[h.len],qw5]
     exact hdo
 · have hi1:i∉E:=fun hm=>hi (zbr.2 (.inl hm))
   have e:i≠j:=fun e=>by subst e; exact hi (by simp)
   rw[q6o e]at hv;have hW:W i≠none:=by rw[hv]; simp
   obtain⟨⟨q0,k1,k2⟩,k3⟩:=h.cov i o' v hi1 ho' hv;refine⟨⟨q0,?_,fun k x1 x2 x3=>?_⟩,?_⟩
   · rcases k1 with k1 | ⟨e,k1,k4⟩
     · exact .inl k1
     · exact .inr ⟨e,hE' k1,k4⟩
   · rw[fo i hW]
     rcases Nat.lt_or_ge E.length k with hk | hk
     ·
      have hk':k=E.length+1:=by simp at x2; omega
      subst hk';rw[show E.length+1=H.length by rw[h.len],qw5]
      have hbj:bitD D j i=false:=x3 E.length j (by omega) (by simp)
      rcases k3 with⟨e,he,hb'⟩ | k3 | ⟨o2,v2,hb',b0,b1,b2,b3,b4⟩
      · obtain⟨q,hq⟩:=List.getElem?_of_mem he
        have:=x3 q e (by have:=(zci.1 hq).1; omega) (hE' hq)
        rw[this]at hb'; cases hb'
      · exact hre i (hop i k3 hbj) o' v ho' hv
      · rw[ho']at b0; cases b0
        rw[hv]at b1; cases b1;exact b4 h' (zbo b2 hnx) fun i c hc=>g.le.get i c (le.get i c (b3 i c hc))
     · rw[q88 (by rw[h.len]; omega)]
       exact k2 k x1 hk fun i e h1 h2=>x3 i e h1 (hE' h2)
   · rcases k3 with⟨e,he,hb'⟩ | k3 | ⟨o2,v2,hb',b0,b1,b2,b3,b4⟩
     · exact .inl ⟨e,zbr.2 (.inl he),hb'⟩
     · cases hbj:bitD D j i with
       | true=>exact .inl ⟨j,by simp,hbj⟩
       | false=>exact .inr (.inl (hop i k3 hbj))
     · exact .inr (.inr ⟨o2,v2,hb',b0,by rw[old i hW]; exact b1,by rw[hl]; exact zbo b2 hnx,fun i c hc=>le.get i c (b3 i c hc),fun h' c1 c2=>by rw[fo i hW]; exact b4 h' c1 c2⟩)
 · obtain⟨o',k1,k2,k3,k4,k5,k6⟩:=h.sem i (hsem i hi).1
   refine⟨o',k1,k2,by rw[fo i k4]; exact k3,by rw[new]; exact .inl k4,fun hm=>?_,fun e he=>?_⟩
   · rcases zbr.1 hm with hm | hm
     · exact k5 hm
     · simp only[zbs]at hm; subst hm; exact k4 hj
   · rcases zbr.1 he with he | he
     · exact k6 e he
     · simp only[zbs]at he; subst he; exact(hsem i hi).2
theorem DI.free(h:DI P rr D sl0 n ds S0 ν0 hB0 vs S ν hB W H E semi seen){h':AH}(l:Le (q1f H) h'){i:Nat}(hi:i∈semi){o:Oper}{v:AV}(ho:D.ops[i]?=some o)(hv:W i=some v):
 OpDo P rr D.ops o ⟨q0l sl0 W (q1g D i),h',n,ds⟩ h' v:=by
 obtain⟨_,_,_,_,_,k5,k6⟩:=h.sem i hi;obtain⟨⟨q0,c1,c2⟩,_⟩:=h.cov i o v k5 ho hv
 have hq:q0≤E.length:=by
  rcases c1 with rfl | ⟨e,c1,_⟩
  · exact zbl _
  · have:=(zci.1 c1).1; omega
 have:=c2 E.length hq (zbi _) fun i e _ he=>k6 e (zc4 he)
 have hLe:hAt H E.length=q1f H:=by unfold q1f; rw[h.len]; rfl
 rw[hLe]at this;exact qxh (h.st _) h.sr this l.next l.get
end
end
end Go.K
namespace Go.K
open Go Go.J
noncomputable section
theorem qnq{S:AS}{ν:Va}{hB:AH}{s:St}(h:γ S ν hB s):γ {S with sl:=[]} ν hB ⟨[],s.h,s.n,s.defs⟩:=by
 refine⟨h.n,h.le,fun ν' hg=>?_⟩
 obtain⟨g1,g2,g3,g4,g5,g6,g7⟩:=h.g ν' hg;exact⟨fun k v hk=>by simp[q0h,q0c]at hk,g2,g3,g4,g5,g6,g7⟩
theorem qqj{D:DPl}{sl0:List (Nat×AV)}{S0:AS}{ν0:Va}(ho:DOld D sl0 S0 ν0){j d:Nat}{o:Oper}(hj:D.ops[j]?=some o):(d,j)∈D.dl↔o.dst=some d:=by
 rw[ho.dl,q2x];simp only[hj,Option.bind_some];cases hd:o.dst with
 | none=>simp
 | some x=>
   simp only[zbe];exact⟨fun h=>zbg h,fun h=>by rw[h]; exact zca _⟩
section
variable{T:Type}{P:Program}{hd:Hd T}{rec:Tk→T→Outs T}{N:Nat}{I:Va→AH→Prop}
variable{rr:Option Nat}{D:DPl}{sl0:List (Nat×AV)}{n:Nat}{ds:List ADef}{S0:AS}{ν0:Va}{hB0:AH}{vs:List (Nat×Nat×V)}{S:AS}{ν:Va}{hB:AH}{W:Nat→Option AV}{H:List AH}{E semi:List Nat}{seen:Nat}
def OpsV(P:Program):Prop:= ∀ (o:Oper) (S:AS) (l:List AS) (ν:Va) (hB:AH) (s:St),effO o=false→opA P o S= .ok l→γ S ν hB s→OpV P o S ν hB s l
variable(hopV:OpsV P)(ho:DOld D sl0 S0 ν0)
include hopV ho
theorem qas{h':AH}(hg:γ S ν hB ⟨[],h',n,ds⟩)(hvs:∀ p∈vs,(p.2.1,p.1)∈D.dl∧ ∃ a,W p.1=some a∧Is S ν p.2.2 a)(ag:Ag S0.ns ν0 ν)(ns:S0.ns≤S.ns):
 ∀ {l:List Nat} {u:Unit},recheck P D vs S l= .ok u→(∀ i∈l,∃ o,D.ops[i]?=some o∧effO o=false∧q1d D.ops o (q0l sl0 W (q1g D i))=some true)→
   ∀ i∈l,∀ o v,D.ops[i]?=some o→W i=some v→OpDo P rr D.ops o ⟨q0l sl0 W (q1g D i),h',n,ds⟩ h' v
 | [],_,_,_,i,hi,_,_,_,_=>by cases hi
 | j :: l,u,he,hl,i,hi,o,v,hoi,hv=>by
   obtain⟨_,h1,h2⟩:=R.zak he;rcases zbm.1 hi with rfl | hi
   · obtain⟨o',k1,k2,k3⟩:=hl i (by simp)
     rw[hoi]at k1; cases k1;refine .inl ⟨k3,?_⟩;rw[qjy,hoi]at h1;cases hp:getL vs i with
     | none=>rw[hp]at h1; cases h1
     | some p=>
       rw[hp]at h1;obtain⟨ls,h3,h1⟩:=R.zak h1;have h1:=q02 h1;obtain⟨d,w⟩:=p;obtain⟨z1,a,z2,z3⟩:=hvs _ (q05 hp);simp only at z1 z2 z3;rw[hv]at z2; cases z2;have hdst:=(qqj ho hoi).1 z1;refine(hopV o _ ls ν hB _ k2 h3 (see hg hvs ag ns ho i) rr).mono ?_;rintro e s' ⟨rfl,⟨d',x,y1,y2,rfl⟩,S3,m3,ν3,a3,n3,g3⟩;rw[hdst]at y1; cases y1;unfold qxw at h1;split at h1
       · simp only[zbs]at m3
         subst m3;split at h1
         · rename_i w' hw'
           have:=qb2 h1;subst this;have hx:=g3.self.sl d w' hw';simp only[lk]at hx;rw[if_pos (zca _)]at hx;have e2:cv ν3 w'=v:=z3 ν3 a3;rw[e2]at hx;refine⟨rfl,rfl,rfl,rfl,fun d2 hd2=>?_⟩
           rw[hdst]at hd2; cases hd2;exact⟨y2,by simp only[lk]; rw[if_pos (zca _)]; exact hx⟩
         · cases h1
       · cases h1
   · exact qas hg hvs ag ns h2 (fun i hi=>hl i (zbh _ hi)) i hi o v hoi hv
omit hopV in
theorem qpf{j:Nat}{o:Oper}{S1:AS}{ν1:Va}{hB1:AH}{s':St}{vs':List (Nat×Nat×V)}(hj:D.ops[j]?=some o)(h:vsOf o j S1 vs= .ok vs')(g:γ S1 ν1 hB1 s')(w:s'.wf):
 ∃ a,a.sup≤s'.h.next∧(∀ d,o.dst=some d→d<s'.n∧lk s'.slots d=some a)∧ ∀ p∈vs',p∈vs∨(p.1=j∧(p.2.1,j)∈D.dl∧Is S1 ν1 p.2.2 a):=by
 unfold vsOf at h;split at h
 · rename_i d hd
   obtain⟨_,h1,h⟩:=R.zak h;obtain⟨v,h2,h⟩:=R.zak h;cases h;obtain⟨a,k1,k2⟩:=q6l g (q0a h2);refine⟨a,w.1 d a k1,fun d' hd'=>?_,fun p hp=>?_⟩
   · rw[hd]at hd'; cases hd'
     exact⟨by rw[g.n]; exact q0e.1 (q02 h1),k1⟩
   · rcases zbm.1 hp with rfl | hp
     · exact .inr ⟨rfl,(qqj ho hj).2 hd,k2⟩
     · exact .inl hp
 · rename_i hd
   cases h;exact⟨.tuple [],zbl _,(fun d hd'=>by rw[hd]at hd'; cases hd'),fun p hp=> .inl hp⟩
end
end
end Go.K
namespace Go.K
open Go Go.J
section
variable{T:Type}{P:Program}{hd:Hd T}{rec:Tk→T→Outs T}{N:Nat}{I:Va→AH→Prop}
variable{rr:Option Nat}{D:DPl}{sl0:List (Nat×AV)}{n:Nat}{ds:List ADef}{S0:AS}{ν0:Va}{hB0:AH}{vs:List (Nat×Nat×V)}{S:AS}{ν:Va}{hB:AH}{W:Nat→Option AV}{H:List AH}{E semi:List Nat}{seen:Nat}
variable(hI:∀ (ν ν':Va) (hB hB':AH),Ag N ν ν'→Le hB hB'→I ν hB→I ν' hB')(hrec:∀ tk t os t',rec tk t= .ok (os,t')→Snd P N I tk os)(hop:quf P)(hopV:OpsV P)(ho:DOld D sl0 S0 ν0)
include hI hrec hop hopV ho
omit hI hrec hop hopV ho in
theorem z0a(hopN:OpsN P){o:Oper}{kf:AS→T→Outs T}{S:AS}{ν:Va}{hB:AH}{s:St}{t t':T}{os:List Out}{r':Option Nat}(hn:newO o=true)(he:fOp P rec o kf S t= .ok (os,t'))(h:γ S ν hB s):
 JO P r' o s (fun e s'=>(e= .normal∧s'.n=s.n∧s'.defs=s.defs∧ ∃ S1 t1 lo t2,Go S ν hB S1 s'∧kf S1 t1= .ok (lo,t2)∧ ∀ x∈lo,x∈os)∧Le s.h s'.h):=by
 have other:(opB o (opA P o S)).bind (fun ss=>qgj kf ss t)= .ok (os,t'):=by
  unfold fOp at he;cases hcv:qzx o.op with
  | some q0=>
    obtain⟨c,hc,_⟩:=qh0 hcv;simp only[newO,hc]at hn; cases hn
  | none=>
    rw[hcv]at he;have he:(S.frc fun S=>(opB o (opA P o S)).bind fun ss=>qgj kf ss t)= .ok (os,t'):=he
    rw[AS.za6]at he;exact he
 obtain⟨ss,h1,h2⟩:=R.zak other
 · have hx:=z33 h1
   refine(hopN o S ss ν hB s hn hx h r').mono ?_;rintro e s1 ⟨⟨rfl,z1,z2,S1,m1,hg⟩,l⟩;obtain⟨t1,lo,t2,k1,k2⟩:=q4o h2 S1 m1;exact⟨⟨rfl,z1,z2,S1,t1,lo,t2,hg,k1,k2⟩,l⟩
variable(hopN:OpsN P)
include hopN
theorem qh4{j:Nat}{o:Oper}{k:List Nat→List (Nat×Nat×V)→AS→T→Outs T}{t t':T}{os0 os:List Out}{G:Prop}
 (he:dRun P rec D j o semi k vs S t= .ok (os0,t'))(hs:∀ x∈os0,x∈os)(h:DI P rr D sl0 n ds S0 ν0 hB0 vs S ν hB W H E semi seen)(hi:I ν0 hB0)(hN:N≤S0.ns)
 (hoj:D.ops[j]?=some o)(hj:W j=none)(hb:∀ b,bitD D j b=true→W b≠none)(hback:qgy o j=true)(hhead:E=[]∨ ∃ e,E[E.length - 1]?=some e∧bitD D j e=true)
 (hwant:q1d D.ops o (q0l sl0 W (q1g D j))=some true)
 (hk:∀ semi1 vs1 S1 ν1 hB1 W1 H1 t1 lo t2,k semi1 vs1 S1 t1= .ok (lo,t2)→(∀ x∈lo,x∈os)→hAt H1 0=hAt H 0→DI P rr D sl0 n ds S0 ν0 hB0 vs1 S1 ν1 hB1 W1 H1 (match effO o with | true=>E++[j] | false=>E) semi1 (Nat.lor seen (Nat.shiftLeft 1 j))→G):G:=by
 have gs:=h.see ho j;have hwf:=h.st (q1g D j);have hIν:I ν hB:=hI _ _ _ _ (h.ag.mono hN) h.le hi;have hNs:N≤S.ns:=zbo hN h.ns;unfold dRun at he;cases hef:effO o with
 | true=>
   rw[hef]at he hk
   have hgen:JO P rr o ⟨q0l sl0 W (q1g D j),q1f H,n,ds⟩ (fun e s'=>(e= .normal∧s'.n=n∧s'.defs=ds∧ ∃ S1 t1 lo t2,Go (dS D j vs S) ν hB S1 s'∧(vsOf o j S1 vs).bind (fun vs'=>z03 P D j (newO o) semi vs' {S1 with sl:=[]} (fun semi t=>k semi vs' {S1 with sl:=[]} t) t1)= .ok (lo,t2)∧ ∀ x∈lo,x∈os0)∧(newO o=true→Le (q1f H) s'.h)):=by
    have he2:fOp P rec o (fun S1 t1=>(vsOf o j S1 vs).bind (fun vs'=>z03 P D j (newO o) semi vs' {S1 with sl:=[]} (fun semi t=>k semi vs' {S1 with sl:=[]} t) t1)) (dS D j vs S) t= .ok (os0,t'):=he
    cases hno:newO o with
    | true=>exact(z0a (r':=rr) (S:=dS D j vs S) hopN hno (by rw[hno]at he2; exact he2) gs).mono fun e s' x=>⟨x.1,fun _=>x.2⟩
    | false=>exact(qvx (r':=rr) (S:=dS D j vs S) hI hrec hop (by rw[hno]at he2; exact he2) hIν hNs gs).mono fun e s' x=>⟨x,fun x=>by cases x⟩
   obtain⟨e,s',w1,w3,⟨⟨rfl,z1,z2,S1,t1,lo,t2,⟨ν1,hB1,a1,n1,l1,g1⟩,k1,k2⟩,hle⟩,hx⟩:=qkx hgen hwf h.sr;obtain⟨vs',v1,k1⟩:=R.zak k1;obtain⟨a,q1,q2,q3⟩:=qpf ho hoj v1 g1 w1;obtain⟨_,r1,k1⟩:=R.zak k1;have n1:S.ns≤S1.ns:=n1;have a1:Ag S.ns ν ν1:=a1;have gn:=qnq g1;rw[z1,z2]at gn
   have hdo:OpDo P rr D.ops o ⟨q0l sl0 W (q1g D j),q1f H,n,ds⟩ s'.h a:=by
    refine .inl ⟨hwant,hx.mono ?_⟩;rintro e2 s2 ⟨rfl,rfl⟩;exact⟨rfl,rfl,z2,z1,fun d hd=>by rw[←z1]; exact q2 d hd⟩
   have old:∀ i,W i≠none→upd1 W j a i=W i:=fun i hi=>q6o fun e=>by subst e; exact hi hj
   have hopen:∀ i∈qtg (nthD 0 D.ms j) semi,i∈semi:=fun i hi=>(List.mem_filter.1 hi).1
   have hvs':∀ p∈vs',(p.2.1,p.1)∈D.dl∧ ∃ x,upd1 W j a p.1=some x∧Is {S1 with sl:=[]} ν1 p.2.2 x:=fun p hp=>by
    rcases q3 p hp with hp | ⟨y1,y2,y3⟩
    · obtain⟨y1,x,y2,y3⟩:=h.vs p hp
      exact⟨y1,x,by rw[old _ (by rw[y2]; simp)]; exact y2,y3.mono a1 n1⟩
    · obtain⟨p1,p2⟩:=p
      simp only at y1;subst y1;exact⟨y2,a,q3g,y3⟩
   have hre:∀ i∈qtg (nthD 0 D.ms j) semi,∀ o v,D.ops[i]?=some o→upd1 W j a i=some v→OpDo P rr D.ops o ⟨q0l sl0 (upd1 W j a) (q1g D i),s'.h,n,ds⟩ s'.h v:=by
    cases hno:newO o with
    | true=>
      intro i hi o' v ho' hv;obtain⟨_,_,_,_,y4,_⟩:=h.sem i (hopen i hi);rw[q49 hj (h.src i y4)];exact h.free (hle hno) (hopen i hi) ho' (by rw[old i y4]at hv; exact hv)
    | false=>
      rw[hno]at r1
      exact qas (rr:=rr) hopV ho gn hvs' (h.ag.trans a1 h.ns) (zbo h.ns n1) r1 fun i hi=>by
       obtain⟨o',y1,y2,y3,y4,_⟩:=h.sem i (hopen i hi);exact⟨o',y1,y2,by rw[q49 hj (h.src i y4)]; exact y3⟩
   refine hk _ vs' _ ν1 hB1 (upd1 W j a) (H++[s'.h]) _ _ _ k1 (fun x hx=>hs x (k2 x hx)) (q88 (by rw[h.len]; omega)) ?_
   refine h.eff hoj hj hb hback hhead w1.2.1 w3 q1 hdo a1 n1 l1 gn q3 (fun i hi=>⟨hopen i hi,by have:=(List.mem_filter.1 hi).2; simpa [bitD]using this⟩) (fun i hi hbi=>List.mem_filter.2 ⟨hi,by show(!(bitT _ i))=true; rw[show bitT (nthD 0 D.ms j) i=false from hbi]; rfl⟩) fun i hi o' v ho' hv=>?_
   obtain⟨_,_,_,_,y4,_⟩:=h.sem i (hopen i hi);have:=hre i hi o' v ho' (by rw[old i y4]; exact hv)
   rw[q49 hj (h.src i y4)]at this;exact this
 | false=>
   rw[hef]at he hk;simp only at he;split at he
   ·
    rename_i l hl
    let hv:AH:=⟨(q1f H).next,hB.get⟩
    have gv:γ {dS D j vs S with hp:=[]} ν hB ⟨q0l sl0 W (q1g D j),hv,n,ds⟩:=by
     refine⟨gs.n,⟨gs.le.next,fun i c hc=>hc⟩,fun ν' hν=>?_⟩
     obtain⟨g1,g2,g3,g4,g5,g6,g7⟩:=gs.g ν' hν;exact⟨g1,g2,g3,(fun p hp=>by cases hp),List.Pairwise.nil,(fun p hp=>by cases hp),g7⟩
    have hvwf:St.wf ⟨q0l sl0 W (q1g D j),hv,n,ds⟩:=⟨hwf.1,fun i c hc=>hwf.2.1 i c (gs.le.get i c hc),hwf.2.2⟩
    obtain⟨e,s',w1,w3,⟨rfl,⟨d,a,d1,d2,rfl⟩,S1,m1,ν1,a1,n1,g1⟩,hx⟩:=qkx (hopV o _ l ν hB _ hef hl gv rr) hvwf h.sr;obtain⟨t1,lo,t2,k1,k2⟩:=q4o he S1 m1;obtain⟨vs',v1,k1⟩:=R.zak k1;obtain⟨a',q1,q2,q3⟩:=qpf ho hoj v1 g1 w1
    have ea:a'=a:=by
     have:=(q2 d d1).2;simp only[lk]at this;rw[if_pos (zca _)]at this;exact(zbz this).symm
    subst ea;have n1:S.ns≤S1.ns:=n1;have a1:Ag S.ns ν ν1:=a1
    have gn:γ {S1 with sl:=[],hp:=S.hp} ν1 hB ⟨[],q1f H,n,ds⟩:=by
     refine⟨g1.n,h.g.le,fun ν' hν=>?_⟩
     have hν:Ag S1.ns ν1 ν':=hν;obtain⟨g1,g2,g3,g4,g5,g6,g7⟩:=g1.g ν' hν;have G:=h.g.g ν' (a1.trans hν n1);exact⟨fun k v hk=>by simp[q0h,q0c]at hk,g2,g3,G.hp,G.dj,G.nb,g7⟩
    have all:∀ h':AH,hv.next≤h'.next→(∀ i c,hv.get i=some c→h'.get i=some c)→OpDo P rr D.ops o ⟨q0l sl0 W (q1g D j),h',n,ds⟩ h' a':=fun h' c1 c2=>by
     refine .inl ⟨hwant,(z4u hvwf h.sr hx c1 c2).mono ?_⟩;rintro e2 s2 ⟨rfl,rfl⟩;refine⟨rfl,rfl,rfl,rfl,fun d' hd'=>?_⟩
     rw[d1]at hd'; cases hd';exact⟨d2,by simp only[lk]; rw[if_pos (zca _)]⟩
    refine hk semi vs' _ ν1 hB (upd1 W j a') H _ _ _ k1 (fun x hx=>hs x (k2 x hx)) rfl ?_
    exact h.put hoj hj hb hback hhead q1 (all _ (zbi _) fun i c hc=>gs.le.get i c hc) a1 n1 gn q3 ⟨fun i hi=>hi,fun i hi=> .inl hi⟩ (.inr ⟨hv,zbi _,fun i c hc=>hc,all⟩)
   ·
    obtain⟨l,hl,he⟩:=R.zak he;split at hl
    · rename_i _ l0 hl0
      cases hl;obtain⟨e,s',w1,w3,⟨rfl,⟨d,a,d1,d2,rfl⟩,S1,m1,ν1,a1,n1,g1⟩,hx⟩:=qkx (hopV o _ l ν hB _ hef hl0 gs rr) hwf h.sr;obtain⟨t1,lo,t2,k1,k2⟩:=q4o he S1 m1;obtain⟨vs',v1,k1⟩:=R.zak k1;obtain⟨a',q1,q2,q3⟩:=qpf ho hoj v1 g1 w1
      have ea:a'=a:=by
       have:=(q2 d d1).2;simp only[lk]at this;rw[if_pos (zca _)]at this;exact(zbz this).symm
      subst ea
      have hdo:OpDo P rr D.ops o ⟨q0l sl0 W (q1g D j),q1f H,n,ds⟩ (q1f H) a':=by
       refine .inl ⟨hwant,hx.mono ?_⟩;rintro e2 s2 ⟨rfl,rfl⟩;refine⟨rfl,rfl,rfl,rfl,fun d' hd'=>?_⟩
       rw[d1]at hd'; cases hd';exact⟨d2,by simp only[lk]; rw[if_pos (zca _)]⟩
      refine hk (j :: semi) vs' _ ν1 hB (upd1 W j a') H _ _ _ k1 (fun x hx=>hs x (k2 x hx)) rfl ?_
      exact h.put hoj hj hb hback hhead q1 hdo a1 n1 (qnq g1) q3 ⟨fun i hi=>zbh _ hi,fun i hi=>by
       rcases zbm.1 hi with rfl | hi
       · exact .inr ⟨rfl,hef,hwant⟩
       · exact .inl hi⟩ (.inl (by simp))
    · cases hl
end
end Go.K
namespace Go.K
open Go Go.J
noncomputable section
section
variable{T:Type}{P:Program}{hd:Hd T}{rec:Tk→T→Outs T}{N:Nat}{I:Va→AH→Prop}
variable{rr:Option Nat}{D:DPl}{sl0:List (Nat×AV)}{n:Nat}{ds:List ADef}{S0:AS}{ν0:Va}{hB0:AH}{vs:List (Nat×Nat×V)}{S:AS}{ν:Va}{hB:AH}{W:Nat→Option AV}{H:List AH}{E semi:List Nat}{seen:Nat}
theorem qh1{bf:List (List Nat)}:∀ {E:List Nat},(∀ (q:Nat) e e',E[q]?=some e→E[q+1]?=some e'→(bf.getD e' []).contains e=true)→q91 bf E=true
 | [],_=>rfl
 | [_],_=>rfl
 | a :: b :: r,h=>by
   simp only[q91,zbf];refine⟨h 0 a b rfl rfl,qh1 fun q e e' h1 h2=>h (q+1) e e' (by simpa using h1) (by simpa using h2)⟩
def qh9(D:DPl):Src:=D.dl.map (fun p=>(p.1,some p.2))++qx2 D
variable(ho:DOld D sl0 S0 ν0)
include ho
theorem q7x{j b:Nat}:bitD D j b=true↔((befs D.ops).getD j []).contains b=true:=by
 unfold bitD;rw[ho.ms,z42,List.contains_iff_mem]
theorem qvz(h:DI P rr D sl0 n ds S0 ν0 hB0 vs S ν hB W H E semi seen){ν':Va}(hν:Ag S.ns ν ν'){t:Nat}{v:V}(hk:getL (vs.map (fun p=>p.2)++D.oldN) t=some v):lk (q0l sl0 W (qh9 D)) t=some (cv ν' v):=by
 have hA:Ag S0.ns ν0 ν':=h.ag.trans hν h.ns
 have inv:∀ {v:V},getL (vs.map fun p=>p.2) t=some v→ ∃ i,(t,i)∈D.dl∧W i=some (cv ν' v):=fun {v} hk=>by
  obtain⟨p,h1,h2⟩:=zcd.1 (q05 hk);obtain⟨k1,a,k2,k3⟩:=h.vs p h1;obtain⟨i,t',v'⟩:=p;simp only[zbt]at h2 k1 k2 k3;obtain⟨rfl,rfl⟩:=h2;exact⟨i,k1,by rw[k2,k3 ν' hν]⟩
 have key:∀ a,lk (q0l sl0 W (qh9 D)) t=some a→a=cv ν' v:=fun a ha=>by
  rcases q87 ha with⟨i,h1,h2⟩ | ⟨h1,h2⟩
  · have hm:(t,i)∈D.dl:=by
     rcases zbr.1 h1 with h1 | h1
     · obtain⟨p,hp,e⟩:=zcd.1 h1
       cases e; exact hp
     · obtain⟨p,_,e⟩:=zcd.1 h1; cases e
    rcases q4b hk with hk | ⟨_,hk⟩
    · obtain⟨i2,k1,k2⟩:=inv hk
      have:=q42 ho.nd hm k1;subst this;rw[h2]at k2; exact zbz k2
    · exact absurd hm (ho.nN _ _ _ (q05 hk))
  · have hm:(t,none)∈qx2 D:=by
     rcases zbr.1 h1 with h1 | h1
     · obtain⟨p,hp,e⟩:=zcd.1 h1; cases e
     · exact h1
    obtain⟨p,hp,e⟩:=zcd.1 hm;cases e;rcases q4b hk with hk | ⟨_,hk⟩
    · obtain⟨i2,k1,_⟩:=inv hk
      exact absurd k1 (ho.nN p.1 p.2 _ hp)
    · obtain⟨x,k1,k2⟩:=ho.oldN _ _ hk
      rw[h2]at k1; cases k1;exact(k2 ν' hA).symm
 have has:∃ a,lk (q0l sl0 W (qh9 D)) t=some a:=by
  refine qel ?_;rcases q4b hk with hk | ⟨_,hk⟩
  · obtain⟨i2,k1,k2⟩:=inv hk
    exact .inl ⟨i2,_,zbr.2 (.inl (zcd.2 ⟨_,k1,rfl⟩)),k2⟩
  · obtain⟨x,k1,k2⟩:=ho.oldN _ _ hk
    exact .inr ⟨x,zbr.2 (.inr (zcd.2 ⟨_,q05 hk,rfl⟩)),k1⟩
 obtain⟨a,ha⟩:=has;rw[ha,key a ha]
theorem q81{id:Nat}{os:List Out}{h0:AH}(hmix:P.follows .mixedOrders=true)(h:DI P rr D sl0 n ds S0 ν0 hB0 vs S ν hB W H E semi seen)(hall:∀ j,j<D.ops.size→W j≠none)(h1:hAt H 0=h0)
 (hm:(⟨.normal,{S with sl:=vs.map (fun p=>p.2)++D.oldN}⟩:Out)∈os):J P rr (.region id D.ops true) ⟨sl0,h0,n,ds⟩ (Q1 os S0 ν0 hB0):=by
 have hEl:E.length=H.length - 1:=by rw[h.len]; rfl
 have vals_get:∀ i,i<D.ops.size→((List.range D.ops.size).map fun i=>(W i).getD (.tuple []))[i]?=W i:=fun i hi=>by
  rw[List.getElem?_map,List.getElem?_range hi];simp only[zbp];cases hw:W i with
  | none=>exact absurd hw (hall i hi)
  | some v=>rfl
 have srcs_get:∀ j,j<D.ops.size→((List.range D.ops.size).map (q1g D)).getD j []=q1g D j:=fun j hj=>by
  rw[List.getD_eq_getElem?_getD,List.getElem?_map,List.getElem?_range hj]; rfl
 have uniq:∀ {i j t:Nat},q2x D.ops i t=true→q2x D.ops j t=true→i=j:=fun h1 h2=>q42 ho.nd ((ho.dl _ _).2 h1) ((ho.dl _ _).2 h2)
 have fS:∀ j,j<D.ops.size→q0d sl0 ((List.range D.ops.size).map fun i=>(W i).getD (.tuple [])) (((List.range D.ops.size).map (q1g D)).getD j [])=q0l sl0 W (q1g D j):=fun j hj=>by
  rw[srcs_get j hj];exact qj6 fun t i hi=>vals_get i (h.lt i (h.src j (hall j hj) i (qk9 hi).1))
 refine z3p rfl hmix E ((List.range D.ops.size).map (q1g D)) (qh9 D) ((List.range D.ops.size).map fun i=>(W i).getD (.tuple [])) (hAt H) ⟨?_,?_,?_,?_,?_,?_⟩ h1 rfl ?_ rfl ?_
 · intro i j t hne hi
   cases hj:q2x D.ops j t with
   | false=>rfl
   | true=>exact absurd (uniq hi hj) hne
 · intro j hj s hs
   rw[srcs_get j hj]at hs;obtain⟨t,x⟩:=s;cases x with
   | some i=>
     obtain⟨k1,k2⟩:=qk9 hs;simp only[qbz,zbf];exact⟨(q7x ho).1 k1,(ho.dl _ _).1 k2⟩
   | none=>
     simp only[qbz];refine zc1.2 fun i hi=>?_
     cases hd:q2x D.ops i t with
     | false=>rfl
     | true=>
       have hid:=(ho.dl _ _).2 hd;rcases zbr.1 hs with hs | hs
       · obtain⟨_,e,_⟩:=q9s hs; cases e
       · rcases zbr.1 hs with hs | hs
         · obtain⟨p,hp,e⟩:=zcd.1 hs
           cases e;have hp:=(List.mem_filter.1 hp).2;obtain⟨i2,k1⟩:=qaa hid;have:=q42 ho.nd hid (q05 k1);subst this;simp only[qfl,k1,zbf,zbu]at hp;rcases hp.1 with hp | hp
           · simp[hp]
           · have:=(q7x ho (j:=i) (b:=j)).1 hp
             simp only[this,Bool.or_true]
         · obtain⟨p,hp,e⟩:=zcd.1 hs
           cases e;exact absurd hid (ho.nN p.1 p.2 _ hp)
 · intro s hs
   obtain⟨t,x⟩:=s;rcases zbr.1 hs with hs | hs
   · obtain⟨p,hp,e⟩:=zcd.1 hs
     cases e;exact(ho.dl _ _).1 hp
   · obtain⟨p,hp,e⟩:=zcd.1 hs
     cases e;simp only[qgl];refine zc1.2 fun i hi=>?_
     cases hd:q2x D.ops i p.1 with
     | false=>rfl
     | true=>exact absurd ((ho.dl _ _).2 hd) (ho.nN p.1 p.2 _ hp)
 · exact qh1 fun q e e' h1 h2=>(q7x ho).1 (h.chain q e e' h1 h2)
 · exact fun e he=>h.lt e (h.effV e he)
 · intro j o hj e he hb
   have hlt:=(zch.1 hj).1;have:=h.back j o hj (hall j hlt);have:=zc1.1 this e (by simpa using he)
   rw[hb]at this;exact q0e.1 this
 ·
  have key:∀ j o,D.ops[j]?=some o→ ∀ k,loOf (befs D.ops) j 0 E≤k→k≤hiOf (befs D.ops) j 0 E→ ∃ v,((List.range D.ops.size).map fun i=>(W i).getD (.tuple []))[j]?=some v∧
   OpDo P rr D.ops o ⟨q0d sl0 ((List.range D.ops.size).map fun i=>(W i).getD (.tuple [])) (((List.range D.ops.size).map (q1g D)).getD j []),hAt H k,n,ds⟩ (if E.contains j then hAt H (k+1) else hAt H k) v:=by
   intro j o hj k k1 k2;have hlt:=(zch.1 hj).1;rw[vals_get j hlt,fS j hlt]
   by_cases hE:j∈E
   · obtain⟨q,hq⟩:=List.getElem?_of_mem hE
     have e1:E.contains j=true:=by simpa using hE
     obtain⟨l1,l2⟩:=qwq (bf:=befs D.ops) (p:=0) hq (fun i hi hx=>by have:=h.nodup i q j hx hq; omega) (fun i e hi he hc=>by
      have:=h.ord i q e j he ((q7x ho).2 hc) hq; omega)
     have:k=q:=by omega
     subst this;obtain⟨o',v,x1,x2,x3⟩:=h.effD k j hq;rw[hj]at x1; cases x1;rw[if_pos e1];exact⟨v,x2,x3⟩
   · have e1:E.contains j=false:=by simpa using hE
     rw[if_neg (by rw[e1]; exact Bool.false_ne_true)]
     cases hv:W j with
     | none=>exact absurd hv (hall j hlt)
     | some v=>
       have hne:∀ i:Nat,E[i]?≠some j:=fun i hi=>hE (zc4 hi)
       obtain⟨⟨q0,c1,c2⟩,_⟩:=h.cov j o v hE hj hv;refine⟨v,rfl,c2 k ?_ ?_ fun i e hi he=>?_⟩
       · rcases c1 with rfl | ⟨e,c1,c3⟩
         · exact zbl _
         · rcases zc5 q0 with h0 | h0
           · omega
           · have:=qwr (bf:=befs D.ops) (p:=0) c1 hne ((q7x ho).1 c3)
             omega
       · have:=qob (bf:=befs D.ops) (j:=j) (effs:=E) (q:=0); omega
       · have:=qls (bf:=befs D.ops) (p:=0) (k:=k) hne (by omega) i e hi he
         cases hb:bitD D e j with
         | false=>rfl
         | true=>have h2:=(q7x ho).1 hb; rw[this]at h2; cases h2
  have all:∀ (l:List Oper) (i:Nat),(∀ j o,l[j]?=some o→D.ops[i+j]?=some o)→qcx P rr D.ops sl0 ((List.range D.ops.size).map fun i=>(W i).getD (.tuple [])) ((List.range D.ops.size).map (q1g D)) E (hAt H) n ds (befs D.ops) l i:=by
   intro l
   induction l with
   | nil=>intro i _; trivial
   | cons o l ih=>
     intro i hl;exact⟨key i o (by simpa using hl 0 o rfl),ih (i+1) fun j o' hj=>by have:=hl (j+1) o' (by simpa using hj); rw[show i+1+j=i+(j+1) by omega]; exact this⟩
  exact all D.ops.toList 0 fun j o hj=>by rw[zbv,←Array.getElem?_toList]; exact hj
 · rw[hEl]
   have e1:q0d sl0 ((List.range D.ops.size).map fun i=>(W i).getD (.tuple [])) (qh9 D)=q0l sl0 W (qh9 D):=qj6 fun t i hi=>by
    have:(t,i)∈D.dl:=by
     rcases zbr.1 hi with hi | hi
     · obtain⟨p,hp,e⟩:=zcd.1 hi
       cases e; exact hp
     · obtain⟨p,_,e⟩:=zcd.1 hi; cases e
    have hd:=(ho.dl _ _).1 this;obtain⟨o,hoo,_⟩:=q0x.1 hd;exact vals_get i (zch.1 hoo).1
   rw[e1];refine⟨_,hm,trivial,ν,hB,h.ag,h.ns,h.le,h.g.n,h.g.le,fun ν' hν=>?_⟩
   obtain⟨g1,g2,g3,g4,g5,g6,g7⟩:=h.g.g ν' hν;exact⟨fun t v hk=>qvz ho h hν hk,g2,g3,g4,g5,g6,g7⟩
end
end
end Go.K
namespace Go.K
open Go Go.J
theorem z0h{m seen b:Nat}(h:Nat.beq (Nat.land m seen) m=true)(hb:bitT m b=true):bitT seen b=true:=by
 have h:=zbg h
 have:Nat.testBit (m&&& seen) b=true:=by
  show Nat.testBit (Nat.land m seen) b=true;rw[h]; exact hb
 rw[Nat.testBit_and,zbf]at this;exact this.2
theorem z0d{D:DPl}{j:Nat}:∀ {effs:List Nat},z2q (nthD 0 D.ms j) effs=true→effs.reverse=[]∨ ∃ e,effs.reverse[effs.reverse.length - 1]?=some e∧bitD D j e=true
 | [],_=> .inl rfl
 | e :: r,h=>by
   refine .inr ⟨e,?_,h⟩;simp
section
variable{T:Type}{P:Program}{hd:Hd T}{rec:Tk→T→Outs T}{N:Nat}{I:Va→AH→Prop}
variable{rr:Option Nat}{D:DPl}{sl0:List (Nat×AV)}{n:Nat}{ds:List ADef}{S0:AS}{ν0:Va}{hB0:AH}
variable(hI:∀ (ν ν':Va) (hB hB':AH),Ag N ν ν'→Le hB hB'→I ν hB→I ν' hB')(hrec:∀ tk t os t',rec tk t= .ok (os,t')→Snd P N I tk os)(hop:quf P)(hopV:OpsV P)(ho:DOld D sl0 S0 ν0)
include hopV ho
theorem qed{vs:List (Nat×Nat×V)}{S:AS}{ν:Va}{hB:AH}{W:Nat→Option AV}{H:List AH}{E semi:List Nat}{seen:Nat}{j:Nat}{o:Oper}{k:List Nat→List (Nat×Nat×V)→AS→T→Outs T}{t t':T}{os0 os:List Out}{G:Prop}
 (he:z4b P D j o semi k vs S t= .ok (os0,t'))(hs:∀ x∈os0,x∈os)(h:DI P rr D sl0 n ds S0 ν0 hB0 vs S ν hB W H E semi seen)
 (hoj:D.ops[j]?=some o)(hj:W j=none)(hb:∀ b,bitD D j b=true→W b≠none)(hback:qgy o j=true)(hhead:E=[]∨ ∃ e,E[E.length - 1]?=some e∧bitD D j e=true)
 (hwant:q1d D.ops o (q0l sl0 W (q1g D j))=some false)
 (hk:∀ semi1 vs1 S1 ν1 hB1 W1 H1 t1 lo t2,k semi1 vs1 S1 t1= .ok (lo,t2)→(∀ x∈lo,x∈os)→hAt H1 0=hAt H 0→DI P rr D sl0 n ds S0 ν0 hB0 vs1 S1 ν1 hB1 W1 H1 (match effO o with | true=>E++[j] | false=>E) semi1 (Nat.lor seen (Nat.shiftLeft 1 j))→G):G:=by
 obtain⟨_,h1,he⟩:=R.zak he;have h1:=q02 h1
 have hdst:∀ d,o.dst=some d→d<n:=fun d hd=>by
  rw[hd]at h1;have e:n=S.nt:=h.g.n;rw[e]; exact q0e.1 h1
 have hdo:∀ h':AH,OpDo P rr D.ops o ⟨q0l sl0 W (q1g D j),h',n,ds⟩ h' (.tuple []):=fun h'=> .inr ⟨hwant,rfl,rfl,hdst⟩
 have hvs:∀ p∈(match o.dst with | some d=>(j,d,V.tup []) :: vs | none=>vs),p∈vs∨(p.1=j∧(p.2.1,j)∈D.dl∧Is S ν p.2.2 (.tuple [])):=fun p hp=>by
  cases hd:o.dst with
  | none=>rw[hd]at hp; exact .inl hp
  | some d=>
    rw[hd]at hp;rcases zbm.1 hp with rfl | hp
    · exact .inr ⟨rfl,(qqj ho hoj).2 hd,fun ν' _=>by simp only[cv,cvL]⟩
    · exact .inl hp
 have old:∀ i,W i≠none→upd1 W j (.tuple []) i=W i:=fun i hi=>q6o fun e=>by subst e; exact hi hj
 cases hef:effO o with
 | false=>
   rw[hef]at he hk;simp only at he;refine hk semi _ S ν hB (upd1 W j (.tuple [])) H _ _ _ he hs rfl ?_;exact h.put hoj hj hb hback hhead (zbl _) (hdo _) (.refl _ _) (zbi _) h.g hvs ⟨fun i hi=>hi,fun i hi=> .inl hi⟩ (.inr ⟨⟨0,fun _=>none⟩,zbl _,fun i c hc=>by simp at hc,fun h' _ _=>hdo h'⟩)
 | true=>
   rw[hef]at he hk;simp only at he;obtain⟨_,r1,he⟩:=R.zak he;have hopen:∀ i∈qtg (nthD 0 D.ms j) semi,i∈semi:=fun i hi=>(List.mem_filter.1 hi).1
   have hvs':∀ p∈(match o.dst with | some d=>(j,d,V.tup []) :: vs | none=>vs),(p.2.1,p.1)∈D.dl∧ ∃ x,upd1 W j (.tuple []) p.1=some x∧Is S ν p.2.2 x:=fun p hp=>by
    rcases hvs p hp with hp | ⟨y1,y2,y3⟩
    · obtain⟨y1,x,y2,y3⟩:=h.vs p hp
      exact⟨y1,x,by rw[old _ (by rw[y2]; simp)]; exact y2,y3⟩
    · obtain⟨p1,p2⟩:=p
      simp only at y1;subst y1;exact⟨y2,_,q3g,y3⟩
   have hre:∀ i∈qtg (nthD 0 D.ms j) semi,∀ o v,D.ops[i]?=some o→upd1 W j (.tuple []) i=some v→OpDo P rr D.ops o ⟨q0l sl0 (upd1 W j (.tuple [])) (q1g D i),q1f H,n,ds⟩ (q1f H) v:=fun i hi o' v ho' hv=>by
    obtain⟨_,_,_,_,y4,_⟩:=h.sem i (hopen i hi);rw[q49 hj (h.src i y4)];exact h.free (.refl _) (hopen i hi) ho' (by rw[old i y4]at hv; exact hv)
   refine hk _ _ _ ν hB (upd1 W j (.tuple [])) (H++[q1f H]) _ _ _ he hs (q88 (by rw[h.len]; omega)) ?_
   refine h.eff hoj hj hb hback hhead h.wf (zbi _) (zbl _) (hdo _) (.refl _ _) (zbi _) (.refl _) h.g hvs (fun i hi=>⟨hopen i hi,by have:=(List.mem_filter.1 hi).2; simpa [bitD]using this⟩) (fun i hi hbi=>List.mem_filter.2 ⟨hi,by show(!(bitT _ i))=true; rw[show bitT (nthD 0 D.ms j) i=false from hbi]; rfl⟩) fun i hi o' v ho' hv=>?_
   obtain⟨_,_,_,_,y4,_⟩:=h.sem i (hopen i hi);have:=hre i hi o' v ho' (by rw[old i y4]; exact hv)
   rw[q49 hj (h.src i y4)]at this;exact this
variable(hopN:OpsN P)
include hI hrec hop hopN
theorem go_sound{id:Nat}{h0:AH}{os:List Out}(hmix:P.follows .mixedOrders=true)(hi:I ν0 hB0)(hN:N≤S0.ns):∀ {todo effs semi:List Nat} {seen:Nat} {vs:List (Nat×Nat×V)} {S:AS} {t t':T} {os0:List Out} {ν:Va} {hB:AH} {W:Nat→Option AV} {H:List AH},
 q77 P rec D todo effs semi seen vs S t= .ok (os0,t')→(∀ x∈os0,x∈os)→hAt H 0=h0→DI P rr D sl0 n ds S0 ν0 hB0 vs S ν hB W H effs.reverse semi seen→J P rr (.region id D.ops true) ⟨sl0,h0,n,ds⟩ (Q1 os S0 ν0 hB0)
 | [],effs,semi,seen,vs,S,t,t',os0,ν,hB,W,H,he,hs,h0e,h=>by
   obtain⟨_,h1,he⟩:=R.zak he;cases he;have h1:=zbg (q02 h1);refine q81 ho hmix h (fun j hj=>?_) h0e (hs _ (zbs.2 rfl))
   refine(h.sn j).1 ?_;show Nat.testBit seen j=true;rw[h1,Nat.testBit_two_pow_sub_one];simpa using hj
 | j :: todo,effs,semi,seen,vs,S,t,t',os0,ν,hB,W,H,he,hs,h0e,h=>by
   simp only[q77,qjy]at he;split at he
   · cases he
   · rename_i o hoj
     obtain⟨_,h1,he⟩:=R.zak he;obtain⟨g,hg,he⟩:=R.zak he;have h1:=q02 h1;simp only[zbf,Bool.not_eq_true']at h1;obtain⟨⟨⟨c1,c2⟩,c3⟩,c4⟩:=h1
     have hj:W j=none:=by
      cases hw:W j with
      | none=>rfl
      | some v=>
        have:=(h.sn j).2 (by rw[hw]; simp)
        rw[this]at c4; cases c4
     have hb:∀ b,bitD D j b=true→W b≠none:=fun b hb=>(h.sn b).1 (z0h c1 hb)
     have hhead:=z0d c2
     have hk:∀ semi1 vs1 S1 ν1 hB1 W1 H1 t1 lo t2,q77 P rec D todo (match effO o with | true=>j :: effs | false=>effs) semi1 (Nat.lor seen (Nat.shiftLeft 1 j)) vs1 S1 t1= .ok (lo,t2)→(∀ x∈lo,x∈os)→hAt H1 0=hAt H 0→
      DI P rr D sl0 n ds S0 ν0 hB0 vs1 S1 ν1 hB1 W1 H1 (match effO o with | true=>effs.reverse++[j] | false=>effs.reverse) semi1 (Nat.lor seen (Nat.shiftLeft 1 j))→J P rr (.region id D.ops true) ⟨sl0,h0,n,ds⟩ (Q1 os S0 ν0 hB0):=by
      intro semi1 vs1 S1 ν1 hB1 W1 H1 t1 lo t2 k1 k2 k3 k4;refine go_sound (ν:=ν1) (hB:=hB1) (W:=W1) (H:=H1) hmix hi hN k1 k2 (k3.trans h0e) ?_;cases hef:effO o with
      | true=>rw[hef]at k4; simpa using k4
      | false=>rw[hef]at k4; exact k4
     unfold qs6 at hg;simp only[qjy]at hg;cases hgd:o.guard with
     | none=>
       rw[hgd]at hg;cases hg;simp only at he;exact qh4 hI hrec hop hopV ho hopN he hs h hi hN hoj hj hb c3 hhead (by simp[q1d,hgd]) hk
     | some jw=>
       obtain⟨jg,w⟩:=jw;rw[hgd]at hg;simp only at hg;cases hojg:D.ops[jg]? with
       | none=>rw[hojg]at hg; cases hg
       | some oj=>
       rw[hojg]at hg;simp only at hg;cases hdg:oj.dst with
       | none=>rw[hdg]at hg; cases hg
       | some d=>
       rw[hdg]at hg;simp only at hg;cases hv:getL (dS D j vs S).sl d with
       | none=>rw[hv]at hg; cases hg
       | some v=>
       rw[hv]at hg;cases hg;simp only at he;split at he
       · rename_i b
         rw[hgd]at he;simp only at he;obtain⟨_,hbit,he⟩:=R.zak he;have hbit:bitD D j jg=true:=q02 hbit;obtain⟨a,hsl,ia⟩:=q6l (h.see ho j) hv
         have hbv:∀ ν',Ag S.ns ν ν'→b.ev ν'.i=b.ev ν.i:=fun ν' hν=>by
          have e1:=ia ν' hν;have e2:=ia ν (.refl _ _);simp only[cv]at e1 e2;rw[←e2]at e1; exact AV.bool.inj e1
         have ha:a= .bool (b.ev ν.i):=by rw[←ia ν (.refl _ _)]; simp only[cv]
         obtain⟨S1,m1,g1,p1,n1⟩:=q44 h.g hbv;obtain⟨t1,lo,t2,k1,k2⟩:=qa0 he _ m1;have hdl:(d,jg)∈D.dl:=(qqj ho hojg).2 hdg
         have hW:W jg=some (.bool (b.ev ν.i)):=by
          rw[ha]at hsl;rcases q87 hsl with⟨i,x1,x2⟩ | ⟨x1,x2⟩
          · have:=q42 ho.nd (qk9 x1).2 hdl
            subst this; exact x2
          · exfalso
            rcases zbr.1 x1 with x1 | x1
            · obtain⟨_,e,_⟩:=q9s x1; cases e
            · rcases zbr.1 x1 with x1 | x1
              · obtain⟨p,hp,e⟩:=zcd.1 x1
                cases e;have hp:=(List.mem_filter.1 hp).2;obtain⟨i3,k5⟩:=qaa hdl;have:=q42 ho.nd hdl (q05 k5);subst this;unfold bitD at hbit;simp only[qfl,k5,hbit,Bool.not_true,Bool.and_false,zbn]at hp
              · obtain⟨p,hp,e⟩:=zcd.1 x1
                cases e;exact ho.nN p.1 p.2 _ hp hdl
         have h2:DI P rr D sl0 n ds S0 ν0 hB0 (setL vs jg (d,V.bool (.lit (b.ev ν.i)))) S1 ν hB W H effs.reverse semi seen:=by
          refine⟨h.len,h.ag,by rw[n1]; exact h.ns,h.le,g1,fun p hp=>?_,h.sn,h.lt,h.wf,h.sl,h.sv,h.sd,h.sr,h.src,h.back,h.nodup,h.chain,h.ord,h.effV,h.effD,h.cov,h.sem⟩
          rcases z1j hp with rfl | hp
          · exact⟨hdl,_,hW,fun ν' _=>by simp only[cv,Bx.ev]⟩
          · obtain⟨y1,x,y2,y3⟩:=h.vs p hp
            exact⟨y1,x,y2,y3.mono (.refl _ _) (by omega)⟩
         have hwt:q1d D.ops o (q0l sl0 W (q1g D j))=some (b.ev ν.i==w):=by
          simp only[q1d,hgd,hojg,Option.bind_some,hdg,hsl,ha]
         simp only at k1;cases hw:(b.ev ν.i==w)with
         | true=>
           rw[hw]at k1 hwt;exact qh4 hI hrec hop hopV ho hopN k1 (fun x hx=>hs x (k2 x hx)) h2 hi hN hoj hj hb c3 hhead hwt hk
         | false=>
           rw[hw]at k1 hwt;exact qed hopV ho k1 (fun x hx=>hs x (k2 x hx)) h2 hoj hj hb c3 hhead hwt hk
       · rename_i l
         obtain⟨a,hsl,ia⟩:=q6l (h.see ho j) hv;have ha:a= .tuple (cvL ν l):=by rw[←ia ν (.refl _ _)]; simp only[cv]
         have hwt:q1d D.ops o (q0l sl0 W (q1g D j))=some false:=by
          simp only[q1d,hgd,hojg,Option.bind_some,hdg,hsl,ha]
         exact qed hopV ho he hs h hoj hj hb c3 hhead hwt hk
       · cases he
end
theorem qh7:∀ {l:List Oper} {i t k:Nat},(t,k)∈q9z l i↔ ∃ j o,l[j]?=some o∧o.dst=some t∧k=i+j
 | [],i,t,k=>by simp[q9z]
 | x :: r,i,t,k=>by
   have ih:= @qh7 r (i+1) t k;have tail:(∃ j o,r[j]?=some o∧o.dst=some t∧k=i+1+j)→ ∃ j o,(x :: r)[j]?=some o∧o.dst=some t∧k=i+j:=fun⟨j,o,h1,h2,h3⟩=>⟨j+1,o,by simpa using h1,h2,by omega⟩
   have cases':(∃ j o,(x :: r)[j]?=some o∧o.dst=some t∧k=i+j)→(x.dst=some t∧k=i)∨ ∃ j o,r[j]?=some o∧o.dst=some t∧k=i+1+j:=fun⟨j,o,h1,h2,h3⟩=>by
    cases j with
    | zero=>simp at h1; subst h1; exact .inl ⟨h2,by omega⟩
    | succ j=>exact .inr ⟨j,o,by simpa using h1,h2,by omega⟩
   simp only[q9z];cases hd:x.dst with
   | none=>
     simp only;rw[ih];refine⟨tail,fun h=>?_⟩
     rcases cases' h with⟨h1,_⟩ | h
     · rw[hd]at h1; cases h1
     · exact h
   | some d=>
     simp only[zbm,zbt];rw[ih];constructor
     · rintro(⟨rfl,rfl⟩ | h)
       · exact⟨0,x,rfl,hd,rfl⟩
       · exact tail h
     · intro h
       rcases cases' h with⟨h1,h2⟩ | h
       · rw[hd]at h1; cases h1; exact .inl ⟨rfl,h2⟩
       · exact .inr h
theorem qa9{α:Type}{p:Nat→Bool}:∀ {l:List (Nat×α)} {t:Nat} {v:α},getL (l.filter fun x=>p x.1) t=some v→p t=true∧getL l t=some v
 | [],t,v,h=>by simp[q0h,q0c]at h
 | x :: r,t,v,h=>by
   simp only[List.filter_cons]at h;split at h
   · rename_i hb
     simp only[q0h,q0c]at h ⊢;split at h
     · rename_i hk
       have:=zbg hk;subst this;exact⟨hb,h⟩
     · exact qa9 h
   · rename_i hb
     obtain⟨h1,h2⟩:=qa9 h;refine⟨h1,?_⟩;simp only[q0h,q0c];split
     · rename_i hk
       have:=zbg hk;subst this;exact absurd h1 hb
     · exact h2
theorem qso{T:Type}{P:Program}{N:Nat}{I:Va→AH→Prop}(hI:∀ (ν ν':Va) (hB hB':AH),Ag N ν ν'→Le hB hB'→I ν hB→I ν' hB')(hmix:P.follows .mixedOrders=true)(hop:quf P)(hopV:OpsV P)(hopN:OpsN P):z21 P N I T:=by
 intro rec hrec id ops r S t t' os he ν hB s hi hN hr h;obtain⟨_,h1,he⟩:=R.zak he;have h1:=q02 h1;obtain⟨sl0,h0,n,ds⟩:=s;intro hw hrs
 have ho:DOld (qrn ops S.sl) sl0 S ν:=by
  refine⟨rfl,h1,fun t i=>?_,fun t v hk=>?_,fun t v hk=>?_,fun t v i hm hd=>?_⟩
  · show(t,i)∈q9z ops.toList 0↔_
    rw[qh7,q0x];simp only[zbv,Array.getElem?_toList];exact⟨fun⟨j,o,h1,h2,h3⟩=>by subst h3; exact⟨o,h1,h2⟩,fun⟨o,h1,h2⟩=>⟨i,o,h1,h2,rfl⟩⟩
  · exact q6l h (qa9 (p:=fun t=>(getL (q9z ops.toList 0) t).isSome) hk).2
  · exact q6l h (qa9 (p:=fun t=>(getL (q9z ops.toList 0) t).isNone) hk).2
  · have h2:=(List.mem_filter.1 hm).2
    obtain⟨y,hy⟩:=qaa hd;simp only[qrn]at hy h2;rw[hy]at h2; cases h2
 refine go_sound (rr:=r.map ν.n) (D:=qrn ops S.sl) (ν:=ν) (hB:=hB) (W:=fun _=>none) (H:=[h0]) hI hrec hop hopV ho hopN hmix hi hN he (fun x hx=>hx) rfl ?_ hw hrs
 have gn:=qnq h;refine⟨rfl,.refl _ _,zbi _,.refl _,gn,(fun p hp=>by cases hp),fun j=>?_,(fun j hj=>absurd rfl hj),hw.2.1,hw.1,(fun j v hv=>by cases hv),hw.2.2,hrs,(fun j hj=>absurd rfl hj),(fun j o _ hj=>absurd rfl hj),(fun i j e hx=>by simp at hx),(fun q e e' hx=>by simp at hx),(fun i q e b hx=>by simp at hx),(fun e hx=>by simp at hx),(fun q e hx=>by simp at hx),(fun j o v _ _ hv=>by cases hv),(fun i hx=>by cases hx)⟩
 simp[bitT]
end Go.K
namespace Go.K
open Go Go.J
variable{S:AS}{ν:Va}{hB:AH}{s:St}{P:Program}{o:Oper}{l:List AS}
theorem qpx{z:List AV}:∀ {n q:Nat},q<n * z.length→(aRep z n)[q]?=z[q % z.length]?
 | 0,q,h=>by omega
 | n+1,q,h=>by
   have e:aRep z (n+1)=z++aRep z n:=by simp[aRep,List.replicate_succ]
   rw[e];rcases Nat.lt_or_ge q z.length with hq | hq
   · rw[zck hq,Nat.mod_eq_of_lt hq]
   · rw[zcl hq]
     have:q - z.length<n * z.length:=by rw[zc7]at h; omega
     rw[qpx this];congr 1;rw[←Nat.mod_eq_sub_mod hq]
theorem qwj{k:IntKind}(h:Nat.beq (kid k) 3=true):k= .i64:=q6c (j:= .i64) h
theorem qml{T:Nat}{x y:Operand}{a b:IntKind×Lin}{p:V×AS}(h:γ S ν hB s)(ho:o.op= .makeSlice T x y)(hx:evI S x= .ok a)(hy:evI S y= .ok b)(he:qrc P S T a b= .ok p)(hf:fin o p.1 p.2= .ok l):OpN P o S ν hB s l:=by
 obtain⟨e,h1,he⟩:=R.zak he;obtain⟨i,h2,he⟩:=R.zak he;obtain⟨z,h3,he⟩:=R.zak he;obtain⟨ty,h4,he⟩:=R.zak he;obtain⟨_,h5,he⟩:=R.zak he;cases he;have h5:=q02 h5;simp only[zbf]at h5;obtain⟨⟨⟨⟨⟨⟨⟨⟨c1,c2⟩,c3⟩,c4⟩,c5⟩,c6⟩,c7⟩,c8⟩,c9⟩:=h5;obtain⟨ka,na⟩:=a;obtain⟨kb,nb⟩:=b;have k1:=qwj c1;have k2:=qwj c2;simp only at k1 k2;subst k1; subst k2;obtain⟨va,e1,i1⟩:=q3c h hx;obtain⟨vb,e2,i2⟩:=q3c h hy;simp only at e1 e2 i1 i2 c3 c4 c5;have b3:=q01 h c3 ν (.refl _ _);have b4:=q01 h c4 ν (.refl _ _);have b5:=q01 h c5 ν (.refl _ _);rw[ev_k]at b3 b5;rw[i1 ν (.refl _ _)]at b3 b4;rw[i2 ν (.refl _ _)]at b4 b5;obtain⟨d,hd,hn,rfl⟩:=q1m hf;obtain⟨sl,h₀,nt,ds⟩:=s;have hi:=q0a h2;have hz:=q0a h3;have hzl:(cv ν z).cells.length=i.size:=by rw[←q2a hz ν ν,q1x]; exact zbg c7
 have hb:=zbj c6;intro r;have e1':ev sl x=some (.int .i64 ((va.toNat:Nat):Int)):=by rw[e1]; congr 2; omega
 have e2':ev sl y=some (.int .i64 ((vb.toNat:Nat):Int)):=by rw[e2]; congr 2; omega
 refine qps (n:=i.size) (by_:=i.bytes) (q2u (q0a h1)) (by rw[hi]; rfl) (q2w hz ν) hzl ho hd (by have:=h.n; simp only at this; rw[this]; exact hn) e1' e2' (by omega) ?_ (by omega) fun j h' hw=>?_
 · have:vb.toNat≤1048576:=by omega
   calc vb.toNat * i.bytes≤1048576 * 268435456:=Nat.mul_le_mul this hb
    _≤281474976710656:=by decide
 · refine⟨?_,hw.le⟩
   refine⟨rfl,rfl,rfl,_,zbs.2 rfl,ν.set S.ns 0 j .nilFunc,hB,q1o _ _ _ _ _,zcb _,.refl _,?_⟩;refine q60 (a:= .slice (some (j,0)) va.toNat (.exact vb.toNat)) (qnp h hw (k:= .own [.arr nb ty] []) (fun ν' hν hj=>?_) (fun t kn=>by simp) 0 .nilFunc) fun ν' hν=>?_
   · refine⟨_,by rw[hj]; exact hw.get,⟨by rw[i2 ν' hν]; omega,_,[],by rw[zcr],?_,fun q w hq=>?_,rfl⟩,fun p hp=>by cases hp⟩
     · rw[q4j,i2 ν' hν,hzl,zbg c8]
     · have hlt:=(zci.1 hq).1
       rw[q4j]at hlt;rw[qpx hlt,←q2a hz ν ν',q1x]at hq;have:=q32 h hν (j:=0) rfl (zbl _) c9 _ w hq;have e0:z.cells.length=ty.length:=by rw[zbg c7,zbg c8]
       rw[e0,zbv,Nat.mod_mod]at this;exact this
   · have hA:Ag S.ns ν ν':=(q1o ν S.ns 0 j .nilFunc).trans hν (zcb _)
     have:=(hν S.ns (zc0 _)).2.1;simp only[Va.set,if_true]at this;simp only[cv,this,ev_k,i1 ν' hA,i2 ν' hA]; rfl
theorem γ_ro{i:Nat}{ck:Chunk}{h':AH}(h:γ S ν hB s)(hn:New s.h i ck h'):γ S ν (hB.set i ck) ⟨s.slots,h',s.n,s.defs⟩∧Le hB (hB.set i ck):=by
 have fr:hB.get i=none:=by
  cases hg:hB.get i with
  | none=>rfl
  | some c=>have:=h.le.get _ _ hg; rw[hn.free]at this; cases this
 have l1:Le hB (hB.set i ck):=⟨zbi _,fun j c hj=>by
  simp only[AH.set];rw[if_neg (fun e=>by subst e; rw[fr]at hj; cases hj)]; exact hj⟩
 have l2:Le (hB.set i ck) h':=⟨zbo h.le.next hn.le.next,fun j c hj=>by
  simp only[AH.set]at hj;split at hj
  · rename_i e; subst e; cases hj; exact hn.get
  · exact hn.le.get j c (h.le.get j c hj)⟩
 refine⟨⟨h.n,l2,fun ν' hg=>?_⟩,l1⟩
 obtain⟨g1,g2,g3,g4,g5,g6,g7⟩:=h.g ν' hg
 have hold:∀ p∈S.hp,∀ j,nameOf ν' p=some j→j≠i∧h'.get j=s.h.get j:=by
  intro p hp j hj;obtain⟨ck',hck⟩:=(g4 p hp).some hj;refine⟨fun e=>?_,(hn.le.get _ _ hck).trans hck.symm⟩
  subst e; rw[hn.free]at hck; cases hck
 refine⟨g1,g2,fun f hf=>(g3 f hf).le l1,fun p hp=>((g4 p hp).congr fun j hj=>(hold p hp j hj).2).leB l1,g5,fun p hp j hj=>?_,g7⟩
 simp only[AH.set];rw[if_neg (hold p hp j hj).1];exact g6 p hp j hj
theorem qeb{c:Nat}:∀ {l:List V} {i:Nat} {f:Fa},f∈qea c i l→ ∃ j v,l[j]?=some v∧f= .cell c (.k ((i+j:Nat):Int)) v
 | [],i,f,h=>by cases h
 | v :: r,i,f,h=>by
   simp only[qea]at h;rcases zbm.1 h with rfl | h
   · exact⟨0,v,rfl,rfl⟩
   · obtain⟨j,w,h1,h2⟩:=qeb h
     exact⟨j+1,w,by simpa using h1,by rw[h2]; congr 2; omega⟩
theorem qlj{pl:Nat→Option (Nat×Nat)}:∀ {ps:List (Nat×V)} {l l':List V},qst S pl l ps= .ok l'→l'.length=l.length
 | [],l,l',he=>by cases he; rfl
 | p :: r,l,l',he=>by
   obtain⟨q,h1,he⟩:=R.zak he;obtain⟨vs,h2,he⟩:=R.zak he;obtain⟨_,h3,he⟩:=R.zak he;have h3:=q02 h3;rw[zbf]at h3;have l2:=zbj h3.2;rw[qlj he];simp only[putAt,zc8,zcc,zcs];omega
theorem qjz{T n:Nat}{ps:Array (Nat×Operand)}{vs:List (Nat×V)}{p:V×AS}(h:γ S ν hB s)(ho:o.op= .buildSlice T n ps)(hx:evPA S ps.toList= .ok vs)(he:qe6 P S T n vs= .ok p)(hf:fin o p.1 p.2= .ok l):OpN P o S ν hB s l:=by
 obtain⟨e,h1,he⟩:=R.zak he;obtain⟨z,h2,he⟩:=R.zak he;obtain⟨zv,h3,he⟩:=R.zak he;obtain⟨_,h4,he⟩:=R.zak he;obtain⟨w,h5,he⟩:=R.zak he;obtain⟨⟨w1,S1⟩,h6,he⟩:=R.zak he;cases he;have h4:=q02 h4;simp only[zbf]at h4;obtain⟨as,e1,i1⟩:=q86 h hx;have hz:=q0a h3;have hzl:(cv ν zv).cells.length=z:=by rw[←q2a hz ν ν,q1x]; exact zbg h4.1
 have rep:∀ ν',cvL ν' ((List.replicate n zv.cells).flatten)=aRep (cv ν zv).cells n:=fun ν'=>by
  rw[←q2a hz ν ν'];simp only[aRep,q73,List.map_flatten,List.map_replicate]
 have fl:∀ ν',Ag S.ns ν ν'→q5l (fun i=>some (i * z,z)) (aRep (cv ν zv).cells n) as=some (cvL ν' w):=fun ν' hν=>by
  have:=q67 h h5 hν;rwa[rep,i1 ν' hν]at this
 obtain⟨ν1,hB1,f1,i2⟩:=q2m (as:=cvL ν w) h h6 fun ν' hν=>by
  have:=fl ν' hν;rw[fl ν (.refl _ _)]at this;exact(zbz this).symm
 obtain⟨d,hd,hn,rfl⟩:=q1m hf;obtain⟨sl,h₀,nt,ds⟩:=s;intro r;refine qcu (q2u (q0a h1)) (q4u (q0a h2)) (q2w hz ν) hzl (zbj h4.2) ho hd (by have e0:=h.n; have e1:=f1.nt; simp only at e0; rw[e0,←e1]; exact hn) e1 (fl ν (.refl _ _)) fun j h' hw=>?_
 have hlen:(cvL ν w).length=n * z:=by
  rw[q1x,qlj h5,←q1x ν,rep,q4j,hzl]
 obtain⟨g2,l2⟩:=γ_ro f1.g hw;have g3:=qzg (i:=n) (n:=0) (a:= .slice (some (j,0)) n (.exact n)) (es:=[Lin.s S1.ns,(Lin.s S1.ns).addk (-n),(Lin.k n).sub (.s S1.ns)]) (fs:=qea S1.ns 0 w1++[.sl S1.ns true (z57 S1 z w1 n)]) g2 fun ν' hν x1 x2 x3=>⟨fun e he=>?_,fun f hf=>?_⟩
 · refine⟨?_,hw.le⟩
   refine⟨rfl,rfl,rfl,_,zbs.2 rfl,ν1.set S1.ns n 0 (.slice (some (j,0)) n (.exact n)),hB1.set j (.own (cvL ν w)),f1.ag.trans ((q1o _ _ _ _ _).mono f1.ns) (zbi _),zbo f1.ns (zcb _),f1.le.trans l2,q60 g3 fun ν' hν=>?_⟩
   have:=(hν S1.ns (zc0 _)).2.2.1;simp only[Va.set,if_true]at this;simp only[cv]; exact this
 · simp only[zbm,zc6,or_false]at he
   rcases he with rfl | rfl | rfl
   · rw[ev_s,x1]; omega
   · rw[q0f,ev_s,x1]; omega
   · rw[q0y,ev_s,ev_k,x1]; omega
 · have hc:(hB1.set j (.own (cvL ν w))).cells j=some (cvL ν w):=q71 (by simp[AH.set])
   rcases zbr.1 hf with hf | hf
   · obtain⟨q,v,q1,rfl⟩:=qeb hf
     refine⟨by rw[ev_k]; omega,j,0,n,.exact n,cvL ν w,x3,hc,?_⟩
     rw[ev_k];have:=qbr (ν:=ν') q1;rw[i2 ν' hν]at this;simpa using this
   · simp only[zbs]at hf
     subst hf;refine⟨some (j,0),n,.exact n,x3,by rw[x1],fun _=>⟨n,rfl,zbi _⟩,fun hn0=>?_⟩
     unfold z57
     have triv:∃ id off cs,some (j,0)=some (id,off)∧(hB1.set j (.own (cvL ν w))).cells id=some cs∧off+n * ([]:List AT).length≤cs.length∧ ∀ q,q<n * ([]:List AT).length→ ∃ u,cs[off+q]?=some u∧okN ν' (hB1.set j (.own (cvL ν w))) [] (q % ([]:List AT).length) u:=
      ⟨j,0,_,rfl,hc,by simp,fun q hq=>by simp at hq⟩
     split
     · rename_i ty hty
       split
       · rename_i hb
         simp only[zbf]at hb;have hl:=zbg hb.1;refine⟨j,0,_,rfl,hc,by rw[hl,hlen]; omega,fun q hq=>?_⟩
         have hlt:q<(cvL ν w).length:=by rw[hlen,←hl]; exact hq
         refine⟨(cvL ν w)[q],by rw[zbv]; exact zcg hlt,?_⟩
         have:=q32 f1.g hν (j:=0) rfl (zbl _) hb.2 q ((cvL ν w)[q]) (by rw[i2 ν' hν]; exact zcg hlt)
         rw[zbv]at this;exact this.le l2
       · exact triv
     · exact triv
end Go.K
namespace Go.K
open Go Go.J
variable{S:AS}{ν:Va}{hB:AH}{s:St}{P:Program}{o:Oper}{l:List AS}
theorem qi9{α:Type}{y:α}:∀ {l:List α} {j:Nat},(qax l j y).length=l.length
 | [],_=>rfl
 | _ :: _,0=>rfl
 | _ :: r,j+1=>by simp only[qax,zce,qi9 (l:=r)]
theorem qp0{ν':Va}{u:AT}:∀ {ty:List AT} {j j':Nat} {w:AV},(j'=j→j<ty.length→okT ν' hB u w)→(j'≠j→okN ν' hB ty j' w)→(j'=j→j<ty.length)→okN ν' hB (qax ty j u) j' w
 | [],j,j',w,_,h2,h3=>by
   by_cases e:j'=j
   · have:=h3 e; simp at this
   · exact(h2 e).elim
 | t :: r,0,0,w,h1,_,_=>by simp only[qax,okN]; exact h1 rfl (by simp)
 | t :: r,0,j'+1,w,_,h2,_=>by simp only[qax,okN]; have:=h2 (by omega); simpa only[okN]using this
 | t :: r,j+1,0,w,_,h2,_=>by simp only[qax,okN]; have:=h2 (by omega); simpa only[okN]using this
 | t :: r,j+1,j'+1,w,h1,h2,h3=>by
   simp only[qax,okN];exact qp0 (ty:=r) (fun e hl=>h1 (by omega) (by simp; omega)) (fun e=>by have:=h2 (by omega); simpa only[okN]using this) (fun e=>by have:=h3 (by omega); simp at this; omega)
theorem z2y{α:Type}:∀ {l:List α} {j:Nat} {x:α},nth l j=some x→j<l.length
 | [],_,_,h=>by simp[nth]at h
 | _ :: _,0,_,_=>by simp
 | _ :: r,j+1,_,h=>by simp only[nth]at h; have:=z2y h; simp; omega
theorem qid{ty u:List AT}{q:Lin}{x:V}(h:γ S ν hB s)(he:stTy S ty q x= .ok u){ν':Va}(hν:Ag S.ns ν ν')(h0:0≤q.ev ν'.i):
 u.length=ty.length∧(∀ j w,okN ν' hB ty j w→okN ν' hB u j w)∧okN ν' hB u ((q.ev ν'.i).toNat % ty.length) (cv ν' x):=by
 unfold stTy at he;split at he
 · cases he
 · rename_i j hj
   have hm:=qbp hj h0;split at he
   · cases he
   · rename_i t ht
     have hjl:=z2y ht;rw[hm];split at he
     · rename_i hc
       cases he;exact⟨rfl,fun _ _ h=>h,(q9g ht).2 (q80 h hc hν)⟩
     · split at he
       · cases he
       · rename_i w _
         obtain⟨_,h1,he⟩:=R.zak he;cases he;have h1:=q02 h1;rw[zbf]at h1;refine⟨qi9,fun j' w' hw=>qp0 (fun e _=>?_) (fun _=>hw) (fun _=>hjl),qp0 (fun _ _=>q80 h h1.2 hν) (fun e=>absurd rfl e) (fun _=>hjl)⟩
         subst e;exact qif h hν h1.1 ((q9g ht).1 hw)
theorem z5z{α:Type}{a b:List α}{i:Nat}{x:α}(h:i<a.length):(a++b).set i x=a.set i x++b:=by rw[List.set_append,if_pos h]
theorem q8k(h:γ S ν hB s){x:V}{a:AV}(ha:∀ ν',Ag S.ns ν ν'→cv ν' x=a):∀ {l l':List Sg} {q:Lin} {cs:List AV} {on:Int},stSg S l q x= .ok l'→(∀ ν',Ag S.ns ν ν'→q.ev ν'.i=on)→0≤on→(∀ ν',Ag S.ns ν ν'→SgOk ν' hB l cs)→
 on.toNat<cs.length∧ ∀ ν',Ag S.ns ν ν'→SgOk ν' hB l' (cs.set on.toNat a)
 | [],l',q,cs,on,he,_,_,_=>by simp[stSg]at he
 | .one v :: r,l',q,cs,on,he,hq,h0,hs=>by
   obtain⟨cs0,q1,hh⟩:=qy1 hs;subst q1
   have rest:1≤on→(stSg S r (q.addk (-1)) x).bind (fun l=>R.ok (.one v :: l))= .ok l'→on.toNat<(cv ν v :: cs0).length∧ ∀ ν',Ag S.ns ν ν'→SgOk ν' hB l' ((cv ν v :: cs0).set on.toNat a):=fun h1 he=>by
    obtain⟨m,h2,he⟩:=R.zak he;cases he;obtain⟨k1,k2⟩:=q8k h ha h2 (on:=on - 1) (fun ν' hν=>by rw[q0f,hq ν' hν]; omega) (by omega) fun ν' hν=>(hh ν' hν).2
    have e:on.toNat=(on - 1).toNat+1:=by omega
    rw[e];refine⟨by simp; omega,fun ν' hν=>⟨cs0.set (on - 1).toNat a,?_,k2 ν' hν⟩⟩
    rw[(hh ν' hν).1]; rfl
   simp only[stSg]at he;split at he
   · rename_i c hc
     have hon:on=c:=by rw[←hq ν (.refl _ _),q1l hc]
     split at he
     · rename_i hz
       cases he;have:on.toNat=0:=by rw[hon,q1b.1 hz]; rfl
       rw[this];exact⟨by simp,fun ν' hν=>⟨cs0,by rw[ha ν' hν]; rfl,(hh ν' hν).2⟩⟩
     · rename_i hz
       refine rest ?_ he;have:¬ c=0:=fun e=>by rw[q1b.2 e]at hz; cases hz
       omega
   · split at he
     · rename_i hle
       have:=q01 h hle ν (.refl _ _);rw[ev_k,hq ν (.refl _ _)]at this;exact rest this he
     · cases he
 | .arr n ty :: r,l',q,cs,on,he,hq,h0,hs=>by
   simp only[stSg]at he;split at he
   · rename_i k hk
     obtain⟨m,h2,he⟩:=R.zak he;cases he;obtain⟨c,hc,rfl,hle⟩:=qia hk;have hle:=q01 h hle ν (.refl _ _);rw[ev_k,hq ν (.refl _ _)]at hle;obtain⟨z0,_⟩:=hs ν (.refl _ _);rw[q1l hc]at z0;obtain⟨c',rfl⟩:∃ c':Nat,c=c':=⟨c.toNat,by omega⟩
     have hh:∀ ν',Ag S.ns ν ν'→(cs.take (c' * ty.length)).length=c' * ty.length∧(∀ q w,(cs.take (c' * ty.length))[q]?=some w→okN ν' hB ty (q % ty.length) w)∧SgOk ν' hB r (cs.drop (c' * ty.length)):=fun ν' hν=>by
      obtain⟨_,c1,c2,e1,e2,e3,e4⟩:=hs ν' hν;rw[q1l hc,zcf]at e2;rw[e1,←e2,List.take_left,List.drop_left];exact⟨rfl,e3,e4⟩
     obtain⟨k1,k2⟩:=q8k h ha h2 (on:=on - (c':Int) * ty.length) (fun ν' hν=>by rw[q0f,hq ν' hν]; omega) (by omega) fun ν' hν=>(hh ν' hν).2.2
     have hl:=(hh ν (.refl _ _)).1
     have e:on.toNat=c' * ty.length+(on - (c':Int) * ty.length).toNat:=by
      have:(((c' * ty.length:Nat)):Int)=(c':Int) * ty.length:=by push_cast; rfl
      omega
     rw[zcs]at k1;refine⟨by omega,fun ν' hν=>⟨by rw[q1l hc]; exact z0,cs.take (c' * ty.length),(cs.drop (c' * ty.length)).set (on - (c':Int) * ty.length).toNat a,?_,by rw[q1l hc,zcf]; exact hl,(hh ν' hν).2.1,k2 ν' hν⟩⟩
     conv=>lhs; rw[←List.take_append_drop (c' * ty.length) cs]
     rw[List.set_append,if_neg (by omega),hl]
     congr 2;omega
   · obtain⟨_,h1,he⟩:=R.zak he
     obtain⟨u,h2,he⟩:=R.zak he;cases he;obtain⟨b1,b2⟩:=q5r h (q02 h1) hq
     have main:∀ ν',Ag S.ns ν ν'→on.toNat<cs.length∧SgOk ν' hB (.arr n u :: r) (cs.set on.toNat a):=fun ν' hν=>by
      obtain⟨z0,c1,c2,e1,e2,e3,e4⟩:=hs ν' hν;have hb:=b2 ν' hν;obtain⟨t1,t2,t3⟩:=qid h h2 hν (by rw[hq ν' hν]; exact b1)
      rw[hq ν' hν,ha ν' hν]at t3
      have hlt:on.toNat<c1.length:=by
       rw[e2]
       have:((on.toNat:Nat):Int)<(((n.ev ν'.i).toNat * ty.length:Nat):Int):=by
        push_cast
        rw[Int.toNat_of_nonneg z0,Int.toNat_of_nonneg b1]; exact hb
       exact Int.ofNat_lt.1 this
      refine⟨by rw[e1,zc8]; omega,z0,c1.set on.toNat a,c2,by rw[e1,z5z hlt],by rw[List.length_set,e2,t1],fun q w hw=>?_,e4⟩
      rw[t1]
      by_cases e:q=on.toNat
      · subst e
        rw[List.getElem?_set_self hlt]at hw;cases hw; exact t3
      · rw[List.getElem?_set_ne (Ne.symm e)]at hw
        exact t2 _ _ (e3 q w hw)
     exact⟨(main ν (.refl _ _)).1,fun ν' hν=>(main ν' hν).2⟩
end Go.K
namespace Go.K
open Go Go.J
variable{S:AS}{ν:Va}{hB:AH}{s:St}{P:Program}{o:Oper}{l:List AS}
theorem qg2{cs:List AV}{i:Nat}{a:AV}{r:List AV}(h:i<cs.length):splice (cs.set i a) (i+1) r=splice cs i (a :: r):=by
 simp only[splice,zce]
 have e1:(cs.set i a).take (i+1)=cs.take i++[a]:=by
  rw[List.take_set,List.take_succ_eq_append_getElem h,List.set_append,if_neg (by simp only[zcc]; omega),zcc,Nat.min_eq_left (Nat.le_of_lt h),Nat.sub_self]; rfl
 have e2:(cs.set i a).drop (i+1+r.length)=cs.drop (i+(r.length+1)):=by
  rw[List.drop_set,if_pos (by omega)]; congr 1; omega
 rw[e1,e2]; simp only[List.append_assoc,List.singleton_append,List.cons_append,List.nil_append]
theorem qhl{ν':Va}{cs:List AV}{q:Lin}{v:V}(h0:0≤q.ev ν'.i)(hl:(q.ev ν'.i).toNat<cs.length):∀ {kn:List (Lin×V)},KnOk ν' cs kn→KnOk ν' (cs.set (q.ev ν'.i).toNat (cv ν' v)) (knSt q v kn)
 | [],_=>fun p hp=>by
   simp only[knSt,zbs]at hp;subst hp;exact⟨h0,by rw[List.getElem?_set_self hl]⟩
 | x :: r,hk=>by
   have ih:=qhl (v:=v) h0 hl (kn:=r) fun p hp=>hk p (zbh _ hp)
   simp only[knSt];split
   · rename_i c hc
     split
     · exact ih
     · rename_i hz
       intro p hp;rcases zbm.1 hp with rfl | hp
       · obtain⟨k1,k2⟩:=hk p (zbq ..)
         refine⟨k1,?_⟩;have e:=q1l (f:=ν'.i) hc;rw[q0y]at e;have:¬ c=0:=fun e=>by rw[q1b.2 e]at hz; cases hz
         rw[List.getElem?_set_ne (by omega)]; exact k2
       · exact ih p hp
   · exact ih
theorem qg3{c0:Nat}:∀ {xs:List V} {g g':List Sg} {kn:List (Lin×V)} {q:Lin} {cs as:List AV} {on:Int},γ S ν hB s→z61 S g q xs= .ok g'→(∀ ν',Ag S.ns ν ν'→q.ev ν'.i=on)→0≤on→(∀ ν',Ag S.ns ν ν'→cvL ν' xs=as)→
 (∀ ν',Ag S.ns ν ν'→SgOk ν' hB g cs)→(∀ ν',Ag S.ns ν ν'→KnOk ν' cs kn)→on.toNat≤cs.length→
 on.toNat+as.length≤cs.length∧(∀ ν',Ag S.ns ν ν'→SgOk ν' hB g' (splice cs on.toNat as))∧ ∀ ν',Ag S.ns ν ν'→KnOk ν' (splice cs on.toNat as) (z4y q xs kn)
 | [],g,g',kn,q,cs,as,on,h,he,hq,h0,ha,hs,hk,hle=>by
   cases he;have:as=[]:=(ha ν (.refl _ _)).symm.trans (by simp only[cvL])
   subst this;have e:splice cs on.toNat []=cs:=by simp[splice]
   rw[e];exact⟨by simpa using hle,hs,hk⟩
 | x :: xs,g,g',kn,q,cs,as,on,h,he,hq,h0,ha,hs,hk,hle=>by
   obtain⟨g1,h1,he⟩:=R.zak he;have hv0:=ha ν (.refl _ _);have hv:∀ ν',Ag S.ns ν ν'→cv ν' x :: cvL ν' xs=as:=fun ν' hν=>by have:=ha ν' hν; simpa only[cvL]using this
   have hv0:cv ν x :: cvL ν xs=as:=hv ν (.refl _ _);subst hv0;have hx:∀ ν',Ag S.ns ν ν'→cv ν' x=cv ν x:=fun ν' hν=>(List.cons.inj (hv ν' hν)).1
   obtain⟨k1,k2⟩:=q8k h hx h1 hq h0 hs
   have hk':∀ ν',Ag S.ns ν ν'→KnOk ν' (cs.set on.toNat (cv ν x)) (knSt q x kn):=fun ν' hν=>by
    have:=qhl (v:=x) (q:=q) (cs:=cs) (by rw[hq ν' hν]; exact h0) (by rw[hq ν' hν]; exact k1) (hk ν' hν)
    rwa[hq ν' hν,hx ν' hν]at this
   have e1:(on+1).toNat=on.toNat+1:=by omega
   obtain⟨m1,m2,m3⟩:=qg3 (c0:=c0) (on:=on+1) (as:=cvL ν xs) h he (fun ν' hν=>by rw[q0f,hq ν' hν]) (by omega) (fun ν' hν=>(List.cons.inj (hv ν' hν)).2) k2 hk' (by rw[e1,List.length_set]; omega)
   rw[e1,qg2 k1]at m2 m3;rw[e1,List.length_set]at m1;exact⟨by simp only[zce]; omega,m2,m3⟩
theorem qn3{c:Nat}{q:Lin}{xs:List V}{S1 S2:AS}{ν1:Va}{hB1:AH}{as:List AV}{T n:Nat}{x y:Operand}{v:AV}{off:Nat}(h:γ S ν hB s)(hc:chk S c q=true)(f:Frz S ν hB s S1 ν1 hB1)(hxs:∀ ν',Ag S1.ns ν1 ν'→cvL ν' xs=as)
 (he:qy9 c q (xs,S1)= .ok S2)(hn:(P.info? T).map (·.size)=some n)(ho:o.op= .store T x y)(hd:o.dst=none)(hx:ev s.slots x=some (.ptr (some (ν.n c,off))))(hqo:∀ ν',Ag S.ns ν ν'→q.ev ν'.i=off)(hy:ev s.slots y=some v)(hvc:v.cells=as)(h1:as.all AV.one=true)(hvn:as.length=n)(hn0:0<n):OpR P o S ν hB s [S2]:=by
 obtain⟨hcl,hc0⟩:=q5n h hc;unfold qy9 at he;split at he
 · rename_i g kn hg
   obtain⟨g',h2,he⟩:=R.zak he;cases he;simp only at hg h2;obtain⟨cs,g1,g2,g3⟩:=f.g.self.hp (c,_) (q05 hg);have en:∀ ν',Ag S1.ns ν1 ν'→ν'.n c=ν.n c:=fun ν' hν=>((f.ag.trans hν f.ns) c hcl).2.1
   have hcs:∀ ν',Ag S1.ns ν1 ν'→SgOk ν' hB1 g cs∧KnOk ν' cs kn:=fun ν' hν=>by
    obtain⟨cs',g1',g2',g3'⟩:=(f.g.g ν' hν).hp (c,_) (q05 hg);simp only[en ν' hν]at g1';simp only[en ν1 (.refl _ _)]at g1;rw[g1]at g1'; cases g1';exact⟨g2',g3'⟩
   simp only[en ν1 (.refl _ _)]at g1;have hq1:∀ ν',Ag S1.ns ν1 ν'→q.ev ν'.i=(off:Int):=fun ν' hν=>hqo ν' (f.ag.trans hν f.ns)
   intro r;obtain⟨sl,h₀,nt,ds⟩:=s
   by_cases hoff:off≤cs.length
   · obtain⟨m1,m2,m3⟩:=qg3 (c0:=c) f.g h2 hq1 (by omega) hxs (fun ν' hν=>(hcs ν' hν).1) (fun ν' hν=>(hcs ν' hν).2) (by simpa using hoff)
     rw[zcf]at m1 m2 m3;refine z6i hn ho hd hx hy hvc g1 hvn (by omega) h1 rfl fun h' hb hw=>?_
     refine⟨rfl,rfl,rfl,_,zbs.2 rfl,ν1,hB1,f.ag,f.ns,f.le,?_⟩;exact q6s (i:=ν.n c) f.g hg (fun ν' hν=>by simp only[nameOf,en ν' hν,and_self]) hb fun ν' hν=>⟨_,by rw[en ν' hν]; exact hw,m2 ν' hν,m3 ν' hν⟩
   ·
    exfalso;cases xs with
    | nil=>
      have:as=[]:=(hxs ν1 (.refl _ _)).symm.trans (by simp only[cvL])
      subst this;simp at hvn; omega
    | cons w ws=>
      obtain⟨g1',h3,_⟩:=R.zak h2;have hw0:=hxs ν1 (.refl _ _)
      obtain⟨k1,_⟩:=q8k (a:=cv ν1 w) f.g (fun ν' hν=>by
       have e1:=hxs ν' hν;rw[←hw0]at e1;simp only[cvL]at e1;exact(List.cons.inj e1).1) h3 hq1 (by omega) fun ν' hν=>(hcs ν' hν).1
      simp at k1; omega
 · cases he
theorem qg4:∀ {xs:List V} {n:Lin} {ty u:List AT} {q:Lin} {cs as:List AV} {on:Int},γ S ν hB s→z62 S n ty q xs= .ok u→(∀ ν',Ag S.ns ν ν'→q.ev ν'.i=on)→0≤on→(∀ ν',Ag S.ns ν ν'→cvL ν' xs=as)→
 (∀ ν',Ag S.ns ν ν'→cs.length=(n.ev ν'.i).toNat * ty.length∧ ∀ j w,cs[j]?=some w→okN ν' hB ty (j % ty.length) w)→on.toNat≤cs.length→
 on.toNat+as.length≤cs.length∧u.length=ty.length∧ ∀ ν',Ag S.ns ν ν'→ ∀ j w,(splice cs on.toNat as)[j]?=some w→okN ν' hB u (j % u.length) w
 | [],n,ty,u,q,cs,as,on,h,he,hq,h0,ha,hc,hle=>by
   cases he;have:as=[]:=(ha ν (.refl _ _)).symm.trans (by simp only[cvL])
   subst this;have e:splice cs on.toNat []=cs:=by simp[splice]
   rw[e];exact⟨by simpa using hle,rfl,fun ν' hν=>(hc ν' hν).2⟩
 | x :: xs,n,ty,u,q,cs,as,on,h,he,hq,h0,ha,hc,hle=>by
   obtain⟨_,h1,he⟩:=R.zak he;obtain⟨ty1,h2,he⟩:=R.zak he;have hv:∀ ν',Ag S.ns ν ν'→cv ν' x :: cvL ν' xs=as:=fun ν' hν=>by have:=ha ν' hν; simpa only[cvL]using this
   have hv0:cv ν x :: cvL ν xs=as:=hv ν (.refl _ _);subst hv0;have hx:∀ ν',Ag S.ns ν ν'→cv ν' x=cv ν x:=fun ν' hν=>(List.cons.inj (hv ν' hν)).1
   obtain⟨b1,b2⟩:=q5r h (q02 h1) hq
   have hlt:on.toNat<cs.length:=by
    have hb:=b2 ν (.refl _ _);obtain⟨c1,_⟩:=hc ν (.refl _ _);rw[c1]
    have hnn:0≤n.ev ν.i:=by
     rcases Int.lt_or_le (n.ev ν.i) 0 with hn | hn
     · have:n.ev ν.i * ty.length≤0:=Int.mul_nonpos_of_nonpos_of_nonneg (by omega) (by omega)
       omega
     · exact hn
    have:((on.toNat:Nat):Int)<(((n.ev ν.i).toNat * ty.length:Nat):Int):=by
     push_cast
     rw[Int.toNat_of_nonneg hnn,Int.toNat_of_nonneg b1]; exact hb
    exact Int.ofNat_lt.1 this
   have ts:=fun ν' (hν:Ag S.ns ν ν')=>qid h h2 hν (by rw[hq ν' hν]; exact b1)
   obtain⟨t1,_,_⟩:=ts ν (.refl _ _)
   have hc':∀ ν',Ag S.ns ν ν'→(cs.set on.toNat (cv ν x)).length=(n.ev ν'.i).toNat * ty1.length∧ ∀ j w,(cs.set on.toNat (cv ν x))[j]?=some w→okN ν' hB ty1 (j % ty1.length) w:=fun ν' hν=>by
    obtain⟨_,t2,t3⟩:=ts ν' hν;rw[hq ν' hν,hx ν' hν]at t3;refine⟨by rw[List.length_set,t1]; exact(hc ν' hν).1,fun j w hw=>?_⟩
    rw[t1]
    by_cases e:j=on.toNat
    · subst e
      rw[List.getElem?_set_self hlt]at hw;cases hw; exact t3
    · rw[List.getElem?_set_ne (Ne.symm e)]at hw
      exact t2 _ _ ((hc ν' hν).2 j w hw)
   have e1:(on+1).toNat=on.toNat+1:=by omega
   obtain⟨m1,m2,m3⟩:=qg4 (on:=on+1) (as:=cvL ν xs) h he (fun ν' hν=>by rw[q0f,hq ν' hν]) (by omega) (fun ν' hν=>(List.cons.inj (hv ν' hν)).2) hc' (by rw[e1,List.length_set]; omega)
   rw[e1,qg2 hlt]at m3;rw[e1,List.length_set]at m1;exact⟨by simp only[zce]; omega,m2.trans t1,m3⟩
theorem qn2{c:Nat}{q:Lin}{xs:List V}{S1 S2:AS}{ν1:Va}{hB1:AH}{as:List AV}{T n:Nat}{x y:Operand}{v av:AV}(h:γ S ν hB s)(hc:chk S c q=true)(f:Frz S ν hB s S1 ν1 hB1)(hxs:∀ ν',Ag S1.ns ν1 ν'→cvL ν' xs=as)
 (he:qy8 c q (xs,S1)= .ok S2)(hn:(P.info? T).map (·.size)=some n)(ho:o.op= .store T x y)(hd:o.dst=none)(hx:ev s.slots x=some av)(hav:Is S ν (.elp c q) av)(hy:ev s.slots y=some v)(hvc:v.cells=as)(h1:as.all AV.one=true)(hvn:as.length=n)(hn0:0<n):OpR P o S ν hB s [S2]:=by
 obtain⟨hcl,hc0⟩:=q5n h hc;unfold qy8 at he;split at he
 · rename_i ty hg
   obtain⟨u,h2,he⟩:=R.zak he;cases he;simp only at hg h2;obtain⟨kn0,hg⟩:=q2n hg;have eA:∀ ν',Ag S1.ns ν1 ν'→ν'.a c=ν.a c∧ν'.i c=ν.i c:=fun ν' hν=>let z:=(f.ag.trans hν f.ns) c hcl; ⟨z.2.2.1,z.1⟩
   obtain⟨⟨m,k1,k2⟩,_⟩:=f.g.self.hp (c,_) (q05 hg);obtain⟨t1,t2⟩:=eA ν1 (.refl _ _);simp only[t1,t2]at k1 k2;have a0:=hav ν (.refl _ _);rcases k2 with⟨rfl,k2⟩ | ⟨i,cs,k2,k3,k4,k5⟩
   · exfalso
     cases xs with
     | nil=>
       have:as=[]:=(hxs ν1 (.refl _ _)).symm.trans (by simp only[cvL])
       subst this;simp at hvn; omega
     | cons w ws=>
       obtain⟨_,h3,_⟩:=R.zak h2;have h4:=q02 h3;simp only[inB,zbf]at h4;have e1:=q01 f.g h4.1 ν1 (.refl _ _);have e2:=q01 f.g h4.2 ν1 (.refl _ _);rw[ev_k]at e1;rw[q0f,q2b,ev_s,t2,←k1]at e2;simp at e2; omega
   · simp only[cv,k2]at a0
     have hqo:∀ ν',Ag S.ns ν ν'→q.ev ν'.i=q.ev ν.i:=fun ν' hν=>by
      have e1:=hav ν' hν;have e2:=hc0 ν' hν;have e3:=hc0 ν (.refl _ _);simp only[cv,(hν c hcl).2.2.1,k2]at e1;rw[←a0]at e1;simp only[AV.ptr.injEq,zbe,zbt,true_and]at e1;omega
     have q0:=hc0 ν (.refl _ _)
     have hcs:∀ ν',Ag S1.ns ν1 ν'→cs.length=((Lin.s c).ev ν'.i).toNat * ty.length∧ ∀ j w,cs[j]?=some w→okN ν' hB1 ty (j % ty.length) w:=fun ν' hν=>by
      obtain⟨⟨m',k1',k2'⟩,_⟩:=(f.g.g ν' hν).hp (c,_) (q05 hg);obtain⟨t1',t2'⟩:=eA ν' hν;simp only[t1',t2']at k1' k2';rcases k2' with⟨_,k2'⟩ | ⟨i',cs',k2',k3',k4',k5'⟩
      · rw[k2]at k2'; cases k2'
      · rw[k2]at k2'
        simp only[AV.slice.injEq,zbe,zbt,and_true]at k2';obtain⟨x1,x2⟩:=k2';subst x1; subst x2;rw[k3]at k3';simp only[zbe,Chunk.grow.injEq,true_and]at k3';subst k3';exact⟨by rw[ev_s,t2',k4,←k1,zcf],k5'⟩
     have hple:(q.ev ν.i).toNat≤cs.length:=by
      cases xs with
      | nil=>
        have:as=[]:=(hxs ν1 (.refl _ _)).symm.trans (by simp only[cvL])
        subst this;simp at hvn; omega
      | cons w ws=>
        obtain⟨_,h3,_⟩:=R.zak h2;obtain⟨b1,b2⟩:=q5r (on:=q.ev ν.i) f.g (q02 h3) (fun ν' hν=>hqo ν' (f.ag.trans hν f.ns))
        have:=b2 ν1 (.refl _ _);rw[ev_s,t2,←k1]at this;have e:(((m * ty.length:Nat)):Int)=(m:Int) * ty.length:=by push_cast; rfl
        omega
     obtain⟨m1,m2,m3⟩:=qg4 (on:=q.ev ν.i) f.g h2 (fun ν' hν=>hqo ν' (f.ag.trans hν f.ns)) q0 hxs hcs hple
     intro r;obtain⟨sl,h₀,nt,ds⟩:=s;refine qs5 hn ho hd (by rw[hx,←a0,zbv]) hy hvc k3 hvn (by omega) h1 rfl fun h' hw=>?_
     refine⟨rfl,rfl,rfl,_,zbs.2 rfl,ν1,hB1,f.ag,f.ns,f.le,?_⟩;refine q6s (i:=i) f.g hg (fun ν' hν=>by simp only[nameOf,(eA ν' hν).1,k2,and_self]) (qv7 hw) fun ν' hν=>?_
     obtain⟨t1',t2'⟩:=eA ν' hν;refine⟨⟨m,by rw[t2']; exact k1,.inr ⟨i,_,by rw[t1']; exact k2,by rw[m2]; exact hw.new,?_,m3 ν' hν⟩⟩,fun p hp=>by cases hp⟩
     rw[q2p (by omega),k4,m2]
 · cases he
theorem z18{T:Nat}{x y:Operand}{v w:V}{S2:AS}(h:γ S ν hB s)(ho:o.op= .store T x y)(hd:o.dst=none)(hx:evA S x= .ok v)(hy:evA S y= .ok w)(he:z3e P S T v w= .ok S2):OpR P o S ν hB s [S2]:=by
 obtain⟨n,h1,he⟩:=R.zak he;obtain⟨xs,h2,he⟩:=R.zak he;obtain⟨_,h3,he⟩:=R.zak he;have h3:=q02 h3;rw[zbf]at h3;have hn:=q4u (q0a h1);have hn0:=q0e.1 h3.2;have hl:=zbg h3.1;obtain⟨av,e1,i1⟩:=q06 h hx;obtain⟨aw,e2,i2⟩:=q06 h hy
 have hcell:∀ ν',Ag S.ns ν ν'→cvL ν' xs=aw.cells∧aw.cells.all AV.one=true:=fun ν' hν=>by
  obtain⟨k1,k2⟩:=q30 h h2 hν;rw[i2 ν' hν]at k1;exact⟨k1.symm,by rw[k1]; exact k2⟩
 have hone:=(hcell ν (.refl _ _)).2;have hlen:aw.cells.length=n:=by rw[←(hcell ν (.refl _ _)).1,q1x,hl]
 cases v with
 | ptr c q=>
   obtain⟨_,h4,he⟩:=R.zak he;obtain⟨⟨xs1,S1⟩,h5,he⟩:=R.zak he;have hc:=q02 h4;obtain⟨p1,p2,p3⟩:=qmt h hc i1;have hqo:∀ ν',Ag S.ns ν ν'→q.ev ν'.i=(((q.ev ν.i).toNat:Nat):Int):=fun ν' hν=>by rw[p2 ν' hν]; omega
   subst p1
   have fz:∃ ν1 hB1,Frz S ν hB s S1 ν1 hB1∧ ∀ ν',Ag S1.ns ν1 ν'→cvL ν' xs1=aw.cells:=by
    split at h5
    · exact q2m h h5 fun ν' hν=>(hcell ν' hν).1
    · cases h5
      exact⟨ν,hB,.refl h,fun ν' hν=>(hcell ν' hν).1⟩
   obtain⟨ν1,hB1,f1,hx1⟩:=fz;exact qn3 h hc f1 hx1 he hn ho hd e1 hqo e2 rfl hone hlen hn0
 | elp c q=>
   obtain⟨_,h4,he⟩:=R.zak he;obtain⟨⟨xs1,S1⟩,h5,he⟩:=R.zak he;obtain⟨ν1,hB1,f1,hx1⟩:=q2m h h5 fun ν' hν=>(hcell ν' hν).1
   exact qn2 h (q02 h4) f1 hx1 he hn ho hd e1 i1 e2 rfl hone hlen hn0
 | _=>cases he
end Go.K
namespace Go.K
open Go Go.J
variable{S:AS}{ν:Va}{hB:AH}{s:St}{P:Program}{o:Oper}{l:List AS}
theorem qei{x:Option Operand}{e:Option Lin}(h:γ S ν hB s)(he:K.evO S x= .ok e):∃ nl:Option Int,J.evO s.slots x=some nl∧(nl.isSome=e.isSome)∧ ∀ (d:Lin) (dv:Int) (ν':Va),Ag S.ns ν ν'→d.ev ν'.i=dv→(e.getD d).ev ν'.i=nl.getD dv:=by
 cases x with
 | none=>cases he; exact⟨none,rfl,rfl,fun d dv ν' _ hd=>hd⟩
 | some x=>
   obtain⟨p,h1,he⟩:=R.zak he;cases he;obtain⟨n,e1,i1⟩:=q3c h h1;exact⟨some n,by simp only[J.evO,e1],rfl,fun d dv ν' hν _=>i1 ν' hν⟩
theorem q6h{nl:Option Int}{dv:Nat}(h0:0≤nl.getD dv):(∀ i∈nl,0≤i)∧(nl.map Int.toNat).getD dv=(nl.getD dv).toNat:=by
 cases nl with
 | none=>exact⟨(fun i hi=>by cases hi),by simp⟩
 | some n=>exact⟨fun i hi=>by cases hi; exact h0,rfl⟩
theorem qb9{l' h' x m:Lin}(h:γ S ν hB s)(hb:qe7 S l' h' x m=true):0≤l'.ev ν.i∧l'.ev ν.i≤h'.ev ν.i∧h'.ev ν.i≤x.ev ν.i∧x.ev ν.i≤m.ev ν.i:=by
 simp only[qe7,zbf]at hb;have a:=q01 h hb.1.1.1 ν (.refl _ _);rw[ev_k]at a;exact⟨a,q01 h hb.1.1.2 ν (.refl _ _),q01 h hb.1.2 ν (.refl _ _),q01 h hb.2 ν (.refl _ _)⟩
theorem qm2{l' x:Lin}(h:γ S ν hB s)(hb:z0p S l' x=true):l'.ev ν.i=0∨l'.ev ν.i<x.ev ν.i:=by
 simp only[z0p,zbu]at hb;rcases hb with hb | hb
 · left
   split at hb
   · rename_i c hc
     rw[q1l hc]; exact q1b.1 hb
   · cases hb
 · right
   have:=q01 h hb ν (.refl _ _);rw[q0f]at this; omega
theorem z3j(h:γ S ν hB s){ν':Va}(hν:Ag S.ns ν ν'):γ S ν' hB s:=h.ag hν
theorem qm6{a:Int}{z:Nat}(h:0≤a):((z:Int) * a).toNat=a.toNat * z:=by
 obtain⟨n,rfl⟩:∃ n:Nat,a=n:=⟨a.toNat,by omega⟩
 rw[zcf,←Int.natCast_mul,zcf,Nat.mul_comm]
theorem z17{T:Nat}{x:Operand}{lo hi mx:Option Operand}{v:V}{el eh em:Option Lin}{p:V×AS}(h:γ S ν hB s)(ho:o.op= .slice T x lo hi mx)(hx:evA S x= .ok v)(h1:K.evO S lo= .ok el)(h2:K.evO S hi= .ok eh)(h3:K.evO S mx= .ok em)(he:z3d P S T v el eh em= .ok p)(hf:fin o p.1 p.2= .ok l):OpV P o S ν hB s l:=by
 obtain⟨a,e1,i1⟩:=q06 h hx;obtain⟨nl,f1,f2,f3⟩:=qei h h1;obtain⟨nh,g1,g2,g3⟩:=qei h h2;obtain⟨nm,m1,m2,m3⟩:=qei h h3;have a0:=i1 ν (.refl _ _);have zk:∀ ν':Va,(Lin.k 0).ev ν'.i=((0:Nat):Int):=fun _=>by rw[ev_k]; rfl
 cases v with
 | slo c q n m=>
   obtain⟨z,y1,he⟩:=R.zak he;obtain⟨_,y2,he⟩:=R.zak he;cases he;have y1:=q0a y1;have y2:=q02 y2;simp only[zbf,zbu]at y2;obtain⟨⟨⟨b1,b2⟩,b3⟩,b4⟩:=y2;simp only[cv]at a0;cases hT:q3y P T with
   | none=>rw[hT]at y1; cases y1
   | some e=>
   rw[hT]at y1
   have at':∀ ν',Ag S.ns ν ν'→(n.ev ν'.i).toNat=(n.ev ν.i).toNat∧(m.ev ν'.i).toNat=(m.ev ν.i).toNat∧(q.ev ν'.i).toNat=(q.ev ν.i).toNat∧ν'.n c=ν.n c:=fun ν' hν=>by
    have:=i1 ν' hν;simp only[cv]at this;rw[←a0]at this;simp only[AV.slice.injEq,zbe,zbt,Cap.exact.injEq]at this;exact⟨this.2.1,this.2.2,this.1.2,this.1.1⟩
   have bb:=fun ν' (hν:Ag S.ns ν ν')=>qb9 (z3j h hν) b1
   have ll:=fun ν' (hν:Ag S.ns ν ν')=>qm2 (z3j h hν) b2
   have qq:=fun ν' (hν:Ag S.ns ν ν')=>q01 h b3 ν' hν
   have L:=fun ν' (hν:Ag S.ns ν ν')=>f3 (.k 0) ((0:Nat):Int) ν' hν (zk ν')
   have Hd:∀ ν',Ag S.ns ν ν'→(eh.getD n).ev ν'.i=nh.getD (((n.ev ν.i).toNat:Nat):Int):=fun ν' hν=>by
    have k1:=(at' ν' hν).1;obtain⟨c1,c2,c3,c4⟩:=bb ν' hν;cases eh with
    | none=>
      have hnn:nh=none:=by cases nh with | none=>rfl | some w=>simp at g2
      rw[hnn];simp only[Option.getD_none]at c2 ⊢; omega
    | some w=>exact(g3 n (n.ev ν'.i) ν' hν rfl).trans (by cases nh with | none=>simp at g2 | some w=>rfl)
   have Md:∀ ν',Ag S.ns ν ν'→(em.getD m).ev ν'.i=nm.getD (((m.ev ν.i).toNat:Nat):Int):=fun ν' hν=>by
    have k1:=(at' ν' hν).2.1;obtain⟨c1,c2,c3,c4⟩:=bb ν' hν;cases em with
    | none=>
      have hnn:nm=none:=by cases nm with | none=>rfl | some w=>simp at m2
      rw[hnn];simp only[Option.getD_none]at c3 ⊢; omega
    | some w=>exact(m3 m (m.ev ν'.i) ν' hν rfl).trans (by cases nm with | none=>simp at m2 | some w=>rfl)
   obtain⟨c1,c2,c3,c4⟩:=bb ν (.refl _ _);have low:=ll ν (.refl _ _);rw[L ν (.refl _ _)]at c1 c2 low;rw[Hd ν (.refl _ _)]at c2 c3;rw[Md ν (.refl _ _)]at c3 c4 low;generalize hLn:nl.getD ((0:Nat):Int)=Ln at c1 c2 low;generalize hHn:nh.getD (((n.ev ν.i).toNat:Nat):Int)=Hn at c2 c3;generalize hMn:nm.getD (((m.ev ν.i).toNat:Nat):Int)=Mn at c3 c4 low;obtain⟨o1,o2⟩:=q6h (nl:=nl) (dv:=0) (by rw[hLn]; exact c1)
   obtain⟨o3,o4⟩:=q6h (nl:=nh) (dv:=(n.ev ν.i).toNat) (by rw[hHn]; omega)
   obtain⟨o5,o6⟩:=q6h (nl:=nm) (dv:=(m.ev ν.i).toNat) (by rw[hMn]; omega)
   rw[hLn]at o2; rw[hHn]at o4; rw[hMn]at o6
   have hnm:nm.isSome=true→nh.isSome=true:=fun hm=>by
    rw[g2]; rw[m2]at hm;rcases b4 with b4 | b4
    · cases em<;>simp at hm b4
    · exact b4
   refine q13 h hf (.refl h) (a:= .slice (if Mn.toNat=Ln.toNat then some (ν.n c,(q.ev ν.i).toNat) else(some (ν.n c,(q.ev ν.i).toNat)).map fun q=>(q.1,q.2+Ln.toNat * z)) (Hn.toNat - Ln.toNat) (.exact (Mn.toNat - Ln.toNat))) (fun ν' hν=>?_) rfl fun d hd hn r Q k=>?_
   · obtain⟨k1,k2,k3,k4⟩:=at' ν' hν
     have q0:=qq ν' hν;rw[ev_k]at q0;have eL:=L ν' hν;have eH:=Hd ν' hν;have eM:=Md ν' hν;rw[hLn]at eL; rw[hHn]at eH; rw[hMn]at eM;have z0:0≤(z:Int) * Ln:=Int.mul_nonneg (by omega) c1
     have zt:=qm6 (z:=z) c1;have e5:(q.ev ν'.i+(z:Int) * Ln).toNat=(q.ev ν.i).toNat+Ln.toNat * z:=by omega
     simp only[cv,q4p,q2b,q0y,eL,eH,eM,e5,k4]
     have hif:(if Mn.toNat=Ln.toNat then some (ν.n c,(q.ev ν.i).toNat) else(some (ν.n c,(q.ev ν.i).toNat)).map fun q=>(q.1,q.2+Ln.toNat * z))=some (ν.n c,(q.ev ν.i).toNat+Ln.toNat * z):=by
      split
      · have:Ln.toNat=0:=by omega
        rw[this]; simp
      · rfl
     rw[hif];congr 1
     · omega
     · congr 1; omega
   · exact qjx (q2u hT) (q4u y1) ho hd hn (by rw[e1,←a0]) f1 g1 m1 o6.symm o4.symm o2.symm o1 o3 o5 hnm (by omega) (by omega) (by omega) k
 | sym c=>
   obtain⟨_,y0,he2⟩:=R.zak he;have y0:=q02 y0;have hem:em=none:=by cases em with | none=>rfl | some w=>simp at y0
   subst hem
   have hmx:mx=none:=by
    cases mx with
    | none=>rfl
    | some w=>obtain⟨_,_,h3⟩:=R.zak h3; cases h3
   subst hmx;simp only[cv]at a0;have va:∀ ν',Ag S.ns ν ν'→ν'.a c=a:=fun ν' hν=>by have:=i1 ν' hν; simpa only[cv]using this
   have L:=fun ν' (hν:Ag S.ns ν ν')=>f3 (.k 0) ((0:Nat):Int) ν' hν (zk ν')
   have nums:∀ (w:Nat),(∀ ν',Ag S.ns ν ν'→ν'.i c=w)→qe7 S (el.getD (.k 0)) (eh.getD (.s c)) (.s c) (.s c)=true→
    ∃ Ln Hn:Nat,nl.getD ((0:Nat):Int)=Ln∧nh.getD (w:Int)=Hn∧Ln≤Hn∧Hn≤w∧ ∀ ν',Ag S.ns ν ν'→((eh.getD (.s c)).sub (el.getD (.k 0))).ev ν'.i=((Hn - Ln:Nat):Int):=fun w hw hb=>by
    have H':=fun ν' (hν:Ag S.ns ν ν')=>g3 (.s c) (w:Int) ν' hν (by rw[ev_s,hw ν' hν])
    obtain⟨c1,c2,c3,c4⟩:=qb9 h hb;rw[L ν (.refl _ _)]at c1 c2;rw[H' ν (.refl _ _)]at c2 c3;rw[ev_s,hw ν (.refl _ _)]at c3;refine⟨(nl.getD ((0:Nat):Int)).toNat,(nh.getD (w:Int)).toNat,by omega,by omega,by omega,by omega,fun ν' hν=>?_⟩
    rw[q0y,H' ν' hν,L ν' hν]; omega
   cases hS:q41 P T with
   | true=>
     rw[hS]at he2;obtain⟨_,y2,he3⟩:=R.zak he2;cases he3;have y2:=q02 y2;rw[zbf]at y2;obtain⟨b,d1,d2⟩:=q0r h.self.fa y2.1;have hb:a= .str b:=by rw[←a0,d1]
     have hw:∀ ν',Ag S.ns ν ν'→ν'.i c=b.size:=fun ν' hν=>by
      obtain⟨b',x1,x2⟩:=q0r (h.g ν' hν).fa y2.1;rw[va ν' hν,hb]at x1; cases x1; exact x2.symm
     obtain⟨Ln,Hn,q1,q2,q3,q4,q5⟩:=nums b.size hw y2.2;obtain⟨o1,o2⟩:=q6h (nl:=nl) (dv:=0) (by rw[q1]; omega)
     obtain⟨o3,o4⟩:=q6h (nl:=nh) (dv:=b.size) (by rw[q2]; omega)
     rw[q1]at o2; rw[q2]at o4;have hsz:(b.extract Ln Hn).size=Hn - Ln:=by rw[ByteArray.size_extract]; omega
     obtain⟨ν1,x1,x2⟩:=q8d (n:=Hn - Ln) (a:= .str (b.extract Ln Hn)) (f:= .str S.ns) (lo:=(eh.getD (.s c)).sub (el.getD (.k 0))) (hi:=(eh.getD (.s c)).sub (el.getD (.k 0))) h (fun ν' hν=>by rw[q5 ν' hν]; exact⟨Int.le_refl _,Int.le_refl _⟩) (fun ν' _ e1 e2=>⟨_,e2,by rw[e1,hsz]⟩)
     exact q13 h hf x1 (a:= .str (b.extract Ln Hn)) (fun ν' hν=>by simp only[cv]; exact(x2 ν' hν).2) rfl fun d hd hn r Q k=>qhq (qag hS) ho hd hn (by rw[e1,hb]) f1 g1 (by rw[o4]; rfl) (by rw[o2]; rfl) o1 o3 q3 q4 k
   | false=>
     rw[hS]at he2;obtain⟨z,y1,he3⟩:=R.zak he2;obtain⟨⟨ex,ty⟩,y3,he4⟩:=R.zak he3;obtain⟨_,y2,he5⟩:=R.zak he4;cases he5;have y1:=q0a y1;have y3:=q0a y3;have y2:=q02 y2;simp only[zbf]at y2;obtain⟨⟨b1,b2⟩,b3⟩:=y2;subst b2;have hz:=zbg b3;cases hT:q3y P T with
     | none=>rw[hT]at y1; cases y1
     | some e=>
     rw[hT]at y1
     have y3:tyOf S c S.fa=some (true,ty):=by
      split at y3
      · cases y3
      · exact y3
     obtain⟨p0,w,k0,d1,d2,d3,d4⟩:=q0o h (.refl _ _) h.self.fa y3;obtain⟨cm,rfl,d5⟩:=d3 rfl;have hb:a= .slice p0 w (.exact cm):=by rw[←a0,d1]
     have hw:∀ ν',Ag S.ns ν ν'→ν'.i c=w∧SlC ν' hB p0 w ty:=fun ν' hν=>by
      obtain⟨p',w',k',x1,x2,x3,x4⟩:=q0o h hν (h.g ν' hν).fa y3;rw[va ν' hν,hb]at x1; cases x1; exact⟨x2.symm,x4⟩
     obtain⟨Ln,Hn,q1,q2,q3,q4,q5⟩:=nums w (fun ν' hν=>(hw ν' hν).1) b1
     obtain⟨o1,o2⟩:=q6h (nl:=nl) (dv:=0) (by rw[q1]; omega)
     obtain⟨o3,o4⟩:=q6h (nl:=nh) (dv:=w) (by rw[q2]; omega)
     rw[q1]at o2; rw[q2]at o4;have hnm:nm=none:=by cases m1; rfl
     subst hnm
     obtain⟨ν1,x1,x2⟩:=q8d (n:=Hn - Ln) (a:= .slice (if cm=Ln then p0 else p0.map fun q=>(q.1,q.2+Ln * z)) (Hn - Ln) (.exact (cm - Ln))) (f:= .sl S.ns true ty) (lo:=(eh.getD (.s c)).sub (el.getD (.k 0))) (hi:=(eh.getD (.s c)).sub (el.getD (.k 0))) h (fun ν' hν=>by rw[q5 ν' hν]; exact⟨Int.le_refl _,Int.le_refl _⟩) (fun ν' hν e1 e2=>by
      refine⟨_,_,_,e2,e1.symm,fun _=>⟨_,rfl,by omega⟩,fun hpos=>?_⟩
      obtain⟨id,off,cs,r1,r2,r3,r4⟩:=(hw ν' hν).2 (by omega)
      have hne:¬ cm=Ln:=by omega
      have hmul:Ln * ty.length+(Hn - Ln) * ty.length=Hn * ty.length:=by rw[←zc7]; congr 1; omega
      have hle:Hn * ty.length≤w * ty.length:=zc2 _ q4;refine⟨id,off+Ln * z,cs,by rw[if_neg hne,r1]; rfl,r2,by rw[hz]; omega,fun j hj=>?_⟩
      obtain⟨u,u1,u2⟩:=r4 (Ln * ty.length+j) (by omega)
      refine⟨u,by rw[hz,Nat.add_assoc]; exact u1,?_⟩
      have:(Ln * ty.length+j) % ty.length=j % ty.length:=by rw[Nat.mul_comm,Nat.mul_add_mod]
      rwa[this]at u2)
     exact q13 h hf x1 (fun ν' hν=>by simp only[cv]; exact(x2 ν' hν).2) rfl fun d hd hn r Q k=>qjx (q2u hT) (q4u y1) ho hd hn (by rw[e1,hb]) f1 g1 m1 (m:=cm) rfl (by rw[o4]; rfl) (by rw[o2]; rfl) o1 o3 (fun i hi=>by cases hi) (fun hm=>by cases hm) q3 (by omega) (zbi _) k
 | ptr c q=>
   obtain⟨_,y0,he⟩:=R.zak he;obtain⟨ar,y4,he⟩:=R.zak he;obtain⟨z,y1,he⟩:=R.zak he;obtain⟨_,y2,he⟩:=R.zak he;cases he;have y0:=q02 y0;have hem:em=none:=by cases em with | none=>rfl | some w=>simp at y0
   subst hem
   have hmx:mx=none:=by
    cases mx with
    | none=>rfl
    | some w=>obtain⟨_,_,h3⟩:=R.zak h3; cases h3
   subst hmx;have y2:=q02 y2;simp only[zbf]at y2;obtain⟨⟨b1,b2⟩,b3⟩:=y2;simp only[cv]at a0
   have at':∀ ν',Ag S.ns ν ν'→(q.ev ν'.i).toNat=(q.ev ν.i).toNat∧ν'.n c=ν.n c:=fun ν' hν=>by
    have:=i1 ν' hν;simp only[cv]at this;rw[←a0]at this;simp only[AV.ptr.injEq,zbe,zbt]at this;exact⟨this.2,this.1⟩
   have L:=fun ν' (hν:Ag S.ns ν ν')=>f3 (.k 0) ((0:Nat):Int) ν' hν (zk ν')
   have H':=fun ν' (hν:Ag S.ns ν ν')=>g3 (.k ar.1) ((ar.1:Nat):Int) ν' hν (ev_k _)
   obtain⟨c1,c2,c3,c4⟩:=qb9 h b1;have low:=qm2 h b2;rw[L ν (.refl _ _)]at c1 c2 low;rw[H' ν (.refl _ _)]at c2 c3;rw[ev_k]at c3 low;generalize hLn:nl.getD ((0:Nat):Int)=Ln at c1 c2 low;generalize hHn:nh.getD ((ar.1:Nat):Int)=Hn at c2 c3;obtain⟨o1,o2⟩:=q6h (nl:=nl) (dv:=0) (by rw[hLn]; exact c1)
   obtain⟨o3,o4⟩:=q6h (nl:=nh) (dv:=ar.1) (by rw[hHn]; omega)
   rw[hLn]at o2; rw[hHn]at o4;refine q13 h hf (.refl h) (a:= .slice (some (if ar.1=Ln.toNat then(ν.n c,(q.ev ν.i).toNat) else(ν.n c,(q.ev ν.i).toNat+Ln.toNat * z))) (Hn.toNat - Ln.toNat) (.exact (ar.1 - Ln.toNat))) (fun ν' hν=>?_) rfl fun d hd hn r Q k=>?_
   · obtain⟨k3,k4⟩:=at' ν' hν
     have q0:=q01 h b3 ν' hν;rw[ev_k]at q0;have eL:=L ν' hν;have eH:=H' ν' hν;rw[hLn]at eL; rw[hHn]at eH;have z0:0≤(z:Int) * Ln:=Int.mul_nonneg (by omega) c1
     have zt:=qm6 (z:=z) c1;have e5:(q.ev ν'.i+(z:Int) * Ln).toNat=(q.ev ν.i).toNat+Ln.toNat * z:=by omega
     simp only[cv,q4p,q2b,q0y,ev_k,eL,eH,e5,k4]
     have hif:(if ar.1=Ln.toNat then(ν.n c,(q.ev ν.i).toNat) else(ν.n c,(q.ev ν.i).toNat+Ln.toNat * z))=(ν.n c,(q.ev ν.i).toNat+Ln.toNat * z):=by
      split
      · have:Ln.toNat=0:=by omega
        rw[this]; simp
      · rfl
     rw[hif];congr 1
     · omega
     · congr 1; omega
   · exact qhp (qe0 (q0a y4)) (q4u (q0a y1)) ho hd hn (by rw[e1,←a0]) f1 g1 o4.symm o2.symm o1 o3 (by omega) (by omega) k
 | _=>cases he
end Go.K
namespace Go.K
open Go Go.J
noncomputable section
theorem z1q{c:Nat}(h:Utf8.valid (c:Int)=true):c≤1114111:=by
 unfold Utf8.valid at h;simp only[zbu,zbf,decide_eq_true_eq]at h;omega
def decG(b0 b1 b2 b3:Nat)(c1 c2 c3:Bool):Nat×Nat:=
 if b0<0x80 then(b0,1)
 else if b0 / 32==6&&c1 then(if(b0 % 32) * 64+b1 % 64≥0x80 then((b0 % 32) * 64+b1 % 64,2) else(Utf8.runeError,1))
 else if b0 / 16==14&&c1&&c2 then(if(decide ((b0 % 16) * 4096+(b1 % 64) * 64+b2 % 64≥0x800)&&Utf8.valid (((b0 % 16) * 4096+(b1 % 64) * 64+b2 % 64:Nat):Int))=true then((b0 % 16) * 4096+(b1 % 64) * 64+b2 % 64,3) else(Utf8.runeError,1))
 else if b0 / 8==30&&c1&&c2&&c3 then(if(decide ((b0 % 8) * 262144+(b1 % 64) * 4096+(b2 % 64) * 64+b3 % 64≥0x10000)&&Utf8.valid (((b0 % 8) * 262144+(b1 % 64) * 4096+(b2 % 64) * 64+b3 % 64:Nat):Int))=true then((b0 % 8) * 262144+(b1 % 64) * 4096+(b2 % 64) * 64+b3 % 64,4) else(Utf8.runeError,1))
 else(Utf8.runeError,1)
theorem z4c{b0 b1 b2 b3 n:Nat}{c1 c2 c3:Bool}(h0:1≤n)(h1:c1=true→2≤n)(h2:c2=true→3≤n)(h3:c3=true→4≤n):(decG b0 b1 b2 b3 c1 c2 c3).2≤n∧(decG b0 b1 b2 b3 c1 c2 c3).1≤1114111:=by
 have re:Utf8.runeError≤1114111:=by decide
 unfold decG;split
 · exact⟨h0,by simp only; omega⟩
 split
 · rename_i k1
   simp only[zbf]at k1;split
   · exact⟨h1 k1.2,by simp only; omega⟩
   · exact⟨h0,re⟩
 split
 · rename_i k1
   simp only[zbf]at k1;split
   · exact⟨h2 k1.2,by simp only; omega⟩
   · exact⟨h0,re⟩
 split
 · rename_i k1
   simp only[zbf]at k1;split
   · rename_i k2
     rw[zbf]at k2;exact⟨h3 k1.2,z1q k2.2⟩
   · exact⟨h0,re⟩
 · exact⟨h0,re⟩
theorem decode_le{s:ByteArray}{pos:Nat}(h:pos<s.size):pos+(Utf8.decode s pos).2≤s.size∧(Utf8.decode s pos).1≤1114111:=by
 have e:Utf8.decode s pos=decG (s.get! (pos+0)).toNat (s.get! (pos+1)).toNat (s.get! (pos+2)).toNat (s.get! (pos+3)).toNat (decide (pos+1<s.size)&&(s.get! (pos+1)).toNat / 64==2) (decide (pos+2<s.size)&&(s.get! (pos+2)).toNat / 64==2) (decide (pos+3<s.size)&&(s.get! (pos+3)).toNat / 64==2):=rfl
 have hc:∀ {k:Nat} {b:Bool},(decide (pos+k<s.size)&&b)=true→k+1≤s.size - pos:=fun {k b} hk=>by
  rw[zbf]at hk;have:=of_decide_eq_true hk.1;omega
 rw[e];obtain⟨k1,k2⟩:=z4c (b0:=(s.get! (pos+0)).toNat) (b1:=(s.get! (pos+1)).toNat) (b2:=(s.get! (pos+2)).toNat) (b3:=(s.get! (pos+3)).toNat) (n:=s.size - pos) (by omega) (hc (k:=1)) (hc (k:=2)) (hc (k:=3))
 exact⟨by omega,k2⟩
section
variable{P:Program}{r:Option Nat}{o:Oper}{x:Operand}{d:Nat}{sl:List (Nat×AV)}{h₀:AH}{nt:Nat}{ds:List ADef}{Q:AExit→St→Prop}
theorem qz9{i pos:Nat}{p:ByteArray}(ho:o.op= .next x true)(hd:o.dst=some d)(hdn:d<nt)(hx:ev sl x=some (.ptr (some (i,0))))(hg:h₀.get i=some (.siter p pos))
 (h1:pos<p.size→ ∀ (c:Int) (pos':Nat),0≤c→c≤1114111→pos<pos'→pos'≤p.size→ ∀ h',But h₀ i h'→h'.get i=some (.siter p pos')→Q .normal ⟨(d,.tuple [.bool true,.int .i64 pos,.int .i32 c]) :: sl,h',nt,ds⟩)
 (h2:¬ pos<p.size→Q .normal ⟨(d,.tuple [.bool false]) :: sl,h₀,nt,ds⟩):JO P r o ⟨sl,h₀,nt,ds⟩ Q:=by
 by_cases hlt:pos<p.size
 · have hset:=AH.za4 h₀ i (.siter p (pos+(Utf8.decode p pos).2))
   obtain⟨dl1,dl2⟩:=decode_le hlt
   refine qdw (id:=i) (c:= .siter p pos) (c':= .siter p (pos+(Utf8.decode p pos).2)) (v:= .tuple [.bool true,.int .i64 pos,.int .i32 (Utf8.decode p pos).1]) (s:=⟨sl,h₀,nt,ds⟩) (ob:=fun _=> .stringIter p (pos+(Utf8.decode p pos).2))
    hd hdn (by simp[Oper.noDefer,ho]) hg rfl (fun _=>⟨zbl _,by simp[AV.sup,supL]⟩) (fun hw ρ a w hrel hreal=>⟨⟨_,hreal.2⟩,?_,fun w' hw'=>⟨hreal.1,hw'⟩⟩)
    (h1 hlt _ _ (by omega) (by omega) (by have:=qh5 p pos; omega) dl1 _ hset.but hset.new)
   have he:=q03 hrel hx;have h0:=hreal.1;simp only[execOp,ho,he,conc,zbp,Ren.addr,h0,zbv];simp[Instr.next,getObj,Sem.run,hreal.2,hlt,setObj,goInt,q04,conc]
 · exact qza ho hd hdn hx hg (fun h=>absurd h hlt) h2
end
variable{S:AS}{ν:Va}{hB:AH}{s:St}{P:Program}{o:Oper}{l:List AS}
theorem qmo{x:Operand}{c:Nat}{q:Lin}(h:γ S ν hB s)(ho:o.op= .nilCheck x)(hx:evA S x= .ok (.elp c q))(hc:qgk S c q=true)(hf:fin o (.elp c q) S= .ok l):OpV P o S ν hB s l:=by
 obtain⟨a,e1,i1⟩:=q06 h hx;obtain⟨id,off,n,k,_,ha,_,_,_⟩:=qa2 h hc i1;exact q13 h hf (.refl h) i1 rfl fun d hd hn r Q q=>by subst ha; exact q3v ho hd hn e1 q
theorem z16{T:Nat}{x:Operand}{v:V}{n:Lin}(h:γ S ν hB s)(ho:o.op= .range T x)(hx:evA S x= .ok v)(hT:q41 P T=true)(hv:(match v with
 | .sym c=>match isStr c S.fa with
   | true=>some (Lin.s c)
   | false=>none
 | .strc s=>some (.k s.size)
 | _=>none)=some n) (hf:fin o (.ptr S.ns (.k 0)) (newC S (.siter n (.k 0))).2= .ok l):OpR P o S ν hB s l:=by
 obtain⟨a,e1,i1⟩:=q06 h hx
 have hb:∃ b:ByteArray,a= .str b∧ ∀ ν',Ag S.ns ν ν'→n.ev ν'.i=b.size:=by
  have a0:=i1 ν (.refl _ _);cases v with
  | sym c=>
    simp only at hv;split at hv
    · rename_i hs
      cases hv;obtain⟨b,d1,d2⟩:=q0r h.self.fa hs;have hb:a= .str b:=by rw[←a0]; simp only[cv]; exact d1
      refine⟨b,hb,fun ν' hν=>?_⟩
      obtain⟨b',x1,x2⟩:=q0r (h.g ν' hν).fa hs;have:=i1 ν' hν;simp only[cv]at this;rw[x1,hb]at this; cases this;rw[ev_s]; exact x2.symm
    · cases hv
  | strc b=>
    cases hv;exact⟨b,by rw[←a0]; simp only[cv],fun ν' _=>ev_k _⟩
  | _=>cases hv
 obtain⟨b,rfl,hn⟩:=hb;obtain⟨d,hd,hdn,rfl⟩:=q1m hf;obtain⟨sl,h₀,nt,ds⟩:=s;intro r;refine qu0 (qag hT) ho hd (by have:=h.n; simp only at this; rw[this]; exact hdn) e1 fun i h' hw=>?_
 refine⟨rfl,rfl,rfl,_,zbs.2 rfl,ν.set S.ns 0 i .nilFunc,hB,q1o _ _ _ _ _,zcb _,.refl _,?_⟩;refine q60 (a:= .ptr (some (i,0))) (qnp h hw (k:= .siter n (.k 0)) (fun ν' hν hj=>⟨b,0,by rw[hj]; exact hw.get,(hn ν' hν).symm,by rw[ev_k]; rfl⟩) (fun t kn=>by simp) 0 .nilFunc) fun ν' hν=>?_
 have:=(hν S.ns (zc0 _)).2.1;simp only[Va.set,if_true]at this;simp only[cv,this,ev_k]; rfl
theorem z5t{x:Operand}{str:Bool}{v:V}(h:γ S ν hB s)(ho:o.op= .next x str)(hx:evA S x= .ok v)(he:z7p o S str v= .ok l):OpR P o S ν hB s l:=by
 obtain⟨a,e1,i1⟩:=q06 h hx;cases v with
 | ptr c q=>
   obtain⟨_,h1,he2⟩:=R.zak he;have h1:=q02 h1;simp only[zbf]at h1;obtain⟨⟨hstr,hcl⟩,hq⟩:=h1;have hcl:=q0e.1 hcl;subst hstr
   have q0:∀ ν':Va,q.ev ν'.i=0:=fun ν'=>by
    split at hq
    · rename_i k hk
      rw[q1l hk]; exact q1b.1 hq
    · cases hq
   have a0:=i1 ν (.refl _ _);simp only[cv,q0]at a0;split at he2
   · rename_i n p hg
     obtain⟨b,pos,g1,g2,g3⟩:=h.self.hp (c,_) (q05 hg);simp only at g1
     have hall:∀ ν',Ag S.ns ν ν'→n.ev ν'.i=b.size∧p.ev ν'.i=pos:=fun ν' hν=>by
      obtain⟨b',pos',g1',g2',g3'⟩:=(h.g ν' hν).hp (c,_) (q05 hg);simp only[(hν c hcl).2.1]at g1';rw[g1]at g1'; cases g1';exact⟨g2'.symm,g3'.symm⟩
     have out:∀ ν',Ag S.ns ν ν'→ ¬ pos<b.size→ ∀ e∈[p.sub n],0≤e.ev ν'.i:=fun ν' hν hge e he=>by
      simp only[zbs]at he;subst he;obtain⟨k1,k2⟩:=hall ν' hν;rw[q0y,k1,k2]; omega
     cases hle:S.le n p with
     | true=>
     rw[hle]at he2;obtain⟨d,hd,hdn,rfl⟩:=q1m he2;obtain⟨sl,h₀,nt,ds⟩:=s;have hdn':d<nt:=by have:=h.n; simp only at this; rw[this]; exact hdn
     intro r;refine qz9 (i:=ν.n c) ho hd hdn' (by rw[e1,←a0]; rfl) g1 (fun hlt=>?_) (fun hge=>?_)
     · exfalso
       have:=q01 h hle ν (.refl _ _);obtain⟨k1,k2⟩:=hall ν (.refl _ _);omega
     · exact⟨rfl,rfl,rfl,_,zbs.2 rfl,ν,hB,.refl _ _,zbi _,.refl _,q60 (a:= .tuple [.bool false]) (γ_cs h fun ν' hν=>out ν' hν hge) fun ν' _=>by simp only[cv,cvL,Bx.ev]⟩
     | false=>
     rw[hle]at he2;obtain⟨l1,h2,he3⟩:=R.zak he2;obtain⟨l2,h3,he4⟩:=R.zak he3;cases he4;obtain⟨d,hd,hdn,rfl⟩:=q1m h2;obtain⟨d',hd',_,rfl⟩:=q1m h3;rw[hd]at hd'; cases hd';obtain⟨sl,h₀,nt,ds⟩:=s;have hdn':d<nt:=by have:=h.n; simp only at this; rw[this]; exact hdn
     intro r;refine qz9 (i:=ν.n c) ho hd hdn' (by rw[e1,←a0]; rfl) g1 (fun hlt ch pos' c0 c1 p0 p1 h' hb hw=>?_) (fun hge=>?_)
     · obtain⟨ν1,x1,x2⟩:=q3p (lo:= .k 0) (hi:= .k 1114111) (n:=ch) h fun ν' _=>by simp only[ev_k]; exact⟨c0,c1⟩
       obtain⟨ν2,y1,y2⟩:=q3p (lo:=p.addk 1) (hi:=n) (n:=(pos':Int)) x1.g fun ν' hν=>by
        obtain⟨k1,k2⟩:=hall ν' (x1.ag.trans hν x1.ns);rw[q0f,k1,k2]; omega
       have xy:=x1.trans y1;have hgc:getL ((S.newI (.k 0) (.k 1114111)).2.newI (p.addk 1) n).2.hp c=some (.siter n p):=hg;have en:∀ ν',Ag ((S.newI (.k 0) (.k 1114111)).2.newI (p.addk 1) n).2.ns ν2 ν'→ν'.n c=ν.n c:=fun ν' hν=>((xy.ag.trans hν xy.ns) c hcl).2.1
       refine⟨rfl,rfl,rfl,_,zbr.2 (.inl (zbs.2 rfl)),ν2,hB,xy.ag,xy.ns,.refl _,?_⟩;refine q60 (a:= .tuple [.bool true,.int .i64 pos,.int .i32 ch]) (q6s (k':= .siter n ((S.newI (.k 0) (.k 1114111)).2.newI (p.addk 1) n).1) (i:=ν.n c) xy.g hgc (fun ν' hν=>by simp only[nameOf,en ν' hν,and_self]) hb fun ν' hν=>⟨b,pos',by rw[en ν' hν]; exact hw,(hall ν' (xy.ag.trans hν xy.ns)).1.symm,(y2 ν' hν).symm⟩) fun ν' hν=>?_
       have hν:Ag ((S.newI (.k 0) (.k 1114111)).2.newI (p.addk 1) n).2.ns ν2 ν':=hν;simp only[cv,cvL,Bx.ev,(hall ν' (xy.ag.trans hν xy.ns)).2,x2 ν' (y1.ag.trans hν y1.ns)]
     · refine⟨rfl,rfl,rfl,_,zbr.2 (.inr (zbs.2 rfl)),ν,hB,.refl _ _,zbi _,.refl _,q60 (a:= .tuple [.bool false]) (γ_cs h fun ν' hν e he=>?_) fun ν' _=>by simp only[cv,cvL,Bx.ev]⟩
       simp only[zbs]at he;subst he;obtain⟨k1,k2⟩:=hall ν' hν;rw[q0y,k1,k2]; omega
   · cases he2
 | _=>cases he
end
end Go.K
namespace Go.K
open Go Go.J
variable{S:AS}{ν:Va}{hB:AH}{s:St}{P:Program}{o:Oper}{l:List AS}
theorem q5c:∀ {ty:List AT} {S:AS} {ν:Va} {as:List AV},γ S ν hB s→as.length=ty.length→(∀ ν',Ag S.ns ν ν'→ ∀ j w,as[j]?=some w→okN ν' hB ty j w)→
 ∃ ν1,Ext S ν hB s (q1c S ty).2 ν1∧(∀ ν',Ag (q1c S ty).2.ns ν1 ν'→cvL ν' (q1c S ty).1=as)∧(q1c S ty).2.nt=S.nt
 | [],S,ν,as,h,hl,_=>by
   have:as=[]:=List.eq_nil_of_length_eq_zero hl;subst this;exact⟨ν,.refl h,fun ν' _=>by simp only[q1c,cvL],rfl⟩
 | t :: r,S,ν,as,h,hl,hok=>by
   cases as with
   | nil=>simp at hl
   | cons a as=>
     obtain⟨ν1,e1,i1⟩:=qff (t:=t) (a:=a) h fun ν' hν=>by
      have:=hok ν' hν 0 a rfl;simpa only[okN]using this
     obtain⟨ν2,e2,i2,n2⟩:=q5c (ty:=r) (as:=as) e1.g (by simpa using hl) fun ν' hν j w hw=>by
      have:=hok ν' (e1.ag.trans hν e1.ns) (j+1) w (by simpa using hw)
      simpa only[okN]using this
     refine⟨ν2,e1.trans e2,fun ν' hν=>?_,n2.trans (qjp S t).nt⟩
     show cv ν' (q9e S t).1 :: cvL ν' (q1c (q9e S t).2 r).1=a :: as;rw[i2 ν' hν,i1 ν' (e2.ag.trans hν e2.ns)]
theorem qxl{T z off:Nat}{vs:List V}{w:V}{cs:List AV}{ν:Va}(hw:q5k (aggQ P T z) vs=some w)(hv:cvL ν vs=(cs.drop off).take z):∃ D,P.underlying T=some D∧(P.info? T).map (·.size)=some z∧qd1 (q40 D) z cs off=some (cv ν w):=by
 rcases q43 hw with⟨ha,rfl⟩ | ⟨ha,rfl⟩
 · rcases q4k ha with⟨_,hA⟩ | ⟨h0,_⟩
   · obtain⟨D,h1,h2,h3⟩:=hA.ex
     exact⟨D,h1,h3,by simp only[qd1,h2,if_true,cv,hv]⟩
   · cases h0
 · rcases q4k ha with⟨h0,_⟩ | ⟨_,rfl,hC⟩
   · cases h0
   · obtain⟨D,h1,h2,h3⟩:=hC.ex
     refine⟨D,h1,h3,?_⟩;have:=congrArg (·[0]?) hv;simp only[cvL,List.getElem?_cons_zero]at this;rw[zcp,zcq]at this;simp only[qd1,h2];simpa using this.symm
theorem qp1{T:Nat}{x y:Operand}{vs:List V}{q:IntKind×Lin}{a:Nat×Nat}{z:Nat}{p:V×AS}(h:γ S ν hB s)(ho:o.op= .index T x y)(hx:evA S x= .ok (.agg vs))(hy:evI S y= .ok q)(hT:arrT P T=some a)(hz:szT P a.2=some z)
 (hb1:S.le (.k 0) q.2=true)(hb2:S.le (q.2.addk 1) (.k a.1)=true)(hp:z8g S vs z a.1 q.2 (aggQ P a.2 z)= .ok p)(hf:fin o p.1 p.2= .ok l):OpV P o S ν hB s l:=by
 obtain⟨av,e1,i1⟩:=q06 h hx;obtain⟨i,e2,i2⟩:=q3c h hy;have a0:=i1 ν (.refl _ _);simp only[cv]at a0;subst a0;have hvs:∀ ν',Ag S.ns ν ν'→cvL ν' vs=cvL ν vs:=fun ν' hν=>by have:=i1 ν' hν; simpa [cv]using this
 have b1:=q01 h hb1 ν (.refl _ _);have b2:=q01 h hb2 ν (.refl _ _);rw[ev_k,i2 ν (.refl _ _)]at b1;rw[q0f,ev_k,i2 ν (.refl _ _)]at b2;obtain⟨_,h1,hp2⟩:=R.zak hp;have h1:=q02 h1;rw[zbf]at h1;have hlen:=zbj h1.1;have hz0:=q0e.1 h1.2;split at hp2
 · rename_i c hc
   obtain⟨w,h2,hp3⟩:=R.zak hp2;cases hp3;have hic:i=c:=by rw[←i2 ν (.refl _ _),q1l hc]
   subst hic;have pt:=fun ν'=>qxl (ν:=ν') (cs:=cvL ν' vs) (off:=i.toNat * z) (q0a h2) (by rw[qd6,qiz])
   obtain⟨D,d1,d2,d3⟩:=pt ν;refine q13 (a:=cv ν w) h hf (.refl h) (fun ν' hν=>?_) rfl fun d hd hn r Q k=>qbs (qe0 hT) d1 d2 ho hd hn e1 e2 ⟨b1,by omega⟩ d3 k
   obtain⟨D',d1',_,d3'⟩:=pt ν';rw[d1]at d1'; cases d1';rw[hvs ν' hν,d3]at d3';exact(zbz d3').symm
 · obtain⟨ty,h2,hp3⟩:=R.zak hp2
   obtain⟨_,h3,hp4⟩:=R.zak hp3;obtain⟨w,h4,hp5⟩:=R.zak hp4;cases hp5;have h3:=q02 h3;rw[zbf]at h3;have htl:=zbg h3.1;obtain⟨n,rfl⟩:∃ n:Nat,i=n:=⟨i.toNat,by omega⟩
   have hn:n<a.1:=by omega
   have hle:n * z+z≤a.1 * z:=by
    have:(n+1) * z≤a.1 * z:=zc2 _ hn;rw[zc7,Nat.one_mul]at this; exact this
   have hasl:(((cvL ν vs).drop (n * z)).take z).length=ty.length:=by
    rw[zcc,zcs,q1x,htl]; omega
   obtain⟨ν1,x1,x2,x3⟩:=q5c (ty:=ty) (as:=((cvL ν vs).drop (n * z)).take z) h hasl fun ν' hν j u hu=>by
    rw[zcp]at hu;split at hu
    · rename_i hj
      rw[zcq]at hu
      have hu2:(cvL ν' (vs.take (a.1 * z)))[n * z+j]?=some u:=by
       rw[qd6,hvs ν' hν,zcp,if_pos (by omega)]; exact hu
      have:=q32 h hν (j:=0) rfl (zbl _) h3.2 (n * z+j) u hu2;rw[zbv,htl,Nat.mul_comm,Nat.mul_add_mod,Nat.mod_eq_of_lt hj]at this;exact this
    · cases hu
   have pt:=fun ν' (hν:Ag (q1c S ty).2.ns ν1 ν')=>qxl (ν:=ν') (cs:=cvL ν vs) (off:=n * z) (q0a h4) (x2 ν' hν)
   obtain⟨D,d1,d2,d3⟩:=pt ν1 (.refl _ _);refine q13 (a:=cv ν1 w) h hf x1 (fun ν' hν=>?_) x3 fun d hd hn' r Q k=>qbs (qe0 hT) d1 d2 ho hd hn' e1 e2 ⟨b1,by omega⟩ (by rw[zcf]; exact d3) k
   obtain⟨D',d1',_,d3'⟩:=pt ν' hν;rw[d1]at d1'; cases d1';rw[d3]at d3';exact(zbz d3').symm
end Go.K
namespace Go.K
open Go Go.J
variable{S:AS}{ν:Va}{hB:AH}{s:St}{P:Program}{o:Oper}{l:List AS}
theorem qca{c:Nat}{fa:List Fa}:∀ {n i j:Nat} {p:Nat×V},(q2t c fa n i)[j]?=some p→p.1=i+j∧findCell c (.k ((i+j:Nat):Int)) fa=some p.2
 | 0,i,j,p,h=>by simp[q2t]at h
 | n+1,i,j,p,h=>by
   simp only[q2t]at h;split at h
   · rename_i v hv
     cases j with
     | zero=>
       simp only[List.getElem?_cons_zero,zbe]at h;subst h;exact⟨rfl,by simpa using hv⟩
     | succ j=>
       simp only[List.getElem?_cons_succ]at h;obtain⟨h1,h2⟩:=qca h;exact⟨by omega,by rw[show i+(j+1)=i+1+j by omega]; exact h2⟩
   · simp at h
theorem qe9{c:Nat}{q:Lin}:∀ {L:List (Nat×V)} {l:List AS},qix o (.elp c q) S L= .ok l→ ∀ p∈L,∃ l1,fin o p.2 (S.add [q.addk (-p.1),(Lin.k p.1).sub q])= .ok l1∧ ∀ x∈l1,x∈l
 | [],_,_,p,hp=>by cases hp
 | x :: r,l,h,p,hp=>by
   obtain⟨l1,h1,h⟩:=R.zak h;obtain⟨m,h2,h⟩:=R.zak h;cases h;rcases zbm.1 hp with rfl | hp
   · exact⟨l1,h1,fun y hy=>zbr.2 (.inl hy)⟩
   · obtain⟨l2,k1,k2⟩:=qe9 h2 p hp
     exact⟨l2,k1,fun y hy=>zbr.2 (.inr (k2 y hy))⟩
theorem qp2{T:Nat}{x:Operand}{v:V}{L:List (Nat×V)}(h:γ S ν hB s)(ho:o.op= .load T x)(hx:evA S x= .ok v)(hc:q9u S v=some L)(hk:ldOk P S T v=true)(hf:qix o v S L= .ok l):OpV P o S ν hB s l:=by
 obtain⟨a,e1,i1⟩:=q06 h hx
 have spec:∃ c q,v= .elp c q∧(S.le (.k 0) q&&S.le (q.addk 1) (.k (q2t c S.fa 20 0).length))=true∧L=q2t c S.fa 20 0:=by
  cases v with
  | elp c q=>
    refine⟨c,q,rfl,?_⟩;simp only[q9u]at hc;split at hc
    · cases hb:(S.le (.k 0) q&&S.le (q.addk 1) (.k (q2t c S.fa 20 0).length))with
      | true=>rw[hb]at hc; exact⟨rfl,(zbz hc).symm⟩
      | false=>rw[hb]at hc; cases hc
    · cases hc
  | _=>cases hc
 clear hc;obtain⟨c,q,rfl,hb,rfl⟩:=spec
 · · · rw[zbf]at hb
       have hA:aggQ P T 1=some false∧chk S c q=true:=by
        unfold ldOk at hk;split at hk
        · rename_i c' q' h1 h2
          cases h2; exact⟨h1,hk⟩
        · cases hk
       obtain⟨hcl,hc0⟩:=q5n h hA.2
       have hC:Cell P T:=by
        rcases q4k hA.1 with⟨h0,_⟩ | ⟨_,_,hC⟩
        · cases h0
        · exact hC
       have q0:=hc0 ν (.refl _ _);have b2:=q01 h hb.2 ν (.refl _ _);rw[q0f,ev_k]at b2;have hlt:(q.ev ν.i).toNat<(q2t c S.fa 20 0).length:=by omega
       have hg:=zcg hlt;obtain⟨g1,g2⟩:=qca hg;obtain⟨k0,id,off,n,k,cs,k1,k2,k3⟩:=q0p h.self.fa g2;rw[ev_k,zbv]at k3;rw[zbv]at g1;have a0:=i1 ν (.refl _ _);simp only[cv,k1]at a0
       have qc:∀ ν',Ag S.ns ν ν'→q.ev ν'.i=q.ev ν.i:=fun ν' hν=>by
        have e1:=i1 ν' hν;have e2:=hc0 ν' hν;simp only[cv,(hν c hcl).2.2.1,k1]at e1;rw[←a0]at e1;simp only[AV.ptr.injEq,zbe,zbt,true_and]at e1;omega
       obtain⟨l1,f1,f2⟩:=qe9 hf _ (List.getElem_mem hlt)
       have gS:γ (S.add [q.addk (-((q2t c S.fa 20 0)[(q.ev ν.i).toNat]).1),(Lin.k ((q2t c S.fa 20 0)[(q.ev ν.i).toNat]).1).sub q]) ν hB s:=γ_cs h fun ν' hν e he=>by
        simp only[zbm,zc6,or_false]at he;rcases he with rfl | rfl
        · rw[q0f,qc ν' hν,g1]; omega
        · rw[q0y,ev_k,qc ν' hν,g1]; omega
       refine OpV.mono (l:=l1) ?_ f2;refine q13 (a:=cv ν ((q2t c S.fa 20 0)[(q.ev ν.i).toNat]).2) h f1 ⟨.refl _ _,zbi _,gS⟩ (fun ν' hν=>?_) rfl fun d hd hn r Q k4=>?_
       · have hν:Ag S.ns ν ν':=hν
         obtain⟨_,id',off',n',k',cs',k1',k2',k3'⟩:=q0p (h.g ν' hν).fa g2;rw[ev_k,zbv]at k3';rw[(hν c hcl).2.2.1,k1]at k1';cases k1';rw[k2]at k2'; cases k2';rw[k3]at k3';exact(zbz k3').symm
       · refine que.jo (T:=T) (a:=a) ⟨id,_,cs,1,a0.symm,h.le.cells k2,.inl ⟨rfl,hC,?_⟩⟩ ho hd hn e1 k4
         rw[zcf]at k3; exact k3
end Go.K
namespace Go.K
open Go Go.J
variable{S:AS}{ν:Va}{hB:AH}{s:St}{P:Program}{o:Oper}{l:List AS}
theorem z4x{k:TypeId}{kk:KeyKind}(h:kkOf P k=some kk):qbk P k=some kk:=by
 unfold kkOf at h;unfold qbk od;cases hu:P.underlying k with
 | none=>rw[hu]at h; cases h
 | some D=>
   rw[hu]at h;cases D<;>simp only at h ⊢ <;>first | exact h | (cases hl:q4a P 30 k<;>rw[hl]at h<;>simp only at h ⊢ <;>first | exact h | cases h) | cases h
theorem qwx{T:Nat}{q:KeyKind×V}(h:mapQ P T=some q):∃ k e,P.underlying T=some (.map k e)∧qbk P k=some q.1∧q8n P e=some q.2:=by
 unfold mapQ at h;split at h
 · rename_i p hp
   split at h
   · rename_i kk z h1 h2
     cases h;unfold mapT at hp;split at hp
     · rename_i k e hu
       cases hp;exact⟨k,e,hu,z4x h1,h2⟩
     · cases hp
   · cases h
 · cases h
theorem z40{k j:IntKind}(h:Nat.beq (kid k) (kid j)=true):beqK k j=true:=by rw[q6c h]; exact q47.2 rfl
theorem qt1{kk:KeyKind}{v:V}{a:AV}(h:γ S ν hB s)(hk:keyA S kk v=true)(i:Is S ν v a):keyK kk a:=by
 have ia:=i ν (.refl _ _);refine q7d ?_;cases kk with
 | int kd=>
   cases v with
   | int k e=>simp only[cv]at ia; subst ia; simp only[keyA]at hk; simp only[isKey]; exact z40 hk
   | _=>cases hk
 | str=>
   obtain⟨b,hb⟩:=q5z h hk (.refl _ _);rw[ia]at hb; subst hb; rfl
 | wide ls=>
   cases v with
   | agg vs=>simp only[cv]at ia; subst ia; exact q3m h hk
   | _=>cases hk
theorem z27{ν':Va}{agg:Bool}{ty:List AT}{ws:List V}{a:AV}(h:γ S ν hB s)(hν:Ag S.ns ν ν')(h1:agg=true→ ∃ cs,a= .agg cs)(h2:agg=false→a.cells=[a])(hl:ws.length=ty.length)(hc:q4m S ty ty ws=true)(hw:cvL ν' ws=a.cells):VOk ν' hB agg ty a:=by
 have key:∀ (q:Nat) w,a.cells[q]?=some w→okN ν' hB ty q w:=fun q w hq=>by
  have hlt:q<ty.length:=by
   have:=(zci.1 hq).1;rw[←hw,q1x,hl]at this; exact this
  have:=q32 h hν (j:=0) rfl (zbl _) hc q w (by rw[hw]; exact hq)
  rwa[zbv,Nat.mod_eq_of_lt hlt]at this
 cases agg with
 | true=>
   obtain⟨cs,rfl⟩:=h1 rfl;exact⟨cs,rfl,by rw[←hl,←q1x ν',hw]; rfl,key⟩
 | false=>
   have:=h2 rfl;refine⟨by rw[←hl,←q1x ν',hw,this]; rfl,key 0 a (by rw[this]; rfl)⟩
theorem z1z{e:Nat}{z:V}(hz:q8n P e=some z)(ht:tupV z=false)(ν:Va):(q8s z=true→ ∃ cs,cv ν z= .agg cs)∧(q8s z=false→(cv ν z).cells=[cv ν z]):=by
 refine⟨fun h=>?_,fun h=>?_⟩
 · cases z with
   | agg l=>exact⟨_,by simp only[cv]; rfl⟩
   | _=>cases h
 · rw[←q2a hz ν ν]
   cases z with
   | agg l=>cases h
   | tup l=>cases ht
   | _=>simp only[V.cells,cvL]
structure GM(P:Program)(S:AS)(ν:Va)(hB:AH)(T:Nat)(a b:AV)(c:Nat)(kk:KeyKind)(agg:Bool)(ty:List AT)(bn:Option Nat)(kt e:Nat)(zv:AV):Prop where
 hT:P.underlying T=some (.map kt e)
 z:q26 P e zv
 m:MapKey P kt (keyK kk) (keyQ kk)
 a:a= .map (some (ν.n c))
 b:keyK kk b
 lt:c<S.ns
 g:getL S.hp c=some (.mp kk agg ty bn)
 zok:∀ ν',Ag S.ns ν ν'→VOk ν' hB agg ty zv
theorem q7b{T:Nat}{v k:V}{q:Nat×KeyKind×Bool×List AT×Option Nat}{a b:AV}(h:γ S ν hB s)(he:qlq P S T v k= .ok q)(iv:Is S ν v a)(ik:Is S ν k b):∃ kt e zv,GM P S ν hB T a b q.1 q.2.1 q.2.2.1 q.2.2.2.1 q.2.2.2.2 kt e zv:=by
 unfold qlq at he;split at he
 · rename_i c
   split at he
   · rename_i kk agg ty bn hg
     obtain⟨p,h1,he⟩:=R.zak he;obtain⟨_,h2,he⟩:=R.zak he;cases he;have h2:=q02 h2;simp only[zbf,Bool.not_eq_true']at h2;obtain⟨⟨⟨⟨c1,c2⟩,c3⟩,c4⟩,c5⟩:=h2;obtain⟨kt,e,u1,u2,u3⟩:=qwx (q0a h1);have ia:=iv ν (.refl _ _);simp only[cv]at ia;have ek:=qoi c2;unfold z8t at c4;simp only[zbf]at c4;obtain⟨⟨d1,d2⟩,d3⟩:=c4;have d1:q8s p.2=agg:=by simpa using d1
     obtain⟨z1,z2⟩:=z1z u3 c5 ν;exact⟨kt,e,cv ν p.2,u1,q2w u3 ν,by rw[←ek]; exact qez u2,ia.symm,qt1 h c3 ik,q0e.1 c1,hg,fun ν' hν=>z27 h hν (fun e=>z1 (d1.trans e)) (fun e=>z2 (d1.trans e)) (zbg d2) d3 (q2a u3 ν ν')⟩
   · cases he
 · cases he
structure Ents(S:AS)(ν:Va)(hB:AH)(h:AH)(c:Nat)(kk:KeyKind)(agg:Bool)(ty:List AT)(bn:Option Nat)(es:List (AV×AV×Nat))(cl:Nat):Prop where
 get:h.get (ν.n c)=some (.map es cl)
 keys:∀ e∈es,keyK kk e.1
 vals:∀ ν',Ag S.ns ν ν'→ ∀ e∈es,VOk ν' hB agg ty e.2.1
 bn:∀ ν',Ag S.ns ν ν'→ ∀ s,bn=some s→ ∃ e∈es,(e.2.2:Int)=ν'.i s
theorem qo1{c:Nat}{kk:KeyKind}{agg:Bool}{ty:List AT}{bn:Option Nat}(h:γ S ν hB s)(hc:c<S.ns)(hg:getL S.hp c=some (.mp kk agg ty bn)):∃ es cl,Ents S ν hB s.h c kk agg ty bn es cl:=by
 obtain⟨es,cl,g1,g2,g3,g4⟩:=h.self.hp _ (q05 hg);refine⟨es,cl,g1,g2,fun ν' hν=>?_,fun ν' hν=>?_⟩<;>
 · obtain⟨es',cl',k1,k2,k3,k4⟩:=(h.g ν' hν).hp _ (q05 hg)
   rw[(hν c hc).2.1,g1]at k1;cases k1
   first | exact k3 | exact k4
theorem cellsOf{ν':Va}{agg:Bool}{ty:List AT}{x:AV}(h:VOk ν' hB agg ty x):∃ as,as.length=ty.length∧(∀ j w,as[j]?=some w→okN ν' hB ty j w)∧(agg=true→x= .agg as)∧(agg=false→as=[x]):=by
 cases agg with
 | true=>obtain⟨cs,a,b,c⟩:=h; exact⟨cs,b,c,fun _=>a,fun e=>by cases e⟩
 | false=>
   refine⟨[x],h.1.symm,fun j w hj=>?_,fun e=>(by cases e),fun _=>rfl⟩
   cases j with
   | zero=>simp at hj; subst hj; exact h.2
   | succ j=>simp at hj
theorem qfk{agg:Bool}{ty:List AT}{v:V}{x:AV}(h:γ S ν hB s)(he:ofMap agg (q1c S ty).1= .ok v)(hx:∀ ν',Ag S.ns ν ν'→VOk ν' hB agg ty x):∃ ν1,Ext S ν hB s (q1c S ty).2 ν1∧Is (q1c S ty).2 ν1 v x∧(q1c S ty).2.nt=S.nt:=by
 obtain⟨as,a1,a2,a3,a4⟩:=cellsOf (hx ν (.refl _ _))
 have hok:∀ ν',Ag S.ns ν ν'→ ∀ j w,as[j]?=some w→okN ν' hB ty j w:=fun ν' hν j w hj=>by
  obtain⟨as',b1,b2,b3,b4⟩:=cellsOf (hx ν' hν)
  have:as'=as:=by
   cases agg with
   | true=>have:=(b3 rfl).symm.trans (a3 rfl); injection this
   | false=>rw[b4 rfl,a4 rfl]
  subst this;exact b2 j w hj
 obtain⟨ν1,e1,e2,e3⟩:=q5c h a1 hok;refine⟨ν1,e1,fun ν' hν=>?_,e3⟩
 have:=e2 ν' hν;rcases q43 (q0a he)with⟨k1,rfl⟩ | ⟨k1,k2⟩
 · simp only[cv,this]
   cases agg with
   | true=>exact(a3 rfl).symm
   | false=>cases k1
 · cases agg with
   | true=>cases k1
   | false=>
     rw[k2,a4 rfl]at this;simp only[cvL]at this;injection this
theorem qxj{T:Nat}{x y:Operand}{ok:Bool}{v k:V}{p:V×AS}(h:γ S ν hB s)(ho:o.op= .lookup T x y ok)(hx:evA S x= .ok v)(hy:evA S y= .ok k)(he:qwt P S T v k= .ok p)
 (hf:(match ok with | false=>fin o p.1 p.2 | true=>fin o (.tup [p.1,p.2.newB.1]) p.2.newB.2)= .ok l):OpV P o S ν hB s l:=by
 obtain⟨q,h1,he⟩:=R.zak he;obtain⟨w,h2,he⟩:=R.zak he;cases he;obtain⟨a,f1,i1⟩:=q06 h hx;obtain⟨b,f2,i2⟩:=q06 h hy;obtain⟨kt,e,zv,gm⟩:=q7b h h1 i1 i2;obtain⟨es,cl,en⟩:=qo1 h gm.lt gm.g;have ga:=gm.a;subst ga;obtain⟨sl,h₀,nt,ds⟩:=s
 let xv:AV:=match q1w (keyQ q.2.1) b es 0 with | some p=>p.2 | none=>zv
 have hxv:∀ ν',Ag S.ns ν ν'→VOk ν' hB q.2.2.1 q.2.2.2.1 xv:=fun ν' hν=>by
  show VOk ν' hB q.2.2.1 q.2.2.2.1 (match q1w (keyQ q.2.1) b es 0 with | some p=>p.2 | none=>zv)
  split
  · rename_i p hp
    obtain⟨_,e0,k1,k2,_⟩:=q2z (j:=p.1) (v:=p.2) hp;rw[←k2]; exact en.vals ν' hν e0 (zc4 k1)
  · exact gm.zok ν' hν
 obtain⟨ν1,e1,e2,e3⟩:=qfk h h2 hxv;cases ok with
 | false=>
   refine q13 h hf e1 e2 e3 fun d hd hdn r Q hq=>?_
   exact qdt gm.hT gm.z gm.m ho hd hdn f1 f2 gm.b en.get en.keys (by
    simp only[xv];cases hq2:q1w (keyQ q.2.1) b es 0<;>simp) hq
 | true=>
   let bb:Bool:=(q1w (keyQ q.2.1) b es 0).isSome
   obtain⟨ν2,e4,e5⟩:=qbq e1.g bb;have et:=e1.trans e4;refine q13 h hf et (a:= .tuple [xv,.bool bb]) (fun ν' hν=>?_) (by rw[←e3]; rfl) fun d hd hdn r Q hq=>?_
   · have k1:=(e4.is e2) ν' hν
     have k2:=e5 ν' hν;simp only[cv,cvL,k1,k2]
   · exact qdt gm.hT gm.z gm.m ho hd hdn f1 f2 gm.b en.get en.keys (by
      simp only[xv,bb];cases hq2:q1w (keyQ q.2.1) b es 0<;>simp) hq
end Go.K
namespace Go.K
open Go Go.J
variable{S:AS}{ν:Va}{hB:AH}{s:St}{P:Program}{o:Oper}{l:List AS}
theorem qql{l:List Operand}{v:V}(h:evAL S l= .ok [v]):∃ x,l=[x]∧evA S x= .ok v:=by
 cases l with
 | nil=>cases h
 | cons x r=>
   obtain⟨w,h1,h⟩:=R.zak h;obtain⟨ws,h2,h⟩:=R.zak h;cases h;cases r with
   | nil=>exact⟨x,rfl,h1⟩
   | cons y r=>
     obtain⟨_,_,h2⟩:=R.zak h2;obtain⟨_,_,h2⟩:=R.zak h2;cases h2
theorem qd7{l:List Operand}{v w:V}(h:evAL S l= .ok [v,w]):∃ x y,l=[x,y]∧evA S x= .ok v∧evA S y= .ok w:=by
 cases l with
 | nil=>cases h
 | cons x r=>
   obtain⟨u,h1,h⟩:=R.zak h;obtain⟨ws,h2,h⟩:=R.zak h;cases h;obtain⟨y,rfl,h3⟩:=qql h2;exact⟨x,y,rfl,h1,h3⟩
theorem q6w{α:Type}{a:Array α}{l:List α}(h:a.toList=l):a=l.toArray:=by rw[←h]
theorem z5r{t:Nat}{x:Operand}{v:V}{p:V×AS}(h:γ S ν hB s)(ho:o.op= .call {callee:= .builtin .len,args:= #[x],argTypes:= #[t]})(hx:evA S x= .ok v)(he:lenA P S t v= .ok p)(hf:fin o p.1 p.2= .ok l):OpV P o S ν hB s l:=by
 cases v with
 | sym c=>
   obtain⟨_,h1,he2⟩:=R.zak he;cases he2;exact qrl h ho hx (.inl ⟨_,rfl,rfl,q02 h1⟩) hf
 | strc b=>
   obtain⟨_,h1,he2⟩:=R.zak he;cases he2;exact qrl h ho hx (.inr (.inl ⟨_,rfl,rfl,q02 h1⟩)) hf
 | slo c q n m=>
   obtain⟨_,h1,he2⟩:=R.zak he;cases he2;exact qrl h ho hx (.inr (.inr (.inl ⟨_,_,_,rfl,q02 h1⟩))) hf
 | nils=>
   obtain⟨_,h1,he2⟩:=R.zak he;cases he2;exact qrl h ho hx (.inr (.inr (.inr ⟨rfl,rfl,q02 h1⟩))) hf
 | _=>cases he
theorem qmk(P:Program):OpsV P:=by
 intro o S l ν hB s hef he h;cases ho:o.op with
 | move x=>
   simp only[opA,ho]at he;obtain⟨v,h1,he⟩:=R.zak he;exact qxk h (.inl ho) h1 he
 | assign x=>
   simp only[opA,ho]at he;obtain⟨v,h1,he⟩:=R.zak he;exact qxk h (.inr ho) h1 he
 | pick c a b=>
   simp only[opA,ho]at he;obtain⟨v,h1,he⟩:=R.zak he;exact z5u h ho h1 he
 | binOp op T x y U=>
   simp only[opA,ho]at he;obtain⟨v,h1,he⟩:=R.zak he;obtain⟨w,h2,he⟩:=R.zak he;obtain⟨p,h3,he⟩:=R.zak he;exact z8a h ho h1 h2 h3 he
 | unOp op T x=>
   cases op with
   | not=>
     simp only[opA,ho]at he;obtain⟨v,h1,he⟩:=R.zak he;exact z8d h ho h1 he
   | neg=>
     simp only[opA,ho]at he;obtain⟨v,h1,he⟩:=R.zak he;exact z8c h ho h1 he
   | _=>simp only[opA,ho]at he; cases he
 | nilCheck x=>
   simp only[opA,ho]at he;obtain⟨v,h1,he2⟩:=R.zak he;cases v with
   | ptr c q=>exact qfn h ho h1 (.inl ⟨_,_,rfl⟩) he2
   | elp c q=>
     obtain⟨_,h2,he3⟩:=R.zak he2;exact qmo h ho h1 (q02 h2) he3
   | fn f a b=>exact qfn h ho h1 (.inr ⟨_,_,_,rfl⟩) he2
   | _=>cases he2
 | extract x i=>
   simp only[opA,ho]at he;obtain⟨v,h1,he2⟩:=R.zak he;cases v with
   | tup l=>
     obtain⟨w,h2,he3⟩:=R.zak he2;exact qte h ho h1 (q0a h2) he3
   | _=>cases he2
 | makeFunc f a b=>
   cases f with
   | func f=>
     simp only[opA,ho]at he;obtain⟨v,h1,he⟩:=R.zak he;obtain⟨w,h2,he⟩:=R.zak he;exact qp3 h ho h1 h2 he
   | _=>simp only[opA,ho]at he; cases he
 | convert T U x=>
   simp only[opA,ho]at he;obtain⟨p,h1,he⟩:=R.zak he;obtain⟨D,h2,he⟩:=R.zak he;obtain⟨k,h3,he⟩:=R.zak he;exact qtd h ho h1 (q0a h2) (q0a h3) he
 | build T ps=>
   simp only[opA,ho]at he;obtain⟨vs,h1,he⟩:=R.zak he;obtain⟨z,h2,he⟩:=R.zak he;obtain⟨w,h3,he⟩:=R.zak he;exact z14 h ho h1 (q0a h2) h3 he
 | fieldAddr T x i=>
   simp only[opA,ho]at he;obtain⟨v,h1,he⟩:=R.zak he;obtain⟨q,h2,he⟩:=R.zak he;obtain⟨n,h3,he⟩:=R.zak he;obtain⟨_,h4,he2⟩:=R.zak he;have h4:=q0e.1 (q02 h4);cases v with
   | ptr c p=>
     obtain⟨_,h5,he3⟩:=R.zak he2;exact qco h ho h1 (q0a h2) (q0a h3) h4 (.inl ⟨_,_,rfl,q02 h5,rfl⟩) he3
   | elp c p=>
     obtain⟨_,h5,he3⟩:=R.zak he2;exact qco h ho h1 (q0a h2) (q0a h3) h4 (.inr ⟨_,_,rfl,q02 h5,rfl⟩) he3
   | _=>cases he2
 | field T x i=>
   simp only[opA,ho]at he;obtain⟨v,h1,he⟩:=R.zak he;obtain⟨q,h2,he⟩:=R.zak he;obtain⟨n,h3,he2⟩:=R.zak he;cases v with
   | agg vs=>
     obtain⟨_,h4,he3⟩:=R.zak he2;obtain⟨w,h5,he4⟩:=R.zak he3;exact z15 h ho h1 (q0a h2) (zbj (q02 h4)) (q0a h5) he4
   | _=>cases he2
 | indexAddr T x y=>
   simp only[opA,ho]at he;obtain⟨v,h1,he⟩:=R.zak he;obtain⟨q,h2,he2⟩:=R.zak he;cases v with
   | sym c=>
     obtain⟨e,h3,he3⟩:=R.zak he2;obtain⟨z,h4,he4⟩:=R.zak he3;obtain⟨_,h5,he5⟩:=R.zak he4;exact qao h ho h1 h2 (q0a h3) (q0a h4) (.inl ⟨_,rfl,q02 h5,rfl⟩) he5
   | slo c p n m=>
     obtain⟨e,h3,he3⟩:=R.zak he2;obtain⟨z,h4,he4⟩:=R.zak he3;obtain⟨_,h5,he5⟩:=R.zak he4;exact qao h ho h1 h2 (q0a h3) (q0a h4) (.inr ⟨_,_,_,_,rfl,q02 h5,rfl⟩) he5
   | ptr c p=>
     obtain⟨e,h3,he3⟩:=R.zak he2;obtain⟨z,h4,he4⟩:=R.zak he3;obtain⟨_,h5,he5⟩:=R.zak he4;have h5:=q02 h5;simp only[zbf]at h5;exact qan h ho h1 h2 (q0a h3) (q0a h4) h5.1.1 h5.1.2 (.inl ⟨_,_,rfl,h5.2,rfl⟩) he5
   | elp c p=>
     obtain⟨e,h3,he3⟩:=R.zak he2;obtain⟨z,h4,he4⟩:=R.zak he3;obtain⟨_,h5,he5⟩:=R.zak he4;have h5:=q02 h5;simp only[zbf]at h5;exact qan h ho h1 h2 (q0a h3) (q0a h4) h5.1.1 h5.1.2 (.inr ⟨_,_,rfl,h5.2,rfl⟩) he5
   | _=>cases he2
 | index T x y=>
   simp only[opA,ho]at he;obtain⟨v,h1,he⟩:=R.zak he;obtain⟨q,h2,he2⟩:=R.zak he;cases hT:q41 P T with
   | true=>
     rw[hT]at he2;cases v with
     | sym c=>
       obtain⟨_,h5,he3⟩:=R.zak he2;have h5:=q02 h5;simp only[zbf]at h5;exact qfm h ho h1 h2 hT (.inl ⟨_,rfl,h5.1.1,rfl⟩) h5.1.2 h5.2 he3
     | strc b=>
       obtain⟨_,h5,he3⟩:=R.zak he2;have h5:=q02 h5;simp only[zbf]at h5;exact qfm h ho h1 h2 hT (.inr ⟨_,rfl,rfl⟩) h5.1 h5.2 he3
     | _=>cases he2
   | false=>
     rw[hT]at he2;obtain⟨a,h3,he3⟩:=R.zak he2;obtain⟨z,h4,he4⟩:=R.zak he3;obtain⟨_,h5,he5⟩:=R.zak he4;have h5:=q02 h5;simp only[zbf]at h5;cases v with
     | agg vs=>
       obtain⟨p,h6,he6⟩:=R.zak he5;exact qp1 h ho h1 h2 (q0a h3) (q0a h4) h5.1 h5.2 h6 he6
     | _=>cases he5
 | load T x=>
   simp only[opA,ho]at he;obtain⟨v,h1,he2⟩:=R.zak he;cases hc:q9u S v with
   | some L=>
     rw[hc]at he2;obtain⟨_,h2,he3⟩:=R.zak he2;exact qp2 h ho h1 hc (q02 h2) he3
   | none=>
     rw[hc]at he2;obtain⟨p,h2,he3⟩:=R.zak he2;exact z5s h ho h1 h2 he3
 | slice T x lo hi mx=>
   simp only[opA,ho]at he;obtain⟨v,h1,he⟩:=R.zak he;obtain⟨a,h2,he⟩:=R.zak he;obtain⟨b,h3,he⟩:=R.zak he;obtain⟨c,h4,he⟩:=R.zak he;obtain⟨p,h5,he⟩:=R.zak he;exact z17 h ho h1 h2 h3 h4 h5 he
 | lookup T x y ok=>
   simp only[opA,ho]at he;obtain⟨v,h1,he2⟩:=R.zak he;obtain⟨k,h2,he3⟩:=R.zak he2;obtain⟨p,h3,he4⟩:=R.zak he3;exact qxj h ho h1 h2 h3 he4
 | call c=>
   cases hc:c.callee with
   | builtin b=>
     have hcall:∀ xs:List Operand,∀ ts:List TypeId,c.args.toList=xs→c.argTypes.toList=ts→o.op= .call {callee:= .builtin b,args:=xs.toArray,argTypes:=ts.toArray}:=fun xs ts h1 h2=>by
      rw[ho]; cases c; simp only at hc h1 h2; subst hc; rw[←h1,←h2]
     simp only[opA,ho]at he; have he:q6g P c o S= .ok l:=he; simp only[q6g,hc]at he;obtain⟨vs,h1,he2⟩:=R.zak he;split at he2
     · rename_i v t ht
       obtain⟨x,hx1,hx2⟩:=qql h1;obtain⟨p,h2,he3⟩:=R.zak he2;exact z5r h (hcall [x] [t] hx1 ht) hx2 h2 he3
     · rename_i k a j b t1 t2 ht
       obtain⟨x,y,hx1,hx2,hx3⟩:=qd7 h1;obtain⟨_,h3,h4⟩:=R.zak he2;obtain⟨d,h5,h6⟩:=R.zak h4;have:=q6c (q02 h3);subst this;exact qmn (mx:=false) h (hcall [x,y] [t1,t2] hx1 ht) hx2 hx3 h5 h6
     · rename_i k a j b t1 t2 ht
       obtain⟨x,y,hx1,hx2,hx3⟩:=qd7 h1;obtain⟨_,h3,h4⟩:=R.zak he2;obtain⟨d,h5,h6⟩:=R.zak h4;have:=q6c (q02 h3);subst this;exact qmn (mx:=true) h (hcall [x,y] [t1,t2] hx1 ht) hx2 hx3 h5 h6
     · simp only[effO,ho,hc]at hef; cases hef
     · simp only[effO,ho,hc]at hef; cases hef
     · cases he2
   | value f=>simp only[effO,ho,hc]at hef; cases hef
   | invoke r m=>simp only[effO,ho,hc]at hef; cases hef
 | _=>first | (simp only[opA,ho]at he; cases he; done) | (exfalso; simp only[effO,ho]at hef; cases hef; done)
end Go.K
namespace Go.K
open Go Go.J
noncomputable section
variable{S:AS}{ν:Va}{hB:AH}{s:St}{P:Program}{o:Oper}{l:List AS}
theorem z5m{ν:Va}{hB:AH}{ty:List AT}{j:Nat}{w:AV}(h:okN ν hB ty j w):w.one=true:=by
 obtain⟨t,_,h⟩:=qhv h;cases t with
 | int a b=>obtain⟨n,rfl,_⟩:=h; rfl
 | bool=>obtain⟨b,rfl⟩:=h; rfl
 | str=>obtain⟨b,rfl,_⟩:=h; rfl
 | sl a b x t=>obtain⟨p,n,k,rfl,_⟩:=h; rfl
def CT(ν:Va)(hB:AH)(ty:List AT)(cs:List AV):Prop:= ∀ q w,cs[q]?=some w→okN ν hB ty (q % ty.length) w
theorem CT.one{ν:Va}{hB:AH}{ty:List AT}{cs:List AV}(h:CT ν hB ty cs):cs.all AV.one=true:=by
 rw[zc1];intro w hw;obtain⟨q,hq⟩:=List.mem_iff_getElem?.1 hw;exact z5m (h q w hq)
theorem CT.nil{ν:Va}{hB:AH}{ty:List AT}:CT ν hB ty []:=fun q w h=>by simp at h
theorem CT.app{ν:Va}{hB:AH}{ty:List AT}{a b:List AV}{n:Nat}(ha:CT ν hB ty a)(hb:CT ν hB ty b)(hl:a.length=n * ty.length):CT ν hB ty (a++b):=fun q w hq=>by
 rcases Nat.lt_or_ge q a.length with c | c
 · rw[zck c]at hq; exact ha q w hq
 · rw[zcl c]at hq
   have:=hb _ w hq;rwa[hl,Nat.mul_comm,Nat.sub_mul_mod (by rw[Nat.mul_comm,←hl]; exact c)]at this
theorem CT.take{ν:Va}{hB:AH}{ty:List AT}{a:List AV}{m:Nat}(ha:CT ν hB ty a):CT ν hB ty (a.take m):=fun q w hq=>by
 rw[zcp]at hq;split at hq
 · exact ha q w hq
 · cases hq
theorem CT.splice{ν:Va}{hB:AH}{ty:List AT}{a b:List AV}{m:Nat}(ha:CT ν hB ty a)(hb:CT ν hB ty b)(hm:m * ty.length+b.length≤a.length)(hbl:∃ k,b.length=k * ty.length):CT ν hB ty (splice a (m * ty.length) b):=by
 obtain⟨k,hk⟩:=hbl;unfold J.splice;refine CT.app (n:=m+k) (CT.app (n:=m) ha.take hb (by rw[zcc]; omega)) (fun q w hq=>?_) (by rw[zc8,zcc,hk,zc7]; omega)
 rw[zcq]at hq;have:=ha _ w hq;rwa[hk,←zc7,Nat.add_comm,Nat.mul_comm,Nat.add_mul_mod_self_left]at this
theorem CT.sub(h:γ S ν hB s){ν':Va}(hν:Ag S.ns ν ν'){a b:List AT}(hs:q3q S a b=true){cs:List AV}(hc:CT ν' hB a cs):CT ν' hB b cs:=fun q w hq=>by
 have:=q12 h hν hs (hc q w hq);rwa[q1q hs]at this
structure Els(S:AS)(ν:Va)(hB:AH)(s:St)(z:Nat)(n:Lin)(ty:List AT)(m:Nat)(new:List AV):Prop where
 n:∀ ν',Ag S.ns ν ν'→n.ev ν'.i=m
 len:new.length=m * z
 ct:0<m→ty.length=z∧ ∀ ν',Ag S.ns ν ν'→CT ν' hB ty new
theorem Els.incl{z:Nat}{n:Lin}{u w:List AT}{m:Nat}{new:List AV}(h:γ S ν hB s)(e:Els S ν hB s z n u m new)(hi:qgm S n u w=true):∀ ν',Ag S.ns ν ν'→CT ν' hB w new:=fun ν' hν=>by
 unfold qgm at hi;rw[zbu]at hi;rcases zc5 m with rfl | hm
 · have:new=[]:=List.eq_nil_of_length_eq_zero (by rw[e.len]; simp)
   rw[this]; exact .nil
 · rcases hi with hi | hi
   · exact(e.ct hm).2 ν' hν |>.sub h hν hi
   · have:=q01 h hi ν' hν
     rw[e.n ν' hν,ev_k]at this;omega
theorem q75{z:Nat}{y:V}{p:Lin×List AT}{a:AV}(h:γ S ν hB s)(he:qef S z y= .ok p)(i:Is S ν y a):
 ∃ q m c2 new,a= .slice q m c2∧Els S ν hB s z p.1 p.2 m new∧(0<m→q0g s.h m z (.slice q m c2)=some new):=by
 have ia:=i ν (.refl _ _);cases y with
 | nils=>
   cases he;simp only[cv]at ia;exact⟨_,_,_,[],ia.symm,⟨fun ν' _=>by rw[ev_k]; rfl,by simp,fun h0=>absurd h0 (by omega)⟩,fun h0=>absurd h0 (by omega)⟩
 | sym c=>
   simp only[qef]at he;simp only[cv]at ia;split at he
   · rename_i ty hb
     obtain⟨_,h1,he⟩:=R.zak he;cases he;have h1:=q02 h1;rw[zbf]at h1;have hl:=zbg h1.1;obtain⟨kn0,hm⟩:=q2n hb;have hm:=q05 hm;have key:∀ ν',Ag S.ns ν ν'→ν'.a c=a:=fun ν' hν=>i ν' hν
     obtain⟨⟨n,n1,n2⟩,_⟩:=h.self.hp _ hm
     have hn:∀ ν',Ag S.ns ν ν'→(Lin.s c).ev ν'.i=n:=fun ν' hν=>by
      rw[ev_s];obtain⟨⟨n',m1,m2⟩,_⟩:=(h.g ν' hν).hp _ hm;simp only[key ν' hν]at m2;simp only[ia]at n2
      have:n'=n:=by
       rcases m2 with⟨rfl,e⟩ | ⟨i1,cs1,e,_⟩<;>rcases n2 with⟨rfl,e'⟩ | ⟨i2,cs2,e',_⟩<;>rw[e]at e'<;>cases e'<;>rfl
      rw[←this]; exact m1.symm
     rcases n2 with⟨rfl,e⟩ | ⟨i1,cs,e,g1,g2,g3⟩
     · rw[ia]at e
       exact⟨_,_,_,[],e,⟨hn,by simp,fun h0=>absurd h0 (by omega)⟩,fun h0=>absurd h0 (by omega)⟩
     · rw[ia]at e
       subst e;refine⟨_,n,_,cs,rfl,⟨hn,by rw[g2,hl],fun _=>⟨hl,fun ν' hν=>?_⟩⟩,fun h0=>?_⟩
       · obtain⟨⟨n',m1,m2⟩,_⟩:=(h.g ν' hν).hp _ hm
         simp only[key ν' hν]at m2;rcases m2 with⟨_,e⟩ | ⟨i2,cs2,e,k1,k2,k3⟩
         · cases e
         · cases e
           rw[g1]at k1;cases k1;exact k3
       · have:s.h.cells i1=some cs:=by simp[AH.cells,g1]
         simp only[q0g,this,zbv,List.drop_zero];rw[if_pos (by rw[g2,hl]; exact zbi _),List.take_of_length_le (by rw[g2,hl]; exact zbi _)]
   · obtain⟨q,h1,he⟩:=R.zak he
     obtain⟨_,h2,he⟩:=R.zak he;cases he;have h2:=q02 h2;simp only[zbf]at h2;have hl:=zbg h2.1.1;have hc:=q0e.1 h2.2;obtain⟨p0,n,k,e1,e2,_,e4⟩:=q0o h (.refl _ _) h.self.fa (q0a h1);have hn:∀ ν',Ag S.ns ν ν'→(Lin.s c).ev ν'.i=n:=fun ν' hν=>by rw[ev_s,(hν c hc).1,e2]
     rw[ia]at e1;subst e1;rcases zc5 n with rfl | hn0
     · exact⟨_,_,_,[],rfl,⟨hn,by simp,fun h0=>absurd h0 (by omega)⟩,fun h0=>absurd h0 (by omega)⟩
     · obtain⟨id,off,cs,rfl,k1,k2,k3⟩:=e4 hn0
       have hcell:s.h.cells id=some cs:=h.le.cells k1;refine⟨_,n,_,(cs.drop off).take (n * z),rfl,⟨hn,by rw[zcc,zcs]; rw[hl]at k2; omega,fun _=>⟨hl,fun ν' hν=>?_⟩⟩,fun _=>?_⟩
       · obtain⟨p',n',k',e1',e2',_,e4'⟩:=q0o h hν (h.g ν' hν).fa (q0a h1)
         rw[(hν c hc).2.2.1,ia]at e1';cases e1';obtain⟨id',off',cs',e,k1',k2',k3'⟩:=e4' hn0;cases e;rw[k1]at k1'; cases k1';intro j w hj;rw[zcp]at hj;split at hj
         · rename_i hlt
           rw[zcq]at hj;obtain⟨w',x1,x2⟩:=k3' j (by rw[hl]; exact hlt)
           rw[x1]at hj; cases hj;exact x2
         · cases hj
       · simp only[q0g,hcell]
         rw[if_pos (by rw[←hl]; exact k2)]
 | slo c q n m0=>
   simp only[qef]at he;split at he
   · rename_i m ty kn hg
     obtain⟨_,h1,he⟩:=R.zak he;cases he;have h1:=q02 h1;simp only[zbf]at h1;obtain⟨⟨⟨⟨⟨c1,c2⟩,c3⟩,c4⟩,c5⟩,c6⟩:=h1;have hl:=zbg c1;have hc:=q0e.1 c6;have b4:=fun ν' hν=>q01 h c4 ν' hν
     have b5:=fun ν' hν=>q01 h c5 ν' hν
     have q0:∀ f,q.ev f=0:=fun f=>by
      unfold isK0 at c3;split at c3
      · rename_i x hx; rw[q1l hx,q1b.1 c3]
      · cases c3
     obtain⟨cs,g1,g2,g3⟩:=h.self.hp _ (q05 hg);simp only[cv,q0]at ia
     have hn:∀ ν',Ag S.ns ν ν'→n.ev ν'.i=((n.ev ν.i).toNat:Nat):=fun ν' hν=>by
      have e:=i ν' hν;simp only[cv,q0]at e;rw[←ia]at e;injection e with _ e2 _;have:=b4 ν' hν;rw[ev_k]at this;omega
     obtain⟨m0',c1',c2',e1,e2,e3,e4⟩:=g2;simp only[SgOk]at e4;subst e4;rw[zcr]at e1;subst e1;have bb:=b5 ν (.refl _ _);have b0:=b4 ν (.refl _ _);rw[ev_k]at b0
     have hle:(n.ev ν.i).toNat * z≤cs.length:=by
      rw[e2,hl]; exact zc2 z (by omega)
     refine⟨_,_,_,cs.take ((n.ev ν.i).toNat * z),ia.symm,⟨hn,by rw[zcc]; omega,fun _=>⟨hl,fun ν' hν=>?_⟩⟩,fun _=>?_⟩
     · obtain⟨cs',g1',g2',_⟩:=(h.g ν' hν).hp _ (q05 hg)
       rw[(hν c hc).2.1,g1]at g1';cases g1';obtain⟨_,d1,d2,f1,f2,f3,f4⟩:=g2';simp only[SgOk]at f4;subst f4;rw[zcr]at f1;subst f1;exact CT.take f3
     · have:s.h.cells (ν.n c)=some cs:=by simp[AH.cells,g1]
       simp only[q0g,Int.toNat_zero,this,zbv,List.drop_zero];rw[if_pos hle]
   · cases he
 | _=>simp only[qef]at he; cases he
end
end Go.K
namespace Go.K
open Go Go.J
variable{S:AS}{ν:Va}{hB:AH}{s:St}{P:Program}{o:Oper}{l:List AS}
theorem qty{r:Option Nat}{sl:List (Nat×AV)}{h₀:AH}{nt:Nat}{ds:List ADef}{Q:AExit→St→Prop}{d:Nat}{x y:Operand}{t t2 e:TypeId}{esz by_ id n0:Nat}{z:AV}{q:Option (Nat×Nat)}{c2:Cap}{cs:List AV}(ha:AppT P t t2 e esz by_ z)
 (ho:o.op= .call {callee:= .builtin .append,args:= #[x,y],argTypes:= #[t,t2]})(hd:o.dst=some d)(hdn:d<nt)
 (hx:ev sl x=some (.slice (some (id,0)) n0 (.grow 0)))(hy:ev sl y=some (.slice q 0 c2))(hg:h₀.get id=some (.grow esz cs))(hes:0<esz)(hroom:n0 * esz≤cs.length)
 (h:Q .normal ⟨(d,.slice (some (id,0)) n0 (.grow 0)) :: sl,h₀,nt,ds⟩):JO P r o ⟨sl,h₀,nt,ds⟩ Q:=
 q0t hd hdn (by simp[Oper.noDefer,ho]) (fun hw=>q1i hw hx) (fun ρ a w hrel=>by
  obtain⟨_,e',arr,_,hsz,hlen,_⟩:=hrel.2.2.1 id _ hg
  have hcap:n0≤ρ.cap id:=by
   have:n0 * esz≤ρ.cap id * esz:=by omega
   exact Nat.le_of_mul_le_mul_right this hes
  obtain⟨cst,hcst⟩:=q10 (P:=P) ho a.eval w
  have hrun:=run_append_fits (ty:=o.type) ha (w:=w) (w':=w) (n0:=n0) (n:=0) (cap:=ρ.cap id - 0) (base:=some (ρ.addr (id,0))) (x:=conc ρ (.slice q 0 c2)) (new:= #[]) (q2y w) qeo (by omega)
   (by simp[storeCells])
  rw[hcst];simp only[builtin,List.map_toArray,zc3,List.map_nil,q03 hrel hx,q03 hrel hy,conc,Cap.conc,zbp,zbx]at hrun ⊢;rw[hrun];rfl) h
theorem qb8{T U z:Nat}(h:appQ P T U=some z):∃ e by_ zv,AppT P T U e z by_ zv:=by
 unfold appQ at h;split at h
 · rename_i e he
   split at h
   · rename_i i zv D hi hz hD
     split at h
     · rename_i hb
       cases h;simp only[zbf]at hb;refine⟨e,i.bytes,cv ⟨fun _=>0,fun _=>0,fun _=> .nilFunc,fun _=>none⟩ zv,q2u he,⟨D,hD,fun k hk=>?_⟩,by rw[hi]; rfl,q2w hz _,?_,zbj hb.2⟩
       · subst hk; simp[qx7]at hb
       · rw[←q2a hz _ ⟨fun _=>0,fun _=>0,fun _=> .nilFunc,fun _=>none⟩,q1x]; exact zbg hb.1.2
     · cases h
   · cases h
 · cases h
theorem qgh{n:Lin}{ty:List AT}{m:Nat}{v':AV}{h':AH}(h:γ S ν hB s)(hn:∀ ν',Ag S.ns ν ν'→n.ev ν'.i=m)(l:Le hB h')
 (hold:∀ ν',Ag S.ns ν ν'→ ∀ p∈S.hp,∀ i ck,nameOf ν' p=some i→s.h.get i=some ck→h'.get i=some ck)
 (hv:(m=0∧v'= .slice none 0 (.exact 0))∨ ∃ i cs,v'= .slice (some (i,0)) m (.grow 0)∧h'.get i=some (.grow ty.length cs)∧cs.length=m * ty.length∧(∀ ν',Ag S.ns ν ν'→CT ν' hB ty cs)∧(hB.get i=none∧hB.next≤i)∧
   ∀ ν',Ag S.ns ν ν'→ ∀ p∈S.hp,nameOf ν' p≠some i):γ (newB S n ty).2 (ν.set S.ns m 0 v') hB ⟨s.slots,h',s.n,s.defs⟩:=by
 refine⟨h.n,l,fun ν' hg=>?_⟩
 have hg0:Ag S.ns ν ν':=(q1o ν S.ns m 0 v').trans hg (zcb _);obtain⟨g1,g2,g3,g4,g5,g6,g7⟩:=h.g ν' hg0;obtain⟨x1,x2,x3,x4⟩:=hg S.ns (zc0 _);simp only[Va.set,if_true]at x1 x2 x3 x4
 have nm:∀ i,nameOf ν' (S.ns,Ck.bld ty [])=some i→ ∃ cs,v'= .slice (some (i,0)) m (.grow 0)∧h'.get i=some (.grow ty.length cs)∧(hB.get i=none∧hB.next≤i)∧ ∀ p∈S.hp,nameOf ν' p≠some i:=fun i hi=>by
  simp only[nameOf,x3]at hi;rcases hv with⟨_,rfl⟩ | ⟨j,cs,rfl,k1,k2,k3,k4,k5⟩
  · cases hi
  · cases hi; exact⟨cs,rfl,k1,k4,k5 ν' hg0⟩
 refine⟨g1,fun e he=>?_,g3,fun p hp=>?_,?_,fun p hp j hj=>?_,g7⟩
 · refine Tr.zb5 g2 (fun e he=>?_) e he
   simp only[zbm,zc6,or_false]at he;rcases he with rfl | rfl | rfl
   · rw[ev_s,x1]; omega
   · rw[q0y,ev_s,hn ν' hg0,x1]; omega
   · rw[q0y,ev_s,hn ν' hg0,x1]; omega
 · rcases zbm.1 hp with rfl | hp
   · refine⟨⟨m,by rw[x1],?_⟩,fun p hp=>by cases hp⟩
     rcases hv with⟨rfl,rfl⟩ | ⟨j,cs,rfl,k1,k2,k3,k4,k5⟩
     · exact .inl ⟨rfl,x3⟩
     · exact .inr ⟨j,cs,x3,k1,k2,k3 ν' hg0⟩
   · refine(g4 p hp).congr fun j hj=>?_
     obtain⟨ck,hck⟩:=(g4 p hp).some hj;exact(hold ν' hg0 p hp j ck hj hck).trans hck.symm
 · refine zco.2 ⟨fun p hp j hj hj2=>?_,g5⟩
   obtain⟨_,_,_,_,k⟩:=nm j hj;exact k p hp hj2
 · rcases zbm.1 hp with rfl | hp
   · exact(nm j hj).choose_spec.2.2.1
   · exact g6 p hp j hj
theorem qj7:∀ {L:List (V×AS)} {l:List AS} {p:V×AS},finL o L= .ok l→p∈L→ ∃ l1,fin o p.1 p.2= .ok l1∧ ∀ x∈l1,x∈l
 | [],l,p,_,hp=>by cases hp
 | q :: r,l,p,h,hp=>by
   obtain⟨l1,h1,h⟩:=R.zak h;obtain⟨l2,h2,h⟩:=R.zak h;cases h;rcases zbm.1 hp with rfl | hp
   · exact⟨l1,h1,fun x hx=>List.mem_append_left _ hx⟩
   · obtain⟨l3,h3,h4⟩:=qj7 h2 hp
     exact⟨l3,h3,fun x hx=>List.mem_append_right _ (h4 x hx)⟩
theorem qa1{v:V}{S1:AS}{L:List (V×AS)}{ν1:Va}{hB1:AH}{a:AV}{h':AH}{sl:List (Nat×AV)}{nt:Nat}{ds:List ADef}(hL:finL o L= .ok l)(hp:(v,S1)∈L)(hag:Ag S.ns ν ν1)(hns:S.ns≤S1.ns)(hle:Le hB hB1)(g:γ S1 ν1 hB1 ⟨sl,h',nt,ds⟩)(i:Is S1 ν1 v a){d:Nat}(hd:o.dst=some d):
 ∃ S'∈l,Go S ν hB S' ⟨(d,a) :: sl,h',nt,ds⟩:=by
 obtain⟨l1,h1,h2⟩:=qj7 hL hp;obtain⟨d',hd',hn,rfl⟩:=q1m h1;rw[hd]at hd'; cases hd';exact⟨_,h2 _ (zbs.2 rfl),ν1,hB1,hag,hns,hle,q60 g i⟩
theorem qqp{v:V}{S1:AS}{L:List (V×AS)}(hL:finL o L= .ok l)(hp:(v,S1)∈L):∃ d,o.dst=some d∧d<S1.nt:=by
 obtain⟨l1,h1,h2⟩:=qj7 hL hp;obtain⟨d',hd',hn,rfl⟩:=q1m h1;exact⟨d',hd',hn⟩
theorem qwi{z:Nat}{n0 n:Lin}{u ty:List AT}{c:Option Nat}{p:V×AS}{m0 m:Nat}{old new:List AV}(h:γ S ν hB s)(he:q8x S z n0 n u ty c= .ok p)(e0:Els S ν hB s z n0 u m0 old)(e1:Els S ν hB s z n ty m new):
 ∃ w,p=newB (match c with | some c=>{S with hp:=rmL S.hp c} | none=>S) (n0.add n) w∧w.length=z∧(∀ ν',Ag S.ns ν ν'→CT ν' hB w (old++new))∧(∀ ν',Ag S.ns ν ν'→CT ν' hB w old)∧m0+m≤4294967295∧ ∀ ν',Ag S.ns ν ν'→(n0.add n).ev ν'.i=((m0+m:Nat):Int):=by
 obtain⟨w,h1,he⟩:=R.zak he;obtain⟨_,h2,he⟩:=R.zak he;cases he;have h2:=q02 h2;simp only[zbf]at h2;obtain⟨⟨⟨⟨⟨c1,c2⟩,c3⟩,c4⟩,c5⟩,c6⟩:=h2;have hl:=zbg c1;have hs:=fun ν' hν=>qwm h c6 ν' hν
 refine⟨w,rfl,hl,fun ν' hν=>(e0.incl h c2 ν' hν).app (n:=m0) (e1.incl h c3 ν' hν) (by rw[e0.len,hl]),e0.incl h c2,?_,fun ν' hν=>?_⟩
 · have:=hs ν (.refl _ _)
   rw[q4p,e0.n _ (.refl _ _),e1.n _ (.refl _ _),ev_k]at this;omega
 · rw[q4p,e0.n _ hν,e1.n _ hν]; omega
theorem q9d{S':AS}{n:Lin}{w:List AT}{m:Nat}{v':AV}:Is (newB S' n w).2 (ν.set S'.ns m 0 v') (newB S' n w).1 v':=fun ν' hν=>by
 have:=(hν S'.ns (zc0 _)).2.2.1;simp only[Va.set,if_true]at this;simp only[newB,cv]; exact this
theorem z3w{x y:Operand}{t u z:Nat}{n:Lin}{ty:List AT}{p:V×AS}{L:List (V×AS)}(h:γ S ν hB s)(ho:o.op= .call {callee:= .builtin .append,args:= #[x,y],argTypes:= #[t,u]})(hq:appQ P t u=some z)
 (hx:evA S x= .ok .nils){a:AV}(hy:ev s.slots y=some a){q:Option (Nat×Nat)}{m:Nat}{c2:Cap}{new:List AV}(ha:a= .slice q m c2)(e1:Els S ν hB s z n ty m new)(hc:0<m→q0g s.h m z (.slice q m c2)=some new)
 (he:q8x S z (.k 0) n [] ty none= .ok p)(hf:finL o L= .ok l)(hp:p∈L):OpR P o S ν hB s l:=by
 obtain⟨e,by_,zv,at_⟩:=qb8 hq;obtain⟨w,rfl,hl,k1,k2,k3,k4⟩:=qwi h he (m0:=0) (old:=[]) ⟨fun ν' _=>by rw[ev_k]; rfl,by simp,fun h0=>absurd h0 (by omega)⟩ e1
 obtain⟨ax,f1,i1⟩:=q06 h hx;have:=i1 ν (.refl _ _);simp only[cv]at this;subst this;subst ha;obtain⟨d,hd,hn⟩:=qqp hf hp;obtain⟨sl,h₀,nt,ds⟩:=s;have hdn:d<nt:=by have e0:=h.n; simp only at e0; rw[e0]; exact hn
 intro r;rcases zc5 m with rfl | hm
 · refine qgg at_ ho hd hdn f1 hy (zbi _) ?_
   exact⟨rfl,rfl,rfl,qa1 hf hp (q1o _ _ _ _ _) (zcb _) (.refl _) (qgh h k4 h.le (fun _ _ _ _ _ _ _ hg=>hg) (.inl ⟨rfl,rfl⟩)) q9d hd⟩
 · refine qb6 fun hw=>qgc at_ ho hd hdn f1 hy (old:=[]) (by simp[q0g]) (hc hm) (by omega) (by omega) rfl fun i h' ad=>?_
   have nw:=New.of ad hw.2.1;refine⟨rfl,rfl,rfl,qa1 hf hp (q1o _ _ _ _ _) (zcb _) (.refl _) (qgh h k4 (h.le.trans nw.le) (fun _ _ _ _ _ _ _ hg=>nw.le.get _ _ hg) (.inr ⟨i,new,by rw[zbv],by rw[hl]; exact nw.get,by rw[e1.len,hl,zbv],k1,?_,fun ν' hν p hp hj=>?_⟩)) q9d hd⟩
   · refine⟨?_,zbo h.le.next nw.ge⟩
     cases hg:hB.get i with
     | none=>rfl
     | some ck=>have:=h.le.get _ _ hg; simp only at this; rw[nw.free]at this; cases this
   · obtain⟨ck,hck⟩:=((h.g ν' hν).hp p hp).some hj
     simp only at hck;rw[nw.free]at hck; cases hck
theorem z3v{x y:Operand}{t u z c:Nat}{n:Lin}{ty u0:List AT}{p:V×AS}{L:List (V×AS)}(h:γ S ν hB s)(ho:o.op= .call {callee:= .builtin .append,args:= #[x,y],argTypes:= #[t,u]})(hq:appQ P t u=some z)
 (hx:evA S x= .ok (.sym c))(hb:qbi S c=some u0)(hc0:(Nat.beq u0.length z&&Nat.blt 0 z&&Nat.blt c S.ns)=true){a:AV}(hy:ev s.slots y=some a){q:Option (Nat×Nat)}{m:Nat}{c2:Cap}{new:List AV}(ha:a= .slice q m c2)(e1:Els S ν hB s z n ty m new)(hc:0<m→q0g s.h m z (.slice q m c2)=some new)
 (he:q8x S z (.s c) n u0 ty (some c)= .ok p)(hf:finL o L= .ok l)(hp:p∈L):OpR P o S ν hB s l:=by
 obtain⟨e,by_,zv,at_⟩:=qb8 hq;obtain⟨ax,f1,i1⟩:=q06 h hx
 obtain⟨q0,n0,c0,old,rfl,e0,hold⟩:=q75 (z:=z) (p:=(.s c,u0)) h (y:= .sym c) (by
  simp only[qef,hb];simp only[zbf]at hc0;simp only[need,hc0.1.1,hc0.1.2,Bool.and_self,R.bind]) i1
 simp only[zbf]at hc0;obtain⟨⟨hz1,hz2⟩,hz3⟩:=hc0;have hz0:=q0e.1 hz2;have hcl:=q0e.1 hz3;have hzl:=zbg hz1;obtain⟨w,rfl,hl,k1,k2,k3,k4⟩:=qwi h he e0 e1;subst ha;obtain⟨d,hd,hn⟩:=qqp hf hp;obtain⟨kn0,hg⟩:=q2n hb;have hm:=q05 hg;have key:∀ ν',Ag S.ns ν ν'→ν'.a c= .slice q0 n0 c0:=fun ν' hν=>i1 ν' hν
 obtain⟨⟨n1,m1,m2⟩,_⟩:=h.self.hp _ hm;simp only[key ν (.refl _ _)]at m2;obtain⟨sl,h₀,nt,ds⟩:=s;have hdn:d<nt:=by have e0:=h.n; simp only at e0; rw[e0]; exact hn
 have hγ:γ {S with hp:=rmL S.hp c} ν hB ⟨sl,h₀,nt,ds⟩:=γ_rm h
 have fresh:∀ {h':AH} {i:Nat} {ck:Chunk},h₀.get i=none→h₀.next≤i→(hB.get i=none∧hB.next≤i)∧ ∀ ν',Ag S.ns ν ν'→ ∀ p∈rmL S.hp c,nameOf ν' p≠some i:=fun {h' i ck} hi hx=>by
  refine⟨⟨?_,zbo h.le.next hx⟩,fun ν' hν p hp hj=>?_⟩
  · cases hg:hB.get i with
    | none=>rfl
    | some ck=>have:=h.le.get _ _ hg; simp only at this; rw[hi]at this; cases this
  · obtain⟨ck,hck⟩:=((h.g ν' hν).hp p (qrx hp).1).some hj
    simp only at hck;rw[hi]at hck; cases hck
 intro r;rcases m2 with⟨rfl,e2⟩ | ⟨i,cs,e2,g1,g2,g3⟩
 · cases e2
   have:old=[]:=List.eq_nil_of_length_eq_zero (by rw[e0.len]; simp)
   subst this;rcases zc5 m with rfl | hm0
   · refine qgg at_ ho hd hdn f1 hy (zbi _) ?_
     exact⟨rfl,rfl,rfl,qa1 (S:=S) hf hp (q1o _ _ _ _ _) (zcb _) (.refl _) (qgh hγ k4 h.le (fun _ _ _ _ _ _ _ hg=>hg) (.inl ⟨rfl,rfl⟩)) q9d hd⟩
   · refine qb6 fun hw=>qgc at_ ho hd hdn f1 hy (old:=[]) (by simp[q0g]) (hc hm0) (by omega) (by omega) rfl fun j h' ad=>?_
     have nw:=New.of ad hw.2.1;obtain⟨r1,r2⟩:=fresh (h':=h') (ck:= .mark) nw.free nw.ge;exact⟨rfl,rfl,rfl,qa1 (S:=S) hf hp (q1o _ _ _ _ _) (zcb _) (.refl _) (qgh hγ k4 (h.le.trans nw.le) (fun _ _ _ _ _ _ _ hg=>nw.le.get _ _ hg) (.inr ⟨j,new,by rw[zbv],by rw[hl]; exact nw.get,by rw[e1.len,hl,zbv],k1,r1,r2⟩)) q9d hd⟩
 · cases e2
   have hold':=hold;have g1':h₀.get i=some (.grow z cs):=by rw[←hzl]; exact g1
   have hbi2:=h.self.nb _ hm i (by simp only[nameOf,key ν (.refl _ _)])
   have hbi:hB.get i=none:=hbi2.1;have hnm:∀ ν',Ag S.ns ν ν'→nameOf ν' (c,Ck.bld u0 kn0)=some i:=fun ν' hν=>by simp only[nameOf,key ν' hν]
   have oth:∀ ν',Ag S.ns ν ν'→ ∀ p∈rmL S.hp c,nameOf ν' p≠some i:=fun ν' hν p hp hj=>by
    obtain⟨p1,p2⟩:=qrx hp;exact q6i (h.g ν' hν).dj hg p1 p2 i (hnm ν' hν) hj
   have holdc:n0=0∨old=cs:=by
    rcases zc5 n0 with h0 | h0
    · exact .inl h0
    · refine .inr ?_
      have:=hold h0;simp only[q0g,AH.cells,g1',zbv,List.drop_zero]at this;rw[if_pos (by rw[g2,hzl]; exact zbi _),List.take_of_length_le (by rw[g2,hzl]; exact zbi _)]at this
      exact(zbz this).symm
   have hcs:old=cs:=by
    rcases holdc with h0 | h0
    · subst h0
      rw[List.eq_nil_of_length_eq_zero (by rw[e0.len]; simp:old.length=0),List.eq_nil_of_length_eq_zero (by rw[g2]; simp:cs.length=0)]
    · exact h0
   subst hcs;rcases zc5 m with rfl | hm0
   · have hnew:new=[]:=List.eq_nil_of_length_eq_zero (by rw[e1.len]; simp)
     subst hnew;refine qty at_ ho hd hdn f1 hy g1' hz0 (by rw[g2,hzl]; exact zbi _) ?_
     refine⟨rfl,rfl,rfl,qa1 (S:=S) hf hp (q1o _ _ _ _ _) (zcb _) (.refl _) (qgh hγ k4 h.le (fun _ _ _ _ _ _ _ hg=>hg) (.inr ⟨i,old,by rw[Nat.add_zero],by rw[hl]; exact g1',by rw[g2,hl,hzl,Nat.add_zero],k2,hbi2,oth⟩)) q9d hd⟩
   · refine qb6 fun hw=>qym at_ ho hd hdn f1 hy g1' (by rw[g2,hzl]) (hc hm0) ((e1.ct hm0).2 ν (.refl _ _)).one (by omega) rfl fun j h' a=>?_
     have hbut:=a.but hw.2.1
     have hfree:h₀.get j=none:=by
      cases hg:h₀.get j with
      | none=>rfl
      | some cj=>have:=(hw.2.1 j cj hg).1; have:=a.is; simp only at *; omega
     obtain⟨r1,r2⟩:=fresh (h':=h') (ck:= .mark) hfree (by have:=a.is; simp only at *; omega)
     refine⟨rfl,rfl,rfl,qa1 (S:=S) hf hp (q1o _ _ _ _ _) (zcb _) (.refl _) (qgh hγ k4 (h.le.but hbut hbi) (fun ν' hν p hp j ck hj hck=>hbut.get j ck (fun e=>?_) hck) (.inr ⟨j,old++new,rfl,by rw[hl]; exact a.new,by rw[zc8,g2,e1.len,hl,hzl,zc7],k1,r1,r2⟩)) q9d hd⟩
     subst e;exact oth ν' hν p hp hj
end Go.K
namespace Go.K
open Go Go.J
variable{S:AS}{ν:Va}{hB:AH}{s:St}{P:Program}{o:Oper}{l:List AS}
theorem qoe{q:Lin}(h:isK0 q=true)(f:Nat→Int):q.ev f=0:=by
 unfold isK0 at h;split at h
 · rename_i x hx; rw[q1l hx,q1b.1 h]
 · cases h
theorem qkz{z c:Nat}{q n0 m k n:Lin}{u ty:List AT}:∀ {L:List (Bool×AS)} {out:List (V×AS)} {b:Bool} {S':AS},qzn z c q n0 m k n u ty L= .ok out→(b,S')∈L→
 (b=true→ ∃ w,(Nat.beq w.length z&&qgm S' k u w&&qgm S' n ty w&&S'.le (n0.add n) k&&S'.le (.k 0) n&&S'.leX (n0.add n) (.k 4294967295))=true∧(V.slo c q (n0.add n) m,{S' with hp:=setL S'.hp c (.own [.arr k w] [])})∈out)∧
 (b=false→ ∃ p,q8x S' z n0 n u ty none= .ok p∧p∈out)
 | [],_,_,_,_,h=>by cases h
 | p :: r,out,b,S',h,hm=>by
   obtain⟨x,h1,h⟩:=R.zak h;obtain⟨l,h2,h⟩:=R.zak h;cases h;rcases zbm.1 hm with e | hm
   · subst e
     refine⟨fun hb=>?_,fun hb=>?_⟩
     · subst hb
       simp only at h1;obtain⟨w,k1,h1⟩:=R.zak h1;obtain⟨_,k2,h1⟩:=R.zak h1;cases h1;exact⟨w,q02 k2,zbq⟩
     · subst hb
       exact⟨x,h1,zbq⟩
   · obtain⟨a1,a2⟩:=qkz h2 hm
     exact⟨fun hb=>by obtain⟨w,k1,k2⟩:=a1 hb; exact⟨w,k1,zbh _ k2⟩,fun hb=>by obtain⟨p,k1,k2⟩:=a2 hb; exact⟨p,k1,zbh _ k2⟩⟩
theorem Els.to{S':AS}{z:Nat}{n:Lin}{ty:List AT}{m:Nat}{new:List AV}(e:Els S ν hB s z n ty m new)(hns:S'.ns=S.ns):Els S' ν hB s z n ty m new:=⟨fun ν' hν=>e.n ν' (hns▸hν),e.len,fun h0=>⟨(e.ct h0).1,fun ν' hν=>(e.ct h0).2 ν' (hns▸hν)⟩⟩
structure Arr(S:AS)(ν:Va)(hB:AH)(s:St)(c:Nat)(k:Lin)(u:List AT)(cs:List AV):Prop where
 get:s.h.get (ν.n c)=some (.own cs)
 len:∀ ν',Ag S.ns ν ν'→k.ev ν'.i=((k.ev ν.i).toNat:Nat)∧cs.length=(k.ev ν.i).toNat * u.length
 ct:∀ ν',Ag S.ns ν ν'→CT ν' hB u cs
theorem qut{c:Nat}{k:Lin}{u:List AT}{kn:List (Lin×V)}(h:γ S ν hB s)(hc:c<S.ns)(hg:getL S.hp c=some (.own [.arr k u] kn))(hu:0<u.length):∃ cs,Arr S ν hB s c k u cs:=by
 obtain⟨cs,g1,g2,_⟩:=h.self.hp _ (q05 hg)
 have key:∀ ν',Ag S.ns ν ν'→0≤k.ev ν'.i∧cs.length=(k.ev ν'.i).toNat * u.length∧CT ν' hB u cs:=fun ν' hν=>by
  obtain⟨cs',g1',g2',_⟩:=(h.g ν' hν).hp _ (q05 hg);rw[(hν c hc).2.1,g1]at g1';cases g1';obtain⟨k0,d1,d2,f1,f2,f3,f4⟩:=g2';simp only[SgOk]at f4;subst f4;rw[zcr]at f1;subst f1;exact⟨k0,f2,f3⟩
 refine⟨cs,g1,fun ν' hν=>?_,fun ν' hν=>(key ν' hν).2.2⟩
 have a1:=key ν' hν;have a2:=key ν (.refl _ _);have:(k.ev ν'.i).toNat=(k.ev ν.i).toNat:=Nat.eq_of_mul_eq_mul_right hu (a1.2.1.symm.trans a2.2.1);exact⟨by omega,a2.2.1⟩
theorem Arr.els{c:Nat}{k:Lin}{u:List AT}{cs:List AV}{z:Nat}(a:Arr S ν hB s c k u cs)(hz:u.length=z):Els S ν hB s z k u (k.ev ν.i).toNat cs:=
 ⟨fun ν' hν=>(a.len ν' hν).1,by rw[(a.len ν (.refl _ _)).2,hz],fun _=>⟨hz,a.ct⟩⟩
theorem qq6{ν':Va}{hB' h':AH}{c:Nat}{k:Lin}{w:List AT}{cs:List AV}{m:Nat}(hg:h'.get (ν'.n c)=some (.own cs))(hk:k.ev ν'.i=(m:Nat))(hl:cs.length=m * w.length)(hc:CT ν' hB' w cs):okC ν' hB' h' c (.own [.arr k w] []):=
 ⟨cs,hg,⟨by rw[hk]; omega,cs,[],by rw[zcr],by rw[hk,zcf]; exact hl,hc,rfl⟩,fun p hp=>by cases hp⟩
theorem z3x{x y:Operand}{t u z c:Nat}{q0 n0 m0 k n:Lin}{kn:List (Lin×V)}{ty u0:List AT}{L:List (V×AS)}(h:γ S ν hB s)(ho:o.op= .call {callee:= .builtin .append,args:= #[x,y],argTypes:= #[t,u]})(hq:appQ P t u=some z)
 (hx:evA S x= .ok (.slo c q0 n0 m0))(hg:getL S.hp c=some (.own [.arr k u0] kn))(hc0:(Nat.beq u0.length z&&Nat.blt 0 z&&isK0 q0&&S.le (.k 0) n0&&S.le n0 m0&&S.le m0 k&&Nat.blt c S.ns)=true)
 {a:AV}(hy:ev s.slots y=some a){q:Option (Nat×Nat)}{m:Nat}{c2:Cap}{new:List AV}(ha:a= .slice q m c2)(e1:Els S ν hB s z n ty m new)(hc:0<m→q0g s.h m z (.slice q m c2)=some new)
 (he:qzn z c q0 n0 m0 k n u0 ty (qay S (.ge (m0.sub (n0.add n))))= .ok L)(hf:finL o L= .ok l):OpR P o S ν hB s l:=by
 obtain⟨e,by_,zv,at_⟩:=qb8 hq;obtain⟨ax,f1,i1⟩:=q06 h hx;simp only[zbf]at hc0;obtain⟨⟨⟨⟨⟨⟨c1,c2'⟩,c3⟩,c4⟩,c5⟩,c6⟩,c7⟩:=hc0;have hzl:=zbg c1;have hz0:=q0e.1 c2';have hcl:=q0e.1 c7;have b4:=fun ν' hν=>q01 h c4 ν' hν
 have b5:=fun ν' hν=>q01 h c5 ν' hν
 have b6:=fun ν' hν=>q01 h c6 ν' hν
 have q00:=qoe c3
 have iv:∀ ν',Ag S.ns ν ν'→AV.slice (some (ν.n c,0)) (n0.ev ν'.i).toNat (.exact (m0.ev ν'.i).toNat)=ax:=fun ν' hν=>by
  have:=i1 ν' hν;simp only[cv,q00,Int.toNat_zero,(hν c hcl).2.1]at this;exact this
 have iv0:=iv ν (.refl _ _)
 have hn0:∀ ν',Ag S.ns ν ν'→n0.ev ν'.i=((n0.ev ν.i).toNat:Nat)∧m0.ev ν'.i=((m0.ev ν.i).toNat:Nat):=fun ν' hν=>by
  have e:=(iv ν' hν).trans iv0.symm;injection e with _ e2 e3;injection e3 with e3;have a1:=b4 ν' hν; have a2:=b4 ν (.refl _ _); have a3:=b5 ν' hν; have a4:=b5 ν (.refl _ _);rw[ev_k]at a1 a2;omega
 obtain⟨cs,ar⟩:=qut h hcl hg (by omega)
 subst iv0;subst ha;obtain⟨sl,h₀,nt,ds⟩:=s;have x4:=b4 ν (.refl _ _); have x5:=b5 ν (.refl _ _); have x6:=b6 ν (.refl _ _);rw[ev_k]at x4;have lcs:=(ar.len ν (.refl _ _));have en:=e1.n ν (.refl _ _)
 have hdec:∀ ν',Ag S.ns ν ν'→(Bx.ge (m0.sub (n0.add n))).ev ν'.i=decide ((n0.ev ν.i).toNat+m≤(m0.ev ν.i).toNat):=fun ν' hν=>by
  simp only[Bx.ev,q0y,q4p,(hn0 ν' hν).1,(hn0 ν' hν).2,e1.n ν' hν];rw[Bool.eq_iff_iff,q2g,decide_eq_true_iff]; omega
 obtain⟨S',hm',g',px,hns⟩:=q44 h hdec;have ag':∀ {ν'},Ag S'.ns ν ν'→Ag S.ns ν ν':=fun hν=>hns▸hν
 obtain⟨A1,A2⟩:=qkz he hm';have hgL:getL S'.hp c=some (.own [.arr k u0] kn):=by rw[px.hp]; exact hg
 intro r
 by_cases hfit:(n0.ev ν.i).toNat+m≤(m0.ev ν.i).toNat
 · obtain⟨w,k1,k2⟩:=A1 (decide_eq_true hfit)
   simp only[zbf]at k1;obtain⟨⟨⟨⟨⟨d1,d2⟩,d3⟩,d4⟩,d5⟩,d6⟩:=k1;have hwl:=zbg d1;have E0:=(ar.els hzl).to (S':=S') hns;have E1:=e1.to (S':=S') hns;have ct0:=E0.incl g' d2;have ct1:=E1.incl g' d3;obtain⟨d,hd,hn⟩:=qqp hf k2;have hdn:d<nt:=by have e0:=g'.n; simp only at e0; rw[e0]; exact hn
   have hnn:∀ ν',Ag S'.ns ν ν'→ν'.n c=ν.n c:=fun ν' hν=>(ag' hν c hcl).2.1
   have isv:∀ (T:AS),T.ns=S.ns→Is T ν (.slo c q0 (n0.add n) m0) (.slice (some (ν.n c,0)) ((n0.ev ν.i).toNat+m) (.exact (m0.ev ν.i).toNat)):=fun T hT ν' hν=>by
    have hν':Ag S.ns ν ν':=hT▸hν;simp only[cv,q00,Int.toNat_zero,(hν' c hcl).2.1,q4p,(hn0 ν' hν').1,(hn0 ν' hν').2,e1.n ν' hν',zcf];congr 1
   rcases zc5 m with rfl | hm0
   · refine qgg at_ ho hd hdn f1 hy (by omega) ?_
     have hγ:γ {S' with hp:=setL S'.hp c (.own [.arr k w] [])} ν hB ⟨sl,h₀,nt,ds⟩:=
      q6s (i:=ν.n c) g' hgL (fun ν' hν=>by simp only[nameOf,hnn ν' hν,and_self]) (But.same _ _) fun ν' hν=>by
       have:=ar.len ν' (ag' hν);exact qq6 (m:=(k.ev ν.i).toNat) (by rw[hnn ν' hν]; exact ar.get) this.1 (by rw[this.2,hwl,hzl]) (ct0 ν' hν)
     have:=isv {S' with hp:=setL S'.hp c (.own [.arr k w] [])} hns;rw[Nat.add_zero]at this;exact⟨rfl,rfl,rfl,qa1 (S:=S) hf k2 (.refl _ _) (Nat.le_of_eq hns.symm) (.refl _) hγ this hd⟩
   · have hin:0+((n0.ev ν.i).toNat+m) * z≤cs.length:=by
      rw[lcs.2,hzl,zbv];have:=q01 g' d4 ν (.refl _ _);rw[q4p,en]at this;exact zc2 z (by omega)
     refine qyl at_ ho hd hdn f1 hy ar.get (hc hm0) (ct1 ν (.refl _ _)).one hfit hin rfl fun h' st=>?_
     have hsp:∀ ν',Ag S'.ns ν ν'→CT ν' hB w (splice cs (0+(n0.ev ν.i).toNat * z) new):=fun ν' hν=>by
      rw[zbv,←hwl];refine(ct0 ν' hν).splice (ct1 ν' hν) ?_ ⟨m,by rw[e1.len,hwl]⟩
      rw[e1.len,hwl,←zc7]; omega
     have hγ:γ {S' with hp:=setL S'.hp c (.own [.arr k w] [])} ν hB ⟨sl,h',nt,ds⟩:=
      q6s (i:=ν.n c) g' hgL (fun ν' hν=>by simp only[nameOf,hnn ν' hν,and_self]) st.but fun ν' hν=>by
       have:=ar.len ν' (ag' hν);refine qq6 (m:=(k.ev ν.i).toNat) (by rw[hnn ν' hν]; exact st.new) this.1 ?_ (hsp ν' hν)
       rw[q2p (by rw[e1.len,Nat.add_assoc,←zc7]; exact hin),this.2,hwl,hzl]
     exact⟨rfl,rfl,rfl,qa1 (S:=S) hf k2 (.refl _ _) (Nat.le_of_eq hns.symm) (.refl _) hγ (isv _ hns) hd⟩
 · obtain⟨p,k1,k2⟩:=A2 (decide_eq_false hfit)
   have hm0:0<m:=by omega
   have hlen:(n0.ev ν.i).toNat * z≤cs.length:=by rw[lcs.2,hzl]; exact zc2 z (by omega)
   have E0:Els S ν hB ⟨sl,h₀,nt,ds⟩ z n0 u0 (n0.ev ν.i).toNat (cs.take ((n0.ev ν.i).toNat * z)):=⟨fun ν' hν=>(hn0 ν' hν).1,by rw[zcc]; omega,fun _=>⟨hzl,fun ν' hν=>(ar.ct ν' hν).take⟩⟩
   obtain⟨w,rfl,hl,j1,j2,j3,j4⟩:=qwi g' k1 (E0.to hns) (e1.to hns);obtain⟨d,hd,hn⟩:=qqp hf k2;have hdn:d<nt:=by have e0:=g'.n; simp only at e0; rw[e0]; exact hn
   have hold:q0g h₀ (n0.ev ν.i).toNat z (.slice (some (ν.n c,0)) (n0.ev ν.i).toNat (.exact (m0.ev ν.i).toNat))=some (cs.take ((n0.ev ν.i).toNat * z)):=by
    have:h₀.cells (ν.n c)=some cs:=q71 ar.get;simp only[q0g,this,zbv,List.drop_zero];rw[if_pos hlen]
   refine qb6 fun hw=>qgc at_ ho hd hdn f1 hy hold (hc hm0) (by omega) (by omega) rfl fun i h' ad=>?_
   have nw:=New.of ad hw.2.1;refine⟨rfl,rfl,rfl,qa1 (S:=S) hf k2 ((q1o _ _ _ _ _).mono (Nat.le_of_eq hns.symm)) (by show S.ns≤S'.ns+1; omega) (.refl _) (qgh g' j4 (g'.le.trans nw.le) (fun _ _ _ _ _ _ _ hg=>nw.le.get _ _ hg) (.inr ⟨i,_,rfl,by rw[hl]; exact nw.get,by rw[zc8,E0.len,e1.len,hl,zc7],j1,?_,fun ν' hν p hp hj=>?_⟩)) q9d hd⟩
   · refine⟨?_,zbo h.le.next nw.ge⟩
     cases hg:hB.get i with
     | none=>rfl
     | some ck=>have:=h.le.get _ _ hg; simp only at this; rw[nw.free]at this; cases this
   · obtain⟨ck,hck⟩:=((g'.g ν' hν).hp p hp).some hj
     simp only at hck;rw[nw.free]at hck; cases hck
theorem qxi{x y:Operand}{t u:Nat}{v w:V}{L:List (V×AS)}(h:γ S ν hB s)(ho:o.op= .call {callee:= .builtin .append,args:= #[x,y],argTypes:= #[t,u]})(hx:evA S x= .ok v)(hy:evA S y= .ok w)
 (he:qup P S t u v w= .ok L)(hf:finL o L= .ok l):OpR P o S ν hB s l:=by
 obtain⟨z,h1,he⟩:=R.zak he;obtain⟨e,h2,he⟩:=R.zak he;have hq:=q0a h1;obtain⟨a,f1,i1⟩:=q06 h hy;obtain⟨q,m,c2,new,ha,e1,hc⟩:=q75 h h2 i1;cases v with
 | nils=>
   obtain⟨p,h3,he⟩:=R.zak he;cases he;exact z3w h ho hq hx f1 ha e1 hc h3 hf (zbs.2 rfl)
 | sym c=>
   simp only at he;split at he
   · rename_i u0 hb
     obtain⟨_,h3,he⟩:=R.zak he;obtain⟨p,h4,he⟩:=R.zak he;cases he;exact z3v h ho hq hx hb (q02 h3) f1 ha e1 hc h4 hf (zbs.2 rfl)
   · cases he
 | slo c q0 n0 m0=>
   simp only at he;split at he
   · rename_i k u0 kn hg
     obtain⟨_,h3,he⟩:=R.zak he;exact z3x h ho hq hx hg (q02 h3) f1 ha e1 hc he hf
   · cases he
 | _=>cases he
end Go.K
namespace Go.K
open Go Go.J
variable{S:AS}{ν:Va}{hB:AH}{s:St}{P:Program}{o:Oper}{l:List AS}
theorem qz7{r:Option Nat}{sl:List (Nat×AV)}{h₀:AH}{nt:Nat}{ds:List ADef}{Q:AExit→St→Prop}{d:Nat}{x y:Operand}{t t2 e:TypeId}{esz dl sln:Nat}{p q:Option (Nat×Nat)}{c1 c2:Cap}(ht:P.underlying t=some (.slice e))(hn:(P.info? e).map (·.size)=some esz)
 (ho:o.op= .call {callee:= .builtin .copy,args:= #[x,y],argTypes:= #[t,t2]})(hd:o.dst=some d)(hdn:d<nt)
 (hx:ev sl x=some (.slice p dl c1))(hy:ev sl y=some (.slice q sln c2))(hmin:min sln dl=0)
 (h:Q .normal ⟨(d,.int .i64 0) :: sl,h₀,nt,ds⟩):JO P r o ⟨sl,h₀,nt,ds⟩ Q:=
 q0t hd hdn (by simp[Oper.noDefer,ho]) (fun hw=>zbl _) (fun ρ a w hrel=>by
  obtain⟨cst,hcst⟩:=q10 (P:=P) ho a.eval w;have hmin':Nat.min sln dl=0:=hmin
  have hfc:(Builtin.firstCells esz 0 (conc ρ (.slice q sln c2))).run P w= .ok #[] w:=by
   cases q with
   | none=>rfl
   | some a=>
     have:=run_loadCells_list (P:=P) w (ρ.addr a) [] (fun j u hu=>by simp at hu)
     simpa [Builtin.firstCells,conc]using this
  rw[hcst];cases p<;>
  · simp only[builtin,List.map_toArray,zc3,List.map_nil,q03 hrel hx,q03 hrel hy,conc,zbp,Option.map_none,zbx,Builtin.copy_,List.getElem?_toArray,List.getElem?_cons_zero,List.getElem?_cons_succ,
     Go.run_underlying ht,zbk,Builtin.lenOf,zby,hmin',q0i hn]at hfc ⊢
    rw[hfc];simp[goInt,storeCells]) h
theorem z5q{x y:Operand}{t u:Nat}{v w:V}{p:V×AS}(h:γ S ν hB s)(ho:o.op= .call {callee:= .builtin .copy,args:= #[x,y],argTypes:= #[t,u]})(hx:evA S x= .ok v)(hy:evA S y= .ok w)
 (he:z6x P S t v w= .ok p)(hf:fin o p.1 p.2= .ok l):OpR P o S ν hB s l:=by
 obtain⟨z,h1,he⟩:=R.zak he;obtain⟨e,h2,he⟩:=R.zak he;obtain⟨a,f1,i1⟩:=q06 h hy;obtain⟨q,m,c2,new,ha,e1,hc⟩:=q75 h h2 i1;obtain⟨ax,fx,ix⟩:=q06 h hx;have h1:=q0a h1
 obtain⟨te,t1,t2⟩:∃ te,q3y P t=some te∧szT P te=some z:=by
  cases ht:q3y P t with
  | none=>rw[ht]at h1; cases h1
  | some te=>rw[ht]at h1; exact⟨te,rfl,h1⟩
 subst ha;obtain⟨sl,h₀,nt,ds⟩:=s;cases v with
 | nils=>
   cases he;have:=ix ν (.refl _ _);simp only[cv]at this;subst this;obtain⟨d,hd,hn,rfl⟩:=q1m hf;intro r;refine qz7 (q2u t1) (q4u t2) ho hd (by have e0:=h.n; simp only at e0; rw[e0]; exact hn) fx f1 (Nat.min_eq_right (zbl _)) ?_
   exact⟨rfl,rfl,rfl,_,zbs.2 rfl,ν,hB,.refl _ _,zbi _,.refl _,q60 h fun ν' hν=>by simp only[cv,ev_k]⟩
 | slo c q0 n0 m0=>
   simp only at he;split at he
   · rename_i k u0 kn hg
     obtain⟨w',h3,he⟩:=R.zak he;obtain⟨_,h4,he⟩:=R.zak he;cases he;have h4:=q02 h4;simp only[zbf]at h4;obtain⟨⟨⟨⟨⟨⟨⟨⟨d1,d2⟩,d3⟩,d4⟩,d5⟩,d6⟩,d7⟩,d8⟩,d9⟩:=h4;have hzl:=zbg d1;have hwl:=zbg d2;have hz0:=q0e.1 d3;have hcl:=q0e.1 d9;have q00:=qoe d4;have b5:=fun ν' hν=>q01 h d5 ν' hν
     have b6:=fun ν' hν=>q01 h d6 ν' hν
     obtain⟨cs,ar⟩:=qut h hcl hg (by omega)
     have ct0:=(ar.els hzl).incl h d7;have ct1:=e1.incl h d8
     have iv:∀ ν',Ag S.ns ν ν'→AV.slice (some (ν.n c,0)) (n0.ev ν'.i).toNat (.exact (m0.ev ν'.i).toNat)=ax:=fun ν' hν=>by
      have:=ix ν' hν;simp only[cv,q00,Int.toNat_zero,(hν c hcl).2.1]at this;exact this
     have iv0:=iv ν (.refl _ _)
     have hn0:∀ ν',Ag S.ns ν ν'→n0.ev ν'.i=((n0.ev ν.i).toNat:Nat):=fun ν' hν=>by
      have e:=(iv ν' hν).trans iv0.symm;injection e with _ e2 e3;have a1:=b5 ν' hν; have a2:=b5 ν (.refl _ _);rw[ev_k]at a1 a2;omega
     subst iv0;have x5:=b5 ν (.refl _ _); have x6:=b6 ν (.refl _ _);rw[ev_k]at x5;have lcs:=ar.len ν (.refl _ _);obtain⟨d,hd,hn,rfl⟩:=q1m hf;have hdn:d<nt:=by have e0:=h.n; simp only at e0; rw[e0]; exact hn
     have hnn:∀ {S':AS} {ν1:Va},Ag S.ns ν ν1→S.ns≤S'.ns→ ∀ ν',Ag S'.ns ν1 ν'→ν'.n c=ν.n c:=fun a b ν' hν=>(a.trans hν b c hcl).2.1
     have fin':∀ (j:Nat) (h':AH) (cs':List AV),j≤(n0.ev ν.i).toNat→But h₀ (ν.n c) h'→h'.get (ν.n c)=some (.own cs')→cs'.length=cs.length→(∀ ν',Ag S.ns ν ν'→CT ν' hB w' cs')→
      ∃ S'∈[({(S.newI (.k 0) n0).2 with hp:=setL (S.newI (.k 0) n0).2.hp c (.own [.arr k w'] [])}:AS).put d (.int .i64 (S.newI (.k 0) n0).1)],K.Go S ν hB S' ⟨(d,.int .i64 j) :: sl,h',nt,ds⟩:=fun j h' cs' hj hb hg' hl hct=>by
      obtain⟨ν1,x1,x2⟩:=q3p (lo:= .k 0) (hi:=n0) (n:=(j:Int)) h fun ν' hν=>by rw[ev_k,hn0 ν' hν]; omega
      have hγ:=q6s (k':= .own [.arr k w'] []) (i:=ν.n c) (h':=h') x1.g (c:=c) (k:= .own [.arr k u0] kn) (by exact hg) (fun ν' hν=>by simp only[nameOf,hnn x1.ag x1.ns ν' hν,and_self]) hb fun ν' hν=>by
       have hν':=x1.ag.trans hν x1.ns;have:=ar.len ν' hν';exact qq6 (m:=(k.ev ν.i).toNat) (by rw[hnn x1.ag x1.ns ν' hν]; exact hg') this.1 (by rw[hl,this.2,hwl,hzl]) (hct ν' hν')
      exact⟨_,zbs.2 rfl,ν1,hB,x1.ag,x1.ns,.refl _,q60 hγ fun ν' hν=>by simp only[cv,x2 ν' hν]⟩
     intro r;rcases zc5 (min m (n0.ev ν.i).toNat)with hm0 | hm0
     · refine qz7 (q2u t1) (q4u t2) ho hd hdn fx f1 hm0 ?_
       exact⟨rfl,rfl,rfl,fin' 0 h₀ cs (zbl _) (But.same _ _) ar.get rfl ct0⟩
     · have hmp:0<m:=by omega
       have hnew:=hc hmp
       have hsl:q0g h₀ (min m (n0.ev ν.i).toNat) z (.slice q m c2)=some (new.take (min m (n0.ev ν.i).toNat * z)):=by
        have hle:min m (n0.ev ν.i).toNat * z≤m * z:=zc2 z (Nat.min_le_left _ _);cases q with
        | none=>simp only[q0g]at hnew; rw[if_neg (by omega)]at hnew; cases hnew
        | some pq=>
          simp only[q0g]at hnew ⊢;split at hnew
          · rename_i cq hcq
            split at hnew
            · rename_i hle2
              cases hnew;rw[if_pos (by omega),List.take_take,Nat.min_eq_left hle]
            · cases hnew
          · cases hnew
       have lt:(new.take (min m (n0.ev ν.i).toNat * z)).length=min m (n0.ev ν.i).toNat * z:=by
        rw[zcc,e1.len];exact Nat.min_eq_left (zc2 z (Nat.min_le_left _ _))
       have hin:0+min m (n0.ev ν.i).toNat * z≤cs.length:=by
        rw[lcs.2,hzl,zbv];exact zc2 z (by omega)
       refine z8w (q2u t1) (q4u t2) ho hd hdn fx f1 ar.get rfl hsl (ct1 ν (.refl _ _)).take.one hin rfl fun h' st=>?_
       refine⟨rfl,rfl,rfl,fin' _ h' _ (Nat.min_le_right _ _) st.but st.new (q2p (by rw[lt]; exact hin)) fun ν' hν=>?_⟩
       have:=(ct0 ν' hν).splice (m:=0) ((ct1 ν' hν).take (m:=min m (n0.ev ν.i).toNat * z)) (by rw[lt,Nat.zero_mul]; exact hin) ⟨_,by rw[lt,hwl]⟩
       rwa[Nat.zero_mul]at this
   · cases he
 | _=>cases he
theorem z5p{T:Nat}{ps:Array (Nat×Operand)}{p:V×AS}(h:γ S ν hB s)(ho:o.op= .buildSlice T 0 ps)(hx:evPA S ps.toList= .ok [])(he:z44 P S T= .ok p)(hf:fin o p.1 p.2= .ok l):OpN P o S ν hB s l:=by
 obtain⟨e,h1,he⟩:=R.zak he;obtain⟨z,h2,he⟩:=R.zak he;obtain⟨zv,h3,he⟩:=R.zak he;obtain⟨ty,h4,he⟩:=R.zak he;obtain⟨_,h5,he⟩:=R.zak he;cases he;have h5:=q02 h5;simp only[zbf]at h5;obtain⟨as,e1,i1⟩:=q86 h hx;have:as=[]:=(i1 ν (.refl _ _)).symm;subst this;have hz:=q0a h3;have hzl:(cv ν zv).cells.length=z:=by rw[←q2a hz ν ν,q1x]; exact zbg h5.1
 obtain⟨d,hd,hn,rfl⟩:=q1m hf;obtain⟨sl,h₀,nt,ds⟩:=s;intro r;refine qcu (out:=[]) (q2u (q0a h1)) (q4u (q0a h2)) (q2w hz ν) hzl (by simp) ho hd (by have e0:=h.n; simp only at e0; rw[e0]; exact hn) e1 (by simp[aRep,q5l]) fun j h' hw=>?_
 refine⟨?_,hw.le⟩;refine⟨rfl,rfl,rfl,_,zbs.2 rfl,ν.set S.ns 0 j .nilFunc,hB,q1o _ _ _ _ _,zcb _,.refl _,?_⟩;refine q60 (a:= .slice (some (j,0)) 0 (.exact 0)) (qnp h hw (k:= .own [.arr (.k 0) ty] []) (fun ν' hν hj=>?_) (fun t kn=>by simp) 0 .nilFunc) fun ν' hν=>?_
 · exact qq6 (m:=0) (by rw[hj]; exact hw.get) (by rw[ev_k]; rfl) (by simp) .nil
 · have:=(hν S.ns (zc0 _)).2.1
   simp only[Va.set,if_true]at this;simp only[cv,ev_k,this];rfl
end Go.K
namespace Go.K
open Go Go.J
variable{S:AS}{ν:Va}{hB:AH}{s:St}{P:Program}{o:Oper}{l:List AS}
theorem qfe:∀ (S:AS) (ty:List AT),Px S (q1c S ty).2
 | S,[]=> .refl S
 | S,t :: r=>(qjp S t).trans (qfe (q9e S t).2 r)
theorem qtf{T:Nat}{p:V×AS}(h:γ S ν hB s)(ho:o.op= .makeMap T none)(he:z2w P S T= .ok p)(hf:fin o p.1 p.2= .ok l):OpN P o S ν hB s l:=by
 obtain⟨q,h1,he⟩:=R.zak he;obtain⟨ty,h2,he⟩:=R.zak he;cases he;obtain⟨d,hd,hn,rfl⟩:=q1m hf;obtain⟨sl,h₀,nt,ds⟩:=s;intro r;refine qz8 ho hd (by have e0:=h.n; simp only at e0; rw[e0]; exact hn) fun j h' hw=>?_
 refine⟨?_,hw.le⟩;refine⟨rfl,rfl,rfl,_,zbs.2 rfl,ν.set S.ns 0 j .nilFunc,hB,q1o _ _ _ _ _,zcb _,.refl _,?_⟩;refine q60 (a:= .map (some j)) (qnp h hw (k:= .mp q.1 (q8s q.2) ty none) (fun ν' hν hj=>?_) (fun t kn=>by simp) 0 .nilFunc) fun ν' hν=>?_
 · exact⟨[],0,by rw[hj]; exact hw.get,fun e he=>(by cases he),fun e he=>(by cases he),fun s hs=>(by cases hs)⟩
 · have:=(hν S.ns (zc0 _)).2.1
   simp only[Va.set,if_true]at this;simp only[cv,this]
theorem qop{agg:Bool}{ty u:List AT}{w:V}{ws:List V}(he:qoo S agg ty w ws= .ok u):q8s w=agg∧tupV w=false∧ws.length=ty.length∧u.length=ty.length∧q4m S u u ws=true∧(u=ty∨q3q S ty u=true):=by
 obtain⟨_,h1,he⟩:=R.zak he;have h1:=q02 h1;simp only[zbf,Bool.not_eq_true']at h1;obtain⟨⟨a1,a2⟩,a3⟩:=h1;have a1:q8s w=agg:=by simpa using a1
 have a2:=zbg a2;split at he
 · rename_i hc
   cases he;exact⟨a1,a3,a2,rfl,hc,.inl rfl⟩
 · obtain⟨u',h2,he⟩:=R.zak he
   obtain⟨_,h3,he⟩:=R.zak he;cases he;have h3:=q02 h3;simp only[zbf]at h3;exact⟨a1,a3,a2,(q1q h3.1).symm,h3.2,.inr h3.1⟩
theorem VOk.sub{ν':Va}{agg:Bool}{ty u:List AT}{v:AV}(h:γ S ν hB s)(hν:Ag S.ns ν ν')(hs:u=ty∨q3q S ty u=true)(hv:VOk ν' hB agg ty v):VOk ν' hB agg u v:=by
 rcases hs with rfl | hs
 · exact hv
 · cases agg with
   | true=>obtain⟨cs,a,b,c⟩:=hv; exact⟨cs,a,by rw[b,q1q hs],fun j w hw=>q12 h hν hs (c j w hw)⟩
   | false=>exact⟨by rw[←q1q hs]; exact hv.1,q12 h hν hs hv.2⟩
theorem qsj{w:V}{ws:List V}(h:q70 S w= .ok ws)(ha:q8s w=false):ws=[w]:=by
 unfold q70 at h;split at h
 · cases ha
 · obtain⟨_,_,h⟩:=R.zak h
   cases h; rfl
theorem qfd{c:Nat}{kk:KeyKind}{agg:Bool}{ty:List AT}{bn:Option Nat}{w:V}{ws ws0:List V}{S1 S2:AS}{ν1:Va}{hB1:AH}{aw:AV}(h:γ S ν hB s)(f:Frz S ν hB s S1 ν1 hB1)(hc:c<S.ns)(hg:getL S.hp c=some (.mp kk agg ty bn))
 (iw:Is S ν w aw)(h0:q70 S w= .ok ws0)(hw:∀ ν',Ag S1.ns ν1 ν'→cvL ν' ws=aw.cells)(he:z58 c kk agg ty w (ws,S1)= .ok S2):
 S2.ns=S1.ns∧ ∃ es cl,Ents S1 ν1 hB1 s.h c kk agg ty bn es cl∧ν1.n c=ν.n c∧ ∀ h' es' cl',But s.h (ν.n c) h'→h'.get (ν.n c)=some (.map es' cl')→(∀ e∈es',keyK kk e.1)→(∀ e∈es',e.2.1=aw∨ ∃ e0∈es,e0.2.1=e.2.1)→γ S2 ν1 hB1 ⟨s.slots,h',s.n,s.defs⟩:=by
 obtain⟨_,h1,he⟩:=R.zak he;obtain⟨u,h2,he⟩:=R.zak he;cases he;have h1:=q02 h1
 have hg1:getL S1.hp c=some (.mp kk agg ty bn):=by
  cases hk:getL S1.hp c with
  | none=>rw[hk]at h1; cases h1
  | some k=>rw[←hg,f.hp c k hk]
 have hc1:c<S1.ns:=zcm hc f.ns;obtain⟨es,cl,en⟩:=qo1 f.g hc1 hg1;have en0:ν1.n c=ν.n c:=(f.ag c hc).2.1;obtain⟨a1,a2,a3,a4,a5,a6⟩:=qop h2;refine⟨rfl,es,cl,en,en0,fun h' es' cl' hb hg' hk hv=>?_⟩
 have hwv:∀ ν',Ag S1.ns ν1 ν'→VOk ν' hB1 agg u aw:=fun ν' hν=>by
  have ia:=iw ν (.refl _ _);refine z27 f.g hν (fun e=>?_) (fun e=>?_) (a3.trans a4.symm) a5 (hw ν' hν)
  · cases w with
    | agg l=>exact⟨_,by rw[←ia]; simp only[cv]; rfl⟩
    | _=>rw[←a1]at e; cases e
  · have:=(q30 h h0 (.refl _ _)).1
    rw[ia]at this;have hws:ws0=[w]:=qsj h0 (a1.trans e);rw[this,hws];simp only[cvL,ia]
 refine q6s (i:=ν.n c) f.g hg1 (fun ν' hν=>by simp only[nameOf,(hν c hc1).2.1,en0,and_self]) hb fun ν' hν=>?_
 refine⟨es',cl',by rw[(hν c hc1).2.1,en0]; exact hg',hk,fun e he=>?_,fun s hs=>(by cases hs)⟩
 rcases hv e he with k | ⟨e0,k1,k2⟩
 · rw[k]; exact hwv ν' hν
 · rw[←k2]; exact(en.vals ν' hν e0 k1).sub f.g hν a6
theorem qmm{T:Nat}{x y z:Operand}{v k w:V}{S2:AS}(h:γ S ν hB s)(ho:o.op= .mapUpdate T x y z)(hd:o.dst=none)(hx:evA S x= .ok v)(hy:evA S y= .ok k)(hz:evA S z= .ok w)(he:qww P S T v k w= .ok S2):OpR P o S ν hB s [S2]:=by
 obtain⟨q,h1,he⟩:=R.zak he;obtain⟨ws0,h2,he⟩:=R.zak he;obtain⟨⟨ws,S1⟩,h3,he⟩:=R.zak he;obtain⟨a,f1,i1⟩:=q06 h hx;obtain⟨b,f2,i2⟩:=q06 h hy;obtain⟨aw,f3,i3⟩:=q06 h hz;obtain⟨kt,e,zv,gm⟩:=q7b h h1 i1 i2;obtain⟨ν1,hB1,fz,hws⟩:=q2m (as:=aw.cells) h h3 fun ν' hν=>by rw[←(q30 h h2 hν).1,i3 ν' hν]
 obtain⟨hns,es,cl,en,en0,key⟩:=qfd h fz gm.lt gm.g i3 h2 hws he;have ga:=gm.a;subst ga;have hget:=en.get;rw[en0]at hget;obtain⟨sl,h₀,nt,ds⟩:=s;intro r;have fin':∀ h',γ S2 ν1 hB1 ⟨sl,h',nt,ds⟩→ ∃ S'∈[S2],K.Go S ν hB S' ⟨sl,h',nt,ds⟩:=fun h' g=>⟨_,zbs.2 rfl,ν1,hB1,fz.ag,by rw[hns]; exact fz.ns,fz.le,g⟩
 cases hq:q1w (keyQ q.2.1) b es 0 with
 | none=>
   refine qcw gm.hT gm.m ho hd f1 f2 f3 gm.b hget en.keys hq fun h' st=>⟨rfl,rfl,rfl,fin' _ (key _ _ _ st.but st.new (fun e he=>?_) fun e he=>?_)⟩
   · rcases zbr.1 he with he | he
     · exact en.keys e he
     · simp only[zbs]at he; subst he; exact gm.b
   · rcases zbr.1 he with he | he
     · exact .inr ⟨e,he,rfl⟩
     · simp only[zbs]at he; subst he; exact .inl rfl
 | some p=>
   refine qcv (i:=p.1) (u:=p.2) gm.hT gm.m ho hd f1 f2 f3 gm.b hget en.keys hq fun h' st=>⟨rfl,rfl,rfl,fin' _ (key _ _ _ st.but st.new (fun e he=>?_) fun e he=>?_)⟩
   · rcases mem_modify he with⟨e0,_,rfl⟩ | he
     · exact gm.b
     · exact en.keys e he
   · rcases mem_modify he with⟨e0,_,rfl⟩ | he
     · exact .inl rfl
     · exact .inr ⟨e,he,rfl⟩
theorem z63{e:Lin}{c:Nat}(h:symL e=some c)(f:Nat→Int):e.ev f=f c:=by
 unfold symL at h;split at h
 · cases h; simp[Lin.ev,evT]
 · cases h
theorem qk0{T:Nat}{x y z:Operand}{v b w:V}{S2:AS}(h:γ S ν hB s)(ho:o.op= .entryStore T x y z)(hd:o.dst=none)(hx:evA S x= .ok v)(hy:evA S y= .ok b)(hz:evA S z= .ok w)(he:qvl S v b w= .ok S2):OpR P o S ν hB s [S2]:=by
 unfold qvl at he;split at he
 · rename_i c
   split at he
   · rename_i kk agg ty n e hg
     obtain⟨_,h1,he⟩:=R.zak he;obtain⟨ws0,h2,he⟩:=R.zak he;obtain⟨⟨ws,S1⟩,h3,he⟩:=R.zak he;have h1:=q02 h1;simp only[zbf]at h1;obtain⟨⟨c1,c2⟩,c3⟩:=h1;obtain⟨a,f1,i1⟩:=q06 h hx;obtain⟨ab,f2,i2⟩:=q06 h hy;obtain⟨aw,f3,i3⟩:=q06 h hz;have hcl:=q0e.1 c1;obtain⟨ν1,hB1,fz,hws⟩:=q2m (as:=aw.cells) h h3 fun ν' hν=>by rw[←(q30 h h2 hν).1,i3 ν' hν]
     obtain⟨hns,es,cl,en,en0,key⟩:=qfd h fz hcl hg i3 h2 hws he;have hget:=en.get;rw[en0]at hget;have ia:=i1 ν (.refl _ _);have ib:=i2 ν1 fz.ag;simp only[cv]at ia ib
     have hsy:e.ev ν1.i=ν1.i n:=by
      split at c3
      · rename_i m hm; rw[z63 hm,zbg c3]
      · cases c3
     obtain⟨e0,he0,hb0⟩:=en.bn ν1 (.refl _ _) n rfl;subst ia;rw[hsy,←hb0]at ib;subst ib;obtain⟨sl,h₀,nt,ds⟩:=s;intro r;refine qnm ho hd f1 f2 f3 hget en.keys ⟨e0,he0,rfl⟩ fun es' h' q1 q2 q3 q4 _=>⟨rfl,rfl,rfl,⟨_,zbs.2 rfl,ν1,hB1,fz.ag,by rw[hns]; exact fz.ns,fz.le,key _ _ _ q1 q2 q3 q4⟩⟩
   · cases he
 · cases he
theorem qp4{T:Nat}{x y:Operand}{v k:V}{p:V×AS}(h:γ S ν hB s)(ho:o.op= .mapEntry T x y)(hx:evA S x= .ok v)(hy:evA S y= .ok k)(he:qwu P S T v k= .ok p)(hf:fin o p.1 p.2= .ok l):OpR P o S ν hB s l:=by
 obtain⟨q,h1,he⟩:=R.zak he;obtain⟨w,h2,he⟩:=R.zak he;cases he;obtain⟨a,f1,i1⟩:=q06 h hx;obtain⟨b,f2,i2⟩:=q06 h hy;obtain⟨kt,e,zv,gm⟩:=q7b h h1 i1 i2;obtain⟨es,cl,en⟩:=qo1 h gm.lt gm.g;have ga:=gm.a;subst ga;obtain⟨d,hd,hn,rfl⟩:=q1m hf;obtain⟨sl,h₀,nt,ds⟩:=s;intro r;refine qtz gm.hT gm.z gm.m ho hd (by have e0:=h.n; simp only at e0; rw[e0]; rw[←(qfe S q.2.2.2.1).nt]; exact hn) f1 f2 gm.b en.get en.keys fun es' cl' bn x h' q1 q2 q3 q4 _ q6 q7 _=>?_
 have hxv:∀ ν',Ag S.ns ν ν'→VOk ν' hB q.2.2.1 q.2.2.2.1 x:=fun ν' hν=>by
  rcases q6 with k | ⟨e0,k1,k2⟩
  · rw[k]; exact gm.zok ν' hν
  · rw[←k2]; exact en.vals ν' hν e0 k1
 obtain⟨ν1,e1,e2,e3⟩:=qfk h h2 hxv;have hc1:q.1<(q1c S q.2.2.2.1).2.ns:=zcm gm.lt e1.ns;have hg1:getL (q1c S q.2.2.2.1).2.hp q.1=some (.mp q.2.1 q.2.2.1 q.2.2.2.1 q.2.2.2.2):=by rw[(qfe S q.2.2.2.1).hp]; exact gm.g
 have g2:=qzg (i:=(bn:Int)) (n:=0) (a:= .nilFunc) (es:=[]) (fs:=[]) e1.g fun ν' hν x1 x2 x3=>⟨fun e he=>(by cases he),fun f hf=>by cases hf⟩
 have hnn:∀ ν',Ag ((q1c S q.2.2.2.1).2.ns+1) (ν1.set (q1c S q.2.2.2.1).2.ns bn 0 .nilFunc) ν'→Ag (q1c S q.2.2.2.1).2.ns ν1 ν':=fun ν' hν=>(q1o _ _ _ _ _).trans hν (zcb _)
 have hnc:∀ ν',Ag (q1c S q.2.2.2.1).2.ns ν1 ν'→ν'.n q.1=ν.n q.1:=fun ν' hν=>((e1.ag.trans hν e1.ns) q.1 gm.lt).2.1
 have g3:=q6s (k':= .mp q.2.1 q.2.2.1 q.2.2.2.1 (some (q1c S q.2.2.2.1).2.ns)) (i:=ν.n q.1) (h':=h') g2 (c:=q.1) hg1 (fun ν' hν=>by simp only[nameOf,hnc ν' (hnn ν' hν),and_self]) q1 fun ν' hν=>by
  refine⟨es',cl',by rw[hnc ν' (hnn ν' hν)]; exact q2,q3,fun e he=>?_,fun s hs=>?_⟩
  · have hν':=e1.ag.trans (hnn ν' hν) e1.ns
    rcases q7 e he with k | ⟨e0,k1,k2⟩
    · rw[k]; exact gm.zok ν' hν'
    · rw[←k2]; exact en.vals ν' hν' e0 k1
  · cases hs
    obtain⟨e0,k1,k2⟩:=q4;refine⟨e0,k1,?_⟩;have:=(hν (q1c S q.2.2.2.1).2.ns (zc0 _)).1;simp only[Va.set,if_true]at this;rw[this,k2]
 refine⟨rfl,rfl,rfl,_,zbs.2 rfl,_,hB,e1.ag.trans ((q1o _ _ _ _ _).mono e1.ns) (zbi _),zbo e1.ns (zcb _),.refl _,q60 (by simpa only[Tr.addL,List.nil_append]using g3) fun ν' hν=>?_⟩
 have k1:=e2 ν' (hnn ν' hν);have k2:=(hν (q1c S q.2.2.2.1).2.ns (zc0 _)).1;simp only[Va.set,if_true]at k2;simp only[cv,cvL,k1,ev_s,k2]
end Go.K
namespace Go.K
open Go Go.J
variable{S:AS}{ν:Va}{hB:AH}{s:St}{P:Program}{o:Oper}{l:List AS}
theorem qmj(P:Program):OpsN P:=by
 intro o S l ν hB s hn he h;cases ho:o.op with
 | alloc T=>
   simp only[opA,ho]at he;obtain⟨z,h1,he⟩:=R.zak he;obtain⟨p,h2,he⟩:=R.zak he;exact z13 h ho (q0a h1) h2 he
 | box T x=>
   simp only[opA,ho]at he;obtain⟨v,h1,he⟩:=R.zak he;obtain⟨vs,h2,he⟩:=R.zak he;obtain⟨p,h3,he⟩:=R.zak he;exact z8b h ho h1 h2 h3 he
 | buildSlice T n ps=>
   simp only[opA,ho]at he;obtain⟨vs,h1,he⟩:=R.zak he
   have gen:((qe6 P S T n vs).bind fun p=>fin o p.1 p.2)= .ok l→OpN P o S ν hB s l:=fun he=>by
    obtain⟨p,h2,he⟩:=R.zak he;exact qjz h ho h1 h2 he
   cases hp:z44 P S T with
   | no w=>rw[hp]at he; exact gen (by simpa using he)
   | ok p=>
     rw[hp]at he;cases n with
     | succ n=>exact gen (by simpa using he)
     | zero=>
       cases vs with
       | cons a r=>exact gen (by simpa using he)
       | nil=>exact z5p h ho h1 hp he
 | makeSlice T x y=>
   simp only[opA,ho]at he;obtain⟨a,h1,he⟩:=R.zak he;obtain⟨b,h2,he⟩:=R.zak he;obtain⟨p,h3,he⟩:=R.zak he;exact qml h ho h1 h2 h3 he
 | makeMap T hint=>
   simp only[opA,ho]at he;cases hint with
   | none=>
     obtain⟨p,h1,he⟩:=R.zak he;exact qtf h ho h1 he
   | some x=>cases he
 | _=>exfalso; simp only[newO,ho]at hn; cases hn
theorem qmi(P:Program):quf P:=by
 intro o S l ν hB s he h;cases hef:effO o with
 | false=>exact(qmk P o S l ν hB s hef he h).r
 | true=>
   cases hnn:newO o with
   | true=>exact(qmj P o S l ν hB s hnn he h).r
   | false=>
   cases ho:o.op with
   | store T x y=>
     simp only[opA,ho]at he;obtain⟨_,h0,he⟩:=R.zak he;obtain⟨v,h1,he⟩:=R.zak he;obtain⟨w,h2,he⟩:=R.zak he;obtain⟨S2,h3,he⟩:=R.zak he;cases he;exact z18 h ho (Option.isNone_iff_eq_none.1 (q02 h0)) h1 h2 h3
   | mapUpdate T x y z=>
     simp only[opA,ho]at he;obtain⟨_,h0,he⟩:=R.zak he;obtain⟨v,h1,he⟩:=R.zak he;obtain⟨k,h2,he⟩:=R.zak he;obtain⟨w,h3,he⟩:=R.zak he;obtain⟨S2,h4,he⟩:=R.zak he;cases he;exact qmm h ho (Option.isNone_iff_eq_none.1 (q02 h0)) h1 h2 h3 h4
   | mapEntry T x y=>
     simp only[opA,ho]at he;obtain⟨v,h1,he⟩:=R.zak he;obtain⟨k,h2,he⟩:=R.zak he;obtain⟨p,h3,he⟩:=R.zak he;exact qp4 h ho h1 h2 h3 he
   | entryStore T x y z=>
     simp only[opA,ho]at he;obtain⟨_,h0,he⟩:=R.zak he;obtain⟨v,h1,he⟩:=R.zak he;obtain⟨b,h2,he⟩:=R.zak he;obtain⟨w,h3,he⟩:=R.zak he;obtain⟨S2,h4,he⟩:=R.zak he;cases he;exact qk0 h ho (Option.isNone_iff_eq_none.1 (q02 h0)) h1 h2 h3 h4
   | range T x=>
     simp only[opA,ho]at he;obtain⟨v,h1,he⟩:=R.zak he;obtain⟨_,h2,he⟩:=R.zak he;obtain⟨n,h3,he⟩:=R.zak he;exact z16 (n:=n) h ho h1 (q02 h2) (by have h4:=q0a h3; clear h3; cases v<;>first | (cases h4; done) | exact h4 | (simp only at h4 ⊢; split at h4<;>rename_i hh<;>simp only[hh]<;>exact h4)) he
   | next x str=>
     simp only[opA,ho]at he;obtain⟨v,h1,he⟩:=R.zak he;exact z5t h ho h1 he
   | call c=>
     cases hc:c.callee with
     | builtin b=>
       have hcall:∀ xs:List Operand,∀ ts:List TypeId,c.args.toList=xs→c.argTypes.toList=ts→o.op= .call {callee:= .builtin b,args:=xs.toArray,argTypes:=ts.toArray}:=fun xs ts h1 h2=>by
        rw[ho]; cases c; simp only at hc h1 h2; subst hc; rw[←h1,←h2]
       simp only[opA,ho]at he; have he:q6g P c o S= .ok l:=he; simp only[q6g,hc]at he;obtain⟨vs,h1,he2⟩:=R.zak he;split at he2
       · simp only[effO,ho,hc]at hef; cases hef
       · simp only[effO,ho,hc]at hef; cases hef
       · simp only[effO,ho,hc]at hef; cases hef
       · rename_i vx vy t u ht
         obtain⟨x,y,hx1,hx2,hx3⟩:=qd7 h1;obtain⟨L,h3,h4⟩:=R.zak he2;exact qxi h (hcall [x,y] [t,u] hx1 ht) hx2 hx3 h3 h4
       · rename_i vx vy t u ht
         obtain⟨x,y,hx1,hx2,hx3⟩:=qd7 h1;obtain⟨p,h3,h4⟩:=R.zak he2;exact z5q h (hcall [x,y] [t,u] hx1 ht) hx2 hx3 h3 h4
       · cases he2
     | value f=>simp only[opA,ho]at he; have he:q6g P c o S= .ok l:=he; simp only[q6g,hc]at he; cases he
     | invoke r m=>simp only[opA,ho]at he; have he:q6g P c o S= .ok l:=he; simp only[q6g,hc]at he; cases he
   | _=>first | (simp only[opA,ho]at he; cases he; done) | (exfalso; simp only[effO,ho]at hef; cases hef; done) | (exfalso; simp only[newO,ho]at hnn; cases hnn; done)
end Go.K
namespace Go.K
open Go Go.J
noncomputable section
section sub
variable{σ:Sb}{ν ν1:Va}(hn:σ.n0≤σ.n1)(hg:Ov σ ν ν1)
include hn hg
mutual
theorem z96{hB:AH}:∀ {t t':AT},t.sb σ=some t'→ ∀ {v:AV},okT ν1 hB t v→okT ν hB t' v
 | .int a b,t',h,v,hv=>by
   simp only[AT.sb]at h;split at h
   · rename_i a' b' h1 h2
     simp only[zbe]at h; subst h;obtain⟨n,e,x1,x2⟩:=hv;exact⟨n,e,by rw[←q1e hn hg h1]; exact x1,by rw[←q1e hn hg h2]; exact x2⟩
   · cases h
 | .bool,t',h,v,hv=>by simp only[AT.sb,zbe]at h; subst h; exact hv
 | .str,t',h,v,hv=>by simp only[AT.sb,zbe]at h; subst h; exact hv
 | .sl a b x ty,t',h,v,hv=>by
   simp only[AT.sb]at h;split at h
   · rename_i a' b' ty' h1 h2 h3
     simp only[zbe]at h; subst h;obtain⟨p,n,k,e,x1,x2,x3,x4⟩:=hv;have hl:=q22 h3;refine⟨p,n,k,e,by rw[←q1e hn hg h1]; exact x1,by rw[←q1e hn hg h2]; exact x2,x3,fun h0=>?_⟩
     obtain⟨id,off,cs,y1,y2,y3,y4⟩:=x4 h0;refine⟨id,off,cs,y1,y2,by rw[hl]; exact y3,fun q hq=>?_⟩
     rw[hl]at hq;obtain⟨w,z1,z2⟩:=y4 q hq;exact⟨w,z1,by rw[hl]; exact qe1 h3 z2⟩
   · cases h
theorem qe1{hB:AH}:∀ {t t':List AT},sbT σ t=some t'→ ∀ {j:Nat} {v:AV},okN ν1 hB t j v→okN ν hB t' j v
 | [],t',h,j,v,hv=>by simp only[okN]at hv
 | x :: r,t',h,j,v,hv=>by
   simp only[sbT]at h;split at h
   · rename_i x' r' h1 h2
     simp only[zbe]at h; subst h;cases j with
     | zero=>exact z96 h1 hv
     | succ j=>exact qe1 h2 hv
   · cases h
end
theorem z70{hB:AH}{t t':List AT}(h:sbT σ t=some t'){cs:List AV}(hc:CT ν1 hB t cs):CT ν hB t' cs:=fun q w hq=>by
 rw[q22 h]; exact qe1 hn hg h (hc q w hq)
theorem z60{hB:AH}:∀ {l l':List Sg} {cs:List AV},sbSg σ l=some l'→SgOk ν1 hB l cs→SgOk ν hB l' cs
 | [],l',cs,h,hc=>by simp only[sbSg,zbe]at h; subst h; exact hc
 | g :: r,l',cs,h,hc=>by
   simp only[sbSg]at h;split at h
   · rename_i g' r' h1 h2
     simp only[zbe]at h; subst h;cases g with
     | one v=>
       simp only[Sg.sb,zbw]at h1;obtain⟨v',k1,rfl⟩:=h1;obtain⟨cs',e,hr⟩:=hc;exact⟨cs',by rw[←v_sb hn hg k1]; exact e,z60 h2 hr⟩
     | arr n ty=>
       simp only[Sg.sb]at h1;split at h1
       · rename_i n' ty' k1 k2
         simp only[zbe]at h1; subst h1;obtain⟨z,c1,c2,e1,e2,e3,e4⟩:=hc;have en:=q1e hn hg k1;refine⟨by rw[←en]; exact z,c1,c2,e1,by rw[←en,q22 k2]; exact e2,fun q w hq=>by rw[q22 k2]; exact qe1 hn hg k2 (e3 q w hq),z60 h2 e4⟩
       · cases h1
   · cases h
theorem z4z{cs:List AV}:∀ {kn:List (Lin×V)},KnOk ν1 cs kn→KnOk ν cs (sbKn σ kn)
 | [],_=>fun p hp=>by cases hp
 | q :: r,h=>by
   unfold sbKn;have hr:KnOk ν1 cs r:=fun p hp=>h p (zbh _ hp)
   split
   · rename_i o v h1 h2
     intro p hp;rcases zbm.1 hp with rfl | hp
     · have:=h q zbq
       simp only;rw[←q1e hn hg h1,←v_sb hn hg h2]; exact this
     · exact z4z hr p hp
   · exact z4z hr
theorem z99{hB hh:AH}{c:Nat}(hc:c<σ.n0){k k':Ck}(h:k.sb σ=some k')(hk:okC ν1 hB hh c k):okC ν hB hh c k'∧nameOf ν (c,k')=nameOf ν1 (c,k):=by
 obtain⟨o1,o2,o3,o4⟩:=q3r hn hg hc;cases k with
 | own l kn=>
   simp only[Ck.sb,zbw]at h;obtain⟨l',h1,rfl⟩:=h;obtain⟨cs,k1,k2,k3⟩:=hk;exact⟨⟨cs,by rw[←o2]; exact k1,z60 hn hg h1 k2,z4z hn hg k3⟩,by simp only[nameOf,o2]⟩
 | bld ty kn=>
   simp only[Ck.sb,zbw]at h;obtain⟨ty',h1,rfl⟩:=h;obtain⟨⟨n,k1,k2⟩,_⟩:=hk;refine⟨⟨⟨n,by rw[←o1]; exact k1,?_⟩,fun p hp=>by cases hp⟩,by simp only[nameOf,o3]⟩
   rcases k2 with⟨z,k2⟩ | ⟨i,cs,k2,k3,k4,k5⟩
   · exact .inl ⟨z,by rw[←o3]; exact k2⟩
   · exact .inr ⟨i,cs,by rw[←o3]; exact k2,by rw[q22 h1]; exact k3,by rw[q22 h1]; exact k4,z70 hn hg h1 k5⟩
 | siter n p=>
   simp only[Ck.sb]at h;split at h
   · rename_i n' p' h1 h2
     simp only[zbe]at h; subst h;obtain⟨s,q,k1,k2,k3⟩:=hk;exact⟨⟨s,q,by rw[←o2]; exact k1,by rw[←q1e hn hg h1]; exact k2,by rw[←q1e hn hg h2]; exact k3⟩,by simp only[nameOf,o2]⟩
   · cases h
 | mp kk agg ty bn=>
   simp only[Ck.sb,zbw]at h;obtain⟨ty',h1,rfl⟩:=h;obtain⟨es,cl,k1,k2,k3,k4⟩:=hk;refine⟨⟨es,cl,by rw[←o2]; exact k1,k2,fun e he=>?_,fun s hs=>by cases hs⟩,by simp only[nameOf,o2]⟩
   have:=k3 e he;cases agg with
   | true=>obtain⟨cs,a,b,d⟩:=this; exact⟨cs,a,by rw[q22 h1]; exact b,fun j w hw=>qe1 hn hg h1 (d j w hw)⟩
   | false=>exact⟨by rw[q22 h1]; exact this.1,qe1 hn hg h1 this.2⟩
 | loop st pd=>
   simp only[Ck.sb,zbe]at h; subst h;obtain⟨X,k1,k2⟩:=hk;exact⟨⟨X,by rw[←o4]; exact k1,by rw[←o2]; exact k2⟩,by simp only[nameOf,o2]⟩
 | mark=>
   simp only[Ck.sb,zbe]at h; subst h;exact⟨(show hh.get (ν.n c)=_ by rw[←o2]; exact hk),by simp only[nameOf,o2]⟩
theorem qx3{c:Nat}{v:V}(h0:¬ c<σ.n0)(h:σ.get c=some (.av v)):ν1.a c=cv ν v∧ ∀ e,lenV v=some e→ν1.i c=e.ev ν.i:=by
 obtain⟨x1,x2⟩:=hg.new c (qch h) h0;exact⟨by rw[x2]; simp[ovr,h0,h],fun e he=>by rw[x1]; simp[ovr,h0,h,he]⟩
def Bs(ν ν1:Va)(hB hh:AH)(l l':List (Nat×Ck)):Prop:= ∀ p'∈l',okC ν hB hh p'.1 p'.2∧ ∃ p∈l,nameOf ν p'=nameOf ν1 p
theorem z7d{hB hh:AH}:∀ {l l':List (Nat×Ck)},sbHp σ l= .ok l'→(∀ p∈l,okC ν1 hB hh p.1 p.2)→l.Pairwise (qb4 ν1)→
 (∀ p'∈l',okC ν hB hh p'.1 p'.2∧ ∃ p∈l,nameOf ν p'=nameOf ν1 p)∧l'.Pairwise (qb4 ν)
 | [],l',h,_,_=>by cases h; exact⟨fun p hp=>(by cases hp),.nil⟩
 | p :: r,l',h,hk,hp=>by
   obtain⟨k',h1,h⟩:=R.zak h;obtain⟨r',h2,h⟩:=R.zak h;obtain⟨i1,i2⟩:=z7d h2 (fun q hq=>hk q (zbh _ hq)) (zco.1 hp).2
   have hk0:=hk p zbq
   have up:∀ p'∈r',okC ν hB hh p'.1 p'.2∧ ∃ q∈p :: r,nameOf ν p'=nameOf ν1 q:=fun p' hp'=>by
    obtain⟨a,q,b,c⟩:=i1 p' hp';exact⟨a,q,zbh _ b,c⟩
   have add:∀ (q':Nat×Ck),okC ν hB hh q'.1 q'.2→nameOf ν q'=nameOf ν1 p→(∀ p'∈q' :: r',okC ν hB hh p'.1 p'.2∧ ∃ q∈p :: r,nameOf ν p'=nameOf ν1 q)∧(q' :: r').Pairwise (qb4 ν):=fun q' a b=>by
    refine⟨fun p' hp'=>?_,zco.2 ⟨fun p' hp' j hj hj2=>?_,i2⟩⟩
    · rcases zbm.1 hp' with rfl | hp'
      · exact⟨a,p,zbq,b⟩
      · exact up p' hp'
    · obtain⟨_,q,hq,e⟩:=i1 p' hp'
      exact(zco.1 hp).1 q hq j (by rw[←b]; exact hj) (by rw[←e]; exact hj2)
   split at h
   · rename_i hb
     cases h;obtain⟨a,b⟩:=z99 hn hg (q0e.1 hb) (q0a h1) hk0;exact add _ a b
   · rename_i hb
     have h0:=q2r hb;split at h
     · rename_i ty kn9 d hs _
       cases h;obtain⟨e1,e2⟩:=qx3 hn hg h0 hs;have ei:=e2 _ rfl;rw[ev_s]at ei;simp only[cv]at e1;obtain⟨pc,pk⟩:=p;simp only at h1 hk0 e1 ei h0 hs;cases pk with
       | bld ty0 kn0=>
         have h1:=q0a h1;simp only[Ck.sb,zbw]at h1;obtain⟨ty',k1,k2⟩:=h1;cases k2;obtain⟨⟨n,x1,x2⟩,_⟩:=hk0;refine add (d,.bld ty []) ⟨⟨n,by rw[←ei]; exact x1,?_⟩,fun p hp=>by cases hp⟩ (by simp only[nameOf,e1])
         rcases x2 with⟨z,x2⟩ | ⟨i,cs,x2,x3,x4,x5⟩
         · exact .inl ⟨z,by rw[←e1]; exact x2⟩
         · exact .inr ⟨i,cs,by rw[←e1]; exact x2,by rw[q22 k1]; exact x3,by rw[q22 k1]; exact x4,z70 hn hg k1 x5⟩
       | own l kn=>have h1:=q0a h1; simp only[Ck.sb,zbw]at h1; obtain⟨_,_,e⟩:=h1; cases e
       | mp a b c d=>have h1:=q0a h1; simp only[Ck.sb,zbw]at h1; obtain⟨_,_,e⟩:=h1; cases e
       | siter a b=>
         have h1:=q0a h1;simp only[Ck.sb]at h1;split at h1
         · cases h1
         · cases h1
       | loop a b=>have h1:=q0a h1; simp only[Ck.sb]at h1; cases h1
       | mark=>have h1:=q0a h1; simp only[Ck.sb]at h1; cases h1
     · cases h
       exact⟨up,i2⟩
     · cases h
theorem z6z:∀ {l l':List Lin},sbCs σ l= .ok l'→(∀ e∈l,0≤e.ev ν1.i)→ ∀ e∈l',0≤e.ev ν.i
 | [],l',h,_=>by cases h; exact fun e he=>by cases he
 | e :: r,l',h,hl=>by
   obtain⟨e',h1,h⟩:=R.zak h;obtain⟨r',h2,h⟩:=R.zak h;cases h;intro x hx;rcases zbm.1 hx with rfl | hx
   · rw[←q1e hn hg (q0a h1)]; exact hl e zbq
   · exact z6z h2 (fun y hy=>hl y (zbh _ hy)) x hx
theorem z78{hB:AH}:∀ {l l':List Fa},sbFa σ l= .ok l'→(∀ f∈l,okF ν1 hB f)→ ∀ f∈l',okF ν hB f
 | [],l',h,_=>by cases h; exact fun e he=>by cases he
 | f :: r,l',h,hl=>by
   obtain⟨r',h2,h⟩:=R.zak h;have ih:=z78 h2 (fun y hy=>hl y (zbh _ hy))
   have hf:=hl f zbq;split at h
   · rename_i c
     split at h
     · rename_i d h0 hs
       cases h;obtain⟨e1,e2⟩:=qx3 hn hg (q2r h0) hs;have ei:=e2 _ rfl;rw[ev_s]at ei;simp only[cv]at e1;intro x hx;rcases zbm.1 hx with rfl | hx
       · obtain⟨b,x1,x2⟩:=hf
         exact⟨b,by rw[←e1]; exact x1,by rw[←ei]; exact x2⟩
       · exact ih x hx
     · cases h
   · rename_i c x ty
     split at h
     · rename_i d ty' h0 hs ht
       cases h;obtain⟨e1,e2⟩:=qx3 hn hg (q2r h0) hs;have ei:=e2 _ rfl;rw[ev_s]at ei;simp only[cv]at e1;intro y hy;rcases zbm.1 hy with rfl | hy
       · obtain⟨p,n,k,x1,x2,x3,x4⟩:=hf
         refine⟨p,n,k,by rw[←e1]; exact x1,by rw[←ei]; exact x2,x3,fun h0=>?_⟩
         obtain⟨id,off,cs,y1,y2,y3,y4⟩:=x4 h0;have hl:=q22 ht;refine⟨id,off,cs,y1,y2,by rw[hl]; exact y3,fun q hq=>?_⟩
         rw[hl]at hq;obtain⟨w,z1,z2⟩:=y4 q hq;exact⟨w,z1,by rw[hl]; exact qe1 hn hg ht z2⟩
       · exact ih y hy
     · cases h
   · cases h
end sub
end
end Go.K
namespace Go.K
open Go Go.J
noncomputable section
theorem qfc{n:Nat}{e:Lin}{ν ν':Va}(h:ltL n e=true)(ag:Ag n ν ν'):e.ev ν'.i=e.ev ν.i:=by
 simp only[Lin.ev];congr 1
 have:∀ l:List (Nat×Int),(l.all fun p=>Nat.blt p.1 n)=true→evT ν'.i l=evT ν.i l:=by
  intro l
  induction l with
  | nil=>intro _; rfl
  | cons p r ih=>
    intro hl;simp only[List.all_cons,zbf]at hl;simp only[evT,ih hl.2,(ag p.1 (q0e.1 hl.1)).1]
 exact this _ h
theorem z45{n:Nat}{b:Bx}{ν ν':Va}(h:bxLt n b=true)(ag:Ag n ν ν'):b.ev ν'.i=b.ev ν.i:=by
 cases b with
 | lit b=>rfl
 | ge e=>simp only[Bx.ev,qfc (e:=e) h ag]
 | eq e=>simp only[Bx.ev,qfc (e:=e) h ag]
 | ne e=>simp only[Bx.ev,qfc (e:=e) h ag]
theorem qzs{n:Nat}{v:V}{ν ν':Va}(h:quw n (.av v)=true)(ag:Ag n ν ν'):cv ν' v=cv ν v∧ ∀ e,lenV v=some e→e.ev ν'.i=e.ev ν.i:=by
 cases v with
 | sym c=>
   have hc:=q0e.1 h;refine⟨by simp only[cv,(ag c hc).2.2.1],fun e he=>?_⟩
   simp only[lenV,zbe]at he;subst he;simp only[ev_s,(ag c hc).1]
 | nils=>exact⟨by simp only[cv],fun e he=>by simp only[lenV,zbe]at he; subst he; simp only[ev_k]⟩
 | strc s=>exact⟨by simp only[cv],fun e he=>by simp only[lenV,zbe]at he; subst he; simp only[ev_k]⟩
 | _=>simp only[quw]at h; cases h
theorem qqa{n:Nat}:∀ {l:Sl} {c:Nat} {x:Asg},q9q n l=true→getL l c=some x→quw n x=true
 | [],c,x,_,h=>by cases h
 | p :: r,c,x,hl,h=>by
   simp only[q9q,zbf]at hl;simp only[q0h,q0c]at h;split at h
   · cases h; exact hl.1
   · exact qqa hl.2 h
theorem qev{m h c:Nat}{l:Sl}:∀ {k:Nat},getL (qck m h k++l) c=if h≤c∧c<h+k then some (.av (.sym (m+(c - h)))) else getL l c
 | 0=>by
   rw[if_neg (by omega)]; rfl
 | k+1=>by
   simp only[qck,List.cons_append,q0h,q0c];split
   · rename_i hb
     have e:=zbg hb;subst e;rw[if_pos (by omega)]
     congr 3; omega
   · rename_i hb
     have hne:h+k≠c:=fun e=>by subst e; simp at hb
     rw[qev]
     by_cases hc:h≤c∧c<h+k
     · rw[if_pos hc,if_pos (by omega)]
     · rw[if_neg hc,if_neg (by omega)]
theorem Ov.inst{σ:Sb}{n0 h m k:Nat}{ν2 ν3 ν4:Va}(e0:σ.n0=n0)(e1:σ.n1=h)(h01:n0≤h)(hlt:q9q m σ.l=true)(hm:n0≤m)(a4:Ag h (ovr σ ν2) ν4)(a23:Ag m ν2 ν3)
 (hnew:∀ j,j<k→ν3.i (m+j)=ν4.i (h+j)∧ν3.a (m+j)=ν4.a (h+j)):Ov ⟨n0,h+k,qck m h k++σ.l⟩ ν3 ν4:=by
 subst e0; subst e1;have hA:Ag σ.n0 ν2 ν4:=(q8t σ ν2).trans (a4.mono h01) (zbi _);refine⟨(a23.mono hm).symm.trans hA (zbi _),fun c hc h0=>?_⟩
 have hget:(⟨σ.n0,σ.n1+k,qck m σ.n1 k++σ.l⟩:Sb).get c=if σ.n1≤c∧c<σ.n1+k then some (.av (.sym (m+(c - σ.n1)))) else getL σ.l c:=by
  rw[Sb.zal];rw[q0e.2 hc];exact qev
 rcases Nat.lt_or_ge c σ.n1 with hlt' | hge
 · have hg':(⟨σ.n0,σ.n1+k,qck m σ.n1 k++σ.l⟩:Sb).get c=σ.get c:=by
    rw[hget,if_neg (by omega)]
    rw[Sb.zal];rw[q0e.2 hlt']
   have x:=a4 c hlt';rw[x.1,x.2.2.1];simp only[ovr,h0,if_false,hg'];cases hx:σ.get c with
   | none=>exact⟨rfl,rfl⟩
   | some y=>
     have hy:quw m y=true:=by
      rw[Sb.zal]at hx;rw[q0e.2 hlt']at hx;exact qqa hlt hx
     cases y with
     | num e=>exact⟨(qfc (e:=e) hy a23).symm,rfl⟩
     | bl b=>exact⟨by simp only[z45 (b:=b) hy a23],rfl⟩
     | av v=>
       obtain⟨y1,y2⟩:=qzs hy a23;refine⟨?_,y1.symm⟩;show(match lenV v with | some e=>e.ev ν2.i | none=>0)=(match lenV v with | some e=>e.ev ν3.i | none=>0)
       revert y2;cases lenV v with
       | none=>intro _; rfl
       | some e=>intro y2; simp only[y2 e rfl]
 · have hj:c=σ.n1+(c - σ.n1):=by omega
   have hc':c<σ.n1+k:=hc;have:=hnew (c - σ.n1) (by omega)
   rw[←hj]at this;simp only[ovr,h0,if_false,hget,if_pos (show σ.n1≤c∧c<σ.n1+k from⟨hge,hc⟩),lenV,ev_s,cv];exact⟨this.1.symm,this.2.symm⟩
def glue(m h:Nat)(ν2 ν4:Va):Va:=
 ⟨fun i=>if i<m then ν2.i i else ν4.i (h+(i - m)),fun i=>if i<m then ν2.n i else ν4.n (h+(i - m)),fun i=>if i<m then ν2.a i else ν4.a (h+(i - m)),fun i=>if i<m then ν2.e i else ν4.e (h+(i - m))⟩
theorem qoa(m h:Nat)(ν2 ν4:Va):Ag m ν2 (glue m h ν2 ν4):=fun i hi=>by simp[glue,hi]
def qi2(H:AS)(p:LAnn):AS:={q1n {H with sl:=[]} p with sl:=[]}
theorem qex{rc:RC}{σ:Sb}{S S2:AS}{p:LAnn}{o:Out}{ν ν2 ν4:Va}{hB hB2 hB4:AH}{s s2 s4:St}{a:AV}{vr:V}(hr:z4p rc σ S S2 p= .ok o)(h:γ S ν hB s)(a2:Ag S.ns ν ν2)(n2:S.ns≤S2.ns)(g2:γ S2 ν2 hB2 s2)
 (e0:σ.n0=rc.n0)(e1:σ.n1=rc.H.ns)(h01:rc.n0≤rc.H.ns)(hlt:q9q S2.ns σ.l=true)(hm:rc.n0≤S2.ns)(a4:Ag rc.H.ns (ovr σ ν2) ν4)(l4:Le hB2 hB4)(g4:γ (qi2 rc.H p) ν4 hB4 s4)
 (c4:∀ e∈p.cs,0≤e.ev ν4.i)(v4:getL p.sl 0=some vr)(i4:Is (qi2 rc.H p) ν4 vr a):
 ∃ v' ν3,o.x= .val v'∧Ag S.ns ν ν3∧S.ns≤o.S.ns∧γ o.S ν3 hB4 ⟨s.slots,s4.h,s.n,s.defs⟩∧Is o.S ν3 v' a:=by
 obtain⟨v,h1,hr⟩:=R.zak hr;obtain⟨v',h2,hr⟩:=R.zak hr;obtain⟨hp,h3,hr⟩:=R.zak hr;obtain⟨cs,h5,hr⟩:=R.zak hr;obtain⟨fa,h6,hr⟩:=R.zak hr;cases hr;have h1:=q0a h1;have h2:=q0a h2;rw[v4]at h1;cases h1
 let ν3:=glue S2.ns rc.H.ns ν2 ν4
 have hn:rc.n0≤rc.H.ns+p.k:=by omega
 have ov:∀ ν',Ag (S2.ns+p.k) ν3 ν'→Ov ⟨rc.n0,rc.H.ns+p.k,qck S2.ns rc.H.ns p.k++σ.l⟩ ν' ν4:=fun ν' hν=>by
  refine Ov.inst e0 e1 h01 hlt hm a4 ((qoa _ _ _ _).trans (hν.mono (Nat.le_add_right _ _)) (zbi _)) fun j hj=>?_
  have x:=hν (S2.ns+j) (by omega)
  rw[x.1,x.2.2.1];have c1:¬ S2.ns+j<S2.ns:=by omega
  have c2:rc.H.ns+(S2.ns+j - S2.ns)=rc.H.ns+j:=by omega
  simp only[ν3,glue,c1,if_false,c2,and_self]
 have ag2:∀ ν',Ag (S2.ns+p.k) ν3 ν'→Ag S2.ns ν2 ν':=fun ν' hν=>(qoa _ _ _ _).trans (hν.mono (Nat.le_add_right _ _)) (zbi _)
 have agS:∀ ν',Ag (S2.ns+p.k) ν3 ν'→Ag S.ns ν ν':=fun ν' hν=>a2.trans (ag2 ν' hν) n2
 have G4:=g4.self;refine⟨v',ν3,rfl,a2.trans (qoa _ _ _ _) n2,by show S.ns≤S2.ns+p.k; omega,⟨h.n,g4.le,fun ν' hν=>?_⟩,fun ν' hν=>?_⟩
 · have hν:Ag (S2.ns+p.k) ν3 ν':=hν
   have o':=ov ν' hν;have GS:=h.g ν' (agS ν' hν);have G2:=g2.g ν' (ag2 ν' hν);obtain⟨b1,b2⟩:=z7d hn o' h3 G4.hp G4.dj;refine⟨GS.sl,fun e he=>?_,fun f hf=>?_,fun q hq=>(b1 q hq).1,b2,fun q hq i hi=>?_,GS.df⟩
   · exact Tr.zb5 G2.cs (z6z hn o' h5 c4) e he
   · rcases zbr.1 hf with hf | hf
     · exact z78 hn o' h6 (fun f hf=>G4.fa f (List.mem_append_left _ hf)) f hf
     · exact(G2.fa f hf).le l4
   · obtain⟨_,q0,k1,k2⟩:=b1 q hq
     exact G4.nb q0 k1 i (by rw[←k2]; exact hi)
 · have hν:Ag (S2.ns+p.k) ν3 ν':=hν
   rw[←v_sb hn (ov ν' hν) h2];exact i4 ν4 (.refl _ _)
theorem qad{rc:RC}{σ:Sb}{S S2:AS}:∀ {ps:List LAnn} {l:List Out} {p:LAnn},qsy rc σ S S2 ps= .ok l→p∈ps→ ∃ o,z4p rc σ S S2 p= .ok o∧o∈l
 | [],l,p,_,hp=>by cases hp
 | q :: r,l,p,h,hp=>by
   obtain⟨o,h1,h⟩:=R.zak h;obtain⟨l',h2,h⟩:=R.zak h;cases h;rcases zbm.1 hp with rfl | hp
   · exact⟨o,h1,zbq⟩
   · obtain⟨o',k1,k2⟩:=qad h2 hp
     exact⟨o',k1,zbh _ k2⟩
theorem qw0{n0:Nat}{a:LAnn}{H S S':AS}{σ:Sb}(he:fits n0 a H S= .ok (σ,S'))(h0:n0≤H.ns){ν:Va}{hB:AH}{s:St}(g:γ S' ν hB s):∀ e∈a.cs,0≤e.ev (ovr σ ν).i:=by
 obtain⟨S1,e1,he⟩:=R.zak he;obtain⟨S2,e2,he⟩:=R.zak he;obtain⟨_,q1,he⟩:=R.zak he;obtain⟨_,q2,he⟩:=R.zak he;obtain⟨_,q3,he⟩:=R.zak he;obtain⟨_,q4,he⟩:=R.zak he;obtain⟨_,q5,he⟩:=R.zak he;obtain⟨_,q6,he⟩:=R.zak he;simp only[R.ok.injEq,zbt]at he;obtain⟨hσ,hS⟩:=he;subst hS;rw[hσ]at q5;have hn:σ.n0≤σ.n1:=by rw[←hσ]; exact h0
 intro e hm;obtain⟨e',x1,x2⟩:=qep q5 e hm;rw[q1e hn (.of hn (.refl _ _)) x1];exact q1t g x2 ν (.refl _ _)
end
end Go.K
namespace Go.K
open Go Go.J
mutual
theorem z8s:∀ {a b:AT},tyE a b=true→a=b
 | .int a b,t,h=>by
   cases t<;>simp only[tyE,zbf,zbn]at h
   rw[q2h h.1,q2h h.2]
 | .bool,t,h=>by cases t<;>simp only[tyE,zbn]at h; rfl
 | .str,t,h=>by cases t<;>simp only[tyE,zbn]at h; rfl
 | .sl a b x u,t,h=>by
   cases t<;>simp only[tyE,zbf,zbn]at h
   obtain⟨⟨⟨h1,h2⟩,h3⟩,h4⟩:=h;rw[q2h h1,q2h h2,q9j h4];simp only[AT.sl.injEq,true_and,and_true];simpa using h3
theorem q9j:∀ {a b:List AT},tysE a b=true→a=b
 | [],[],_=>rfl
 | [],_ :: _,h=>by simp[tysE]at h
 | _ :: _,[],h=>by simp[tysE]at h
 | a :: r,b :: s,h=>by
   simp only[tysE,zbf]at h;rw[z8s h.1,q9j h.2]
end
theorem qy0:∀ {a b:List Sg},sgE a b=true→a=b
 | [],[],_=>rfl
 | [],_ :: _,h=>by simp[sgE]at h
 | .one _ :: _,[],h=>by simp[sgE]at h
 | .arr _ _ :: _,[],h=>by simp[sgE]at h
 | .one a :: r,.one b :: s,h=>by
   simp only[sgE,zbf]at h;rw[qb2 h.1,qy0 h.2]
 | .one _ :: _,.arr _ _ :: _,h=>by simp[sgE]at h
 | .arr _ _ :: _,.one _ :: _,h=>by simp[sgE]at h
 | .arr n t :: r,.arr m u :: s,h=>by
   simp only[sgE,zbf]at h;rw[q2h h.1.1,q9j h.1.2,qy0 h.2]
theorem qoj{kb:List (Lin×V)}:∀ {ka:List (Lin×V)},knE kb ka=true→ ∀ p∈ka,p∈kb
 | [],_,p,hp=>by cases hp
 | q :: r,h,p,hp=>by
   simp only[knE,zbf]at h;rcases zbm.1 hp with rfl | hp
   · have h1:=h.1
     split at h1
     · rename_i v hv
       have:=q5p hv;rw[qb2 h1]at this;exact this
     · cases h1
   · exact qoj h.2 p hp
theorem qqg{ν:Va}{hB h:AH}{c:Nat}:∀ {k k':Ck},ckE k k'=true→okC ν hB h c k→okC ν hB h c k'∧nameOf ν (c,k')=nameOf ν (c,k)
 | .own a ka,k',he,hk=>by
   cases k'<;>simp only[ckE,zbf,zbn]at he
   obtain⟨cs,k1,k2,k3⟩:=hk;rw[←qy0 he.1];exact⟨⟨cs,k1,k2,fun p hp=>k3 p (qoj he.2 p hp)⟩,rfl⟩
 | .bld t ka,k',he,hk=>by
   cases k'<;>simp only[ckE,zbf,zbn]at he
   obtain⟨k1,k2⟩:=hk;rw[←q9j he.1];exact⟨⟨k1,fun p hp=>k2 p (qoj he.2 p hp)⟩,rfl⟩
 | .siter n p,k',he,hk=>by
   cases k'<;>simp only[ckE,zbf,zbn]at he
   rw[←q2h he.1,←q2h he.2];exact⟨hk,rfl⟩
 | .mp k1 a1 t b1,k',he,hk=>by
   cases k'<;>simp only[ckE,zbf,zbn]at he
   rename_i k2 a2 u b2;obtain⟨⟨⟨h1,h2⟩,h3⟩,h4⟩:=he;have h2:a1=a2:=by simpa using h2
   obtain⟨es,cl,x1,x2,x3,x4⟩:=hk;rw[←qoi h1,←h2,←q9j h3];refine⟨⟨es,cl,x1,x2,x3,fun s hs=>?_⟩,rfl⟩
   subst hs;cases b1 with
   | none=>cases h4
   | some y=>
     have:y=s:=zbg h4;exact x4 s (by rw[this])
 | .loop st pd,k',he,hk=>by
   cases k'<;>simp only[ckE,zbf,zbn]at he
   rw[←zbg he.1,←qxm he.2];exact⟨hk,rfl⟩
 | .mark,k',he,hk=>by
   cases k'<;>simp only[ckE,zbn]at he
   exact⟨hk,rfl⟩
theorem z77{f g:Fa}(h:faE f g=true):f=g:=by
 cases f<;>cases g<;>simp only[faE,zbf,zbn]at h
 · rw[zbg h]
 · obtain⟨⟨h1,h2⟩,h3⟩:=h
   rw[zbg h1,q9j h3];simp only[Fa.sl.injEq,true_and,and_true];simpa using h2
 · rw[zbg h.1.1,q2h h.1.2,q9j h.2]
 · rw[zbg h.1.1,q2h h.1.2,qb2 h.2]
theorem qqn{fa:List Fa}:∀ {l:List Fa},faIn fa l=true→ ∀ f∈l,f∈fa
 | [],_,f,hf=>by cases hf
 | g :: r,h,f,hf=>by
   simp only[faIn,zbf,List.any_eq_true]at h;rcases zbm.1 hf with rfl | hf
   · obtain⟨x,x1,x2⟩:=h.1
     rw[←z77 x2]; exact x1
   · exact qqn h.2 f hf
theorem qdc{hp:List (Nat×Ck)}:∀ {l:List (Nat×Ck)},hpIn hp l=true→ ∀ p∈l,∃ k,getL hp p.1=some k∧ckE k p.2=true
 | [],_,p,hp=>by cases hp
 | q :: r,h,p,hm=>by
   simp only[hpIn,zbf]at h;rcases zbm.1 hm with rfl | hm
   · have h1:=h.1
     split at h1
     · rename_i k hk; exact⟨k,hk,h1⟩
     · cases h1
   · exact qdc h.2 p hm
theorem z8i{hp:List (Nat×Ck)}{ν:Va}{hB h:AH}(hk:∀ p∈hp,okC ν hB h p.1 p.2)(dj:hp.Pairwise (qb4 ν)):∀ {l:List (Nat×Ck)},hpIn hp l=true→q5d (l.map (·.1))=true→l.Pairwise (qb4 ν)
 | [],_,_=> .nil
 | p :: r,hi,hd=>by
   have hm:=qdc hi;simp only[hpIn,zbf]at hi;simp only[zc3,q5d,zbf,Bool.not_eq_true']at hd;refine zco.2 ⟨fun q hq i hi1 hi2=>?_,z8i hk dj hi.2 hd.2⟩
   obtain⟨k,x1,x2⟩:=hm p zbq;obtain⟨k',y1,y2⟩:=hm q (zbh _ hq)
   have hne:q.1≠p.1:=fun e=>by
    have:memN p.1 (r.map (·.1))=true:=qdl.2 (zcd.2 ⟨q,hq,e⟩);rw[this]at hd; cases hd.1
   have n1:=(qqg x2 (hk _ (q05 x1))).2;have n2:=(qqg y2 (hk _ (q05 y1))).2;have:=q6i dj x1 (q05 y1) hne i (by rw[←n1]; exact hi1)
   exact this (by rw[←n2]; exact hi2)
variable{S:AS}{ν:Va}{hB:AH}{s:St}{P:Program}
theorem qtu{l:Lem}(h:γ S ν hB s)(hw:z67 S l=true):S.ns=l.ns∧γ l.T ν hB ⟨[],s.h,0,[]⟩:=by
 simp only[z67,zbf]at hw;obtain⟨h1,h2,h3,h4,h5⟩:=hw;have e:S.ns=l.ns:=zbg h1;refine⟨e,rfl,h.le,fun ν' hg=>?_⟩
 have hg':Ag S.ns ν ν':=by rw[e]; exact hg
 have G:=h.g ν' hg';refine⟨fun k v hk=>by simp[Lem.T,q0h]at hk,fun x hx=>?_,fun f hf=>G.fa f (qqn h3 f hf),fun p hp=>?_,z8i G.hp G.dj h4 h5,fun p hp i hi=>?_,rfl⟩
 · refine Tr.zb5 (t:=Tr.nil) (fun y hy=>absurd hy (by simp[Tr.mem_def,Tr.Mem])) (fun y hy=>?_) x hx
   exact q1t h (zc1.1 h2 y hy) ν' hg'
 · obtain⟨k,x1,x2⟩:=qdc h4 p hp
   exact(qqg x2 (G.hp _ (q05 x1))).1
 · obtain⟨k,x1,x2⟩:=qdc h4 p hp
   exact G.nb _ (q05 x1) i (by rw[←(qqg x2 (G.hp _ (q05 x1))).2]; exact hi)
def Ql(l:Lem)(ν:Va)(hB:AH):AEnd→AH→Prop:=fun e h'=> ∃ p∈l.posts,∃ vr a,getL p.sl 0=some vr∧e= .ret a∧ ∃ ν4 hB4 s4,s4.h=h'∧Ag l.ns ν ν4∧Le hB hB4∧γ (qi2 l.T p) ν4 hB4 s4∧(∀ e∈p.cs,0≤e.ev ν4.i)∧Is (qi2 l.T p) ν4 vr a
def q17(P:Program)(l:Lem):Prop:= ∀ ν hB h as,γ l.T ν hB ⟨[],h,0,[]⟩→(∀ ν',Ag l.ns ν ν'→cvL ν' l.args=as)→q0n P l.f as h (Ql l ν hB)
theorem qf6{l:Lem}:∀ {ps:List LAnn} {os:List Out} {p:LAnn},qom l S ps= .ok os→p∈ps→ ∃ o,z2v l S p= .ok o∧o∈os
 | [],_,p,_,hp=>by cases hp
 | q :: r,os,p,h,hp=>by
   obtain⟨o,h1,h⟩:=R.zak h;obtain⟨m,h2,h⟩:=R.zak h;cases h;rcases zbm.1 hp with rfl | hp
   · exact⟨o,h1,zbq⟩
   · obtain⟨o',k1,k2⟩:=qf6 h2 hp
     exact⟨o',k1,zbh _ k2⟩
theorem qtr{T:Type}{l:Lem}{f:Nat}{args:List V}{t t':T}{os:List Out}{N:Nat}{I:Va→AH→Prop}(hl:q17 P l)(hfn:∃ fn c,IsFn P f fn c)(he:useL l f args S t= .ok (os,t')):Snd P N I (.call f args S) os:=by
 obtain⟨_,h1,he⟩:=R.zak he;obtain⟨_,h2,he⟩:=R.zak he;obtain⟨m,h3,he⟩:=R.zak he;cases he;have h1:=q02 h1;simp only[zbf]at h1;have ef:f=l.f:=zbg h1.1;have ea:=qc3 h1.2;subst ef; subst ea;refine⟨hfn,fun ν hB s as _ _ h ha=>?_⟩
 obtain⟨e,g⟩:=qtu h (q02 h2);refine(hl ν hB s.h as g fun ν' hν=>ha ν' (by rw[e]; exact hν)).mono fun e' h' q=>?_
 obtain⟨p,hp,vr,a,v4,rfl,ν4,hB4,s4,rfl,a4,l4,g4,c4,i4⟩:=q;obtain⟨o,o1,o2⟩:=qf6 h3 hp;obtain⟨v,k1,o1⟩:=R.zak o1;obtain⟨_,k2,o1⟩:=R.zak o1;cases o1;have k1:=q0a k1;rw[v4]at k1; cases k1;have k2:=zc1.1 (q02 k2);refine⟨_,o2,vr,a,rfl,rfl,ν4,hB4,by rw[e]; exact a4,by show S.ns≤l.ns+p.k; omega,l4,⟨h.n,g4.le,fun ν' hν=>?_⟩,i4⟩
 have hν:Ag (l.ns+p.k) ν4 ν':=hν;have GS:=h.g ν' (by rw[e]; exact a4.trans hν (by omega))
 have G4:=g4.g ν' hν;refine⟨GS.sl,fun x hx=>?_,fun x hx=>?_,G4.hp,G4.dj,G4.nb,GS.df⟩
 · refine Tr.zb5 GS.cs (fun y hy=>?_) x hx
   rw[qfc (k2 y hy) hν]; exact c4 y hy
 · rcases zbr.1 hx with hx | hx
   · exact G4.fa x (List.mem_append_left _ hx)
   · exact(GS.fa x hx).le l4
end Go.K
namespace Go.K
open Go Go.J
noncomputable section
def Qr(rc:RC)(ν:Va)(hB:AH):AEnd→AH→Prop:=fun e h'=> ∃ p∈rc.posts,∃ vr a,getL p.sl 0=some vr∧e= .ret a∧ ∃ ν4 hB4 s4,s4.h=h'∧Ag rc.H.ns ν ν4∧Le hB hB4∧γ (qi2 rc.H p) ν4 hB4 s4∧(∀ e∈p.cs,0≤e.ev ν4.i)∧Is (qi2 rc.H p) ν4 vr a
structure RcOk(P:Program)(rc:RC)(ν:Va)(hB:AH):Prop where
 root:∃ S0 ν0 hB0 s0,γ S0 ν0 hB0 s0∧rc.n0=S0.ns∧rc.H=q1n S0 rc.a∧Ag S0.ns ν0 ν∧Le hB0 hB
 mu:ltL rc.H.ns rc.a.mu=true
 call:∀ (ν':Va) (hB' h:AH) (as:List AV),Ag rc.n0 ν ν'→Le hB hB'→0≤rc.a.mu.ev ν'.i→rc.a.mu.ev ν'.i<rc.a.mu.ev ν.i→as.length=rc.m→γ rc.H ν' hB' ⟨q4x 0 as,h,rc.H.nt,[]⟩→q0n P rc.f as h (Qr rc ν' hB')
def ncx:List RC→Nat
 | []=>0
 | c :: r=>max c.H.ns (ncx r)
def Icx(P:Program)(cx:List RC)(ν:Va)(hB:AH):Prop:= ∀ rc∈cx,RcOk P rc ν hB
theorem qrd:∀ {cx:List RC} {rc:RC},rc∈cx→rc.H.ns≤ncx cx
 | [],_,h=>by cases h
 | c :: r,rc,h=>by
   simp only[ncx];rcases zbm.1 h with rfl | h
   · omega
   · have:=qrd h; omega
theorem RcOk.n0{P:Program}{rc:RC}{ν:Va}{hB:AH}(h:RcOk P rc ν hB):rc.n0≤rc.H.ns:=by
 obtain⟨S0,_,_,_,_,k1,k2,_⟩:=h.root;rw[k1,k2]; show S0.ns≤S0.ns+rc.a.k; omega
theorem RcOk.to{P:Program}{rc:RC}{ν ν':Va}{hB hB':AH}(h:RcOk P rc ν hB)(ag:Ag rc.H.ns ν ν')(l:Le hB hB'):RcOk P rc ν' hB':=by
 have hn:=h.n0;refine⟨?_,h.mu,fun ν2 hB2 hh as a1 l1 m0 m1 hl g=>h.call ν2 hB2 hh as ((ag.mono hn).trans a1 (zbi _)) (l.trans l1) m0 (by rw[qfc h.mu ag]at m1; exact m1) hl g⟩
 obtain⟨S0,ν0,hB0,s0,k0,k1,k2,k3,k4⟩:=h.root;exact⟨S0,ν0,hB0,s0,k0,k1,k2,k3.trans (ag.mono hn) (by omega),k4.trans l⟩
theorem Icx.to{P:Program}{cx:List RC}(ν ν':Va)(hB hB':AH)(ag:Ag (ncx cx) ν ν')(l:Le hB hB')(h:Icx P cx ν hB):Icx P cx ν' hB':=fun rc hm=>(h rc hm).to (ag.mono (qrd hm)) l
theorem qqw{P:Program}{f:Nat}{u:Unit}(h:qwf P f= .ok u):∃ fn c,IsFn P f fn c:=by
 unfold qwf at h;split at h
 · rename_i fn hfn
   split at h
   · rename_i c hc
     have:=q02 h;exact⟨fn,c,hfn,hc,by simpa using this⟩
   · cases h
 · cases h
section
variable{P:Program}{T:Type}
theorem qtq{rc:RC}{cx:List RC}{args:List V}{S:AS}{t t':T}{os:List Out}{u:Unit}(hm:rc∈cx)(hfn:qwf P rc.f= .ok u)(he:useC rc args S t= .ok (os,t')):Snd P (ncx cx) (Icx P cx) (.call rc.f args S) os:=by
 refine⟨qqw hfn,fun ν hB s as hi hN h ha=>?_⟩
 obtain⟨_,h0,he⟩:=R.zak he;obtain⟨⟨σ,S2⟩,h1,he⟩:=R.zak he;obtain⟨_,h2,he⟩:=R.zak he;obtain⟨l,h3,he⟩:=R.zak he;cases he;have hrc:=hi rc hm;have hmN:=qrd hm;obtain⟨S0,ν0,hB0,s0,k0,k1,k2,k3,k4⟩:=hrc.root;have hlen:as.length=rc.m:=by rw[←ha ν (.refl _ _),q1x]; exact zbg (q02 h0)
 have hn0:=hrc.n0;have gE:γ (qsf rc.H.nt args S) ν hB ⟨q4x 0 as,s.h,rc.H.nt,[]⟩:=qpv h ha;rw[k1,k2]at h1;rw[k2]at gE;have hS0:S0.ns≤S.ns:=by omega
 obtain⟨y0,y1,ν2,hB2,a2,n2,l2,g2,gH⟩:=q3l k0 gE k3 hS0 k4 h1;have a2:Ag S.ns ν ν2:=a2;have n2:S.ns≤S2.ns:=n2;have y1':σ.n1=rc.H.ns:=by rw[k2,y1]; rfl
 obtain⟨m,m1,m2⟩:=q6f h2;simp only[zbf]at m2;obtain⟨⟨⟨c1,c2⟩,c3⟩,c4⟩:=m2;have c3:q9q S2.ns σ.l=true:=c3;have h3:qsy rc σ S S2 rc.posts= .ok os:=h3;have hnn:σ.n0≤σ.n1:=by rw[y0,y1]; omega
 have e3:rc.a.mu.ev (ovr σ ν2).i=m.ev ν2.i:=q1e hnn (.of hnn (.refl _ _)) m1;have e4:rc.a.mu.ev ν2.i=rc.a.mu.ev ν.i:=qfc hrc.mu (a2.mono (by omega))
 have b1:=q01 g2 c1 ν2 (.refl _ _);have b2:=q01 g2 c2 ν2 (.refl _ _);rw[ev_k]at b1;rw[q0f]at b2;rw[←k2]at gH
 have hcall:=hrc.call (ovr σ ν2) hB2 s.h as (by
  have:=q8t σ ν2;rw[y0,←k1]at this;exact(a2.mono (by omega)).trans this (zbi _)) l2 (by rw[e3]; exact b1) (by rw[e3,←e4]; omega) hlen gH
 refine hcall.mono fun e h' q=>?_
 obtain⟨p,hp,vr,a,v4,rfl,ν4,hB4,s4,rfl,a4,l4,g4,cc,i4⟩:=q;obtain⟨o,o1,o2⟩:=qad h3 hp;obtain⟨v',ν3,z1,z2,z3,z4,z5⟩:=qex o1 h a2 n2 g2 (by rw[y0,k1]) y1' hn0 c3 (by omega) a4 l4 g4 cc v4 i4
 exact⟨o,o2,v',a,z1,rfl,ν3,hB4,z2,z3,l2.trans l4,z4,z5⟩
theorem ql1{H:AS}:∀ {n:Nat} {l:List V},qus H n= .ok l→l.length=n∧ ∀ i,i<n→ ∃ v,l[i]?=some v∧getL H.sl i=some v
 | 0,l,h=>by cases h; exact⟨rfl,fun i hi=>by omega⟩
 | n+1,l,h=>by
   obtain⟨l0,h1,h⟩:=R.zak h;obtain⟨v,h2,h⟩:=R.zak h;cases h;obtain⟨e,k⟩:=ql1 h1;refine⟨by simp[e],fun i hi=>?_⟩
   rcases Nat.lt_or_ge i n with c | c
   · obtain⟨w,k1,k2⟩:=k i c
     exact⟨w,by rw[zck (by omega)]; exact k1,k2⟩
   · have:i=n:=by omega
     subst this;exact⟨v,by rw[zcl (by omega),e]; simp,q0a h2⟩
theorem qbd{H S:AS}:∀ {ps:List LAnn} {u:Unit},qet H S ps= .ok u→ ∃ p∈ps,∃ q,fits H.ns p (q1n H p) S= .ok q
 | [],_,h=>by cases h
 | p :: r,u,h=>by
   unfold qet at h;split at h
   · rename_i q hq
     exact⟨p,zbq,q,hq⟩
   · split at h
     · cases h
     · obtain⟨p',k1,k2⟩:=qbd h
       exact⟨p',zbh _ k1,k2⟩
theorem qss{L:List Lem}(hL:∀ l∈L,q17 P l){hd:Hd T}{rec:List RC→Tk→T→Outs T}(hrec:∀ cx tk t os t',rec cx tk t= .ok (os,t')→Snd P (ncx cx) (Icx P cx) tk os){cx:List RC}{f:Nat}{args:List V}{S:AS}{t t':T}{os:List Out}
 (he:fRec P hd L rec cx f args S t= .ok (os,t')):Snd P (ncx cx) (Icx P cx) (.call f args S) os:=by
 obtain⟨q,_,he⟩:=R.zak he;split at he
 · rename_i a posts fn hq hfn
   obtain⟨_,h1,he⟩:=R.zak he;obtain⟨⟨σ,S2⟩,h2,he⟩:=R.zak he;obtain⟨_,h3,he⟩:=R.zak he;obtain⟨av,h4,he⟩:=R.zak he;obtain⟨z,h5,he⟩:=R.zak he;obtain⟨y,h6,he⟩:=R.zak he;obtain⟨l,h7,he⟩:=R.zak he;cases he;generalize hH:q1n (qsf fn.ntmps args S) a=H at h1 h2 h3 h4 h5 h6 h7;generalize hrc:(⟨f,S.ns,args.length,a,H,posts⟩:RC)=rc at h5 h7;have hmu:=q02 h1;have h7:qsy rc σ S S2 posts= .ok os:=h7;have hcall:=q4q (N:=ncx (rc :: cx)) (I:=Icx P (rc :: cx)) (hd:=hd) (P:=P) (fun tk t os t'=>hrec (rc :: cx) tk t os t') h5
   refine⟨hcall.1,fun ν hB s as hi hN h ha=>?_⟩
   have hHns:H.ns=S.ns+a.k:=by rw[←hH]; rfl
   have hHnt:H.nt=fn.ntmps:=by rw[←hH]; rfl
   have gE:γ (qsf fn.ntmps args S) ν hB ⟨q4x 0 as,s.h,fn.ntmps,[]⟩:=qpv h ha;have hr0:rc.n0=S.ns:=by rw[←hrc]
   have hrH:rc.H=H:=by rw[←hrc]
   have hrf:rc.f=f:=by rw[←hrc]
   have hrm:rc.m=args.length:=by rw[←hrc]
   have hra:rc.a=a:=by rw[←hrc]
   have hrp:rc.posts=posts:=by rw[←hrc]
   obtain⟨ar1,ar2⟩:=ql1 h4
   have key:∀ (k:Nat) (ν':Va) (hB' hh:AH) (as':List AV),Ag S.ns ν ν'→Le hB hB'→0≤a.mu.ev ν'.i→(a.mu.ev ν'.i).toNat=k→as'.length=args.length→γ H ν' hB' ⟨q4x 0 as',hh,H.nt,[]⟩→q0n P f as' hh (Qr rc ν' hB'):=by
    intro k
    induction k using Nat.strongRecOn with
    | _ k ih=>
      intro ν' hB' hh as' ag l0 m0 mk hl g
      have ihr:RcOk P rc ν' hB':=by
       refine⟨⟨qsf fn.ntmps args S,ν,hB,_,gE,hr0,by rw[hrH,hra,hH],ag,l0⟩,by rw[hrH,hra]; exact hmu,fun ν2 hB2 h2' as2 a1 l1 x0 x1 xl xg=>?_⟩
       rw[hra]at x0 x1;rw[hr0]at a1;rw[hrf];rw[hrH]at xg;exact ih _ (by omega) ν2 hB2 h2' as2 (ag.trans a1 (zbi _)) (l0.trans l1) x0 rfl (by rw[xl,hrm]) xg
      have hI:Icx P (rc :: cx) ν' hB':=fun c hc=>by
       rcases zbm.1 hc with rfl | hc
       · exact ihr
       · exact(hi c hc).to (ag.mono (zbo (qrd hc) hN)) l0
      have hN':ncx (rc :: cx)≤({H with sl:=[]}:AS).ns:=by
       show max rc.H.ns (ncx cx)≤H.ns;rw[hrH,hHns]; omega
      have g0:γ {H with sl:=[]} ν' hB' ⟨[],hh,H.nt,[]⟩:=qnq g
      have hav:∀ ν'',Ag ({H with sl:=[]}:AS).ns ν' ν''→cvL ν'' av=as':=fun ν'' hν=>by
       have hν:Ag H.ns ν' ν'':=hν;refine List.ext_getElem? fun i=>?_
       rcases Nat.lt_or_ge i args.length with c | c
       · obtain⟨v,k1,k2⟩:=ar2 i c
         have:=(g.g ν'' hν).sl i v k2;obtain⟨_,this⟩:=qdk this;rw[qbr k1];exact this.symm
       · rw[List.getElem?_eq_none (by rw[q1x,ar1]; exact c),List.getElem?_eq_none (by omega)]
      refine(hcall.2 ν' hB' ⟨[],hh,H.nt,[]⟩ as' hI hN' g0 hav).mono fun e h' q=>?_
      obtain⟨o,m1,v,av',x1,rfl,ν1,hB1,a1,n1,l1,g1,i1⟩:=q;have a1:Ag H.ns ν' ν1:=a1;have n1:H.ns≤o.S.ns:=n1;obtain⟨t1,lo,t2,k1,k2⟩:=q3b h6 o m1;obtain⟨v2,j1,k1⟩:=R.zak k1;obtain⟨_,j2,k1⟩:=R.zak k1;have:=qkf j1;rw[x1]at this;cases this;obtain⟨p,hp,⟨σp,S4⟩,hf⟩:=qbd j2
      have gO:γ {o.S with sl:=[(0,v)]} ν1 hB1 ⟨[(0,av')],h',H.nt,[]⟩:=by
       have:=q60 (d:=0) (qnq g1) (v:=v) (a:=av') i1;simpa [AS.put,q9i,q8h]using this
      have w:=hf;obtain⟨q0,q1,ν4,hB4,a4,n4,l4,g4,gP⟩:=q3l g0 gO a1 n1 l1 hf;have q0:σp.n0=H.ns:=q0;obtain⟨op,o1,_⟩:=qad h7 hp;obtain⟨vr,v4,_⟩:=R.zak o1;have v4:=q0a v4
      have hsl:getL (q1n {H with sl:=[]} p).sl 0=some vr:=by
       simp only[q1n,List.filter_nil,zcr]; exact v4
      have aO:Ag H.ns ν' (ovr σp ν4):=by
       have:=q8t σp ν4;rw[q0]at this;exact(a1.trans (a4.mono n1) (zbi _)).trans this (zbi _)
      refine⟨p,by rw[hrp]; exact hp,vr,av',v4,rfl,ovr σp ν4,hB4,⟨[],h',H.nt,[]⟩,rfl,by rw[hrH]; exact aO,l1.trans l4,?_,qw0 w (by show H.ns≤H.ns+p.k; omega) g4,fun ν5 hν=>?_⟩
      · rw[hrH]; exact qnq gP
      · rw[hrH]at hν
        have:=(gP.g ν5 hν).sl 0 vr hsl;simp only[lk]at this;rw[if_pos (zca _)]at this;exact(zbz this).symm
   obtain⟨y0,y1,ν2,hB2,a2,n2,l2,g2,gH⟩:=q3l gE gE (.refl _ _) (zbi _) (.refl _) (by rw[hH]; exact h2)
   rw[hH]at gH;have a2:Ag S.ns ν ν2:=a2;have n2:S.ns≤S2.ns:=n2;have y0:σ.n0=S.ns:=y0;have y1:σ.n1=H.ns:=by rw[y1,hHns]; rfl
   obtain⟨m,m1,m2⟩:=q6f h3;simp only[zbf]at m2;obtain⟨⟨c1,c2⟩,c3⟩:=m2;have hnn:σ.n0≤σ.n1:=by rw[y0,y1,hHns]; omega
   have e3:a.mu.ev (ovr σ ν2).i=m.ev ν2.i:=q1e hnn (.of hnn (.refl _ _)) m1;have b1:=q01 g2 c1 ν2 (.refl _ _);rw[ev_k]at b1;have hlen:as.length=args.length:=by rw[←ha ν (.refl _ _),q1x]
   refine(key _ (ovr σ ν2) hB2 s.h as (by have:=q8t σ ν2; rw[y0]at this; exact a2.trans this (zbi _)) l2 (by rw[e3]; exact b1) rfl hlen (by rw[hHnt]; exact gH)).mono fun e h' q=>?_
   obtain⟨p,hp,vr,a',v4,rfl,ν4,hB4,s4,rfl,a4,l4,g4,cc,i4⟩:=q;obtain⟨o,o1,o2⟩:=qad h7 (by rw[←hrp]; exact hp)
   have c2:q9q S2.ns σ.l=true:=c2;obtain⟨v',ν3,z1,z2,z3,z4,z5⟩:=qex o1 h a2 n2 g2 (by rw[y0,hr0]) (by rw[y1,hrH]) (by rw[hr0,hrH,hHns]; omega) c2 (by rw[hr0]; exact n2) a4 l4 g4 cc v4 i4
   exact⟨o,o2,v',a',z1,rfl,ν3,hB4,z2,z3,l2.trans l4,z4,z5⟩
 · obtain⟨l,h1,he⟩:=R.zak he
   obtain⟨_,h2,he⟩:=R.zak he;have h1:=q0a h1;rw[qou]at h1;exact qtr (hL l (zc4 h1)) (qqw h2) he
 · exact q4q (hd:=hd) (hrec cx) he
 · cases he
theorem qha{f:Nat}:∀ {cx:List RC} {rc:RC},qqq f cx=some rc→rc∈cx∧rc.f=f
 | [],_,h=>by cases h
 | c :: r,rc,h=>by
   simp only[qqq]at h;split at h
   · rename_i hb
     cases h;exact⟨zbq,zbg hb⟩
   · obtain⟨a,b⟩:=qha h
     exact⟨zbh _ a,b⟩
theorem qbe{L:List Lem}(hL:∀ l∈L,q17 P l){hd:Hd T}(hmix:P.follows .mixedOrders=true):∀ (n:Nat) {cx:List RC} {tk:Tk} {t:T} {os:List Out} {t':T},fixC P hd L n cx tk t= .ok (os,t')→Snd P (ncx cx) (Icx P cx) tk os
 | 0,_,_,_,_,_,he=>by cases he
 | n+1,cx,tk,t,os,t',he=>by
   have hrec:=fun(cx:List RC) tk t os t' h=>qbe hL (hd:=hd) hmix n (cx:=cx) (tk:=tk) (t:=t) (os:=os) (t':=t') h
   have gen:F P hd (fixC P hd L n cx) tk t= .ok (os,t')→Snd P (ncx cx) (Icx P cx) tk os:=fun he=>
    z3k (hd:=hd) Icx.to (hrec cx) (qmi P) (qso Icx.to hmix (qmi P) (qmk P) (qmj P)) he
   cases tk with
   | call f args S=>
     have he:qvv P hd L (fixC P hd L n) cx f args S t= .ok (os,t'):=he;unfold qvv at he;split at he
     · rename_i rc hrc
       obtain⟨m,e⟩:=qha hrc;subst e;obtain⟨_,h1,he⟩:=R.zak he;exact qtq m h1 he
     · split at he
       · exact qss hL hrec he
       · exact q4q (hd:=hd) (hrec cx) he
   | code r c S=>exact gen he
   | ops r ops l S=>exact gen he
   | app fv args S=>exact gen he
end
theorem qce{T:Type}{P:Program}{L:List Lem}(hL:∀ l∈L,q17 P l){hd:Hd T}(hmix:P.follows .mixedOrders=true)(n:Nat){f:Nat}{args:List V}{S:AS}{t t':T}{os:List Out}(he:fixC P hd L n [] (.call f args S) t= .ok (os,t')){ν:Va}{hB:AH}{s:St}{as:List AV}(h:γ S ν hB s)(ha:∀ ν',Ag S.ns ν ν'→cvL ν' args=as):
 q0n P f as s.h (Q2 os S ν hB s.slots s.n s.defs):=
 (qbe hL hmix n he).2 ν hB s as (fun rc h=>by cases h) (zbl _) h ha
theorem qt3{T:Type}{P:Program}{L:List Lem}(hL:∀ l∈L,q17 P l){hd:Hd T}(hmix:P.follows .mixedOrders=true)(n:Nat){l:Lem}{t t':T}(he:lemC P hd L n l t= .ok t'):q17 P l:=by
 obtain⟨_,h4,he⟩:=R.zak he;obtain⟨z,h5,he⟩:=R.zak he;obtain⟨y,h6,he⟩:=R.zak he;have hcall:=q4q (N:=ncx []) (I:=Icx P []) (hd:=hd) (P:=P) (fun tk t os t' h=>qbe hL (hd:=hd) hmix n (cx:=[]) h) h5
 intro ν hB h as g ha;refine(hcall.2 ν hB ⟨[],h,0,[]⟩ as (fun rc hm=>by cases hm) (zbl _) g ha).mono fun e h' q=>?_
 obtain⟨o,m1,v,av',x1,rfl,ν1,hB1,a1,n1,l1,g1,i1⟩:=q;have a1:Ag l.ns ν ν1:=a1;have n1:l.ns≤o.S.ns:=n1;obtain⟨t1,lo,t2,k1,k2⟩:=q3b h6 o m1;obtain⟨v2,j1,k1⟩:=R.zak k1;obtain⟨_,j2,k1⟩:=R.zak k1;have:=qkf j1;rw[x1]at this;cases this;obtain⟨p,hp,⟨σp,S4⟩,hf⟩:=qbd j2
 have gO:γ {o.S with sl:=[(0,v)]} ν1 hB1 ⟨[(0,av')],h',0,[]⟩:=by
  have:=q60 (d:=0) (qnq g1) (v:=v) (a:=av') i1;simpa [AS.put,q9i]using this
 have w:=hf;obtain⟨q0,q1,ν4,hB4,a4,n4,l4,g4,gP⟩:=q3l (S0:=l.T) g gO a1 n1 l1 hf;have q0:σp.n0=l.ns:=q0;obtain⟨vr,hvr⟩:=zcj.1 (zc1.1 (q02 h4) p hp)
 have hsl:getL (q1n l.T p).sl 0=some vr:=by
  simp only[q1n,Lem.T,List.filter_nil,zcr]; exact hvr
 have aO:Ag l.ns ν (ovr σp ν4):=by
  have:=q8t σp ν4;rw[q0]at this;exact(a1.trans (a4.mono n1) (zbi _)).trans this (zbi _)
 refine⟨p,hp,vr,av',hvr,rfl,ovr σp ν4,hB4,⟨[],h',0,[]⟩,rfl,aO,l1.trans l4,qnq gP,qw0 w (by show l.ns≤l.ns+p.k; omega) g4,fun ν5 hν=>?_⟩
 have:=(gP.g ν5 hν).sl 0 vr hsl;simp only[lk]at this;rw[if_pos (zca _)]at this;exact(zbz this).symm
end
end Go.K
namespace Go.K
open Go Go.J
noncomputable section
def putV(S:AS)(str:Bool):V→Bool
 | .nils=>true
 | .sym c=>match getL S.hp c with
   | some (.bld ty _)=>(match ty with
     | [.int _ _]=>!str
     | [.str]=>str
     | _=>false)&&S.le (.s c) (.k 4294967295)
   | _=>false
 | _=>false
def symV:V→Option Nat
 | .sym c=>some c
 | _=>none
def wipV(z:Nat)(S:AS)(vn vs u:V):Bool:=match u with
 | .nils=>true
 | .sym d=>match getL S.hp d with
   | some (.bld ty _)=>Nat.beq ty.length z&&S.le (.s d) (.k 1073741824)&&symV vn !=some d&&symV vs !=some d
   | _=>false
 | _=>false
def z8y(wk:Nat)(z:Option Nat)(S:AS)(vn vs w:V):Bool:=match w,z with
 | .fn f [] [],none=>Nat.beq f wk
 | .fn f [] [.ptr bx o],some z=>Nat.beq f wk&&isK0 o&& !(Nat.beq bx 0)&&match getL S.hp bx with
   | some (.own [.one u] _)=>wipV z S vn vs u
   | _=>false
 | _,_=>false
def outQ(wk:Nat)(z:Option Nat)(o:Out):Bool:=match o.x with
 | .val w=>match getL o.S.hp 0 with
   | some (.own [.one vn,.one vs] _)=>putV o.S false vn&&putV o.S true vs&&z8y wk z o.S vn vs w
   | _=>false
 | _=>false
def cloS(ty:List AT):AS:=⟨2,[],Tr.nil.addL [⟨-1,[(1,1)]⟩,⟨1,[(1,-1)]⟩],[.sl 1 true ty],[(0,.own [.one .nils,.one .nils] [])],0,[]⟩
def cloA:List V:=[.ptr 0 (.k 0),.elp 1 (.k 0)]
def cloQ{T:Type}(P:Program)(hd:Hd T)(L:List Lem)(n f wk:Nat)(z:Option Nat)(ty:List AT)(t:T):Bool:=match fixC P hd L n [] (.call f cloA (cloS ty)) t with
 | .ok r=>r.1.all (outQ wk z)
 | .no _=>false
def z6p(P:Program)(wk:Nat):Option Nat→Prop
 | none=> ∀ g:AH,JApp P (.fn (.func wk) [] []) [] g (fun e g2=>e= .ret (.tuple [])∧g2=g)
 | some z=> ∀ (g:AH) (bx:Nat) (p:Option (Nat×Nat)) (n:Nat) (c:Cap),Own g bx [.slice p n c]→WL g p n z→n≤1073741824→JApp P (.fn (.func wk) [] [.ptr (some (bx,0))]) [] g (fun e g2=>e= .ret (.tuple [])∧LeQ p n g g2)
def ArgOk(G:AH)(ty:List AT)(cells:List AV):Prop:=cells.length=ty.length∧ ∀ (ν:Va) (j:Nat),j<ty.length→ ∃ w,cells[j]?=some w∧okN ν G ty j w
structure LstV(S:AS)(ν:Va)(hB h:AH)(v:V)(z:Nat)(p:Option (Nat×Nat))(n:Nat)(c:Cap):Prop where
 eq:cv ν v= .slice p n c
 at_:(p=none∧n=0)∨ ∃ i cs k ty kn,p=some (i,0)∧h.get i=some (.grow z cs)∧cs.length=n * z∧hB.next≤i∧v= .sym k∧getL S.hp k=some (.bld ty kn)∧nameOf ν (k,.bld ty kn)=some i∧ty.length=z∧ ∀ q w,cs[q]?=some w→okN ν hB ty (q % ty.length) w
theorem qv4{S:AS}{ν:Va}{hB:AH}{s:St}(h:γ S ν hB s){k:Nat}{ty:List AT}{kn:List (Lin×V)}(hg:getL S.hp k=some (.bld ty kn)):∃ p n c,LstV S ν hB s.h (.sym k) ty.length p n c∧(n:Int)=ν.i k:=by
 obtain⟨⟨n,hn,hc⟩,_⟩:=h.self.hp _ (q05 hg);have hn:(n:Int)=ν.i k:=hn;rcases hc with⟨h0,ha⟩ | ⟨i,cs,ha,h1,h2,h3⟩
 · exact⟨none,0,_,⟨by simp only[cv]; exact ha,.inl ⟨rfl,rfl⟩⟩,by omega⟩
 · have hnm:nameOf ν (k,.bld ty kn)=some i:=by simp only[nameOf,ha]
   exact⟨some (i,0),n,_,⟨by simp only[cv]; exact ha,.inr ⟨i,cs,k,ty,kn,rfl,h1,h2,(h.self.nb _ (q05 hg) i hnm).2,rfl,hg,hnm,rfl,h3⟩⟩,hn⟩
theorem qrf{S:AS}{ν:Va}{hB h:AH}{z:Nat}:LstV S ν hB h .nils z none 0 (.exact 0):=⟨by simp only[cv],.inl ⟨rfl,rfl⟩⟩
theorem le_k{S:AS}{ν:Va}{hB:AH}{s:St}(h:γ S ν hB s){k n:Nat}{m:Int}(hl:S.le (.s k) (.k m)=true)(hn:(n:Int)=ν.i k):(n:Int)≤m:=by
 have:=q01 h hl ν (.refl _ _);rw[ev_s,ev_k]at this; omega
theorem qk2{S:AS}{ν:Va}{hB:AH}{s:St}(h:γ S ν hB s){str:Bool}{v:V}(hq:putV S str v=true):
 ∃ p n c,LstV S ν hB s.h v 1 p n c∧n≤4294967296∧(str=false→ ∀ i cs,p=some (i,0)→s.h.get i=some (.grow 1 cs)→ ∃ L:List Int,cs=L.map (AV.int .i64))∧(str=true→ ∀ i cs,p=some (i,0)→s.h.get i=some (.grow 1 cs)→ ∃ L:List ByteArray,cs=L.map AV.str):=by
 unfold putV at hq;split at hq
 · exact⟨none,0,_,qrf,by omega,fun _ i cs e=>by(cases e),fun _ i cs e=>by(cases e)⟩
 · rename_i c
   split at hq
   · rename_i ty kn hg
     rw[zbf]at hq;obtain⟨q1,q2⟩:=hq;obtain⟨p,n,k,hl,hn⟩:=qv4 h hg;have hle:=le_k h q2 hn;split at q1
     · rename_i lo hi
       refine⟨p,n,k,hl,by omega,fun _ i cs e1 e2=>?_,fun e=>by(rw[e]at q1; cases q1)⟩
       rcases hl.at_ with⟨e,_⟩ | ⟨j,cs',k',ty',kn',e,f1,f2,f3,f4,f5,f6,f7,f8⟩
       · rw[e]at e1; cases e1
       · rw[e]at e1; cases e1
         rw[show(1:Nat)=[AT.int lo hi].length from rfl]at e2;rw[f1]at e2; cases e2;cases f4;rw[hg]at f5; cases f5;refine qr9 fun q hq=>?_
         obtain⟨w,hw⟩:∃ w,cs[q]?=some w:=⟨_,zcg hq⟩;have:=f8 q w hw;simp only[zce,List.length_nil,zbv,Nat.mod_one,okN,okT]at this;obtain⟨x,rfl,_⟩:=this;exact⟨x,hw⟩
     · refine⟨p,n,k,hl,by omega,fun e=>by(rw[e]at q1; cases q1),fun _ i cs e1 e2=>?_⟩
       rcases hl.at_ with⟨e,_⟩ | ⟨j,cs',k',ty',kn',e,f1,f2,f3,f4,f5,f6,f7,f8⟩
       · rw[e]at e1; cases e1
       · rw[e]at e1; cases e1
         rw[show(1:Nat)=[AT.str].length from rfl]at e2;rw[f1]at e2; cases e2;cases f4;rw[hg]at f5; cases f5;refine qr9 fun q hq=>?_
         obtain⟨w,hw⟩:∃ w,cs[q]?=some w:=⟨_,zcg hq⟩;have:=f8 q w hw;simp only[zce,List.length_nil,zbv,Nat.mod_one,okN,okT]at this;obtain⟨x,rfl,_⟩:=this;exact⟨x,hw⟩
     · cases q1
   · cases hq
 · cases hq
def q3d(M:AH)(b:Nat)(z:List AV):AH:=⟨M.next+1,fun i=>if i=M.next then some (.own z) else if i=b then none else M.get i⟩
theorem qf0{M:AH}{b:Nat}{z:List AV}:(q3d M b z).get M.next=some (.own z):=by simp[q3d]
theorem qf1{M:AH}{b i:Nat}{z:List AV}{c:Chunk}(mw:M.wf)(hi:M.get i=some c)(hb:i≠b):(q3d M b z).get i=some c:=by
 have:=(mw i c hi).1;simp only[q3d];rw[if_neg (by omega),if_neg hb]; exact hi
theorem qai{M:AH}{b i:Nat}{z:List AV}{c:Chunk}(hi:(q3d M b z).get i=some c):(i=M.next∧c= .own z)∨(i≠b∧M.get i=some c∧i≠M.next):=by
 simp only[q3d]at hi;split at hi
 · rename_i e; exact .inl ⟨e,by cases hi; rfl⟩
 · rename_i e
   split at hi
   · cases hi
   · rename_i e2; exact .inr ⟨e2,hi,e⟩
theorem qdf{M:AH}{b:Nat}{z:List AV}(mw:M.wf)(hz:supL z=0):(q3d M b z).wf:=fun i c hi=>by
 rcases qai hi with⟨e,rfl⟩ | ⟨_,h,_⟩
 · subst e; exact⟨zc0 _,by simp only[Chunk.sup,hz]; exact zbl _⟩
 · obtain⟨h1,h2⟩:=mw i c h; exact⟨Nat.lt_succ_of_lt h1,Nat.le_succ_of_le h2⟩
theorem qah{M:AH}{b:Nat}{z:List AV}(mw:M.wf)(hz:supL z=0)(hb:M.get b=some (.own z)):Emb (Swap M.next b) (q3d M b z) M:=by
 have hbl:=(mw b _ hb).1;refine⟨fun i hi=>?_,fun i c hi=>?_,fun i j hi hj e=>?_⟩
 · have hi:i<M.next+1:=hi
   unfold Swap; split<;>omega
 · rcases qai hi with⟨rfl,rfl⟩ | ⟨h1,h2,h3⟩
   · rw[Swap.eq,hb]
     simp only[Chunk.ren];rw[q2o (n:=0) (fun i hi=>absurd hi (zcn i)) z (by rw[hz]; exact zbi _)]
   · rw[Swap.ne h3,h2,Chunk.za8 (n:=M.next) (fun k hk=>Swap.ne (by omega)) c (mw i c h2).2]
 · obtain⟨ci,hi⟩:=hi
   obtain⟨cj,hj⟩:=hj;rcases qai hi with⟨rfl,_⟩ | ⟨h1,h2,h3⟩<;>rcases qai hj with⟨rfl,_⟩ | ⟨k1,k2,k3⟩
   · rfl
   · rw[Swap.eq,Swap.ne k3]at e; exact absurd e.symm k1
   · rw[Swap.eq,Swap.ne h3]at e; exact absurd e h1
   · rw[Swap.ne h3,Swap.ne k3]at e; exact e
section
variable{M h':AH}{b:Nat}
abbrev Zb:List AV:=[.slice none 0 (.exact 0),.slice none 0 (.exact 0)]
abbrev tau(M:AH)(b i:Nat):Nat:=ext (Swap M.next b) (M.next+1) M.next i
theorem q6n{i:Nat}(hi:M.next+1≤i):tau M b i=M.next+(i - (M.next+1)):=by unfold tau ext; rw[if_neg (by omega)]
theorem z64{i:Nat}(hi:i<M.next):tau M b i=i:=by unfold tau ext; rw[if_pos (by omega),Swap.ne (by omega)]
theorem qqd{i:Nat}{c:Chunk}(hi:M.next+1≤i)(hc:h'.get i=some c):(after (Swap M.next b) (q3d M b Zb) h' M).get (tau M b i)=some (c.ren (tau M b)):=by
 have:=q9o (σ:=Swap M.next b) (h:=q3d M b Zb) (h':=h') (g:=M) (i:=i) hi;rw[q6n hi,show M.next+(i - (M.next+1))=M.next+(i - (q3d M b Zb).next) from rfl,this,hc];rfl
theorem qqe{i:Nat}{c:Chunk}(mw:M.wf)(hb:M.get b=some (.own Zb))(hi:M.get i=some c)(hne:i≠b)(hc:h'.get i=some c):(after (Swap M.next b) (q3d M b Zb) h' M).get i=some c:=by
 have hl:=mw i c hi;have:=q5m (h':=h') (qah (z:=Zb) mw rfl hb) (qdf mw rfl) (qf1 (z:=Zb) mw hi hne);rw[Swap.ne (by omega),hc]at this
 rw[this,zbp];exact congrArg some (Chunk.za8 (n:=M.next) (σ:=tau M b) (fun j hj=>z64 (b:=b) hj) c hl.2)
theorem qqc{cs:List AV}(mw:M.wf)(hb:M.get b=some (.own Zb))(hc:h'.get M.next=some (.own cs)):(after (Swap M.next b) (q3d M b Zb) h' M).get b=some (.own (renL (tau M b) cs)):=by
 have:=q5m (h':=h') (qah (z:=Zb) mw rfl hb) (qdf mw rfl) (qf0 (z:=Zb));rw[Swap.eq,hc]at this;rw[this]; rfl
structure LstB(M H:AH)(b z:Nat)(h':AH)(p:Option (Nat×Nat))(n:Nat)(p':Option (Nat×Nat)):Prop where
 at_:(p=none∧p'=none∧n=0)∨ ∃ i cs,p=some (i,0)∧M.next+1≤i∧p'=some (tau M b i,0)∧h'.get i=some (.grow z cs)∧cs.length=n * z∧H.get (tau M b i)=some (.grow z (renL (tau M b) cs))
theorem LstV.back{S:AS}{ν:Va}{hB:AH}{v:V}{z:Nat}{p:Option (Nat×Nat)}{n:Nat}{c:Cap}(l:LstV S ν hB h' v z p n c)(hn:M.next≤hB.next){cs:List AV}(hbx:h'.get M.next=some (.own cs)):
 LstB M (after (Swap M.next b) (q3d M b Zb) h' M) b z h' p n (renA (tau M b) p):=by
 refine⟨?_⟩;rcases l.at_ with⟨rfl,h0⟩ | ⟨i,cs',k,ty,kn,rfl,h1,h2,h3,_⟩
 · exact .inl ⟨rfl,rfl,h0⟩
 · have hne:i≠M.next:=fun e=>by subst e; rw[hbx]at h1; cases h1
   have hi:M.next+1≤i:=by omega
   exact .inr ⟨i,cs',rfl,hi,rfl,h1,h2,qqd hi h1⟩
end
theorem clo_puts{T:Type}{P:Program}{L:List Lem}(hL:∀ l∈L,q17 P l){hd:Hd T}(hmix:P.follows .mixedOrders=true){n f wk:Nat}{z:Option Nat}{ty:List AT}{t:T}{fn:Func}{c:Code}(hf:IsFn P f fn c)(hq:cloQ P hd L n f wk z ty t=true)(hw:z6p P wk z)
 {G M:AH}{b xb:Nat}{cells:List AV}(ga:ArgOk G ty cells)(gw:G.wf)(mb:G.next≤b)(kG:∀ i c,G.get i=some c→M.get i=some c)(mn:G.next≤M.next)(ob:Own M b Zb)(gx:Own G xb cells):
 JApp P (.fn (.func f) [] [.ptr (some (xb,0))]) [.ptr (some (b,0))] M (fun e H=> ∃ w,e= .ret w∧Puts P M b H w):=qu3 fun mw=>by
 have hxb:=(gw xb _ gx).1;have hbl:=(mw b _ ob).1
 obtain⟨os,t',he,hall⟩:∃ os t',fixC P hd L n [] (.call f cloA (cloS ty)) t= .ok (os,t')∧os.all (outQ wk z)=true:=by
  unfold cloQ at hq;split at hq
  · rename_i r hr; exact⟨r.1,r.2,hr,hq⟩
  · cases hq
 have lGB:Le G (M.del b):=⟨mn,fun j ck hj=>by
  have:=(gw j ck hj).1;rw[AH.z9z (by omega)]; exact kG j ck hj⟩
 have g0:γ (cloS ty) ⟨fun j=>if j=1 then 1 else 0,fun _=>M.next,fun _=> .slice (some (xb,0)) 1 (.exact 1),fun _=>none⟩ (M.del b) ⟨[],q3d M b Zb,0,[]⟩:=by
  refine⟨rfl,⟨zcb _,fun j ck hj=>?_⟩,fun ν' ag=>?_⟩
  · obtain⟨h1,h2⟩:=AH.z9y hj
    exact qf1 mw h2 h1
  · obtain⟨i1,n1,a1,_⟩:=ag 1 (by show 1<2; decide)
    obtain⟨_,n0,_,_⟩:=ag 0 (by show 0<2; decide)
    simp only[if_true]at i1 n1 a1 n0;refine⟨fun k v hk=>by(cases hk),fun e hm=>Tr.zb5 (t:= .nil) (fun e h=>by(cases h)) (fun e h=>?_) e hm,fun x hx=>?_,fun p hp=>?_,?_,fun p hp i hi=>?_,rfl⟩
    · simp only[zbm,zc6,or_false]at h
      rcases h with rfl | rfl<;>simp[Lin.ev,evT,i1]
    · have hx:x∈[Fa.sl 1 true ty]:=hx
      rw[zbs]at hx; subst hx;refine⟨some (xb,0),1,.exact 1,a1,by rw[i1]; rfl,fun _=>⟨1,rfl,zbi _⟩,fun _=>⟨xb,0,cells,rfl,?_,?_,fun q hq=>?_⟩⟩
      · have:(M.del b).get xb=some (.own cells):=lGB.get _ _ gx
        simp only[AH.cells,this]
      · rw[ga.1]; omega
      · rw[Nat.one_mul]at hq
        obtain⟨w,w1,w2⟩:=ga.2 ν' q hq;exact⟨w,by rw[zbv]; exact w1,by rw[Nat.mod_eq_of_lt hq]; exact w2.le lGB⟩
    · have hp:p∈[((0:Nat),Ck.own [.one .nils,.one .nils] [])]:=hp
      rw[zbs]at hp; subst hp;refine⟨Zb,?_,⟨[.slice none 0 (.exact 0)],by simp only[cv],[],by simp only[cv],rfl⟩,fun p hp=>by(cases hp)⟩
      show(q3d M b Zb).get (ν'.n 0)=_;rw[n0]; exact qf0
    · exact List.pairwise_singleton _ _
    · have hp:p∈[((0:Nat),Ck.own [.one .nils,.one .nils] [])]:=hp
      rw[zbs]at hp; subst hp;simp only[nameOf,zbe]at hi;rw[n0]at hi; subst hi;refine⟨?_,zbi _⟩;cases hg:(M.del b).get M.next with
      | none=>rfl
      | some ck=>exact absurd (mw _ _ (AH.z9y hg).2).1 (Nat.lt_irrefl _)
 have hc:=qce hL hmix n he (as:=[.ptr (some (M.next,0)),.ptr (some (xb,0))]) g0 (fun ν' ag=>by
  obtain⟨i1,n1,a1,_⟩:=ag 1 (by show 1<2; decide)
  obtain⟨_,n0,_,_⟩:=ag 0 (by show 0<2; decide)
  simp only[if_true]at i1 n1 a1 n0;simp only[cloA,cvL,cv,n0,a1,ev_k,Int.toNat_zero,Nat.add_zero])
 have ha:JApp P (.fn (.func f) [] [.ptr (some (xb,0))]) [.ptr (some (M.next,0))] (q3d M b Zb) _:=q37 hf hc;have tr:=qb5 ha (qah mw rfl ob) (qdf mw rfl) (by simp only[AV.sup,supL,supA,q3d]; omega) (by simp only[AV.sup,supL,supA,q3d]; omega)
 rw[ren_fix (n:=M.next) (fun i hi=>Swap.ne (by omega)) _ (by simp only[AV.sup,supL,supA]; omega)]at tr
 have e1:renL (Swap M.next b) [.ptr (some (M.next,0))]=[.ptr (some (b,0))]:=by simp only[renL,AV.ren,renA,Swap.eq]
 rw[e1]at tr;refine tr.mono ?_;rintro e2 g2 ⟨e,h',⟨o,om,v,a,ox,rfl,ν',hB',ag,ns,le,g1,i1⟩,hwf',hn',hsu,rfl,rfl⟩;clear hsu hwf' hn';have hoq:=zc1.1 hall o om;have hv:cv ν' v=a:=i1 ν' (.refl _ _);subst hv;have hNB:M.next≤hB'.next:=le.next;unfold outQ at hoq;rw[ox]at hoq;simp only at hoq;split at hoq
 case h_2=>cases hoq
 rename_i vn vs kn h0;simp only[zbf]at hoq;obtain⟨⟨q1,q2⟩,q3⟩:=hoq;have hN0:ν'.n 0=M.next:=(ag 0 (by show 0<2; decide)).2.1
 obtain⟨cs,c0,⟨cs1,rfl,cs2,rfl,rfl⟩,hkn⟩:=g1.self.hp _ (q05 h0);have c1:h'.get (ν'.n 0)=some (.own [cv ν' vn,cv ν' vs]):=c0;clear c0 hkn;rw[hN0]at c1;obtain⟨p,n1,k1,l1,b1,L1,_⟩:=qk2 g1 q1;obtain⟨q,n2,k2,l2,b2,_,L2⟩:=qk2 g1 q2;have r1:=l1.back (M:=M) (b:=b) hNB c1;have r2:=l2.back (M:=M) (b:=b) hNB c1
 have keep:∀ i ck,M.get i=some ck→i≠b→(after (Swap M.next b) (q3d M b Zb) h' M).get i=some ck:=fun i ck hi hne=>
  qqe mw ob hi hne (g1.le.get _ _ (le.get _ _ (by rw[AH.z9z hne]; exact hi)))
 have hob:=qqc mw ob c1;rw[l1.eq,l2.eq]at hob
 have hob:(after (Swap M.next b) (q3d M b Zb) h' M).get b=some (.own [.slice (renA (tau M b) p) n1 k1,.slice (renA (tau M b) q) n2 k2]):=by
  rw[hob]; cases p<;>cases q<;>rfl
 obtain⟨K1,e1,t1⟩:∃ L:List Int,n1=L.length∧Lst (after (Swap M.next b) (q3d M b Zb) h' M) M.next (renA (tau M b) p) (L.map (AV.int .i64)):=by
  rcases r1.at_ with⟨_,_,h0⟩ | ⟨i,cs,f1,f2,f3,f4,f5,f6⟩
  · exact⟨[],h0,.inl rfl⟩
  · obtain⟨L,rfl⟩:=L1 rfl i cs f1 f4
    have hl:n1=L.length:=by simpa using f5.symm
    refine⟨L,hl,.inr ⟨tau M b i,0,L.map (AV.int .i64),f3,?_,?_,by simp,by rw[List.drop_zero,List.take_length]⟩⟩
    · rw[q6n f2]; omega
    · rw[qat]at f6; simp only[AH.cells,f6]
 obtain⟨K2,e2,t2⟩:∃ L:List ByteArray,n2=L.length∧Lst (after (Swap M.next b) (q3d M b Zb) h' M) M.next (renA (tau M b) q) (L.map AV.str):=by
  rcases r2.at_ with⟨_,_,h0⟩ | ⟨i,cs,f1,f2,f3,f4,f5,f6⟩
  · exact⟨[],h0,.inl rfl⟩
  · obtain⟨L,rfl⟩:=L2 rfl i cs f1 f4
    have hl:n2=L.length:=by simpa using f5.symm
    refine⟨L,hl,.inr ⟨tau M b i,0,L.map AV.str,f3,?_,?_,by simp,by rw[List.drop_zero,List.take_length]⟩⟩
    · rw[q6n f2]; omega
    · rw[qau]at f6; simp only[AH.cells,f6]
 subst e1; subst e2;refine⟨(cv ν' v).ren (tau M b),rfl,keep,_,k1,_,k2,K1,K2,⟨hob,t1,t2,b1,b2⟩,fun g hg=>?_⟩
 unfold z8y at q3;split at q3
 · rename_i k
   have:=zbg q3;subst this;have hw:∀ g:AH,JApp P (.fn (.func k) [] []) [] g (fun e g2=>e= .ret (.tuple [])∧g2=g):=hw
   have ev:(cv ν' (.fn k [] [])).ren (tau M b)= .fn (.func k) [] []:=by simp only[cv,cvL,AV.ren,renL]
   rw[ev];refine(hw g).mono fun e g2 ⟨h1,h2⟩=>?_
   subst h2;exact⟨⟨_,h1⟩,zbi _,fun i ck hi _=>hi⟩
 · rename_i k bx o' z
   simp only[zbf]at q3;obtain⟨⟨⟨w1,w2⟩,w3⟩,w4⟩:=q3;have:=zbg w1;subst this;split at w4
   case h_2=>cases w4
   rename_i u kn2 hbx;have hbx0:bx≠0:=fun e=>by subst e; simp at w3
   obtain⟨cs,d0,⟨cs1,rfl,rfl⟩,hkn2⟩:=g1.self.hp _ (q05 hbx);have d1:h'.get (ν'.n bx)=some (.own [cv ν' u]):=d0;clear hkn2 d0;have hbxN:ν'.n bx≠M.next:=fun e=>q6i g1.self.dj h0 (q05 hbx) hbx0 M.next (by simp only[nameOf,hN0]) (by simp only[nameOf,e])
   have hbxG:M.next+1≤ν'.n bx:=by
    have:=(g1.self.nb _ (q05 hbx) (ν'.n bx) rfl).2;omega
   have hbk:=qqd (b:=b) hbxG d1
   have ev:(cv ν' (.fn k [] [.ptr bx o'])).ren (tau M b)= .fn (.func k) [] [.ptr (some (tau M b (ν'.n bx),0))]:=by
    simp only[cv,cvL,AV.ren,renL,renA,qoe w2,Int.toNat_zero]
   rw[ev];have hw:∀ (g:AH) (bx:Nat) (p:Option (Nat×Nat)) (n:Nat) (c:Cap),Own g bx [.slice p n c]→WL g p n z→n≤1073741824→JApp P (.fn (.func k) [] [.ptr (some (bx,0))]) [] g (fun e g2=>e= .ret (.tuple [])∧LeQ p n g g2):=hw
   obtain⟨r,m,c3,l3,b3,hdis⟩:∃ r m c3,LstV o.S ν' hB' h' u z r m c3∧m≤1073741824∧ ∀ i,r=some (i,0)→(∀ j,p=some (j,0)→j≠i)∧ ∀ j,q=some (j,0)→j≠i:=by
    unfold wipV at w4;split at w4
    · exact⟨none,0,_,qrf,by omega,fun i e=>by(cases e)⟩
    · rename_i d
      split at w4
      case h_2=>cases w4
      rename_i ty2 kn3 hd2;simp only[zbf,bne_iff_ne,ne_eq]at w4;obtain⟨⟨⟨y1,y2⟩,y3⟩,y4⟩:=w4;obtain⟨r,m,c3,l3,hm⟩:=qv4 g1 hd2;rw[zbg y1]at l3;have hle:=le_k g1 y2 hm;refine⟨r,m,c3,l3,by omega,fun i hi=>?_⟩
      have key:∀ (v':V) (p':Option (Nat×Nat)) (n':Nat) (c':Cap),LstV o.S ν' hB' h' v' 1 p' n' c'→ ¬ symV v'=some d→ ∀ j,p'=some (j,0)→j≠i:=fun v' p' n' c' lv hne j hj e=>by
       subst e;rcases lv.at_ with⟨e,_⟩ | ⟨j',cs',k',ty',kn',e,_,_,_,rfl,f5,f6,_⟩
       · rw[e]at hj; cases hj
       · rw[e]at hj; cases hj
         rcases l3.at_ with⟨e,_⟩ | ⟨i',_,k'',ty'',kn'',e,_,_,_,x4,x5,x6,_⟩
         · rw[e]at hi; cases hi
         · rw[e]at hi; cases hi
           cases x4;have hkd:k'≠d:=fun e=>hne (by subst e; rfl)
           exact q6i g1.self.dj x5 (q05 f5) hkd _ x6 f6
      exact⟨key vn p _ k1 l1 y3,key vs q _ k2 l2 y4⟩
    · cases w4
   have r3:=l3.back (M:=M) (b:=b) hNB c1;rw[l3.eq]at hbk;have hbx':M.next≤tau M b (ν'.n bx):=by rw[q6n hbxG]; omega
   have hgb:Own g (tau M b (ν'.n bx)) [.slice (renA (tau M b) r) m c3]:=by
    have:=hg _ _ hbx' hbk;rw[show Own g (tau M b (ν'.n bx)) [.slice (renA (tau M b) r) m c3]=(g.get (tau M b (ν'.n bx))=some (.own [.slice (renA (tau M b) r) m c3])) from rfl,this];cases r<;>rfl
   have hgl:WL g (renA (tau M b) r) m z:=by
    rcases r3.at_ with⟨_,_,h0⟩ | ⟨i,cs,f1,f2,f3,f4,f5,f6⟩
    · exact .inl h0
    · refine .inr ⟨tau M b i,0,f3,renL (tau M b) cs,?_,.inr ⟨z,hg _ _ (by rw[q6n f2]; omega) f6⟩⟩
      rw[q8g,List.length_map,f5]; omega
   refine(hw g _ _ m c3 hgb hgl b3).mono fun e g2 ⟨h1,h2⟩=>⟨⟨_,h1⟩,h2.next,fun i ck hi hor=>h2.get i ck hi fun hm o2 heq=>?_⟩
   rcases r3.at_ with⟨_,e,_⟩ | ⟨i3,cs,f1,f2,f3,f4,f5,f6⟩
   · rw[e]at heq; cases heq
   · rw[f3]at heq
     simp only[zbe,zbt]at heq;obtain⟨heq,_⟩:=heq;have hi3:=q6n (b:=b) f2;obtain⟨z1,z2⟩:=hdis i3 f1
     have tinj:∀ j,M.next+1≤j→tau M b j=i→j=i3:=fun j hj hjt=>by
      rw[q6n hj]at hjt; omega
     rcases hor with h | ⟨o3,h⟩ | ⟨o3,h⟩
     · omega
     · rcases r1.at_ with⟨_,e,_⟩ | ⟨j,cs',y1,y2,y3,_⟩
       · rw[e]at h; cases h
       · rw[y3]at h
         simp only[zbe,zbt]at h;exact z1 j y1 (tinj j y2 h.1)
     · rcases r2.at_ with⟨_,e,_⟩ | ⟨j,cs',y1,y2,y3,_⟩
       · rw[e]at h; cases h
       · rw[y3]at h
         simp only[zbe,zbt]at h;exact z2 j y1 (tinj j y2 h.1)
 · cases q3
def quj(o:Out):Bool:=match o.x with
 | .val (.tup [])=>match getL o.S.hp 0 with
   | some (.own [.one vn,.one vs] _)=>putV o.S false vn&&putV o.S true vs
   | _=>false
 | _=>false
def z3s:AS:=⟨1,[],.nil,[],[(0,.own [.one .nils,.one .nils] [])],0,[]⟩
def allS(ty:List AT):AS:=(q1c z3s ty).2
def allA(ty:List AT):List V:=[.agg (q1c z3s ty).1,.ptr 0 (.k 0)]
def allQ{T:Type}(P:Program)(hd:Hd T)(L:List Lem)(n f:Nat)(ty:List AT)(t:T):Bool:=match fixC P hd L n [] (.call f (allA ty) (allS ty)) t with
 | .ok r=>r.1.all quj
 | .no _=>false
theorem all_puts{T:Type}{P:Program}{L:List Lem}(hL:∀ l∈L,q17 P l){hd:Hd T}(hmix:P.follows .mixedOrders=true){n f:Nat}{ty:List AT}{t:T}(hq:allQ P hd L n f ty t=true)
 {G M:AH}{b:Nat}{cells:List AV}(ga:ArgOk G ty cells)(gs:(AV.agg cells).sup≤G.next)(gw:G.wf)(mb:G.next≤b)(kG:∀ i c,G.get i=some c→M.get i=some c)(mn:G.next≤M.next)(ob:Own M b Zb):
 q0n P f [.agg cells,.ptr (some (b,0))] M (fun e H=>e= .ret (.tuple [])∧(∀ i c,M.get i=some c→i≠b→H.get i=some c)∧ ∃ p c q d,∃ (L:List Int) (K:List ByteArray),Txt H M.next b p c q d L K):=q2k fun mw=>by
 have hbl:=(mw b _ ob).1
 obtain⟨os,t',he,hall⟩:∃ os t',fixC P hd L n [] (.call f (allA ty) (allS ty)) t= .ok (os,t')∧os.all quj=true:=by
  unfold allQ at hq;split at hq
  · rename_i r hr; exact⟨r.1,r.2,hr,hq⟩
  · cases hq
 have lGB:Le G (M.del b):=⟨mn,fun j ck hj=>by
  have:=(gw j ck hj).1;rw[AH.z9z (by omega)]; exact kG j ck hj⟩
 have g0:γ z3s ⟨fun _=>0,fun _=>M.next,fun _=> .nilFunc,fun _=>none⟩ (M.del b) ⟨[],q3d M b Zb,0,[]⟩:=by
  refine⟨rfl,⟨zcb _,fun j ck hj=>?_⟩,fun ν' ag=>?_⟩
  · obtain⟨h1,h2⟩:=AH.z9y hj
    exact qf1 mw h2 h1
  · obtain⟨_,n0,_,_⟩:=ag 0 (by show 0<1; decide)
    simp only at n0;refine⟨fun k v hk=>by(cases hk),fun e hm=>by(cases hm),fun x hx=>by(cases hx),fun p hp=>?_,List.pairwise_singleton _ _,fun p hp i hi=>?_,rfl⟩
    · have hp:p∈[((0:Nat),Ck.own [.one .nils,.one .nils] [])]:=hp
      rw[zbs]at hp; subst hp;refine⟨Zb,?_,⟨[.slice none 0 (.exact 0)],by simp only[cv],[],by simp only[cv],rfl⟩,fun p hp=>by(cases hp)⟩
      show(q3d M b Zb).get (ν'.n 0)=_;rw[n0]; exact qf0
    · have hp:p∈[((0:Nat),Ck.own [.one .nils,.one .nils] [])]:=hp
      rw[zbs]at hp; subst hp;simp only[nameOf,zbe]at hi;rw[n0]at hi; subst hi;refine⟨?_,zbi _⟩;cases hg:(M.del b).get M.next with
      | none=>rfl
      | some ck=>exact absurd (mw _ _ (AH.z9y hg).2).1 (Nat.lt_irrefl _)
 obtain⟨ν1,x1,x2,_⟩:=q5c (ty:=ty) (as:=cells) g0 ga.1 (fun ν' _ j w hw=>by
  have hj:j<ty.length:=by rw[←ga.1]; exact(zci.1 hw).1
  obtain⟨w',w1,w2⟩:=ga.2 ν' j hj;rw[hw]at w1; cases w1;exact w2.le lGB)
 have hn1:ν1.n 0=M.next:=(x1.ag 0 (by show 0<1; decide)).2.1
 have h1s:0<(allS ty).ns:=zcm (by show 0<1; decide) x1.ns
 have hc:=qce hL hmix n he (as:=[.agg cells,.ptr (some (M.next,0))]) x1.g (fun ν' ag=>by
  have n0:ν'.n 0=M.next:=((ag 0 h1s).2.1).trans hn1;simp only[allA,cvL,cv,n0,ev_k,Int.toNat_zero,x2 ν' ag])
 have hs0:supL cells≤G.next:=by simpa only[AV.sup]using gs
 have tr:=q61 hc (qah mw rfl ob) (qdf mw rfl) (by simp only[AV.sup,supL,supA,q3d]; omega)
 have e1:renL (Swap M.next b) [.agg cells,.ptr (some (M.next,0))]=[.agg cells,.ptr (some (b,0))]:=by
  simp only[renL,AV.ren,renA,Swap.eq];rw[q2o (n:=M.next) (fun i hi=>Swap.ne (by omega)) cells (by omega)]
 rw[e1]at tr;refine tr.mono ?_;rintro e2 g2 ⟨e,h',⟨o,om,v,a,ox,rfl,ν',hB',ag,ns,le,g1,i1⟩,hwf',hn',hsu,rfl,rfl⟩;clear hsu hwf' hn';have hoq:=zc1.1 hall o om;have hv:cv ν' v=a:=i1 ν' (.refl _ _);subst hv;have hNB:M.next≤hB'.next:=le.next;unfold quj at hoq;rw[ox]at hoq;split at hoq
 case h_2=>cases hoq
 rename_i hx;cases hx;split at hoq
 case h_2=>cases hoq
 rename_i vn vs kn h0;simp only[zbf]at hoq;obtain⟨q1,q2⟩:=hoq;have hN0:ν'.n 0=M.next:=((ag 0 h1s).2.1).trans hn1;obtain⟨cs,c0,⟨cs1,rfl,cs2,rfl,rfl⟩,hkn⟩:=g1.self.hp _ (q05 h0);have c1:h'.get (ν'.n 0)=some (.own [cv ν' vn,cv ν' vs]):=c0;clear c0 hkn;rw[hN0]at c1;obtain⟨p,n1,k1,l1,b1,L1,_⟩:=qk2 g1 q1;obtain⟨q,n2,k2,l2,b2,_,L2⟩:=qk2 g1 q2;have r1:=l1.back (M:=M) (b:=b) hNB c1;have r2:=l2.back (M:=M) (b:=b) hNB c1;have hob:=qqc mw ob c1;rw[l1.eq,l2.eq]at hob
 have hob:(after (Swap M.next b) (q3d M b Zb) h' M).get b=some (.own [.slice (renA (tau M b) p) n1 k1,.slice (renA (tau M b) q) n2 k2]):=by
  rw[hob]; cases p<;>cases q<;>rfl
 obtain⟨K1,e1,t1⟩:∃ L:List Int,n1=L.length∧Lst (after (Swap M.next b) (q3d M b Zb) h' M) M.next (renA (tau M b) p) (L.map (AV.int .i64)):=by
  rcases r1.at_ with⟨_,_,h0⟩ | ⟨i,cs,f1,f2,f3,f4,f5,f6⟩
  · exact⟨[],h0,.inl rfl⟩
  · obtain⟨L,rfl⟩:=L1 rfl i cs f1 f4
    have hl:n1=L.length:=by simpa using f5.symm
    refine⟨L,hl,.inr ⟨tau M b i,0,L.map (AV.int .i64),f3,?_,?_,by simp,by rw[List.drop_zero,List.take_length]⟩⟩
    · rw[q6n f2]; omega
    · rw[qat]at f6; simp only[AH.cells,f6]
 obtain⟨K2,e2,t2⟩:∃ L:List ByteArray,n2=L.length∧Lst (after (Swap M.next b) (q3d M b Zb) h' M) M.next (renA (tau M b) q) (L.map AV.str):=by
  rcases r2.at_ with⟨_,_,h0⟩ | ⟨i,cs,f1,f2,f3,f4,f5,f6⟩
  · exact⟨[],h0,.inl rfl⟩
  · obtain⟨L,rfl⟩:=L2 rfl i cs f1 f4
    have hl:n2=L.length:=by simpa using f5.symm
    refine⟨L,hl,.inr ⟨tau M b i,0,L.map AV.str,f3,?_,?_,by simp,by rw[List.drop_zero,List.take_length]⟩⟩
    · rw[q6n f2]; omega
    · rw[qau]at f6; simp only[AH.cells,f6]
 subst e1; subst e2;refine⟨?_,fun i ck hi hne=>qqe mw ob hi hne (g1.le.get _ _ (le.get _ _ (by rw[AH.z9z hne]; exact hi))),_,k1,_,k2,K1,K2,⟨hob,t1,t2,b1,b2⟩⟩
 show AEnd.ret ((cv ν' (.tup [])).ren _)=_;simp only[cv,cvL,AV.ren,renL]
end
end Go.K
namespace Go.K
open Go Go.J
noncomputable def q1s(rl:List Nat):Hd (List LD) where
 loop _ _ _ t:=match t with
  | a :: r=> .ok (a,r)
  | []=> .no ""
 join _ _ _ t:= .ok (none,t)
 isRec f:=memN f rl
 recA _ _ _ t:=match t with
  | a :: r=> .ok (a,r)
  | []=> .no ""
def isOk{α:Type}:R α→Bool
 | .ok _=>true
 | .no _=>false
noncomputable section
def mvS(m:List (Nat×Nat))(s:Nat):Nat:=List.rec (motive:=fun _=>Nat) s (fun p _ ih=>Bool.rec (motive:=fun _=>Nat) ih (p.2+(s - p.1)) (Nat.ble p.1 s)) m
def Lin.mv(m:List (Nat×Nat))(e:Lin):Lin:=⟨e.c,e.t.map fun p=>(mvS m p.1,p.2)⟩
def Bx.mv(m:List (Nat×Nat)):Bx→Bx
 | .lit b=> .lit b
 | .ge e=> .ge (e.mv m)
 | .eq e=> .eq (e.mv m)
 | .ne e=> .ne (e.mv m)
mutual
def V.mv(m:List (Nat×Nat)):V→V
 | .int k e=> .int k (e.mv m)
 | .bool b=> .bool (b.mv m)
 | .sym c=> .sym (mvS m c)
 | .strc s=> .strc s
 | .ptr c o=> .ptr (mvS m c) (o.mv m)
 | .elp c o=> .elp (mvS m c) (o.mv m)
 | .nilp=> .nilp
 | .slo c o n k=> .slo (mvS m c) (o.mv m) (n.mv m) (k.mv m)
 | .nils=> .nils
 | .fn f a b=> .fn f (mvVs m a) (mvVs m b)
 | .nilf=> .nilf
 | .agg l=> .agg (mvVs m l)
 | .tup l=> .tup (mvVs m l)
 | .map c=> .map (mvS m c)
 | .nilm=> .nilm
 | .yld c=> .yld (mvS m c)
def mvVs(m:List (Nat×Nat)):List V→List V
 | []=>[]
 | v :: r=>v.mv m :: mvVs m r
end
mutual
def AT.mv(m:List (Nat×Nat)):AT→AT
 | .int a b=> .int (a.mv m) (b.mv m)
 | .bool=> .bool
 | .str=> .str
 | .sl a b x t=> .sl (a.mv m) (b.mv m) x (mvTs m t)
def mvTs(m:List (Nat×Nat)):List AT→List AT
 | []=>[]
 | v :: r=>v.mv m :: mvTs m r
end
def mvKn(m:List (Nat×Nat))(l:List (Lin×V)):List (Lin×V):=l.map fun p=>(p.1.mv m,p.2.mv m)
def Sg.mv(m:List (Nat×Nat)):Sg→Sg
 | .one v=> .one (v.mv m)
 | .arr n t=> .arr (n.mv m) (mvTs m t)
def Ck.mv(m:List (Nat×Nat)):Ck→Ck
 | .own l kn=> .own (l.map (Sg.mv m)) (mvKn m kn)
 | .bld t kn=> .bld (mvTs m t) (mvKn m kn)
 | .siter a b=> .siter (a.mv m) (b.mv m)
 | .mp kk a t b=> .mp kk a (mvTs m t) (b.map (mvS m))
 | k=>k
def Fa.mv(m:List (Nat×Nat)):Fa→Fa
 | .str c=> .str (mvS m c)
 | .sl c x t=> .sl (mvS m c) x (mvTs m t)
 | .pre c e t=> .pre (mvS m c) (e.mv m) (mvTs m t)
 | .cell c o v=> .cell (mvS m c) (o.mv m) (v.mv m)
 | f=>f
def mvHp(m:List (Nat×Nat))(l:List (Nat×Ck)):List (Nat×Ck):=l.map fun p=>(mvS m p.1,p.2.mv m)
def LAnn.mv(m:List (Nat×Nat))(a:LAnn):LAnn:=⟨a.k,a.sl.map fun p=>(p.1,p.2.mv m),a.dr,mvHp m a.hp,a.dh.map (mvS m),a.cs.map (Lin.mv m),a.fa.map (Fa.mv m),a.mu.mv m⟩
def LD.mv(m:List (Nat×Nat)):LD→LD
 | .ann a=> .ann (a.mv m)
 | .rcur a ps=> .rcur (a.mv m) (ps.map (LAnn.mv m))
 | d=>d
def mvTp(m:List (Nat×Nat))(l:List LD):List LD:=l.map (LD.mv m)
def Lem.mv(m:List (Nat×Nat))(l:Lem):Lem:=⟨l.f,mvVs m l.args,mvS m l.ns,l.cs.map (Lin.mv m),l.fa.map (Fa.mv m),mvHp m l.hp,l.posts.map (LAnn.mv m)⟩
end
end Go.K
namespace Go.K
open Go Go.J
noncomputable section
def AllL(P:Program):List Lem→Prop
 | []=>True
 | l :: r=>q17 P l∧AllL P r
theorem allL_mem{P:Program}:∀ {L:List Lem},AllL P L→ ∀ l∈L,q17 P l
 | [],_,l,h=>by cases h
 | _ :: _,⟨a,b⟩,l,h=>by
   rcases zbm.1 h with rfl | h
   · exact a
   · exact allL_mem b l h
theorem q0b{T:Type}{P:Program}{L:List Lem}(hL:∀ l∈L,q17 P l){hd:Hd T}(hmix:P.follows .mixedOrders=true){n:Nat}{l:Lem}{t:T}(h:isOk (lemC P hd L n l t)=true):q17 P l:=by
 cases he:lemC P hd L n l t with
 | ok t'=>exact qt3 hL hmix n he
 | no w=>rw[he]at h; cases h
mutual
def tyK:Ty→AT
 | .int lo hi=> .int (.k lo) (.k hi)
 | .bool=> .bool
 | .str=> .str
 | .sl e=> .sl (.k 0) (.k 1048576) true (tyKL e)
 | .sa e=> .sl (.k 0) (.k 1048576) false (tyKL e)
def tyKL:List Ty→List AT
 | []=>[]
 | t :: r=>tyK t :: tyKL r
end
theorem qb0:∀ l:List Ty,(tyKL l).length=l.length
 | []=>rfl
 | _ :: r=>by simp only[tyKL,zce,qb0 r]
theorem z3c{ν:Va}{h:AH}{p:Option (Nat×Nat)}{n:Nat}{e:List Ty}(a:SlV h p n e.length (okL h e))(ih:∀ l,okL h e l→l.length=e.length∧ ∀ j,j<e.length→ ∃ w,l[j]?=some w∧okN ν h (tyKL e) j w):
 0<n→ ∃ id off cs,p=some (id,off)∧h.cells id=some cs∧off+n * (tyKL e).length≤cs.length∧ ∀ q,q<n * (tyKL e).length→ ∃ w,cs[off+q]?=some w∧okN ν h (tyKL e) (q % (tyKL e).length) w:=fun hn=>by
 obtain⟨id,off,cs,rfl,h1,h2,h3⟩:=a hn;refine⟨id,off,cs,rfl,h1,by rw[qb0]; exact h2,fun q hq=>?_⟩
 rw[qb0]at hq ⊢;have hz:0<e.length:=Nat.pos_of_ne_zero fun hz=>by rw[hz]at hq; omega
 have hd:q / e.length<n:=Nat.div_lt_of_lt_mul (by rw[Nat.mul_comm]; exact hq)
 obtain⟨l,l1,l2,l3⟩:=h3 ((q / e.length:Nat):Int) (Int.natCast_nonneg _) (Int.ofNat_lt.2 hd);obtain⟨_,k⟩:=ih l l2;obtain⟨w,w1,w2⟩:=k (q % e.length) (Nat.mod_lt _ hz);refine⟨w,?_,w2⟩;rw[←l3,zcp,if_pos (Nat.mod_lt _ hz),zcq]at w1;rw[←w1];congr 1;have:=Nat.div_add_mod q e.length;rw[Nat.mul_comm]at this;simp only[zcf];omega
mutual
theorem z88(ν:Va){h:AH}:∀ {t:Ty} {v:AV},okV h t v→okT ν h (tyK t) v
 | .int lo hi,v,a=>by
   obtain⟨n,rfl,h1,h2⟩:=a;exact⟨n,rfl,by rw[ev_k]; exact h1,by rw[ev_k]; exact h2⟩
 | .bool,v,a=>a
 | .str,v,a=>a
 | .sl e,v,a=>by
   obtain⟨p,n,c,rfl,h1,h2,h3⟩:=a;exact⟨p,n,_,rfl,by rw[ev_k]; omega,by rw[ev_k]; omega,fun _=>⟨c,rfl,h1⟩,z3c h3 fun l hl=>qmh ν hl⟩
 | .sa e,v,a=>by
   obtain⟨p,n,c,rfl,h2,h3⟩:=a;exact⟨p,n,_,rfl,by rw[ev_k]; omega,by rw[ev_k]; omega,fun hf=>(by cases hf),z3c h3 fun l hl=>qmh ν hl⟩
theorem qmh(ν:Va){h:AH}:∀ {ts:List Ty} {l:List AV},okL h ts l→l.length=ts.length∧ ∀ j,j<ts.length→ ∃ w,l[j]?=some w∧okN ν h (tyKL ts) j w
 | [],l,a=>by
   have:l=[]:=a;subst this;exact⟨rfl,fun j hj=>absurd hj (zcn j)⟩
 | t :: r,l,a=>by
   obtain⟨v,l2,rfl,h1,h2⟩:=a;obtain⟨k1,k2⟩:=qmh ν h2;refine⟨by simp only[zce,k1],fun j hj=>?_⟩
   cases j with
   | zero=>exact⟨v,rfl,z88 ν h1⟩
   | succ j=>
     obtain⟨w,w1,w2⟩:=k2 j (by simp only[zce]at hj; omega)
     exact⟨w,by simpa using w1,w2⟩
end
theorem argOk_of{h:AH}{ts:List Ty}{l:List AV}(a:okL h ts l):ArgOk h (tyKL ts) l:=by
 obtain⟨v,hv⟩:∃ v:Va,True:=⟨⟨fun _=>0,fun _=>0,fun _=> .nilFunc,fun _=>none⟩,trivial⟩
 refine⟨by rw[qb0]; exact(qmh v a).1,fun ν j hj=>?_⟩
 rw[qb0]at hj;exact(qmh ν a).2 j hj
theorem ArgOk.le{h h':AH}{ty:List AT}{l:List AV}(a:ArgOk h ty l)(hl:Le h h'):ArgOk h' ty l:=⟨a.1,fun ν j hj=>by
 obtain⟨w,w1,w2⟩:=a.2 ν j hj;exact⟨w,w1,w2.le hl⟩⟩
theorem first_allK{P:Program}{f:FuncId}{x:AV}{h G0 G1 G2:AH}{xb a b:Nat}{cells:List AV}(hw:h.wf)(n0:h.AddTo xb (.own cells) G0)(n1:G0.AddTo a (.own Zb) G1)(n2:G1.AddTo b (.own Zb) G2)
 (g2w:G2.wf)(hxs:x.sup≤h.next)
 (hc:∀ M:AH,h.next≤a→(∀ i c,h.get i=some c→M.get i=some c)→h.next≤M.next→Own M a Zb→q0n P f [x,.ptr (some (a,0))] M (fun e H=>e= .ret (.tuple [])∧(∀ i c,M.get i=some c→i≠a→H.get i=some c)∧ ∃ p c q d,∃ (L:List Int) (K:List ByteArray),Txt H M.next a p c q d L K)):
 ∃ H0 p c q d,∃ (L:List Int) (K:List ByteArray),Txt H0 (G2.del b).next a p c q d L K∧q0n P f [x,.ptr (some (a,0))] (G2.del b) (fun e H=>e= .ret (.tuple [])∧H=H0)∧H0.wf∧(G2.del b).next≤H0.next∧(∀ i c,(G2.del b).get i=some c→i≠a→H0.get i=some c)∧
   q0n P f [x,.ptr (some (a,0))] G2 (fun e H1=>e= .ret (.tuple [])∧Framed G2 H0 b H1):=by
 obtain⟨is0,nx0,new0,old0⟩:=n0;obtain⟨is1,nx1,new1,old1⟩:=n1;obtain⟨is2,nx2,new2,old2⟩:=n2;have hab:a≠b:=by omega
 have oa:Own (G2.del b) a Zb:=by show(G2.del b).get a=_; rw[AH.z9z hab]; exact(old2 a hab).trans new1
 obtain⟨e0,H0,⟨rfl,keep,p,c,q,d,L,K,t⟩,h0w,_,h0n,hfx⟩:=q0n.fix (hc (G2.del b) (by omega) (fun i c hi=>by
  have:=(hw i c hi).1;rw[AH.z9z (by omega),old2 i (by omega),old1 i (by omega),old0 i (by omega)]; exact hi) (by simp only[AH.del]; omega) oa) (AH.za0 g2w) (by simp only[supL,AV.sup,supA,AH.del]; omega)
 exact⟨H0,p,c,q,d,L,K,t,hfx,h0w,h0n,keep,qnt hfx g2w (by simp only[supL,AV.sup,supA]; omega) new2⟩
end
end Go.K
