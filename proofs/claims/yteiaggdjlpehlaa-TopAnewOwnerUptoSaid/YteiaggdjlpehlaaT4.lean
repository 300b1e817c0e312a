import Derived.Test.YteiaggdjlpehlaaT3
set_option linter.all false
namespace Go.K
open Go Go.J
theorem z7f(a b:Int):ibeq a b=match a,b with | .ofNat a,.ofNat b=>Nat.beq a b | .negSucc a,.negSucc b=>Nat.beq a b | _,_=>false:=by cases a<;>cases b<;>rfl
theorem z9g(a:Int):inn a=match a with | .ofNat _=>true | .negSucc _=>false:=by cases a<;>rfl
theorem z7i(a:Int):ipos a=match a with | .ofNat n=>Nat.blt 0 n | .negSucc _=>false:=by cases a<;>rfl
theorem z7h(a:Int):ineg a=match a with | .ofNat _=>false | .negSucc _=>true:=by cases a<;>rfl
theorem z7e(a:Int):iabs a=match a with | .ofNat n=> .ofNat n | .negSucc n=> .ofNat (n+1):=by cases a<;>rfl
theorem qqz(m n:Nat):qof m n=(m:Int) - n:=by
 have:qof m n=match Nat.ble n m with | true=> .ofNat (Nat.sub m n) | false=> .negSucc (Nat.sub (Nat.sub n m) 1):=by unfold qof; cases Nat.ble n m<;>rfl
 rw[this];cases h:Nat.ble n m with
 | true=>have:=zbj h; show((m - n:Nat):Int)=_; omega
 | false=>
   have:¬ n≤m:=fun hh=>by rw[Nat.ble_eq_true_of_le hh]at h; cases h
   show Int.negSucc (n - m - 1)=_;omega
theorem qjb(a b:Int):iadd a b=a+b:=by
 cases a with
 | ofNat m=>cases b with
   | ofNat n=>rfl
   | negSucc n=>show qof m (n+1)=_; rw[qqz]; simp only[Int.ofNat_eq_natCast]; omega
 | negSucc m=>cases b with
   | ofNat n=>show qof n (m+1)=_; rw[qqz]; simp only[Int.ofNat_eq_natCast]; omega
   | negSucc n=>rfl
theorem qjc(n:Nat):qsx n= -(n:Int):=by
 cases n with
 | zero=>rfl
 | succ n=>show Int.negSucc (n+1 - 1)=_; omega
theorem qoc(a b:Int):imul a b=a * b:=by
 cases a with
 | ofNat m=>cases b with
   | ofNat n=>rfl
   | negSucc n=>show qsx (m * (n+1))=_; rw[qjc,Int.negSucc_eq,Int.mul_neg]; rfl
 | negSucc m=>cases b with
   | ofNat n=>show qsx ((m+1) * n)=_; rw[qjc,Int.negSucc_eq,Int.neg_mul]; rfl
   | negSucc n=>show((((m+1) * (n+1):Nat)):Int)=_; rw[Int.negSucc_eq,Int.negSucc_eq,Int.neg_mul_neg]; rfl
theorem z0f(a:Int):z7g a= -a:=by
 cases a with
 | ofNat n=>exact qjc n
 | negSucc n=>rfl
theorem z4t(a b:Int):isub a b=a - b:=by unfold isub; rw[qjb,z0f]; omega
theorem Lin.zag(a b:Lin):a.add b=⟨a.c+b.c,addT a.t b.t⟩:=by
 obtain⟨c,t⟩:=a; obtain⟨d,u⟩:=b;show(⟨iadd c d,addT t u⟩:Lin)=_;rw[qjb]
theorem z0g(s:Nat)(k:Int):insT s k []=[(s,k)]:=rfl
theorem qwb(s:Nat)(k:Int)(p:Nat×Int)(r:List (Nat×Int)):insT s k (p :: r)=match Nat.beq p.1 s with
 | true=>match ibeq (p.2+k) 0 with
   | true=>r
   | false=>(s,p.2+k) :: r
 | false=>match Nat.blt p.1 s with
   | true=>(s,k) :: p :: r
   | false=>p :: insT s k r:=by
 obtain⟨t,j⟩:=p
 have h1:insT s k ((t,j) :: r)=Bool.rec (motive:=fun _=>List (Nat×Int)) (Bool.rec (motive:=fun _=>List (Nat×Int)) ((t,j) :: insT s k r) ((s,k) :: (t,j) :: r) (Nat.ble (Nat.succ t) s))
  (Int.rec (motive:=fun _=>List (Nat×Int)) (fun n=>Bool.rec (motive:=fun _=>List (Nat×Int)) ((s,.ofNat n) :: r) r (Nat.beq n 0)) (fun n=>(s,.negSucc n) :: r) (iadd j k)) (Nat.beq t s):=rfl
 rw[h1,qjb]
 show _=match Nat.beq t s with
  | true=>match ibeq (j+k) 0 with
    | true=>r
    | false=>(s,j+k) :: r
  | false=>match Nat.ble (t+1) s with
    | true=>(s,k) :: (t,j) :: r
    | false=>(t,j) :: insT s k r
 cases Nat.beq t s with
 | false=>cases Nat.ble (t+1) s<;>rfl
 | true=>
   cases j+k with
   | ofNat n=>show(Bool.rec _ _ (Nat.beq n 0):List (Nat×Int))=match Nat.beq n 0 with | true=>r | false=>(s,.ofNat n) :: r
              cases Nat.beq n 0<;>rfl
   | negSucc n=>rfl
theorem qzm(b:List (Nat×Int)):addT [] b=b:=rfl
theorem quh(p:Nat×Int)(r b:List (Nat×Int)):addT (p :: r) b=insT p.1 p.2 (addT r b):=rfl
theorem z5y(k:Int):scT k []=[]:=rfl
theorem z1i(k:Int)(p:Nat×Int)(r:List (Nat×Int)):scT k (p :: r)=(p.1,k * p.2) :: scT k r:=by
 obtain⟨t,j⟩:=p;show(t,imul k j) :: scT k r=_;rw[qoc]
theorem Lin.sc_e(k:Int)(e:Lin):e.sc k=match ibeq k 0 with | true=>⟨0,[]⟩ | false=>⟨k * e.c,scT k e.t⟩:=by
 obtain⟨c,t⟩:=e;have:Lin.sc k ⟨c,t⟩=Bool.rec (motive:=fun _=>Lin) ⟨imul k c,scT k t⟩ ⟨0,[]⟩ (ibeq k 0):=rfl
 rw[this,qoc];cases ibeq k 0<;>rfl
theorem Lin.zah(a:Lin)(k:Int):a.addk k=⟨a.c+k,a.t⟩:=by
 obtain⟨c,t⟩:=a;show(⟨iadd c k,t⟩:Lin)=_;rw[qjb]
theorem qi8(a b:Int):q5g a b=((ipos a&&ipos b)||(ineg a&&ineg b)):=by
 cases a with
 | ofNat m=>
   show(Bool.rec (ipos b) false (Nat.beq m 0):Bool)=((Nat.ble 1 m&&ipos b)||(false&&ineg b));cases m<;>simp[Nat.beq]<;>rfl
 | negSucc m=>show ineg b=((false&&ipos b)||(true&&ineg b)); simp
theorem z9n(a b:List (Nat×Int)):teq a b=match a,b with | [],[]=>true | p :: r,q :: s=>Nat.beq p.1 q.1&&ibeq p.2 q.2&&teq r s | _,_=>false:=by
 cases a<;>cases b<;>try rfl
 rename_i p r q s;show(Bool.rec false (Bool.rec false (teq r s) (ibeq p.2 q.2)) (Nat.beq p.1 q.1):Bool)=(Nat.beq p.1 q.1&&ibeq p.2 q.2&&teq r s);cases Nat.beq p.1 q.1<;>cases ibeq p.2 q.2<;>simp
theorem qs4(q:Nat×Int)(s:List (Nat×Int)):teq [] (q :: s)=false:=rfl
theorem qyd(q:Nat×Int)(s:List (Nat×Int)):teq (q :: s) []=false:=rfl
theorem z3f(p q:Nat×Int)(r s:List (Nat×Int)):teq (p :: r) (q :: s)=(Nat.beq p.1 q.1&&ibeq p.2 q.2&&teq r s):=z9n _ _
theorem Tr.get_nil(s:Nat)(sg:Bool):Tr.nil.get s sg=[]:=rfl
theorem Tr.zaq(p n q:List Lin)(a b c d:Tr)(s:Nat)(sg:Bool):(Tr.node p n q a b c d).get s sg=match Nat.beq s 0 with
 | true=>match sg with
   | true=>p
   | false=>n
 | false=>match Nat.mod s 4 with
   | 0=>a.get (Nat.div s 4) sg
   | 1=>b.get (Nat.div s 4) sg
   | 2=>c.get (Nat.div s 4) sg
   | _=>d.get (Nat.div s 4) sg:=by
 show(Bool.rec (sel4 (Nat.mod s 4) (fun s=>a.get s sg) (fun s=>b.get s sg) (fun s=>c.get s sg) (fun s=>d.get s sg) (Nat.div s 4)) (Bool.rec n p sg) (Nat.beq s 0):List Lin)=_
 cases Nat.beq s 0 with
 | true=>cases sg<;>rfl
 | false=>
   generalize Nat.mod s 4=m
   match m with
   | 0=>rfl
   | 1=>rfl
   | 2=>rfl
   | m+3=>rfl
theorem Tr.zao(s:Nat):Tr.nil.getQ s=[]:=rfl
theorem Tr.zap(p n q:List Lin)(a b c d:Tr)(s:Nat):(Tr.node p n q a b c d).getQ s=match Nat.beq s 0 with
 | true=>q
 | false=>match Nat.mod s 4 with
   | 0=>a.getQ (Nat.div s 4)
   | 1=>b.getQ (Nat.div s 4)
   | 2=>c.getQ (Nat.div s 4)
   | _=>d.getQ (Nat.div s 4):=by
 show(Bool.rec (sel4 (Nat.mod s 4) (fun s=>a.getQ s) (fun s=>b.getQ s) (fun s=>c.getQ s) (fun s=>d.getQ s) (Nat.div s 4)) q (Nat.beq s 0):List Lin)=_
 cases Nat.beq s 0 with
 | true=>rfl
 | false=>
   generalize Nat.mod s 4=m
   match m with
   | 0=>rfl
   | 1=>rfl
   | 2=>rfl
   | m+3=>rfl
theorem Tr.zb9(sg:Nat)(e:Lin)(p n q:List Lin)(a b c d:Tr):Tr.put1 sg e p n q a b c d=match sg with
 | 0=> .node p (e :: n) q a b c d
 | 1=> .node (e :: p) n q a b c d
 | _=> .node p n (e :: q) a b c d:=by
 match sg with
 | 0=>rfl
 | 1=>rfl
 | n+2=>rfl
theorem Tr.zbc(p n q:List Lin)(a b c d:Tr)(f:Tr→Tr)(m:Nat):Tr.sub4 p n q a b c d f m=match m with
        | 0=> .node p n q (f a) b c d
        | 1=> .node p n q a (f b) c d
        | 2=> .node p n q a b (f c) d
        | _=> .node p n q a b c (f d):=by
 match m with
 | 0=>rfl
 | 1=>rfl
 | 2=>rfl
 | n+3=>rfl
theorem Tr.zau(sg:Nat)(e:Lin)(f s:Nat)(t:Tr):Tr.ins sg e (f+1) s t=match Nat.beq s 0 with
 | true=>match t with
   | .nil=>Tr.put1 sg e [] [] [] .nil .nil .nil .nil
   | .node p n q a b c d=>Tr.put1 sg e p n q a b c d
 | false=>match t with
   | .nil=>match Nat.mod s 4 with
     | 0=> .node [] [] [] (Tr.ins sg e f (Nat.div s 4) .nil) .nil .nil .nil
     | 1=> .node [] [] [] .nil (Tr.ins sg e f (Nat.div s 4) .nil) .nil .nil
     | 2=> .node [] [] [] .nil .nil (Tr.ins sg e f (Nat.div s 4) .nil) .nil
     | _=> .node [] [] [] .nil .nil .nil (Tr.ins sg e f (Nat.div s 4) .nil)
   | .node p n q a b c d=>match Nat.mod s 4 with
     | 0=> .node p n q (Tr.ins sg e f (Nat.div s 4) a) b c d
     | 1=> .node p n q a (Tr.ins sg e f (Nat.div s 4) b) c d
     | 2=> .node p n q a b (Tr.ins sg e f (Nat.div s 4) c) d
     | _=> .node p n q a b c (Tr.ins sg e f (Nat.div s 4) d):=by
 have hN:∀ p n q a b c d,Tr.insN sg e (fun s t=>Tr.ins sg e f s t) s p n q a b c d=match Nat.beq s 0 with | true=>Tr.put1 sg e p n q a b c d | false=>Tr.sub4 p n q a b c d (fun t=>Tr.ins sg e f (Nat.div s 4) t) (Nat.mod s 4):=by
  intro p n q a b c d;unfold Tr.insN;cases Nat.beq s 0<;>rfl
 cases t with
 | nil=>
   show Tr.insN sg e (fun s t=>Tr.ins sg e f s t) s [] [] [] .nil .nil .nil .nil=_
   rw[hN];cases Nat.beq s 0 with
   | true=>rfl
   | false=>simp only[Tr.zbc]
 | node p n q a b c d=>
   show Tr.insN sg e (fun s t=>Tr.ins sg e f s t) s p n q a b c d=_
   rw[hN];cases Nat.beq s 0 with
   | true=>rfl
   | false=>simp only[Tr.zbc]
theorem Tr.zb1(t:Tr):t.nrmT []= .k 0:=rfl
theorem Tr.zaz(t:Tr)(p:Nat×Int)(r:List (Nat×Int)):t.nrmT (p :: r)=(t.sym p.1 p.2).add (t.nrmT r):=rfl
theorem Tr.zan(e:Lin)(t:Tr)(p:Nat×Int)(r:List (Nat×Int)):Tr.add1 e t (p :: r)=Tr.ins (match ipos p.2 with | true=>1 | false=>0) e 16 p.1 (Tr.add1 e t r):=by
 show Tr.ins (Bool.rec 0 1 (ipos p.2)) e 16 p.1 (Tr.add1 e t r)=_;cases ipos p.2<;>rfl
theorem z1p(f:Lin→Nat→Pr)(g:Lin)(a:Int)(s k:Nat):tryL f g a s [] k= .no k:=rfl
theorem qyh(f:Lin→Nat→Pr)(g:Lin)(a:Int)(s:Nat)(e:Lin)(r:List Lin):tryL f g a s (e :: r) 0= .no 0:=rfl
theorem qyg(f:Lin→Nat→Pr)(g:Lin)(a:Int)(s:Nat)(e:Lin)(r:List Lin)(k:Nat):tryL f g a s (e :: r) (k+1)=match q5g a (coef s e.t)with
 | false=>tryL f g a s r k
 | true=>match f (elim g e a (coef s e.t)) k with
   | .yes=> .yes
   | .no k=>tryL f g a s r k:=by
 show(Bool.rec (tryL f g a s r k) (Pr.rec .yes (fun k=>tryL f g a s r k) (f (elim g e a (coef s e.t)) k)) (q5g a (coef s e.t)):Pr)=_
 cases q5g a (coef s e.t)with
 | false=>rfl
 | true=>cases f (elim g e a (coef s e.t)) k<;>rfl
theorem qyf(cs:Tr)(n:Nat)(g:Lin):topQ cs (n+1) g=match g.t with
 | []=>g
 | p :: _=>match cs.getQ p.1 with
   | []=>g
   | x :: _=>topQ cs n (g.sub (x.sc (p.2 * coef p.1 x.t))):=by
 show(List.rec (motive:=fun _=>Lin) g (fun p _ _=>List.rec (motive:=fun _=>Lin) g (fun x _ _=>topQ cs n (g.sub (x.sc (imul p.2 (coef p.1 x.t))))) (cs.getQ p.1)) g.t:Lin)=_
 cases g.t with
 | nil=>rfl
 | cons p r=>
   show(List.rec (motive:=fun _=>Lin) g (fun x _ _=>topQ cs n (g.sub (x.sc (imul p.2 (coef p.1 x.t))))) (cs.getQ p.1):Lin)=match cs.getQ p.1 with
    | []=>g
    | x :: _=>topQ cs n (g.sub (x.sc (p.2 * coef p.1 x.t)))
   cases cs.getQ p.1 with
   | nil=>rfl
   | cons x r=>show topQ cs n (g.sub (x.sc (imul p.2 (coef p.1 x.t))))=_; rw[qoc]
theorem qtj(cs:Tr)(g:Lin)(k:Nat):prove cs 0 g k=match(topQ cs 8 g).nn with | true=> .yes | false=> .no k:=by
 show(Bool.rec (.no k) .yes (topQ cs 8 g).nn:Pr)=_;cases(topQ cs 8 g).nn<;>rfl
theorem qti(cs:Tr)(n:Nat)(g:Lin)(k:Nat):prove cs (n+1) g k=match topQ cs 8 g with
 | ⟨c,t⟩=>match ile (-1152921504606846976) c with
   | false=> .no k
   | true=>match t with
     | []=>match inn c with
       | true=> .yes
       | false=> .no k
     | p :: _=>tryL (prove cs n) ⟨c,t⟩ p.2 p.1 (cs.get p.1 (ipos p.2)) k:=by
 show(Lin.rec (motive:=fun _=>Pr) (fun c t=>Bool.rec (motive:=fun _=>Pr) (.no k) (List.rec (motive:=fun _=>Pr) (Bool.rec (motive:=fun _=>Pr) (.no k) .yes (inn c)) (fun p _ _=>tryL (prove cs n) ⟨c,t⟩ p.2 p.1 (cs.get p.1 (ipos p.2)) k) t) (ile (-1152921504606846976) c)) (topQ cs 8 g):Pr)=_
 obtain⟨c,t⟩:=topQ cs 8 g;show(Bool.rec (motive:=fun _=>Pr) (.no k) (List.rec (motive:=fun _=>Pr) (Bool.rec (motive:=fun _=>Pr) (.no k) .yes (inn c)) (fun p _ _=>tryL (prove cs n) ⟨c,t⟩ p.2 p.1 (cs.get p.1 (ipos p.2)) k) t) (ile (-1152921504606846976) c):Pr)=_
 simp only;cases ile (-1152921504606846976) c with
 | false=>rfl
 | true=>cases t with
   | nil=>cases inn c<;>rfl
   | cons p r=>rfl
section
variable{α:Type}
theorem q0h(k:Nat):getL ([]:List (Nat×α)) k=none:=rfl
theorem q0c(p:Nat×α)(r:List (Nat×α))(k:Nat):getL (p :: r) k=match Nat.beq p.1 k with | true=>some p.2 | false=>getL r k:=by
 obtain⟨t,x⟩:=p;show(Bool.rec (getL r k) (some x) (Nat.beq t k):Option α)=match Nat.beq t k with | true=>some x | false=>getL r k
 cases Nat.beq t k<;>rfl
theorem q9i(k:Nat):rmL ([]:List (Nat×α)) k=[]:=rfl
theorem q8h(p:Nat×α)(r:List (Nat×α))(k:Nat):rmL (p :: r) k=match Nat.beq p.1 k with | true=>rmL r k | false=>p :: rmL r k:=by
 obtain⟨t,x⟩:=p;show(Bool.rec ((t,x) :: rmL r k) (rmL r k) (Nat.beq t k):List (Nat×α))=match Nat.beq t k with | true=>rmL r k | false=>(t,x) :: rmL r k
 cases Nat.beq t k<;>rfl
theorem qaw(k:Nat)(x:α):setL [] k x=[]:=rfl
theorem q7m(p:Nat×α)(r:List (Nat×α))(k:Nat)(x:α):setL (p :: r) k x=match Nat.beq p.1 k with | true=>(k,x) :: r | false=>p :: setL r k x:=by
 show(Bool.rec (p :: setL r k x) ((k,x) :: r) (Nat.beq p.1 k):List (Nat×α))=_;cases Nat.beq p.1 k<;>rfl
theorem qv9(a b:List α):cat a b=a++b:=by
 induction a with
 | nil=>rfl
 | cons x r ih=>show x :: cat r b=_; rw[ih]; rfl
theorem qbn{x:α}{a b:List α}:x∈cat a b↔x∈a∨x∈b:=by rw[qv9,zbr]
theorem qou:∀ (l:List α) (n:Nat),nthO l n=l[n]?
 | [],_=>rfl
 | _ :: _,0=>rfl
 | _ :: r,n+1=>qou r n
end
theorem qw3{α:Type}(n:Nat)(k:Nat→α):frcN n k=k n:=by cases n<;>rfl
theorem AS.za6{α:Type}(S:AS)(k:AS→α):S.frc k=k S:=by
 obtain⟨ns,sl,cs,fa,hp,nt,df⟩:=S;show frcN ns (fun ns=>frcN nt fun nt=>List.rec (motive:=fun _=>α) (k ⟨ns,sl,cs,fa,hp,nt,[]⟩) (fun d df _=>k ⟨ns,sl,cs,fa,hp,nt,d :: df⟩) df)=_
 rw[qw3,qw3];cases df<;>rfl
end Go.K
namespace Go.K
open Go Go.J
noncomputable section
theorem q1b{a b:Int}:ibeq a b=true↔a=b:=by
 rw[z7f];cases a<;>cases b<;>simp<;>omega
theorem q2g{a:Int}:inn a=true↔0≤a:=by
 rw[z9g];cases a with
 | ofNat n=>simp
 | negSucc n=>simp only; constructor
              · intro h; cases h
              · intro h; omega
theorem qde{a:Int}:ipos a=true↔0<a:=by
 rw[z7i];cases a with
 | ofNat n=>simp[Nat.blt,Nat.ble_eq]; omega
 | negSucc n=>simp only; constructor
              · intro h; cases h
              · intro h; omega
theorem qdd{a:Int}:ineg a=true↔a<0:=by
 rw[z7h];cases a with
 | ofNat n=>simp only; constructor
            · intro h; cases h
            · intro h; simp at h; omega
 | negSucc n=>simp
theorem qja{a:Int}:iabs a=if a<0 then -a else a:=by
 rw[z7e];cases a with
 | ofNat n=>simp only; split<;>simp_all; omega
 | negSucc n=>simp only[Int.ofNat_eq_natCast]; split<;>omega
theorem q7c{a b:Int}:ile a b=true↔a≤b:=by unfold ile; rw[q2g,z4t]; omega
variable{f:Nat→Int}
theorem qvu(s:Nat)(k:Int):∀ l,evT f (insT s k l)=k * f s+evT f l
 | []=>by simp[z0g,evT]
 | p :: r=>by
   simp only[qwb];split
   · rename_i hb
     have hs:p.1=s:=zbg hb;split
     · rename_i hz
       have:=q1b.1 hz;simp only[evT];have e:k * f s+p.2 * f p.1=0:=by rw[hs,←Int.add_mul,Int.add_comm k,this,Int.zero_mul]
       omega
     · simp only[evT,hs,Int.add_mul]; omega
   · split
     · simp only[evT]
     · simp only[evT,qvu s k r]; omega
theorem qvt:∀ a b,evT f (addT a b)=evT f a+evT f b
 | [],b=>by simp[qzm,evT]
 | p :: r,b=>by simp only[quh,qvu,evT,qvt r b]; omega
theorem q4p(a b:Lin):(a.add b).ev f=a.ev f+b.ev f:=by simp only[Lin.zag,Lin.ev,qvt]; omega
theorem z2m(k:Int):∀ l,evT f (scT k l)=k * evT f l
 | []=>by simp[z5y,evT]
 | p :: r=>by simp only[z1i,evT,z2m k r,Int.mul_add,Int.mul_assoc]
theorem q2b(k:Int)(e:Lin):(e.sc k).ev f=k * e.ev f:=by
 rw[Lin.sc_e];split
 · rename_i h
   rw[q1b.1 h]; simp[Lin.ev,evT]
 · simp only[Lin.ev,z2m,Int.mul_add]
theorem q0y(a b:Lin):(a.sub b).ev f=a.ev f - b.ev f:=by simp only[Lin.sub,q4p,q2b]; omega
theorem q0f(a:Lin)(k:Int):(a.addk k).ev f=a.ev f+k:=by simp only[Lin.zah,Lin.ev]; omega
theorem ev_k(c:Int):(Lin.k c).ev f=c:=by simp[Lin.k,Lin.ev,evT]
theorem ev_s(n:Nat):(Lin.s n).ev f=f n:=by simp[Lin.s,Lin.ev,evT]
theorem q1l{e:Lin}{c:Int}(h:e.isK=some c):e.ev f=c:=by
 obtain⟨c',t⟩:=e;cases t with
 | nil=>simp[Lin.isK]at h; subst h; simp[Lin.ev,evT]
 | cons p r=>simp[Lin.isK]at h
theorem z9j{e:Lin}(h:e.nn=true):0≤e.ev f:=by
 obtain⟨c',t⟩:=e;cases t with
 | nil=>simp only[Lin.nn]at h; simpa [Lin.ev,evT]using q2g.1 h
 | cons p r=>simp[Lin.nn]at h
def Tr.Mem(e:Lin):Tr→Prop
 | .nil=>False
 | .node p n q a b c d=>e∈p∨e∈n∨e∈q∨(∃ x∈q,e=x.sc (-1))∨a.Mem e∨b.Mem e∨c.Mem e∨d.Mem e
instance:Membership Lin Tr:=⟨fun t e=>t.Mem e⟩
theorem Tr.mem_def{e:Lin}{t:Tr}:e∈t↔t.Mem e:=Iff.rfl
theorem Tr.zav{e:Lin}{sg:Bool}:∀ {t:Tr} {s:Nat},e∈t.get s sg→e∈t
 | .nil,_,h=>by simp[Tr.get_nil]at h
 | .node p n q a b c d,s,h=>by
   rw[Tr.mem_def];rw[Tr.zaq]at h;simp only[Tr.Mem];split at h
   · split at h
     · exact .inl h
     · exact .inr (.inl h)
   · split at h
     · exact .inr (.inr (.inr (.inr (.inl (Tr.zav h)))))
     · exact .inr (.inr (.inr (.inr (.inr (.inl (Tr.zav h))))))
     · exact .inr (.inr (.inr (.inr (.inr (.inr (.inl (Tr.zav h)))))))
     · exact .inr (.inr (.inr (.inr (.inr (.inr (.inr (Tr.zav h)))))))
theorem Tr.zaw{e:Lin}:∀ {t:Tr} {s:Nat},e∈t.getQ s→e∈t∧e.sc (-1)∈t
 | .nil,_,h=>by simp[Tr.zao]at h
 | .node p n q a b c d,s,h=>by
   rw[Tr.mem_def,Tr.mem_def];rw[Tr.zap]at h;simp only[Tr.Mem];split at h
   · exact⟨.inr (.inr (.inl h)),.inr (.inr (.inr (.inl ⟨e,h,rfl⟩)))⟩
   · split at h
     · exact⟨.inr (.inr (.inr (.inr (.inl (Tr.zaw h).1)))),.inr (.inr (.inr (.inr (.inl (Tr.zaw h).2))))⟩
     · exact⟨.inr (.inr (.inr (.inr (.inr (.inl (Tr.zaw h).1))))),.inr (.inr (.inr (.inr (.inr (.inl (Tr.zaw h).2)))))⟩
     · exact⟨.inr (.inr (.inr (.inr (.inr (.inr (.inl (Tr.zaw h).1)))))),.inr (.inr (.inr (.inr (.inr (.inr (.inl (Tr.zaw h).2))))))⟩
     · exact⟨.inr (.inr (.inr (.inr (.inr (.inr (.inr (Tr.zaw h).1)))))),.inr (.inr (.inr (.inr (.inr (.inr (.inr (Tr.zaw h).2))))))⟩
theorem Tr.zay{e x:Lin}{sg:Nat}{p n q:List Lin}{a b c d:Tr}(h:x∈Tr.put1 sg e p n q a b c d):x=e∨(2≤sg∧x=e.sc (-1))∨x∈Tr.node p n q a b c d:=by
 rw[Tr.mem_def]at h ⊢;rw[Tr.zb9]at h;split at h<;>simp only[Tr.Mem,zbm]at h ⊢
 · grind
 · grind
 · rename_i h0 h1
   have:2≤sg:=by
    rcases sg with _ | _ | n
    · exact absurd rfl h0
    · exact absurd rfl h1
    · omega
   rcases h with h | h | h | ⟨y,h,k⟩ | h
   · exact .inr (.inr (.inl h))
   · exact .inr (.inr (.inr (.inl h)))
   · rcases h with h | h
     · exact .inl h
     · exact .inr (.inr (.inr (.inr (.inl h))))
   · rcases h with h | h
     · subst h; exact .inr (.inl ⟨this,k⟩)
     · exact .inr (.inr (.inr (.inr (.inr (.inl ⟨y,h,k⟩)))))
   · exact .inr (.inr (.inr (.inr (.inr (.inr h)))))
theorem Tr.zax{e x:Lin}{sg:Nat}:∀ {f s:Nat} {t:Tr},x∈Tr.ins sg e f s t→x=e∨(2≤sg∧x=e.sc (-1))∨x∈t
 | 0,_,_,h=> .inr (.inr h)
 | f+1,s,t,h=>by
   rw[Tr.mem_def]at h;rw[Tr.mem_def];rw[Tr.zau]at h;have ih:∀ {s:Nat} {t:Tr},(Tr.ins sg e f s t).Mem x→x=e∨(2≤sg∧x=e.sc (-1))∨t.Mem x:=fun h=>Tr.zax h
   split at h
   · split at h
     · rcases Tr.zay h with h | h | h
       · exact .inl h
       · exact .inr (.inl h)
       · rw[Tr.mem_def]at h; simp[Tr.Mem]at h
     · exact Tr.zay h
   · split at h
     · split at h<;>(simp only[Tr.Mem,zc6,false_or,or_false,false_and,exists_false]at h ⊢; rcases ih h with h | h | h; exact .inl h; exact .inr h; exact h.elim)
     · split at h<;>simp only[Tr.Mem]at h ⊢ <;>grind
def Tr.Ok(f:Nat→Int)(t:Tr):Prop:= ∀ e∈t,0≤e.ev f
theorem Tr.Ok.q{t:Tr}(h:t.Ok f){s:Nat}{e:Lin}(he:e∈t.getQ s):e.ev f=0:=by
 have h1:=h _ (Tr.zaw he).1;have h2:=h _ (Tr.zaw he).2;rw[q2b]at h2;omega
theorem Tr.zbd{t:Tr}(h:t.Ok f)(s:Nat)(k:Int):(t.sym s k).ev f=k * f s:=by
 unfold Tr.sym;split
 · rename_i x r hx
   have:=h.q (s:=s) (e:=x) (by rw[hx]; exact zbq)
   rw[q2b,q0y,ev_s,q2b,this];simp
 · simp[Lin.ev,evT]
theorem Tr.zb0{t:Tr}(h:t.Ok f):∀ l,(t.nrmT l).ev f=evT f l
 | []=>by simp[Tr.zb1,ev_k,evT]
 | p :: r=>by simp only[Tr.zaz,q4p,Tr.zbd h,Tr.zb0 h r,evT]
theorem Tr.zb2{t:Tr}(h:t.Ok f)(e:Lin):(t.nrm e).ev f=e.ev f:=by
 rw[Tr.nrm,q0f,Tr.zb0 h]; simp only[Lin.ev]; omega
theorem Tr.zb8{t:Tr}(h:t.Ok f){sg n s:Nat}{e:Lin}(he:0≤e.ev f)(h2:2≤sg→e.ev f=0):(Tr.ins sg e n s t).Ok f:=fun x hx=>by
 rcases Tr.zax hx with rfl | ⟨k,rfl⟩ | hx
 · exact he
 · rw[q2b,h2 k]; omega
 · exact h x hx
theorem Tr.zb3{t:Tr}(h:t.Ok f){e:Lin}(he:0≤e.ev f):∀ l,(Tr.add1 e t l).Ok f
 | []=>h
 | p :: r=>by
   rw[Tr.zan];refine Tr.zb8 (Tr.zb3 h he r) he fun k=>?_
   split at k<;>omega
theorem Tr.zb4{t:Tr}(h:t.Ok f){e:Lin}(he:0≤e.ev f):(t.addG e).Ok f:=Tr.zb3 h (by rw[Tr.zb2 h]; exact he) _
theorem Tr.zb7:∀ {l:List Lin} {t:Tr},t.Ok f→(∀ e∈l,0≤e.ev f)→(l.foldl Tr.addG t).Ok f
 | [],t,h,_=>h
 | e :: r,t,h,hl=>by
   rw[List.foldl_cons];exact Tr.zb7 (l:=r) (Tr.zb4 h (hl e zbq)) fun x hx=>hl x (zbh _ hx)
theorem Tr.zb6{t:Tr}(h:t.Ok f){e:Lin}(he:e.ev f=0):(t.addQ e).Ok f:=by
 unfold Tr.addQ;split
 · split
   · refine Tr.zb7 (Tr.zb8 h (by rw[Tr.zb2 h]; omega) fun _=>by rw[Tr.zb2 h]; exact he) fun x hx=>?_
     rcases zbr.1 hx with hx | hx<;>exact h x (Tr.zav hx)
   · exact Tr.zb4 (Tr.zb4 h (by omega)) (by rw[q2b]; omega)
 · exact h
theorem z55{a b:Lin}(h:a.eq b=true):a.ev f=b.ev f:=by
 simp only[Lin.eq,zbf]at h;have h1:=q1b.1 h.1
 have h2:∀ {a b:List (Nat×Int)},teq a b=true→evT f a=evT f b:=by
  intro a
  induction a with
  | nil=>intro b hb; cases b<;>simp_all [qs4]
  | cons p r ih=>
    intro b hb;cases b with
    | nil=>simp[qs4,qyd]at hb
    | cons q t=>
      rw[z3f]at hb; simp only[zbf]at hb;simp only[evT,ih hb.2,zbg hb.1.1,q1b.1 hb.1.2]
 simp only[Lin.ev,h1,h2 h.2]
theorem Tr.zb5{t:Tr}(h:t.Ok f):∀ {l:List Lin},(∀ e∈l,0≤e.ev f)→(t.addL l).Ok f
 | [],_=>h
 | [e],hl=>Tr.zb4 h (hl e (by simp))
 | e :: e2 :: r,hl=>by
   unfold Tr.addL;split
   · rename_i he
     have h1:=hl e (by simp)
     have h2:=hl e2 (by simp)
     rw[z55 he,q2b]at h2;exact Tr.zb6 (Tr.zb5 h fun x hx=>hl x (by simp[hx])) (by omega)
   · exact Tr.zb4 (Tr.zb5 h fun x hx=>hl x (zbh _ hx)) (hl e (by simp))
theorem qke{cs:Tr}(h:cs.Ok f):∀ (n:Nat) (g:Lin),(topQ cs n g).ev f=g.ev f
 | 0,g=>rfl
 | n+1,g=>by
   rw[qyf];split
   · rfl
   · split
     · rfl
     · rename_i x r hx
       have:=h.q (e:=x) (by rw[hx]; exact zbq)
       rw[qke h n,q0y,q2b,this];omega
theorem qds{F:Lin→Nat→Pr}{g:Lin}{a:Int}{s:Nat}:∀ {l:List Lin} {k:Nat},tryL F g a s l k= .yes→ ∃ e∈l,∃ k,q5g a (coef s e.t)=true∧F (elim g e a (coef s e.t)) k= .yes
 | [],_,h=>by simp[z1p]at h
 | e :: r,0,h=>by simp[qyh]at h
 | e :: r,k+1,h=>by
   rw[qyg]at h;split at h
   · obtain⟨x,hx,z⟩:=qds h
     exact⟨x,zbh _ hx,z⟩
   · rename_i hs
     split at h
     · rename_i hf
       exact⟨e,zbq,k,hs,hf⟩
     · obtain⟨x,hx,z⟩:=qds h
       exact⟨x,zbh _ hx,z⟩
theorem q9h{cs:Tr}(hc:cs.Ok f):∀ (n:Nat) (g:Lin) (k:Nat),prove cs n g k= .yes→0≤g.ev f
 | 0,g,k,h=>by
   rw[qtj]at h;rw[←qke hc 8 g];split at h
   · exact z9j ‹_›
   · cases h
 | n+1,g,k,h=>by
   rw[qti]at h;rw[←qke hc 8 g];generalize topQ cs 8 g=g' at h;obtain⟨c,t⟩:=g';simp only at h;split at h
   · cases h
   · split at h
     · split at h
       · rename_i hi
         simp only[Lin.ev,evT];have:=q2g.1 hi;omega
       · cases h
     · rename_i p r
       obtain⟨e,he,k',hs,h⟩:=qds h;have h0:=hc e (Tr.zav he);have h1:=q9h hc n _ _ h;simp only[elim,q0y,q2b]at h1;rw[qi8]at hs;rw[zbu,zbf,zbf,qde,qde,qdd,qdd]at hs;have hb:0<iabs (coef p.1 e.t):=by rw[qja]; split<;>omega
       have ha:0<iabs p.2:=by rw[qja]; split<;>omega
       have h2:0≤iabs p.2 * e.ev f:=Int.mul_nonneg (by omega) h0
       have h3:0≤iabs (coef p.1 e.t) * Lin.ev ⟨c,p :: r⟩ f:=by omega
       exact Int.nonneg_of_mul_nonneg_right h3 hb
theorem q7k{cs:Tr}(hc:cs.Ok f):∀ (n:Nat) (g:Lin) (k:Nat),qi3 cs n g k= .yes→0≤g.ev f
 | 0,g,k,h=>by simp[qi3]at h
 | n+1,g,k,h=>by
   unfold qi3 at h;rw[←qke hc 8 g];generalize topQ cs 8 g=g' at h;obtain⟨c,t⟩:=g';simp only at h
   · split at h
     · split at h
       · rename_i hi
         simp only[Lin.ev,evT];have:=q2g.1 hi;omega
       · cases h
     · rename_i p r
       obtain⟨e,he,k',hs,h⟩:=qds h;have h0:=hc e (Tr.zav (List.mem_filter.1 he).1);have h1:=q7k hc n _ _ h;simp only[elim,q0y,q2b]at h1;rw[qi8]at hs;rw[zbu,zbf,zbf,qde,qde,qdd,qdd]at hs;have hb:0<iabs (coef p.1 e.t):=by rw[qja]; split<;>omega
       have ha:0<iabs p.2:=by rw[qja]; split<;>omega
       have h2:0≤iabs p.2 * e.ev f:=Int.mul_nonneg (by omega) h0
       have h3:0≤iabs (coef p.1 e.t) * Lin.ev ⟨c,p :: r⟩ f:=by omega
       exact Int.nonneg_of_mul_nonneg_right h3 hb
theorem Pr.zaj{p:Pr}(h:p.ok=true):p= .yes:=by cases p<;>simp_all [Pr.ok]
theorem z3g:∀ {a b:List (Nat×Int)},teq a b=true→a=b
 | [],[],_=>rfl
 | [],_ :: _,h=>by simp[qs4,qyd]at h
 | _ :: _,[],h=>by simp[qs4,qyd]at h
 | p :: r,q :: s,h=>by
   rw[z3f]at h; simp only[zbf]at h;obtain⟨⟨h1,h2⟩,h3⟩:=h;rw[z3g h3,Prod.ext (zbg h1) (q1b.1 h2)]
theorem q2h{a b:Lin}(h:a.eq b=true):a=b:=by
 simp only[Lin.eq,zbf]at h;have h1:=q1b.1 h.1;have h2:=z3g h.2;obtain⟨a,t⟩:=a; obtain⟨b,u⟩:=b;simp only at h1 h2;rw[h1,h2]
theorem qx1(b:Bx):b.neg.ev f=!b.ev f:=by
 cases b with
 | lit b=>rfl
 | ge e=>
   simp only[Bx.neg,Bx.ev,q0f,q2b];cases h1:inn (e.ev f)
   · have:¬ 0≤e.ev f:=fun h=>by rw[q2g.2 h]at h1; cases h1
     simpa using q2g.2 (by omega)
   · have:=q2g.1 h1
     have:¬ inn (-1 * e.ev f+ -1)=true:=fun h=>by have:=q2g.1 h; omega
     simpa using this
 | eq e=>rfl
 | ne e=>simp[Bx.neg,Bx.ev]
theorem z5d(b:Bx):b.norm.ev f=b.ev f:=by
 cases b with
 | lit b=>rfl
 | ge e=>simp only[Bx.norm]; split
         · rename_i h; simp only[Bx.ev,q1l h]
         · rfl
 | eq e=>simp only[Bx.norm]; split
         · rename_i h; simp only[Bx.ev,q1l h]
         · rfl
 | ne e=>simp only[Bx.norm]; split
         · rename_i h; simp only[Bx.ev,q1l h]
         · rfl
end
end Go.K
namespace Go.K
open Go Go.J
noncomputable section
mutual
def okT(ν:Va)(hB:AH):AT→AV→Prop
 | .int lo hi,v=> ∃ n,v= .int .i64 n∧lo.ev ν.i≤n∧n≤hi.ev ν.i
 | .bool,v=> ∃ b,v= .bool b
 | .str,v=> ∃ s,v= .str s∧s.size≤1048576
 | .sl lo hi ex ty,v=> ∃ (p:Option (Nat×Nat)) (n:Nat) (k:Cap),v= .slice p n k∧lo.ev ν.i≤n∧(n:Int)≤hi.ev ν.i∧(ex=true→ ∃ m,k= .exact m∧n≤m)∧
    (0<n→ ∃ id off cs,p=some (id,off)∧hB.cells id=some cs∧off+n * ty.length≤cs.length∧ ∀ q,q<n * ty.length→ ∃ w,cs[off+q]?=some w∧okN ν hB ty (q % ty.length) w)
def okN(ν:Va)(hB:AH):List AT→Nat→AV→Prop
 | [],_,_=>False
 | t :: _,0,v=>okT ν hB t v
 | _ :: r,j+1,v=>okN ν hB r j v
end
def SlC(ν:Va)(hB:AH)(p:Option (Nat×Nat))(n:Nat)(ty:List AT):Prop:=
 0<n→ ∃ id off cs,p=some (id,off)∧hB.cells id=some cs∧off+n * ty.length≤cs.length∧ ∀ q,q<n * ty.length→ ∃ w,cs[off+q]?=some w∧okN ν hB ty (q % ty.length) w
def okF(ν:Va)(hB:AH):Fa→Prop
 | .str c=> ∃ s:ByteArray,ν.a c= .str s∧(s.size:Int)=ν.i c
 | .sl c ex ty=> ∃ (p:Option (Nat×Nat)) (n:Nat) (k:Cap),ν.a c= .slice p n k∧(n:Int)=ν.i c∧(ex=true→ ∃ m,k= .exact m∧n≤m)∧SlC ν hB p n ty
 | .pre c e ty=> ∀ (p:Option (Nat×Nat)) (n:Nat) (k:Cap),ν.a c= .slice p n k→ ∀ q:Nat,(q:Int)<e.ev ν.i * ty.length→q<n * ty.length→
    ∃ id off cs w,p=some (id,off)∧hB.cells id=some cs∧cs[off+q]?=some w∧okN ν hB ty (q % ty.length) w
 | .cell c o v=>0≤o.ev ν.i∧ ∃ id off n k cs,ν.a c= .slice (some (id,off)) n k∧hB.cells id=some cs∧cs[off+(o.ev ν.i).toNat]?=some (cv ν v)
 | .loop c sl nt ps asg body m=> ∃ X,ν.e c=some X∧X.nt=nt∧X.ps=ps∧X.asg=asg∧X.body=body∧X.m=ν.n m∧ ∀ k v,getL sl k=some v→lk X.ts k=some (cv ν v)
def SgOk(ν:Va)(hB:AH):List Sg→List AV→Prop
 | [],cs=>cs=[]
 | .one v :: r,cs=> ∃ cs',cs=cv ν v :: cs'∧SgOk ν hB r cs'
 | .arr n ty :: r,cs=>0≤n.ev ν.i∧ ∃ c1 c2,cs=c1++c2∧c1.length=(n.ev ν.i).toNat * ty.length∧(∀ q w,c1[q]?=some w→okN ν hB ty (q % ty.length) w)∧SgOk ν hB r c2
def stOf:Nat→LoopState
 | 0=> .ready
 | 1=> .busy
 | _=> .done
def VOk(ν:Va)(hB:AH)(agg:Bool)(ty:List AT)(v:AV):Prop:=match agg with
 | true=> ∃ cs,v= .agg cs∧cs.length=ty.length∧ ∀ j w,cs[j]?=some w→okN ν hB ty j w
 | false=>ty.length=1∧okN ν hB ty 0 v
def KnB(ν:Va)(h:AH)(c:Nat)(ty:List AT)(kn:List (Lin×V)):Prop:= ∀ p∈kn,0≤p.1.ev ν.i∧ ∃ i n cs,ν.a c= .slice (some (i,0)) n (.grow 0)∧h.get i=some (.grow ty.length cs)∧cs[(p.1.ev ν.i).toNat]?=some (cv ν p.2)
def okC(ν:Va)(hB h:AH)(c:Nat):Ck→Prop
 | .own l kn=> ∃ cs,h.get (ν.n c)=some (.own cs)∧SgOk ν hB l cs∧ ∀ p∈kn,0≤p.1.ev ν.i∧cs[(p.1.ev ν.i).toNat]?=some (cv ν p.2)
 | .bld ty kn=>(∃ n:Nat,(n:Int)=ν.i c∧((n=0∧ν.a c= .slice none 0 (.exact 0))∨ ∃ i cs,ν.a c= .slice (some (i,0)) n (.grow 0)∧h.get i=some (.grow ty.length cs)∧cs.length=n * ty.length∧
    ∀ q w,cs[q]?=some w→okN ν hB ty (q % ty.length) w))∧KnB ν h c ty kn
 | .siter sz pos=> ∃ s p,h.get (ν.n c)=some (.siter s p)∧(s.size:Int)=sz.ev ν.i∧(p:Int)=pos.ev ν.i
 | .mp kk agg ty bn=> ∃ es cl,h.get (ν.n c)=some (.map es cl)∧(∀ e∈es,keyK kk e.1)∧(∀ e∈es,VOk ν hB agg ty e.2.1)∧ ∀ s,bn=some s→ ∃ e∈es,(e.2.2:Int)=ν.i s
 | .loop st pd=> ∃ X,ν.e c=some X∧h.get (ν.n c)=some (.loop (stOf st) pd X.ts X.nt X.ps X.asg X.body X.m)
 | .mark=>h.get (ν.n c)=some .mark
def nameOf(ν:Va)(p:Nat×Ck):Option Nat:=match p.2 with
 | .bld _ _=>match ν.a p.1 with
   | .slice (some q) _ _=>some q.1
   | _=>none
 | _=>some (ν.n p.1)
def qb4(ν:Va)(a b:Nat×Ck):Prop:= ∀ i,nameOf ν a=some i→nameOf ν b≠some i
structure G0(S:AS)(ν:Va)(hB:AH)(s:St):Prop where
 sl:∀ k v,getL S.sl k=some v→lk s.slots k=some (cv ν v)
 cs:∀ e∈S.cs,0≤e.ev ν.i
 fa:∀ f∈S.fa,okF ν hB f
 hp:∀ p∈S.hp,okC ν hB s.h p.1 p.2
 dj:S.hp.Pairwise (qb4 ν)
 nb:∀ p∈S.hp,∀ i,nameOf ν p=some i→hB.get i=none∧hB.next≤i
 df:s.defs=S.df.map (fun m=>ADef.mark (ν.n m))
def Ag(n:Nat)(ν ν':Va):Prop:= ∀ i,i<n→ν'.i i=ν.i i∧ν'.n i=ν.n i∧ν'.a i=ν.a i∧ν'.e i=ν.e i
theorem Ag.refl(n:Nat)(ν:Va):Ag n ν ν:=fun _ _=>⟨rfl,rfl,rfl,rfl⟩
theorem Ag.trans{n m:Nat}{ν ν' ν'':Va}(a:Ag n ν ν')(b:Ag m ν' ν'')(h:n≤m):Ag n ν ν'':=fun i hi=>by
 obtain⟨a1,a2,a3,a4⟩:=a i hi;obtain⟨b1,b2,b3,b4⟩:=b i (by omega)
 exact⟨b1.trans a1,b2.trans a2,b3.trans a3,b4.trans a4⟩
theorem Ag.mono{n m:Nat}{ν ν':Va}(a:Ag n ν ν')(h:m≤n):Ag m ν ν':=fun i hi=>a i (by omega)
theorem Ag.symm{n:Nat}{ν ν':Va}(a:Ag n ν ν'):Ag n ν' ν:=fun i hi=>by
 obtain⟨a1,a2,a3,a4⟩:=a i hi;exact⟨a1.symm,a2.symm,a3.symm,a4.symm⟩
structure γ(S:AS)(ν:Va)(hB:AH)(s:St):Prop where
 n:s.n=S.nt
 le:Le hB s.h
 g:∀ ν',Ag S.ns ν ν'→G0 S ν' hB s
theorem γ.ag{S:AS}{ν ν':Va}{hB:AH}{s:St}(h:γ S ν hB s)(a:Ag S.ns ν ν'):γ S ν' hB s:=
 ⟨h.n,h.le,fun ν'' b=>h.g ν'' (a.trans b (zbi _))⟩
theorem γ.self{S:AS}{ν:Va}{hB:AH}{s:St}(h:γ S ν hB s):G0 S ν hB s:=h.g ν (.refl _ _)
def Go(S:AS)(ν:Va)(hB:AH)(S':AS)(s':St):Prop:= ∃ ν' hB',Ag S.ns ν ν'∧S.ns≤S'.ns∧Le hB hB'∧γ S' ν' hB' s'
def Is(S:AS)(ν:Va)(v:V)(a:AV):Prop:= ∀ ν',Ag S.ns ν ν'→cv ν' v=a
theorem Is.mono{S S':AS}{ν ν':Va}{v:V}{a:AV}(h:Is S ν v a)(hg:Ag S.ns ν ν')(hn:S.ns≤S'.ns):Is S' ν' v a:=fun ν'' b=>h ν'' (hg.trans b hn)
mutual
theorem okT.le{ν:Va}{hB hB':AH}(l:Le hB hB'):∀ {t:AT} {v:AV},okT ν hB t v→okT ν hB' t v
 | .int _ _,_,h=>by simpa only[okT]using h
 | .bool,_,h=>by simpa only[okT]using h
 | .str,_,h=>by simpa only[okT]using h
 | .sl lo hi ex ty,v,h=>by
   simp only[okT]at h ⊢;obtain⟨p,n,k,e,a,b,x,c⟩:=h;refine⟨p,n,k,e,a,b,x,fun hn=>?_⟩
   obtain⟨id,off,cs,e1,e2,e3,e4⟩:=c hn;exact⟨id,off,cs,e1,l.cells e2,e3,fun q hq=>let ⟨w,w1,w2⟩:=e4 q hq; ⟨w,w1,okN.le l w2⟩⟩
theorem okN.le{ν:Va}{hB hB':AH}(l:Le hB hB'):∀ {t:List AT} {j:Nat} {v:AV},okN ν hB t j v→okN ν hB' t j v
 | [],_,_,h=>by simp only[okN]at h
 | _ :: _,0,_,h=>by simp only[okN]at h ⊢; exact okT.le l h
 | _ :: r,j+1,_,h=>by simp only[okN]at h ⊢; exact okN.le l h
end
theorem SlC.le{ν:Va}{hB hB':AH}(l:Le hB hB'){p:Option (Nat×Nat)}{n:Nat}{ty:List AT}(h:SlC ν hB p n ty):SlC ν hB' p n ty:=fun hn=>by
 obtain⟨id,off,cs,e1,e2,e3,e4⟩:=h hn;exact⟨id,off,cs,e1,l.cells e2,e3,fun q hq=>let ⟨w,w1,w2⟩:=e4 q hq; ⟨w,w1,w2.le l⟩⟩
theorem okF.le{ν:Va}{hB hB':AH}(l:Le hB hB'):∀ {f:Fa},okF ν hB f→okF ν hB' f
 | .str _,h=>h
 | .sl _ _ _,⟨p,n,k,a,b,c,d⟩=>⟨p,n,k,a,b,c,d.le l⟩
 | .pre _ _ _,h=>fun p n k e q q1 q2=>let ⟨id,off,cs,w,a,b,c,d⟩:=h p n k e q q1 q2; ⟨id,off,cs,w,a,l.cells b,c,d.le l⟩
 | .cell _ _ _,⟨h0,id,off,n,k,cs,a,b,c⟩=>⟨h0,id,off,n,k,cs,a,l.cells b,c⟩
 | .loop _ _ _ _ _ _ _,h=>h
theorem SgOk.le{ν:Va}{hB hB':AH}(l:Le hB hB'):∀ {g:List Sg} {cs:List AV},SgOk ν hB g cs→SgOk ν hB' g cs
 | [],_,h=>h
 | .one _ :: _,_,⟨cs',a,b⟩=>⟨cs',a,SgOk.le l b⟩
 | .arr _ _ :: _,_,⟨h0,c1,c2,a,b,c,d⟩=>⟨h0,c1,c2,a,b,fun q w hq=>(c q w hq).le l,SgOk.le l d⟩
theorem VOk.le{ν:Va}{hB hB':AH}(l:Le hB hB'){agg:Bool}{ty:List AT}{v:AV}(h:VOk ν hB agg ty v):VOk ν hB' agg ty v:=by
 cases agg with
 | true=>obtain⟨cs,a,b,c⟩:=h; exact⟨cs,a,b,fun j w hw=>(c j w hw).le l⟩
 | false=>exact⟨h.1,h.2.le l⟩
theorem okC.leB{ν:Va}{hB hB' h:AH}(l:Le hB hB'){c:Nat}:∀ {k:Ck},okC ν hB h c k→okC ν hB' h c k
 | .own _ _,⟨cs,a,b,d⟩=>⟨cs,a,b.le l,d⟩
 | .bld _ _,⟨⟨n,a,b⟩,k⟩=>⟨⟨n,a,b.imp id fun⟨i,cs,b1,b2,b3,b4⟩=>⟨i,cs,b1,b2,b3,fun q w hq=>(b4 q w hq).le l⟩⟩,k⟩
 | .siter _ _,h=>h
 | .mp _ _ _ _,⟨es,cl,a,b,d,e⟩=>⟨es,cl,a,b,fun x hx=>(d x hx).le l,e⟩
 | .loop _ _,h=>h
 | .mark,h=>h
theorem okC.congr{ν:Va}{hB h h':AH}{c:Nat}{k:Ck}(hk:okC ν hB h c k)(hh:∀ i,nameOf ν (c,k)=some i→h'.get i=h.get i):okC ν hB h' c k:=by
 cases k with
 | own l kn=>obtain⟨cs,a,b,d⟩:=hk; exact⟨cs,(hh _ rfl).trans a,b,d⟩
 | bld ty kn=>
   obtain⟨⟨n,a,b⟩,k⟩:=hk;refine⟨⟨n,a,b.imp id fun⟨i,cs,b1,b2,b3,b4⟩=>⟨i,cs,b1,(hh i (by simp only[nameOf,b1])).trans b2,b3,b4⟩⟩,fun p hp=>?_⟩
   obtain⟨x,i,m,cs,y1,y2,y3⟩:=k p hp;exact⟨x,i,m,cs,y1,(hh i (by simp only[nameOf,y1])).trans y2,y3⟩
 | siter a b=>obtain⟨s,p,e,r⟩:=hk; exact⟨s,p,(hh _ rfl).trans e,r⟩
 | mp _ _ _ _=>obtain⟨es,cl,a,b⟩:=hk; exact⟨es,cl,(hh _ rfl).trans a,b⟩
 | loop _ _=>obtain⟨X,a,b⟩:=hk; exact⟨X,a,(hh _ rfl).trans b⟩
 | mark=>exact(hh _ rfl).trans hk
theorem okC.some{ν:Va}{hB h:AH}{c:Nat}{k:Ck}(hk:okC ν hB h c k){i:Nat}(hi:nameOf ν (c,k)=some i):∃ ck,h.get i=some ck:=by
 cases k with
 | own l kn=>obtain⟨cs,a,_⟩:=hk; cases hi; exact⟨_,a⟩
 | bld ty kn=>
   obtain⟨⟨n,a,b | ⟨j,cs,b1,b2,_⟩⟩,_⟩:=hk
   · simp[nameOf,b.2]at hi
   · simp[nameOf,b1]at hi; subst hi; exact⟨_,b2⟩
 | siter a b=>obtain⟨s,p,e,r⟩:=hk; cases hi; exact⟨_,e⟩
 | mp _ _ _ _=>obtain⟨es,cl,a,b⟩:=hk; simp only[nameOf,zbe]at hi; subst hi; exact⟨_,a⟩
 | loop _ _=>obtain⟨X,a,b⟩:=hk; cases hi; exact⟨_,b⟩
 | mark=>cases hi; exact⟨_,hk⟩
theorem qo8{α:Type}{l:List (Nat×α)}{d k:Nat}{v:α}(h:getL (rmL l d) k=some v):k≠d∧getL l k=some v:=by
 induction l with
 | nil=>simp[q9i,q8h,q0h,q0c]at h
 | cons p r ih=>
   simp only[q9i,q8h]at h;split at h
   · rename_i hb
     have hp:=zbg hb;obtain⟨h1,h2⟩:=ih h;refine⟨h1,?_⟩;simp only[q0h,q0c];split
     · rename_i hc; have:=zbg hc; omega
     · exact h2
   · rename_i hb
     simp only[q0h,q0c]at h ⊢;split at h
     · rename_i hc
       have:=zbg hc;refine⟨fun e=>?_,h⟩
       subst this; subst e; simp at hb
     · obtain⟨h1,h2⟩:=ih h
       exact⟨h1,h2⟩
theorem q05{α:Type}{l:List (Nat×α)}{k:Nat}{v:α}(h:getL l k=some v):(k,v)∈l:=by
 induction l with
 | nil=>simp[q0h,q0c]at h
 | cons p r ih=>
   simp only[q0h,q0c]at h;split at h
   · rename_i hb
     have:=zbg hb;cases p; simp at h this; subst this; subst h; simp
   · exact zbh _ (ih h)
theorem qpa{α:Type}{l:List (Nat×α)}{d:Nat}:(rmL l d).Sublist l:=by
 induction l with
 | nil=>exact .slnil
 | cons p r ih=>
   simp only[q9i,q8h];split
   · exact .cons _ ih
   · exact .cons_cons _ ih
variable{S:AS}{ν:Va}{hB:AH}{s:St}
theorem q60{d:Nat}{v:V}{a:AV}(h:γ S ν hB s)(hv:Is S ν v a):γ (S.put d v) ν hB ⟨(d,a) :: s.slots,s.h,s.n,s.defs⟩:=by
 refine⟨h.n,h.le,fun ν' hg=>?_⟩
 obtain⟨g1,g2,g3,g4,g5,g6,g7⟩:=h.g ν' hg;refine⟨fun k w hk=>?_,g2,g3,g4,g5,g6,g7⟩
 simp only[AS.put,q0h,q0c]at hk;simp only[lk];split at hk
 · rename_i hb
   rw[if_pos hb];simp at hk; subst hk;rw[hv ν' hg]
 · rename_i hb
   obtain⟨h1,h2⟩:=qo8 hk;rw[if_neg (by rw[hb]; exact Bool.false_ne_true)]
   exact g1 k w h2
theorem γ_cs{es:List Lin}(h:γ S ν hB s)(he:∀ ν',Ag S.ns ν ν'→ ∀ e∈es,0≤e.ev ν'.i):γ (S.add es) ν hB s:=by
 refine⟨h.n,h.le,fun ν' hg=>?_⟩
 obtain⟨g1,g2,g3,g4,g5,g6,g7⟩:=h.g ν' hg;refine⟨g1,fun e hm=>?_,g3,g4,g5,g6,g7⟩
 exact Tr.zb5 g2 (he ν' hg) e hm
theorem γ_fa{fs:List Fa}(h:γ S ν hB s)(he:∀ ν',Ag S.ns ν ν'→ ∀ f∈fs,okF ν' hB f):γ {S with fa:=fs++S.fa} ν hB s:=by
 refine⟨h.n,h.le,fun ν' hg=>?_⟩
 obtain⟨g1,g2,g3,g4,g5,g6,g7⟩:=h.g ν' hg;refine⟨g1,g2,fun e hm=>?_,g4,g5,g6,g7⟩
 rcases zbr.1 hm with hm | hm
 · exact he ν' hg e hm
 · exact g3 e hm
def Va.set(ν:Va)(c:Nat)(i:Int)(n:Nat)(a:AV)(e:Option LoopX:=none):Va:=
 ⟨fun j=>if j=c then i else ν.i j,fun j=>if j=c then n else ν.n j,fun j=>if j=c then a else ν.a j,fun j=>if j=c then e else ν.e j⟩
theorem q1o(ν:Va)(c:Nat)(i:Int)(n:Nat)(a:AV)(e:Option LoopX:=none):Ag c ν (ν.set c i n a e):=fun j hj=>by
 have:j≠c:=by omega
 simp[Va.set,this]
theorem qzg{i:Int}{n:Nat}{a:AV}{es:List Lin}{fs:List Fa}(h:γ S ν hB s)(he:∀ ν',Ag S.ns ν ν'→ν'.i S.ns=i→ν'.n S.ns=n→ν'.a S.ns=a→(∀ e∈es,0≤e.ev ν'.i)∧ ∀ f∈fs,okF ν' hB f):
 γ {S with ns:=S.ns+1,cs:=S.cs.addL es,fa:=fs++S.fa} (ν.set S.ns i n a) hB s:=by
 refine⟨h.n,h.le,fun ν' hg=>?_⟩
 have hg0:Ag S.ns ν ν':=(q1o ν S.ns i n a).trans hg (zcb _);obtain⟨g1,g2,g3,g4,g5,g6,g7⟩:=h.g ν' hg0;obtain⟨x1,x2,x3,x4⟩:=hg S.ns (zc0 _);simp only[Va.set,if_true]at x1 x2 x3 x4;obtain⟨e1,e2⟩:=he ν' hg0 x1 x2 x3;refine⟨g1,fun e hm=>?_,fun f hm=>?_,g4,g5,g6,g7⟩
 · exact Tr.zb5 g2 e1 e hm
 · rcases zbr.1 hm with hm | hm
   · exact e2 f hm
   · exact g3 f hm
theorem γ_le{hB':AH}(h:γ S ν hB s)(l:Le hB hB')(l':Le hB' s.h)(hn:∀ ν',Ag S.ns ν ν'→ ∀ p∈S.hp,∀ i,nameOf ν' p=some i→hB'.get i=none∧hB'.next≤i):γ S ν hB' s:=by
 refine⟨h.n,l',fun ν' hg=>?_⟩
 obtain⟨g1,g2,g3,g4,g5,g6,g7⟩:=h.g ν' hg;exact⟨g1,g2,fun f hf=>(g3 f hf).le l,fun p hp=>(g4 p hp).leB l,g5,hn ν' hg,g7⟩
theorem q1t(h:γ S ν hB s){g:Lin}(hp:S.pv g=true):∀ ν',Ag S.ns ν ν'→0≤g.ev ν'.i:=fun ν' hg=>by
 have hc:S.cs.Ok ν'.i:=(h.g ν' hg).cs;unfold AS.pv at hp;rw[←Tr.zb2 hc g];rw[zbu,zbu]at hp;rcases hp with hp | hp | hp
 · exact q9h hc _ _ _ (Pr.zaj hp)
 · exact q7k hc _ _ _ (Pr.zaj hp)
 · exact q9h hc _ _ _ (Pr.zaj hp)
theorem q01(h:γ S ν hB s){a b:Lin}(hp:S.le a b=true):∀ ν',Ag S.ns ν ν'→a.ev ν'.i≤b.ev ν'.i:=fun ν' hg=>by
 have:=q1t h hp ν' hg;rw[q0y]at this; omega
theorem qwm(h:γ S ν hB s){a b:Lin}(hp:S.leX a b=true):∀ ν',Ag S.ns ν ν'→a.ev ν'.i≤b.ev ν'.i:=fun ν' hg=>by
 unfold AS.leX at hp;rw[zbu]at hp;rcases hp with hp | hp
 · exact q01 h hp ν' hg
 · have hc:S.cs.Ok ν'.i:=(h.g ν' hg).cs
   have:=q7k hc _ _ _ (Pr.zaj hp);rw[Tr.zb2 hc,q0y]at this; omega
theorem z91{S':AS}(h:γ S ν hB s)(hns:S.ns≤S'.ns)(hnt:S'.nt=S.nt)(hdf:S'.df=S.df)(hsl:∀ k v,getL S'.sl k=some v→getL S.sl k=some v)(hcs:∀ e∈S'.cs,e∈S.cs)(hfa:∀ f∈S'.fa,f∈S.fa)(hhp:S'.hp.Sublist S.hp):γ S' ν hB s:=by
 refine⟨h.n.trans hnt.symm,h.le,fun ν' hg=>?_⟩
 obtain⟨g1,g2,g3,g4,g5,g6,g7⟩:=h.g ν' (hg.mono hns);exact⟨fun k v hk=>g1 k v (hsl k v hk),fun e he=>g2 e (hcs e he),fun f hf=>g3 f (hfa f hf),fun p hp=>g4 p (hhp.subset hp),g5.sublist hhp,fun p hp=>g6 p (hhp.subset hp),by rw[hdf]; exact g7⟩
theorem γ_rm{c:Nat}(h:γ S ν hB s):γ {S with hp:=rmL S.hp c} ν hB s:=
 z91 h (zbi _) rfl rfl (fun _ _ h=>h) (fun _ h=>h) (fun _ h=>h) qpa
theorem qnp{k:Ck}{h':AH}{i:Nat}{ck:Chunk}(h:γ S ν hB s)(hn:New s.h i ck h')(hk:∀ ν',Ag S.ns ν ν'→ν'.n S.ns=i→okC ν' hB h' S.ns k)(hb:∀ t kn,k≠ .bld t kn)(n0:Int)(a0:AV):
 γ (newC S k).2 (ν.set S.ns n0 i a0) hB ⟨s.slots,h',s.n,s.defs⟩:=by
 refine⟨h.n,h.le.trans hn.le,fun ν' hg=>?_⟩
 have hg0:Ag S.ns ν ν':=(q1o ν S.ns n0 i a0).trans hg (zcb _);obtain⟨g1,g2,g3,g4,g5,g6,g7⟩:=h.g ν' hg0;obtain⟨x1,x2,x3,x4⟩:=hg S.ns (zc0 _);simp only[Va.set,if_true]at x1 x2 x3 x4
 have hnm:nameOf ν' (S.ns,k)=some i:=by
  cases k with
  | bld t kn=>exact absurd rfl (hb t kn)
  | _=>simp only[nameOf,x2]
 have hold:∀ p∈S.hp,∀ j,nameOf ν' p=some j→j≠i∧h'.get j=s.h.get j:=by
  intro p hp j hj;obtain⟨ck',hck⟩:=(g4 p hp).some hj;refine⟨fun e=>?_,(hn.le.get _ _ hck).trans hck.symm⟩
  subst e; rw[hn.free]at hck; cases hck
 refine⟨g1,g2,g3,fun p hp=>?_,?_,fun p hp j hj=>?_,g7⟩
 · rcases zbm.1 hp with rfl | hp
   · exact hk ν' hg0 x2
   · exact(g4 p hp).congr fun j hj=>(hold p hp j hj).2
 · refine zco.2 ⟨fun p hp j hj hj2=>?_,g5⟩
   rw[hnm]at hj; cases hj;exact(hold p hp i hj2).1 rfl
 · rcases zbm.1 hp with rfl | hp
   · rw[hnm]at hj; cases hj
     refine⟨?_,zbo h.le.next hn.ge⟩;cases hbi:hB.get i with
     | none=>rfl
     | some ck'=>have:=h.le.get _ _ hbi; rw[hn.free]at this; cases this
   · exact g6 p hp j hj
theorem z1j{α:Type}{l:List (Nat×α)}{c:Nat}{k:α}{p:Nat×α}(h:p∈setL l c k):p=(c,k)∨p∈l:=by
 induction l with
 | nil=>simp[qaw,q7m]at h
 | cons q r ih=>
   simp only[qaw,q7m]at h;split at h
   · rcases zbm.1 h with h | h
     · exact .inl h
     · exact .inr (zbh _ h)
   · rcases zbm.1 h with h | h
     · exact .inr (by simp[h])
     · rcases ih h with h | h
       · exact .inl h
       · exact .inr (zbh _ h)
theorem qhd{α:Type}{l:List (Nat×α)}{c:Nat}{k:α}(h:getL l c=some k):∃ a b,l=a++(c,k) :: b∧ ∀ k',setL l c k'=a++(c,k') :: b:=by
 induction l with
 | nil=>simp[q0h,q0c]at h
 | cons p r ih=>
   simp only[q0h,q0c]at h;split at h
   · rename_i hb
     have:=zbg hb;simp at h; cases p; simp at this h; subst this; subst h;exact⟨[],r,rfl,fun k'=>by simp[qaw,q7m]⟩
   · rename_i hb
     obtain⟨a,b,e1,e2⟩:=ih h;refine⟨p :: a,b,by rw[e1]; rfl,fun k'=>?_⟩
     simp only[qaw,q7m,hb];rw[e2 k']; rfl
theorem q6s{c:Nat}{k k':Ck}{h':AH}{i:Nat}(h:γ S ν hB s)(hc:getL S.hp c=some k)(hi:∀ ν',Ag S.ns ν ν'→nameOf ν' (c,k)=some i∧nameOf ν' (c,k')=some i)(hb:But s.h i h')
 (hk:∀ ν',Ag S.ns ν ν'→okC ν' hB h' c k'):γ {S with hp:=setL S.hp c k'} ν hB ⟨s.slots,h',s.n,s.defs⟩:=by
 obtain⟨a,b,e1,e2⟩:=qhd hc;have fr2:=h.self.nb (c,k) (q05 hc) i (hi ν (.refl _ _)).1;have fr:hB.get i=none:=fr2.1;refine⟨h.n,h.le.but hb fr,fun ν' hg=>?_⟩
 obtain⟨g1,g2,g3,g4,g5,g6,g7⟩:=h.g ν' hg;obtain⟨n1,n2⟩:=hi ν' hg;rw[e1]at g4 g5 g6;have p1:=List.pairwise_append.1 g5;have p2:=zco.1 p1.2.1
 have oth:∀ p,p∈a∨p∈b→ ∀ j,nameOf ν' p=some j→h'.get j=s.h.get j:=by
  intro p hp j hj
  have hne:j≠i:=by
   rintro rfl;rcases hp with hp | hp
   · exact p1.2.2 p hp (c,k) (by simp) j hj n1
   · exact p2.1 p hp j n1 hj
  have hm:p∈a++(c,k) :: b:=by rcases hp with hp | hp<;>simp[hp]
  obtain⟨ck,hck⟩:=(g4 p hm).some hj;exact(hb.get _ _ hne hck).trans hck.symm
 refine⟨g1,g2,g3,fun p hp=>?_,?_,fun p hp j hj=>?_,g7⟩
 · simp only[e2,zbr,zbm]at hp
   rcases hp with hp | rfl | hp
   · exact(g4 p (by simp[hp])).congr fun j hj=>oth p (.inl hp) j hj
   · exact hk ν' hg
   · exact(g4 p (by simp[hp])).congr fun j hj=>oth p (.inr hp) j hj
 · simp only[e2]
   refine List.pairwise_append.2 ⟨p1.1,zco.2 ⟨fun p hp j hj=>?_,p2.2⟩,fun p hp q hq=>?_⟩
   · rw[n2]at hj; cases hj; exact p2.1 p hp i n1
   · rcases zbm.1 hq with rfl | hq
     · intro j hj hj2; rw[n2]at hj2; cases hj2
       exact p1.2.2 p hp (c,k) (by simp) i hj n1
     · exact p1.2.2 p hp q (by simp[hq])
 · simp only[e2,zbr,zbm]at hp
   rcases hp with hp | rfl | hp
   · exact g6 p (by simp[hp]) j hj
   · rw[n2]at hj; cases hj; exact fr2
   · exact g6 p (by simp[hp]) j hj
end
end Go.K
namespace Go.K
open Go Go.J
variable{S:AS}{ν:Va}{hB:AH}{s:St}{P:Program}
theorem q73(ν:Va)(l:List V):cvL ν l=l.map (cv ν):=by
 induction l with
 | nil=>simp[cvL]
 | cons v r ih=>simp[cvL,ih]
mutual
theorem q7q(ν:Va):∀ (v:Value) (w:V),toV v=some w→absv v=some (cv ν w)
 | .bool b,w,h=>by simp only[toV,zbe]at h; subst h; simp[absv,cv,Bx.ev]
 | .int k n,w,h=>by simp only[toV,zbe]at h; subst h; simp[absv,cv,ev_k]
 | .string s,w,h=>by simp only[toV,zbe]at h; subst h; simp[absv,cv]
 | .pointer none,w,h=>by simp only[toV,zbe]at h; subst h; simp[absv,cv]
 | .slice none 0 0,w,h=>by simp only[toV,zbe]at h; subst h; simp[absv,cv]
 | .slice none 0 (_+1),w,h=>by simp[toV]at h
 | .slice none (_+1) _,w,h=>by simp[toV]at h
 | .map none,w,h=>by simp only[toV,zbe]at h; subst h; simp[absv,cv]
 | .nilFunc,w,h=>by simp only[toV,zbe]at h; subst h; simp[absv,cv]
 | .agg ⟨l⟩,w,h=>by
   simp only[toV]at h;split at h
   · rename_i l' hl
     simp only[zbe]at h; subst h;simp only[absv,qig ν l l' hl,cv,zbp]
   · cases h
 | .float _ _,w,h=>by simp[toV]at h
 | .complex _ _ _,w,h=>by simp[toV]at h
 | .pointer (some _),w,h=>by simp[toV]at h
 | .slice (some _) _ _,w,h=>by simp[toV]at h
 | .map (some _),w,h=>by simp[toV]at h
 | .chan _,w,h=>by simp[toV]at h
 | .func _ _ _,w,h=>by simp[toV]at h
 | .iface _ _,w,h=>by simp[toV]at h
 | .nilIface,w,h=>by simp[toV]at h
 | .tuple _,w,h=>by simp[toV]at h
theorem qig(ν:Va):∀ (l:List Value) (w:List V),toVL l=some w→absL l=some (cvL ν w)
 | [],w,h=>by simp only[toVL,zbe]at h; subst h; simp[absL,cvL]
 | v :: r,w,h=>by
   simp only[toVL]at h;split at h
   · rename_i a l h1 h2
     simp only[zbe]at h; subst h;simp only[absL,q7q ν v a h1,qig ν r l h2,cvL]
   · cases h
end
theorem R.zak{α β:Type}{x:R α}{f:α→R β}{b:β}(h:x.bind f= .ok b):∃ a,x= .ok a∧f a= .ok b:=by
 cases x with
 | ok a=>exact⟨a,rfl,h⟩
 | no w=>cases h
theorem q0a{α:Type}{w:String}{x:Option α}{a:α}(h:ofO w x= .ok a):x=some a:=by
 cases x with
 | none=>cases h
 | some b=>simp only[ofO,R.ok.injEq]at h; rw[h]
theorem q02{w:String}{b:Bool}{u:Unit}(h:need w b= .ok u):b=true:=by
 cases b
 · cases h
 · rfl
theorem q06{x:Operand}{v:V}(h:γ S ν hB s)(he:evA S x= .ok v):∃ a,ev s.slots x=some a∧Is S ν v a:=by
 cases x with
 | tmp t=>
   have hg:=q0a he;refine⟨cv ν v,h.self.sl t v hg,fun ν' hν=>?_⟩
   have h1:=(h.g ν' hν).sl t v hg;have h2:=h.self.sl t v hg;rw[h1]at h2; exact zbz h2
 | const c=>
   have hg:=q0a he;refine⟨cv ν v,q7q ν c v hg,fun ν' _=>?_⟩
   have h1:=q7q ν' c v hg;rw[q7q ν c v hg]at h1; exact(zbz h1).symm
 | global g=>cases he
 | func f=>cases he; exact⟨_,rfl,fun ν' _=>by simp[cv,cvL]⟩
theorem q84(h:γ S ν hB s):∀ {l:List Operand} {vs:List V},evAL S l= .ok vs→ ∃ as,evL s.slots l=some as∧ ∀ ν',Ag S.ns ν ν'→cvL ν' vs=as
 | [],vs,he=>by cases he; exact⟨[],rfl,fun _ _=>rfl⟩
 | x :: r,vs,he=>by
   obtain⟨v,h1,he⟩:=R.zak he;obtain⟨l,h2,he⟩:=R.zak he;cases he;obtain⟨a,e1,i1⟩:=q06 h h1;obtain⟨as,e2,i2⟩:=q84 h h2;exact⟨a :: as,by simp only[evL,e1,e2],fun ν' hν=>by simp only[cvL,i1 ν' hν,i2 ν' hν]⟩
theorem q86(h:γ S ν hB s):∀ {l:List (Nat×Operand)} {vs:List (Nat×V)},evPA S l= .ok vs→ ∃ as,evP s.slots l=some as∧ ∀ ν',Ag S.ns ν ν'→vs.map (fun p=>(p.1,cv ν' p.2))=as
 | [],vs,he=>by cases he; exact⟨[],rfl,fun _ _=>rfl⟩
 | x :: r,vs,he=>by
   obtain⟨v,h1,he⟩:=R.zak he;obtain⟨l,h2,he⟩:=R.zak he;cases he;obtain⟨a,e1,i1⟩:=q06 h h1;obtain⟨as,e2,i2⟩:=q86 h h2;exact⟨(x.1,a) :: as,by simp only[evP,e1,e2],fun ν' hν=>by simp only[zc3,i1 ν' hν,i2 ν' hν]⟩
theorem q3c{x:Operand}{p:IntKind×Lin}(h:γ S ν hB s)(he:evI S x= .ok p):∃ n,ev s.slots x=some (.int p.1 n)∧ ∀ ν',Ag S.ns ν ν'→p.2.ev ν'.i=n:=by
 obtain⟨v,h1,he⟩:=R.zak he;obtain⟨a,e1,i1⟩:=q06 h h1;cases v with
 | int k e=>
   cases he;have:=i1 ν (.refl _ _);simp only[cv]at this; subst this;exact⟨_,e1,fun ν' hν=>by have:=i1 ν' hν; simp only[cv,AV.int.injEq,true_and]at this; exact this⟩
 | _=>cases he
theorem qeh{x:Operand}{b:Bx}(h:γ S ν hB s)(he:evB S x= .ok b):∃ t,ev s.slots x=some (.bool t)∧ ∀ ν',Ag S.ns ν ν'→b.ev ν'.i=t:=by
 obtain⟨v,h1,he⟩:=R.zak he;obtain⟨a,e1,i1⟩:=q06 h h1;cases v with
 | bool b=>
   cases he;have:=i1 ν (.refl _ _);simp only[cv]at this; subst this;exact⟨_,e1,fun ν' hν=>by have:=i1 ν' hν; simp only[cv,AV.bool.injEq]at this; exact this⟩
 | _=>cases he
structure Ext(S:AS)(ν:Va)(hB:AH)(s:St)(S1:AS)(ν1:Va):Prop where
 ag:Ag S.ns ν ν1
 ns:S.ns≤S1.ns
 g:γ S1 ν1 hB s
theorem Ext.refl(h:γ S ν hB s):Ext S ν hB s S ν:=⟨.refl _ _,zbi _,h⟩
theorem Ext.trans{S1 S2:AS}{ν1 ν2:Va}(a:Ext S ν hB s S1 ν1)(b:Ext S1 ν1 hB s S2 ν2):Ext S ν hB s S2 ν2:=⟨a.ag.trans b.ag a.ns,zbo a.ns b.ns,b.g⟩
theorem Ext.is{S1:AS}{ν1:Va}{v:V}{a:AV}(e:Ext S ν hB s S1 ν1)(h:Is S ν v a):Is S1 ν1 v a:=h.mono e.ag e.ns
theorem Ext.go{S1:AS}{ν1:Va}(e:Ext S ν hB s S1 ν1):Go S ν hB S1 s:=⟨ν1,hB,e.ag,e.ns,.refl _,e.g⟩
theorem Ext.add{es:List Lin}(h:γ S ν hB s)(he:∀ ν',Ag S.ns ν ν'→ ∀ e∈es,0≤e.ev ν'.i):Ext S ν hB s (S.add es) ν:=⟨.refl _ _,zbi _,γ_cs h he⟩
theorem q3p{lo hi:Lin}{n:Int}(h:γ S ν hB s)(hb:∀ ν',Ag S.ns ν ν'→lo.ev ν'.i≤n∧n≤hi.ev ν'.i):
 ∃ ν1,Ext S ν hB s (S.newI lo hi).2 ν1∧ ∀ ν',Ag (S.ns+1) ν1 ν'→(S.newI lo hi).1.ev ν'.i=n:=by
 refine⟨ν.set S.ns n 0 .nilFunc,⟨q1o _ _ _ _ _,zcb _,?_⟩,fun ν' hν=>?_⟩
 · have g:=qzg (i:=n) (n:=0) (a:= .nilFunc) (fs:=[]) (es:=[hi.sub (.s S.ns)]) h fun ν' hν h1 _ _=>⟨by
    obtain⟨b1,b2⟩:=hb ν' hν;simp only[zbm,zc6,or_false,forall_eq,q0y,ev_s,h1];omega,fun f hf=>by cases hf⟩
   refine γ_cs (es:=[(Lin.s S.ns).sub lo]) g fun ν' hν=>?_
   have h0:=(q1o ν S.ns n 0 .nilFunc).trans hν (zcb _);have h1:=(hν S.ns (zc0 _)).1;simp only[Va.set,if_true]at h1;obtain⟨b1,b2⟩:=hb ν' h0;simp only[zbm,zc6,or_false,forall_eq,q0y,ev_s,h1];omega
 · have:=(hν S.ns (zc0 _)).1
   simp only[Va.set,if_true]at this;simp only[AS.newI,ev_s,this]
theorem qbq(h:γ S ν hB s)(b:Bool):∃ ν1,Ext S ν hB s S.newB.2 ν1∧Is S.newB.2 ν1 S.newB.1 (.bool b):=by
 obtain⟨ν1,e,hi⟩:=q3p (lo:= .k 0) (hi:= .k 1) (n:=if b then 1 else 0) h (fun ν' _=>by simp only[ev_k]; split<;>omega)
 refine⟨ν1,e,fun ν' hν=>?_⟩
 have h1:=hi ν' hν;simp only[AS.newB,cv,Bx.ev,AV.bool.injEq];simp only[h1];cases b<;>rfl
theorem q8d{lo hi:Lin}{n:Nat}{a:AV}{f:Fa}(h:γ S ν hB s)(hb:∀ ν',Ag S.ns ν ν'→lo.ev ν'.i≤n∧(n:Int)≤hi.ev ν'.i)
 (hf:∀ ν',Ag S.ns ν ν'→ν'.i S.ns=n→ν'.a S.ns=a→okF ν' hB f):
 ∃ ν1,Ext S ν hB s {S.newS lo hi with fa:=f :: (S.newS lo hi).fa} ν1∧ ∀ ν',Ag (S.ns+1) ν1 ν'→ν'.i S.ns=n∧ν'.a S.ns=a:=by
 refine⟨ν.set S.ns n 0 a,⟨q1o _ _ _ _ _,zcb _,?_⟩,fun ν' hν=>?_⟩
 · exact qzg (fs:=[f]) (es:=[Lin.s S.ns,(Lin.s S.ns).sub lo,hi.sub (.s S.ns)]) h fun ν' hν h1 _ h3=>⟨by
    obtain⟨b1,b2⟩:=hb ν' hν;simp only[zbm,zc6,or_false,forall_eq_or_imp,forall_eq,q0y,ev_s,h1];omega,fun f' hf'=>by rw[zbs.1 hf']; exact hf ν' hν h1 h3⟩
 · obtain⟨h1,_,h3,_⟩:=hν S.ns (zc0 _)
   simp only[Va.set,if_true]at h1 h3;exact⟨h1,h3⟩
theorem qff{t:AT}{a:AV}(h:γ S ν hB s)(ht:∀ ν',Ag S.ns ν ν'→okT ν' hB t a):∃ ν1,Ext S ν hB s (q9e S t).2 ν1∧Is (q9e S t).2 ν1 (q9e S t).1 a:=by
 cases t with
 | int lo hi=>
   have h0:=ht ν (.refl _ _);simp only[okT]at h0;obtain⟨n,rfl,_⟩:=h0
   obtain⟨ν1,e,hi⟩:=q3p (lo:=lo) (hi:=hi) (n:=n) h fun ν' hν=>by
    have:=ht ν' hν;simp only[okT,AV.int.injEq,true_and]at this;obtain⟨m,rfl,h1,h2⟩:=this;exact⟨h1,h2⟩
   exact⟨ν1,e,fun ν' hν=>by simp only[q9e,cv]; rw[hi ν' hν]⟩
 | bool=>
   have h0:=ht ν (.refl _ _);simp only[okT]at h0;obtain⟨b,rfl⟩:=h0;exact qbq h b
 | str=>
   have h0:=ht ν (.refl _ _);simp only[okT]at h0;obtain⟨b,rfl,hsz⟩:=h0;obtain⟨ν1,e,hi⟩:=q8d (lo:= .k 0) (hi:= .k 1048576) (n:=b.size) (a:= .str b) (f:= .str S.ns) h (fun ν' _=>by simp only[ev_k]; omega) (fun ν' _ h1 h2=>⟨b,h2,h1.symm⟩)
   exact⟨ν1,e,fun ν' hν=>by simp only[q9e,cv]; exact(hi ν' hν).2⟩
 | sl lo hi ex ty=>
   have h0:=ht ν (.refl _ _);simp only[okT]at h0;obtain⟨p,n,k,rfl,_⟩:=h0
   obtain⟨ν1,e,hi⟩:=q8d (lo:=lo) (hi:=hi) (n:=n) (a:= .slice p n k) (f:= .sl S.ns ex ty) h (fun ν' hν=>by
    have:=ht ν' hν;simp only[okT,AV.slice.injEq]at this;obtain⟨p',n',k',⟨rfl,rfl,rfl⟩,h1,h2,_⟩:=this;exact⟨h1,h2⟩) (fun ν' hν h1 h2=>by
    have:=ht ν' hν;simp only[okT,AV.slice.injEq]at this;obtain⟨p',n',k',⟨rfl,rfl,rfl⟩,_,_,h3,h4⟩:=this;exact⟨p,n,k,h2,h1.symm,h3,h4⟩)
   exact⟨ν1,e,fun ν' hν=>by simp only[q9e,cv]; exact(hi ν' hν).2⟩
theorem q9g{ν:Va}{hB:AH}:∀ {ty:List AT} {j:Nat} {v:AV} {t:AT},nth ty j=some t→(okN ν hB ty j v↔okT ν hB t v)
 | [],_,_,_,h=>by simp[nth]at h
 | _ :: _,0,_,_,h=>by simp only[nth,zbe]at h; subst h; simp only[okN]
 | _ :: r,j+1,_,_,h=>by simp only[nth]at h; simp only[okN]; exact q9g h
theorem q1q{S:AS}:∀ {a b:List AT},q3q S a b=true→a.length=b.length
 | [],[],_=>rfl
 | [],_ :: _,h=>by simp[q3q]at h
 | _ :: _,[],h=>by simp[q3q]at h
 | a :: r,b :: s,h=>by simp only[q3q,zbf]at h; simp[q1q h.2]
mutual
theorem qif(h:γ S ν hB s){ν':Va}(hν:Ag S.ns ν ν'){hB':AH}:∀ {a b:AT},subT S a b=true→ ∀ {v:AV},okT ν' hB' a v→okT ν' hB' b v
 | .int a b,.int c d,hs,v,hv=>by
   simp only[subT,zbf]at hs;simp only[okT]at hv ⊢;obtain⟨n,rfl,h1,h2⟩:=hv;have:=q01 h hs.1 ν' hν;have:=q01 h hs.2 ν' hν;exact⟨n,rfl,by omega,by omega⟩
 | .bool,.bool,_,_,hv=>hv
 | .str,.str,_,_,hv=>hv
 | .sl a b x t,.sl c d y u,hs,v,hv=>by
   simp only[subT,zbf,zbu]at hs;obtain⟨⟨⟨s1,s2⟩,s3⟩,s4⟩:=hs;simp only[okT]at hv ⊢;obtain⟨p,n,k,rfl,h1,h2,h3,h4⟩:=hv;have:=q01 h s1 ν' hν;have:=q01 h s2 ν' hν;refine⟨p,n,k,rfl,by omega,by omega,fun hy=>h3 (by cases x<;>cases y<;>simp_all),fun hn=>?_⟩
   have s4:q3q S t u=true:=by
    rcases s4 with s4 | s4
    · exact s4
    · have:=q01 h s4 ν' hν
      rw[ev_k]at this; omega
   have hl:=q1q s4;obtain⟨id,off,cs,e1,e2,e3,e4⟩:=h4 hn;rw[hl]at e3 e4;exact⟨id,off,cs,e1,e2,e3,fun q hq=>let ⟨w,w1,w2⟩:=e4 q hq; ⟨w,w1,q12 h hν s4 w2⟩⟩
 | .int _ _,.bool,hs,_,_=>by simp[subT]at hs
 | .int _ _,.str,hs,_,_=>by simp[subT]at hs
 | .int _ _,.sl _ _ _ _,hs,_,_=>by simp[subT]at hs
 | .bool,.int _ _,hs,_,_=>by simp[subT]at hs
 | .bool,.str,hs,_,_=>by simp[subT]at hs
 | .bool,.sl _ _ _ _,hs,_,_=>by simp[subT]at hs
 | .str,.int _ _,hs,_,_=>by simp[subT]at hs
 | .str,.bool,hs,_,_=>by simp[subT]at hs
 | .str,.sl _ _ _ _,hs,_,_=>by simp[subT]at hs
 | .sl _ _ _ _,.int _ _,hs,_,_=>by simp[subT]at hs
 | .sl _ _ _ _,.bool,hs,_,_=>by simp[subT]at hs
 | .sl _ _ _ _,.str,hs,_,_=>by simp[subT]at hs
theorem q12(h:γ S ν hB s){ν':Va}(hν:Ag S.ns ν ν'){hB':AH}:∀ {a b:List AT},q3q S a b=true→ ∀ {j:Nat} {v:AV},okN ν' hB' a j v→okN ν' hB' b j v
 | [],[],_,_,_,hv=>hv
 | [],_ :: _,hs,_,_,_=>by simp[q3q]at hs
 | _ :: _,[],hs,_,_,_=>by simp[q3q]at hs
 | a :: r,b :: t,hs,0,v,hv=>by
   simp only[q3q,zbf]at hs;simp only[okN]at hv ⊢;exact qif h hν hs.1 hv
 | a :: r,b :: t,hs,j+1,v,hv=>by
   simp only[q3q,zbf]at hs;simp only[okN]at hv ⊢;exact q12 h hν hs.2 hv
end
end Go.K
namespace Go.K
open Go Go.J
variable{S:AS}{ν:Va}{hB:AH}{s:St}{P:Program}
theorem qhv{ν:Va}{hB:AH}:∀ {ty:List AT} {j:Nat} {v:AV},okN ν hB ty j v→ ∃ t,nth ty j=some t∧okT ν hB t v
 | [],_,_,h=>by simp only[okN]at h
 | t :: _,0,_,h=>⟨t,rfl,by simpa only[okN]using h⟩
 | _ :: r,j+1,v,h=>by
   have h':okN ν hB r j v:=by simpa only[okN]using h
   obtain⟨t,a,b⟩:=qhv h';exact⟨t,a,b⟩
theorem z5b{a b z:Int}(hz:0≤z)(h:a≤b):a * z≤b * z:=Int.mul_le_mul_of_nonneg_right h hz
theorem q0o(h:γ S ν hB s){c:Nat}{ν':Va}(hν:Ag S.ns ν ν'):∀ {fa:List Fa} {x:Bool} {ty:List AT},(∀ f∈fa,okF ν' hB f)→tyOf S c fa=some (x,ty)→
 ∃ (p:Option (Nat×Nat)) (n:Nat) (k:Cap),ν'.a c= .slice p n k∧(n:Int)=ν'.i c∧(x=true→ ∃ m,k= .exact m∧n≤m)∧SlC ν' hB p n ty
 | [],_,_,_,he=>by simp[tyOf]at he
 | .str _ :: r,x,ty,hf,he=>q0o h hν (fun f hm=>hf f (zbh _ hm)) (by simpa only[tyOf]using he)
 | .cell _ _ _ :: r,x,ty,hf,he=>q0o h hν (fun f hm=>hf f (zbh _ hm)) (by simpa only[tyOf]using he)
 | .loop _ _ _ _ _ _ _ :: r,x,ty,hf,he=>q0o h hν (fun f hm=>hf f (zbh _ hm)) (by simpa only[tyOf]using he)
 | .sl d y u :: r,x,ty,hf,he=>by
   simp only[tyOf]at he;split at he
   · rename_i hb
     have hd:=zbg hb;subst hd;simp only[zbe,zbt]at he;obtain⟨rfl,rfl⟩:=he;exact hf (.sl c y u) (by simp)
   · exact q0o h hν (fun f hm=>hf f (zbh _ hm)) he
 | .pre d e u :: r,x,ty,hf,he=>by
   simp only[tyOf]at he;split at he
   · rename_i hb
     rw[zbf]at hb;have hd:=zbg hb.1;subst hd;split at he
     · rename_i y u' h2
       simp only[zbe,zbt]at he;obtain⟨rfl,rfl⟩:=he;obtain⟨p,n,k,e1,e2,e3,e4⟩:=q0o h hν (fun f hm=>hf f (zbh _ hm)) h2
       refine⟨p,n,k,e1,e2,e3,fun hn=>?_⟩
       obtain⟨id,off,cs,f1,f2,f3,f4⟩:=e4 hn;have hl:=q01 h hb.2 ν' hν;rw[ev_s,←e2]at hl;have hp:=hf (.pre c e u) (by simp) p n k e1
       have hq:∀ q,q<n * u.length→ ∃ w,cs[off+q]?=some w∧okN ν' hB u (q % u.length) w:=by
        intro q hq;have hz:(0:Int)≤(u.length:Int):=by omega
        have hm:=z5b hz hl;have hq':(q:Int)<(n:Int) * (u.length:Int):=by exact_mod_cast hq
        obtain⟨id',off',cs',w,g1,g2,g3,g4⟩:=hp q (by omega) hq
        rw[f1]at g1;simp only[zbe,zbt]at g1;obtain⟨rfl,rfl⟩:=g1;rw[f2]at g2; cases g2;exact⟨w,g3,g4⟩
       refine⟨id,off,cs,f1,f2,?_,hq⟩;rcases zc5 (n * u.length)with hz | hz
       · rw[hz]; omega
       · obtain⟨w,hw,_⟩:=hq (n * u.length - 1) (by omega)
         have:=(zci.1 hw).1;omega
     · cases he
   · exact q0o h hν (fun f hm=>hf f (zbh _ hm)) he
theorem q0r{ν':Va}{c:Nat}:∀ {fa:List Fa},(∀ f∈fa,okF ν' hB f)→isStr c fa=true→ ∃ b:ByteArray,ν'.a c= .str b∧(b.size:Int)=ν'.i c
 | [],_,he=>by simp[isStr]at he
 | .str d :: r,hf,he=>by
   simp only[isStr,zbu]at he;rcases he with he | he
   · have:=zbg he; subst this; exact hf (.str c) (by simp)
   · exact q0r (fun f hm=>hf f (zbh _ hm)) he
 | .cell _ _ _ :: r,hf,he=>q0r (fun f hm=>hf f (zbh _ hm)) (by simpa only[isStr]using he)
 | .loop _ _ _ _ _ _ _ :: r,hf,he=>q0r (fun f hm=>hf f (zbh _ hm)) (by simpa only[isStr]using he)
 | .sl _ _ _ :: r,hf,he=>q0r (fun f hm=>hf f (zbh _ hm)) (by simpa only[isStr]using he)
 | .pre _ _ _ :: r,hf,he=>q0r (fun f hm=>hf f (zbh _ hm)) (by simpa only[isStr]using he)
theorem q80(h:γ S ν hB s){v:V}{t:AT}(hc:conf S v t=true){ν':Va}(hν:Ag S.ns ν ν'):okT ν' hB t (cv ν' v):=by
 unfold conf at hc;split at hc
 · rename_i e lo hi
   rw[zbf]at hc;have:=q01 h hc.1 ν' hν;have:=q01 h hc.2 ν' hν;simp only[okT,cv];exact⟨_,rfl,by omega,by omega⟩
 · simp only[okT,cv]; exact⟨_,rfl⟩
 · simp only[okT,cv]; exact⟨_,rfl,by simpa [Nat.ble_eq]using hc⟩
 · rename_i c
   rw[zbf]at hc;obtain⟨b,h1,h2⟩:=q0r (h.g ν' hν).fa hc.1;have:=q01 h hc.2 ν' hν;rw[ev_s,ev_k,←h2]at this;simp only[okT,cv]; exact⟨b,h1,by omega⟩
 · rename_i lo hi _ _
   rw[zbf]at hc;have h1:=q01 h hc.1 ν' hν;have h2:=q01 h hc.2 ν' hν;rw[ev_k]at h1 h2;simp only[okT,cv];exact⟨none,0,.exact 0,rfl,h1,h2,fun _=>⟨0,rfl,zbi _⟩,fun h0=>absurd h0 (Nat.lt_irrefl _)⟩
 · rename_i c lo hi ex ty
   rw[zbf,zbf]at hc;obtain⟨⟨c1,c2⟩,c3⟩:=hc;have h1:=q01 h c1 ν' hν;have h2:=q01 h c2 ν' hν;rw[ev_s]at h1 h2;split at c3
   · rename_i x u hu
     simp only[zbf,zbu (q3q S u ty)]at c3;obtain⟨p,n,k,e1,e2,e3,e4⟩:=q0o h hν (h.g ν' hν).fa hu;simp only[okT,cv];refine⟨p,n,k,e1,by omega,by omega,fun hx=>e3 ?_,?_⟩
     · have:=c3.1; subst hx; simpa using this
     · rcases c3.2 with c4 | c4
       · have hl:=q1q c4
         intro hn;obtain⟨id,off,cs,f1,f2,f3,f4⟩:=e4 hn;rw[hl]at f3 f4;exact⟨id,off,cs,f1,f2,f3,fun q hq=>let ⟨w,w1,w2⟩:=f4 q hq; ⟨w,w1,q12 h hν c4 w2⟩⟩
       · have:=q01 h c4 ν' hν
         rw[ev_s,ev_k,←e2]at this;intro hn; omega
   · cases c3
 · cases hc
theorem modT(z:Int):∀ (t:List (Nat×Int)) (f:Nat→Int),t.all (fun p=>ibeq (p.2 % z) 0)=true→evT f t % z=0
 | [],f,_=>by simp[evT]
 | p :: r,f,h=>by
   simp only[List.all_cons,zbf]at h;have h1:=q1b.1 h.1;have h2:=modT z r f h.2;simp only[evT];have h3:(p.2 * f p.1) % z=0:=by rw[Int.mul_emod,h1]; simp
   rw[Int.add_emod,h2,h3]; simp
theorem qbp{e:Lin}{z j:Nat}(h:modL e z=some j){f:Nat→Int}(h0:0≤e.ev f):(e.ev f).toNat % z=j:=by
 unfold modL at h;split at h
 · rename_i hz
   have:=zbg hz;subst this;simp only[zbe]at h;omega
 · split at h
   · rename_i ha
     simp only[zbe]at h;subst h
     have h1:e.ev f % (z:Int)=e.c % (z:Int):=by
      simp only[Lin.ev];rw[Int.add_emod,modT z e.t f ha,Int.add_zero,Int.emod_emod]
     have h2:(((e.ev f).toNat % z:Nat):Int)=e.ev f % (z:Int):=by
      rw[Int.natCast_emod,Int.toNat_of_nonneg h0]
     rw[←h1]; omega
   · cases h
theorem q9c{ty:List AT}{o:Lin}{v:V}{S1:AS}{a:AV}{on:Int}(h:γ S ν hB s)(he:newAt S ty o= .ok (v,S1))(ho:∀ ν',Ag S.ns ν ν'→o.ev ν'.i=on)(h0:0≤on)
 (ha:∀ ν',Ag S.ns ν ν'→okN ν' hB ty (on.toNat % ty.length) a):∃ ν1,Ext S ν hB s S1 ν1∧Is S1 ν1 v a:=by
 unfold newAt at he;split at he
 · cases he
 · rename_i j hj
   split at he
   · cases he
   · rename_i t ht
     obtain⟨rfl,rfl⟩:v=(q9e S t).1∧S1=(q9e S t).2:=by have:=R.ok.inj he; rw[this]; exact⟨rfl,rfl⟩
     have e0:=ho ν (.refl _ _);have hm:=qbp hj (f:=ν.i) (by omega)
     rw[e0]at hm;obtain⟨ν1,e,i⟩:=qff (t:=t) (a:=a) h fun ν' hν=>(q9g ht).1 (by have:=ha ν' hν; rwa[hm]at this)
     exact⟨ν1,e,i⟩
theorem q5r(h:γ S ν hB s){o n:Lin}{z:Nat}{on:Int}(hb:inB S o n z=true)(ho:∀ ν',Ag S.ns ν ν'→o.ev ν'.i=on):0≤on∧ ∀ ν',Ag S.ns ν ν'→on<n.ev ν'.i * z:=by
 simp only[inB,zbf]at hb;have h1:=q01 h hb.1 ν (.refl _ _);rw[ev_k,ho ν (.refl _ _)]at h1;refine⟨h1,fun ν' hν=>?_⟩
 have h2:=q01 h hb.2 ν' hν;rw[q0f,q2b,ho ν' hν,Int.mul_comm]at h2;omega
theorem qia{n o:Lin}{z:Nat}{k:Int}(h:z1k S n z o=some k):∃ c,n.isK=some c∧k=c * z∧S.le (.k (c * z)) o=true:=by
 unfold z1k at h;split at h
 · rename_i c hc
   split at h
   · rename_i hl
     simp only[zbe]at h;exact⟨c,hc,h.symm,hl⟩
   · cases h
 · cases h
theorem qbl(h:γ S ν hB s):∀ {l:List Sg} {o:Lin} {v:V} {S1:AS} {cs:List AV} {on:Int},ldSg S l o= .ok (v,S1)→(∀ ν',Ag S.ns ν ν'→o.ev ν'.i=on)→0≤on→(∀ ν',Ag S.ns ν ν'→SgOk ν' hB l cs)→
 ∃ a ν1,cs[on.toNat]?=some a∧Ext S ν hB s S1 ν1∧Is S1 ν1 v a
 | [],_,_,_,_,_,he,_,_,_=>by simp[ldSg]at he
 | .one v0 :: r,o,v,S1,cs,on,he,ho,h0,hs=>by
   have c0:=hs ν (.refl _ _);simp only[SgOk]at c0;obtain⟨cs',rfl,_⟩:=c0
   have hs':∀ ν',Ag S.ns ν ν'→cv ν' v0=cv ν v0∧SgOk ν' hB r cs':=fun ν' hν=>by
    have:=hs ν' hν;simp only[SgOk,List.cons.injEq]at this;obtain⟨c2,⟨e1,rfl⟩,e2⟩:=this;exact⟨e1.symm,e2⟩
   have tl:∀ {v S1},ldSg S r (o.addk (-1))= .ok (v,S1)→1≤on→ ∃ a ν1,(cv ν v0 :: cs')[on.toNat]?=some a∧Ext S ν hB s S1 ν1∧Is S1 ν1 v a:=by
    intro v S1 he h1;obtain⟨a,ν1,g1,g2,g3⟩:=qbl h he (on:=on - 1) (fun ν' hν=>by rw[q0f,ho ν' hν]; omega) (by omega) (fun ν' hν=>(hs' ν' hν).2)
    refine⟨a,ν1,?_,g2,g3⟩;have:on.toNat=(on - 1).toNat+1:=by omega
    rw[this,List.getElem?_cons_succ]; exact g1
   simp only[ldSg]at he;split at he
   · rename_i c hc
     have e0:on=c:=by rw[←ho ν (.refl _ _)]; exact q1l hc
     split at he
     · rename_i hz
       have:=q1b.1 hz;cases he;exact⟨cv ν v0,ν,by simp[e0,this],.refl h,fun ν' hν=>(hs' ν' hν).1⟩
     · rename_i hz
       have:c≠0:=fun e=>by rw[q1b.2 e]at hz; cases hz
       exact tl he (by omega)
   · split at he
     · rename_i hl
       have:=q01 h hl ν (.refl _ _);rw[ev_k,ho ν (.refl _ _)]at this;exact tl he this
     · cases he
 | .arr n ty :: r,o,v,S1,cs,on,he,ho,h0,hs=>by
   simp only[ldSg]at he;split at he
   · rename_i k hk
     obtain⟨c,hc,rfl,hl⟩:=qia hk;have nk:∀ ν':Va,n.ev ν'.i=c:=fun ν'=>q1l hc
     have hlen:∀ ν',Ag S.ns ν ν'→SgOk ν' hB r (cs.drop (c.toNat * ty.length))∧0≤c:=fun ν' hν=>by
      have:=hs ν' hν;simp only[SgOk,nk]at this;obtain⟨g0,c1,c2,rfl,g1,_,g2⟩:=this;exact⟨by rw[←g1]; simpa using g2,g0⟩
     have c0:=(hlen ν (.refl _ _)).2;have hle:=q01 h hl ν (.refl _ _);rw[ev_k,ho ν (.refl _ _)]at hle;obtain⟨a,ν1,g1,g2,g3⟩:=qbl h he (on:=on - c * ty.length) (fun ν' hν=>by rw[q0f,ho ν' hν]; omega) (by omega) (fun ν' hν=>(hlen ν' hν).1)
     refine⟨a,ν1,?_,g2,g3⟩;rw[zcq]at g1;rw[←g1];congr 1;have e:(c.toNat * ty.length:Nat)=(c * ty.length).toNat:=by rw[Int.toNat_mul c0 (by omega)]; simp
     rw[e];have:0≤c * ty.length:=Int.mul_nonneg c0 (by omega)
     omega
   · obtain⟨u,hu,he⟩:=R.zak he
     have hb:=q02 hu;obtain⟨_,hlt⟩:=q5r h hb ho
     have hcell:∀ ν',Ag S.ns ν ν'→ ∃ w,cs[on.toNat]?=some w∧okN ν' hB ty (on.toNat % ty.length) w:=fun ν' hν=>by
      have:=hs ν' hν;simp only[SgOk]at this;obtain⟨g0,c1,c2,rfl,g1,g2,_⟩:=this
      have hq:on.toNat<c1.length:=by
       rw[g1];have:=hlt ν' hν
       have e:((n.ev ν'.i).toNat * ty.length:Nat)=(n.ev ν'.i * ty.length).toNat:=by
        rw[Int.toNat_mul g0 (by omega)]; simp
       rw[e]; omega
      rw[zck hq];obtain⟨w,hw⟩:∃ w,c1[on.toNat]?=some w:=⟨c1[on.toNat],zcg hq⟩;exact⟨w,hw,g2 _ w hw⟩
     obtain⟨a,ha,_⟩:=hcell ν (.refl _ _)
     obtain⟨ν1,e,i⟩:=q9c (a:=a) h he ho h0 fun ν' hν=>by
      obtain⟨w,hw,g⟩:=hcell ν' hν;rw[ha]at hw; cases hw; exact g
     exact⟨a,ν1,ha,e,i⟩
end Go.K
namespace Go.K
open Go Go.J
noncomputable section
variable{S:AS}{ν:Va}{hB:AH}{s:St}{P:Program}
structure Px(S S1:AS):Prop where
 hp:S1.hp=S.hp
 nt:S1.nt=S.nt
 df:S1.df=S.df
 sl:S1.sl=S.sl
theorem Px.refl(S:AS):Px S S:=⟨rfl,rfl,rfl,rfl⟩
theorem Px.trans{S S1 S2:AS}(a:Px S S1)(b:Px S1 S2):Px S S2:=⟨b.hp.trans a.hp,b.nt.trans a.nt,b.df.trans a.df,b.sl.trans a.sl⟩
theorem qjp(S:AS)(t:AT):Px S (q9e S t).2:=by cases t<;>exact⟨rfl,rfl,rfl,rfl⟩
theorem qjo{S:AS}{ty:List AT}{o:Lin}{v:V}{S1:AS}(h:newAt S ty o= .ok (v,S1)):Px S S1:=by
 unfold newAt at h;split at h
 · cases h
 · split at h
   · cases h
   · rename_i t _
     have:=R.ok.inj h;have e:S1=(q9e S t).2:=by rw[this]
     rw[e];exact qjp S t
theorem qjh{S:AS}{v:V}{S1:AS}:∀ {l:List Sg} {o:Lin},ldSg S l o= .ok (v,S1)→Px S S1
 | [],_,h=>by simp[ldSg]at h
 | .one v0 :: r,o,h=>by
   simp only[ldSg]at h;split at h
   · split at h
     · cases h; exact .refl _
     · exact qjh h
   · split at h
     · exact qjh h
     · cases h
 | .arr n ty :: r,o,h=>by
   simp only[ldSg]at h;split at h
   · exact qjh h
   · obtain⟨_,_,h⟩:=R.zak h
     exact qjo h
theorem But.same(h:AH)(i:Nat):But h i h:=⟨zbi _,fun _ _ _ x=>x⟩
theorem q5p{o:Lin}{v:V}:∀ {kn:List (Lin×V)},qen o kn=some v→(o,v)∈kn
 | [],h=>by simp[qen]at h
 | p :: r,h=>by
   simp only[qen]at h;split at h
   · rename_i he
     have:=q2h he;cases p; simp at this h; subst this; subst h; simp
   · exact zbh _ (q5p h)
def KnOk(ν:Va)(cs:List AV)(kn:List (Lin×V)):Prop:= ∀ p∈kn,0≤p.1.ev ν.i∧cs[(p.1.ev ν.i).toNat]?=some (cv ν p.2)
theorem q6d{l:List Sg}{cs:List AV}:∀ {n:Nat} {S:AS} {ν:Va} {kn kn':List (Lin×V)} {o:Lin} {vs:List V} {S1:AS} {on:Int},γ S ν hB s→qok S l kn o n= .ok (vs,kn',S1)→(∀ ν',Ag S.ns ν ν'→o.ev ν'.i=on)→0≤on→
 (∀ ν',Ag S.ns ν ν'→SgOk ν' hB l cs)→(∀ ν',Ag S.ns ν ν'→KnOk ν' cs kn)→
 ∃ as ν1,(∀ i,i<n→cs[on.toNat+i]?=as[i]?)∧as.length=n∧Ext S ν hB s S1 ν1∧(∀ ν',Ag S1.ns ν1 ν'→cvL ν' vs=as)∧(∀ ν',Ag S1.ns ν1 ν'→KnOk ν' cs kn')∧Px S S1
 | 0,S,ν,kn,kn',o,vs,S1,on,h,he,ho,h0,hs,hk=>by
   simp only[qok,R.ok.injEq,zbt]at he;obtain⟨rfl,rfl,rfl⟩:=he;exact⟨[],ν,fun i hi=>absurd hi (zcn _),rfl,.refl h,fun _ _=>rfl,hk,.refl _⟩
 | n+1,S,ν,kn,kn',o,vs,S1,on,h,he,ho,h0,hs,hk=>by
   simp only[qok]at he;split at he
   · rename_i v hv
     obtain⟨p,hp,he⟩:=R.zak he;obtain⟨pv,pk,pS⟩:=p;simp only[R.ok.injEq,zbt]at he;obtain⟨rfl,rfl,rfl⟩:=he;have hm:=q5p hv;obtain⟨as,ν1,g1,g2,g3,g4,g5,g6⟩:=q6d (on:=on+1) h hp (fun ν' hν=>by rw[q0f,ho ν' hν]) (by omega) hs hk
     refine⟨cv ν v :: as,ν1,fun i hi=>?_,by simp[g2],g3,fun ν' hν=>?_,g5,g6⟩
     · cases i with
       | zero=>simp only[Nat.add_zero,List.getElem?_cons_zero]; have:=(hk ν (.refl _ _) _ hm).2; simpa only[ho ν (.refl _ _)]using this
       | succ i=>simp only[List.getElem?_cons_succ]; rw[←g1 i (by omega)]; congr 1; omega
     · simp only[cvL,g4 ν' hν,List.cons.injEq,and_true]
       have hν0:=g3.ag.trans hν g3.ns;have h1:=(hk ν' hν0 _ hm).2;have h2:=(hk ν (.refl _ _) _ hm).2;simp only[ho ν' hν0]at h1;simp only[ho ν (.refl _ _)]at h2;rw[h1]at h2; exact zbz h2
   · obtain⟨q,hq,he⟩:=R.zak he
     obtain⟨qv,qS⟩:=q;obtain⟨p,hp,he⟩:=R.zak he;obtain⟨pv,pk,pS⟩:=p;simp only[R.ok.injEq,zbt]at he;obtain⟨rfl,rfl,rfl⟩:=he;obtain⟨a,ν1,e1,e2,e3⟩:=qbl h hq ho h0 hs
     obtain⟨as,ν2,g1,g2,g3,g4,g5,g6⟩:=q6d (on:=on+1) e2.g hp (fun ν' hν=>by rw[q0f,ho ν' (e2.ag.trans hν e2.ns)]) (by omega) (fun ν' hν=>hs ν' (e2.ag.trans hν e2.ns)) (fun ν' hν p hp=>by
      rcases zbm.1 hp with rfl | hp
      · simp only[ho ν' (e2.ag.trans hν e2.ns)]
        exact⟨h0,by rw[e1,e3 ν' hν]⟩
      · exact hk ν' (e2.ag.trans hν e2.ns) p hp)
     refine⟨a :: as,ν2,fun i hi=>?_,by simp[g2],e2.trans g3,fun ν' hν=>?_,g5,(qjh hq).trans g6⟩
     · cases i with
       | zero=>simp only[Nat.add_zero,List.getElem?_cons_zero]; exact e1
       | succ i=>simp only[List.getElem?_cons_succ]; rw[←g1 i (by omega)]; congr 1; omega
     · simp only[cvL,g4 ν' hν,List.cons.injEq,and_true]
       exact e3 ν' (g3.ag.trans hν g3.ns)
theorem q2n{S:AS}{c:Nat}{ty:List AT}(h:qbi S c=some ty):∃ kn,getL S.hp c=some (.bld ty kn):=by
 unfold qbi at h;split at h
 · rename_i u kn hu
   simp only[zbe]at h; subst h; exact⟨_,hu⟩
 · cases h
theorem q0p{ν':Va}{c:Nat}{o:Lin}{v:V}:∀ {fa:List Fa},(∀ f∈fa,okF ν' hB f)→findCell c o fa=some v→okF ν' hB (.cell c o v)
 | [],_,h=>by simp[findCell]at h
 | .cell d p w :: r,hf,h=>by
   simp only[findCell]at h;split at h
   · rename_i hb
     rw[zbf]at hb;have h1:=zbg hb.1;have h2:=q2h hb.2;simp only[zbe]at h;subst h1; subst h2; subst h;exact hf _ (by simp)
   · exact q0p (fun f hm=>hf f (zbh _ hm)) h
 | .loop _ _ _ _ _ _ _ :: r,hf,h=>q0p (fun f hm=>hf f (zbh _ hm)) (by simpa only[findCell]using h)
 | .str _ :: r,hf,h=>q0p (fun f hm=>hf f (zbh _ hm)) (by simpa only[findCell]using h)
 | .sl _ _ _ :: r,hf,h=>q0p (fun f hm=>hf f (zbh _ hm)) (by simpa only[findCell]using h)
 | .pre _ _ _ :: r,hf,h=>q0p (fun f hm=>hf f (zbh _ hm)) (by simpa only[findCell]using h)
def z20(h:AH)(a:AV)(on:Int)(x:AV):Prop:= ∃ id off n k cs,a= .slice (some (id,off)) n k∧h.cells id=some cs∧cs[off+on.toNat]?=some x
theorem qt2{c:Nat}{o:Lin}{v:V}{S1:AS}{on:Int}(h:γ S ν hB s)(he:ldRo S c o= .ok (v,S1))(hc:c<S.ns)(ho:∀ ν',Ag S.ns ν ν'→o.ev ν'.i=on)(h0:0≤on):
 ∃ x ν1,z20 s.h (ν.a c) on x∧Ext S ν hB s S1 ν1∧Is S1 ν1 v x∧Px S S1:=by
 unfold ldRo at he;split at he
 · rename_i ty hb
   obtain⟨_,hu,he⟩:=R.zak he;obtain⟨_,hlt⟩:=q5r h (q02 hu) ho;obtain⟨kn0,hbld⟩:=q2n hb;have hm:=q05 hbld
   have hcell:∀ ν',Ag S.ns ν ν'→ ∃ (i:Nat) (cs:List AV) (w:AV) (n:Nat),ν'.a c= .slice (some (i,0)) n (.grow 0)∧s.h.get i=some (.grow ty.length cs)∧cs[on.toNat]?=some w∧okN ν' hB ty (on.toNat % ty.length) w:=fun ν' hν=>by
    obtain⟨⟨n,e1,e2⟩,_⟩:=(h.g ν' hν).hp _ hm;have hl:=hlt ν' hν;rw[ev_s,←e1]at hl;rcases e2 with⟨rfl,_⟩ | ⟨i,cs,f1,f2,f3,f4⟩
    · simp at hl; omega
    · have hq:on.toNat<cs.length:=by
       rw[f3];have:on<((n * ty.length:Nat):Int):=by push_cast; exact hl
       omega
      exact⟨i,cs,cs[on.toNat],n,f1,f2,zcg hq,f4 _ _ (zcg hq)⟩
   obtain⟨i,cs,w,n,f1,f2,f3,_⟩:=hcell ν (.refl _ _)
   obtain⟨ν1,e,is⟩:=q9c (a:=w) h he ho h0 fun ν' hν=>by
    obtain⟨i',cs',w',n',f1',f2',f3',f4'⟩:=hcell ν' hν;rw[(hν c hc).2.2.1,f1]at f1';simp only[AV.slice.injEq,zbe,zbt,and_true]at f1';obtain⟨rfl,_⟩:=f1';rw[f2]at f2';simp only[zbe,Chunk.grow.injEq,true_and]at f2';subst f2';rw[f3]at f3'; cases f3'; exact f4'
   exact⟨w,ν1,⟨i,0,n,_,cs,f1,q7y f2,by simpa using f3⟩,e,is,qjo he⟩
 · split at he
   · rename_i v' hv
     cases he;obtain⟨_,id,off,n,k,cs,f1,f2,f3⟩:=q0p h.self.fa hv;rw[ho ν (.refl _ _)]at f3;refine⟨cv ν v,ν,⟨id,off,n,k,cs,f1,h.le.cells f2,f3⟩,.refl h,fun ν' hν=>?_,.refl _⟩
     obtain⟨_,id',off',n',k',cs',f1',f2',f3'⟩:=q0p (h.g ν' hν).fa hv;rw[(hν c hc).2.2.1,f1]at f1';simp only[AV.slice.injEq,zbe,zbt]at f1';obtain⟨⟨rfl,rfl⟩,_⟩:=f1';rw[f2]at f2'; cases f2';rw[ho ν' hν,f3]at f3';exact(zbz f3').symm
   · split at he
     · cases he
     · rename_i x ty hty
       obtain⟨_,hu,he⟩:=R.zak he;obtain⟨p,hp,he⟩:=R.zak he;obtain⟨pv,pS⟩:=p;simp only[R.ok.injEq,zbt]at he;obtain⟨rfl,rfl⟩:=he;obtain⟨_,hlt⟩:=q5r h (q02 hu) ho
       have hcell:∀ ν',Ag S.ns ν ν'→ ∃ id off n k cs w,ν'.a c= .slice (some (id,off)) n k∧hB.cells id=some cs∧cs[off+on.toNat]?=some w∧okN ν' hB ty (on.toNat % ty.length) w:=fun ν' hν=>by
        obtain⟨p,n,k,e1,e2,_,e4⟩:=q0o h hν (h.g ν' hν).fa hty;have hl:=hlt ν' hν;rw[ev_s,←e2]at hl
        have hq:on.toNat<n * ty.length:=by
         have:on<((n * ty.length:Nat):Int):=by push_cast; exact hl
         omega
        have hn:0<n:=by rcases zc5 n with hz | hz
                        · rw[hz]at hq; simp at hq
                        · exact hz
        obtain⟨id,off,cs,g1,g2,_,g4⟩:=e4 hn;obtain⟨w,w1,w2⟩:=g4 _ hq;exact⟨id,off,n,k,cs,w,by rw[e1,g1],g2,w1,w2⟩
       obtain⟨id,off,n,k,cs,w,f1,f2,f3,_⟩:=hcell ν (.refl _ _)
       obtain⟨ν1,e,is⟩:=q9c (a:=w) h hp ho h0 fun ν' hν=>by
        obtain⟨id',off',n',k',cs',w',f1',f2',f3',f4'⟩:=hcell ν' hν;rw[(hν c hc).2.2.1,f1]at f1';simp only[AV.slice.injEq,zbe,zbt]at f1';obtain⟨⟨rfl,rfl⟩,_⟩:=f1';rw[f2]at f2'; cases f2';rw[f3]at f3'; cases f3'; exact f4'
       have px:=qjo hp;refine⟨w,ν1,⟨id,off,n,k,cs,f1,h.le.cells f2,f3⟩,⟨e.ag,e.ns,?_⟩,is,⟨px.hp,px.nt,px.df,px.sl⟩⟩
       exact γ_fa (fs:=[.cell c o pv]) e.g fun ν' hν f hf=>by
        rw[zbs.1 hf];have hν0:=e.ag.trans hν e.ns;refine⟨by rw[ho ν' hν0]; exact h0,id,off,n,k,cs,by rw[(hν0 c hc).2.2.1]; exact f1,f2,?_⟩
        rw[ho ν' hν0,f3,is ν' hν]
theorem qf2{c:Nat}:∀ {n:Nat} {S:AS} {ν:Va} {o:Lin} {vs:List V} {S1:AS} {on:Int},γ S ν hB s→z0i S c o n= .ok (vs,S1)→c<S.ns→(∀ ν',Ag S.ns ν ν'→o.ev ν'.i=on)→0≤on→
 ∃ as ν1,(∀ i:Nat,i<n→ ∃ x,as[i]?=some x∧z20 s.h (ν.a c) (on+i) x)∧as.length=n∧Ext S ν hB s S1 ν1∧(∀ ν',Ag S1.ns ν1 ν'→cvL ν' vs=as)∧Px S S1
 | 0,S,ν,o,vs,S1,on,h,he,hc,ho,h0=>by
   cases he;exact⟨[],ν,fun i hi=>absurd hi (zcn _),rfl,.refl h,fun _ _=>rfl,.refl _⟩
 | n+1,S,ν,o,vs,S1,on,h,he,hc,ho,h0=>by
   simp only[z0i]at he;obtain⟨q,hq,he⟩:=R.zak he;obtain⟨qv,qS⟩:=q;obtain⟨p,hp,he⟩:=R.zak he;obtain⟨pv,pS⟩:=p;simp only[R.ok.injEq,zbt]at he;obtain⟨rfl,rfl⟩:=he;obtain⟨x,ν1,e1,e2,e3,e4⟩:=qt2 h hq hc ho h0;obtain⟨as,ν2,g1,g2,g3,g4,g5⟩:=qf2 (on:=on+1) e2.g hp (zcm hc e2.ns) (fun ν' hν=>by rw[q0f,ho ν' (e2.ag.trans hν e2.ns)]) (by omega)
   refine⟨x :: as,ν2,fun i hi=>?_,by simp[g2],e2.trans g3,fun ν' hν=>?_,e4.trans g5⟩
   · cases i with
     | zero=>exact⟨x,by simp,by simpa using e1⟩
     | succ i=>
       obtain⟨y,y1,y2⟩:=g1 i (by omega)
       rw[(e2.ag c hc).2.2.1]at y2
       exact⟨y,by simpa using y1,by have:on+1+(i:Int)=on+((i+1:Nat):Int):=by push_cast; omega
                                    rwa[←this]⟩
   · simp only[cvL,g4 ν' hν,List.cons.injEq,and_true]
     exact e3 ν' (g3.ag.trans hν g3.ns)
end
end Go.K
namespace Go.K
open Go Go.J
noncomputable section
variable{S:AS}{ν:Va}{hB:AH}{s:St}{P:Program}
theorem q7t{k:IntKind}{n:Int}(h0:kmin k≤n)(h1:n≤kmax k):q36 k n=n:=by
 cases k<;>simp only[kmin,kmax]at h0 h1<;>simp only[q36,IntKind.wrap,IntKind.bits,IntKind.signed]<;>simp<;>omega
theorem q6p(k:IntKind)(n:Int):kmin k≤q36 k n∧q36 k n≤kmax k:=by
 cases k<;>simp only[kmin,kmax,q36,IntKind.wrap,IntKind.bits,IntKind.signed]<;>simp<;>omega
theorem qqk{a:Int}(b:Int)(h:0≤a):a % b≤a:=by
 obtain⟨n,rfl⟩:=Int.eq_ofNat_of_zero_le h;have:((n:Int) % b)=((n % b.natAbs:Nat):Int):=rfl;rw[this]; exact_mod_cast Nat.mod_le _ _
theorem qfu{a b:Nat}(h:a≤b):(2:Int) ^ a≤2 ^ b:=by exact_mod_cast Nat.pow_le_pow_right (by omega) h
theorem qzv(k:IntKind){y:Int}(h0:0≤y):((BitVec.ofInt k.bits y).toNat:Int)≤y:=by
 rw[BitVec.toNat_ofInt]
 have:y % ((2 ^ k.bits:Nat):Int)≤y:=by
  have:=qqk ((2 ^ k.bits:Nat):Int) h0;exact this
 omega
theorem qul{k:IntKind}{x y:Int}(h0:0≤y)(h1:y≤kmax k):0≤bitI .and k x y∧bitI .and k x y≤y:=by
 have e:((BitVec.ofInt k.bits x&&& BitVec.ofInt k.bits y).toNat:Int)≤y:=by
  have:=qzv k h0
  have h2:(BitVec.ofInt k.bits x&&& BitVec.ofInt k.bits y).toNat≤(BitVec.ofInt k.bits y).toNat:=by
   rw[BitVec.toNat_and]; exact Nat.and_le_right
  omega
 have hk:kmin k≤0:=by cases k<;>simp[kmin]
 have:=q7t (k:=k) (n:=((BitVec.ofInt k.bits x&&& BitVec.ofInt k.bits y).toNat:Int)) (by omega) (by omega)
 simp only[q36]at this;simp only[bitI,this];omega
theorem qq4{k:IntKind}{x y:Int}(h0:0≤x)(h1:x≤kmax k):0≤bitI .and k x y∧bitI .and k x y≤x:=by
 have:bitI .and k x y=bitI .and k y x:=by simp only[bitI,BitVec.and_comm]
 rw[this]; exact qul h0 h1
theorem qse{k:IntKind}{x y:Int}(h0:0≤x)(h1:x≤kmax k):0≤bitI .andNot k x y∧bitI .andNot k x y≤x:=by
 have e:((BitVec.ofInt k.bits x&&& ~~~BitVec.ofInt k.bits y).toNat:Int)≤x:=by
  have:=qzv k h0
  have h2:(BitVec.ofInt k.bits x&&& ~~~BitVec.ofInt k.bits y).toNat≤(BitVec.ofInt k.bits x).toNat:=by
   rw[BitVec.toNat_and]; exact Nat.and_le_left
  omega
 have hk:kmin k≤0:=by cases k<;>simp[kmin]
 have:=q7t (k:=k) (n:=((BitVec.ofInt k.bits x&&& ~~~BitVec.ofInt k.bits y).toNat:Int)) (by omega) (by omega)
 simp only[q36]at this;simp only[bitI,this];omega
theorem z8e{k:IntKind}{x y:Int}{m:Nat}(x0:0≤x)(y0:0≤y)(x1:x+1≤2 ^ m)(y1:y+1≤2 ^ m)(hm:(2:Int) ^ m≤kmax k){op:BinOp}(hop:op= .or∨op= .xor):
 0≤bitI op k x y∧bitI op k x y≤2 ^ m - 1:=by
 have hx:=qzv k x0;have hy:=qzv k y0;have e2:((2 ^ m:Nat):Int)=2 ^ m:=by push_cast; rfl
 have hx':(BitVec.ofInt k.bits x).toNat<2 ^ m:=by omega
 have hy':(BitVec.ofInt k.bits y).toNat<2 ^ m:=by omega
 have hk:kmin k≤0:=by cases k<;>simp[kmin]
 rcases hop with rfl | rfl
 · have h2:(BitVec.ofInt k.bits x||| BitVec.ofInt k.bits y).toNat<2 ^ m:=by
    rw[BitVec.toNat_or]; exact Nat.or_lt_two_pow hx' hy'
   have:=q7t (k:=k) (n:=((BitVec.ofInt k.bits x||| BitVec.ofInt k.bits y).toNat:Int)) (by omega) (by omega)
   simp only[q36]at this;simp only[bitI,this];omega
 · have h2:(BitVec.ofInt k.bits x ^^^ BitVec.ofInt k.bits y).toNat<2 ^ m:=by
    rw[BitVec.toNat_xor]; exact Nat.xor_lt_two_pow hx' hy'
   have:=q7t (k:=k) (n:=((BitVec.ofInt k.bits x ^^^ BitVec.ofInt k.bits y).toNat:Int)) (by omega) (by omega)
   simp only[q36]at this;simp only[bitI,this];omega
def BdOk(S:AS)(ν:Va)(n:Int):Bd→Prop
 | .exact e=> ∀ ν',Ag S.ns ν ν'→e.ev ν'.i=n
 | .new lo hi cs=> ∀ ν',Ag S.ns ν ν'→lo.ev ν'.i≤n∧n≤hi.ev ν'.i∧ ∀ c:Lin,c.ev ν'.i=n→ ∀ e∈cs c,0≤e.ev ν'.i
theorem qi7(d:Bd)(k:IntKind):Px S (d.run S k).2:=by cases d<;>exact⟨rfl,rfl,rfl,rfl⟩
theorem q7l{d:Bd}{k:IntKind}{n:Int}(h:γ S ν hB s)(hd:BdOk S ν n d):∃ ν1,Ext S ν hB s (d.run S k).2 ν1∧Is (d.run S k).2 ν1 (d.run S k).1 (.int k n):=by
 cases d with
 | exact e=>exact⟨ν,.refl h,fun ν' hν=>by simp only[Bd.run,cv]; rw[hd ν' hν]⟩
 | new lo hi cs=>
   obtain⟨ν1,e,hi'⟩:=q3p (lo:=lo) (hi:=hi) (n:=n) h fun ν' hν=>⟨(hd ν' hν).1,(hd ν' hν).2.1⟩
   refine⟨ν1,⟨e.ag,e.ns,γ_cs e.g fun ν' hν=>(hd ν' (e.ag.trans hν e.ns)).2.2 _ (hi' ν' hν)⟩,fun ν' hν=>?_⟩
   simp only[Bd.run,cv];rw[hi' ν' hν]
theorem q4l{k:IntKind}{n:Int}(h:kmin k≤n∧n≤kmax k):BdOk S ν n (anyK k):=fun ν' _=>⟨by rw[ev_k]; exact h.1,by rw[ev_k]; exact h.2,fun _ _ e he=>by cases he⟩
theorem qwa(h:γ S ν hB s){k:IntKind}{e:Lin}(hi:S.inK k e=true):∀ ν',Ag S.ns ν ν'→kmin k≤e.ev ν'.i∧e.ev ν'.i≤kmax k:=fun ν' hν=>by
 unfold AS.inK at hi;split at hi
 · rename_i c hc
   rw[zbf,q7c,q7c]at hi;rw[q1l hc]; exact hi
 · rw[zbf]at hi
   have h1:=q01 h hi.1 ν' hν;have h2:=q01 h hi.2 ν' hν;rw[ev_k]at h1 h2;exact⟨h1,h2⟩
theorem qf7(h:γ S ν hB s){k:IntKind}{e:Lin}{n:Int}(he:∀ ν',Ag S.ns ν ν'→e.ev ν'.i=n):BdOk S ν (q36 k n) (linB S k e):=by
 unfold linB;split
 · rename_i hi
   intro ν' hν;have:=qwa h hi ν (.refl _ _);rw[he ν (.refl _ _)]at this;rw[q7t this.1 this.2]; exact he ν' hν
 · exact q4l (q6p k n)
def numI(op:BinOp)(k:IntKind)(a b:Int):Int:=match op with
 | .add=>q36 k (a+b)
 | .sub=>q36 k (a - b)
 | .mul=>q36 k (a * b)
 | .quo=>quoI k a b
 | .rem=>remI a b
 | .shl=>shlI k a b
 | .shr=>shrI k a b
 | op=>bitI op k a b
theorem q9x{op:BinOp}{k:IntKind}{a b:Lin}{x y:Int}{d:Bd}(ha:∀ ν',Ag S.ns ν ν'→a.ev ν'.i=x)(hb:∀ ν',Ag S.ns ν ν'→b.ev ν'.i=y)(hd:BdOk S ν (bitI op k x y) d):BdOk S ν (bitI op k x y) (qh3 op k a b d):=by
 unfold qh3;split
 · rename_i x' y' h1 h2
   have e1:=ha ν (.refl _ _);have e2:=hb ν (.refl _ _);rw[q1l h1]at e1; rw[q1l h2]at e2;intro ν' _;rw[ev_k,e1,e2]
 · exact hd
theorem qiu(op:BinOp)(k:IntKind)(x y:Int):kmin k≤bitI op k x y∧bitI op k x y≤kmax k:=q6p k _
theorem z35{k:IntKind}{a b:Lin}{x y:Int}(h:γ S ν hB s)(ha:∀ ν',Ag S.ns ν ν'→a.ev ν'.i=x)(hb:∀ ν',Ag S.ns ν ν'→b.ev ν'.i=y){op:BinOp}(hop:op= .or∨op= .xor):BdOk S ν (bitI op k x y) (orB S k a b):=by
 unfold orB;split
 · rename_i u v _ _
   dsimp only;split
   · rename_i hc
     simp only[zbf]at hc;obtain⟨⟨⟨⟨c1,c2⟩,c3⟩,c4⟩,c5⟩:=hc;have c1:=q01 h c1 ν (.refl _ _);have c2:=q01 h c2 ν (.refl _ _);have c3:=q01 h c3 ν (.refl _ _);have c4:=q01 h c4 ν (.refl _ _);rw[ev_k,ha ν (.refl _ _)]at c1; rw[ev_k,hb ν (.refl _ _)]at c2;rw[ev_k,q0f,ha ν (.refl _ _)]at c3; rw[ev_k,q0f,hb ν (.refl _ _)]at c4;have r:=z8e (k:=k) c1 c2 c3 c4 (q7c.1 c5) hop;intro ν' _;rw[ev_k,ev_k];exact⟨r.1,r.2,fun _ _ e he=>by cases he⟩
   · exact q4l (qiu _ k _ _)
 · exact q4l (qiu _ k _ _)
theorem ql2{op:BinOp}{k:IntKind}{a b:Lin}{x y:Int}{d:Bd}(h:γ S ν hB s)(he:qq5 S op k a b= .ok d)(ha:∀ ν',Ag S.ns ν ν'→a.ev ν'.i=x)(hb:∀ ν',Ag S.ns ν ν'→b.ev ν'.i=y):
 BdOk S ν (numI op k x y) d∧(op= .quo∨op= .rem→y≠0):=by
 have ra:=ha ν (.refl _ _);have rb:=hb ν (.refl _ _);cases op with
 | add=>cases he; exact⟨qf7 h fun ν' hν=>by rw[q4p,ha ν' hν,hb ν' hν],fun e=>by simp at e⟩
 | sub=>cases he; exact⟨qf7 h fun ν' hν=>by rw[q0y,ha ν' hν,hb ν' hν],fun e=>by simp at e⟩
 | mul=>
   refine⟨?_,fun e=>by simp at e⟩
   simp only[qq5,R.ok.injEq]at he;subst he;split
   · rename_i c hc
     have:x=c:=by rw[←ra]; exact q1l hc
     exact qf7 h fun ν' hν=>by rw[q2b,hb ν' hν,this]
   · split
     · rename_i c hc
       have:y=c:=by rw[←rb]; exact q1l hc
       exact qf7 h fun ν' hν=>by rw[q2b,ha ν' hν,this,Int.mul_comm]
     · unfold mulB
       split
       · rename_i u v _ _
         split
         · rename_i hc
           simp only[zbf]at hc;obtain⟨⟨⟨⟨⟨c1,c2⟩,c3⟩,c4⟩,c5⟩,c6⟩:=hc;have c1:=q01 h c1 ν (.refl _ _);have c2:=q01 h c2 ν (.refl _ _);have c3:=q01 h c3 ν (.refl _ _);have c4:=q01 h c4 ν (.refl _ _);rw[ev_k,ra]at c1; rw[ev_k,rb]at c2; rw[ev_k,ra]at c3; rw[ev_k,rb]at c4;have c5:=q7c.1 c5;have c6:=q7c.1 c6;have m0:0≤x * y:=Int.mul_nonneg c1 c2;have m1:x * y≤u * v:=Int.mul_le_mul c3 c4 c2 (by omega)
           intro ν' _;simp only[numI,q7t (k:=k) (n:=x * y) (by omega) (by omega),ev_k]
           exact⟨m0,m1,fun _ _ e he=>by cases he⟩
         · exact q4l (q6p k _)
       · exact q4l (q6p k _)
 | quo=>
   obtain⟨_,hn,he⟩:=R.zak he;have hn:=q02 hn;cases he
   have hy:y≠0:=by
    rw[zbu]at hn;rcases hn with hn | hn
    · have:=q01 h hn ν (.refl _ _); rw[ev_k,rb]at this; omega
    · have:=q01 h hn ν (.refl _ _); rw[ev_k,rb]at this; omega
   refine⟨?_,fun _=>hy⟩
   split
   · rename_i hc
     simp only[zbf]at hc;obtain⟨⟨c1,c2⟩,c3⟩:=hc;have c1:=q01 h c1 ν (.refl _ _);have c2:=q01 h c2 ν (.refl _ _);have c3:=q01 h c3 ν (.refl _ _);rw[ev_k,rb]at c1; rw[ev_k,ra]at c2; rw[ev_k,ra]at c3;have e:x.tdiv y=x / y:=Int.tdiv_eq_ediv_of_nonneg c2;have q0:0≤x / y:=Int.ediv_nonneg c2 (by omega)
     have q1:x / y≤x:=Int.ediv_le_self y c2;have hk:kmin k≤0:=by cases k<;>simp[kmin]
     have hw:=q7t (k:=k) (n:=x / y) (by omega) (by omega)
     have en:numI .quo k x y=x / y:=by simp only[numI,quoI,e]; exact hw
     intro ν' hν;rw[en,ev_k,ha ν' hν];refine⟨q0,q1,fun c hc e he=>?_⟩
     split at he
     · rename_i y' hy'
       have ey:y=y':=by rw[←rb]; exact q1l hy'
       have d1:=Int.ediv_mul_le x (b:=y) (by omega)
       have d2:=Int.lt_ediv_add_one_mul_self x (b:=y) (by omega)
       rw[Int.add_mul,Int.one_mul]at d2;have d3:y' * (x / y)=x / y * y:=by rw[ey,Int.mul_comm]
       simp only[zbm,zc6,or_false]at he;rcases he with rfl | rfl
       · rw[q0y,q2b,hc,ha ν' hν]; omega
       · rw[q0y,q0f,q2b,hc,ha ν' hν]; omega
     · cases he
   · exact q4l (q6p k _)
 | rem=>
   simp only[qq5]at he;split at he
   · rename_i hc
     cases he;simp only[zbf]at hc;have c1:=q01 h hc.1 ν (.refl _ _);have c2:=q01 h hc.2 ν (.refl _ _);rw[ev_k,rb]at c1; rw[ev_k,ra]at c2;refine⟨?_,fun _=>by omega⟩
     have e:x.tmod y=x % y:=Int.tmod_eq_emod_of_nonneg c2;have m0:=Int.emod_nonneg x (b:=y) (by omega)
     have m1:=Int.emod_lt_of_pos x (b:=y) (by omega)
     have m2:=qqk y c2;intro ν' hν;simp only[numI,remI,e,ev_k,q0f,hb ν' hν];refine⟨m0,by omega,fun c hc e he=>?_⟩
     rw[zbs.1 he,q0y,ha ν' hν,hc]; omega
   · split at he
     · rename_i u _
       obtain⟨_,hn,he⟩:=R.zak he;have hn:=q02 hn;cases he;simp only[zbf]at hn;have c1:=q01 h hn.1 ν (.refl _ _);have c2:=q01 h hn.2 ν (.refl _ _);rw[ev_k,rb]at c1; rw[ev_k,rb]at c2;refine⟨?_,fun _=>by omega⟩
       have m1:=Int.tmod_lt_of_pos x (b:=y) (by omega)
       have m2:-y<x.tmod y:=by
        have:=Int.lt_tmod_of_pos x (b:=y) (by omega)
        exact this
       intro ν' hν;simp only[numI,remI,ev_k];exact⟨by omega,by omega,fun _ _ e he=>by cases he⟩
     · cases he
 | and=>
   cases he;refine⟨q9x ha hb ?_,fun e=>by simp at e⟩
   unfold andB;split
   · rename_i hc
     simp only[zbf]at hc;have c1:=q01 h hc.1 ν (.refl _ _);have c2:=q01 h hc.2 ν (.refl _ _);rw[ev_k,rb]at c1; rw[ev_k,rb]at c2;have r:=qul (k:=k) (x:=x) c1 c2;intro ν' hν;rw[ev_k,hb ν' hν];refine⟨r.1,r.2,fun c hc e he=>?_⟩
     split at he
     · rename_i hc2
       simp only[zbf]at hc2;have c3:=q01 h hc2.1 ν (.refl _ _);have c4:=q01 h hc2.2 ν (.refl _ _);rw[ev_k,ra]at c3; rw[ev_k,ra]at c4;have:=(qq4 (k:=k) (y:=y) c3 c4).2;rw[zbs.1 he,q0y,ha ν' hν,hc]; omega
     · cases he
   · split
     · rename_i hc
       simp only[zbf]at hc;have c3:=q01 h hc.1 ν (.refl _ _);have c4:=q01 h hc.2 ν (.refl _ _);rw[ev_k,ra]at c3; rw[ev_k,ra]at c4;have r:=qq4 (k:=k) (y:=y) c3 c4;intro ν' hν;rw[ev_k,ha ν' hν];exact⟨r.1,r.2,fun _ _ e he=>by cases he⟩
     · exact q4l (qiu _ k _ _)
 | andNot=>
   cases he;refine⟨q9x ha hb ?_,fun e=>by simp at e⟩
   unfold quk;split
   · rename_i hc
     simp only[zbf]at hc;have c3:=q01 h hc.1 ν (.refl _ _);have c4:=q01 h hc.2 ν (.refl _ _);rw[ev_k,ra]at c3; rw[ev_k,ra]at c4;have r:=qse (k:=k) (y:=y) c3 c4;intro ν' hν;rw[ev_k,ha ν' hν];exact⟨r.1,r.2,fun _ _ e he=>by cases he⟩
   · exact q4l (qiu _ k _ _)
 | or=>cases he; exact⟨q9x ha hb (z35 h ha hb (.inl rfl)),fun e=>by simp at e⟩
 | xor=>cases he; exact⟨q9x ha hb (z35 h ha hb (.inr rfl)),fun e=>by simp at e⟩
 | _=>cases he
theorem qmz{op:BinOp}{k:IntKind}{a b:Lin}{x y:Int}{d:Bd}(h:γ S ν hB s)(he:z39 S op k a b= .ok d)(ha:∀ ν',Ag S.ns ν ν'→a.ev ν'.i=x)(hb:∀ ν',Ag S.ns ν ν'→b.ev ν'.i=y):
 0≤y∧((op= .shl∧BdOk S ν (shlI k x y) d)∨(op= .shr∧BdOk S ν (shrI k x y) d)):=by
 have ra:=ha ν (.refl _ _);have rb:=hb ν (.refl _ _);obtain⟨_,hn,he⟩:=R.zak he;have y0:=q01 h (q02 hn) ν (.refl _ _);rw[ev_k,rb]at y0;refine⟨y0,?_⟩;split at he
 · refine .inl ⟨rfl,?_⟩
   split at he
   · rename_i x' u hx' _
     have ex:x=x':=by rw[←ra]; exact q1l hx'
     cases he;split
     · rename_i hc
       simp only[zbf]at hc;obtain⟨⟨⟨⟨c1,c2⟩,c3⟩,c4⟩,c5⟩:=hc;have c1:=q7c.1 c1;have c2:=q2g.1 c2;have c3:=q01 h c3 ν (.refl _ _);rw[ev_k,rb]at c3;have c4:=q7c.1 c4;have c5:=q7c.1 c5;split
       · rename_i y' hy'
         have ey:y=y':=by rw[←rb]; exact q1l hy'
         intro ν' _;rw[ev_k,ex,ey]
       · have m1:min y.toNat k.bits≤u.toNat:=by omega
         have p1:(2:Int) ^ (min y.toNat k.bits)≤2 ^ u.toNat:=qfu m1
         have p0:(1:Int)≤2 ^ (min y.toNat k.bits):=by
          have:=qfu (zbl (min y.toNat k.bits));simpa using this
         have q1:x' * 2 ^ (min y.toNat k.bits)≤x' * 2 ^ u.toNat:=Int.mul_le_mul_of_nonneg_left p1 (by omega)
         have q0:x' * 1≤x' * 2 ^ (min y.toNat k.bits):=Int.mul_le_mul_of_nonneg_left p0 (by omega)
         have hk:kmin k≤0:=by cases k<;>simp[kmin]
         have hw:=q7t (k:=k) (n:=x' * 2 ^ (min y.toNat k.bits)) (by omega) (by omega)
         have e:shlI k x y=x' * 2 ^ (min y.toNat k.bits):=by simp only[shlI,ex]; exact hw
         intro ν' _;rw[e,ev_k,ev_k];exact⟨by omega,q1,fun _ _ e he=>by cases he⟩
     · exact q4l (q6p k _)
   · cases he; exact q4l (q6p k _)
 · refine .inr ⟨rfl,?_⟩
   have dv:∀ z:Int,shrI k z y=z / 2 ^ (min y.toNat k.bits):=fun z=>by
    simp only[shrI];rw[Int.fdiv_eq_ediv_of_nonneg];exact Int.pow_nonneg (by omega)
   have p0:(1:Int)≤2 ^ (min y.toNat k.bits):=by
    have:=qfu (zbl (min y.toNat k.bits));simpa using this
   split at he
   · rename_i x' y' hx' hy'
     cases he;have ex:x=x':=by rw[←ra]; exact q1l hx'
     have ey:y=y':=by rw[←rb]; exact q1l hy'
     intro ν' _;rw[ev_k,ex,ey]
   · split at he
     · rename_i hc
       cases he;have c1:=q01 h hc ν (.refl _ _);rw[ev_k,ra]at c1;intro ν' hν;rw[dv,ev_k,ha ν' hν];exact⟨Int.ediv_nonneg c1 (by omega),Int.ediv_le_self _ c1,fun _ _ e he=>by cases he⟩
     · obtain⟨_,hn,he⟩:=R.zak he
       have hn:=q02 hn;cases he;simp only[zbf]at hn;have c1:=q01 h hn.1 ν (.refl _ _);have c2:=q01 h hn.2 ν (.refl _ _);rw[ev_k,ra]at c1 c2;refine q4l ?_;rw[dv];have hk:kmin k≤0:=by cases k<;>simp[kmin]
       have hk2:0≤kmax k:=by cases k<;>simp[kmax]
       rcases Int.le_total 0 x with hx | hx
       · exact⟨Int.le_trans hk (Int.ediv_nonneg hx (by omega)),Int.le_trans (Int.ediv_le_self _ hx) c2⟩
       · constructor
         · refine Int.le_trans c1 ?_
           refine(Int.le_ediv_iff_mul_le (by omega)).2 ?_
           have:=Int.mul_le_mul_of_nonpos_left hx p0;omega
         · have:x / 2 ^ (min y.toNat k.bits)≤0:=by
            refine Int.ediv_nonpos_of_nonpos_of_neg ?_ ?_<;>omega
           omega
 · cases he
end
end Go.K
namespace Go.K
open Go Go.J
noncomputable section
variable{S:AS}{ν:Va}{hB:AH}{s:St}{P:Program}{o:Oper}{l:List AS}
def OpR(P:Program)(o:Oper)(S:AS)(ν:Va)(hB:AH)(s:St)(l:List AS):Prop:= ∀ r,JO P r o s (fun e s'=>e= .normal∧s'.n=s.n∧s'.defs=s.defs∧ ∃ S'∈l,Go S ν hB S' s')
def OpN(P:Program)(o:Oper)(S:AS)(ν:Va)(hB:AH)(s:St)(l:List AS):Prop:= ∀ r,JO P r o s (fun e s'=>(e= .normal∧s'.n=s.n∧s'.defs=s.defs∧ ∃ S'∈l,Go S ν hB S' s')∧Le s.h s'.h)
theorem OpN.r{P:Program}{o:Oper}{S:AS}{ν:Va}{hB:AH}{s:St}{l:List AS}(h:OpN P o S ν hB s l):OpR P o S ν hB s l:=fun r=>(h r).mono fun _ _ h=>h.1
def OpV(P:Program)(o:Oper)(S:AS)(ν:Va)(hB:AH)(s:St)(l:List AS):Prop:= ∀ r,JO P r o s (fun e s'=>e= .normal∧(∃ d a,o.dst=some d∧d<s.n∧s'=⟨(d,a) :: s.slots,s.h,s.n,s.defs⟩)∧ ∃ S'∈l,∃ ν',Ag S.ns ν ν'∧S.ns≤S'.ns∧γ S' ν' hB s')
theorem OpV.r(h:OpV P o S ν hB s l):OpR P o S ν hB s l:=fun r=>(h r).mono fun e s' ⟨q,⟨d,x,_,_,e1⟩,S',m,ν',a,n,g⟩=>⟨q,by rw[e1],by rw[e1],S',m,ν',hB,a,n,.refl _,g⟩
theorem q1m{v:V}{S1:AS}(h:fin o v S1= .ok l):∃ d,o.dst=some d∧d<S1.nt∧l=[S1.put d v]:=by
 unfold fin at h;split at h
 · rename_i d hd
   obtain⟨_,hn,h⟩:=R.zak h;have:=q02 hn;cases h;exact⟨d,hd,zbj this,rfl⟩
 · cases h
theorem q13{v:V}{S1:AS}{ν1:Va}{a:AV}(h:γ S ν hB s)(hf:fin o v S1= .ok l)(e:Ext S ν hB s S1 ν1)(i:Is S1 ν1 v a)(px:S1.nt=S.nt)
 (hjo:∀ d,o.dst=some d→d<s.n→ ∀ (r:Option Nat) (Q:AExit→St→Prop),Q .normal ⟨(d,a) :: s.slots,s.h,s.n,s.defs⟩→JO P r o s Q):OpV P o S ν hB s l:=by
 obtain⟨d,hd,hn,rfl⟩:=q1m hf;intro r;have hn':d<s.n:=by rw[h.n,←px]; exact hn
 exact hjo d hd hn' r _ ⟨rfl,⟨d,a,hd,hn',rfl⟩,S1.put d v,by simp,ν1,e.ag,e.ns,q60 e.g i⟩
theorem OpV.mono{l':List AS}(h:OpV P o S ν hB s l)(hs:∀ S'∈l,S'∈l'):OpV P o S ν hB s l':=fun r=>(h r).mono fun e s' ⟨q,x,S',m,g⟩=>⟨q,x,S',hs S' m,g⟩
theorem qw8{a b:Int}(h:¬ a=b):ibeq a b=false:=by
 cases hb:ibeq a b with
 | false=>rfl
 | true=>exact absurd (q1b.1 hb) h
theorem z4o{a:Int}(h:a<0):inn a=false:=by
 cases hb:inn a with
 | false=>rfl
 | true=>have:=q2g.1 hb; omega
theorem qdg(S:AS)(b:Bx):Px S (S.learn b)∧(S.learn b).ns=S.ns:=by
 unfold AS.learn;split
 · exact⟨.refl _,rfl⟩
 · exact⟨⟨rfl,rfl,rfl,rfl⟩,rfl⟩
 · exact⟨⟨rfl,rfl,rfl,rfl⟩,rfl⟩
 · split
   · exact⟨⟨rfl,rfl,rfl,rfl⟩,rfl⟩
   · split
     · exact⟨⟨rfl,rfl,rfl,rfl⟩,rfl⟩
     · exact⟨.refl _,rfl⟩
theorem qf3{b:Bx}(h:γ S ν hB s)(hb:∀ ν',Ag S.ns ν ν'→b.ev ν'.i=true):γ (S.learn b) ν hB s:=by
 unfold AS.learn;split
 · exact h
 · exact γ_cs h fun ν' hν e he=>by
    rw[zbs.1 he]; exact q2g.1 (hb ν' hν)
 · refine γ_cs h fun ν' hν e he=>?_
   have:=q1b.1 (show ibeq (Lin.ev _ ν'.i) 0=true from hb ν' hν);simp only[zbm,zc6,or_false]at he;rcases he with rfl | rfl
   · omega
   · rw[q2b,this]; omega
 · rename_i e
   have hne:∀ ν',Ag S.ns ν ν'→e.ev ν'.i≠0:=fun ν' hν h0=>by
    have:=hb ν' hν;simp only[Bx.ev,h0]at this;exact absurd this (by decide)
   split
   · rename_i hp
     exact γ_cs h fun ν' hν e' he=>by
      rw[zbs.1 he,q0f];have:=q1t h hp ν' hν;have:=hne ν' hν;omega
   · split
     · rename_i hp
       exact γ_cs h fun ν' hν e' he=>by
        rw[zbs.1 he,q0f,q2b];have h1:=q1t h hp ν' hν;rw[q2b]at h1;have:=hne ν' hν;omega
     · exact h
theorem qsl{b:Bx}{t:Bool}(h:γ S ν hB s)(hd:decB S b=some t):∀ ν',Ag S.ns ν ν'→b.ev ν'.i=t:=by
 intro ν' hν;unfold decB at hd;split at hd
 · simp only[zbe]at hd; exact hd
 · split at hd
   · rename_i hp
     simp only[zbe]at hd; subst hd;exact q2g.2 (q1t h hp ν' hν)
   · split at hd
     · rename_i hp
       simp only[zbe]at hd; subst hd;have:=q1t h hp ν' hν;rw[q0f,q2b]at this;exact z4o (by omega)
     · cases hd
 · split at hd
   · rename_i hp
     simp only[zbe]at hd; subst hd;rw[zbu]at hp;refine(qw8 (b:=0) fun h0=>?_:ibeq (Lin.ev _ ν'.i) 0=false)
     rcases hp with hp | hp
     · have:=q1t h hp ν' hν; rw[q0f,h0]at this; omega
     · have:=q1t h hp ν' hν; rw[q0f,q2b,h0]at this; omega
   · split at hd
     · rename_i hp
       simp only[zbe]at hd; subst hd;rw[zbf]at hp;have h1:=q1t h hp.1 ν' hν;have h2:=q1t h hp.2 ν' hν;rw[q2b]at h2;rename_i e' _ _ _;have hz:e'.ev ν'.i=0:=by omega
       simp only[Bx.ev,hz]; rfl
     · cases hd
 · split at hd
   · rename_i hp
     simp only[zbe]at hd; subst hd;rw[zbu]at hp;have:∀ e:Lin,(e.ev ν'.i≠0)→(Bx.ne e).ev ν'.i=true:=fun e he=>by simp only[Bx.ev,qw8 he]; rfl
     refine this _ fun h0=>?_
     rcases hp with hp | hp
     · have:=q1t h hp ν' hν; rw[q0f,h0]at this; omega
     · have:=q1t h hp ν' hν; rw[q0f,q2b,h0]at this; omega
   · split at hd
     · rename_i hp
       simp only[zbe]at hd; subst hd;rw[zbf]at hp;have h1:=q1t h hp.1 ν' hν;have h2:=q1t h hp.2 ν' hν;rw[q2b]at h2;rename_i e' _ _ _;have hz:e'.ev ν'.i=0:=by omega
       simp only[Bx.ev,hz]; rfl
     · cases hd
theorem q44{b:Bx}{t:Bool}(h:γ S ν hB s)(hb:∀ ν',Ag S.ns ν ν'→b.ev ν'.i=t):∃ S',(t,S')∈qay S b∧γ S' ν hB s∧Px S S'∧S'.ns=S.ns:=by
 unfold qay;split
 · rename_i u hu
   have:u=t:=by rw[←hb ν (.refl _ _)]; exact(qsl h hu ν (.refl _ _)).symm
   subst this;exact⟨S,by simp,h,.refl _,rfl⟩
 · cases t with
   | true=>exact⟨S.learn b,by simp,qf3 h hb,(qdg S b).1,(qdg S b).2⟩
   | false=>exact⟨S.learn b.neg,by simp,qf3 h fun ν' hν=>by rw[qx1,hb ν' hν]; rfl,(qdg S b.neg).1,(qdg S b.neg).2⟩
theorem qxk{x:Operand}{v:V}(h:γ S ν hB s)(ho:o.op= .move x∨o.op= .assign x)(he:evA S x= .ok v)(hf:fin o v S= .ok l):OpV P o S ν hB s l:=by
 obtain⟨a,e1,i1⟩:=q06 h he;refine q13 h hf (.refl h) i1 rfl fun d hd hn r Q q=>?_
 rcases ho with ho | ho
 · exact qxf ho hd hn e1 q
 · exact qjt ho hd hn e1 q
theorem qms{a b:Operand}{t:Bool}{S':AS}:∀ {L:List (Bool×AS)} {l:List AS},z1b o a b L= .ok l→(t,S')∈L→ ∃ v l1,evA S' (match t with | true=>a | false=>b)= .ok v∧fin o v S'= .ok l1∧ ∀ x∈l1,x∈l
 | [],_,_,hm=>by cases hm
 | p :: r,l,h,hm=>by
   obtain⟨v,h1,h⟩:=R.zak h;obtain⟨l1,h2,h⟩:=R.zak h;obtain⟨l2,h3,h⟩:=R.zak h;cases h;rcases zbm.1 hm with rfl | hm
   · exact⟨v,l1,h1,h2,fun x hx=>zbr.2 (.inl hx)⟩
   · obtain⟨v',l1',g1,g2,g3⟩:=qms h3 hm
     exact⟨v',l1',g1,g2,fun x hx=>zbr.2 (.inr (g3 x hx))⟩
theorem z5u{c a b:Operand}{t:Bx}(h:γ S ν hB s)(ho:o.op= .pick c a b)(hc:evB S c= .ok t)(hp:z1b o a b (qay S t)= .ok l):OpV P o S ν hB s l:=by
 obtain⟨u,e1,i1⟩:=qeh h hc;obtain⟨S',m1,g1,px,ns⟩:=q44 h i1;obtain⟨v,l1,h1,h2,h3⟩:=qms hp m1;obtain⟨x,e2,i2⟩:=q06 g1 h1;refine OpV.mono (l:=l1) ?_ h3;refine q13 h h2 ⟨.refl _ _,by omega,g1⟩ i2 px.nt fun d hd hn r Q q=>?_
 cases u with
 | true=>exact qjw ho hd hn e1 e2 q
 | false=>exact qjv ho hd hn e1 e2 q
theorem q6c{k j:IntKind}(h:Nat.beq (kid k) (kid j)=true):k=j:=by
 have:=zbg h;cases k<;>cases j<;>simp[kid]at this<;>rfl
theorem q5z{v:V}(h:γ S ν hB s)(hs:strV S v=true){ν':Va}(hν:Ag S.ns ν ν'):∃ b,cv ν' v= .str b:=by
 unfold strV at hs;split at hs
 · exact⟨_,rfl⟩
 · obtain⟨b,e,_⟩:=q0r (h.g ν' hν).fa hs
   exact⟨b,e⟩
 · cases hs
theorem qbx{v:V}(h:γ S ν hB s)(hs:slcV S v=true){ν':Va}(hν:Ag S.ns ν ν'):∃ p n k,cv ν' v= .slice p n k:=by
 unfold slcV at hs;split at hs
 · exact⟨_,_,_,rfl⟩
 · exact⟨_,_,_,rfl⟩
 · rename_i c
   split at hs
   · rename_i ty hb
     obtain⟨kn0,hkn⟩:=q2n hb;obtain⟨⟨n,_,e | ⟨i,cs,e,_⟩⟩,_⟩:=(h.g ν' hν).hp _ (q05 hkn)
     · exact⟨_,_,_,e.2⟩
     · exact⟨_,_,_,e⟩
   · split at hs
     · rename_i q hq
       obtain⟨p,n,k,e,_⟩:=q0o (x:=q.1) (ty:=q.2) h hν (h.g ν' hν).fa hq;exact⟨p,n,k,e⟩
     · cases hs
 · cases hs
theorem q3m(h:γ S ν hB s):∀ {ls:List Lf} {vs:List V},qa8 S ls vs=true→q2s ls (cvL ν vs)=true
 | [],[],_=>rfl
 | [],_ :: _,hf=>by simp[qa8]at hf
 | .int k :: _,[],hf=>by simp[qa8]at hf
 | .bool :: _,[],hf=>by simp[qa8]at hf
 | .str :: _,[],hf=>by simp[qa8]at hf
 | .int k :: ls,v :: vs,hf=>by
   cases v<;>simp only[qa8,zbn,zbf]at hf
   rename_i j e;have:=q6c hf.1;subst this;simp only[cvL,cv,q2s,qbf];rw[show beqK k k=true from q47.2 rfl];exact q3m h hf.2
 | .bool :: ls,v :: vs,hf=>by
   cases v<;>simp only[qa8,zbn]at hf
   simp only[cvL,cv,q2s,qbf];exact q3m h hf
 | .str :: ls,v :: vs,hf=>by
   simp only[qa8,zbf]at hf;obtain⟨b,hb⟩:=q5z h hf.1 (.refl _ _);simp only[cvL,q2s,hb,qbf];exact q3m h hf.2
theorem z5c(S:AS):Px S S.newB.2:=⟨rfl,rfl,rfl,rfl⟩
theorem qk8{c:Nat}(h:γ S ν hB s)(hs:slcV S (.sym c)=true){ν':Va}(hν:Ag S.ns ν ν'):∃ (p:Option (Nat×Nat)) (n:Nat) (k:Cap),ν'.a c= .slice p n k∧(n:Int)=ν'.i c∧(0<n→ ∃ q,p=some q):=by
 simp only[slcV]at hs;split at hs
 · rename_i ty hb
   obtain⟨kn0,hkn⟩:=q2n hb;obtain⟨⟨n,e1,e2 | ⟨i,cs,e2,_⟩⟩,_⟩:=(h.g ν' hν).hp _ (q05 hkn)
   · exact⟨_,0,_,e2.2,by rw[←e1,e2.1],fun h0=>absurd h0 (Nat.lt_irrefl _)⟩
   · exact⟨_,n,_,e2,e1,fun _=>⟨_,rfl⟩⟩
 · split at hs
   · rename_i q hq
     obtain⟨p,n,k,e1,e2,_,e4⟩:=q0o (x:=q.1) (ty:=q.2) h hν (h.g ν' hν).fa hq;exact⟨p,n,k,e1,e2,fun h0=>let ⟨id,off,cs,f1,_⟩:=e4 h0; ⟨_,f1⟩⟩
   · cases hs
theorem qld{T:Nat}{x y:V}{a b:AV}{p:V×AS}(h:γ S ν hB s)(he:eqA P S T x y= .ok p)(ia:Is S ν x a)(ib:Is S ν y b):
 ∃ (t:Bool) (ν1:Va),((∃ u v,a= .str u∧b= .str v∧t=(u.toList==v.toList))∨((∀ k n,a≠ .int k n)∧(∀ u,a≠ .str u)∧q76 P T a b=some t))∧Ext S ν hB s p.2 ν1∧Is p.2 ν1 p.1 (.bool t)∧Px S p.2:=by
 have a0:=ia ν (.refl _ _);have b0:=ib ν (.refl _ _)
 have fresh:∀ t:Bool,∃ ν1,Ext S ν hB s S.newB.2 ν1∧Is S.newB.2 ν1 S.newB.1 (.bool t)∧Px S S.newB.2:=fun t=>by
  obtain⟨ν1,e,i⟩:=qbq h t;exact⟨ν1,e,i,z5c S⟩
 unfold eqA at he;split at he
 · rename_i hs
   rw[zbf]at hs;obtain⟨u,e1⟩:=q5z h hs.1 (.refl _ _);obtain⟨v,e2⟩:=q5z h hs.2 (.refl _ _);cases he;obtain⟨ν1,g1,g2,g3⟩:=fresh (u.toList==v.toList);exact⟨_,ν1,.inl ⟨u,v,by rw[←a0,e1],by rw[←b0,e2],rfl⟩,g1,g2,g3⟩
 · split at he
   · rename_i la lb _
     obtain⟨ls,h1,he⟩:=R.zak he;obtain⟨_,h2,he⟩:=R.zak he;have h2:=q02 h2;rw[zbf]at h2;have h1:=q0a h1;cases he;simp only[cv]at a0 b0;subst a0; subst b0;unfold z7a at h1;split at h1
     · rename_i ls' hl
       split at h1
       · rename_i hw
         simp only[zbe]at h1; subst h1;rw[zbf]at hw;have f:FlatEq P T ls':=⟨hl,hw.1,by simpa using hw.2⟩
         obtain⟨ν1,g1,g2,g3⟩:=fresh (eqAs (cvL ν la) (cvL ν lb));exact⟨_,ν1,.inr ⟨by simp,by simp,f.equal (q3m h h2.1) (q3m h h2.2)⟩,g1,g2,g3⟩
       · cases h1
     · cases h1
   · obtain⟨_,h1,he⟩:=R.zak he
     have h1:=q02 h1;cases he;simp only[cv]at a0 b0;subst a0; subst b0;refine⟨false,ν,.inr ⟨by simp,by simp,?_⟩,.refl h,fun _ _=>by simp[cv,Bx.ev],.refl _⟩
     simp only[q76,ptrQ h1,gb]; rfl
   · obtain⟨_,h1,he⟩:=R.zak he
     have h1:=q02 h1;cases he;simp only[cv]at a0 b0;subst a0; subst b0;refine⟨true,ν,.inr ⟨by simp,by simp,?_⟩,.refl h,fun _ _=>by simp[cv,Bx.ev],.refl _⟩
     simp only[q76,ptrQ h1,gb]; rfl
   · obtain⟨e,h1,he⟩:=R.zak he
     have h1:=elemQ (q0a h1);simp only[cv]at b0;subst b0
     have eqn:∀ p n k,q76 P T (.slice p n k) (.slice none 0 (.exact 0))=some (J.isNone p):=fun p n k=>by
      simp only[q76,AV.asSl,od,J.isNone,gb,h1]; rfl
     split at he
     · cases he
       simp only[cv]at a0; subst a0;exact⟨true,ν,.inr ⟨by simp,by simp,eqn _ _ _⟩,.refl h,fun _ _=>by simp[cv,Bx.ev],.refl _⟩
     · cases he
       simp only[cv]at a0; subst a0;exact⟨false,ν,.inr ⟨by simp,by simp,eqn _ _ _⟩,.refl h,fun _ _=>by simp[cv,Bx.ev],.refl _⟩
     · rename_i c
       obtain⟨_,h2,he⟩:=R.zak he;split at he
       · rename_i hle
         cases he;obtain⟨p,n,k,e1,e2,e3⟩:=qk8 h (q02 h2) (.refl _ _);simp only[cv]at a0;rw[e1]at a0; subst a0;have:=q01 h hle ν (.refl _ _);rw[ev_k,ev_s]at this;obtain⟨q,rfl⟩:=e3 (by omega)
         exact⟨false,ν,.inr ⟨by simp,by simp,eqn _ _ _⟩,.refl h,fun _ _=>by simp[cv,Bx.ev],.refl _⟩
       · cases he
         obtain⟨p,n,k,e1⟩:=qbx h (q02 h2) (.refl _ _);rw[e1]at a0; subst a0;obtain⟨ν1,g1,g2,g3⟩:=fresh (J.isNone p);exact⟨_,ν1,.inr ⟨by simp,by simp,eqn _ _ _⟩,g1,g2,g3⟩
     · obtain⟨_,h2,he⟩:=R.zak he
       cases he;obtain⟨p,n,k,e1⟩:=qbx h (q02 h2) (.refl _ _);rw[e1]at a0; subst a0;obtain⟨ν1,g1,g2,g3⟩:=fresh (J.isNone p);exact⟨_,ν1,.inr ⟨by simp,by simp,eqn _ _ _⟩,g1,g2,g3⟩
   · cases he
where
 ptrQ {T:Nat} (h:qqy P T=true):qqx P T=true:=by
  unfold qqy at h;unfold qqx;split at h
  · rename_i e he; rw[he]; rfl
  · cases h
 elemQ {T e:Nat} (h:q3y P T=some e):J.elemE P T=some e:=by
  unfold q3y at h;split at h
  · rename_i e' he; simp only[zbe]at h; subst h; simp only[J.elemE,he,od,qd5]
  · cases h
end
end Go.K
namespace Go.K
open Go Go.J
variable{S:AS}{ν:Va}{hB:AH}{s:St}{P:Program}{o:Oper}{l:List AS}
theorem q4u{T n:Nat}(h:szT P T=some n):(P.info? T).map (·.size)=some n:=by
 unfold szT at h;split at h
 · rename_i i hi; rw[hi]; simpa using h
 · cases h
theorem q2u{T e:Nat}(h:q3y P T=some e):P.underlying T=some (.slice e):=by
 unfold q3y at h;split at h
 · rename_i e' he; simp only[zbe]at h; subst h; exact he
 · cases h
theorem qe0{T:Nat}{a:Nat×Nat}(h:arrT P T=some a):P.underlying T=some (.array a.1 a.2):=by
 unfold arrT at h;split at h
 · rename_i n e he; simp only[zbe]at h; subst h; exact he
 · cases h
theorem z4q{T:Nat}{k:IntKind}(h:intT P T=some k):P.underlying T=some (.int k):=by
 unfold intT at h;split at h
 · rename_i k' he; simp only[zbe]at h; subst h; exact he
 · cases h
theorem qag{T:Nat}(h:q41 P T=true):P.underlying T=some .string:=by
 unfold q41 at h;split at h
 · rename_i he; exact he
 · cases h
theorem qek{T i:Nat}{q:Nat×Nat}(h:qh8 P T i=some q):q1y P T i q.1 q.2:=by
 unfold qh8 at h;split at h
 · rename_i fs he
   split at h
   · rename_i f hf
     simp only[zbe]at h; subst h;exact⟨fs,f,he,hf,rfl,rfl⟩
   · cases h
 · cases h
theorem q2w{T:Nat}{z:V}(h:q8n P T=some z)(ν:Va):q26 P T (cv ν z):=by
 unfold q8n at h;split at h
 · rename_i i hi
   split at h
   · rename_i v hv; exact⟨i,v,hi,hv,q7q ν v z h⟩
   · cases h
 · cases h
theorem q4k{T n:Nat}{a:Bool}(h:aggQ P T n=some a):(a=true∧Agg P T n)∨(a=false∧n=1∧Cell P T):=by
 unfold aggQ at h;split at h
 · rename_i h1
   simp only[zbe]at h; exact .inl ⟨h.symm,h1⟩
 · split at h
   · rename_i h1
     rw[zbf]at h1;simp only[zbe]at h; exact .inr ⟨h.symm,zbg h1.1,h1.2⟩
   · cases h
theorem q43{a:Option Bool}{vs:List V}{v:V}(h:q5k a vs=some v):(a=some true∧v= .agg vs)∨(a=some false∧vs=[v]):=by
 unfold q5k at h;split at h
 · simp only[zbe]at h; exact .inl ⟨rfl,h.symm⟩
 · split at h
   · simp only[zbe]at h; subst h; exact .inr ⟨rfl,rfl⟩
   · cases h
 · cases h
theorem qbb{op:BinOp}{a b:Lin}{c:Bx}(h:cmpA op a b=some c)(f:Nat→Int):match op with
 | .eql=>c.ev f=decide (a.ev f=b.ev f)
 | .neq=>c.ev f=decide (¬ a.ev f=b.ev f)
 | .lss=>c.ev f=decide (a.ev f<b.ev f)
 | .leq=>c.ev f=decide (a.ev f≤b.ev f)
 | .gtr=>c.ev f=decide (b.ev f<a.ev f)
 | .geq=>c.ev f=decide (b.ev f≤a.ev f)
 | _=>False:=by
 have hin:∀ {n:Int} {p:Prop} [Decidable p],(0≤n↔p)→inn n=decide p:=fun {n p _} hp=>by
  cases hb:inn n with
  | true=>exact(decide_eq_true (hp.1 (q2g.1 hb))).symm
  | false=>exact(decide_eq_false fun q=>by rw[q2g.2 (hp.2 q)]at hb; cases hb).symm
 have hib:∀ {n:Int} {p:Prop} [Decidable p],(n=0↔p)→ibeq n 0=decide p:=fun {n p _} hp=>by
  cases hb:ibeq n 0 with
  | true=>exact(decide_eq_true (hp.1 (q1b.1 hb))).symm
  | false=>exact(decide_eq_false fun q=>by rw[q1b.2 (hp.2 q)]at hb; cases hb).symm
 cases op<;>simp only[cmpA,zbe,reduceCtorEq]at h<;>subst h<;>rw[z5d]
 · exact hib (by rw[q0y]; omega)
 · simp only[Bx.ev]
   rw[hib (p:=a.ev f=b.ev f) (by rw[q0y]; omega),←decide_not]
 · exact hin (by rw[q0f,q0y]; omega)
 · exact hin (by rw[q0y]; omega)
 · exact hin (by rw[q0f,q0y]; omega)
 · exact hin (by rw[q0y]; omega)
theorem z06{S1:AS}{c:Nat}{x y:V}{T:Nat}{ν':Va}{t:Bool}(h:eqA P S T x y= .ok (.sym c,S1))(_:ν'.a c= .bool t):False:=by
 unfold eqA at h;split at h
 · cases h
 · split at h
   · obtain⟨_,_,h⟩:=R.zak h
     obtain⟨_,_,h⟩:=R.zak h;cases h
   · obtain⟨_,_,h⟩:=R.zak h
     cases h
   · obtain⟨_,_,h⟩:=R.zak h
     cases h
   · obtain⟨_,_,h⟩:=R.zak h
     split at h
     · cases h
     · cases h
     · obtain⟨_,_,h⟩:=R.zak h
       split at h<;>cases h
     · obtain⟨_,_,h⟩:=R.zak h
       cases h
   · cases h
theorem z8a{op:BinOp}{T U:Nat}{x y:Operand}{vx vy:V}{p:V×AS}(h:γ S ν hB s)(ho:o.op= .binOp op T x y U)(hx:evA S x= .ok vx)(hy:evA S y= .ok vy)(hb:binA P S op T vx vy= .ok p)(hf:fin o p.1 p.2= .ok l):OpV P o S ν hB s l:=by
 obtain⟨a,e1,i1⟩:=q06 h hx;obtain⟨b,e2,i2⟩:=q06 h hy;unfold binA at hb;split at hb
 · rename_i k e
   split at hb
   · rename_i j e'
     have a0:=i1 ν (.refl _ _);have b0:=i2 ν (.refl _ _);simp only[cv]at a0 b0;subst a0; subst b0;have ha:∀ ν',Ag S.ns ν ν'→e.ev ν'.i=e.ev ν.i:=fun ν' hν=>by have:=i1 ν' hν; simpa [cv]using this
     have hb':∀ ν',Ag S.ns ν ν'→e'.ev ν'.i=e'.ev ν.i:=fun ν' hν=>by have:=i2 ν' hν; simpa [cv]using this
     cases hs:qey op
     case true=>
      simp only[hs]at hb;obtain⟨d,h1,hb⟩:=R.zak hb;cases hb;obtain⟨y0,hd⟩:=qmz h h1 ha hb';rcases hd with⟨rfl,hd⟩ | ⟨rfl,hd⟩
      · obtain⟨ν1,g1,g2⟩:=q7l (k:=k) h hd
        exact q13 h hf g1 g2 (qi7 d k).nt fun d hd hn r Q q=>z85 ho hd hn e1 e2 y0 q
      · obtain⟨ν1,g1,g2⟩:=q7l (k:=k) h hd
        exact q13 h hf g1 g2 (qi7 d k).nt fun d hd hn r Q q=>z86 ho hd hn e1 e2 y0 q
     case false=>
      simp only[hs]at hb;obtain⟨_,hk,hb2⟩:=R.zak hb;clear hb;have:=q6c (q02 hk);subst this;cases hc:cmpA op e e'
      case some c=>
       simp only[hc]at hb2;obtain rfl:=R.ok.inj hb2
       have cs:∀ ν',Ag S.ns ν ν'→c.ev ν'.i=c.ev ν.i:=fun ν' hν=>by
        have h1:=qbb hc ν'.i;have h2:=qbb hc ν.i;rw[ha ν' hν,hb' ν' hν]at h1;cases op<;>simp only at h1 h2<;>first | rw[h1,h2] | exact h1.elim
       refine q13 (a:= .bool (c.ev ν.i)) h hf (.refl h) (fun ν' hν=>by simp only[cv,cs ν' hν]) rfl fun d hd hn r Q q=>?_
       have h2:=qbb hc ν.i;cases op<;>simp only at h2
       · rw[h2]at q; exact o_eq ho hd hn e1 e2 q
       · rw[h2]at q; exact o_ne ho hd hn e1 e2 q
       · rw[h2]at q; exact o_lt ho hd hn e1 e2 q
       · rw[h2]at q; exact o_le ho hd hn e1 e2 q
       · rw[h2]at q; exact o_gt ho hd hn e1 e2 q
       · rw[h2]at q; exact o_ge ho hd hn e1 e2 q
      case none=>
       simp only[hc]at hb2;obtain⟨d,h1,hb3⟩:=R.zak hb2;obtain rfl:=R.ok.inj hb3;obtain⟨hd,hz⟩:=ql2 h h1 ha hb';obtain⟨ν1,g1,g2⟩:=q7l (k:=k) h hd;clear hd;refine q13 h hf g1 g2 (qi7 d k).nt fun d' hdd hn r Q q=>?_
       cases op with
       | add=>exact qxa ho hdd hn e1 e2 q
       | sub=>exact z32 ho hdd hn e1 e2 q
       | mul=>exact z31 ho hdd hn e1 e2 q
       | quo=>exact z81 ho hdd hn e1 e2 (hz (.inl rfl)) q
       | rem=>exact z82 ho hdd hn e1 e2 (hz (.inr rfl)) q
       | and=>exact z7s ho hdd hn e1 e2 q
       | or=>exact o_or ho hdd hn e1 e2 q
       | xor=>exact z87 ho hdd hn e1 e2 q
       | andNot=>exact qrh ho hdd hn e1 e2 q
       | _=>cases h1
   · cases hb
 · split at hb
   · obtain⟨t,ν1,hv,g1,g2,g3⟩:=qld h hb i1 i2
     refine q13 h hf g1 g2 g3.nt fun d hd hn r Q q=>?_
     rcases hv with⟨u,v,rfl,rfl,rfl⟩ | ⟨n1,n2,he⟩
     · exact z84 ho hd hn e1 e2 q
     · exact z7v ho hd hn e1 e2 (q82 he .eql (.inl rfl) x y ⟨n1,n2⟩) q
   · obtain⟨p',hb',hb⟩:=R.zak hb
     cases hb;obtain⟨t,ν1,hv,g1,g2,g3⟩:=qld h hb' i1 i2;refine q13 (a:= .bool (!t)) h hf g1 (fun ν' hν=>?_) g3.nt fun d hd hn r Q q=>?_
     · have:=g2 ν' hν
       obtain⟨v,S1⟩:=p';cases v<;>simp only[cv,reduceCtorEq,AV.bool.injEq]at this
       · simp only[notV,cv,qx1,this]
       ·
        exact(z06 hb' this).elim
       · split at this<;>cases this
     · rcases hv with⟨u,v,rfl,rfl,rfl⟩ | ⟨n1,n2,he⟩
       · exact z5l ho hd hn e1 e2 q
       · exact z7z ho hd hn e1 e2 (q82 he .neq (.inr rfl) x y ⟨n1,n2⟩) q
   · cases hb
theorem qlz{k:IntKind}{e:Lin}{n:Int}(h:γ S ν hB s)(he:∀ ν',Ag S.ns ν ν'→e.ev ν'.i=n):∃ ν1,Ext S ν hB s (S.lin k e).2 ν1∧Is (S.lin k e).2 ν1 (S.lin k e).1 (.int k (q36 k n))∧(S.lin k e).2.nt=S.nt:=by
 obtain⟨ν1,g1,g2⟩:=q7l (k:=k) h (qf7 (k:=k) h he);exact⟨ν1,g1,g2,(qi7 _ k).nt⟩
theorem z8d{T:Nat}{x:Operand}{b:Bx}(h:γ S ν hB s)(ho:o.op= .unOp .not T x)(hx:evB S x= .ok b)(hf:fin o (.bool b.neg) S= .ok l):OpV P o S ν hB s l:=by
 obtain⟨t,e1,i1⟩:=qeh h hx;exact q13 h hf (.refl h) (fun ν' hν=>by simp only[cv,qx1,i1 ν' hν]) rfl fun d hd hn r Q q=>z80 ho hd hn e1 q
theorem z8c{T:Nat}{x:Operand}{p:IntKind×Lin}(h:γ S ν hB s)(ho:o.op= .unOp .neg T x)(hx:evI S x= .ok p)(hf:fin o (S.lin p.1 (p.2.sc (-1))).1 (S.lin p.1 (p.2.sc (-1))).2= .ok l):OpV P o S ν hB s l:=by
 obtain⟨n,e1,i1⟩:=q3c h hx;obtain⟨ν1,g1,g2,g3⟩:=qlz (k:=p.1) (e:=p.2.sc (-1)) (n:=0 - n) h fun ν' hν=>(by rw[q2b,i1 ν' hν]; omega:(p.2.sc (-1)).ev ν'.i=0 - n)
 exact q13 h hf g1 g2 g3 fun d hd hn r Q q=>z7y ho hd hn e1 q
theorem qtd{T U:Nat}{x:Operand}{p:IntKind×Lin}{D:TypeDesc}{k:IntKind}(h:γ S ν hB s)(ho:o.op= .convert T U x)(hx:evI S x= .ok p)(hT:P.underlying T=some D)(hU:intT P U=some k)
 (hf:fin o (S.lin k p.2).1 (S.lin k p.2).2= .ok l):OpV P o S ν hB s l:=by
 obtain⟨n,e1,i1⟩:=q3c h hx;obtain⟨ν1,g1,g2,g3⟩:=qlz (k:=k) h i1;exact q13 h hf g1 g2 g3 fun d hd hn r Q q=>z2z ho hd hn e1 hT (z4q hU) q
theorem qbr{ν:Va}{l:List V}{i:Nat}{v:V}(h:l[i]?=some v):(cvL ν l)[i]?=some (cv ν v):=by rw[q73]; simp[h]
theorem qte{x:Operand}{i:Nat}{vs:List V}{v:V}(h:γ S ν hB s)(ho:o.op= .extract x i)(hx:evA S x= .ok (.tup vs))(hv:vs[i]?=some v)(hf:fin o v S= .ok l):OpV P o S ν hB s l:=by
 obtain⟨a,e1,i1⟩:=q06 h hx;have a0:=i1 ν (.refl _ _);simp only[cv]at a0; subst a0;refine q13 (a:=cv ν v) h hf (.refl h) (fun ν' hν=>?_) rfl fun d hd hn r Q q=>qmg ho hd hn e1 (qbr hv) q
 have:=i1 ν' hν;simp only[cv,AV.tuple.injEq]at this;have h1:=qbr (ν:=ν') hv;rw[this,qbr hv]at h1;exact(zbz h1).symm
theorem qp3{f:Nat}{a b:Array Operand}{va vb:List V}(h:γ S ν hB s)(ho:o.op= .makeFunc (.func f) a b)(ha:evAL S a.toList= .ok va)(hb:evAL S b.toList= .ok vb)(hf:fin o (.fn f va vb) S= .ok l):OpV P o S ν hB s l:=by
 obtain⟨xa,e1,i1⟩:=q84 h ha;obtain⟨xb,e2,i2⟩:=q84 h hb;exact q13 h hf (.refl h) (fun ν' hν=>by simp only[cv,i1 ν' hν,i2 ν' hν]) rfl fun d hd hn r Q q=>qbt ho hd hn e1 e2 q
theorem qfn{x:Operand}{v:V}(h:γ S ν hB s)(ho:o.op= .nilCheck x)(hx:evA S x= .ok v)(hv:(∃ c p,v= .ptr c p)∨(∃ f a b,v= .fn f a b))(hf:fin o v S= .ok l):OpV P o S ν hB s l:=by
 obtain⟨a,e1,i1⟩:=q06 h hx;have a0:=i1 ν (.refl _ _);rcases hv with⟨c,p,rfl⟩ | ⟨f,a',b',rfl⟩
 · simp only[cv]at a0
   exact q13 h hf (.refl h) i1 rfl fun d hd hn r Q q=>by subst a0; exact q3v ho hd hn e1 q
 · simp only[cv]at a0
   exact q13 h hf (.refl h) i1 rfl fun d hd hn r Q q=>by subst a0; exact qam ho hd hn e1 q
end Go.K
namespace Go.K
open Go Go.J
noncomputable section
variable{S:AS}{ν:Va}{hB:AH}{s:St}{P:Program}{o:Oper}{l:List AS}
theorem qhw{v:V}(h:γ S ν hB s)(hc:oneC S v=true){ν':Va}(hν:Ag S.ns ν ν'):(cv ν' v).cells=[cv ν' v]∧(cv ν' v).one=true:=by
 cases v with
 | sym c=>
   simp only[oneC,zbu]at hc;rcases hc with hc | hc
   · obtain⟨b,e⟩:=q5z h hc hν
     rw[e]; exact⟨rfl,rfl⟩
   · obtain⟨p,n,k,e⟩:=qbx h hc hν
     rw[e]; exact⟨rfl,rfl⟩
 | agg l=>cases hc
 | tup l=>cases hc
 | elp c p=>simp only[cv]; split<;>exact⟨rfl,rfl⟩
 | _=>exact⟨rfl,rfl⟩
theorem qhx(h:γ S ν hB s){ν':Va}(hν:Ag S.ns ν ν'):∀ {vs:List V},oneL S vs=true→(cvL ν' vs).all AV.one=true
 | [],_=>rfl
 | v :: r,hc=>by
   simp only[oneL,zbf]at hc;simp only[cvL,List.all_cons,(qhw h hc.1 hν).2,qhx h hν hc.2,Bool.and_self]
theorem q30{v:V}{vs:List V}(h:γ S ν hB s)(hc:q70 S v= .ok vs){ν':Va}(hν:Ag S.ns ν ν'):(cv ν' v).cells=cvL ν' vs∧(cvL ν' vs).all AV.one=true:=by
 unfold q70 at hc;split at hc
 · obtain⟨_,h1,hc⟩:=R.zak hc
   cases hc;exact⟨by simp[cv,AV.cells],qhx h hν (q02 h1)⟩
 · obtain⟨_,h1,hc⟩:=R.zak hc
   cases hc;obtain⟨e1,e2⟩:=qhw h (q02 h1) hν;exact⟨by rw[e1]; simp[cvL],by simp[cvL,e2]⟩
theorem q1x(ν:Va)(l:List V):(cvL ν l).length=l.length:=by simp[q73]
theorem qd6(ν:Va)(l:List V)(n:Nat):cvL ν (l.take n)=(cvL ν l).take n:=by simp[q73,List.map_take]
theorem qiz(ν:Va)(l:List V)(n:Nat):cvL ν (l.drop n)=(cvL ν l).drop n:=by simp[q73,List.map_drop]
theorem q32(h:γ S ν hB s){ν':Va}(hν:Ag S.ns ν ν'){ty0:List AT}:∀ {vs:List V} {ty:List AT} {j:Nat},ty=ty0.drop j→j≤ty0.length→q4m S ty0 ty vs=true→ ∀ q w,(cvL ν' vs)[q]?=some w→okN ν' hB ty0 ((j+q) % ty0.length) w
 | [],_,_,_,_,_,q,w,hw=>by simp[cvL]at hw
 | v :: vs,ty,j,hj,hl,hc,q,w,hw=>by
   have step:∀ {t:AT} {ts:List AT} {i:Nat},t :: ts=ty0.drop i→i<ty0.length→(conf S v t&&q4m S ty0 ts vs)=true→ ∀ q w,(cvL ν' (v :: vs))[q]?=some w→okN ν' hB ty0 ((i+q) % ty0.length) w:=by
    intro t ts i hi hil hc q w hw;rw[zbf]at hc;have hts:ts=ty0.drop (i+1):=by rw[←List.tail_drop,←hi]; rfl
    cases q with
    | zero=>
      simp only[cvL,List.getElem?_cons_zero,zbe]at hw;subst hw;rw[Nat.add_zero,Nat.mod_eq_of_lt hil];have hn:nth ty0 i=some t:=nth_drop hi;exact(q9g hn).2 (q80 h hc.1 hν)
    | succ q=>
      simp only[cvL,List.getElem?_cons_succ]at hw;have:=q32 h hν hts (by omega) hc.2 q w hw
      rwa[show i+(q+1)=i+1+q by omega]
   cases ty with
   | cons t ts=>
     have hil:j<ty0.length:=by
      rcases Nat.lt_or_ge j ty0.length with h' | h'
      · exact h'
      · rw[List.drop_eq_nil_of_le h']at hj; cases hj
     exact step hj hil (by simpa only[q4m]using hc) q w hw
   | nil=>
     simp only[q4m]at hc
     have hjl:j=ty0.length:=by
      have:(ty0.drop j).length=0:=by rw[←hj]; rfl
      rw[zcs]at this; omega
     cases ty0 with
     | nil=>cases hc
     | cons t ts=>
       have:=step (i:=0) rfl (by simp) hc q w hw
       rw[hjl,Nat.add_mod_left];simpa using this
where nth_drop {t:AT} {ts:List AT}:∀ {ty0:List AT} {i:Nat},t :: ts=ty0.drop i→nth ty0 i=some t
 | [],_,h=>by simp at h
 | a :: r,0,h=>by simp at h; simp[nth,h.1]
 | a :: r,i+1,h=>by simp only[List.drop_succ_cons]at h; simp only[nth]; exact nth_drop h
theorem qbo(h:γ S ν hB s){ν':Va}(hν:Ag S.ns ν ν'):∀ {g:List Sg} {vs:List V} {g':List Sg},mkSg S g vs=some g'→SgOk ν' hB g' (cvL ν' vs)
 | [],[],_,hm=>by simp only[mkSg,zbe]at hm; subst hm; rfl
 | [],_ :: _,_,hm=>by simp[mkSg]at hm
 | .one _ :: r,[],_,hm=>by simp[mkSg]at hm
 | .one _ :: r,w :: vs,g',hm=>by
   simp only[mkSg]at hm;split at hm
   · rename_i l hl
     simp only[zbe]at hm; subst hm;exact⟨_,by simp only[cvL],qbo h hν hl⟩
   · cases hm
 | .arr n ty :: r,vs,g',hm=>by
   simp only[mkSg]at hm;split at hm
   · rename_i c hc
     split at hm
     · rename_i hb
       simp only[zbf]at hb;split at hm
       · rename_i l hl
         simp only[zbe]at hm; subst hm;have c0:=q2g.1 hb.1.1;have hle:=zbj hb.1.2;have ih:=qbo h hν hl;refine⟨by rw[q1l hc]; exact c0,(cvL ν' vs).take (c.toNat * ty.length),_,(List.take_append_drop _ _).symm,?_,fun q w hw=>?_,by rwa[qiz]at ih⟩
         · rw[zcc,q1x,q1l hc]; omega
         · have:=q32 h hν (j:=0) rfl (zbl _) hb.2 q w (by rw[qd6]; exact hw)
           simpa using this
       · cases hm
     · cases hm
   · cases hm
theorem qcl{T:Nat}{vs:List V}{p:V×AS}{h':AH}{i:Nat}{as:List AV}(h:γ S ν hB s)(he:qm7 P S T vs= .ok p)(ha:∀ ν',Ag S.ns ν ν'→cvL ν' vs=as)(hn:New s.h i (.own as) h'):
 Ag S.ns ν (ν.set S.ns 0 i .nilFunc)∧S.ns≤p.2.ns∧p.2.nt=S.nt∧γ p.2 (ν.set S.ns 0 i .nilFunc) hB ⟨s.slots,h',s.n,s.defs⟩∧Is p.2 (ν.set S.ns 0 i .nilFunc) p.1 (.ptr (some (i,0))):=by
 obtain⟨q,h1,he⟩:=R.zak he;obtain⟨g,h2,he⟩:=R.zak he;cases he;refine⟨q1o _ _ _ _ _,zcb _,rfl,qnp h hn (fun ν' hν hi=>?_) (fun t kn=>by simp) 0 .nilFunc,fun ν' hν=>?_⟩
 · refine⟨as,by rw[hi]; exact hn.get,?_,fun p hp=>by cases hp⟩
   have:=qbo h hν (q0a h2);rw[ha ν' hν]at this;exact this
 · have:=(hν S.ns (zc0 _)).2.1
   simp only[Va.set,if_true]at this;simp only[cv,this,ev_k]; rfl
theorem qnb{v:Value}{c:Nat}(h:toV v=some (.sym c)):False:=by
 cases v with
 | pointer a=>cases a<;>simp[toV]at h
 | slice a n k=>cases a<;>cases n<;>cases k<;>simp[toV]at h
 | map a=>cases a<;>simp[toV]at h
 | agg l=>obtain⟨l⟩:=l; simp only[toV]at h; split at h<;>cases h
 | _=>simp[toV]at h
theorem z13{T:Nat}{z:V}{p:V×AS}(h:γ S ν hB s)(ho:o.op= .alloc T)(hz:q8n P T=some z)(he:qm7 P S T z.cells= .ok p)(hf:fin o p.1 p.2= .ok l):OpN P o S ν hB s l:=by
 obtain⟨d,hd,hn,rfl⟩:=q1m hf;obtain⟨sl,h₀,nt,ds⟩:=s;intro r
 have hnt:p.2.nt=S.nt:=by
  obtain⟨q,_,he⟩:=R.zak he;obtain⟨g,_,he⟩:=R.zak he;cases he; rfl
 have zc:∀ ν':Va,cvL ν' z.cells=(cv ν z).cells:=fun ν'=>by
  have e:cv ν' z=cv ν z:=by
   obtain⟨i1,v1,a1,b1,c1⟩:=q2w hz ν';obtain⟨i2,v2,a2,b2,c2⟩:=q2w hz ν;rw[a1]at a2; cases a2; rw[b1]at b2; cases b2; rw[c1]at c2; exact zbz c2
  rw[←e];cases z with
  | agg l=>simp[V.cells,cv,AV.cells]
  | sym c=>
    exfalso;unfold q8n at hz;split at hz
    · split at hz
      · exact qnb hz
      · cases hz
    · cases hz
  | elp c p=>simp only[V.cells,cvL,cv]; split<;>rfl
  | _=>simp[V.cells,cv,cvL,AV.cells]
 refine z6g (q2w hz ν) rfl ho hd (by have:=h.n; simp only at this; rw[this,←hnt]; exact hn) fun i h' hw=>?_
 obtain⟨g1,g2,g3,g4,g5⟩:=qcl h he (fun ν' _=>zc ν') hw
 exact⟨⟨rfl,rfl,rfl,p.2.put d p.1,by simp,_,hB,g1,g2,.refl _,q60 g4 g5⟩,hw.le⟩
theorem z8b{T:Nat}{x:Operand}{v:V}{vs:List V}{p:V×AS}(h:γ S ν hB s)(ho:o.op= .box T x)(hx:evA S x= .ok v)(hc:q70 S v= .ok vs)(he:qm7 P S T vs= .ok p)(hf:fin o p.1 p.2= .ok l):OpN P o S ν hB s l:=by
 obtain⟨d,hd,hn,rfl⟩:=q1m hf;obtain⟨a,e1,i1⟩:=q06 h hx;obtain⟨sl,h₀,nt,ds⟩:=s;intro r
 have hnt:p.2.nt=S.nt:=by
  obtain⟨q,_,he⟩:=R.zak he;obtain⟨g,_,he⟩:=R.zak he;cases he; rfl
 refine z6h ho hd (by have:=h.n; simp only at this; rw[this,←hnt]; exact hn) e1 rfl fun i h' hw=>?_
 obtain⟨g1,g2,g3,g4,g5⟩:=qcl h he (fun ν' hν=>by rw[←(q30 h hc hν).1,i1 ν' hν]) hw
 exact⟨⟨rfl,rfl,rfl,p.2.put d p.1,by simp,_,hB,g1,g2,.refl _,q60 g4 g5⟩,hw.le⟩
theorem q5n{c:Nat}{p:Lin}(h:γ S ν hB s)(hc:chk S c p=true):c<S.ns∧ ∀ ν',Ag S.ns ν ν'→0≤p.ev ν'.i:=by
 simp only[chk,zbf]at hc;refine⟨zbj hc.1,fun ν' hν=>?_⟩
 have:=q01 h hc.2 ν' hν;rwa[ev_k]at this
theorem qmt{c:Nat}{p:Lin}{a:AV}(h:γ S ν hB s)(hc:chk S c p=true)(i:Is S ν (.ptr c p) a):a= .ptr (some (ν.n c,(p.ev ν.i).toNat))∧(∀ ν',Ag S.ns ν ν'→p.ev ν'.i=p.ev ν.i)∧0≤p.ev ν.i:=by
 obtain⟨_,h0⟩:=q5n h hc;have a0:=i ν (.refl _ _);simp only[cv]at a0;refine⟨a0.symm,fun ν' hν=>?_,h0 ν (.refl _ _)⟩
 have:=i ν' hν;simp only[cv]at this;rw[←a0]at this;simp only[AV.ptr.injEq,zbe,zbt]at this;have h1:=h0 ν' hν;have h2:=h0 ν (.refl _ _);omega
def que(P:Program)(T:Nat)(h:AH)(a x:AV):Prop:= ∃ id off cs n,a= .ptr (some (id,off))∧h.cells id=some cs∧
 ((n=1∧Cell P T∧cs[off]?=some x)∨(Agg P T n∧off+n≤cs.length∧ ∃ l,(cs.drop off).take n=l∧x= .agg l))
theorem que.jo{T:Nat}{a x:AV}{y:Operand}{d:Nat}{r:Option Nat}{Q:AExit→St→Prop}(hl:que P T s.h a x)(ho:o.op= .load T y)(hd:o.dst=some d)(hn:d<s.n)(hy:ev s.slots y=some a)(q:Q .normal ⟨(d,x) :: s.slots,s.h,s.n,s.defs⟩):JO P r o s Q:=by
 obtain⟨sl,h₀,nt,ds⟩:=s;obtain⟨id,off,cs,n,rfl,hc,⟨rfl,hT,hx⟩ | ⟨hT,hle,l,hl,rfl⟩⟩:=hl
 · exact q7s hT ho hd hn hy hc hx q
 · exact qpg hT ho hd hn hy hc hle hl q
theorem qkc{cs as:List AV}{off n:Nat}(h1:as.length=n)(h2:∀ i,i<n→cs[off+i]?=as[i]?)(hn:n=0→off≤cs.length):off+n≤cs.length∧(cs.drop off).take n=as:=by
 have hle:off+n≤cs.length:=by
  rcases zc5 n with hz | hz
  · subst hz; simpa using hn rfl
  · have h3:=h2 (n - 1) (by omega)
    have h4:n - 1<as.length:=by omega
    rw[zcg h4]at h3;have:=(zci.1 h3).1;omega
 refine⟨hle,List.ext_getElem? fun i=>?_⟩
 rw[zcp];split
 · rename_i hi
   rw[zcq]; exact h2 i hi
 · rename_i hi
   rw[List.getElem?_eq_none (by omega)]
theorem z0o{T n:Nat}{vs:List V}{v:V}{as:List AV}{h:AH}{id off:Nat}{cs:List AV}(hv:q5k (aggQ P T n) vs=some v)(hc:h.cells id=some cs)(h1:as.length=n)(h2:∀ i,i<n→cs[off+i]?=as[i]?)(hn:n=0→off≤cs.length)
 {ν:Va}(hvs:cvL ν vs=as):que P T h (.ptr (some (id,off))) (cv ν v):=by
 rcases q43 hv with⟨ha,rfl⟩ | ⟨ha,rfl⟩
 · rcases q4k ha with⟨_,hA⟩ | ⟨h0,_⟩
   · obtain⟨t1,t2⟩:=qkc h1 h2 hn
     exact⟨id,off,cs,n,rfl,hc,.inr ⟨hA,t1,as,t2,by simp only[cv,hvs]⟩⟩
   · cases h0
 · rcases q4k ha with⟨h0,_⟩ | ⟨_,rfl,hC⟩
   · cases h0
   · refine⟨id,off,cs,1,rfl,hc,.inl ⟨rfl,hC,?_⟩⟩
     have:=h2 0 (by omega)
     rw[←hvs]at this;simpa [cvL]using this
end
end Go.K
namespace Go.K
open Go Go.J
noncomputable section
variable{S:AS}{ν:Va}{hB:AH}{s:St}{P:Program}{o:Oper}{l:List AS}
def qnr(S:AS)(ν:Va)(hB:AH)(s:St)(a:AV)(n:Nat)(p:List V×AS):Prop:=
 ∃ as ν1 id off cs,a= .ptr (some (id,off))∧s.h.cells id=some cs∧as.length=n∧(∀ i,i<n→cs[off+i]?=as[i]?)∧Ext S ν hB s p.2 ν1∧(∀ ν',Ag p.2.ns ν1 ν'→cvL ν' p.1=as)∧p.2.nt=S.nt
theorem ql9{c:Nat}{q:Lin}{n:Nat}{p:List V×AS}{a:AV}(h:γ S ν hB s)(he:z2i S c q n= .ok p)(i:Is S ν (.ptr c q) a):qnr S ν hB s a n p:=by
 obtain⟨_,h5,h3⟩:=R.zak he;have h5:=q02 h5;obtain⟨rfl,pc,p0⟩:=qmt h h5 i;have hc:=(q5n h h5).1;split at h3
 · rename_i g kn hg
   obtain⟨q',h6,h3⟩:=R.zak h3;obtain⟨vs,kn',S1⟩:=q';cases h3;have hm:=q05 hg;obtain⟨cs,c1,c2,c3⟩:=h.self.hp _ hm
   have cc:∀ ν',Ag S.ns ν ν'→SgOk ν' hB g cs∧KnOk ν' cs kn:=fun ν' hν=>by
    obtain⟨cs',d1,d2,d3⟩:=(h.g ν' hν).hp _ hm;rw[(hν c hc).2.1,c1]at d1;cases d1;exact⟨d2,d3⟩
   obtain⟨as,ν1,g1,g2,g3,g4,g5,g6⟩:=q6d h h6 pc p0 (fun ν' hν=>(cc ν' hν).1) (fun ν' hν=>(cc ν' hν).2)
   have hgl:getL S1.hp c=some (.own g kn):=by rw[g6.hp]; exact hg
   have hnn:∀ ν',Ag S1.ns ν1 ν'→ν'.n c=ν.n c:=fun ν' hν=>((g3.ag.trans hν g3.ns) c hc).2.1
   have hγ:γ {S1 with hp:=setL S1.hp c (.own g kn')} ν1 hB s:=by
    have:=q6s (k':= .own g kn') (i:=ν.n c) g3.g hgl (fun ν' hν=>⟨by simp only[nameOf,hnn ν' hν],by simp only[nameOf,hnn ν' hν]⟩) (But.same s.h _) (fun ν' hν=>⟨cs,by rw[hnn ν' hν]; exact c1,(cc ν' (g3.ag.trans hν g3.ns)).1,g5 ν' hν⟩)
    exact this
   exact⟨as,ν1,ν.n c,_,cs,rfl,q71 c1,g2,fun i hi=>g1 i hi,⟨g3.ag,g3.ns,hγ⟩,g4,g6.nt⟩
 · cases h3
theorem qo0{c:Nat}{q:Lin}(h:γ S ν hB s)(hc:qgk S c q=true):c<S.ns∧(∃ id off n k,ν.a c= .slice (some (id,off)) n k)∧ ∀ ν',Ag S.ns ν ν'→0≤q.ev ν'.i:=by
 simp only[qgk,zbf]at hc;obtain⟨h1,h2⟩:=hc;obtain⟨c0,q0⟩:=q5n h h1;refine⟨c0,?_,q0⟩
 have inb:∀ {z:Nat} {n:Nat},inB S q (.s c) z=true→(n:Int)=ν.i c→0<n:=fun {z n} hb hn=>by
  simp only[inB,zbf]at hb;have h1:=q01 h hb.1 ν (.refl _ _);have h2:=q01 h hb.2 ν (.refl _ _);rw[q0f,q2b,ev_s,←hn]at h2;rw[ev_k]at h1;rcases zc5 n with hz | hz
  · subst hz; simp at h2; omega
  · exact hz
 split at h2
 · rename_i ty hb
   obtain⟨kn0,hkn⟩:=q2n hb;obtain⟨⟨n,e1,e2 | ⟨i,cs,e2,_⟩⟩,_⟩:=h.self.hp _ (q05 hkn)
   · have:=inb h2 e1; omega
   · exact⟨_,_,_,_,e2⟩
 · rw[zbu]at h2
   rcases h2 with h2 | h2
   · obtain⟨v,hv⟩:=zcj.1 h2
     obtain⟨_,id,off,n,k,cs,e,_⟩:=q0p h.self.fa hv;exact⟨id,off,n,k,e⟩
   · split at h2
     · rename_i x hx
       obtain⟨p,n,k,e1,e2,_,e4⟩:=q0o (x:=x.1) (ty:=x.2) h (.refl _ _) h.self.fa hx;obtain⟨id,off,cs,f1,_⟩:=e4 (inb h2 e2);exact⟨id,off,n,k,by rw[e1,f1]⟩
     · cases h2
theorem qa2{c:Nat}{q:Lin}{a:AV}(h:γ S ν hB s)(hc:qgk S c q=true)(i:Is S ν (.elp c q) a):
 ∃ id off n k,ν.a c= .slice (some (id,off)) n k∧a= .ptr (some (id,off+(q.ev ν.i).toNat))∧(∀ ν',Ag S.ns ν ν'→q.ev ν'.i=q.ev ν.i)∧0≤q.ev ν.i∧c<S.ns:=by
 obtain⟨c0,⟨id,off,n,k,e⟩,q0⟩:=qo0 h hc;have a0:=i ν (.refl _ _);simp only[cv,e]at a0;refine⟨id,off,n,k,e,a0.symm,fun ν' hν=>?_,q0 ν (.refl _ _),c0⟩
 have a1:=i ν' hν;simp only[cv,(hν c c0).2.2.1,e]at a1;rw[←a0]at a1;simp only[AV.ptr.injEq,zbe,zbt]at a1;have:=q0 ν' hν;have:=q0 ν (.refl _ _);omega
theorem ql8{c:Nat}{q:Lin}{n:Nat}{p:List V×AS}{a:AV}(h:γ S ν hB s)(hn:0<n)(he:z2h S c q n= .ok p)(i:Is S ν (.elp c q) a):qnr S ν hB s a n p:=by
 obtain⟨_,h5,h3⟩:=R.zak he;obtain⟨id,off,m,k,e,rfl,qc,q0,hc⟩:=qa2 h (q02 h5) i;split at h3
 · rename_i ty kn hg
   obtain⟨⟨vs,kn',S1⟩,h6,h3⟩:=R.zak h3;cases h3;have hm:=q05 hg
   have key:∃ cs,s.h.get id=some (.grow ty.length cs)∧off=0∧ ∀ ν',Ag S.ns ν ν'→SgOk ν' hB [.arr (.s c) ty] cs∧KnOk ν' cs kn:=by
    obtain⟨⟨n0,x1,x2⟩,_⟩:=h.self.hp _ hm;rcases x2 with⟨_,x2⟩ | ⟨i,cs,x2,x3,_⟩
    · rw[e]at x2; cases x2
    · rw[e]at x2
      cases x2;refine⟨cs,x3,rfl,fun ν' hν=>?_⟩
      have ea:ν'.a c= .slice (some (id,0)) m (.grow 0):=by rw[(hν c hc).2.2.1]; exact e
      obtain⟨⟨n1,y1,y2⟩,y3⟩:=(h.g ν' hν).hp _ hm;rcases y2 with⟨_,y2⟩ | ⟨i',cs',y2,y4,y5,y6⟩
      · rw[ea]at y2; cases y2
      · rw[ea]at y2
        cases y2;rw[x3]at y4; cases y4;refine⟨⟨by rw[ev_s,←y1]; omega,cs,[],by rw[zcr],by rw[ev_s,←y1,zcf]; exact y5,y6,rfl⟩,fun p hp=>?_⟩
        obtain⟨z0,i2,n2,cs2,z1,z2,z3⟩:=y3 p hp;rw[ea]at z1;cases z1;rw[x3]at z2; cases z2;exact⟨z0,z3⟩
   obtain⟨cs,x3,rfl,cc⟩:=key;obtain⟨as,ν1,g1,g2,g3,g4,g5,g6⟩:=q6d h h6 qc q0 (fun ν' hν=>(cc ν' hν).1) (fun ν' hν=>(cc ν' hν).2)
   have hgl:getL S1.hp c=some (.bld ty kn):=by rw[g6.hp]; exact hg
   have nm:∀ ν',Ag S.ns ν ν'→ν'.a c= .slice (some (id,0)) m k:=fun ν' hν=>by rw[(hν c hc).2.2.1]; exact e
   have hγ:γ {S1 with hp:=setL S1.hp c (.bld ty kn')} ν1 hB s:=
    q6s (k':= .bld ty kn') (i:=id) g3.g hgl (fun ν' hν=>by have:=nm ν' (g3.ag.trans hν g3.ns); simp only[nameOf,this,and_self]) (But.same s.h _) (fun ν' hν=>by
     have hν':=g3.ag.trans hν g3.ns;obtain⟨y0,_⟩:=(h.g ν' hν').hp _ hm;refine⟨y0,fun p hp=>?_⟩
     obtain⟨z0,z1⟩:=g5 ν' hν p hp;obtain⟨n1,y1,y2⟩:=y0;rcases y2 with⟨_,y2⟩ | ⟨i',cs',y2,y4,_⟩
     · rw[nm ν' hν']at y2; cases y2
     · rw[nm ν' hν']at y2
       cases y2;exact⟨z0,id,m,cs,nm ν' hν',x3,z1⟩)
   exact⟨as,ν1,id,_,cs,rfl,q7y x3,g2,fun i hi=>by rw[zbv]; exact g1 i hi,⟨g3.ag,g3.ns,hγ⟩,g4,g6.nt⟩
 obtain⟨vs,S1⟩:=p;obtain⟨as,ν1,g1,g2,g3,g4,g5⟩:=qf2 h h3 hc qc q0
 have at_:∀ i:Nat,i<n→ ∃ x cs,as[i]?=some x∧s.h.cells id=some cs∧cs[off+(q.ev ν.i).toNat+i]?=some x:=fun i hi=>by
  obtain⟨x,x1,id',off',n',k',cs,f1,f2,f3⟩:=g1 i hi;rw[e]at f1;simp only[AV.slice.injEq,zbe,zbt]at f1;obtain⟨⟨rfl,rfl⟩,_⟩:=f1;refine⟨x,cs,x1,f2,?_⟩;rw[←f3]; congr 1; omega
 obtain⟨_,cs,_,f2,_⟩:=at_ 0 hn;refine⟨as,ν1,id,_,cs,rfl,f2,g2,fun i hi=>?_,g3,g4,g5.nt⟩
 obtain⟨x,cs',x1,x2,x3⟩:=at_ i hi;rw[f2]at x2; cases x2;rw[x1,x3]
theorem qf8{T:Nat}{v:V}{p:V×AS}{a:AV}(h:γ S ν hB s)(he:z0m P S T v= .ok p)(i:Is S ν v a):
 ∃ x ν1,que P T s.h a x∧Ext S ν hB s p.2 ν1∧Is p.2 ν1 p.1 x∧p.2.nt=S.nt:=by
 obtain⟨n,h1,he⟩:=R.zak he;obtain⟨_,h2,he⟩:=R.zak he;have n0:0<n:=zbj (q02 h2);obtain⟨q,h3,he⟩:=R.zak he;obtain⟨w,h4,he⟩:=R.zak he;cases he;have h4:=q0a h4
 have hq:qnr S ν hB s a n q:=by
  cases v with
  | ptr c p=>exact ql9 h h3 i
  | elp c p=>exact ql8 h n0 h3 i
  | _=>cases h3
 obtain⟨as,ν1,id,off,cs,rfl,c1,g2,g1,g3,g4,g5⟩:=hq;have hvs:=g4 ν1 (.refl _ _);refine⟨cv ν1 w,ν1,z0o h4 c1 g2 g1 (fun hz=>by omega) hvs,g3,fun ν' hν=>?_,g5⟩
 rcases q43 h4 with⟨_,rfl⟩ | ⟨_,hvw⟩
 · simp only[cv,g4 ν' hν,hvs]
 · have e1:=g4 ν' hν
   have e2:=hvs;rw[hvw]at e1 e2;rw[←e2]at e1;simpa [cvL]using e1
theorem z5s{T:Nat}{x:Operand}{v:V}{p:V×AS}(h:γ S ν hB s)(ho:o.op= .load T x)(hx:evA S x= .ok v)(he:z0m P S T v= .ok p)(hf:fin o p.1 p.2= .ok l):OpV P o S ν hB s l:=by
 obtain⟨a,e1,i1⟩:=q06 h hx;obtain⟨x',ν1,g1,g2,g3,g4⟩:=qf8 h he i1;exact q13 h hf g2 g3 g4 fun d hd hn r Q q=>g1.jo ho hd hn e1 q
theorem qco{T i:Nat}{x:Operand}{v w:V}{q:Nat×Nat}{n:Nat}(h:γ S ν hB s)(ho:o.op= .fieldAddr T x i)(hx:evA S x= .ok v)(hq:qh8 P T i=some q)(hn:szT P q.2=some n)(n0:0<n)
 (hv:(∃ c p,v= .ptr c p∧S.le (.k 0) p=true∧w= .ptr c (p.addk q.1))∨(∃ c p,v= .elp c p∧qgk S c p=true∧w= .elp c (p.addk q.1)))(hf:fin o w S= .ok l):OpV P o S ν hB s l:=by
 obtain⟨a,e1,i1⟩:=q06 h hx;have a0:=i1 ν (.refl _ _)
 have fin':∀ id off,a= .ptr (some (id,off))→Is S ν w (.ptr (some (id,off+q.1)))→OpV P o S ν hB s l:=fun id off ha hi=>by
  subst ha;exact q13 h hf (.refl h) hi rfl fun d hd hn' r Q q'=>q9f (qek hq) (q4u hn) (by omega) ho hd hn' e1 q'
 rcases hv with⟨c,p,rfl,hp,rfl⟩ | ⟨c,p,rfl,hp,rfl⟩
 · simp only[cv]at a0
   refine fin' _ _ a0.symm fun ν' hν=>?_
   have a1:=i1 ν' hν;have p1:=q01 h hp ν' hν;have p2:=q01 h hp ν (.refl _ _);rw[ev_k]at p1 p2;simp only[cv]at a1;rw[←a0]at a1;simp only[AV.ptr.injEq,zbe,zbt]at a1;simp only[cv,q0f,AV.ptr.injEq,zbe,zbt];exact⟨a1.1,by omega⟩
 · obtain⟨id,off,m,k,e,rfl,qc,q0,hc⟩:=qa2 h hp i1
   refine fin' _ _ rfl fun ν' hν=>?_
   simp only[cv,(hν c hc).2.2.1,e,q0f,qc ν' hν,AV.ptr.injEq,zbe,zbt,true_and];omega
theorem z15{T i:Nat}{x:Operand}{vs:List V}{w:V}{q:Nat×Nat}{n:Nat}(h:γ S ν hB s)(ho:o.op= .field T x i)(hx:evA S x= .ok (.agg vs))(hq:qh8 P T i=some q)(hle:q.1+n≤vs.length)
 (hw:q5k (aggQ P q.2 n) ((vs.drop q.1).take n)=some w)(hf:fin o w S= .ok l):OpV P o S ν hB s l:=by
 obtain⟨a,e1,i1⟩:=q06 h hx;have a0:=i1 ν (.refl _ _);simp only[cv]at a0;subst a0;have hvs:∀ ν',Ag S.ns ν ν'→cvL ν' vs=cvL ν vs:=fun ν' hν=>by have:=i1 ν' hν; simpa [cv]using this
 obtain⟨sl,h₀,nt,ds⟩:=s;rcases q43 hw with⟨ha,rfl⟩ | ⟨ha,hvw⟩
 · rcases q4k ha with⟨_,hA⟩ | ⟨h0,_⟩
   · refine q13 (a:= .agg ((cvL ν vs).drop q.1 |>.take n)) h hf (.refl h) (fun ν' hν=>by simp only[cv,qd6,qiz,hvs ν' hν]) rfl fun d hd hn r Q q'=>z1s (qek hq) hA ho hd hn e1 rfl q'
   · cases h0
 · rcases q4k ha with⟨h0,_⟩ | ⟨_,rfl,hC⟩
   · cases h0
   · have hg:∀ ν':Va,(cvL ν' vs)[q.1]?=some (cv ν' w):=fun ν'=>by
      have h1:(vs.drop q.1).take 1=[w]:=hvw
      have h2:vs[q.1]?=some w:=by
       have:=congrArg (·[0]?) h1;simpa [zcp,zcq]using this
      exact qbr h2
     refine q13 (a:=cv ν w) h hf (.refl h) (fun ν' hν=>?_) rfl fun d hd hn r Q q'=>z1t (qek hq) hC ho hd hn e1 (hg ν) q'
     have:=hg ν';rw[hvs ν' hν,hg ν]at this;exact(zbz this).symm
end
end Go.K
namespace Go.K
open Go Go.J
variable{S:AS}{ν:Va}{hB:AH}{s:St}{P:Program}{o:Oper}{l:List AS}
theorem qao{T e z:Nat}{x y:Operand}{v w:V}{q:IntKind×Lin}(h:γ S ν hB s)(ho:o.op= .indexAddr T x y)(hx:evA S x= .ok v)(hy:evI S y= .ok q)(he:q3y P T=some e)(hz:szT P e=some z)
 (hv:(∃ c,v= .sym c∧(slcV S (.sym c)&&S.le (.k 0) q.2&&S.le (q.2.addk 1) (.s c))=true∧w= .elp c (q.2.sc z))∨(∃ c p n m,v= .slo c p n m∧(S.le (.k 0) q.2&&S.le (q.2.addk 1) n&&S.le (.k 0) p)=true∧w= .ptr c (p.add (q.2.sc z))))
 (hf:fin o w S= .ok l):OpV P o S ν hB s l:=by
 obtain⟨a,e1,i1⟩:=q06 h hx;obtain⟨n,e2,i2⟩:=q3c h hy;have a0:=i1 ν (.refl _ _);have n0:=i2 ν (.refl _ _);rcases hv with⟨c,rfl,hb,rfl⟩ | ⟨c,p,m,k,rfl,hb,rfl⟩
 · simp only[zbf]at hb
   obtain⟨⟨h1,h2⟩,h3⟩:=hb;have b1:=q01 h h2 ν (.refl _ _);rw[ev_k,n0]at b1;obtain⟨p,m,k,f1,f2,f3⟩:=qk8 h h1 (.refl _ _);have b2:=q01 h h3 ν (.refl _ _);rw[q0f,ev_s,n0,←f2]at b2;obtain⟨⟨id,off⟩,rfl⟩:=f3 (by omega)
   simp only[cv,f1]at a0;subst a0;refine q13 (a:= .ptr (some (id,off+n.toNat * z))) h hf (.refl h) (fun ν' hν=>?_) rfl fun d hd hn r Q q'=>q5e (q2u he) (q4u hz) ho hd hn e1 e2 (by omega) q'
   have a1:=i1 ν' hν;simp only[cv]at a1;simp only[cv,a1,q2b,i2 ν' hν];rw[Int.mul_comm,Int.toNat_mul b1 (by omega)]
   simp
 · simp only[zbf]at hb
   obtain⟨⟨h1,h2⟩,h3⟩:=hb;have b1:=q01 h h1 ν (.refl _ _);rw[ev_k,n0]at b1;have b2:=q01 h h2 ν (.refl _ _);rw[q0f,n0]at b2;simp only[cv]at a0;subst a0;refine q13 (a:= .ptr (some (ν.n c,(p.ev ν.i).toNat+n.toNat * z))) h hf (.refl h) (fun ν' hν=>?_) rfl fun d hd hn r Q q'=>q5e (q2u he) (q4u hz) ho hd hn e1 e2 (by omega) q'
   have a1:=i1 ν' hν;have p0:=q01 h h3 ν' hν;rw[ev_k]at p0;have p1:=q01 h h3 ν (.refl _ _);rw[ev_k]at p1;simp only[cv,AV.slice.injEq,zbe,zbt]at a1;simp only[cv,q4p,q2b,i2 ν' hν,AV.ptr.injEq,zbe,zbt];refine⟨a1.1.1,?_⟩;have:((z:Int) * n).toNat=n.toNat * z:=by rw[Int.mul_comm,Int.toNat_mul b1 (by omega)]; simp
   have h0:0≤(z:Int) * n:=Int.mul_nonneg (by omega) b1
   omega
theorem qan{T z:Nat}{x y:Operand}{v w:V}{q:IntKind×Lin}{a:Nat×Nat}(h:γ S ν hB s)(ho:o.op= .indexAddr T x y)(hx:evA S x= .ok v)(hy:evI S y= .ok q)(he:arrT P T=some a)(hz:szT P a.2=some z)
 (hb1:S.le (.k 0) q.2=true)(hb2:S.le (q.2.addk 1) (.k a.1)=true)
 (hv:(∃ c p,v= .ptr c p∧S.le (.k 0) p=true∧w= .ptr c (p.add (q.2.sc z)))∨(∃ c p,v= .elp c p∧qgk S c p=true∧w= .elp c (p.add (q.2.sc z))))
 (hf:fin o w S= .ok l):OpV P o S ν hB s l:=by
 obtain⟨x',e1,i1⟩:=q06 h hx;obtain⟨n,e2,i2⟩:=q3c h hy;have a0:=i1 ν (.refl _ _);have n0:=i2 ν (.refl _ _);have b1:=q01 h hb1 ν (.refl _ _);rw[ev_k,n0]at b1;have b2:=q01 h hb2 ν (.refl _ _);rw[q0f,ev_k,n0]at b2;have hm:((z:Int) * n).toNat=n.toNat * z:=by rw[Int.mul_comm,Int.toNat_mul b1 (by omega)]; simp
 have h0:0≤(z:Int) * n:=Int.mul_nonneg (by omega) b1
 have fin':∀ id off,x'= .ptr (some (id,off))→Is S ν w (.ptr (some (id,off+n.toNat * z)))→OpV P o S ν hB s l:=fun id off ha hi=>by
  subst ha;exact q13 h hf (.refl h) hi rfl fun d hd hn r Q q'=>qcn (qe0 he) (q4u hz) ho hd hn e1 e2 (by omega) q'
 rcases hv with⟨c,p,rfl,hp,rfl⟩ | ⟨c,p,rfl,hp,rfl⟩
 · simp only[cv]at a0
   refine fin' _ _ a0.symm fun ν' hν=>?_
   have a1:=i1 ν' hν;have p0:=q01 h hp ν' hν;have p1:=q01 h hp ν (.refl _ _);rw[ev_k]at p0 p1;simp only[cv]at a1;rw[←a0]at a1;simp only[AV.ptr.injEq,zbe,zbt]at a1;simp only[cv,q4p,q2b,i2 ν' hν,AV.ptr.injEq,zbe,zbt];exact⟨a1.1,by omega⟩
 · obtain⟨id,off,m,k,e,rfl,qc,q0,hc⟩:=qa2 h hp i1
   refine fin' _ _ rfl fun ν' hν=>?_
   simp only[cv,(hν c hc).2.2.1,e,q4p,q2b,qc ν' hν,i2 ν' hν,AV.ptr.injEq,zbe,zbt,true_and];omega
theorem qfm{T:Nat}{x y:Operand}{v:V}{q:IntKind×Lin}{n:Lin}(h:γ S ν hB s)(ho:o.op= .index T x y)(hx:evA S x= .ok v)(hy:evI S y= .ok q)(hT:q41 P T=true)
 (hv:(∃ c,v= .sym c∧isStr c S.fa=true∧n= .s c)∨(∃ b,v= .strc b∧n= .k b.size))(hb1:S.le (.k 0) q.2=true)(hb2:S.le (q.2.addk 1) n=true)
 (hf:fin o (.int .u8 (S.newI (.k 0) (.k 255)).1) (S.newI (.k 0) (.k 255)).2= .ok l):OpV P o S ν hB s l:=by
 obtain⟨a,e1,i1⟩:=q06 h hx;obtain⟨i,e2,i2⟩:=q3c h hy;have a0:=i1 ν (.refl _ _);have n0:=i2 ν (.refl _ _);have b1:=q01 h hb1 ν (.refl _ _);rw[ev_k,n0]at b1;have b2:=q01 h hb2 ν (.refl _ _);rw[q0f,n0]at b2
 obtain⟨b,rfl,hn⟩:∃ b:ByteArray,a= .str b∧n.ev ν.i=b.size:=by
  rcases hv with⟨c,rfl,hs,rfl⟩ | ⟨b,rfl,rfl⟩
  · obtain⟨b,f1,f2⟩:=q0r h.self.fa hs
    simp only[cv]at a0;exact⟨b,by rw[←a0,f1],by rw[ev_s,f2]⟩
  · exact⟨b,a0.symm,by rw[ev_k]⟩
 obtain⟨d,hd,hdn,rfl⟩:=q1m hf;obtain⟨sl,h₀,nt,ds⟩:=s;intro r;refine qpr (qag hT) ho hd (by have:=h.n; simp only at this; rw[this]; exact hdn) e1 e2 rfl (by omega) fun c c0 c1=>?_
 obtain⟨ν1,g1,g2⟩:=q3p (lo:= .k 0) (hi:= .k 255) (n:=c) h fun ν' _=>by simp only[ev_k]; exact⟨c0,c1⟩
 exact⟨rfl,⟨d,_,hd,by have:=h.n; simp only at this; rw[this]; exact hdn,rfl⟩,_,zbs.2 rfl,ν1,g1.ag,g1.ns,q60 g1.g fun ν' hν=>by simp only[cv]; rw[g2 ν' hν]⟩
theorem qrl{t:Nat}{x:Operand}{v:V}{n:Lin}(h:γ S ν hB s)(ho:o.op= .call {callee:= .builtin .len,args:= #[x],argTypes:= #[t]})(hx:evA S x= .ok v)
 (hv:(∃ c,v= .sym c∧n= .s c∧((q41 P t&&isStr c S.fa)||((q3y P t).isSome&&slcV S (.sym c)))=true)∨(∃ b,v= .strc b∧n= .k b.size∧q41 P t=true)∨(∃ c p m,v= .slo c p n m∧((q3y P t).isSome&&S.le (.k 0) n)=true)∨(v= .nils∧n= .k 0∧(q3y P t).isSome=true))
 (hf:fin o (.int .i64 n) S= .ok l):OpV P o S ν hB s l:=by
 obtain⟨a,e1,i1⟩:=q06 h hx;have a0:=i1 ν (.refl _ _)
 have str:∀ b:ByteArray,q41 P t=true→(∀ ν',Ag S.ns ν ν'→n.ev ν'.i=b.size)→a= .str b→OpV P o S ν hB s l:=fun b hT hn ha=>by
  subst ha;exact q13 h hf (.refl h) (fun ν' hν=>by simp only[cv,hn ν' hν]) rfl fun d hd hdn r Q q=>qri (qag hT) ho hd hdn e1 q
 have slc:∀ (p:Option (Nat×Nat)) (m:Nat) (k:Cap),(q3y P t).isSome=true→(∀ ν',Ag S.ns ν ν'→n.ev ν'.i=m)→a= .slice p m k→OpV P o S ν hB s l:=fun p m k hT hn ha=>by
  subst ha;obtain⟨e,he⟩:=zcj.1 hT;exact q13 h hf (.refl h) (fun ν' hν=>by simp only[cv,hn ν' hν]) rfl fun d hd hdn r Q q=>z5k (q2u he) ho hd hdn e1 q
 rcases hv with⟨c,rfl,rfl,hc⟩ | ⟨b,rfl,rfl,hc⟩ | ⟨c,p,m,rfl,hc⟩ | ⟨rfl,rfl,hc⟩
 · rw[zbu,zbf,zbf]at hc
   simp only[cv]at a0;rcases hc with hc | hc
   · obtain⟨b,f1,f2⟩:=q0r h.self.fa hc.2
     refine str b hc.1 (fun ν' hν=>?_) (by rw[←a0,f1])
     obtain⟨b',f1',f2'⟩:=q0r (h.g ν' hν).fa hc.2;have:=i1 ν' hν;simp only[cv]at this;rw[f1',←a0,f1]at this;cases this;rw[ev_s,f2']
   · obtain⟨p,m,k,f1,f2,_⟩:=qk8 h hc.2 (.refl _ _)
     refine slc p m k hc.1 (fun ν' hν=>?_) (by rw[←a0,f1])
     obtain⟨p',m',k',f1',f2',_⟩:=qk8 h hc.2 hν;have:=i1 ν' hν;simp only[cv]at this;rw[f1',←a0,f1]at this;cases this;rw[ev_s,f2']
 · exact str b hc (fun ν' _=>by rw[ev_k]) a0.symm
 · rw[zbf]at hc
   simp only[cv]at a0;refine slc _ _ _ hc.1 (fun ν' hν=>?_) a0.symm
   have a1:=i1 ν' hν;simp only[cv]at a1;rw[←a0]at a1;simp only[AV.slice.injEq]at a1;have h1:=q01 h hc.2 ν' hν;have h2:=q01 h hc.2 ν (.refl _ _);rw[ev_k]at h1 h2;omega
 · exact slc none 0 (.exact 0) hc (fun ν' _=>by rw[ev_k]; rfl) a0.symm
theorem qt7{mx:Bool}{a b:Lin}{x y:Int}{d:Bd}(h:γ S ν hB s)(he:minB S mx a b= .ok d)(ha:∀ ν',Ag S.ns ν ν'→a.ev ν'.i=x)(hb:∀ ν',Ag S.ns ν ν'→b.ev ν'.i=y):
 BdOk S ν (match mx with | true=>if y > x then y else x | false=>if y<x then y else x) d:=by
 have ra:=ha ν (.refl _ _);have rb:=hb ν (.refl _ _);unfold minB at he;split at he
 · rename_i hl
   have:=q01 h hl ν (.refl _ _);cases he;intro ν' hν;cases mx<;>simp only[ha ν' hν,hb ν' hν]<;>split<;>omega
 · split at he
   · rename_i hl
     have:=q01 h hl ν (.refl _ _);cases he;intro ν' hν;cases mx<;>simp only[ha ν' hν,hb ν' hν]<;>split<;>omega
   · cases mx with
     | false=>
       show BdOk S ν (if y<x then y else x) d
       simp only at he;split at he
       · split at he
         · obtain⟨_,hn,he⟩:=R.zak he
           have hn:=q02 hn;cases he;simp only[zbf,zbu]at hn;obtain⟨⟨c1,c2⟩,c3⟩:=hn;have c1:=q01 h c1 ν (.refl _ _);have c2:=q01 h c2 ν (.refl _ _);rw[ev_k,ra]at c1; rw[ev_k,rb]at c2;rcases c3 with c3 | c3
           all_goals
            have c3:=q01 h c3 ν (.refl _ _);rw[ev_k]at c3
            first | rw[ra]at c3 | rw[rb]at c3
            intro ν' hν;rw[ev_k,ev_k];refine⟨by split<;>omega,by split<;>omega,fun c hc e he=>?_⟩
            simp only[zbm,zc6,or_false]at he;rcases he with rfl | rfl
            · rw[q0y,hc,ha ν' hν]; split<;>omega
            · rw[q0y,hc,hb ν' hν]; split<;>omega
         · cases he
       · cases he
     | true=>
       show BdOk S ν (if y > x then y else x) d
       simp only at he;split at he
       · split at he
         · obtain⟨_,hn,he⟩:=R.zak he
           have hn:=q02 hn;cases he;simp only[zbf,zbu]at hn;obtain⟨⟨c1,c2⟩,c3⟩:=hn;have c1:=q01 h c1 ν (.refl _ _);have c2:=q01 h c2 ν (.refl _ _);rw[ev_k,ra]at c1; rw[ev_k,rb]at c2;rcases c3 with c3 | c3
           all_goals
            have c3:=q01 h c3 ν (.refl _ _);rw[ev_k]at c3
            first | rw[ra]at c3 | rw[rb]at c3
            intro ν' hν;rw[ev_k,ev_k];refine⟨by split<;>omega,by split<;>omega,fun c hc e he=>?_⟩
            simp only[zbm,zc6,or_false]at he;rcases he with rfl | rfl
            · rw[q0y,hc,ha ν' hν]; split<;>omega
            · rw[q0y,hc,hb ν' hν]; split<;>omega
         · cases he
       · cases he
theorem qmn{mx:Bool}{x y:Operand}{t1 t2:Nat}{k:IntKind}{a b:Lin}{d:Bd}(h:γ S ν hB s)(ho:o.op= .call {callee:= .builtin (match mx with | true=> .max | false=> .min),args:= #[x,y],argTypes:= #[t1,t2]})
 (hx:evA S x= .ok (.int k a))(hy:evA S y= .ok (.int k b))(he:minB S mx a b= .ok d)(hf:fin o (d.run S k).1 (d.run S k).2= .ok l):OpV P o S ν hB s l:=by
 obtain⟨va,e1,i1⟩:=q06 h hx;obtain⟨vb,e2,i2⟩:=q06 h hy;have a0:=i1 ν (.refl _ _);have b0:=i2 ν (.refl _ _);simp only[cv]at a0 b0;subst a0; subst b0;have hd:=qt7 h he (x:=a.ev ν.i) (y:=b.ev ν.i) (fun ν' hν=>by have:=i1 ν' hν; simpa [cv]using this) (fun ν' hν=>by have:=i2 ν' hν; simpa [cv]using this)
 obtain⟨ν1,g1,g2⟩:=q7l (k:=k) h hd;cases mx with
 | true=>exact q13 h hf g1 g2 (qi7 d k).nt fun d' hdd hn r Q q=>z7w ho hdd hn e1 e2 q
 | false=>exact q13 h hf g1 g2 (qi7 d k).nt fun d' hdd hn r Q q=>z7x ho hdd hn e1 e2 q
theorem z1e(ν:Va)(l:List V)(n:Nat)(vs:List V):cvL ν (putAt l n vs)=splice (cvL ν l) n (cvL ν vs):=by
 simp[putAt,splice,q73,List.map_take,List.map_drop]
theorem q67{pl:Nat→Option (Nat×Nat)}(h:γ S ν hB s):∀ {ps:List (Nat×V)} {l l':List V},qst S pl l ps= .ok l'→ ∀ {ν':Va},Ag S.ns ν ν'→q5l pl (cvL ν' l) (ps.map fun p=>(p.1,cv ν' p.2))=some (cvL ν' l')
 | [],l,l',he,ν',_=>by cases he; rfl
 | p :: r,l,l',he,ν',hν=>by
   obtain⟨q,h1,he⟩:=R.zak he;obtain⟨vs,h2,he⟩:=R.zak he;obtain⟨_,h3,he⟩:=R.zak he;have h1:=q0a h1;have h3:=q02 h3;rw[zbf]at h3;have l1:=zbg h3.1;have l2:=zbj h3.2;have hc:=(q30 h h2 hν).1;have ih:=q67 h he hν;obtain⟨q1,q2⟩:=q;simp only[zc3,q5l,h1,hc,q1x,←z1e];rw[if_pos ⟨l1,l2⟩];exact ih
theorem qi0:∀ {fs:List Field} {pl:List (Nat×Nat)},qfr P fs=some pl→fs.map (fun f=>(f.offset,(P.info? f.type).map (·.size)))=pl.map (fun p=>(p.1,some p.2))
 | [],pl,h=>by simp only[qfr,zbe]at h; subst h; rfl
 | f :: r,pl,h=>by
   simp only[qfr]at h;split at h
   · rename_i n m hn hm
     simp only[zbe]at h; subst h;simp only[zc3,q4u hn,qi0 hm]
   · cases h
theorem qto{T:Nat}{pl:List (Nat×Nat)}(h:qpd P T=some pl):qdr P T pl:=by
 unfold qpd at h;split at h
 · rename_i fs he; exact⟨fs,he,qi0 h⟩
 · cases h
theorem q2a{T:Nat}{z:V}(hz:q8n P T=some z)(ν ν':Va):cvL ν' z.cells=(cv ν z).cells:=by
 have e:cv ν' z=cv ν z:=by
  obtain⟨i1,v1,a1,b1,c1⟩:=q2w hz ν';obtain⟨i2,v2,a2,b2,c2⟩:=q2w hz ν;rw[a1]at a2; cases a2; rw[b1]at b2; cases b2; rw[c1]at c2; exact zbz c2
 rw[←e];cases z with
 | agg l=>simp[V.cells,cv,AV.cells]
 | sym c=>
   exfalso;unfold q8n at hz;split at hz
   · split at hz
     · exact qnb hz
     · cases hz
   · cases hz
 | elp c p=>simp only[V.cells,cvL,cv]; split<;>rfl
 | _=>simp[V.cells,cv,cvL,AV.cells]
theorem z14{T:Nat}{ps:Array (Nat×Operand)}{vs:List (Nat×V)}{z:V}{w:List V}(h:γ S ν hB s)(ho:o.op= .build T ps)(hx:evPA S ps.toList= .ok vs)(hz:q8n P T=some z)(hb:qv6 P S T z.cells vs= .ok w)(hf:fin o (.agg w) S= .ok l):OpV P o S ν hB s l:=by
 obtain⟨as,e1,i1⟩:=q86 h hx;unfold qv6 at hb;split at hb
 · rename_i pl hp
   have fl:∀ ν',Ag S.ns ν ν'→q5l (pl[·]?) (cv ν z).cells as=some (cvL ν' w):=fun ν' hν=>by
    have:=q67 h hb hν;rwa[q2a hz ν ν',i1 ν' hν]at this
   refine q13 (a:= .agg (cvL ν w)) h hf (.refl h) (fun ν' hν=>?_) rfl fun d hd hn r Q q=>qxd (qto hp) (q2w hz ν) ho hd hn e1 (fl ν (.refl _ _)) q
   have:=fl ν' hν;rw[fl ν (.refl _ _)]at this;simp only[cv,zbz this]
 · obtain⟨a,h1,hb⟩:=R.zak hb
   obtain⟨n,h2,hb⟩:=R.zak hb
   have fl:∀ ν',Ag S.ns ν ν'→q5l (fun i=>some (i * n,n)) (cv ν z).cells as=some (cvL ν' w):=fun ν' hν=>by
    have:=q67 h hb hν;rwa[q2a hz ν ν',i1 ν' hν]at this
   refine q13 (a:= .agg (cvL ν w)) h hf (.refl h) (fun ν' hν=>?_) rfl fun d hd hn r Q q=>qhn (qe0 (q0a h1)) (q4u (q0a h2)) (q2w hz ν) ho hd hn e1 (fl ν (.refl _ _)) q
   have:=fl ν' hν;rw[fl ν (.refl _ _)]at this;simp only[cv,zbz this]
end Go.K
namespace Go.K
open Go Go.J
theorem qjy(ops:Array Oper)(j:Nat):opAt ops j=ops[j]?:=by unfold opAt; rw[qou]; simp
theorem z0q(k:Nat):memN k []=false:=rfl
theorem qwy(k x:Nat)(r:List Nat):memN k (x :: r)=(Nat.beq x k||memN k r):=by
 show(Bool.rec (memN k r) true (Nat.beq x k):Bool)=_;cases Nat.beq x k<;>simp
theorem Sb.zal(σ:Sb)(c:Nat):σ.get c=match Nat.blt c σ.n1 with
 | true=>getL σ.l c
 | false=>none:=by
 obtain⟨n0,n1,l⟩:=σ;show(Bool.rec none (getL l c) (Nat.ble (c+1) n1):Option Asg)=match Nat.ble (c+1) n1 with | true=>getL l c | false=>none
 cases Nat.ble (c+1) n1<;>rfl
theorem Sb.zam{α:Type}(σ:Sb)(c:Nat)(x y:α):σ.new c x y=match Nat.blt c σ.n0 with
 | true=>y
 | false=>x:=by
 show(Bool.rec x y (Nat.ble (c+1) σ.n0):α)=match Nat.ble (c+1) σ.n0 with | true=>y | false=>x
 cases Nat.ble (c+1) σ.n0<;>rfl
theorem qhy{α β:Type}(f:α→β)(x:Option α):optM f x=x.map f:=by cases x<;>rfl
theorem z34{α β γ:Type}(f:α→β→γ)(x:Option α)(y:Option β):opt2 f x y=match x,y with | some a,some b=>some (f a b) | _,_=>none:=by cases x<;>cases y<;>rfl
theorem z1n(σ:Sb)(c:Nat):qg5 σ c=match Nat.blt c σ.n0 with
 | true=>some (.s c)
 | false=>match σ.get c with
   | some (.num e)=>some e
   | some (.av v)=>lenV v
   | _=>none:=by
 unfold qg5;rw[Sb.zam];cases Nat.blt c σ.n0 with
 | true=>rfl
 | false=>cases σ.get c with
   | none=>rfl
   | some x=>cases x<;>rfl
theorem qn6(σ:Sb):qkb σ []=some (.k 0):=rfl
theorem qie(σ:Sb)(p:Nat×Int)(r:List (Nat×Int)):qkb σ (p :: r)=match qg5 σ p.1,qkb σ r with
 | some e,some l=>some ((e.sc p.2).add l)
 | _,_=>none:=by
 show opt2 (fun(e l:Lin)=>(e.sc p.2).add l) (qg5 σ p.1) (qkb σ r)=_
 rw[z34];cases qg5 σ p.1<;>cases qkb σ r<;>rfl
theorem Lin.sb_e(σ:Sb)(e:Lin):e.sb σ=match qkb σ e.t with
 | some l=>some (l.addk e.c)
 | none=>none:=by
 unfold Lin.sb;cases qkb σ e.t<;>rfl
theorem qxx(σ:Sb):sbL σ []=some []:=rfl
theorem qrz(σ:Sb)(v:V)(r:List V):sbL σ (v :: r)=match v.sb σ,sbL σ r with
 | some v,some r=>some (v :: r)
 | _,_=>none:=by
 show opt2 (fun(v:V) r=>v :: r) (v.sb σ) (sbL σ r)=_
 rw[z34];cases v.sb σ<;>cases sbL σ r<;>rfl
theorem qdn{α β:Type}{f:α→β}(hf:∀ a b,f a=f b→a=b){x y:Option α}(h:optM f x=optM f y):x=y:=by
 cases x<;>cases y
 · rfl
 · cases h
 · cases h
 · have:f _=f _:=zbz h
   rw[hf _ _ this]
theorem qk6(σ:Sb)(l:List V):(V.agg l).sbT σ=optM .agg (sbL σ l):=by
 induction l with
 | nil=>rfl
 | cons v r ih=>
   have:∃ x,V.sbT (.agg (v :: r)) σ=optM V.agg (opt2 (fun v r=>v :: r) (v.sbT σ) x)∧V.sbT (.agg r) σ=optM V.agg x:=⟨_,rfl,rfl⟩
   obtain⟨x,h1,h2⟩:=this;rw[h1];have:x=sbL σ r:=qdn (fun a b h=>by cases h; rfl) (h2.symm.trans ih)
   rw[this]; rfl
theorem z5x(σ:Sb)(l:List V):(V.tup l).sbT σ=optM .tup (sbL σ l):=by
 have:∃ x,V.sbT (.tup l) σ=optM V.tup x∧V.sbT (.agg l) σ=optM V.agg x:=⟨_,rfl,rfl⟩;obtain⟨x,h1,h2⟩:=this;rw[h1,qdn (fun a b h=>by cases h; rfl) (h2.symm.trans (qk6 σ l))]
theorem z8k(σ:Sb)(f:Nat)(a b:List V):(V.fn f a b).sbT σ=opt2 (V.fn f) (sbL σ a) (sbL σ b):=by
 have:∃ x y,V.sbT (.fn f a b) σ=opt2 (V.fn f) x y∧V.sbT (.agg a) σ=optM V.agg x∧V.sbT (.agg b) σ=optM V.agg y:=⟨_,_,rfl,rfl,rfl⟩;obtain⟨x,y,h1,h2,h3⟩:=this;rw[h1,qdn (fun a b h=>by cases h; rfl) (h2.symm.trans (qk6 σ a)),qdn (fun a b h=>by cases h; rfl) (h3.symm.trans (qk6 σ b))]
theorem V.sb_e(σ:Sb)(v:V):v.sb σ=match v with
 | .int k e=>(e.sb σ).map (.int k)
 | .bool b=>(b.sb σ).map .bool
 | .sym c=>match Nat.blt c σ.n0 with
   | true=>some (.sym c)
   | false=>match σ.get c with
     | some (.av v)=>some v
     | _=>none
 | .ptr c o=>match Nat.blt c σ.n0 with
   | true=>(o.sb σ).map (.ptr c)
   | false=>none
 | .elp c o=>match Nat.blt c σ.n0 with
   | true=>(o.sb σ).map (.elp c)
   | false=>none
 | .slo c o n m=>match Nat.blt c σ.n0,o.sb σ,n.sb σ,m.sb σ with
   | true,some o,some n,some m=>some (.slo c o n m)
   | _,_,_,_=>none
 | .fn f a b=>match sbL σ a,sbL σ b with
   | some a,some b=>some (.fn f a b)
   | _,_=>none
 | .agg l=>(sbL σ l).map .agg
 | .tup l=>(sbL σ l).map .tup
 | .map c=>match Nat.blt c σ.n0 with
   | true=>some (.map c)
   | false=>none
 | .yld c=>match Nat.blt c σ.n0 with
   | true=>some (.yld c)
   | false=>none
 | v=>some v:=by
 cases v with
 | int k e=>exact qhy _ _
 | bool b=>exact qhy _ _
 | sym c=>
   show σ.new c (Option.rec none asgV (σ.get c)) (some (.sym c))=_;rw[Sb.zam];show _=(match Nat.blt c σ.n0 with | true=>some (V.sym c) | false=>match σ.get c with | some (.av v)=>some v | _=>none)
   cases Nat.blt c σ.n0 with
   | true=>rfl
   | false=>cases h:σ.get c with
     | none=>rfl
     | some x=>cases x<;>rfl
 | ptr c o=>show σ.new c none (optM (V.ptr c) (o.sb σ))=_; rw[Sb.zam,qhy]
 | elp c o=>show σ.new c none (optM (V.elp c) (o.sb σ))=_; rw[Sb.zam,qhy]
 | slo c o n m=>
   show σ.new c none (opt2 (fun o (q:Lin×Lin)=>V.slo c o q.1 q.2) (o.sb σ) (opt2 Prod.mk (n.sb σ) (m.sb σ)))=_
   rw[Sb.zam];show _=(match Nat.blt c σ.n0,o.sb σ,n.sb σ,m.sb σ with | true,some o,some n,some m=>some (V.slo c o n m) | _,_,_,_=>none)
   cases Nat.blt c σ.n0<;>cases o.sb σ<;>cases n.sb σ<;>cases m.sb σ<;>rfl
 | fn f a b=>show(V.fn f a b).sbT σ=_; rw[z8k]; show _=(match sbL σ a,sbL σ b with | some a,some b=>some (V.fn f a b) | _,_=>none); cases sbL σ a<;>cases sbL σ b<;>rfl
 | agg l=>show(V.agg l).sbT σ=_; rw[qk6,qhy]
 | tup l=>show(V.tup l).sbT σ=_; rw[z5x,qhy]
 | map c=>show σ.new c none (some (V.map c))=_; rw[Sb.zam]
 | yld c=>show σ.new c none (some (V.yld c))=_; rw[Sb.zam]
 | _=>rfl
theorem q50(a b:Bool):q5i a b=(a&&b):=by cases a<;>rfl
theorem qvq:eqL [] []=true:=rfl
theorem qvp(b:V)(s:List V):eqL [] (b :: s)=false:=rfl
theorem qvo(b:V)(s:List V):eqL (b :: s) []=false:=rfl
theorem qvn(a b:V)(r s:List V):eqL (a :: r) (b :: s)=(a.eq b&&eqL r s):=(q50 _ _).symm▸rfl
theorem z7o(a b:Lin):qcj [a] [b]=a.eq b:=by show q5i (a.eq b) true=_; rw[q50]; simp
theorem z9h(a b c d e f:Lin):qcj [a,b,c] [d,e,f]=(a.eq d&&(b.eq e&&c.eq f)):=by show q5i (a.eq d) (q5i (b.eq e) (q5i (c.eq f) true))=_; simp only[q50,Bool.and_true]
theorem V.eq_e(a b:V):V.eq a b=match a,b with
 | .int k a,.int j b=>Nat.beq (kid k) (kid j)&&a.eq b
 | .bool a,.bool b=>a.eq' b
 | .sym a,.sym b=>Nat.beq a b
 | .ptr c a,.ptr d b=>Nat.beq c d&&a.eq b
 | .elp c a,.elp d b=>Nat.beq c d&&a.eq b
 | .nilp,.nilp=>true
 | .slo c a n m,.slo d b k l=>Nat.beq c d&&a.eq b&&n.eq k&&m.eq l
 | .nils,.nils=>true
 | .fn f a b,.fn g c d=>Nat.beq f g&&eqL a c&&eqL b d
 | .nilf,.nilf=>true
 | .agg a,.agg b=>eqL a b
 | .tup a,.tup b=>eqL a b
 | .map a,.map b=>Nat.beq a b
 | .nilm,.nilm=>true
 | .yld a,.yld b=>Nat.beq a b
 | _,_=>false:=by
 cases a with
 | int k a=>cases b<;>first | rfl | exact q50 _ _
 | ptr c a=>cases b<;>first | rfl | (rename_i d b; show q5i (Nat.beq c d) (qcj [a] [b])=(Nat.beq c d&&a.eq b); rw[q50,z7o])
 | elp c a=>cases b<;>first | rfl | (rename_i d b; show q5i (Nat.beq c d) (qcj [a] [b])=(Nat.beq c d&&a.eq b); rw[q50,z7o])
 | slo c a n m=>cases b<;>first | rfl | (rename_i d b k l; show q5i (Nat.beq c d) (qcj [a,n,m] [b,k,l])=(Nat.beq c d&&a.eq b&&n.eq k&&m.eq l); rw[q50,z9h]; simp only[Bool.and_assoc])
 | fn f a b'=>cases b<;>first | rfl | (rename_i g x y; show q5i (Nat.beq f g) (q5i (eqL a x) (eqL b' y))=(Nat.beq f g&&eqL a x&&eqL b' y); simp only[q50,Bool.and_assoc])
 | _=>cases b<;>rfl
theorem qh0{op:Op}{q:Operand×Array Operand}(h:qzx op=some q):∃ c,op= .call c∧c.callee= .value q.1∧c.args=q.2:=by
 cases op with
 | call c=>
   obtain⟨callee,args,ts⟩:=c;cases callee with
   | value f=>
     have:some (f,args)=some q:=h;cases this;exact⟨_,rfl,rfl,rfl⟩
   | _=>exact absurd h (by intro h; cases h)
 | _=>exact absurd h (by intro h; cases h)
theorem z33{o:Oper}{x:R (List AS)}{l:List AS}(h:opB o x= .ok l):x= .ok l:=by
 cases x with
 | ok a=>exact h
 | no w=>cases h
end Go.K
namespace Go.K
open Go Go.J
noncomputable section
theorem z46{a b:Bx}(h:a.eq' b=true):a=b:=by
 unfold Bx.eq' at h;split at h
 · rfl
 · rfl
 · rw[q2h h]
 · rw[q2h h]
 · rw[q2h h]
 · cases h
mutual
theorem qb2:∀ {a b:V},V.eq a b=true→a=b
 | .int k e,b,h=>by
   cases b<;>simp only[V.eq_e,zbf,zbn]at h
   rw[q6c h.1,q2h h.2]
 | .bool x,b,h=>by
   cases b<;>simp only[V.eq_e,zbn]at h
   rw[z46 h]
 | .sym c,b,h=>by
   cases b<;>simp only[V.eq_e,zbn]at h
   rw[zbg h]
 | .strc x,b,h=>by cases b<;>simp[V.eq_e]at h
 | .ptr c o,b,h=>by
   cases b<;>simp only[V.eq_e,zbf,zbn]at h
   rw[zbg h.1,q2h h.2]
 | .elp c o,b,h=>by
   cases b<;>simp only[V.eq_e,zbf,zbn]at h
   rw[zbg h.1,q2h h.2]
 | .nilp,b,h=>by cases b<;>simp only[V.eq_e,zbn]at h; rfl
 | .slo c o n m,b,h=>by
   cases b<;>simp only[V.eq_e,zbf,zbn]at h
   obtain⟨⟨⟨h1,h2⟩,h3⟩,h4⟩:=h;rw[zbg h1,q2h h2,q2h h3,q2h h4]
 | .nils,b,h=>by cases b<;>simp only[V.eq_e,zbn]at h; rfl
 | .fn f x y,b,h=>by
   cases b<;>simp only[V.eq_e,zbf,zbn]at h
   rw[zbg h.1.1,qc3 h.1.2,qc3 h.2]
 | .nilf,b,h=>by cases b<;>simp only[V.eq_e,zbn]at h; rfl
 | .agg x,b,h=>by
   cases b<;>simp only[V.eq_e,zbn]at h
   rw[qc3 h]
 | .tup x,b,h=>by
   cases b<;>simp only[V.eq_e,zbn]at h
   rw[qc3 h]
 | .map c,b,h=>by
   cases b<;>simp only[V.eq_e,zbn]at h
   rw[zbg h]
 | .nilm,b,h=>by cases b<;>simp only[V.eq_e,zbn]at h; rfl
 | .yld c,b,h=>by
   cases b<;>simp only[V.eq_e,zbn]at h
   rw[zbg h]
theorem qc3:∀ {a b:List V},eqL a b=true→a=b
 | [],[],_=>rfl
 | [],_ :: _,h=>by simp[qvq,qvp,qvo,qvn]at h
 | _ :: _,[],h=>by simp[qvq,qvp,qvo,qvn]at h
 | x :: r,y :: s,h=>by
   simp only[qvq,qvp,qvo,qvn,zbf]at h;rw[qb2 h.1,qc3 h.2]
end
def ovr(σ:Sb)(ν:Va):Va:=
 ⟨fun c=>if c<σ.n0 then ν.i c else match σ.get c with
  | some (.num e)=>e.ev ν.i
  | some (.bl b)=>if b.ev ν.i then 1 else 0
  | some (.av v)=>match lenV v with
    | some e=>e.ev ν.i
    | none=>0
  | none=>0,
  fun c=>ν.n c,
  fun c=>if c<σ.n0 then ν.a c else match σ.get c with
   | some (.av v)=>cv ν v
   | _=> .nilFunc,
  fun c=>ν.e c⟩
structure Ov(σ:Sb)(ν ν1:Va):Prop where
 old:Ag σ.n0 ν ν1
 new:∀ c,c<σ.n1→ ¬ c<σ.n0→ν1.i c=(ovr σ ν).i c∧ν1.a c=(ovr σ ν).a c
theorem q8t(σ:Sb)(ν:Va):Ag σ.n0 ν (ovr σ ν):=fun i hi=>by simp[ovr,hi]
theorem Ov.of{σ:Sb}{ν ν1:Va}(hn:σ.n0≤σ.n1)(h:Ag σ.n1 (ovr σ ν) ν1):Ov σ ν ν1:=⟨(q8t σ ν).trans (h.mono hn) (zbi _),fun c h1 _=>⟨(h c h1).1,(h c h1).2.2.1⟩⟩
theorem qch{σ:Sb}{c:Nat}{x:Asg}(h:σ.get c=some x):c<σ.n1:=by
 rw[Sb.zal]at h;split at h
 · rename_i hb; exact zbj hb
 · cases h
theorem q0e{a b:Nat}:Nat.blt a b=true↔a<b:=⟨fun h=>zbj h,fun h=>Nat.ble_eq_true_of_le h⟩
theorem q2r{a b:Nat}(h:Nat.blt a b=false):¬ a<b:=fun h'=>by rw[q0e.2 h']at h; cases h
set_option linter.unusedSectionVars false
set_option linter.unnecessarySimpa false
section sub
variable{σ:Sb}{ν ν1:Va}(hn:σ.n0≤σ.n1)(hg:Ov σ ν ν1)
include hn hg
theorem q3r{c:Nat}(h:c<σ.n0):ν1.i c=ν.i c∧ν1.n c=ν.n c∧ν1.a c=ν.a c∧ν1.e c=ν.e c:=hg.old c h
theorem qn5{c:Nat}{e:Lin}(h:qg5 σ c=some e):ν1.i c=e.ev ν.i:=by
 rw[z1n]at h;split at h
 · rename_i hb
   simp only[zbe]at h; subst h;rw[ev_s]; exact(q3r hn hg (q0e.1 hb)).1
 · rename_i hb
   have hc:=q2r hb;split at h
   · rename_i e' he
     simp only[zbe]at h; subst h;rw[(hg.new c (qch he) hc).1]; simp[ovr,hc,he]
   · rename_i v he
     rw[(hg.new c (qch he) hc).1]; simp[ovr,hc,he,h]
   · cases h
theorem qyb:∀ {t:List (Nat×Int)} {e:Lin},qkb σ t=some e→evT ν1.i t=e.ev ν.i
 | [],e,h=>by simp only[qn6,qie,zbe]at h; subst h; rw[ev_k]; rfl
 | p :: r,e,h=>by
   simp only[qn6,qie]at h;split at h
   · rename_i a b h1 h2
     simp only[zbe]at h; subst h;rw[q4p,q2b,←qn5 hn hg h1,←qyb h2];simp only[evT]
   · cases h
theorem q1e{e e':Lin}(h:e.sb σ=some e'):e.ev ν1.i=e'.ev ν.i:=by
 rw[Lin.sb_e]at h;split at h
 · rename_i l hl
   simp only[zbe]at h; subst h;rw[q0f,←qyb hn hg hl]; simp only[Lin.ev]; omega
 · cases h
theorem z98{b b':Bx}(h:b.sb σ=some b'):b.ev ν1.i=b'.ev ν.i:=by
 unfold Bx.sb at h;split at h
 · simp only[zbe]at h; subst h; rfl
 · simp only[zbw]at h
   obtain⟨e,h1,rfl⟩:=h;simp only[Bx.ev,q1e hn hg h1]
 · simp only[zbw]at h
   obtain⟨e,h1,rfl⟩:=h;simp only[Bx.ev,q1e hn hg h1]
 · rename_i e
   have gen:∀ {x:Option Bx},x=(e.sb σ).map .ne→x=some b'→(Bx.ne e).ev ν1.i=b'.ev ν.i:=fun {x} hx h=>by
    subst hx;simp only[zbw]at h;obtain⟨e',h1,rfl⟩:=h;simp only[Bx.ev,q1e hn hg h1]
   split at h
   · rename_i c hc ht
     split at h
     · rename_i hb
       simp only[zbe]at h; subst h;have:=q3r hn hg (q0e.1 hb);simp only[Bx.ev,Lin.ev,hc,ht,evT,this.1]
     · rename_i hb
       split at h
       · rename_i b2 h2
         simp only[zbe]at h; subst h;have h3:=(hg.new c (qch h2) (q2r hb)).1;simp only[ovr,q2r hb,h2,if_false]at h3
         have:e.ev ν1.i=if b2.ev ν.i=true then 1 else 0:=by
          simp only[Lin.ev,hc,ht,evT,h3]; simp
         show(!(ibeq (e.ev ν1.i) 0))=b2.ev ν.i;rw[this];generalize b2.ev ν.i=t;cases t<;>rfl
       · exact gen rfl h
   · exact gen rfl h
mutual
theorem v_sb:∀ {v v':V},v.sb σ=some v'→cv ν1 v=cv ν v'
 | .int k e,v',h=>by
   simp only[V.sb_e,zbw]at h;obtain⟨e',h1,rfl⟩:=h;simp only[cv,q1e hn hg h1]
 | .bool b,v',h=>by
   simp only[V.sb_e,zbw]at h;obtain⟨b',h1,rfl⟩:=h;simp only[cv,z98 hn hg h1]
 | .sym c,v',h=>by
   simp only[V.sb_e]at h;split at h
   · rename_i hb
     simp only[zbe]at h; subst h;simp only[cv,(q3r hn hg (q0e.1 hb)).2.2.1]
   · rename_i hb
     split at h
     · rename_i v he
       simp only[zbe]at h; subst h;simp only[cv];rw[(hg.new c (qch he) (q2r hb)).2];simp[ovr,q2r hb,he]
     · cases h
 | .strc x,v',h=>by simp only[V.sb_e,zbe]at h; subst h; simp only[cv]
 | .ptr c o,v',h=>by
   simp only[V.sb_e]at h;split at h
   · rename_i hb
     simp only[zbw]at h;obtain⟨e',h1,rfl⟩:=h;simp only[cv,q1e hn hg h1,(q3r hn hg (q0e.1 hb)).2.1]
   · cases h
 | .elp c o,v',h=>by
   simp only[V.sb_e]at h;split at h
   · rename_i hb
     simp only[zbw]at h;obtain⟨e',h1,rfl⟩:=h;simp only[cv,q1e hn hg h1,(q3r hn hg (q0e.1 hb)).2.2.1]
   · cases h
 | .nilp,v',h=>by simp only[V.sb_e,zbe]at h; subst h; simp only[cv]
 | .slo c o n m,v',h=>by
   simp only[V.sb_e]at h;split at h
   · rename_i hb h1 h2 h3
     simp only[zbe]at h; subst h;simp only[cv,q1e hn hg h1,q1e hn hg h2,q1e hn hg h3,(q3r hn hg (q0e.1 hb)).2.1]
   · cases h
 | .nils,v',h=>by simp only[V.sb_e,zbe]at h; subst h; simp only[cv]
 | .fn f a b,v',h=>by
   simp only[V.sb_e]at h;split at h
   · rename_i x y h1 h2
     simp only[zbe]at h; subst h;simp only[cv,qyj h1,qyj h2]
   · cases h
 | .nilf,v',h=>by simp only[V.sb_e,zbe]at h; subst h; simp only[cv]
 | .agg l,v',h=>by
   simp only[V.sb_e,zbw]at h;obtain⟨e',h1,rfl⟩:=h;simp only[cv,qyj h1]
 | .tup l,v',h=>by
   simp only[V.sb_e,zbw]at h;obtain⟨e',h1,rfl⟩:=h;simp only[cv,qyj h1]
 | .map c,v',h=>by
   simp only[V.sb_e]at h;split at h
   · rename_i hb
     simp only[zbe]at h; subst h;simp only[cv,(q3r hn hg (q0e.1 hb)).2.1]
   · cases h
 | .nilm,v',h=>by simp only[V.sb_e,zbe]at h; subst h; simp only[cv]
 | .yld c,v',h=>by
   simp only[V.sb_e]at h;split at h
   · rename_i hb
     simp only[zbe]at h; subst h;simp only[cv,(q3r hn hg (q0e.1 hb)).2.1]
   · cases h
theorem qyj:∀ {v v':List V},sbL σ v=some v'→cvL ν1 v=cvL ν v'
 | [],v',h=>by simp only[qxx,qrz,zbe]at h; subst h; simp only[cvL]
 | x :: r,v',h=>by
   simp only[qxx,qrz]at h;split at h
   · rename_i a b h1 h2
     simp only[zbe]at h; subst h;simp only[cvL,v_sb h1,qyj h2]
   · cases h
end
omit hn hg in
theorem q22:∀ {t t':List AT},sbT σ t=some t'→t'.length=t.length
 | [],t',h=>by simp only[sbT,zbe]at h; subst h; rfl
 | x :: r,t',h=>by
   simp only[sbT]at h;split at h
   · rename_i a b h1 h2
     simp only[zbe]at h; subst h;simp[q22 h2]
   · cases h
mutual
theorem z97{hB:AH}:∀ {t t':AT},t.sb σ=some t'→ ∀ {v:AV},okT ν hB t' v→okT ν1 hB t v
 | .int a b,t',h,v,hv=>by
   simp only[AT.sb]at h;split at h
   · rename_i x y h1 h2
     simp only[zbe]at h; subst h;simp only[okT]at hv ⊢;rw[q1e hn hg h1,q1e hn hg h2]; exact hv
   · cases h
 | .bool,t',h,v,hv=>by simp only[AT.sb,zbe]at h; subst h; simpa only[okT]using hv
 | .str,t',h,v,hv=>by simp only[AT.sb,zbe]at h; subst h; simpa only[okT]using hv
 | .sl a b x ty,t',h,v,hv=>by
   simp only[AT.sb]at h;split at h
   · rename_i a' b' ty' h1 h2 h3
     simp only[zbe]at h; subst h;simp only[okT]at hv ⊢;obtain⟨p,n,k,e,r1,r2,r3,r4⟩:=hv;refine⟨p,n,k,e,by rw[q1e hn hg h1]; exact r1,by rw[q1e hn hg h2]; exact r2,r3,fun h0=>?_⟩
     obtain⟨id,off,cs,f1,f2,f3,f4⟩:=r4 h0;rw[q22 h3]at f3 f4;exact⟨id,off,cs,f1,f2,f3,fun q hq=>let ⟨w,w1,w2⟩:=f4 q hq; ⟨w,w1,q9r h3 w2⟩⟩
   · cases h
theorem q9r{hB:AH}:∀ {t t':List AT},sbT σ t=some t'→ ∀ {j:Nat} {v:AV},okN ν hB t' j v→okN ν1 hB t j v
 | [],t',h,j,v,hv=>by simp only[sbT,zbe]at h; subst h; simpa only[okN]using hv
 | x :: r,t',h,j,v,hv=>by
   simp only[sbT]at h;split at h
   · rename_i a b h1 h2
     simp only[zbe]at h; subst h;cases j with
     | zero=>simp only[okN]at hv ⊢; exact z97 h1 hv
     | succ j=>simp only[okN]at hv ⊢; exact q9r h2 hv
   · cases h
end
end sub
end
end Go.K
namespace Go.K
open Go Go.J
noncomputable section
variable{S:AS}{ν:Va}{hB:AH}{s:St}
theorem Go.trans{S1 S2:AS}{s1 s2:St}{ν1:Va}{hB1:AH}(g:Ag S.ns ν ν1)(n:S.ns≤S1.ns)(l:Le hB hB1)(h2:Go S1 ν1 hB1 S2 s2):Go S ν hB S2 s2:=by
 obtain⟨ν2,hB2,a2,n2,l2,g2⟩:=h2;exact⟨ν2,hB2,g.trans a2 n,zbo n n2,l.trans l2,g2⟩
theorem Go.refl(h:γ S ν hB s):Go S ν hB S s:=⟨ν,hB,.refl _ _,zbi _,.refl _,h⟩
theorem qrx{α:Type}{l:List (Nat×α)}{c:Nat}{p:Nat×α}(h:p∈rmL l c):p∈l∧p.1≠c:=by
 induction l with
 | nil=>simp[q9i,q8h]at h
 | cons q r ih=>
   simp only[q9i,q8h]at h;split at h
   · exact⟨zbh _ (ih h).1,(ih h).2⟩
   · rename_i hb
     rcases zbm.1 h with rfl | h
     · exact⟨by simp,fun e=>by rw[e]at hb; simp at hb⟩
     · exact⟨zbh _ (ih h).1,(ih h).2⟩
theorem qb4.symm{ν:Va}{a b:Nat×Ck}(h:qb4 ν a b):qb4 ν b a:=fun i hb ha=>h i ha hb
theorem q6i{ν:Va}{l:List (Nat×Ck)}(hp:l.Pairwise (qb4 ν)){c:Nat}{k:Ck}(hc:getL l c=some k){p:Nat×Ck}(hm:p∈l)(hne:p.1≠c):qb4 ν (c,k) p:=by
 obtain⟨a,b,e1,_⟩:=qhd hc;rw[e1]at hp hm;have p1:=List.pairwise_append.1 hp;have p2:=zco.1 p1.2.1;rcases zbr.1 hm with hm | hm
 · exact(p1.2.2 p hm _ (by simp)).symm
 · rcases zbm.1 hm with rfl | hm
   · exact absurd rfl hne
   · exact p2.1 p hm
theorem z6n{hB h:AH}{i:Nat}{ck:Chunk}(l:Le hB h)(hn:hB.get i=none)(hg:h.get i=some ck):Le hB (hB.set i ck)∧Le (hB.set i ck) h:=by
 refine⟨⟨zbi _,fun j c hj=>?_⟩,⟨l.next,fun j c hj=>?_⟩⟩
 · simp only[AH.set]
   split
   · rename_i e; subst e; rw[hn]at hj; cases hj
   · exact hj
 · simp only[AH.set]at hj
   split at hj
   · rename_i e; subst e; rw[←hj]; exact hg
   · exact l.get j c hj
structure Frz(S:AS)(ν:Va)(hB:AH)(s:St)(S':AS)(ν':Va)(hB':AH):Prop where
 ag:Ag S.ns ν ν'
 ns:S.ns≤S'.ns
 le:Le hB hB'
 g:γ S' ν' hB' s
 hp:∀ c k,getL S'.hp c=some k→getL S.hp c=some k
 nt:S'.nt=S.nt
 df:S'.df=S.df
 sl:S'.sl=S.sl
theorem Frz.refl(h:γ S ν hB s):Frz S ν hB s S ν hB:=⟨.refl _ _,zbi _,.refl _,h,fun _ _ h=>h,rfl,rfl,rfl⟩
theorem Frz.trans{S1 S2:AS}{ν1 ν2:Va}{hB1 hB2:AH}(a:Frz S ν hB s S1 ν1 hB1)(b:Frz S1 ν1 hB1 s S2 ν2 hB2):Frz S ν hB s S2 ν2 hB2:=
 ⟨a.ag.trans b.ag a.ns,zbo a.ns b.ns,a.le.trans b.le,b.g,fun c k h=>a.hp c k (b.hp c k h),b.nt.trans a.nt,b.df.trans a.df,b.sl.trans a.sl⟩
theorem Frz.is{S1:AS}{ν1:Va}{hB1:AH}{v:V}{a:AV}(e:Frz S ν hB s S1 ν1 hB1)(h:Is S ν v a):Is S1 ν1 v a:=h.mono e.ag e.ns
theorem z3i{c:Nat}{k:Ck}{i:Nat}{ck:Chunk}(h:γ S ν hB s)(hc:getL S.hp c=some k)(hi:∀ ν',Ag S.ns ν ν'→nameOf ν' (c,k)=some i)(hg:s.h.get i=some ck):
 γ {S with hp:=rmL S.hp c} ν (hB.set i ck) s∧Le hB (hB.set i ck):=by
 have fr:hB.get i=none:=(h.self.nb (c,k) (q05 hc) i (hi ν (.refl _ _))).1;obtain⟨l1,l2⟩:=z6n h.le fr hg;refine⟨γ_le (γ_rm h) l1 l2 fun ν' hν p hp j hj=>?_,l1⟩
 obtain⟨m1,m2⟩:=qrx hp;have g:=h.g ν' hν;have:=q6i g.dj hc m1 m2 i (hi ν' hν);have hne:j≠i:=fun e=>by subst e; exact this hj
 simp only[AH.set];rw[if_neg hne];exact g.nb p m1 j hj
theorem qdb{α:Type}{l:List (Nat×α)}{d k:Nat}{v:α}(h:getL (rmL l d) k=some v):getL l k=some v:=(qo8 h).2
theorem q7a{v v':V}{S':AS}{a:AV}(h:γ S ν hB s)(he:freeze S v= .ok (v',S'))(hv:Is S ν v a):∃ ν' hB',Frz S ν hB s S' ν' hB'∧Is S' ν' v' a:=by
 have same:R.ok (v,S)=R.ok (v',S')→ ∃ ν' hB',Frz S ν hB s S' ν' hB'∧Is S' ν' v' a:=fun e=>by
  cases e; exact⟨ν,hB,.refl h,hv⟩
 unfold freeze at he;split at he
 · rename_i c o n m0
   split at he
   · rename_i m ty kn hc
     split at he
     · rename_i h1 h2
       cases he;simp only[zbf]at h2;obtain⟨⟨b1,b2⟩,b3⟩:=h2;have v0:=fun ν' (hν:Ag S.ns ν ν')=>hv ν' hν
       simp only[cv]at v0;have a0:=v0 ν (.refl _ _)
       have hname:∀ ν',Ag S.ns ν ν'→ν'.n c=ν.n c∧(o.ev ν'.i).toNat=(o.ev ν.i).toNat∧(n.ev ν'.i).toNat=(n.ev ν.i).toNat∧(m0.ev ν'.i).toNat=(m0.ev ν.i).toNat:=fun ν' hν=>by
        have:=v0 ν' hν;rw[←a0]at this;simp only[AV.slice.injEq,zbe,zbt,Cap.exact.injEq]at this;exact⟨this.1.1,this.1.2,this.2.1,this.2.2⟩
       obtain⟨cs,g1,g2,_⟩:=h.self.hp (c,_) (q05 hc);obtain⟨gg,l1⟩:=z3i h hc (fun ν' hν=>by simp only[nameOf,(hname ν' hν).1]) g1
       have o0:=q01 h b1;have n0:=q01 h b2;refine⟨ν.set S.ns (n.ev ν.i) 0 a,hB.set (ν.n c) (.own cs),⟨q1o _ _ _ _ _,zcb _,l1,?_,fun c k hk=>qdb hk,rfl,rfl,rfl⟩,fun ν' hν=>?_⟩
       · refine qzg (S:={S with hp:=rmL S.hp c}) (es:=[_,_,_]) (fs:=[_]) gg fun ν' hν x1 x2 x3=>⟨fun e he=>?_,fun f hf=>?_⟩
         · have n1:=n0 ν' hν
           have n2:=n0 ν (.refl _ _);have n3:=(hname ν' hν).2.2.1;rw[ev_k]at n1 n2;simp only at x1;simp only[zbm,zc6,or_false]at he;rcases he with rfl | rfl | rfl
           · rw[ev_s,x1]; exact n2
           · rw[q0y,ev_s,x1]; omega
           · rw[q0y,ev_s,x1]; omega
         · simp only[zbm,zc6,or_false]at hf
           subst hf;have n2:=n0 ν (.refl _ _);rw[ev_k]at n2;simp only at x1 x3;refine⟨some (ν.n c,(o.ev ν.i).toNat),(n.ev ν.i).toNat,.exact (m0.ev ν.i).toNat,x3.trans a0.symm,by rw[x1]; omega,fun hle=>⟨_,rfl,?_⟩,fun hn=>?_⟩
           · have:=q01 h hle ν (.refl _ _)
             omega
           · obtain⟨cs',g1',g2',_⟩:=(h.g ν' hν).hp (c,_) (q05 hc)
             simp only[(hname ν' hν).1]at g1';rw[g1]at g1';cases g1';obtain⟨z0,c1,c2,e1,e2,e3,e4⟩:=g2';simp only[SgOk]at e4;subst e4;rw[zcr]at e1;subst e1;have o1:=o0 ν' hν;have b3':=q01 h b3 ν' hν;have n1:=n0 ν' hν;have nm:=hname ν' hν;rw[ev_k]at o1 n1;rw[q4p,q2b,q2b]at b3'
             have hle:(o.ev ν.i).toNat+(n.ev ν.i).toNat * ty.length≤cs.length:=by
              rw[e2,←nm.2.1,←nm.2.2.1];have t1:((o.ev ν'.i).toNat:Int)=o.ev ν'.i:=by omega
              have t2:((n.ev ν'.i).toNat:Int)=n.ev ν'.i:=by omega
              have t3:((m.ev ν'.i).toNat:Int)=m.ev ν'.i:=by omega
              rw[←t1,←t2,←t3]at b3';have:(((o.ev ν'.i).toNat+ty.length * (n.ev ν'.i).toNat:Nat):Int)≤((ty.length * (m.ev ν'.i).toNat:Nat):Int):=by push_cast; exact b3'
              have:=Int.ofNat_le.1 this;rw[Nat.mul_comm (n.ev ν'.i).toNat,Nat.mul_comm (m.ev ν'.i).toNat]; exact this
             refine⟨ν.n c,(o.ev ν.i).toNat,cs,rfl,q71 (by simp[AH.set]),hle,fun q hq=>?_⟩
             have hlt:(o.ev ν.i).toNat+q<cs.length:=by omega
             refine⟨cs[(o.ev ν.i).toNat+q],zcg hlt,?_⟩;have:=e3 _ _ (zcg hlt);have hm:=qbp h1 o1;rw[nm.2.1]at hm;rw[Nat.add_mod,hm,zbv,Nat.mod_mod]at this;exact this.le l1
       · have:=hν S.ns (zc0 _)
         simp only[Va.set,if_true]at this;simp only[cv]; exact this.2.2.1
     · cases he
   · cases he
 · rename_i c
   split at he
   · rename_i ty hb
     cases he;obtain⟨kn0,hc⟩:=q2n hb;have v0:=fun ν' (hν:Ag S.ns ν ν')=>hv ν' hν
     simp only[cv]at v0;obtain⟨⟨n,en,hcase⟩,_⟩:=h.self.hp (c,_) (q05 hc);rcases hcase with⟨rfl,ha⟩ | ⟨i,cs,ha,g1,g2,g3⟩
     · refine⟨ν,hB,⟨.refl _ _,zbi _,.refl _,?_,fun c k hk=>qdb hk,rfl,rfl,rfl⟩,hv⟩
       refine γ_fa (S:={S with hp:=rmL S.hp c}) (fs:=[_]) (γ_rm h) fun ν' hν f hf=>?_
       simp only[zbm,zc6,or_false]at hf;subst hf;obtain⟨⟨n',en',hc'⟩,_⟩:=(h.g ν' hν).hp (c,_) (q05 hc);have e1:ν'.a c= .slice none 0 (.exact 0):=by rw[v0 ν' hν,←v0 ν (.refl _ _)]; exact ha
       rcases hc' with⟨rfl,_⟩ | ⟨_,_,x,_⟩
       · exact⟨none,0,_,e1,en',(fun h=>by cases h),(fun h=>by omega)⟩
       · rw[e1]at x; cases x
     · have nm:∀ ν',Ag S.ns ν ν'→ν'.a c= .slice (some (i,0)) n (.grow 0):=fun ν' hν=>by rw[v0 ν' hν,←v0 ν (.refl _ _)]; exact ha
       obtain⟨gg,l1⟩:=z3i h hc (fun ν' hν=>by simp only[nameOf,nm ν' hν]) g1
       refine⟨ν,hB.set i (.grow ty.length cs),⟨.refl _ _,zbi _,l1,?_,fun c k hk=>qdb hk,rfl,rfl,rfl⟩,hv⟩
       refine γ_fa (S:={S with hp:=rmL S.hp c}) (fs:=[_]) gg fun ν' hν f hf=>?_
       simp only[zbm,zc6,or_false]at hf;subst hf;obtain⟨⟨n',en',hc'⟩,_⟩:=(h.g ν' hν).hp (c,_) (q05 hc);have e1:=nm ν' hν;rcases hc' with⟨_,x⟩ | ⟨i',cs',x,g1',g2',g3'⟩
       · rw[e1]at x; cases x
       · rw[e1]at x
         simp only[AV.slice.injEq,zbe,zbt,and_true]at x;obtain⟨x1,x2⟩:=x;subst x1; subst x2;rw[g1]at g1';simp only[zbe,Chunk.grow.injEq,true_and]at g1';subst g1';refine⟨_,n,_,e1,en',(fun h=>by cases h),fun hn=>⟨i,0,cs,rfl,q7y (e:=ty.length) (by simp[AH.set]),by omega,fun q hq=>?_⟩⟩
         have hlt:q<cs.length:=by omega
         exact⟨cs[q],by rw[zbv]; exact zcg hlt,(g3' q _ (zcg hlt)).le l1⟩
   · exact same he
 · exact same he
theorem q2m:∀ {vs vs':List V} {S S':AS} {ν:Va} {hB:AH} {as:List AV},γ S ν hB s→q97 S vs= .ok (vs',S')→(∀ ν',Ag S.ns ν ν'→cvL ν' vs=as)→
 ∃ ν' hB',Frz S ν hB s S' ν' hB'∧ ∀ ν'',Ag S'.ns ν' ν''→cvL ν'' vs'=as
 | [],vs',S,S',ν,hB,as,h,he,hv=>by
   cases he; exact⟨ν,hB,.refl h,hv⟩
 | v :: r,vs',S,S',ν,hB,as,h,he,hv=>by
   obtain⟨⟨v1,S1⟩,e1,he⟩:=R.zak he;obtain⟨⟨r1,S2⟩,e2,he⟩:=R.zak he;cases he;have hv0:=hv ν (.refl _ _);have hv0:cv ν v :: cvL ν r=as:=by simpa only[cvL]using hv0
   have hv:∀ ν',Ag S.ns ν ν'→cv ν' v :: cvL ν' r=as:=fun ν' hν=>by have:=hv ν' hν; simpa only[cvL]using this
   obtain⟨ν1,hB1,f1,i1⟩:=q7a (a:=cv ν v) h e1 fun ν' hν=>by
    have:=hv ν' hν; rw[←hv0]at this; exact(List.cons.inj this).1
   obtain⟨ν2,hB2,f2,i2⟩:=q2m (as:=cvL ν r) f1.g e2 fun ν' hν=>by
    have:=hv ν' (f1.ag.trans hν f1.ns); rw[←hv0]at this; exact(List.cons.inj this).2
   refine⟨ν2,hB2,f1.trans f2,fun ν'' hν=>?_⟩
   show cv ν'' v1 :: cvL ν'' r1=as;rw[i1 ν'' (f2.ag.trans hν f2.ns),i2 ν'' hν,hv0]
theorem qzi{k:Nat}{v:V}{a:AV}(h:γ S ν hB s)(hk:lk s.slots k=some a)(hv:Is S ν v a):γ (S.put k v) ν hB s:=by
 refine⟨h.n,h.le,fun ν' hg=>?_⟩
 obtain⟨g1,g2,g3,g4,g5,g6,g7⟩:=h.g ν' hg;refine⟨fun j w hj=>?_,g2,g3,g4,g5,g6,g7⟩
 simp only[AS.put,q0h,q0c]at hj;split at hj
 · rename_i hb
   have:k=j:=zbg hb;simp only[zbe]at hj;subst this; subst hj;rw[hv ν' hg]; exact hk
 · exact g1 j w (qdb hj)
theorem q6l(h:γ S ν hB s){k:Nat}{v:V}(hk:getL S.sl k=some v):∃ a,lk s.slots k=some a∧Is S ν v a:=by
 refine⟨cv ν v,h.self.sl k v hk,fun ν' hν=>?_⟩
 have h1:=h.self.sl k v hk;have h2:=(h.g ν' hν).sl k v hk;rw[h1]at h2;exact(zbz h2).symm
theorem qbu{a:LAnn}{n0:Nat}:∀ {l:List (Nat×V)} {S S':AS} {ν:Va} {hB:AH},γ S ν hB s→prep a n0 S l= .ok S'→Go S ν hB S' s
 | [],S,S',ν,hB,h,he=>by cases he; exact .refl h
 | (k,p) :: r,S,S',ν,hB,h,he=>by
   have other:prep a n0 S r= .ok S'→Go S ν hB S' s:=fun he=>qbu h he
   cases p with
   | sym c=>
     simp only[prep]at he;split at he
     · exact other he
     · split at he
       · rename_i v hv
         obtain⟨⟨v1,S1⟩,e1,he⟩:=R.zak he;obtain⟨a0,k1,k2⟩:=q6l h hv;obtain⟨ν1,hB1,f1,i1⟩:=q7a h e1 k2;exact Go.trans (S1:=S1.put k v1) (s1:=s) f1.ag f1.ns f1.le (qbu (qzi f1.g k1 i1) he)
       · cases he
   | _=>exact other he
section
variable{a:LAnn}{n0:Nat}
def PS(n0:Nat)(a:LAnn)(s:St)(l m:List Sg):Prop:= ∀ (m':List Sg) (S S':AS) (ν:Va) (hB:AH) (cs:List AV),γ S ν hB s→q8u n0 a S l m= .ok (m',S')→(∀ ν',Ag S.ns ν ν'→SgOk ν' hB m cs)→
    ∃ ν' hB',Frz S ν hB s S' ν' hB'∧ ∀ ν'',Ag S'.ns ν' ν''→SgOk ν'' hB' m' cs
theorem qy1{v:V}{m:List Sg}{cs:List AV}(hm:∀ ν',Ag S.ns ν ν'→SgOk ν' hB (.one v :: m) cs):∃ cs0,cs=cv ν v :: cs0∧ ∀ ν',Ag S.ns ν ν'→cv ν' v=cv ν v∧SgOk ν' hB m cs0:=by
 obtain⟨cs0,q1,q2⟩:=hm ν (.refl _ _);refine⟨cs0,q1,fun ν' hν=>?_⟩
 obtain⟨cs1,q3,q4⟩:=hm ν' hν;rw[q1]at q3;obtain⟨q5,q6⟩:=List.cons.inj q3;exact⟨q5.symm,by rw[q6]; exact q4⟩
theorem z38{v:V}{r m:List Sg}{m':List Sg}{S S':AS}{ν:Va}{hB:AH}{cs:List AV}(ih:PS n0 a s r m)(h:γ S ν hB s)(he:(q8u n0 a S r m).bind (fun q=>R.ok (.one v :: q.1,q.2))= .ok (m',S'))(hm:∀ ν',Ag S.ns ν ν'→SgOk ν' hB (.one v :: m) cs):
 ∃ ν' hB',Frz S ν hB s S' ν' hB'∧ ∀ ν'',Ag S'.ns ν' ν''→SgOk ν'' hB' m' cs:=by
 obtain⟨⟨m1,S1⟩,e1,he⟩:=R.zak he;cases he;obtain⟨cs0,q1,hh⟩:=qy1 hm;obtain⟨ν1,hB1,f1,i1⟩:=ih _ _ _ _ _ _ h e1 fun ν' hν=>(hh ν' hν).2
 exact⟨ν1,hB1,f1,fun ν'' hν=>⟨cs0,by rw[(hh ν'' (f1.ag.trans hν f1.ns)).1]; exact q1,i1 ν'' hν⟩⟩
theorem z8h{n:Lin}{ty:List AT}{c:Int}{r m:List Sg}{m':List Sg}{S S':AS}{ν:Va}{hB:AH}{cs:List AV}(hn:n.isK=some c)(ih:PS n0 a s r m)(h:γ S ν hB s)(he:(q8u n0 a S r m).bind (fun q=>R.ok (.arr n ty :: q.1,q.2))= .ok (m',S'))(hm:∀ ν',Ag S.ns ν ν'→SgOk ν' hB (.arr n ty :: m) cs):
 ∃ ν' hB',Frz S ν hB s S' ν' hB'∧ ∀ ν'',Ag S'.ns ν' ν''→SgOk ν'' hB' m' cs:=by
 obtain⟨⟨m1,S1⟩,e1,he⟩:=R.zak he;cases he
 have hh:∀ ν',Ag S.ns ν ν'→SgOk ν' hB m (cs.drop (c.toNat * ty.length)):=fun ν' hν=>by
  obtain⟨z0,c1,c2,q1,q2,q3,q4⟩:=hm ν' hν;rw[q1l hn]at q2;rw[q1,←q2,List.drop_left]; exact q4
 obtain⟨ν1,hB1,f1,i1⟩:=ih _ _ _ _ _ _ h e1 hh;refine⟨ν1,hB1,f1,fun ν'' hν=>?_⟩
 obtain⟨z0,c1,c2,q1,q2,q3,q4⟩:=hm ν'' (f1.ag.trans hν f1.ns);refine⟨z0,c1,c2,q1,q2,fun q w hq=>(q3 q w hq).le f1.le,?_⟩
 have:=i1 ν'' hν;rw[q1l hn]at q2;rwa[q1,←q2,List.drop_left]at this
theorem q7j:∀ {l m:List Sg},PS n0 a s l m
 | [],m=>fun m' S S' ν hB cs h he hm=>by cases m<;>(cases he; exact⟨ν,hB,.refl h,hm⟩)
 | x :: r,[]=>fun m' S S' ν hB cs h he hm=>by
   cases x<;>first | (cases he; exact⟨ν,hB,.refl h,hm⟩) | (rename_i v; cases v<;>(cases he; exact⟨ν,hB,.refl h,hm⟩))
 | x :: r,.one v :: m=>fun m' S S' ν hB cs h he hm=>by
   have ih:=q7j (l:=r) (m:=m);have other:=fun he=>z38 (v:=v) (m':=m') (S':=S') ih h he hm
   cases x with
   | arr n ty=>exact other he
   | one w=>
     cases w with
     | sym c=>
       simp only[q8u]at he;split at he
       · exact other he
       · obtain⟨⟨v1,S1⟩,e1,he⟩:=R.zak he
         obtain⟨cs0,q1,hh⟩:=qy1 hm;obtain⟨ν1,hB1,f1,i1⟩:=q7a (a:=cv ν v) h e1 fun ν' hν=>(hh ν' hν).1
         obtain⟨ν2,hB2,f2,i2⟩:=z38 ih f1.g he (cs:=cs) fun ν' hν=>⟨cs0,by rw[i1 ν' hν]; exact q1,(hh ν' (f1.ag.trans hν f1.ns)).2.le f1.le⟩
         exact⟨ν2,hB2,f1.trans f2,i2⟩
     | _=>exact other he
 | x :: r,.arr n ty :: m=>fun m' S S' ν hB cs h he hm=>by
   have ih:=q7j (l:=r) (m:=m)
   have main:(match n.isK with
    | some _=>(q8u n0 a S r m).bind fun q=>R.ok (Sg.arr n ty :: q.1,q.2)
    | none=>R.ok (Sg.arr n ty :: m,S))= .ok (m',S')→ ∃ ν' hB',Frz S ν hB s S' ν' hB'∧ ∀ ν'',Ag S'.ns ν' ν''→SgOk ν'' hB' m' cs:=fun he=>by
    split at he
    · rename_i c hc
      exact z8h hc ih h he hm
    · cases he
      exact⟨ν,hB,.refl h,hm⟩
   cases x with
   | arr n ty=>exact main he
   | one w=>cases w<;>exact main he
theorem q7i:∀ {l:List (Nat×Ck)} {S S':AS} {ν:Va} {hB:AH},γ S ν hB s→n0≤S.ns→qfv n0 a S l= .ok S'→Go S ν hB S' s
 | [],S,S',ν,hB,h,_,he=>by cases he; exact .refl h
 | (c,k) :: r,S,S',ν,hB,h,hn,he=>by
   have other:qfv n0 a S r= .ok S'→Go S ν hB S' s:=fun he=>q7i h hn he
   cases k with
   | own l k0=>
     simp only[qfv]at he;split at he
     · rename_i m kn hb hc
       obtain⟨⟨m1,S1⟩,e1,he⟩:=R.zak he;have hcl:c<S.ns:=zcm (q0e.1 hb) hn;obtain⟨cs,g1,g2,g3⟩:=h.self.hp (c,_) (q05 hc)
       have hcs:∀ ν',Ag S.ns ν ν'→SgOk ν' hB m cs∧KnOk ν' cs kn:=fun ν' hν=>by
        obtain⟨cs',g1',g2',g3'⟩:=(h.g ν' hν).hp (c,_) (q05 hc);simp only[(hν c hcl).2.1]at g1';rw[g1]at g1'; cases g1';exact⟨g2',g3'⟩
       obtain⟨ν1,hB1,f1,i1⟩:=q7j _ _ _ _ _ _ h e1 fun ν' hν=>(hcs ν' hν).1
       have g':γ {S1 with hp:=setL S1.hp c (.own m1 kn)} ν1 hB1 s:=by
        cases hc1:getL S1.hp c with
        | none=>rw[setL_none hc1]; exact f1.g
        | some k1=>
          have e:=f1.hp c k1 hc1;rw[hc]at e; cases e;refine q6s (h':=s.h) (i:=ν.n c) f1.g hc1 (fun ν' hν=>?_) (But.same _ _) fun ν' hν=>?_
          · have:=((f1.ag.trans hν f1.ns) c hcl).2.1
            simp only[nameOf,this,and_self]
          · have:=((f1.ag.trans hν f1.ns) c hcl).2.1
            exact⟨cs,by rw[this]; exact g1,i1 ν' hν,(hcs ν' (f1.ag.trans hν f1.ns)).2⟩
       exact Go.trans (S1:={S1 with hp:=setL S1.hp c (.own m1 kn)}) (s1:=s) f1.ag f1.ns f1.le (q7i g' (zbo hn f1.ns) he)
     · exact other he
   | _=>exact other he
where setL_none {c:Nat} {k:Ck}:∀ {l:List (Nat×Ck)},getL l c=none→setL l c k=l
 | [],_=>rfl
 | p :: r,h=>by
   simp only[q0h,q0c]at h;simp only[qaw,q7m];split at h
   · cases h
   · rename_i hb
     rw[setL_none h]
end
end
end Go.K
namespace Go.K
open Go Go.J
noncomputable section
theorem q6f{α:Type}{w:String}{x:Option α}{f:α→Bool}{u:Unit}(h:qjn w x f= .ok u):∃ a,x=some a∧f a=true:=by
 unfold qjn at h;split at h
 · exact⟨_,rfl,q02 h⟩
 · cases h
theorem qlm{σ:Sb}{S:AS}:∀ {l:List (Nat×V)} {u:Unit},z4l σ S l= .ok u→ ∀ p∈l,∃ v' w,p.2.sb σ=some v'∧getL S.sl p.1=some w∧v'.eq w=true
 | [],_,_,p,hp=>by cases hp
 | q :: r,u,h,p,hp=>by
   obtain⟨_,h1,h2⟩:=R.zak h;rcases zbm.1 hp with rfl | hp
   · split at h1
     · rename_i v hv
       obtain⟨a,e1,e2⟩:=q6f h1;exact⟨a,v,e1,hv,e2⟩
     · cases h1
   · exact qlm h2 p hp
theorem qep{σ:Sb}{S:AS}:∀ {l:List Lin} {u:Unit},z4j σ S l= .ok u→ ∀ e∈l,∃ e',e.sb σ=some e'∧S.pv e'=true
 | [],_,_,p,hp=>by cases hp
 | q :: r,u,h,p,hp=>by
   obtain⟨_,h1,h2⟩:=R.zak h;rcases zbm.1 hp with rfl | hp
   · exact q6f h1
   · exact qep h2 p hp
def z3l(σ:Sb)(S:AS)(p:Nat×Ck):Prop:=
 (p.1<σ.n0∧ ∃ k,getL S.hp p.1=some k∧z0b σ S p.2 k=true)∨
 (¬ p.1<σ.n0∧ ∃ t,p.2= .bld t []∧(σ.get p.1=some (.av .nils)∨ ∃ d u t',σ.get p.1=some (.av (.sym d))∧qbi S d=some u∧sbT σ t=some t'∧q3q S u t'=true))
theorem qer{σ:Sb}{S:AS}:∀ {l:List (Nat×Ck)} {u:Unit},z4k σ S l= .ok u→ ∀ p∈l,z3l σ S p
 | [],_,_,p,hp=>by cases hp
 | q :: r,u,h,p,hp=>by
   obtain⟨_,h1,h2⟩:=R.zak h;rcases zbm.1 hp with rfl | hp
   · split at h1
     · rename_i hb
       refine .inl ⟨q0e.1 hb,?_⟩;split at h1
       · rename_i k hk
         exact⟨k,hk,q02 h1⟩
       · cases h1
     · rename_i hb
       refine .inr ⟨q2r hb,?_⟩;split at h1
       · rename_i t e1 e2; exact⟨t,e1,.inl e2⟩
       · rename_i t d e1 e2
         split at h1
         · rename_i u hu
           obtain⟨t',x1,x2⟩:=q6f h1;exact⟨t,e1,.inr ⟨d,u,t',e2,hu,x1,x2⟩⟩
         · cases h1
       · cases h1
   · exact qer h2 p hp
theorem qxm{a b:Option Code}(h:pdEq a b=true):a=b:=by
 unfold pdEq at h;split at h
 · rfl
 · rfl
 · rw[zbg h]
 · cases h
theorem z56:∀ {a b:Lf},lfEq a b=true→a=b
 | .bool,b,h=>by cases b<;>simp_all [lfEq]
 | .int k,b,h=>by
   cases b with
   | int j=>rw[q6c (k:=k) (j:=j) h]
   | _=>simp[lfEq]at h
 | .str,b,h=>by cases b<;>simp_all [lfEq]
theorem qr5:∀ {a b:List Lf},qt4 a b=true→a=b
 | [],[],_=>rfl
 | [],_ :: _,h=>by simp[qt4]at h
 | _ :: _,[],h=>by simp[qt4]at h
 | x :: a,y :: b,h=>by
   simp only[qt4,zbf]at h;rw[z56 h.1,qr5 h.2]
theorem qoi:∀ {a b:KeyKind},kkEq a b=true→a=b
 | .int k,b,h=>by
   cases b with
   | int j=>rw[q6c (k:=k) (j:=j) h]
   | _=>simp[kkEq]at h
 | .str,b,h=>by cases b<;>simp_all [kkEq]
 | .wide l,b,h=>by
   cases b with
   | wide m=>rw[qr5 (a:=l) (b:=m) h]
   | _=>simp[kkEq]at h
section fit
variable{σ:Sb}{S:AS}{ν ν1:Va}{hB:AH}{s:St}
theorem q96(hn:σ.n0≤σ.n1)(hg:Ov σ ν ν1)(h:γ S ν hB s):∀ {a b:List Sg} {cs:List AV},qes σ S a b=true→SgOk ν hB b cs→SgOk ν1 hB a cs
 | [],[],cs,_,hc=>hc
 | [],_ :: _,_,hf,_=>by simp[qes]at hf
 | .one _ :: _,[],_,hf,_=>by simp[qes]at hf
 | .arr _ _ :: _,[],_,hf,_=>by simp[qes]at hf
 | .one a :: r,.one b :: m,cs,hf,hc=>by
   simp only[qes,zbf]at hf;obtain⟨h1,h2⟩:=hf;obtain⟨cs0,e1,e2⟩:=hc;split at h1
   · rename_i a' ha
     refine⟨cs0,?_,q96 hn hg h h2 e2⟩;rw[v_sb hn hg ha,qb2 h1]; exact e1
   · cases h1
 | .one _ :: _,.arr _ _ :: _,_,hf,_=>by simp[qes]at hf
 | .arr _ _ :: _,.one _ :: _,_,hf,_=>by simp[qes]at hf
 | .arr n t :: r,.arr m u :: l,cs,hf,hc=>by
   simp only[qes,zbf]at hf;obtain⟨h1,h2⟩:=hf;obtain⟨z0,c1,c2,e1,e2,e3,e4⟩:=hc;split at h1
   · rename_i n' t' hn' ht'
     simp only[zbf]at h1;have e:=q2h h1.1;subst e;have l1:=q22 ht';have l2:=q1q h1.2;have el:n.ev ν1.i=n'.ev ν.i:=q1e hn hg hn';refine⟨by rw[el]; exact z0,c1,c2,e1,by rw[el,e2,l2,l1],fun q w hq=>?_,q96 hn hg h h2 e4⟩
     have:=e3 q w hq;rw[l2,l1]at this;exact q9r hn hg ht' (q12 h (.refl _ _) h1.2 this)
   · cases h1
theorem qhk(hn:σ.n0≤σ.n1)(hg:Ov σ ν ν1){cs:List AV}{kb:List (Lin×V)}(hk:KnOk ν cs kb):∀ {ka:List (Lin×V)},knIn σ kb ka=true→KnOk ν1 cs ka
 | [],_=>fun p hp=>by cases hp
 | q :: r,h=>by
   simp only[knIn,zbf]at h;obtain⟨h1,h2⟩:=h;intro p hp;rcases zbm.1 hp with rfl | hp
   · split at h1
     · rename_i o w ho hw
       split at h1
       · rename_i v hv
         have hm:=hk _ (q5p hv);simp only at hm;rw[q1e hn hg ho,v_sb hn hg hw,←qb2 h1]; exact hm
       · cases h1
     · cases h1
   · exact qhk hn hg hk h2 p hp
theorem qwk(hn:σ.n0≤σ.n1)(hg:Ov σ ν ν1){hh:AH}{c:Nat}{t u:List AT}{kb:List (Lin×V)}(o3:ν1.a c=ν.a c)(hl:t.length=u.length)(hk:KnB ν hh c u kb):∀ {ka:List (Lin×V)},knIn σ kb ka=true→KnB ν1 hh c t ka
 | [],_=>fun p hp=>by cases hp
 | q :: r,h=>by
   simp only[knIn,zbf]at h;obtain⟨h1,h2⟩:=h;intro p hp;rcases zbm.1 hp with rfl | hp
   · split at h1
     · rename_i o w ho hw
       split at h1
       · rename_i v hv
         have hm:=hk _ (q5p hv);simp only at hm;rw[q1e hn hg ho,v_sb hn hg hw,←qb2 h1,o3,hl]; exact hm
       · cases h1
     · cases h1
   · exact qwk hn hg o3 hl hk h2 p hp
theorem qo5(hn:σ.n0≤σ.n1)(hg:Ov σ ν ν1)(h:γ S ν hB s){hh:AH}{c:Nat}(hc:c<σ.n0){a b:Ck}(hf:z0b σ S a b=true)(hk:okC ν hB hh c b):okC ν1 hB hh c a∧nameOf ν1 (c,a)=nameOf ν (c,b):=by
 obtain⟨o1,o2,o3,o4⟩:=q3r hn hg hc;unfold z0b at hf;split at hf
 · rw[zbf]at hf
   obtain⟨cs,k1,k2,k3⟩:=hk;exact⟨⟨cs,by rw[o2]; exact k1,q96 hn hg h hf.1 k2,qhk hn hg k3 hf.2⟩,by simp only[nameOf,o2]⟩
 · split at hf
   · rename_i n' p' h1 h2
     rw[zbf]at hf;obtain⟨s',p,k1,k2,k3⟩:=hk;exact⟨⟨s',p,by rw[o2]; exact k1,by rw[q1e hn hg h1,q2h hf.1]; exact k2,by rw[q1e hn hg h2,q2h hf.2]; exact k3⟩,by simp only[nameOf,o2]⟩
   · cases hf
 · rename_i k1 a1 t b1 k2 a2 u b2
   simp only[zbf]at hf;obtain⟨⟨⟨f1,f2⟩,f3⟩,f4⟩:=hf;have e1:=qoi f1;have e2:a1=a2:=by simpa using f2
   subst e1; subst e2;obtain⟨es,cl,m1,m2,m3,m4⟩:=hk;split at f3
   · rename_i t' ht'
     have l1:=q22 ht';have l2:=q1q f3;refine⟨⟨es,cl,by rw[o2]; exact m1,m2,fun e he=>?_,fun x hx=>?_⟩,by simp only[nameOf,o2]⟩
     · have:=m3 e he
       cases a1 with
       | true=>obtain⟨cs,z1,z2,z3⟩:=this; exact⟨cs,z1,by rw[z2,l2,l1],fun j w hw=>q9r hn hg ht' (q12 h (.refl _ _) f3 (z3 j w hw))⟩
       | false=>exact⟨by rw[←l1,←l2]; exact this.1,q9r hn hg ht' (q12 h (.refl _ _) f3 this.2)⟩
     · subst hx
       cases b2 with
       | none=>simp at f4
       | some y=>
         simp only[zbf]at f4;have e:=zbg f4.1;subst e;obtain⟨e,he,hb⟩:=m4 x rfl;exact⟨e,he,by rw[(q3r hn hg (q0e.1 f4.2)).1]; exact hb⟩
   · cases f3
 · rw[zbf]at hf
   have e:=zbg hf.1;have e2:=qxm hf.2;subst e; subst e2;obtain⟨X,k1,k2⟩:=hk;exact⟨⟨X,by rw[o4]; exact k1,by rw[o2]; exact k2⟩,by simp only[nameOf,o2]⟩
 · exact⟨(show hh.get (ν1.n c)=_ by rw[o2]; exact hk),by simp only[nameOf,o2]⟩
 · rw[zbf]at hf
   obtain⟨hf,hkn⟩:=hf;split at hf
   · rename_i t ka u kb t' ht'
     obtain⟨⟨n,k1,k2⟩,k3⟩:=hk;have l1:=q22 ht';have l2:=q1q hf;refine⟨⟨⟨n,by rw[o1]; exact k1,?_⟩,qwk hn hg o3 (by rw[←l1,←l2]) k3 hkn⟩,by simp only[nameOf,o3]⟩
     rcases k2 with⟨z,k2⟩ | ⟨i,cs,k2,k3,k4,k5⟩
     · exact .inl ⟨z,by rw[o3]; exact k2⟩
     · refine .inr ⟨i,cs,by rw[o3]; exact k2,by rw[←l1,←l2]; exact k3,by rw[←l1,←l2]; exact k4,fun q w hq=>?_⟩
       have:=k5 q w hq;rw[l2,l1]at this;exact q9r hn hg ht' (q12 h (.refl _ _) hf this)
   · cases hf
 · cases hf
def keyOf(σ:Sb)(p:Nat×Ck):Option Nat:=match Nat.blt p.1 σ.n0 with
 | true=>some p.1
 | false=>match σ.get p.1 with
   | some (.av (.sym d))=>some d
   | _=>none
theorem qhj{σ:Sb}:∀ {l:List (Nat×Ck)} {p:Nat×Ck} {k:Nat},p∈l→keyOf σ p=some k→k∈q58 σ l
 | [],_,_,h,_=>by cases h
 | q :: r,p,k,h,hk=>by
   have tail:p∈r→k∈q58 σ (q :: r):=fun h=>by
    have ih:=qhj h hk;simp only[q58];split
    · exact zbh _ ih
    · split
      · exact zbh _ ih
      · exact ih
   rcases zbm.1 h with rfl | h
   · unfold keyOf at hk
     simp only[q58];split at hk
     · rename_i hb
       rw[hb]; cases hk; simp
     · rename_i hb
       rw[hb];split at hk
       · rename_i d hd
         rw[hd]; cases hk; simp
       · cases hk
   · exact tail h
theorem qoh{σ:Sb}{p:Nat×Ck}{r:List (Nat×Ck)}:q58 σ (p :: r)=match keyOf σ p with
 | some k=>k :: q58 σ r
 | none=>q58 σ r:=by
 unfold keyOf;simp only[q58];cases hb:Nat.blt p.1 σ.n0 with
 | true=>rfl
 | false=>
   simp only;cases hd:σ.get p.1 with
   | none=>rfl
   | some x=>cases x with
     | av v=>cases v<;>rfl
     | _=>rfl
theorem qdl{k:Nat}:∀ {l:List Nat},memN k l=true↔k∈l
 | []=>by simp[z0q]
 | x :: r=>by
   simp only[qwy,zbu,qdl (l:=r),zbm,Nat.beq_eq];exact⟨fun h=>h.imp Eq.symm id,fun h=>h.imp Eq.symm id⟩
theorem qeq(hn:σ.n0≤σ.n1)(hg:Ov σ ν ν1)(h:γ S ν hB s){p:Nat×Ck}(hf:z3l σ S p):okC ν1 hB s.h p.1 p.2∧
 (nameOf ν1 p=none∨ ∃ k ck,keyOf σ p=some k∧getL S.hp k=some ck∧nameOf ν1 p=nameOf ν (k,ck)):=by
 obtain⟨c,a⟩:=p;rcases hf with⟨hc,k,hk,hf⟩ | ⟨hc,t,e,hf⟩
 · obtain⟨x1,x2⟩:=qo5 hn hg h hc hf (h.self.hp (c,k) (q05 hk))
   refine⟨x1,.inr ⟨c,k,?_,hk,x2⟩⟩;simp only[keyOf,q0e.2 hc]
 · simp only at e hc hf
   subst e
   have hb:Nat.blt c σ.n0=false:=by
    cases hb:Nat.blt c σ.n0 with
    | true=>exact absurd (q0e.1 hb) hc
    | false=>rfl
   rcases hf with hf | ⟨d,u,t',hf,hu,ht,hs⟩
   · have hx:=hg.new c (qch hf) hc
     have e1:ν1.i c=0:=by rw[hx.1]; simp[ovr,hc,hf,lenV,ev_k]
     have e2:ν1.a c= .slice none 0 (.exact 0):=by rw[hx.2]; simp[ovr,hc,hf,cv]
     exact⟨⟨⟨0,by rw[e1]; rfl,.inl ⟨rfl,e2⟩⟩,fun p hp=>by cases hp⟩,.inl (by simp only[nameOf,e2])⟩
   · have hx:=hg.new c (qch hf) hc
     have e1:ν1.i c=ν.i d:=by rw[hx.1]; simp[ovr,hc,hf,lenV,ev_s]
     have e2:ν1.a c=ν.a d:=by rw[hx.2]; simp[ovr,hc,hf,cv]
     obtain⟨kn0,hd⟩:=q2n hu;obtain⟨⟨n,k1,k2⟩,_⟩:=h.self.hp (d,_) (q05 hd);have l1:=q22 ht;have l2:=q1q hs;refine⟨⟨⟨n,by rw[e1]; exact k1,?_⟩,fun p hp=>by cases hp⟩,.inr ⟨d,.bld u kn0,?_,hd,by simp only[nameOf,e2]⟩⟩
     · rcases k2 with⟨z,k2⟩ | ⟨i,cs,k2,k3,k4,k5⟩
       · exact .inl ⟨z,by rw[e2]; exact k2⟩
       · refine .inr ⟨i,cs,by rw[e2]; exact k2,by rw[←l1,←l2]; exact k3,by rw[←l1,←l2]; exact k4,fun q w hq=>?_⟩
         have:=k5 q w hq;rw[l2,l1]at this;exact q9r hn hg ht (q12 h (.refl _ _) hs this)
     · simp only[keyOf,hb,hf]
theorem qqs(hn:σ.n0≤σ.n1)(hg:Ov σ ν ν1)(h:γ S ν hB s):∀ {l:List (Nat×Ck)},(∀ p∈l,z3l σ S p)→q5d (q58 σ l)=true→l.Pairwise (qb4 ν1)
 | [],_,_=> .nil
 | p :: r,hf,hd=>by
   rw[qoh]at hd;have ih:q5d (q58 σ r)=true→r.Pairwise (qb4 ν1):=qqs hn hg h fun q hq=>hf q (zbh _ hq)
   have hp:=(qeq hn hg h (hf p (by simp))).2
   refine zco.2 ⟨fun q hq i hi hj=>?_,?_⟩
   · rcases hp with hp | ⟨k,ck,x1,x2,x3⟩
     · rw[hp]at hi; cases hi
     · have hq':=(qeq hn hg h (hf q (zbh _ hq))).2
       rcases hq' with hq' | ⟨k',ck',y1,y2,y3⟩
       · rw[hq']at hj; cases hj
       · rw[x1]at hd
         simp only[q5d,zbf]at hd;have hm:=qhj hq y1
         have hne:k'≠k:=fun e=>by
          subst e;rw[qdl.2 hm]at hd;simp at hd
         have:=q6i h.self.dj x2 (q05 y2) hne i (by rw[←x3]; exact hi)
         rw[←y3]at this;exact this hj
   · apply ih
     split at hd
     · simp only[q5d,zbf]at hd; exact hd.2
     · exact hd
end fit
end
end Go.K
namespace Go.K
open Go Go.J
section fit
variable{σ:Sb}{S:AS}{ν ν1:Va}{hB:AH}{s:St}
theorem qll{σ:Sb}{S:AS}{P:Fa→Prop}(hP:∀ {f:Fa} {u:Unit},qsu σ S [f]= .ok u→P f):∀ {l:List Fa} {u:Unit},qsu σ S l= .ok u→ ∀ f∈l,P f
 | [],_,_,f,hf=>by cases hf
 | q :: r,u,h,f,hf=>by
   obtain⟨_,h1,h2⟩:=R.zak h;rcases zbm.1 hf with rfl | hf
   · exact hP (u:=()) (show(R.bind _ fun _=>qsu σ S [])=_ by rw[h1]; rfl)
   · exact qll hP h2 f hf
theorem q65(h:γ S ν hB s){c:Nat}:∀ {ty:List AT} {o:Lin},qiy S c o ty=true→ ∀ {j:Nat} {t:AT},nth ty j=some t→
 0≤o.ev ν.i+j∧ ∃ id off n k cs w,ν.a c= .slice (some (id,off)) n k∧hB.cells id=some cs∧cs[off+(o.ev ν.i+j).toNat]?=some w∧okT ν hB t w
 | [],_,_,j,t,ht=>by cases j<;>simp[nth]at ht
 | x :: r,o,hc,j,t,ht=>by
   simp only[qiy,zbf]at hc;obtain⟨h1,h2⟩:=hc;cases j with
   | zero=>
     simp only[nth,zbe]at ht; subst ht;split at h1
     · rename_i v hv
       obtain⟨k0,id,off,n,k,cs,k1,k2,k3⟩:=q0p h.self.fa hv;refine⟨by simpa using k0,id,off,n,k,cs,_,k1,k2,by simpa using k3,q80 h h1 (.refl _ _)⟩
     · cases h1
   | succ j=>
     simp only[nth]at ht;have:=q65 h h2 ht;rw[q0f]at this;have e:o.ev ν.i+1+(j:Int)=o.ev ν.i+((j+1:Nat):Int):=by push_cast; omega
     rw[e]at this;exact this
theorem qp7(h:γ S ν hB s){c:Nat}{e:Lin}{ty:List AT}(hp:z5v S c e ty=true):okF ν hB (.pre c e ty):=by
 intro p n k ha q q1 q2;simp only[z5v,zbu,List.any_eq_true]at hp
 have hz:0<ty.length:=by
  rcases zc5 ty.length with h0 | h0
  · rw[h0]at q2; simp at q2
  · exact h0
 rcases hp with hp | ⟨f,hf,hp⟩
 · have:=q01 h hp ν (.refl _ _)
   rw[ev_k]at this;have:e.ev ν.i * ty.length≤0:=Int.mul_nonpos_of_nonpos_of_nonneg this (by omega)
   omega
 · have hF:=h.self.fa f hf
   split at hp
   · rename_i d e0 ty0
     simp only[zbf,zbu]at hp;obtain⟨⟨hc,hs⟩,hp⟩:=hp;have ec:=zbg hc;subst ec;have hl:=q1q hs
     have old:(q:Int)<e0.ev ν.i * ty.length→ ∃ id off cs w,p=some (id,off)∧hB.cells id=some cs∧cs[off+q]?=some w∧okN ν hB ty (q % ty.length) w:=fun hq=>by
      obtain⟨id,off,cs,w,k1,k2,k3,k4⟩:=hF p n k ha q (by rw[hl]; exact hq) (by rw[hl]; exact q2)
      rw[hl]at k4;exact⟨id,off,cs,w,k1,k2,k3,q12 h (.refl _ _) hs k4⟩
     rcases hp with hp | ⟨hp,hk⟩
     · have:=q01 h hp ν (.refl _ _)
       have:e.ev ν.i * ty.length≤e0.ev ν.i * ty.length:=Int.mul_le_mul_of_nonneg_right this (by omega)
       exact old (by omega)
     · rcases Int.lt_or_le (q:Int) (e0.ev ν.i * ty.length)with hq | hq
       · exact old hq
       · have h1:=q01 h hp ν (.refl _ _)
         rw[q0f]at h1;have h2:e.ev ν.i * ty.length≤(e0.ev ν.i+1) * ty.length:=Int.mul_le_mul_of_nonneg_right h1 (by omega)
         rw[Int.add_mul,Int.one_mul]at h2;obtain⟨j,hj⟩:∃ j:Nat,(q:Int)=e0.ev ν.i * ty.length+j:=⟨((q:Int) - e0.ev ν.i * ty.length).toNat,by omega⟩
         have hjl:j<ty.length:=by omega
         obtain⟨t,ht⟩:∃ t,nth ty j=some t:=by
          have:∀ (l:List AT) (j:Nat),j<l.length→ ∃ t,nth l j=some t:=by
           intro l
           induction l with
           | nil=>intro j h; simp at h
           | cons x r ih=>intro j h; cases j with
             | zero=>exact⟨x,rfl⟩
             | succ j=>exact ih j (by simpa using h)
          exact this ty j hjl
         obtain⟨k0,id,off,n',k',cs,w,k1,k2,k3,k4⟩:=q65 h hk ht;have k0':=(q65 h hk (j:=0) (t:=ty.head (by intro e; rw[e]at hz; simp at hz)) (by cases ty with | nil=>simp at hz | cons x r=>rfl)).1
         rw[q2b]at k0 k0' k3;rw[ha]at k1;simp only[AV.slice.injEq]at k1;have eq1:(ty.length:Int) * e0.ev ν.i+(j:Int)=q:=by rw[Int.mul_comm]; omega
         rw[eq1]at k3
         have e0n:0≤e0.ev ν.i:=by
          rcases Int.lt_or_le (e0.ev ν.i) 0 with hn | hn
          · exfalso
            have:(ty.length:Int) * e0.ev ν.i≤(ty.length:Int) * (-1):=Int.mul_le_mul_of_nonneg_left (by omega) (by omega)
            simp only[Int.natCast_zero,Int.add_zero]at k0';omega
          · exact hn
         have hqm:q % ty.length=j:=by
          obtain⟨m,hm⟩:∃ m:Nat,e0.ev ν.i=m:=⟨(e0.ev ν.i).toNat,by omega⟩
          have:q=m * ty.length+j:=by
           rw[hm]at hj;have:((q:Nat):Int)=((m * ty.length+j:Nat):Int):=by push_cast; exact hj
           exact Int.ofNat.inj this
          rw[this,Nat.mul_comm,Nat.mul_add_mod,Nat.mod_eq_of_lt hjl]
         refine⟨id,off,cs,w,k1.1,k2,by simpa using k3,?_⟩
         rw[hqm]; exact(q9g ht).2 k4
   · rename_i d ex ty0
     simp only[zbf]at hp;obtain⟨hc,hs⟩:=hp;have ec:=zbg hc;subst ec;have hl:=q1q hs;obtain⟨p',n',k',e1,e2,e3,e4⟩:=hF;rw[ha]at e1;simp only[AV.slice.injEq]at e1;obtain⟨e1,e5,e6⟩:=e1;subst e1; subst e5
     have hn:0<n:=by
      rcases zc5 n with h0 | h0
      · subst h0; simp at q2
      · exact h0
     obtain⟨id,off,cs,k1,k2,k3,k4⟩:=e4 hn;obtain⟨w,k5,k6⟩:=k4 q (by rw[hl]; exact q2)
     rw[hl]at k6;exact⟨id,off,cs,w,k1,k2,k5,q12 h (.refl _ _) hs k6⟩
   · cases hp
theorem qo6(hn:σ.n0≤σ.n1)(hg:Ov σ ν ν1)(h:γ S ν hB s){l:List Fa}{u:Unit}(hf:qsu σ S l= .ok u):∀ f∈l,okF ν1 hB f:=by
 have new:∀ {c:Nat} {v:V},Nat.blt c σ.n0=false→σ.get c=some (.av v)→ν1.a c=cv ν v∧ ∀ e,lenV v=some e→ν1.i c=e.ev ν.i:=fun {c v} h0 hc=>by
  have h0':=q2r h0;have hx:=hg.new c (qch hc) h0';exact⟨by rw[hx.2]; simp[ovr,h0',hc],fun e he=>by rw[hx.1]; simp[ovr,h0',hc,he]⟩
 refine qll (fun {f u} hf=>?_) hf
 obtain⟨_,h1,_⟩:=R.zak hf;split at h1
 · rename_i c
   split at h1
   · rename_i b h0 hb
     obtain⟨n1,n2⟩:=new h0 hb;exact⟨b,by rw[n1]; simp only[cv],by rw[n2 _ rfl,ev_k]⟩
   · rename_i d h0 hb
     obtain⟨n1,n2⟩:=new h0 hb;obtain⟨b,b1,b2⟩:=q0r h.self.fa (q02 h1);exact⟨b,by rw[n1]; simp only[cv]; exact b1,by rw[n2 _ rfl,ev_s]; exact b2⟩
   · cases h1
 · rename_i c ex ty
   split at h1
   · rename_i h0 hb
     obtain⟨n1,n2⟩:=new h0 hb;exact⟨none,0,.exact 0,by rw[n1]; simp only[cv],by rw[n2 _ rfl,ev_k]; rfl,fun _=>⟨0,rfl,zbi _⟩,fun h=>absurd h (by omega)⟩
   · rename_i d h0 hb
     obtain⟨n1,n2⟩:=new h0 hb;split at h1
     · rename_i x u hu
       obtain⟨t,ht,h2⟩:=q6f h1;simp only[zbf]at h2;obtain⟨p,n,k,e1,e2,e3,e4⟩:=q0o h (.refl _ _) h.self.fa hu;have l1:=q22 ht;have l2:=q1q h2.2;refine⟨p,n,k,by rw[n1]; simp only[cv]; exact e1,by rw[n2 _ rfl,ev_s]; exact e2,fun hex=>e3 ?_,fun h0=>?_⟩
       · rw[hex]at h2; simpa using h2.1
       · obtain⟨id,off,cs,k1,k2,k3,k4⟩:=e4 h0
         rw[l2,l1]at k3 k4;exact⟨id,off,cs,k1,k2,k3,fun q hq=>let ⟨w,w1,w2⟩:=k4 q hq; ⟨w,w1,q9r hn hg ht (q12 h (.refl _ _) h2.2 w2)⟩⟩
     · cases h1
   · cases h1
 · rename_i c e ty
   split at h1
   · rename_i e' ty' hb he ht
     have hp:=qp7 h (q02 h1);have hc:=q3r hn hg (q0e.1 hb);have l1:=q22 ht;intro p n k ha q q1 q2;obtain⟨id,off,cs,w,k1,k2,k3,k4⟩:=hp p n k (by rw[←hc.2.2.1]; exact ha) q (by rw[←q1e hn hg he,l1]; exact q1) (by rw[l1]; exact q2)
     rw[l1]at k4;exact⟨id,off,cs,w,k1,k2,k3,q9r hn hg ht k4⟩
   · cases h1
 · cases h1
end fit
theorem z2k:∀ {a b:List Nat},eqN a b=true→a=b
 | [],[],_=>rfl
 | [],_ :: _,h=>by simp[eqN]at h
 | _ :: _,[],h=>by simp[eqN]at h
 | x :: r,y :: m,h=>by
   simp only[eqN,zbf]at h;rw[zbg h.1,z2k h.2]
theorem qdz{n:Nat}:∀ {l:List Nat},qui n l=true→ ∀ x∈l,x<n
 | [],_,x,hx=>by cases hx
 | y :: r,h,x,hx=>by
   simp only[qui,zbf]at h;rcases zbm.1 hx with rfl | hx
   · exact q0e.1 h.1
   · exact qdz h.2 x hx
theorem q3l{S0 S S':AS}{ν0 ν:Va}{hB0 hB:AH}{s0 s:St}{a:LAnn}{σ:Sb}(h0:γ S0 ν0 hB0 s0)(h:γ S ν hB s)(hag:Ag S0.ns ν0 ν)(hns:S0.ns≤S.ns)(hle:Le hB0 hB)
 (he:fits S0.ns a (q1n S0 a) S= .ok (σ,S')):
 σ.n0=S0.ns∧σ.n1=S0.ns+a.k∧ ∃ ν' hB',Ag S.ns ν ν'∧S.ns≤S'.ns∧Le hB hB'∧γ S' ν' hB' s∧γ (q1n S0 a) (ovr σ ν') hB' s:=by
 obtain⟨S1,e1,he⟩:=R.zak he;obtain⟨S2,e2,he⟩:=R.zak he;obtain⟨_,q1,he⟩:=R.zak he;obtain⟨_,q2,he⟩:=R.zak he;obtain⟨_,q3,he⟩:=R.zak he;obtain⟨_,q4,he⟩:=R.zak he;obtain⟨_,q5,he⟩:=R.zak he;obtain⟨_,q6,he⟩:=R.zak he;simp only[R.ok.injEq,zbt]at he;obtain⟨hσ,hS⟩:=he;subst hS;obtain⟨ν1,hB1,a1,n1,l1,g1⟩:=qbu h e1;obtain⟨ν2,hB2,a2,n2,l2,g2⟩:=q7i g1 (zbo hns n1) e2;rw[hσ]at q2 q3 q4 q5 q6;have z0:σ.n0=S0.ns:=by rw[←hσ]
 have z1:σ.n1=S0.ns+a.k:=by rw[←hσ]; rfl
 have hn:σ.n0≤σ.n1:=by omega
 refine⟨z0,z1,ν2,hB2,a1.trans a2 n1,zbo n1 n2,l1.trans l2,g2,?_⟩;have q1:=q02 q1;simp only[zbf]at q1;obtain⟨⟨p1,p2⟩,p3⟩:=q1;have hnt:(q1n S0 a).nt=S2.nt:=zbg p1;refine⟨g2.n.trans hnt.symm,g2.le,fun ν' hg=>?_⟩
 have hgA:Ag σ.n1 (ovr σ ν2) ν':=by rw[z1]; exact hg
 have hg:Ov σ ν2 ν':= .of hn hgA
 have hA:Ag S0.ns ν0 ν':=by
  refine hag.trans ((a1.mono hns).trans ((a2.mono (zbo hns n1)).trans (Ag.trans (by rw[←z0]; exact q8t σ ν2) (hgA.mono (by omega)) (zbi _)) (zbi _)) (zbi _)) (zbi _)
 have G:=h0.g ν' hA;have lB:Le hB0 hB2:=hle.trans (l1.trans l2);have hH:=fun p hp=>qeq hn hg g2 (qer q4 p hp)
 refine⟨fun k v hk=>?_,fun e he=>?_,fun f hf=>?_,fun p hp=>(hH p hp).1,qqs hn hg g2 (qer q4) (q02 q2),fun p hp i hi=>?_,?_⟩
 · obtain⟨v',w,x1,x2,x3⟩:=qlm q3 _ (q05 hk)
   rw[v_sb hn hg x1,qb2 x3];exact g2.self.sl _ _ x2
 · refine Tr.zb5 G.cs (fun e he=>?_) e he
   obtain⟨e',x1,x2⟩:=qep q5 e he;rw[q1e hn hg x1];exact q1t g2 x2 ν2 (.refl _ _)
 · rcases zbr.1 hf with hf | hf
   · exact qo6 hn hg g2 q6 f hf
   · exact(G.fa f hf).le lB
 · rcases(hH p hp).2 with x | ⟨k,ck,x1,x2,x3⟩
   · rw[x]at hi; cases hi
   · rw[x3]at hi
     exact g2.self.nb _ (q05 x2) i hi
 · have e:=z2k p2
   rw[g2.self.df,←e];refine List.map_congr_left fun m hm=>?_
   rw[(q3r hn hg (by rw[z0]; exact qdz p3 m hm)).2.1]
theorem q8r{S:AS}{ν:Va}{hB:AH}{s:St}(h:γ S ν hB s){c:Nat}{e:Lin}{ty:List AT}(hp:okF ν hB (.pre c e ty)):∀ {fa:List Fa},(∀ f∈fa,okF ν hB f)→ ∀ x∈q57 S c e ty fa,0≤x.ev ν.i
 | [],_,x,hx=>by cases hx
 | f :: r,hf,x,hx=>by
   have ih:=q8r h hp (fa:=r) fun f hm=>hf f (zbh _ hm)
   cases f with
   | cell d o v=>
     simp only[q57]at hx;split at hx
     · rename_i k hd hk
       split at hx
       · rename_i t hb ht
         rcases zbr.1 hx with hx | hx
         · simp only[zbf]at hb
           obtain⟨⟨⟨b1,b2⟩,b3⟩,b4⟩:=hb;have ed:=zbg hd;subst ed;obtain⟨k0,id,off,n,kk,cs,c1,c2,c3⟩:=hf _ (zbq ..);have kn:=q2g.1 b1;rw[q1l hk]at k0 c3;obtain⟨q,hq⟩:=zcj.1 b4;obtain⟨x',ty'⟩:=q;obtain⟨p,n',k',e1,e2,e3,e4⟩:=q0o h (.refl _ _) h.self.fa hq;rw[c1]at e1;simp only[AV.slice.injEq]at e1;obtain⟨e1,e5,e6⟩:=e1;have b2':=q01 h b2 ν (.refl _ _);have b3':=q01 h b3 ν (.refl _ _);rw[ev_k]at b2';rw[ev_s]at b3';have hz:0<ty.length:=by cases ty with | nil=>simp[nth]at ht | cons=>simp
           have hk1:k<(k / ty.length+1) * ty.length:=by
            have:=Int.emod_add_mul_ediv k ty.length;have:=Int.emod_lt_of_pos k (show(0:Int)<ty.length by omega)
            rw[Int.add_mul,Int.one_mul,Int.mul_comm]; omega
           have hk2:(k / ty.length+1) * ty.length≤e.ev ν.i * ty.length:=Int.mul_le_mul_of_nonneg_right b2' (by omega)
           have hk3:e.ev ν.i * ty.length≤(n:Int) * ty.length:=Int.mul_le_mul_of_nonneg_right (by omega) (by omega)
           obtain⟨id',off',cs',w,w1,w2,w3,w4⟩:=hp _ n _ (by rw[c1]) k.toNat (by omega) (by
            have:((k.toNat:Nat):Int)<((n * ty.length:Nat):Int):=by push_cast; omega
            exact Int.ofNat_lt.1 this)
           simp only[zbe,zbt]at w1;obtain⟨w1,w5⟩:=w1;subst w1; subst w5;rw[c2]at w2; cases w2;rw[c3]at w3; cases w3;have w6:=(q9g ht).1 w4;unfold z2u at hx;split at hx
           · simp only[cv,okT]at w6
             obtain⟨m,m1,m2,m3⟩:=w6;cases m1;simp only[zbm,zc6,or_false]at hx;rcases hx with rfl | rfl<;>(rw[q0y]; omega)
           · split at hx
             · rename_i q' hq'
               obtain⟨x2,ty2⟩:=q';obtain⟨p2,n2,k2,f1,f2,f3,f4⟩:=q0o h (.refl _ _) h.self.fa hq';simp only[cv,okT]at w6;obtain⟨p3,n3,k3,m1,m2,m3,m4⟩:=w6;rw[f1]at m1;simp only[AV.slice.injEq]at m1;obtain⟨m1,m5,m6⟩:=m1;subst m5;simp only[zbm,zc6,or_false]at hx;rcases hx with rfl | rfl<;>(rw[q0y,ev_s]; omega)
             · cases hx
           · cases hx
         · exact ih x hx
       · exact ih x hx
     · exact ih x hx
   | _=>exact ih x hx
theorem q6b{ν:Va}{hB:AH}{s:St}:∀ {l:List Fa} {S:AS},γ S ν hB s→(∀ ν',Ag S.ns ν ν'→ ∀ f∈l,okF ν' hB f)→γ (q98 S l) ν hB s∧(q98 S l).ns=S.ns
 | [],_,h,_=>⟨h,rfl⟩
 | f :: r,S,h,hf=>by
   have hr:∀ ν',Ag S.ns ν ν'→ ∀ g∈r,okF ν' hB g:=fun ν' hν g hg=>hf ν' hν g (zbh _ hg)
   cases f with
   | pre c e ty=>
     have h1:γ (S.add (q57 S c e ty S.fa)) ν hB s:=γ_cs h fun ν' hν x hx=>q8r (h.ag hν) (hf ν' hν _ (zbq ..)) (h.g ν' hν).fa x hx
     exact q6b (S:=S.add _) h1 hr
   | _=>exact q6b (l:=r) h hr
end Go.K
namespace Go.K
open Go Go.J
noncomputable section
def mX:X→AExit→Prop
 | .normal,.normal=>True
 | .exit i,.exit j=>i=j
 | .ret,.ret=>True
 | _,_=>False
def Q1(os:List Out)(S:AS)(ν:Va)(hB:AH):AExit→St→Prop:=fun e s'=> ∃ o∈os,mX o.x e∧Go S ν hB o.S s'
def Q2(os:List Out)(S:AS)(ν:Va)(hB:AH)(sl:List (Nat×AV))(n:Nat)(ds:List ADef):AEnd→AH→Prop:=fun e h'=> ∃ o∈os,∃ v a,o.x= .val v∧e= .ret a∧
 ∃ ν' hB',Ag S.ns ν ν'∧S.ns≤o.S.ns∧Le hB hB'∧γ o.S ν' hB' ⟨sl,h',n,ds⟩∧Is o.S ν' v a
def Snd(P:Program)(N:Nat)(I:Va→AH→Prop):Tk→List Out→Prop
 | .code r c S,os=> ∀ ν hB s,I ν hB→N≤S.ns→(∀ l,r=some l→l<S.ns)→γ S ν hB s→J P (r.map ν.n) c s (Q1 os S ν hB)
 | .ops r ops l S,os=> ∀ k,l=ops.toList.drop k→k+l.length=ops.size→ ∀ ν hB s,I ν hB→N≤S.ns→(∀ l,r=some l→l<S.ns)→γ S ν hB s→JL P (r.map ν.n) ops (List.range' k l.length) s (Q1 os S ν hB)
 | .call f args S,os=>(∃ fn c,IsFn P f fn c)∧ ∀ ν hB s as,I ν hB→N≤S.ns→γ S ν hB s→(∀ ν',Ag S.ns ν ν'→cvL ν' args=as)→q0n P f as s.h (Q2 os S ν hB s.slots s.n s.defs)
 | .app fv args S,os=> ∀ ν hB s a as,I ν hB→N≤S.ns→γ S ν hB s→Is S ν fv a→(∀ ν',Ag S.ns ν ν'→cvL ν' args=as)→JApp P a as s.h (Q2 os S ν hB s.slots s.n s.defs)
variable{S:AS}{ν:Va}{hB:AH}{s:St}
theorem Q1.mono{os os':List Out}{e:AExit}{s':St}(h:Q1 os S ν hB e s')(hs:∀ o∈os,o∈os'):Q1 os' S ν hB e s':=by
 obtain⟨o,h1,h2,h3⟩:=h;exact⟨o,hs o h1,h2,h3⟩
theorem Q1.trans{os:List Out}{S1:AS}{ν1:Va}{hB1:AH}{e:AExit}{s':St}(h:Q1 os S1 ν1 hB1 e s')(g:Ag S.ns ν ν1)(n:S.ns≤S1.ns)(l:Le hB hB1):Q1 os S ν hB e s':=by
 obtain⟨o,h1,h2,h3⟩:=h;exact⟨o,h1,h2,Go.trans (S1:=S1) (s1:=s') g n l h3⟩
theorem Q2.mono{os os':List Out}{sl:List (Nat×AV)}{n:Nat}{ds:List ADef}{e:AEnd}{h':AH}(h:Q2 os S ν hB sl n ds e h')(hs:∀ o∈os,o∈os'):Q2 os' S ν hB sl n ds e h':=by
 obtain⟨o,h1,h2⟩:=h;exact⟨o,hs o h1,h2⟩
section each
variable{T:Type}
theorem q3b{f:Out→T→Outs T}:∀ {os:List Out} {t:T} {l:List Out} {t':T},each f os t= .ok (l,t')→ ∀ o∈os,∃ t1 lo t2,f o t1= .ok (lo,t2)∧ ∀ x∈lo,x∈l
 | [],_,_,_,_,o,ho=>by cases ho
 | q :: r,t,l,t',h,o,ho=>by
   obtain⟨a,h1,h⟩:=R.zak h;obtain⟨b,h2,h⟩:=R.zak h;cases h;rcases zbm.1 ho with rfl | ho
   · exact⟨_,_,_,h1,fun x hx=>qbn.2 (.inl hx)⟩
   · obtain⟨t1,lo,t2,k1,k2⟩:=q3b h2 o ho
     exact⟨t1,lo,t2,k1,fun x hx=>qbn.2 (.inr (k2 x hx))⟩
theorem q4o{f:AS→T→Outs T}:∀ {os:List AS} {t:T} {l:List Out} {t':T},qgj f os t= .ok (l,t')→ ∀ o∈os,∃ t1 lo t2,f o t1= .ok (lo,t2)∧ ∀ x∈lo,x∈l
 | [],_,_,_,_,o,ho=>by cases ho
 | q :: r,t,l,t',h,o,ho=>by
   obtain⟨a,h1,h⟩:=R.zak h;obtain⟨b,h2,h⟩:=R.zak h;cases h;rcases zbm.1 ho with rfl | ho
   · exact⟨_,_,_,h1,fun x hx=>qbn.2 (.inl hx)⟩
   · obtain⟨t1,lo,t2,k1,k2⟩:=q4o h2 o ho
     exact⟨t1,lo,t2,k1,fun x hx=>qbn.2 (.inr (k2 x hx))⟩
theorem qa0{f:Bool→AS→T→Outs T}:∀ {os:List (Bool×AS)} {t:T} {l:List Out} {t':T},z05 f os t= .ok (l,t')→ ∀ o∈os,∃ t1 lo t2,f o.1 o.2 t1= .ok (lo,t2)∧ ∀ x∈lo,x∈l
 | [],_,_,_,_,o,ho=>by cases ho
 | q :: r,t,l,t',h,o,ho=>by
   obtain⟨a,h1,h⟩:=R.zak h;obtain⟨b,h2,h⟩:=R.zak h;cases h;rcases zbm.1 ho with rfl | ho
   · exact⟨_,_,_,h1,fun x hx=>qbn.2 (.inl hx)⟩
   · obtain⟨t1,lo,t2,k1,k2⟩:=qa0 h2 o ho
     exact⟨t1,lo,t2,k1,fun x hx=>qbn.2 (.inr (k2 x hx))⟩
end each
def clean(l:List (Nat×AV)):List (Nat×AV):=l.map fun p=>(p.1,(lk l p.1).getD p.2)
theorem qgn{l:List (Nat×AV)}{p:Nat×AV}(h:p∈l):∃ v,lk l p.1=some v:=by
 induction l with
 | nil=>cases h
 | cons q r ih=>
   simp only[lk];split
   · exact⟨_,rfl⟩
   · rename_i hb
     rcases zbm.1 h with rfl | h
     · exact absurd (zca _) hb
     · exact ih h
theorem q9v(l:List (Nat×AV)):SubL (clean l) l:=by
 have:∀ r:List (Nat×AV),(∀ p∈r,p∈l)→SubL (r.map fun p=>(p.1,(lk l p.1).getD p.2)) l:=by
  intro r
  induction r with
  | nil=>intro _; trivial
  | cons p r ih=>
    intro h;obtain⟨v,hv⟩:=qgn (h p (by simp))
    exact⟨by simp[hv],ih fun q hq=>h q (zbh _ hq)⟩
 exact this l fun _ h=>h
theorem qqh(l:List (Nat×AV)){k:Nat}{v:AV}(h:lk l k=some v):lk (clean l) k=some v:=by
 have:∀ r:List (Nat×AV),∀ w,lk r k=some w→lk (r.map fun p=>(p.1,(lk l p.1).getD p.2)) k=some v:=by
  intro r
  induction r with
  | nil=>intro w hw; simp[lk]at hw
  | cons p r ih=>
    intro w hw;simp only[lk]at hw;simp only[zc3,lk];split at hw
    · rename_i hb
      have:=zbg hb;rw[if_pos hb,this,h]; rfl
    · rename_i hb
      rw[if_neg hb]; exact ih w hw
 exact this l v h
theorem qzj{sl:List (Nat×AV)}(h:γ S ν hB s)(hl:∀ k v,getL S.sl k=some v→ ∀ a,lk s.slots k=some a→lk sl k=some a):γ S ν hB ⟨sl,s.h,s.n,s.defs⟩:=by
 refine⟨h.n,h.le,fun ν' hg=>?_⟩
 obtain⟨g1,g2,g3,g4,g5,g6,g7⟩:=h.g ν' hg;exact⟨fun k v hk=>hl k v hk _ (g1 k v hk),g2,g3,g4,g5,g6,g7⟩
theorem z3h{S1:AS}{ν1:Va}{hB1:AH}{s1:St}(h:γ S ν hB s)(h1:γ S1 ν1 hB1 s1)(g:Ag S.ns ν ν1)(n:S.ns≤S1.ns):γ (ql3 S S1) ν1 hB1 ⟨s.slots,s1.h,s.n,s.defs⟩:=by
 refine⟨h.n,h1.le,fun ν' hg=>?_⟩
 obtain⟨g1,g2,g3,g4,g5,g6,g7⟩:=h1.g ν' hg;have G:=h.g ν' (g.trans hg n);exact⟨G.sl,g2,g3,g4,g5,g6,G.df⟩
theorem qpv{N:Nat}{args:List V}{as:List AV}(h:γ S ν hB s)(ha:∀ ν',Ag S.ns ν ν'→cvL ν' args=as):γ {S with sl:=qod 0 args,nt:=N,df:=[]} ν hB ⟨q4x 0 as,s.h,N,[]⟩:=by
 refine⟨rfl,h.le,fun ν' hg=>?_⟩
 obtain⟨g1,g2,g3,g4,g5,g6,g7⟩:=h.g ν' hg;refine⟨fun k v hk=>?_,g2,g3,g4,g5,g6,rfl⟩
 have:∀ (l:List V) (i:Nat),getL (qod i l) k=some v→lk (q4x i (cvL ν' l)) k=some (cv ν' v):=by
  intro l
  induction l with
  | nil=>intro i hk; simp[qod,q0h,q0c]at hk
  | cons w r ih=>
    intro i hk;simp only[qod,q0h,q0c]at hk;simp only[cvL,q4x,lk];split at hk
    · rename_i hb
      simp only[zbe]at hk; subst hk;rw[if_pos hb]
    · rename_i hb
      rw[if_neg (by rw[hb]; exact Bool.false_ne_true)]; exact ih _ hk
 rw[←ha ν' hg];exact this args 0 hk
theorem qzf{c:Nat}{k:Ck}{i:Nat}(h:γ S ν hB s)(hc:getL S.hp c=some k)(hi:∀ ν',Ag S.ns ν ν'→nameOf ν' (c,k)=some i):γ {S with hp:=rmL S.hp c} ν hB ⟨s.slots,s.h.drop i,s.n,s.defs⟩:=by
 have fr:hB.get i=none:=(h.self.nb (c,k) (q05 hc) i (hi ν (.refl _ _))).1;refine⟨h.n,⟨h.le.next,fun j cj hj=>?_⟩,fun ν' hg=>?_⟩
 · simp only[AH.drop]
   rw[if_neg (fun e=>by subst e; rw[fr]at hj; cases hj)]
   exact h.le.get j cj hj
 · obtain⟨g1,g2,g3,g4,g5,g6,g7⟩:=h.g ν' hg
   refine⟨g1,g2,g3,fun p hp=>?_,g5.sublist qpa,fun p hp=>g6 p (qpa.subset hp),g7⟩
   obtain⟨m1,m2⟩:=qrx hp;refine(g4 p m1).congr fun j hj=>?_
   have:=q6i g5 hc m1 m2 i (hi ν' hg);simp only[AH.drop];rw[if_neg (fun e=>by subst e; exact this hj)]
theorem qwh{k:Option Ck}(h:qhf k=true):k=some .mark:=by
 unfold qhf at h;split at h
 · rfl
 · cases h
theorem qcf:∀ {ms:List Nat} {S S1:AS} {s:St},γ S ν hB s→qvi S ms= .ok S1→q5j (ms.map fun m=>ADef.mark (ν.n m)) s.h∧γ S1 ν hB ⟨s.slots,q0j (ms.map fun m=>ADef.mark (ν.n m)) s.h,s.n,s.defs⟩∧S1.ns=S.ns∧S1.sl=S.sl∧S1.nt=S.nt∧S1.df=S.df
 | [],S,S1,s,h,he=>by cases he; exact⟨trivial,h,rfl,rfl,rfl,rfl⟩
 | m :: r,S,S1,s,h,he=>by
   obtain⟨_,h1,he⟩:=R.zak he;have h1:=q02 h1;simp only[zbf]at h1;have hm:=qwh h1.1;have hl:=q0e.1 h1.2;have hc:s.h.get (ν.n m)=some .mark:=h.self.hp (m,.mark) (q05 hm);obtain⟨k1,k2,k3,k4,k5,k6⟩:=qcf (qzf (i:=ν.n m) h hm fun ν' hν=>by simp only[nameOf,(hν m hl).2.1]) he
   exact⟨⟨hc,k1⟩,k2,k3,k4,k5,k6⟩
end
end Go.K
namespace Go.K
open Go Go.J
section
variable{T:Type}{P:Program}{hd:Hd T}{rec:Tk→T→Outs T}{N:Nat}{I:Va→AH→Prop}
variable(hI:∀ (ν ν':Va) (hB hB':AH),Ag N ν ν'→Le hB hB'→I ν hB→I ν' hB')(hrec:∀ tk t os t',rec tk t= .ok (os,t')→Snd P N I tk os)
 (hop:∀ (o:Oper) (S:AS) (l:List AS) (ν:Va) (hB:AH) (s:St),opA P o S= .ok l→γ S ν hB s→OpR P o S ν hB s l)
theorem Go.old{S S1:AS}{ν:Va}{hB:AH}{s1:St}(h:Go S ν hB S1 s1):∃ ν1 hB1,Ag S.ns ν ν1∧S.ns≤S1.ns∧Le hB hB1∧γ S1 ν1 hB1 s1:=h
theorem z1f{r:Option Nat}{n:Nat}{ν ν1:Va}(hr:∀ l,r=some l→l<n)(g:Ag n ν ν1):r.map ν1.n=r.map ν.n:=by
 cases r with
 | none=>rfl
 | some l=>simp only[zbp,(g l (hr l rfl)).2.1]
theorem q4v{x:X}{e:AExit}(h:mX x e):qkn x=true↔e= .normal:=by
 cases x<;>cases e<;>simp[mX,qkn]at *
include hI hrec
theorem qfg{r:Option Nat}{c:Code}{S S1:AS}{ν:Va}{hB:AH}{s1:St}{t1 t2:T}{lo l:List Out}(hi:I ν hB)(hN:N≤S.ns)(hr:∀ l,r=some l→l<S.ns)(hg:Go S ν hB S1 s1)(he:rec (.code r c S1) t1= .ok (lo,t2))(hs:∀ x∈lo,x∈l):
 J P (r.map ν.n) c s1 (Q1 l S ν hB):=by
 obtain⟨ν1,hB1,a1,n1,l1,g1⟩:=hg;have:=hrec _ _ _ _ he ν1 hB1 s1 (hI _ _ _ _ (a1.mono hN) l1 hi) (by omega) (fun l h=>by have:=hr l h; omega) g1
 rw[z1f hr a1]at this;exact this.mono fun e s' q=>(q.trans a1 n1 l1).mono hs
theorem qxy{r:Option Nat}{a b:Code}{S:AS}{t t':T}{os:List Out}(he:qvw P hd rec r (.seq a b) S t= .ok (os,t')):Snd P N I (.code r (.seq a b) S) os:=by
 intro ν hB s hi hN hr h;obtain⟨q,h1,he⟩:=R.zak he;refine q1p rfl ((hrec _ _ _ _ h1 ν hB s hi hN hr h).mono fun e s1 q1=>?_)
 obtain⟨o,ho,hx,hg⟩:=q1;obtain⟨t1,lo,t2,k1,k2⟩:=q3b he o ho;cases hb:qkn o.x with
 | true=>
   rw[hb]at k1;have:=(q4v hx).1 hb;subst this;exact qfg hI hrec hi hN hr hg k1 k2
 | false=>
   rw[hb]at k1;cases k1;have hq:Q1 os S ν hB e s1:=⟨o,k2 o (by simp),hx,hg⟩
   cases e<;>first | exact hq | (have:=(q4v hx).2 rfl; rw[hb]at this; cases this)
theorem qnx{r:Option Nat}{id:Nat}{b:Code}{S:AS}{t t':T}{os:List Out}(he:qvw P hd rec r (.block id b) S t= .ok (os,t')):Snd P N I (.code r (.block id b) S) os:=by
 intro ν hB s hi hN hr h;obtain⟨q,h1,he⟩:=R.zak he;cases he;refine q4i rfl ((hrec _ _ _ _ h1 ν hB s hi hN hr h).mono fun e s1 q1=>?_)
 obtain⟨o,ho,hx,hg⟩:=q1;have hm:qsw id o∈q.1.map (qsw id):=List.mem_map_of_mem ho;cases e with
 | exit j=>
   have ex:o.x= .exit j:=by
    cases hox:o.x<;>rw[hox]at hx<;>simp[mX]at hx
    rw[hx]
   simp only[qsw,ex]at hm;simp only[qku];split
   · rename_i hb
     rw[hb]at hm;exact⟨_,hm,trivial,hg⟩
   · rename_i hb
     have hb:Nat.beq j id=false:=eq_false_of_ne_true hb;rw[hb]at hm;exact⟨_,hm,hx,hg⟩
 | _=>
   have:qsw id o=o:=by
    unfold qsw;cases hox:o.x<;>rw[hox]at hx<;>simp[mX]at hx<;>rfl
   rw[this]at hm;exact⟨_,hm,hx,hg⟩
theorem qsk{r:Option Nat}{x:Operand}{a b:Code}{S:AS}{t t':T}{os:List Out}(he:qvw P hd rec r (.cond x a b) S t= .ok (os,t')):Snd P N I (.code r (.cond x a b) S) os:=by
 intro ν hB s hi hN hr h;obtain⟨q,h1,he⟩:=R.zak he;obtain⟨bb,e1,i1⟩:=qeh h h1;obtain⟨S1,m1,g1,_,n1⟩:=q44 h i1;obtain⟨t1,lo,t2,k1,k2⟩:=qa0 he _ m1;have hgo:Go S ν hB S1 s:=⟨ν,hB,.refl _ _,by omega,.refl _,g1⟩
 have:=qfg hI hrec hi hN hr hgo k1 k2;refine qdx rfl e1 (fun hb=>?_) (fun hb=>?_)<;>(subst hb; exact this)
theorem qt5{r:Option Nat}{b:Code}{S:AS}{t t':T}{os:List Out}{a:LAnn}(he:z76 rec r b S a t= .ok (os,t')):Snd P N I (.code r (.loop b) S) os:=by
 intro ν hB s hi hN hr h;obtain⟨_,hmu,he⟩:=R.zak he;obtain⟨p0,hf0,he⟩:=R.zak he;obtain⟨q,h1,he⟩:=R.zak he;have hmu:=q02 hmu;obtain⟨σ0,S0⟩:=p0;obtain⟨z0,z1,ν0,hB0,a0,n0,l0,_,gH⟩:=q3l h h (.refl _ _) (zbi _) (.refl _) hf0;have hns:S.ns≤(q1n S a).ns:=Nat.le_add_right _ _;have aH:Ag S.ns ν (ovr σ0 ν0):=a0.trans (by rw[←z0]; exact q8t σ0 ν0) (zbi _)
 have cl:∀ (p:Va×AH×St),γ (q1n S a) p.1 p.2.1 p.2.2→γ (q1n S a) p.1 p.2.1 ⟨clean p.2.2.slots,p.2.2.h,p.2.2.n,p.2.2.defs⟩:=fun p hp=>qzj hp fun k v _ w hw=>qqh _ hw
 refine qzk (α:=Va×AH×St) (fun p=>⟨clean p.2.2.slots,p.2.2.h,p.2.2.n,p.2.2.defs⟩) (fun p=>Ag S.ns ν p.1∧Le hB p.2.1∧γ (q1n S a) p.1 p.2.1 p.2.2) (fun p=>(a.mu.ev p.1.i).toNat) (ovr σ0 ν0,hB0,s) rfl ⟨rfl,rfl,rfl,q9v _⟩ ⟨aH,l0,gH⟩ ?_
 rintro⟨ν1,hB1,s1⟩ ⟨a1,l1,g1⟩;have hJ:=hrec _ _ _ _ h1 ν1 hB1 _ (hI _ _ _ _ (a1.mono hN) l1 hi) (by omega) (fun l h=>by have:=hr l h; omega) (cl _ g1)
 rw[z1f hr a1]at hJ;refine hJ.mono fun e s2 q1=>?_
 obtain⟨o,ho,hx,ν2,hB2,a2,n2,l2,g2⟩:=q1;obtain⟨t1,lo,t2,k1,k2⟩:=q3b he o ho;have a12:Ag S.ns ν ν2:=a1.trans a2 hns;cases hb:qkn o.x with
 | true=>
   rw[hb]at k1;have:=(q4v hx).1 hb;subst this;obtain⟨p,hf,k1⟩:=R.zak k1;obtain⟨_,hm,_⟩:=R.zak k1;obtain⟨m,m1,m2⟩:=q6f hm;obtain⟨σ,S'⟩:=p;obtain⟨y0,y1,ν3,hB3,a3,n3,l3,g3,gH3⟩:=q3l h g2 a12 (by omega) (l1.trans l2) hf
   have a13:Ag S.ns ν ν3:=a12.trans a3 (by omega)
   refine⟨(ovr σ ν3,hB3,s2),⟨⟨a13.trans (by rw[←y0]; exact q8t σ ν3) (zbi _),l1.trans (l2.trans l3),gH3⟩,?_⟩,rfl,rfl,rfl,q9v _⟩
   simp only[zbf]at m2;have e1:=q01 g3 m2.1 ν3 (.refl _ _);have e2:=q01 g3 m2.2 ν3 (.refl _ _);rw[ev_k]at e1;rw[q0f]at e2;have e3:a.mu.ev (ovr σ ν3).i=m.ev ν3.i:=q1e (by rw[y0,y1]; omega) (.of (by rw[y0,y1]; omega) (.refl _ _)) m1
   have e4:a.mu.ev ν3.i=a.mu.ev ν1.i:=by
    have aa:Ag (q1n S a).ns ν1 ν3:=a2.trans a3 n2;simp only[Lin.ev];congr 1
    have:∀ l:List (Nat×Int),(l.all fun p=>Nat.blt p.1 (q1n S a).ns)=true→evT ν3.i l=evT ν1.i l:=by
     intro l
     induction l with
     | nil=>intro _; rfl
     | cons p r ih=>
       intro hl;simp only[List.all_cons,zbf]at hl;simp only[evT,ih hl.2,(aa p.1 (q0e.1 hl.1)).1]
    exact this _ hmu
   show(a.mu.ev (ovr σ ν3).i).toNat<(a.mu.ev ν1.i).toNat;omega
 | false=>
   rw[hb]at k1;cases k1;have gH:=q6b (l:=a.fa) g2 fun ν' hν f hf=>((g1.g ν' (a2.trans hν n2)).fa f (zbr.2 (.inl hf))).le l2
   have hq:Q1 os S ν hB e s2:=⟨⟨o.x,q98 o.S a.fa⟩,k2 _ (zbs.2 rfl),hx,ν2,hB2,a12,by show S.ns≤(q98 o.S a.fa).ns; rw[gH.2]; omega,l1.trans l2,gH.1⟩
   cases e<;>first | exact hq | (have:=(q4v hx).2 rfl; rw[hb]at this; cases this)
end
end Go.K
namespace Go.K
open Go Go.J
theorem qpw{P:Program}{r:Option Nat}{ops:Array Oper}{s:St}{Q:AExit→St→Prop}{o oj:Oper}{i j d:Nat}{want:Bool}{a:AV}{l:List Nat}(ho:ops[i]?=some o)(hg:o.guard=some (j,want))(hj:ops[j]?=some oj)(hd:oj.dst=some d)
 (hb:lk s.slots d=some a)(hne:(∃ l,a= .tuple l)∨ ∃ b,a= .bool b∧b≠want)(hk:∀ k,o.dst=some k→k<s.n)(h:JL P r ops l ⟨(match o.dst with | some k=>(k,.tuple []) :: s.slots | none=>s.slots),s.h,s.n,s.defs⟩ Q):JL P r ops (i :: l) s Q:=by
 intro hw hr
 have hw':St.wf ⟨(match o.dst with | some k=>(k,.tuple []) :: s.slots | none=>s.slots),s.h,s.n,s.defs⟩:=by
  refine⟨fun k v hk=>?_,hw.2.1,hw.2.2⟩
  cases hdst:o.dst with
  | none=>simp only[hdst]at hk; exact hw.1 k v hk
  | some q=>
    simp only[hdst,lk]at hk;split at hk
    · cases hk; exact zbl _
    · exact hw.1 k v hk
 obtain⟨e,s',hws,he,hn,hq,hx⟩:=h hw' hr;refine⟨e,s',hws,he,hn,hq,fun ρ x w n hrel=>?_⟩
 have hyl:yielded ops x.tmps j≠some want:=by
  have:=hrel.1.2 d _ hb;rcases hne with⟨l,rfl⟩ | ⟨b,rfl,hne⟩
  · simp[yielded,hj,hd,this,conc]
  · simp[yielded,hj,hd,this,conc,hne]
 have hwant:Region.wanted o (yielded ops x.tmps)=false:=by simp[Region.wanted,hg,hyl]
 simp only[wpOpsIn,ho,hwant,if_false,zbn];refine⟨fun _ _=>trivial,hx ρ _ w n ⟨?_,?_,hrel.2.2⟩⟩
 · cases hdst:o.dst with
   | none=>simpa [Act.put]using hrel.1
   | some q=>
     refine⟨by simp[Act.put,hrel.1.1],fun k v hk'=>?_⟩
     have hq':q<s.n:=hk q hdst;simp only[lk]at hk';split at hk'
     · rename_i hbq
       have:q=k:=zbg hbq;subst this;cases hk';have hsz:q<x.tmps.size:=by rw[hrel.1.1]; exact hq'
       simp[Act.put,hsz,conc,undef,q04]
     · rename_i hbq
       have hne':q≠k:=fun e=>by subst e; exact hbq (zca _)
       have:=hrel.1.2 k v hk';simp[Act.put,hne',this]
 · cases hdst:o.dst<;>simpa [Act.put]using hrel.2.1
section
variable{T:Type}{P:Program}{hd:Hd T}{rec:Tk→T→Outs T}{N:Nat}{I:Va→AH→Prop}
variable(hI:∀ (ν ν':Va) (hB hB':AH),Ag N ν ν'→Le hB hB'→I ν hB→I ν' hB')(hrec:∀ tk t os t',rec tk t= .ok (os,t')→Snd P N I tk os)
 (hop:∀ (o:Oper) (S:AS) (l:List AS) (ν:Va) (hB:AH) (s:St),opA P o S= .ok l→γ S ν hB s→OpR P o S ν hB s l)
include hI hrec hop
theorem qvx{o:Oper}{kf:AS→T→Outs T}{S:AS}{ν:Va}{hB:AH}{s:St}{t t':T}{os:List Out}{r':Option Nat}(he:fOp P rec o kf S t= .ok (os,t'))(hi:I ν hB)(hN:N≤S.ns)(h:γ S ν hB s):
 JO P r' o s (fun e s'=>e= .normal∧s'.n=s.n∧s'.defs=s.defs∧ ∃ S1 t1 lo t2,Go S ν hB S1 s'∧kf S1 t1= .ok (lo,t2)∧ ∀ x∈lo,x∈os):=by
 have simple:∀ {ss:List AS},opA P o S= .ok ss→qgj kf ss t= .ok (os,t')→JO P r' o s (fun e s'=>e= .normal∧s'.n=s.n∧s'.defs=s.defs∧ ∃ S1 t1 lo t2,Go S ν hB S1 s'∧kf S1 t1= .ok (lo,t2)∧ ∀ x∈lo,x∈os):=fun {ss} h1 h2=>by
  refine(hop o S ss ν hB s h1 h r').mono ?_;rintro e s1 ⟨rfl,z1,z2,S1,m1,hg⟩;obtain⟨t1,lo,t2,k1,k2⟩:=q4o h2 S1 m1;exact⟨rfl,z1,z2,S1,t1,lo,t2,hg,k1,k2⟩
 unfold fOp at he;cases hcv:qzx o.op with
 | none=>
   rw[hcv]at he;have he:(S.frc fun S=>(opB o (opA P o S)).bind fun ss=>qgj kf ss t)= .ok (os,t'):=he
   rw[AS.za6]at he;obtain⟨ss,h1,h2⟩:=R.zak he;exact simple (z33 h1) h2
 | some q0=>
    obtain⟨c,hc,hfo,hargs⟩:=qh0 hcv;obtain⟨fo,qa⟩:=q0;rw[hcv]at he;have he:(S.frc fun S=>z2n rec o kf S t (fo,qa))= .ok (os,t'):=he
    rw[AS.za6]at he;simp only at hfo hargs;subst hargs;obtain⟨d,hd1,he⟩:=R.zak he;obtain⟨_,hdn,he⟩:=R.zak he;obtain⟨fv,h1,he⟩:=R.zak he;obtain⟨vs,h2,he⟩:=R.zak he;obtain⟨q,h3,he⟩:=R.zak he;have hd1:=q0a hd1;have hdn:=q0e.1 (q02 hdn);obtain⟨a,e1,i1⟩:=q06 h h1;obtain⟨as,e2,i2⟩:=q84 h h2
    have hcc:o.op= .call {callee:= .value fo,args:=c.args,argTypes:=c.argTypes}:=by
     rw[hc]; cases c; simp only at hfo; subst hfo; rfl
    refine qju hcc hd1 (by rw[h.n]; exact hdn) e1 e2 ((hrec _ _ _ _ h3 ν hB s a as hi hN h i1 i2).mono ?_)
    rintro e h' ⟨o1,m1,v,av,x1,rfl,ν1,hB1,a1,n1,l1,g1,i3⟩;obtain⟨t1,lo,t2,k1,k2⟩:=q3b he o1 m1;obtain⟨v',y1,k1⟩:=R.zak k1;obtain⟨ss,y2,k1⟩:=R.zak k1;rw[x1]at y1;have y1:v=v':=R.ok.inj y1;subst y1;obtain⟨d',z1,z2,rfl⟩:=q1m y2;rw[hd1]at z1; cases z1;obtain⟨t3,lo3,t4,w1,w2⟩:=q4o k1 _ (zbs.2 rfl);exact⟨rfl,rfl,rfl,o1.S.put d v,t3,lo3,t4,⟨ν1,hB1,a1,n1,l1,q60 g1 i3⟩,w1,fun x hx=>k2 x (w2 x hx)⟩
theorem qlh{o:Oper}{kf:AS→T→Outs T}{S:AS}{ν:Va}{hB:AH}{s:St}{t t':T}{os:List Out}{r':Option Nat}{ops:Array Oper}{l:List Nat}(he:fOp P rec o kf S t= .ok (os,t'))(hi:I ν hB)(hN:N≤S.ns)(h:γ S ν hB s)
 (hK:∀ S1 s1 t1 lo t2,Go S ν hB S1 s1→kf S1 t1= .ok (lo,t2)→(∀ x∈lo,x∈os)→JL P r' ops l s1 (Q1 os S ν hB)):JO P r' o s (Then (fun s'=>JL P r' ops l s' (Q1 os S ν hB)) (Q1 os S ν hB)):=by
 refine(qvx hI hrec hop he hi hN h).mono ?_;rintro e s1 ⟨rfl,_,_,S1,t1,lo,t2,hg,k1,k2⟩;exact hK S1 s1 t1 lo t2 hg k1 k2
omit hop in
theorem qre{r:Option Nat}{ops:Array Oper}{l:List Oper}{k:Nat}{S S1:AS}{ν:Va}{hB:AH}{s1:St}{t1 t2:T}{lo os:List Out}(hk1:l=ops.toList.drop k)(hk2:k+l.length=ops.size)(hi:I ν hB)(hN:N≤S.ns)(hr:∀ l,r=some l→l<S.ns)(hg:Go S ν hB S1 s1)(he:rec (.ops r ops l S1) t1= .ok (lo,t2))(hs:∀ x∈lo,x∈os):
 JL P (r.map ν.n) ops (List.range' k l.length) s1 (Q1 os S ν hB):=by
 obtain⟨ν1,hB1,a1,n1,l1,g1⟩:=hg;have:=hrec _ _ _ _ he k hk1 hk2 ν1 hB1 s1 (hI _ _ _ _ (a1.mono hN) l1 hi) (by omega) (fun l h=>by have:=hr l h; omega) g1
 rw[z1f hr a1]at this;exact this.mono fun e s' q=>(q.trans a1 n1 l1).mono hs
omit hI hrec hop in
theorem qcs{o:Oper}{S S1:AS}{ν:Va}{hB:AH}{s:St}(h:γ S ν hB s)(he:qs1 o S= .ok S1):(∀ k,o.dst=some k→k<s.n)∧S1.ns=S.ns∧γ S1 ν hB ⟨(match o.dst with | some k=>(k,.tuple []) :: s.slots | none=>s.slots),s.h,s.n,s.defs⟩:=by
 unfold qs1 at he;split at he
 · rename_i d hd
   obtain⟨_,h1,he⟩:=R.zak he;cases he;have:=q0e.1 (q02 h1);refine⟨fun k hk=>?_,rfl,?_⟩
   · rw[hd]at hk; cases hk; rw[h.n]; exact this
   · rw[hd]; exact q60 (a:= .tuple []) h (fun _ _=>by simp only[cv,cvL])
 · rename_i hd
   cases he;refine⟨fun k hk=>?_,rfl,?_⟩
   · rw[hd]at hk; cases hk
   · rw[hd]; exact h
theorem qsr{r:Option Nat}{ops:Array Oper}{l:List Oper}{S:AS}{t t':T}{os:List Out}(he:fOps P rec r ops l S t= .ok (os,t')):Snd P N I (.ops r ops l S) os:=by
 intro k hk1 hk2 ν hB s hi hN hr h;cases l with
 | nil=>
   cases he;exact q0q ⟨_,zbs.2 rfl,trivial,Go.refl h⟩
 | cons o l=>
   have ho:ops[k]?=some o:=by
    have:(ops.toList.drop k)[0]?=some o:=by rw[←hk1]; rfl
    rw[zcq]at this;rw[←Array.getElem?_toList]; simpa using this
   have hl1:l=ops.toList.drop (k+1):=by rw[←List.tail_drop,←hk1]; rfl
   have hl2:k+1+l.length=ops.size:=by simp only[zce]at hk2; omega
   have hK:∀ S1 s1 t1 lo t2,Go S ν hB S1 s1→rec (.ops r ops l S1) t1= .ok (lo,t2)→(∀ x∈lo,x∈os)→JL P (r.map ν.n) ops (List.range' (k+1) l.length) s1 (Q1 os S ν hB):=
    fun S1 s1 t1 lo t2 hg h1 h2=>qre hI hrec hl1 hl2 hi hN hr hg h1 h2
   show JL P (r.map ν.n) ops (k :: List.range' (k+1) l.length) s (Q1 os S ν hB);obtain⟨g,h1,he⟩:=R.zak he;unfold qs6 at h1;simp only[qjy]at h1;cases hg:o.guard with
   | none=>
     rw[hg]at h1;cases h1;exact q07 ho hg (qlh hI hrec hop he hi hN h hK)
   | some jw=>
     obtain⟨j,w⟩:=jw;rw[hg]at h1;simp only at h1;cases hj:ops[j]? with
     | none=>rw[hj]at h1; cases h1
     | some oj=>
     rw[hj]at h1;simp only at h1;cases hd:oj.dst with
     | none=>rw[hd]at h1; cases h1
     | some d=>
     rw[hd]at h1;simp only at h1;cases hv:getL S.sl d with
     | none=>rw[hv]at h1; cases h1
     | some v=>
     rw[hv]at h1;cases h1;obtain⟨a,hs,ia⟩:=q6l h hv;simp only at he;split at he
     · rename_i l0
       obtain⟨S1,k1,he⟩:=R.zak he;obtain⟨c1,c2,c3⟩:=qcs h k1;have hat:a= .tuple (cvL ν l0):=by rw[←ia ν (.refl _ _)]; simp only[cv]
       exact qpw ho hg hj hd hs (.inl ⟨_,hat⟩) c1 (hK S1 _ _ _ _ ⟨ν,hB,.refl _ _,by omega,.refl _,c3⟩ he fun x hx=>hx)
     · rename_i b
       have hb:∀ ν',Ag S.ns ν ν'→b.ev ν'.i=b.ev ν.i:=fun ν' hν=>by
        have e1:=ia ν' hν;have e2:=ia ν (.refl _ _);simp only[cv]at e1 e2;rw[←e2]at e1; exact AV.bool.inj e1
       obtain⟨S1,m1,g1,p1,n1⟩:=q44 h hb;obtain⟨t1,lo,t2,k1,k2⟩:=qa0 he _ m1;have ha:a= .bool (b.ev ν.i):=by rw[←ia ν (.refl _ _)]; simp only[cv]
       have g2:γ (S1.put d (.bool (.lit (b.ev ν.i)))) ν hB s:=qzi g1 (by rw[hs,ha]) (fun ν' _=>by simp[cv,Bx.ev])
       have n2:S.ns≤(S1.put d (.bool (.lit (b.ev ν.i)))).ns:=by show S.ns≤S1.ns; omega
       simp only at k1;cases hw:(b.ev ν.i==w)with
       | true=>
         rw[hw]at k1;have hw':b.ev ν.i=w:=by simpa using hw
         refine qu5 ho hg hj hd (by rw[hs,ha,hw']) ?_
         have:=qlh (os:=lo) (r':=r.map ν.n) (ops:=ops) (l:=List.range' (k+1) l.length) hI hrec hop k1 hi (by show N≤S1.ns; omega) g2 fun S2 s2 t3 lo3 t4 hg2 h3 h4=>by
          have:=qre (os:=lo) hI hrec hl1 hl2 hi (S:=S1.put d (.bool (.lit (b.ev ν.i)))) (by show N≤S1.ns; omega) (fun l h=>by have:=hr l h; show l<S1.ns; omega) hg2 h3 h4
          exact this
         refine this.mono fun e s' hq=>?_
         have tr:∀ e s',Q1 lo (S1.put d (.bool (.lit (b.ev ν.i)))) ν hB e s'→Q1 os S ν hB e s':=fun e s' q=>(q.trans (.refl _ _) n2 (.refl _)).mono k2
         cases e with
         | normal=>exact hq.mono tr
         | _=>exact tr _ _ hq
       | false=>
         rw[hw]at k1;obtain⟨S2,y1,k1⟩:=R.zak k1;obtain⟨c1,c2,c3⟩:=qcs g2 y1;exact qpw ho hg hj hd hs (.inr ⟨_,ha,by simpa using hw⟩) c1 (hK S2 _ _ _ _ ⟨ν,hB,.refl _ _,by rw[c2]; exact n2,.refl _,c3⟩ k1 k2)
     · cases he
end
end Go.K
namespace Go.K
open Go Go.J
section
variable{T:Type}{P:Program}{hd:Hd T}{rec:Tk→T→Outs T}{N:Nat}{I:Va→AH→Prop}
variable(hI:∀ (ν ν':Va) (hB hB':AH),Ag N ν ν'→Le hB hB'→I ν hB→I ν' hB')(hrec:∀ tk t os t',rec tk t= .ok (os,t')→Snd P N I tk os)
theorem qkf{x:X}{v:V}(h:valOf x= .ok v):x= .val v:=by
 unfold valOf at h;split at h
 · cases h; rfl
 · cases h
theorem qbw:∀ {rs:List ResultVar} {S S':AS} {ν:Va} {hB:AH} {s:St} {vs:List V},γ S ν hB s→resA P S rs= .ok (vs,S')→
 ∃ as ν',Ext S ν hB s S' ν'∧(∀ n ds,resL P ⟨s.slots,s.h,n,ds⟩ rs=some as)∧ ∀ ν'',Ag S'.ns ν' ν''→cvL ν'' vs=as
 | [],S,S',ν,hB,s,vs,h,he=>by
   cases he;exact⟨[],ν,.refl h,fun _ _=>rfl,fun _ _=>by simp only[cvL]⟩
 | .tmp t :: r,S,S',ν,hB,s,vs,h,he=>by
   obtain⟨v,h1,he⟩:=R.zak he;obtain⟨⟨ws,S2⟩,h2,he⟩:=R.zak he;cases he;obtain⟨a,k1,k2⟩:=q6l h (q0a h1);obtain⟨as,ν',e1,e2,e3⟩:=qbw h h2;refine⟨a :: as,ν',e1,fun n ds=>?_,fun ν'' hν=>?_⟩
   · simp only[resL,resV,k1,e2]
   · show cv ν'' v :: cvL ν'' ws=_
     rw[e3 ν'' hν,k2 ν'' (e1.ag.trans hν e1.ns)]
 | .cell c T0 :: r,S,S',ν,hB,s,vs,h,he=>by
   obtain⟨p,h1,he⟩:=R.zak he;obtain⟨⟨w,S1⟩,h2,he⟩:=R.zak he;obtain⟨⟨ws,S2⟩,h3,he⟩:=R.zak he;cases he;obtain⟨a,k1,k2⟩:=q6l h (q0a h1);obtain⟨x,ν1,l1,e1,i1,_⟩:=qf8 h h2 k2;obtain⟨as,ν',e2,e3,e4⟩:=qbw e1.g h3;refine⟨x :: as,ν',e1.trans e2,fun n ds=>?_,fun ν'' hν=>?_⟩
   · obtain⟨id,off,cs,m,rfl,hc,⟨rfl,hT,hx⟩ | ⟨hT,hle,l,hl,rfl⟩⟩:=l1
     · simp only[resL,qxr k1 hc hT hx,e3]
     · simp only[resL,qtl k1 hc hT hle hl,e3]
   · show cv ν'' w :: cvL ν'' ws=_
     rw[e4 ν'' hν,i1 ν'' (e2.ag.trans hν e2.ns)]
theorem q89{n0:Nat}{ms:List Nat}:∀ {l:List (Nat×Ck)},(qlx n0 ms l).Sublist l
 | []=> .slnil
 | p :: r=>by
   show(Bool.rec (motive:=fun _=>List (Nat×Ck)) (p :: qlx n0 ms r) (Bool.rec (motive:=fun _=>List (Nat×Ck)) (qlx n0 ms r) (p :: qlx n0 ms r) (memN p.1 ms)) (Nat.ble n0 p.1)).Sublist (p :: r)
   cases Nat.ble n0 p.1
   · exact .cons_cons _ q89
   · cases memN p.1 ms
     · exact .cons _ q89
     · exact .cons_cons _ q89
theorem z4m{n0:Nat}{vs:List V}{hp ps:List (Nat×Ck)}:(gcH n0 vs hp ps).Sublist hp:=by
 cases ps with
 | nil=>exact List.Sublist.refl _
 | cons _ _=>exact q89
theorem γ_gc{n0:Nat}{vs:List V}{S:AS}{ν:Va}{hB:AH}{s:St}(h:γ S ν hB s):γ (gcS n0 vs S) ν hB s:=
 z91 h (zbi _) rfl rfl (fun _ _ h=>h) (fun _ h=>h) (fun _ h=>h) z4m
theorem z5o(ν:Va)(vs:List V):cv ν (oneV vs)=oneOf (cvL ν vs):=by
 match vs with
 | []=>simp[oneV,oneOf,cv,cvL]
 | [v]=>simp[oneV,oneOf,cvL]
 | v :: w :: r=>simp[oneV,oneOf,cv,cvL]
theorem qkm{x:X}{e:AExit}(h:mX x e)(hl:qpo x=true):e= .normal∨e= .ret:=by
 cases x<;>cases e<;>simp[mX,qpo]at *
theorem qo4{f:Nat}{S:AS}{t t':T}{os0 os:List Out}(he:z75 hd f S os0 t= .ok (os,t')){ν:Va}{hB:AH}{s:St}(h:γ S ν hB s){e:AEnd}{h':AH}(hq:Q2 os0 S ν hB s.slots s.n s.defs e h'):Q2 os S ν hB s.slots s.n s.defs e h':=by
 obtain⟨q,h1,he⟩:=R.zak he;split at he
 · cases he; exact hq
 · rename_i a ha
   obtain⟨z,h2,he⟩:=R.zak he;obtain⟨v,h3,he⟩:=R.zak he;cases he;obtain⟨o,m1,w,aw,x1,rfl,ν1,hB1,a1,n1,l1,g1,i1⟩:=hq;obtain⟨t1,lo,t2,k1,_⟩:=q3b h2 o m1;obtain⟨w',y1,k1⟩:=R.zak k1;obtain⟨⟨σ,S'⟩,y2,k1⟩:=R.zak k1;have:=qkf y1;rw[x1]at this; cases this
   have g2:γ {o.S with sl:=(S.nt,w) :: S.sl} ν1 hB1 ⟨(S.nt,aw) :: s.slots,h',s.n,s.defs⟩:=by
    refine⟨g1.n,g1.le,fun ν' hν=>?_⟩
    obtain⟨q1,q2,q3,q4,q5,q6,q7⟩:=g1.g ν' hν;refine⟨fun k u hk=>?_,q2,q3,q4,q5,q6,q7⟩
    simp only[q0h,q0c]at hk;simp only[lk];split at hk
    · rename_i hb
      simp only[zbe]at hk; subst hk;rw[if_pos hb,i1 ν' hν]
    · rename_i hb
      rw[if_neg (by rw[hb]; exact Bool.false_ne_true)]
      exact(h.g ν' (a1.trans hν n1)).sl k u hk
   obtain⟨z0,z1,ν2,hB2,a2,n2,l2,g3,gH⟩:=q3l h g2 a1 n1 l1 y2;have a1':Ag S.ns ν ν2:=a1.trans a2 n1;have aH:Ag S.ns ν (ovr σ ν2):=a1'.trans (by rw[←z0]; exact q8t σ ν2) (zbi _)
   have hns:S.ns≤(q1n S a).ns:=Nat.le_add_right _ _;refine⟨⟨.val v,{q1n S a with sl:=S.sl}⟩,zbs.2 rfl,v,aw,rfl,rfl,ovr σ ν2,hB2,aH,hns,l1.trans l2,?_,fun ν' hν=>?_⟩
   · refine⟨gH.n,gH.le,fun ν' hν=>?_⟩
     obtain⟨q1,q2,q3,q4,q5,q6,q7⟩:=gH.g ν' hν;exact⟨fun k u hk=>(h.g ν' (aH.trans hν hns)).sl k u hk,q2,q3,q4,q5,q6,q7⟩
   · have:=(gH.g ν' hν).sl _ _ (q0a h3)
     simp only[lk]at this;rw[if_pos (zca _)]at this;exact(zbz this).symm
include hrec
theorem q4q{f:Nat}{args:List V}{S:AS}{t t':T}{os:List Out}(he:qo3 P hd rec f args S t= .ok (os,t')):Snd P N I (.call f args S) os:=by
 unfold qo3 at he;split at he
 · rename_i fn hfn
   split at he
   · rename_i c hc
     obtain⟨_,h1,he⟩:=R.zak he;obtain⟨q,h2,he⟩:=R.zak he;obtain⟨z,h3,he⟩:=R.zak he;have h1:=q02 h1;simp only[zbf,Bool.not_eq_true']at h1;have hf:IsFn P f fn c:=⟨hfn,hc,h1.1⟩;refine⟨⟨fn,c,hf⟩,fun ν hB s as hi hN h ha=>?_⟩
     have hlen:as.length=args.length:=by rw[←ha ν (.refl _ _),q1x]
     refine q0s hf rfl (by rw[hlen]; exact zbj h1.2) rfl ?_
     have g0:=qpv (N:=fn.ntmps) h ha;refine(hrec _ _ _ _ h2 ν hB _ hi hN (fun l hl=>by cases hl) g0).mono fun e s1 q1=>?_
     obtain⟨o,m1,hx,ν1,hB1,a1,n1,l1,g1⟩:=q1;obtain⟨t1,lo,t2,k1,k2⟩:=q3b h3 o m1;obtain⟨_,y1,k1⟩:=R.zak k1;obtain⟨S1,y2,k1⟩:=R.zak k1;obtain⟨p,y3,k1⟩:=R.zak k1;cases k1;obtain⟨d1,d2,d3,d4,d5,d6⟩:=qcf g1 y2;obtain⟨vs,S2⟩:=p;obtain⟨as2,ν2,e1,e2,e3⟩:=qbw d2 y3;have hdf:s1.defs=o.S.df.map fun m=>ADef.mark (ν1.n m):=g1.self.df
     have fin:Q2 os S ν hB s.slots s.n s.defs (.ret (oneOf as2)) (q0j s1.defs s1.h):=by
      refine qo4 he h ⟨⟨.val (oneV vs),gcS S.ns vs (ql3 S S2)⟩,k2 _ (zbs.2 rfl),oneV vs,oneOf as2,rfl,rfl,ν2,hB1,?_,?_,l1,?_,fun ν'' hν=>?_⟩
      · have:Ag o.S.ns ν1 ν2:=by have:=e1.ag; rw[d3]at this; exact this
        exact a1.trans this n1
      · show S.ns≤S2.ns
        have:=e1.ns;have:S.ns≤o.S.ns:=n1;omega
      · have aa:Ag S.ns ν ν2:=by
         have:Ag o.S.ns ν1 ν2:=by have:=e1.ag; rw[d3]at this; exact this
         exact a1.trans this n1
        rw[hdf];exact γ_gc<|z3h h e1.g aa (by have:=e1.ns; have:S.ns≤o.S.ns:=n1; omega)
      · rw[z5o,e3 ν'' hν]
     have hm:q5j s1.defs s1.h:=by rw[hdf]; exact d1
     have hr:resL P ⟨s1.slots,q0j s1.defs s1.h,s1.n,[]⟩ fn.results.toList=some as2:=by rw[hdf]; exact e2 _ _
     rcases qkm hx (q02 y1)with rfl | rfl
     · exact⟨hm,as2,hr,fin⟩
     · exact⟨hm,as2,hr,fin⟩
   · cases he
 · cases he
include hI
theorem z6s{f:Nat}{a b args:List V}{S:AS}{t t':T}{os:List Out}(he:rec (.call f (a++args++b) S) t= .ok (os,t')):Snd P N I (.app (.fn f a b) args S) os:=by
 intro ν hB s av as hi hN h ia ha;obtain⟨⟨fn,c,hf⟩,hJ⟩:=hrec _ _ _ _ he;have e0:=ia ν (.refl _ _);simp only[cv]at e0;subst e0;refine q37 hf (hJ ν hB s _ hi hN h fun ν' hν=>?_)
 have e1:=ia ν' hν;simp only[cv]at e1;injection e1 with _ e2 e3;rw[←ha ν' hν,←e2,←e3];simp[q73]
end
end Go.K
namespace Go.K
open Go Go.J
theorem qv7{h h':AH}{i:Nat}{c:Chunk}(a:h.SetTo i c h'):But h i h':=⟨by rw[a.next]; exact zbi _,fun j cj hne hj=>by rw[a.old j hne]; exact hj⟩
theorem q56{l:Nat}{x:LoopS}:∀ {fa:List Fa},q55 l fa=some x→Fa.loop l x.sl x.nt x.ps x.asg x.body x.m∈fa
 | [],h=>by simp[q55]at h
 | f :: r,h=>by
   cases f with
   | loop c sl nt ps asg body m=>
     simp only[q55]at h;split at h
     · rename_i hb
       have:=zbg hb;simp only[zbe]at h;subst this; subst h; simp
     · exact zbh _ (q56 h)
   | _=>simp only[q55]at h; exact zbh _ (q56 h)
theorem qfp{l st:Nat}{S:AS}{pd:Option Code}(h:qmr l st S= .ok pd):getL S.hp l=some (.loop st pd):=by
 unfold qmr at h;split at h
 · rename_i st' pd' hg
   obtain⟨_,h1,h2⟩:=R.zak h;have:=zbg (q02 h1);cases h2; subst this; exact hg
 · cases h
theorem qfw{ν:Va}:∀ {ks:List Nat} {vs:List V} {sl:List (Nat×V)} {ts:List (Nat×AV)},(∀ k v,getL sl k=some v→lk ts k=some (cv ν v))→ ∀ k v,getL (qaq ks vs sl) k=some v→lk (q4s ks (cvL ν vs) ts) k=some (cv ν v)
 | [],_,_,_,h=>h
 | _ :: _,[],_,_,h=>h
 | k0 :: ks,v0 :: vs,sl,ts,h=>by
   simp only[qaq,cvL,q4s];refine qfw fun k v hk=>?_
   simp only[q0h,q0c]at hk;simp only[lk];split at hk
   · rename_i hb
     simp only[zbe]at hk; subst hk;rw[if_pos hb]
   · rename_i hb
     rw[if_neg (by rw[hb]; exact Bool.false_ne_true)]
     exact h k v (qo8 hk).2
theorem qno{S:AS}{ν:Va}{hB:AH}{s:St}{l st st':Nat}{pd pd':Option Code}(h:γ S ν hB s)(hl:l<S.ns)(hg:getL S.hp l=some (.loop st pd)):
 ∃ X,ν.e l=some X∧s.h.get (ν.n l)=some (.loop (stOf st) pd X.ts X.nt X.ps X.asg X.body X.m)∧
   ∀ h',s.h.SetTo (ν.n l) (.loop (stOf st') pd' X.ts X.nt X.ps X.asg X.body X.m) h'→γ (qxz S l st' pd') ν hB ⟨s.slots,h',s.n,s.defs⟩:=by
 obtain⟨X,x1,x2⟩:=h.self.hp (l,_) (q05 hg);refine⟨X,x1,x2,fun h' hs=>?_⟩
 refine q6s (i:=ν.n l) h hg (fun ν' hν=>?_) (qv7 hs) fun ν' hν=>⟨X,?_,?_⟩
 · simp only[nameOf,(hν l hl).2.1,and_self]
 · rw[(hν l hl).2.2.2]; exact x1
 · rw[(hν l hl).2.1]; exact hs.new
section
variable{T:Type}{P:Program}{hd:Hd T}{rec:Tk→T→Outs T}{N:Nat}{I:Va→AH→Prop}
variable(hI:∀ (ν ν':Va) (hB hB':AH),Ag N ν ν'→Le hB hB'→I ν hB→I ν' hB')(hrec:∀ tk t os t',rec tk t= .ok (os,t')→Snd P N I tk os)
include hI hrec
theorem z3y{l:Nat}{args:List V}{S:AS}{t t':T}{os:List Out}(he:fApp rec (.yld l) args S t= .ok (os,t')):Snd P N I (.app (.yld l) args S) os:=by
 intro ν hB s av as hi hN h ia ha;obtain⟨_,b1,he⟩:=R.zak he;obtain⟨pd,b2,he⟩:=R.zak he;obtain⟨x,b3,he⟩:=R.zak he;obtain⟨_,b4,he⟩:=R.zak he;obtain⟨q,b5,he⟩:=R.zak he;have hl:=q0e.1 (q02 b1);have hg:=qfp b2;have b4:=q02 b4;simp only[zbf]at b4;have e0:=ia ν (.refl _ _);simp only[cv]at e0;subst e0;obtain⟨X,x1,x2,_⟩:=qno (st':=0) (pd':=none) h hl hg
 have hfact:∀ ν',Ag S.ns ν ν'→X.nt=x.nt∧X.ps=x.ps∧X.asg=x.asg∧X.body=x.body∧ ∀ k v,getL x.sl k=some v→lk X.ts k=some (cv ν' v):=fun ν' hν=>by
  obtain⟨X',y1,y2,y3,y4,y5,y6,y7⟩:=(h.g ν' hν).fa _ (q56 (q0a b3));rw[(hν l hl).2.2.2,x1]at y1;cases y1;exact⟨y2,y3,y4,y5,y7⟩
 obtain⟨f1,f2,f3,f4,_⟩:=hfact ν (.refl _ _);have hlen:as.length=args.length:=by rw[←ha ν (.refl _ _),q1x]
 have ga:γ {S with sl:=qaq x.ps.toList args x.sl,nt:=x.nt,df:=[]} ν hB ⟨q4s X.ps.toList as X.ts,s.h,X.nt,[]⟩:=by
  refine⟨f1,h.le,fun ν' hν=>?_⟩
  obtain⟨g1,g2,g3,g4,g5,g6,g7⟩:=h.g ν' hν;refine⟨fun k v hk=>?_,g2,g3,g4,g5,g6,rfl⟩
  obtain⟨_,y2,_,_,y5⟩:=hfact ν' hν;rw[←ha ν' hν,y2];exact qfw y5 k v hk
 have hr:∀ S':AS,S.ns≤S'.ns→ ∀ m,some l=some m→m<S'.ns:=fun S' h m hm=>by cases hm; omega
 refine qgu x2 (by rw[f2,hlen]; exact zbg b4.1) (fun k hk=>by rw[f1]; rw[f2]at hk; exact qdz b4.2 k hk) ?_
 rw[f3];refine(hrec _ _ _ _ b5 ν hB _ hi hN (hr S (zbi _)) ga).mono fun e s1 q1=>?_
 obtain⟨o,m1,hx,ν1,hB1,a1,n1,l1,g1⟩:=q1;have n1:S.ns≤o.S.ns:=n1;have a1:Ag S.ns ν ν1:=a1;obtain⟨t1,lo,t2,k1,k2⟩:=q3b he o m1;obtain⟨_,c1,k1⟩:=R.zak k1;obtain⟨pd1,c2,k1⟩:=R.zak k1;obtain⟨q2,c3,k1⟩:=R.zak k1;have:=(q4v hx).1 (q02 c1);subst this;have hl1:l<o.S.ns:=by omega
 obtain⟨X1,y1,y2,y3⟩:=qno (st':=1) (pd':=pd1) g1 hl1 (qfp c2);have en:ν1.n l=ν.n l:=(a1 l hl).2.1;have ex:X1=X:=by rw[(a1 l hl).2.2.2,x1]at y1; exact(zbz y1).symm
 subst ex;rw[en]at y2 y3;refine⟨pd1,_,_,_,_,_,_,y2,fun h2 hs=>?_⟩
 have gb:=y3 h2 hs;rw[f4];have hJ:=hrec _ _ _ _ c3 ν1 hB1 _ (hI _ _ _ _ (a1.mono hN) l1 hi) (by show N≤o.S.ns; omega) (hr _ n1) gb
 simp only[zbp,en]at hJ;refine hJ.mono fun e s2 q3=>?_
 obtain⟨o2,m2,hx2,ν2,hB2,a2,n2,l2,g2⟩:=q3;have n2:o.S.ns≤o2.S.ns:=n2;have a2:Ag o.S.ns ν1 ν2:=a2;obtain⟨t3,lo3,t4,w1,w2⟩:=q3b k1 o2 m2;obtain⟨z,d1,w1⟩:=R.zak w1;obtain⟨pd2,d2,w1⟩:=R.zak w1;cases w1;have a12:Ag S.ns ν ν2:=a1.trans a2 n1;have hl2:l<o2.S.ns:=by omega
 obtain⟨X2,y4,y5,y6⟩:=qno (st':=z.2.1) (pd':=z.2.2) g2 hl2 (qfp d2);have en2:ν2.n l=ν.n l:=(a12 l hl).2.1;have ex2:X2=X1:=by rw[(a12 l hl).2.2.2,x1]at y4; exact(zbz y4).symm
 subst ex2;rw[en2]at y5 y6
 have fin:∀ h',s2.h.SetTo (ν.n l) (.loop (stOf z.2.1) z.2.2 X2.ts X2.nt X2.ps X2.asg X2.body X2.m) h'→Q2 os S ν hB s.slots s.n s.defs (.ret (.bool z.1)) h':=fun h' hs'=>
  ⟨⟨.val (.bool (.lit z.1)),gcS S.ns [] (ql3 S (qxz o2.S l z.2.1 z.2.2))⟩,k2 _ (w2 _ (zbs.2 rfl)),_,_,rfl,rfl,ν2,hB2,a12,by show S.ns≤o2.S.ns; omega,l1.trans l2,γ_gc (z3h (S1:=qxz o2.S l z.2.1 z.2.2) h (y6 h' hs') a12 (by show S.ns≤o2.S.ns; omega)),fun ν' _=>by simp only[cv,Bx.ev]⟩
 refine⟨_,_,_,_,_,_,_,y5,?_⟩;cases hox:o2.x with
 | normal=>rw[hox]at hx2 d1; cases d1; cases e<;>first | exact hx2.elim | exact fin
 | ret=>rw[hox]at hx2 d1; cases d1; cases e<;>first | exact hx2.elim | exact fin
 | exit id=>
   rw[hox]at hx2 d1; cases d1;cases e<;>first | exact hx2.elim | (simp only[mX]at hx2; subst hx2; exact fin)
 | val v=>rw[hox]at hx2; cases e<;>exact hx2.elim
end
end Go.K
namespace Go.K
open Go Go.J
noncomputable section
theorem qzh{S:AS}{ν:Va}{hB:AH}{s:St}{k:Ck}{h':AH}{i:Nat}{ck:Chunk}{e0:Option LoopX}(h:γ S ν hB s)(hn:New s.h i ck h')(hk:∀ ν',Ag S.ns ν ν'→ν'.n S.ns=i→ν'.e S.ns=e0→okC ν' hB h' S.ns k)(hb:∀ t kn,k≠ .bld t kn)(n0:Int)(a0:AV):
 γ (newC S k).2 (ν.set S.ns n0 i a0 e0) hB ⟨s.slots,h',s.n,s.defs⟩:=by
 refine⟨h.n,h.le.trans hn.le,fun ν' hg=>?_⟩
 have hg0:Ag S.ns ν ν':=(q1o ν S.ns n0 i a0 e0).trans hg (zcb _);obtain⟨g1,g2,g3,g4,g5,g6,g7⟩:=h.g ν' hg0;obtain⟨x1,x2,x3,x4⟩:=hg S.ns (zc0 _);simp only[Va.set,if_true]at x1 x2 x3 x4
 have hnm:nameOf ν' (S.ns,k)=some i:=by
  cases k with
  | bld t kn=>exact absurd rfl (hb t kn)
  | _=>simp only[nameOf,x2]
 have hold:∀ p∈S.hp,∀ j,nameOf ν' p=some j→j≠i∧h'.get j=s.h.get j:=by
  intro p hp j hj;obtain⟨ck',hck⟩:=(g4 p hp).some hj;refine⟨fun e=>?_,(hn.le.get _ _ hck).trans hck.symm⟩
  subst e; rw[hn.free]at hck; cases hck
 refine⟨g1,g2,g3,fun p hp=>?_,?_,fun p hp j hj=>?_,g7⟩
 · rcases zbm.1 hp with rfl | hp
   · exact hk ν' hg0 x2 x4
   · exact(g4 p hp).congr fun j hj=>(hold p hp j hj).2
 · refine zco.2 ⟨fun p hp j hj hj2=>?_,g5⟩
   rw[hnm]at hj; cases hj;exact(hold p hp i hj2).1 rfl
 · rcases zbm.1 hp with rfl | hp
   · rw[hnm]at hj; cases hj
     refine⟨?_,zbo h.le.next hn.ge⟩;cases hbi:hB.get i with
     | none=>rfl
     | some ck'=>have:=h.le.get _ _ hbi; rw[hn.free]at this; cases this
   · exact g6 p hp j hj
def slotsOf(ν:Va)(S:AS):List (Nat×AV):=S.sl.filterMap fun p=>(getL S.sl p.1).map fun v=>(p.1,cv ν v)
theorem qg0{S:AS}{ν:Va}{hB:AH}{s:St}(h:γ S ν hB s):SubL (slotsOf ν S) s.slots:=by
 have:∀ r:List (Nat×V),SubL (r.filterMap fun p=>(getL S.sl p.1).map fun v=>(p.1,cv ν v)) s.slots:=by
  intro r
  induction r with
  | nil=>trivial
  | cons p r ih=>
    simp only[List.filterMap_cons];cases hg:getL S.sl p.1 with
    | none=>simpa using ih
    | some v=>exact⟨h.self.sl _ _ hg,ih⟩
 exact this S.sl
theorem qib{S:AS}{ν:Va}{k:Nat}{v:V}(hk:getL S.sl k=some v):lk (slotsOf ν S) k=some (cv ν v):=by
 have:∀ (r:List (Nat×V)) (w:V),getL r k=some w→lk (r.filterMap fun p=>(getL S.sl p.1).map fun v=>(p.1,cv ν v)) k=some (cv ν v):=by
  intro r
  induction r with
  | nil=>intro w hw; simp[q0h,q0c]at hw
  | cons p r ih=>
    intro w hw;simp only[q0h,q0c]at hw;simp only[List.filterMap_cons];split at hw
    · rename_i hb
      have hb':p.1=k:=zbg hb;rw[hb',hk];simp only[zbp,lk];rw[if_pos (zca _)]
    · rename_i hb
      cases hg:getL S.sl p.1 with
      | none=>exact ih w hw
      | some u=>
        simp only[zbp,lk];rw[if_neg (by rw[hb]; exact Bool.false_ne_true)]
        exact ih w hw
 exact this S.sl v hk
section
variable{T:Type}{P:Program}{hd:Hd T}{rec:Tk→T→Outs T}{N:Nat}{I:Va→AH→Prop}
variable(hI:∀ (ν ν':Va) (hB hB':AH),Ag N ν ν'→Le hB hB'→I ν hB→I ν' hB')(hrec:∀ tk t os t',rec tk t= .ok (os,t')→Snd P N I tk os)
include hI hrec
theorem qi5{r:Option Nat}{fid:Nat}{first cap:List V}{l:Nat}{mm:List Nat}{S S2:AS}{ν ν2:Va}{hB:AH}{s:St}{h1:AH}{t t':T}{os:List Out}{q:List Out×T}
 (hi:I ν hB)(hN:N≤S.ns)(hr:∀ l,r=some l→l<S.ns)(h:γ S ν hB s)(hcall:rec (.call fid (first++ .yld l :: cap) S2) t= .ok q)
 (he:each (fun o t=>match getL o.S.hp l with
   | some (.loop st pd)=>(need "" (!(Nat.beq st 1))).bind fun _=>match pd with
     | none=> .ok ([⟨.normal,{o.S with sl:=S.sl,nt:=S.nt,df:=mm++S.df,hp:=rmL o.S.hp l}⟩],t)
     | some c=>rec (.code r c {o.S with sl:=S.sl,nt:=S.nt,df:=mm++S.df,hp:=rmL o.S.hp l}) t
   | _=> .no "") q.1 q.2= .ok (os,t'))
 (g2:γ S2 ν2 hB ⟨s.slots,h1,s.n,s.defs⟩) (ag:Ag S.ns ν ν2) (hns:S.ns≤S2.ns) (hl:l<S2.ns) (hmm:∀ m∈mm,m<S2.ns)
 {a1 a2:List AV} (hfn:∀ ν',Ag S.ns ν ν'→cvL ν' first=a1∧cvL ν' cap=a2):
 (∃ fn c,IsFn P fid fn c)∧q0n P fid (a1++[.yield (ν2.n l)]++a2) h1 (q4y P (r.map ν.n) (ν2.n l) (mm.map fun m=>ADef.mark (ν2.n m)) s (Q1 os S ν hB)):=by
 obtain⟨os1,t1⟩:=q;obtain⟨hf,hJ⟩:=hrec _ _ _ _ hcall;refine⟨hf,(hJ ν2 hB _ _ (hI _ _ _ _ (ag.mono hN) (.refl _) hi) (by omega) g2 fun ν' hν=>?_).mono fun e h2 q2=>?_⟩
 · obtain⟨x1,x2⟩:=hfn ν' (ag.trans hν hns)
   rw[←x1,←x2];simp[q73,cv,(hν l hl).2.1]
 · obtain⟨o,m1,v,a,x1,rfl,ν3,hB3,a3,n3,l3,g3,i3⟩:=q2
   obtain⟨t2,lo,t3,k1,k2⟩:=q3b he o m1;split at k1
   · rename_i st pd hg
     obtain⟨_,c1,k1⟩:=R.zak k1;have hl3:l<o.S.ns:=by omega
     obtain⟨X,y1,y2,_⟩:=qno (st':=0) (pd':=none) g3 hl3 hg;have en:ν3.n l=ν2.n l:=(a3 l hl).2.1;rw[en]at y2;have a13:Ag S.ns ν ν3:=ag.trans a3 hns;have gd:=qzf (i:=ν2.n l) g3 hg fun ν' hν=>by simp only[nameOf,(hν l hl3).2.1,en]
     have gs:γ {o.S with sl:=S.sl,nt:=S.nt,df:=mm++S.df,hp:=rmL o.S.hp l} ν3 hB3 ⟨s.slots,h2.drop (ν2.n l),s.n,(mm.map fun m=>ADef.mark (ν2.n m))++s.defs⟩:=by
      refine⟨h.n,gd.le,fun ν' hν=>?_⟩
      obtain⟨q1,q2,q3,q4,q5,q6,q7⟩:=gd.g ν' hν;have G:=h.g ν' (a13.trans hν (by show S.ns≤o.S.ns; omega))
      refine⟨G.sl,q2,q3,q4,q5,q6,?_⟩;show(mm.map fun m=>ADef.mark (ν2.n m))++s.defs=(mm++S.df).map fun m=>ADef.mark (ν'.n m)
      rw[show s.defs=S.df.map fun m=>ADef.mark (ν'.n m) from G.df,List.map_append]
      congr 1;refine List.map_congr_left fun m hm=>?_
      have hν:Ag o.S.ns ν3 ν':=hν;rw[(hν m (by have:=hmm m hm; omega)).2.1,(a3 m (hmm m hm)).2.1]
     have hgo:Go S ν hB {o.S with sl:=S.sl,nt:=S.nt,df:=mm++S.df,hp:=rmL o.S.hp l} ⟨s.slots,h2.drop (ν2.n l),s.n,(mm.map fun m=>ADef.mark (ν2.n m))++s.defs⟩:=⟨ν3,hB3,a13,by show S.ns≤o.S.ns; omega,l3,gs⟩
     refine⟨_,_,_,_,_,_,_,_,y2,?_,?_⟩
     · have:=q02 c1
       cases st with
       | zero=>simp[stOf]
       | succ st=>cases st with
         | zero=>simp at this
         | succ st=>simp[stOf]
     · cases pd with
       | none=>
         cases k1;exact⟨_,k2 _ (zbs.2 rfl),trivial,hgo⟩
       | some c=>exact qfg hI hrec hi hN hr hgo k1 k2
   · cases k1
theorem qp8{r:Option Nat}{f:Operand}{ps:Array Nat}{asg body:Code}{S:AS}{t t':T}{os:List Out}{fv:V}(hfv:evA S f= .ok fv)(he:qvy rec r fv ps asg body S t= .ok (os,t')):Snd P N I (.code r (.rangeFunc f ps asg body) S) os:=by
 intro ν hB s hi hN hr h;refine J_wf fun hwf=>?_
 obtain⟨av,e1,i1⟩:=q06 h hfv;unfold qvy at he;split at he
 · rename_i fid first cap
   have e0:=i1 ν (.refl _ _);simp only[cv]at e0;subst e0
   have hfn:∀ ν',Ag S.ns ν ν'→cvL ν' first=cvL ν first∧cvL ν' cap=cvL ν cap:=fun ν' hν=>by
    have:=i1 ν' hν;simp only[cv]at this;injection this with _ x2 x3;exact⟨x2,x3⟩
   obtain⟨m0,h1,he⟩:=R.zak he;cases r with
   | none=>
     simp only[qp6]at h1;cases h1;simp only at he;obtain⟨q,h2,he⟩:=R.zak he;have hsub:=qg0 h
     have key:∀ m l h1,Entered s.h m l (.loop .ready none (slotsOf ν S) s.n ps asg body m) h1→(∃ fn c,IsFn P fid fn c)∧q0n P fid (cvL ν first++[.yield l]++cvL ν cap) h1 (q4y P none l [.mark m] s (Q1 os S ν hB)):=by
      intro m l hh ent;obtain⟨z1,z2,z3,z4,z5,z6⟩:=ent;have hw:=hwf.2.1
      have fr:∀ j,s.h.next≤j→s.h.get j=none:=fun j hj=>by
       cases hg:s.h.get j with
       | none=>rfl
       | some c=>have:=(hw j c hg).1; omega
      have n1:New s.h m .mark (s.h.add .mark):=by
       refine⟨⟨zcb _,fun j c hj=>?_⟩,?_,fr m (by omega),by omega⟩
       · have:=(hw j c hj).1
         rw[AH.add_get this]; exact hj
       · simp[AH.add,z1]
      have n2:New (s.h.add .mark) l (.loop .ready none (slotsOf ν S) s.n ps asg body m) hh:=by
       refine⟨⟨by show s.h.next+1≤hh.next; omega,fun j c hj=>?_⟩,z5,?_,by show s.h.next+1≤l; omega⟩
       · simp only[AH.add]at hj
         split at hj
         · rename_i e
           cases hj;rw[show j=m by omega]; exact z4
         · have:=(hw j c hj).1
           rw[z6 j (by omega)]; exact hj
       · simp only[AH.add]
         rw[if_neg (by omega)]; exact fr l (by omega)
      have g1:=qzh (e0:=none) h n1 (k:= .mark) (fun ν' _ hn _=>by show(s.h.add .mark).get (ν'.n S.ns)=some .mark; rw[hn]; exact n1.get) (fun t kn=>by simp) 0 .nilFunc
      let X:LoopX:=⟨slotsOf ν S,s.n,ps,asg,body,m⟩
      have g2:=qzh (e0:=some X) g1 n2 (k:= .loop 0 none) (fun ν' _ hn hx=>⟨X,hx,by rw[hn]; exact n2.get⟩) (fun t kn=>by simp) 0 .nilFunc
      have ag1:=q1o ν S.ns 0 m .nilFunc none
      have g3:=γ_fa (fs:=[.loop (S.ns+1) S.sl S.nt ps asg body S.ns]) g2 fun ν' hν f hf=>by
       simp only[zbm,zc6,or_false]at hf;subst hf;have hx:=(hν (S.ns+1) (zc0 _)).2.2.2;have hm:=(hν S.ns (by show S.ns<S.ns+1+1; omega)).2.1
       refine⟨X,?_,h.n,rfl,rfl,rfl,?_,fun k v hk=>?_⟩
       · rw[hx]; simp[Va.set,newC]
       · rw[hm]; simp[Va.set,newC,X]
       · have hA:Ag S.ns ν ν':=ag1.trans (Ag.trans ((q1o _ _ 0 l .nilFunc (some X)).mono (zcb _)) (hν.mono (by show S.ns≤S.ns+1+1; omega)) (zbi _)) (zbi _)
         have h1:=h.self.sl k v hk;have h2:=(h.g ν' hA).sl k v hk;rw[h1]at h2;rw[←zbz h2];exact qib hk
      have:=qi5 (r:=none) (mm:=[S.ns]) (S2:={(newC (newC S .mark).2 (.loop 0 none)).2 with fa:= .loop (S.ns+1) S.sl S.nt ps asg body S.ns :: S.fa}) hI hrec hi hN hr h h2 he g3 (ag1.trans ((q1o _ _ 0 l .nilFunc (some X)).mono (zcb _)) (zbi _)) (by show S.ns≤S.ns+1+1; omega) (by show S.ns+1<S.ns+1+1; omega) (fun m hm=>by simp only[zbs]at hm; subst hm; show S.ns<S.ns+1+1; omega) hfn
      simpa [Va.set,newC]using this
     have h3:=hrec _ _ _ _ (show rec _ t= .ok (q.1,q.2) from h2);obtain⟨⟨fn,c,hf⟩,_⟩:=h3;exact qip rfl e1 hf hsub fun m l h1 ent=>(key m l h1 ent).2
   | some l0=>
     simp only[qp6]at h1;split at h1
     · rename_i st pd x hg hx
       cases h1;simp only at he;obtain⟨q,h2,he⟩:=R.zak he;have hl0:=hr l0 rfl;obtain⟨X0,y1,y2,_⟩:=qno (st':=0) (pd':=none) h hl0 hg;obtain⟨⟨fn,c,hf⟩,_⟩:=hrec _ _ _ _ (show rec _ t= .ok (q.1,q.2) from h2);refine q9n rfl e1 hf (qg0 h) y2 fun l h1 ent=>?_
       have n2:=New.of ent hwf.2.1
       let X:LoopX:=⟨slotsOf ν S,s.n,ps,asg,body,X0.m⟩
       have g2:=qzh (e0:=some X) h n2 (k:= .loop 0 none) (fun ν' _ hn hx=>⟨X,hx,by rw[hn]; exact n2.get⟩) (fun t kn=>by simp) 0 .nilFunc
       have g3:=γ_fa (fs:=[.loop S.ns S.sl S.nt ps asg body x.m]) g2 fun ν' hν f hf=>by
        simp only[zbm,zc6,or_false]at hf;subst hf;have hx':=(hν S.ns (zc0 _)).2.2.2;have hA:Ag S.ns ν ν':=(q1o ν S.ns 0 l .nilFunc (some X)).trans (hν.mono (zcb _)) (zbi _);refine⟨X,?_,h.n,rfl,rfl,rfl,?_,fun k v hk=>?_⟩
        · rw[hx']; simp[Va.set]
        · obtain⟨X',w1,_,_,_,_,w6,_⟩:=(h.g ν' hA).fa _ (q56 hx)
          rw[(hA l0 hl0).2.2.2,y1]at w1;cases w1; exact w6
        · have h1:=h.self.sl k v hk
          have h2:=(h.g ν' hA).sl k v hk;rw[h1]at h2;rw[←zbz h2];exact qib hk
       have:=qi5 (r:=some l0) (mm:=[]) (S2:={(newC S (.loop 0 none)).2 with fa:= .loop S.ns S.sl S.nt ps asg body x.m :: S.fa}) hI hrec hi hN hr h h2 he g3 (q1o ν S.ns 0 l .nilFunc (some X)) (by show S.ns≤S.ns+1; omega) (by show S.ns<S.ns+1; omega) (fun m hm=>by cases hm) hfn
       have:=this.2;simpa [Va.set]using this
     · cases h1
 · cases he
end
end
end Go.K
namespace Go.K
open Go Go.J
noncomputable section
section
variable{T:Type}{P:Program}{hd:Hd T}{N:Nat}{I:Va→AH→Prop}
def quf(P:Program):Prop:= ∀ (o:Oper) (S:AS) (l:List AS) (ν:Va) (hB:AH) (s:St),opA P o S= .ok l→γ S ν hB s→OpR P o S ν hB s l
def OpsN(P:Program):Prop:= ∀ (o:Oper) (S:AS) (l:List AS) (ν:Va) (hB:AH) (s:St),newO o=true→opA P o S= .ok l→γ S ν hB s→OpN P o S ν hB s l
def z21(P:Program)(N:Nat)(I:Va→AH→Prop)(T:Type):Prop:= ∀ (rec:Tk→T→Outs T),(∀ tk t os t',rec tk t= .ok (os,t')→Snd P N I tk os)→
 ∀ (id:Nat) (ops:Array Oper) (r:Option Nat) (S:AS) (t t':T) (os:List Out),z74 P rec ops S t= .ok (os,t')→Snd P N I (.code r (.region id ops true) S) os
theorem qnd{rec:Tk→T→Outs T}(hI:∀ (ν ν':Va) (hB hB':AH),Ag N ν ν'→Le hB hB'→I ν hB→I ν' hB')(hrec:∀ tk t os t',rec tk t= .ok (os,t')→Snd P N I tk os){r:Option Nat}{b:Code}{k:Nat}{S:AS}{t t':T}{os:List Out}(he:qj4 rec r b k [S] t= .ok (os,t')):Snd P N I (.code r (.loop b) S) os:=by
 intro ν hB s hi hN hr h;have cl:∀ (p:Nat×AS×Va×AH×St),γ p.2.1 p.2.2.1 p.2.2.2.1 p.2.2.2.2→γ p.2.1 p.2.2.1 p.2.2.2.1 ⟨clean p.2.2.2.2.slots,p.2.2.2.2.h,p.2.2.2.2.n,p.2.2.2.2.defs⟩:=fun p hp=>qzj hp fun k v _ w hw=>qqh _ hw
 refine qzk (α:=Nat×AS×Va×AH×St) (fun p=>⟨clean p.2.2.2.2.slots,p.2.2.2.2.h,p.2.2.2.2.n,p.2.2.2.2.defs⟩) (fun p=>(∃ L t1 t2 os',qj4 rec r b p.1 L t1= .ok (os',t2)∧(∀ x∈os',x∈os)∧p.2.1∈L)∧Ag S.ns ν p.2.2.1∧S.ns≤p.2.1.ns∧Le hB p.2.2.2.1∧γ p.2.1 p.2.2.1 p.2.2.2.1 p.2.2.2.2) (fun p=>p.1) (k,S,ν,hB,s) rfl ⟨rfl,rfl,rfl,q9v _⟩ ⟨⟨[S],t,t',os,he,fun x hx=>hx,by simp⟩,.refl _ _,zbi _,.refl _,h⟩ ?_
 rintro⟨k1,S1,ν1,hB1,s1⟩ ⟨⟨L,t1,t2,os',hu,hs,hm⟩,a1,n1,l1,g1⟩;simp only at hu hm a1 n1 l1 g1;cases k1 with
 | zero=>
   obtain⟨_,h1,_⟩:=R.zak hu;have:=q02 h1;cases L with
   | nil=>cases hm
   | cons x r=>cases this
 | succ k1=>
   obtain⟨q,h1,hu⟩:=R.zak hu;obtain⟨p,h2,hu⟩:=R.zak hu;cases hu;obtain⟨q1,q2⟩:=q;obtain⟨p1,p2⟩:=p;obtain⟨t3,lo,t4,k2,k3⟩:=q4o h1 S1 hm;have hJ:=hrec _ _ _ _ k2 ν1 hB1 _ (hI _ _ _ _ (a1.mono hN) l1 hi) (by omega) (fun l h=>by have:=hr l h; omega) (cl (k1,S1,ν1,hB1,s1) g1)
   rw[z1f hr a1]at hJ;refine hJ.mono fun e s2 hq=>?_
   obtain⟨o,ho,hx,ν2,hB2,a2,n2,l2,g2⟩:=hq;have ho':=k3 o ho;cases hb:qkn o.x with
   | true=>
     have:=(q4v hx).1 hb;subst this;exact⟨(k1,o.S,ν2,hB2,s2),⟨⟨⟨_,_,_,p1,h2,fun x hx=>hs x (zbr.2 (.inr hx)),zcd.2 ⟨o,List.mem_filter.2 ⟨ho',hb⟩,rfl⟩⟩,a1.trans a2 n1,by show S.ns≤o.S.ns; omega,l1.trans l2,g2⟩,zc0 _⟩,rfl,rfl,rfl,q9v _⟩
   | false=>
     have hq:Q1 os S ν hB e s2:=⟨o,hs o (zbr.2 (.inl (List.mem_filter.2 ⟨ho',by simp[qjd,hb]⟩))),hx,ν2,hB2,a1.trans a2 n1,by omega,l1.trans l2,g2⟩
     cases e<;>first | exact hq | (have:=(q4v hx).2 rfl; rw[hb]at this; cases this)
theorem z3k{rec:Tk→T→Outs T}(hI:∀ (ν ν':Va) (hB hB':AH),Ag N ν ν'→Le hB hB'→I ν hB→I ν' hB')(hrec:∀ tk t os t',rec tk t= .ok (os,t')→Snd P N I tk os)(hop:quf P)(hdr:z21 P N I T):
 ∀ {tk:Tk} {t:T} {os:List Out} {t':T},F P hd rec tk t= .ok (os,t')→Snd P N I tk os
 | .ops r ops l S,t,os,t',he=>qsr hI hrec hop he
 | .call f args S,t,os,t',he=>q4q hrec he
 | .app fv args S,t,os,t',he=>by
   cases fv with
   | fn f a b=>exact z6s hI hrec he
   | yld l=>exact z3y hI hrec he
   | _=>cases he
 | .code r c S,t,os,t',he=>by
   have one:∀ {x:X} {e:AExit},mX x e→R.ok ([Out.mk x S],t)=R.ok (os,t')→ ∀ ν hB s,γ S ν hB s→Q1 os S ν hB e s:=fun hx he ν hB s h=>by
    cases he; exact⟨_,zbs.2 rfl,hx,Go.refl h⟩
   cases c with
   | skip=>exact fun ν hB s _ _ _ h=>q8p rfl (one (x:= .normal) (e:= .normal) trivial he ν hB s h)
   | label i=>exact fun ν hB s _ _ _ h=>qua rfl (one (x:= .normal) (e:= .normal) trivial he ν hB s h)
   | exit i=>exact fun ν hB s _ _ _ h=>qgv rfl (one (x:= .exit i) (e:= .exit i) rfl he ν hB s h)
   | ret=>exact fun ν hB s _ _ _ h=>quc rfl (one (x:= .ret) (e:= .ret) trivial he ν hB s h)
   | seq a b=>exact qxy (hd:=hd) hI hrec he
   | block i b=>exact qnx (hd:=hd) hI hrec he
   | scope b=>
     intro ν hB s hi hN hr h;refine qnu rfl ((hrec _ _ _ _ he ν hB s hi hN hr h).mono fun e s1 q=>?_)
     cases e with
     | goto l=>obtain⟨o,_,hx,_⟩:=q; cases hox:o.x<;>(rw[hox]at hx; exact hx.elim)
     | _=>exact q
   | cond x a b=>exact qsk (hd:=hd) hI hrec he
   | region id ops drawn=>
     cases drawn with
     | true=>exact hdr rec hrec id ops r S t t' os he
     | false=>
       intro ν hB s hi hN hr h;refine qd3 rfl ?_;have:=hrec _ _ _ _ he 0 (by simp) (by simp) ν hB s hi hN hr h
       rw[List.range_eq_range'];simpa using this
   | loop b=>
     obtain⟨q,_,he2⟩:=R.zak he;cases hq:q.1 with
     | ann a=>
       rw[hq]at he2;exact qt5 hI hrec he2
     | unroll k=>
       rw[hq]at he2;exact qnd hI hrec he2
     | rcur a posts=>rw[hq]at he2; cases he2
     | lem i=>rw[hq]at he2; cases he2
     | plain=>rw[hq]at he2; cases he2
   | rangeFunc f ps asg body=>
     obtain⟨fv,h1,he⟩:=R.zak he;exact qp8 hI hrec h1 he
   | _=>cases he
end
end
end Go.K
namespace Go.K
open Go Go.J
theorem HRel.part{ρ:Ren}{hv h:AH}{w:World}(hg:∀ i c,hv.get i=some c→h.get i=some c)(hr:HRel ρ h w):HRel ρ hv w:=
 ⟨fun i c hc=>hr.1 i c (hg i c hc),fun i j ci cj hne hi hj hro=>hr.2 i j ci cj hne (hg i ci hi) (hg j cj hj) hro⟩
theorem qr0{P:Program}{r:Option Nat}{o:Oper}{sl sl':List (Nat×AV)}{hv:AH}{n:Nat}{ds:List ADef}{h:AH}
 (hw:St.wf ⟨sl,hv,n,ds⟩)(hr:rsup r≤hv.next)(hj:JO P r o ⟨sl,hv,n,ds⟩ (fun e s'=>e= .normal∧s'=⟨sl',hv,n,ds⟩))(hn:hv.next≤h.next)(hg:∀ i c,hv.get i=some c→h.get i=some c):
 JO P r o ⟨sl,h,n,ds⟩ (fun e s'=>e= .normal∧s'=⟨sl',h,n,ds⟩):=by
 obtain⟨e,s',w1,w2,w3,⟨rfl,rfl⟩,hx⟩:=hj hw hr;intro hwh hrh;refine⟨.normal,⟨sl',h,n,ds⟩,⟨fun k u hk=>zbo (w1.1 k u hk) hn,hwh.2.1,hwh.2.2⟩,zbl _,zbi _,⟨rfl,rfl⟩,fun ρ a w m hrel=>?_⟩
 have hfen:∀ e' a' w',J.Out ρ ⟨sl,hv,n,ds⟩ w .normal ⟨sl',hv,n,ds⟩ e' a' w'→J.Out ρ ⟨sl,h,n,ds⟩ w .normal ⟨sl',h,n,ds⟩ e' a' w':=by
  rintro e' a' w' ⟨ρ',k1,⟨k2,k3,k4⟩,⟨f1,f2,f3,f4,f5,f6⟩⟩
  have hx':ρ'.ext ρ hv.next:=fun i hi=>by
   obtain⟨b1,b2,b3⟩:=f5 i hi;exact⟨b1.symm,b2.symm,b3.symm⟩
  refine⟨ρ,k1,⟨q0v k2 hx' w1.1,?_,?_,?_⟩,f1,f2,fun B hB hno=>f3 B hB fun id c hc hro=>hno id c (hg id c hc) hro,fun id c hc=> .inr ⟨id,c,hc,fun h=>h,rfl⟩,.refl _ _,zbi _⟩
  · rw[k3]; exact(q24 hx' ds w1.2.2).symm
  · intro id c hc
    by_cases hid:∃ c',hv.get id=some c'
    · obtain⟨c',hc'⟩:=hid
      have:=hg id c' hc';rw[hc]at this; cases this;obtain⟨b1,b2⟩:=w1.2.1 id c hc';exact(k4.1 id c hc').ext hx' b1 b2
    · refine(hrel.2.2.1 id c hc).congr (f3 _ (hrel.2.2.1 id c hc).lt fun id' c' hc' hro he=>?_)
      have hne:id'≠id:=fun e=>by subst e; exact hid ⟨c',hc'⟩
      exact hrel.2.2.2 id' id c' c hne (hg id' c' hc') hc hro he
  · exact hrel.2.2.2
 have:=hx ρ a w m ⟨hrel.1,hrel.2.1,HRel.part hg hrel.2.2⟩;refine⟨this.1,?_⟩;have h2:=this.2;revert h2;generalize (o.semAt (fen ρ r).round a.eval).run P w=res;intro h2;have hL:LetsOut (J.Out ρ ⟨sl,hv,n,ds⟩ w .normal ⟨sl',hv,n,ds⟩)→LetsOut (J.Out ρ ⟨sl,h,n,ds⟩ w .normal ⟨sl',h,n,ds⟩):=fun⟨a,w,h⟩=>⟨a,w,hfen _ _ _ h⟩
 cases res with
 | halt ht w=>cases ht<;>first | exact hfen _ _ _ h2 | exact h2
 | ok nx w=>
   cases nx<;>first
    | exact hfen _ _ _ h2
    | (refine⟨h2.1,h2.2.mono ?_⟩; rintro(v | ch | _) w' h'<;>first | exact hfen _ _ _ h' | exact hL h')
    | exact⟨h2.1,h2.2.mono fun _ _ h'=>hfen _ _ _ h'⟩
    | exact h2
theorem z4u{P:Program}{r:Option Nat}{o:Oper}{sl:List (Nat×AV)}{hv:AH}{n:Nat}{ds:List ADef}{d:Nat}{v:AV}{h:AH}
 (hw:St.wf ⟨sl,hv,n,ds⟩)(hr:rsup r≤hv.next)(hj:JO P r o ⟨sl,hv,n,ds⟩ (fun e s'=>e= .normal∧s'=⟨(d,v) :: sl,hv,n,ds⟩))(hn:hv.next≤h.next)(hg:∀ i c,hv.get i=some c→h.get i=some c):
 JO P r o ⟨sl,h,n,ds⟩ (fun e s'=>e= .normal∧s'=⟨(d,v) :: sl,h,n,ds⟩):=qr0 hw hr hj hn hg
theorem qxh{P:Program}{r:Option Nat}{ops:Array Oper}{o:Oper}{sl:List (Nat×AV)}{hv:AH}{n:Nat}{ds:List ADef}{v:AV}{h:AH}
 (hw:St.wf ⟨sl,hv,n,ds⟩)(hr:rsup r≤hv.next)(hj:OpDo P r ops o ⟨sl,hv,n,ds⟩ hv v)(hn:hv.next≤h.next)(hg:∀ i c,hv.get i=some c→h.get i=some c):OpDo P r ops o ⟨sl,h,n,ds⟩ h v:=by
 rcases hj with⟨h1,h2⟩ | ⟨h1,_,h2,h3⟩
 · refine .inl ⟨h1,?_⟩
   obtain⟨e,s',w1,w3,⟨rfl,z1,z2,z3,z4⟩,hx⟩:=qkx h2 hw hr;obtain⟨sl',h',n',ds'⟩:=s';simp only at z1 z2 z3 z4;subst z1; subst z2; subst z3;refine(qr0 (sl':=sl') hw hr hx hn hg).mono ?_;rintro e s' ⟨rfl,rfl⟩;exact⟨rfl,rfl,rfl,rfl,z4⟩
 · exact .inr ⟨h1,rfl,h2,h3⟩
theorem z3p{P:Program}{r:Option Nat}{ops:Array Oper}{sl0:List (Nat×AV)}{n:Nat}{ds:List ADef}{c:Code}{id:Nat}{h h':AH}{Q:AExit→St→Prop}{slF:List (Nat×AV)}(hc:c= .region id ops true)(hmix:P.follows .mixedOrders=true)(effs:List Nat)(srcs:List Src)(fin:Src)(vals:List AV)(hs:Nat→AH)
 (hp:PlanOk ops effs srcs fin)(h0:hs 0=h)(hm:hs effs.length=h')
 (hall:qcx P r ops sl0 vals srcs effs hs n ds (befs ops) ops.toList 0)(hF:q0d sl0 vals fin=slF)(hq:Q .normal ⟨slF,h',n,ds⟩):J P r c ⟨sl0,h,n,ds⟩ Q:=by
 subst hc; subst h0; subst hm; subst hF;intro hw hr
 have hinit:Inv ops sl0 vals effs (Array.replicate ops.size false) sl0 0:=by
  have hno:∀ i,¬ isL (Array.replicate ops.size false) i:=fun i h=>by
   unfold isL at h;rw[zc9,Array.getElem?_replicate]at h;split at h<;>simp at h
  exact⟨by simp,fun i o _ h=>absurd h (hno i),fun q e _=>⟨fun h=>absurd h (hno e),fun h=>absurd h (zcn q)⟩,zbl _,fun i t v h=>absurd h (hno i),fun t v h _=>h⟩
 obtain⟨slW,lW,i1,i2,i3,i4⟩:=qvg hp hall _ _ sl0 0 hinit hw hr (zbi _);have hsubW:=qj8 hp i1 i2;refine⟨.normal,⟨q0d sl0 vals fin,hs effs.length,n,ds⟩,⟨fun t u h=>i3.1 t u (hsubW.lk h),i3.2.1,i3.2.2⟩,zbl _,i4,hq,fun ρ a w nn hrel=>wpIn_region_any hmix ?_⟩
 refine qqi hp hall _ _ sl0 0 hinit hw hr ?_ ρ a {w with drawn:=w.drawn+1} nn ⟨hrel.1,hrel.2.1,q4n _ hrel.2.2⟩ _ ?_
 · exact zbo (List.length_filter_le _ _) (by simp)
 · intro ρ' a' w' sl' listed' j1 j2 j3 j4
   have hsub:=qj8 hp j1 j2;exact⟨ρ',rfl,⟨⟨j3.1.1,fun t u hk=>j3.1.2 t u (hsub.lk hk)⟩,j3.2.1,j3.2.2⟩,(qvh ρ (hs 0) w _).trans j4⟩
theorem qfi{α:Type}(d:α):∀ (l:List α) (i:Nat),nthD d l i=l.getD i d
 | [],i=>by simp[nthD]
 | x :: r,0=>by simp[nthD]
 | x :: r,i+1=>by simp only[nthD,qfi d r i]; simp
theorem qm5{acc:List Nat}{bf:List (List Nat)}(h:∀ i b,Nat.testBit (acc.getD i 0) b=true↔b∈bf.getD i []):∀ (l:List Edge) (b:Nat),
 Nat.testBit (mkOne acc l) b=true↔b∈l.flatMap fun e=>if Region.binds .any e then e.on :: bf.getD e.on [] else[]
 | [],b=>by simp[mkOne]
 | e :: r,b=>by
   have ih:=qm5 h r b;simp only[mkOne,List.flatMap_cons,zbr];cases hb:Region.binds .any e with
   | true=>
     simp only[if_true,zbm]
     have h1:Nat.testBit (1<<<e.on) b=true↔b=e.on:=by
      rw[Nat.one_shiftLeft,Nat.testBit_two_pow]; simp[eq_comm]
     have h2:=h e.on b;rw[qfi];show Nat.testBit (mkOne acc r||| (1<<<e.on||| acc.getD e.on 0)) b=true↔_;rw[Nat.testBit_or,Nat.testBit_or,zbu,zbu,ih,h1,h2];exact Or.comm
   | false=>
     simp only[zbn,if_false,zc6,false_or];exact ih
theorem qrb:∀ (l:List Oper) (acc:List Nat) (bf:List (List Nat)),acc.length=bf.length→(∀ i b,Nat.testBit (acc.getD i 0) b=true↔b∈bf.getD i [])→ ∀ i b,Nat.testBit ((mkGo l acc).getD i 0) b=true↔b∈(qgi l bf).getD i []
 | [],acc,bf,_,h=>h
 | o :: r,acc,bf,hl,h=>by
   simp only[mkGo,qgi];refine qrb r _ _ (by simp[hl]) fun i b=>?_
   rcases Nat.lt_trichotomy i acc.length with hi | hi | hi
   · have:=h i b
     simp only[List.getD_eq_getElem?_getD]at this ⊢;rw[zck hi,zck (by omega)]
     exact this
   · have e1:(acc++[mkOne acc o.after.toList]).getD i 0=mkOne acc o.after.toList:=by rw[hi]; simp
     have e2:∀ x:List Nat,(bf++[x]).getD i []=x:=fun x=>by rw[hi,hl]; simp
     rw[e1,e2];exact(qm5 h _ b).trans befU_flat.symm
   · have e1:(acc++[mkOne acc o.after.toList]).getD i 0=0:=by rw[List.getD_eq_getElem?_getD,List.getElem?_eq_none (by simp; omega)]; rfl
     have e2:∀ x:List Nat,(bf++[x]).getD i []=[]:=fun x=>by rw[List.getD_eq_getElem?_getD,List.getElem?_eq_none (by simp; omega)]; rfl
     rw[e1,e2]; simp
theorem z42{ops:Array Oper}{j b:Nat}:bitT (nthD 0 (mkGo ops.toList []) j) b=true↔b∈(befs ops).getD j []:=by
 rw[qfi];exact qrb ops.toList [] [] rfl (fun i b=>by simp) j b
end Go.K
namespace Go.K
open Go Go.J
noncomputable section
def q0l(sl0:List (Nat×AV))(V:Nat→Option AV):Src→List (Nat×AV)
 | []=>[]
 | (t,some i) :: r=>match V i with | some v=>(t,v) :: q0l sl0 V r | none=>q0l sl0 V r
 | (t,none) :: r=>match lk sl0 t with | some v=>(t,v) :: q0l sl0 V r | none=>q0l sl0 V r
theorem q95{sl0:List (Nat×AV)}{V V':Nat→Option AV}:∀ {src:Src},(∀ t i,(t,some i)∈src→V' i=V i)→q0l sl0 V' src=q0l sl0 V src
 | [],_=>rfl
 | (t,some i) :: r,h=>by
   simp only[q0l,h t i (by simp),q95 (src:=r) fun t i hm=>h t i (zbh _ hm)]
 | (t,none) :: r,h=>by
   simp only[q0l,q95 (src:=r) fun t i hm=>h t i (zbh _ hm)]
theorem qj6{sl0:List (Nat×AV)}{V:Nat→Option AV}{vals:List AV}:∀ {src:Src},(∀ t i,(t,some i)∈src→vals[i]?=V i)→q0d sl0 vals src=q0l sl0 V src
 | [],_=>rfl
 | (t,some i) :: r,h=>by
   simp only[q0l,q0d,h t i (by simp),qj6 (src:=r) fun t i hm=>h t i (zbh _ hm)]
   cases V i<;>rfl
 | (t,none) :: r,h=>by
   simp only[q0l,q0d,qj6 (src:=r) fun t i hm=>h t i (zbh _ hm)]
   cases lk sl0 t<;>rfl
theorem q87{sl0:List (Nat×AV)}{V:Nat→Option AV}{k:Nat}{a:AV}:∀ {src:Src},lk (q0l sl0 V src) k=some a→(∃ i,(k,some i)∈src∧V i=some a)∨((k,none)∈src∧lk sl0 k=some a)
 | [],h=>by simp[q0l,lk]at h
 | (t,some i) :: r,h=>by
   have tail:lk (q0l sl0 V r) k=some a→(∃ j,(k,some j)∈(t,some i) :: r∧V j=some a)∨((k,none)∈(t,some i) :: r∧lk sl0 k=some a):=fun h=>by
    rcases q87 h with⟨j,h1,h2⟩ | ⟨h1,h2⟩
    · exact .inl ⟨j,zbh _ h1,h2⟩
    · exact .inr ⟨zbh _ h1,h2⟩
   simp only[q0l]at h;split at h
   · rename_i v hv
     simp only[lk]at h;split at h
     · rename_i hb
       have:=zbg hb;subst this;simp only[zbe]at h; subst h;exact .inl ⟨i,by simp,hv⟩
     · exact tail h
   · exact tail h
 | (t,none) :: r,h=>by
   have tail:lk (q0l sl0 V r) k=some a→(∃ j,(k,some j)∈(t,none) :: r∧V j=some a)∨((k,none)∈(t,none) :: r∧lk sl0 k=some a):=fun h=>by
    rcases q87 h with⟨j,h1,h2⟩ | ⟨h1,h2⟩
    · exact .inl ⟨j,zbh _ h1,h2⟩
    · exact .inr ⟨zbh _ h1,h2⟩
   simp only[q0l]at h;split at h
   · rename_i v hv
     simp only[lk]at h;split at h
     · rename_i hb
       have:=zbg hb;subst this;simp only[zbe]at h; subst h;exact .inr ⟨by simp,hv⟩
     · exact tail h
   · exact tail h
theorem qel{sl0:List (Nat×AV)}{V:Nat→Option AV}{k:Nat}:∀ {src:Src},((∃ i a,(k,some i)∈src∧V i=some a)∨(∃ a,(k,none)∈src∧lk sl0 k=some a))→ ∃ a,lk (q0l sl0 V src) k=some a
 | [],h=>by simp at h
 | (t,oi) :: r,h=>by
   have tail:∀ x:List (Nat×AV),(x=q0l sl0 V r∨ ∃ v,x=(t,v) :: q0l sl0 V r)→((∃ i a,(k,some i)∈r∧V i=some a)∨(∃ a,(k,none)∈r∧lk sl0 k=some a))→ ∃ a,lk x k=some a:=fun x hx h=>by
    obtain⟨a,ha⟩:=qel h;rcases hx with rfl | ⟨v,rfl⟩
    · exact⟨a,ha⟩
    · simp only[lk]; split
      · exact⟨_,rfl⟩
      · exact⟨a,ha⟩
   have shape:q0l sl0 V ((t,oi) :: r)=q0l sl0 V r∨ ∃ v,q0l sl0 V ((t,oi) :: r)=(t,v) :: q0l sl0 V r:=by
    cases oi<;>simp only[q0l]<;>split<;>simp
   rcases h with⟨i,a,h1,h2⟩ | ⟨a,h1,h2⟩
   · rcases zbm.1 h1 with e | h1
     · cases e
       simp only[q0l,h2,lk];rw[if_pos (zca _)]; exact⟨_,rfl⟩
     · exact tail _ shape (.inl ⟨i,a,h1,h2⟩)
   · rcases zbm.1 h1 with e | h1
     · cases e
       simp only[q0l,h2,lk];rw[if_pos (zca _)]; exact⟨_,rfl⟩
     · exact tail _ shape (.inr ⟨a,h1,h2⟩)
def bitsOf(D:DPl)(m:Nat):Src:=D.dl.filterMap fun p=>match bitT m p.2 with
 | true=>some (p.1,some p.2)
 | false=>none
def z89(D:DPl)(j:Nat):Src:=(D.oldD.filter fun p=>qfl D j p.1).map fun p=>(p.1,none)
def qx2(D:DPl):Src:=D.oldN.map fun p=>(p.1,none)
def q1g(D:DPl)(j:Nat):Src:=bitsOf D (nthD 0 D.ms j)++(z89 D j++qx2 D)
theorem q9s{D:DPl}{m t:Nat}{x:Option Nat}(h:(t,x)∈bitsOf D m):∃ i,x=some i∧(t,i)∈D.dl∧bitT m i=true:=by
 obtain⟨p,h1,h2⟩:=List.mem_filterMap.1 h;split at h2
 · rename_i hb
   simp only[zbe,zbt]at h2;exact⟨p.2,h2.2.symm,by rw[←h2.1]; exact h1,hb⟩
 · cases h2
theorem z43{D:DPl}{m t i:Nat}(h:(t,i)∈D.dl)(hb:bitT m i=true):(t,some i)∈bitsOf D m:=List.mem_filterMap.2 ⟨(t,i),h,by simp only[hb]⟩
theorem q42{l:List (Nat×Nat)}(hd:q5d (l.map (·.1))=true){t i j:Nat}(h1:(t,i)∈l)(h2:(t,j)∈l):i=j:=by
 induction l with
 | nil=>cases h1
 | cons p r ih=>
   simp only[zc3,q5d,zbf,Bool.not_eq_true']at hd
   have nm:∀ k,(p.1,k)∈r→False:=fun k hk=>by
    have:memN p.1 (r.map (·.1))=true:=qdl.2 (zcd.2 ⟨_,hk,rfl⟩);rw[this]at hd; cases hd.1
   rcases zbm.1 h1 with e1 | k1
   · rcases zbm.1 h2 with e2 | k2
     · rw[←e1]at e2; cases e2; rfl
     · exact(nm j (by rw[←e1]; exact k2)).elim
   · rcases zbm.1 h2 with e2 | k2
     · exact(nm i (by rw[←e2]; exact k1)).elim
     · exact ih hd.2 k1 k2
theorem qaa{α:Type}{l:List (Nat×α)}{t:Nat}{x:α}(h:(t,x)∈l):∃ y,getL l t=some y:=by
 induction l with
 | nil=>cases h
 | cons p r ih=>
   simp only[q0h,q0c];split
   · exact⟨_,rfl⟩
   · rename_i hb
     rcases zbm.1 h with rfl | h
     · simp at hb
     · exact ih h
theorem q4b{α:Type}{a b:List (Nat×α)}{t:Nat}{x:α}(h:getL (a++b) t=some x):getL a t=some x∨((∀ y,(t,y)∉a)∧getL b t=some x):=by
 induction a with
 | nil=>exact .inr ⟨(fun y hy=>by cases hy),h⟩
 | cons p r ih=>
   simp only[List.cons_append,q0h,q0c]at h ⊢;split at h
   · exact .inl h
   · rename_i hb
     rcases ih h with h | ⟨h1,h2⟩
     · exact .inl h
     · refine .inr ⟨fun y hy=>?_,h2⟩
       rcases zbm.1 hy with e | hy
       · subst e; simp at hb
       · exact h1 y hy
theorem qee{m:Nat}:∀ {vs:List (Nat×Nat×V)} {t:Nat} {v:V},getL (dVs m vs) t=some v→ ∃ i,(i,t,v)∈vs∧bitT m i=true
 | [],t,v,h=>by simp[dVs,q0h,q0c]at h
 | p :: r,t,v,h=>by
   simp only[dVs]at h;split at h
   · rename_i hb
     simp only[q0h,q0c]at h;split at h
     · rename_i hk
       have:=zbg hk;simp only[zbe]at h;obtain⟨i,t',v'⟩:=p;simp only at this h hb;subst this; subst h;exact⟨i,by simp,hb⟩
     · obtain⟨i,h1,h2⟩:=qee h
       exact⟨i,zbh _ h1,h2⟩
   · obtain⟨i,h1,h2⟩:=qee h
     exact⟨i,zbh _ h1,h2⟩
theorem look{D:DPl}{j:Nat}{vs:List (Nat×Nat×V)}{sl0:List (Nat×AV)}{W:Nat→Option AV}{ν:Va}(hd:q5d (D.dl.map (·.1))=true)
 (hvs:∀ p∈vs,(p.2.1,p.1)∈D.dl∧W p.1=some (cv ν p.2.2))(hD:∀ t v,getL D.oldD t=some v→lk sl0 t=some (cv ν v))(hN:∀ t v,getL D.oldN t=some v→lk sl0 t=some (cv ν v))(hNd:∀ t v i,(t,v)∈D.oldN→(t,i)∉D.dl)
 {t:Nat}{v:V}(h:getL (dVs (nthD 0 D.ms j) vs++(D.oldD.filter (fun p=>qfl D j p.1)++D.oldN)) t=some v):lk (q0l sl0 W (q1g D j)) t=some (cv ν v):=by
 have filt:∀ (l:List (Nat×V)) {t:Nat} {v:V},getL (l.filter fun p=>qfl D j p.1) t=some v→qfl D j t=true∧getL l t=some v:=by
  intro l
  induction l with
  | nil=>intro t v h; simp[q0h,q0c]at h
  | cons p r ih=>
    intro t v h;simp only[List.filter_cons]at h;split at h
    · rename_i hb
      simp only[q0h,q0c]at h ⊢;split at h
      · rename_i hk
        have:=zbg hk;subst this;exact⟨hb,h⟩
      · exact ih h
    · rename_i hb
      obtain⟨h1,h2⟩:=ih h;refine⟨h1,?_⟩;simp only[q0h,q0c];split
      · rename_i hk
        have:=zbg hk;subst this;exact absurd h1 hb
      · exact h2
 have key:∀ a,lk (q0l sl0 W (q1g D j)) t=some a→a=cv ν v:=fun a ha=>by
  rcases q87 ha with⟨i,h1,h2⟩ | ⟨h1,h2⟩
  · have hm:(t,some i)∈bitsOf D (nthD 0 D.ms j):=by
     rcases zbr.1 h1 with h1 | h1
     · exact h1
     · rcases zbr.1 h1 with h1 | h1
       · obtain⟨p,_,e⟩:=zcd.1 h1; cases e
       · obtain⟨p,_,e⟩:=zcd.1 h1; cases e
    obtain⟨i',e,h3,h4⟩:=q9s hm;cases e;rcases q4b h with h | ⟨_,h⟩
    · obtain⟨i2,k1,k2⟩:=qee h
      obtain⟨k3,k4⟩:=hvs _ k1;have:=q42 hd h3 k3;simp only at this k4;subst this;rw[h2]at k4; exact zbz k4
    · rcases q4b h with h | ⟨_,h⟩
      · obtain⟨k1,_⟩:=filt _ h
        exfalso;obtain⟨i3,k2⟩:=qaa h3;have:=q42 hd h3 (q05 k2);subst this;simp only[qfl,k2,h4,Bool.not_true,Bool.and_false,zbn]at k1
      · exact absurd h3 (hNd _ _ _ (q05 h))
  · rcases q4b h with h | ⟨_,h⟩
    ·
     obtain⟨i2,k1,k2⟩:=qee h;obtain⟨k3,k4⟩:=hvs _ k1;simp only at k3;exfalso;rcases zbr.1 h1 with h1 | h1
     · obtain⟨_,e,_⟩:=q9s h1; cases e
     · rcases zbr.1 h1 with h1 | h1
       · obtain⟨p,hp,e⟩:=zcd.1 h1
         cases e;have hp:=(List.mem_filter.1 hp).2;obtain⟨i3,k5⟩:=qaa k3;have:=q42 hd k3 (q05 k5);subst this;simp only[qfl,k5,k2,Bool.not_true,Bool.and_false,zbn]at hp
       · obtain⟨p,hp,e⟩:=zcd.1 h1
         cases e;exact hNd p.1 p.2 _ hp k3
    · rcases q4b h with h | ⟨_,h⟩
      · have:=hD _ _ (filt _ h).2
        rw[h2]at this; exact zbz this
      · have:=hN _ _ h
        rw[h2]at this; exact zbz this
 have has:∃ a,lk (q0l sl0 W (q1g D j)) t=some a:=by
  refine qel ?_;rcases q4b h with h | ⟨_,h⟩
  · obtain⟨i2,k1,k2⟩:=qee h
    obtain⟨k3,k4⟩:=hvs _ k1;exact .inl ⟨i2,_,zbr.2 (.inl (z43 k3 k2)),k4⟩
  · rcases q4b h with h | ⟨_,h⟩
    · obtain⟨k1,k2⟩:=filt _ h
      have hm:(t,v)∈D.oldD.filter fun p=>qfl D j p.1:=q05 h
      exact .inr ⟨_,zbr.2 (.inr (zbr.2 (.inl (zcd.2 ⟨_,hm,rfl⟩)))),hD _ _ k2⟩
    · exact .inr ⟨_,zbr.2 (.inr (zbr.2 (.inr (zcd.2 ⟨_,q05 h,rfl⟩)))),hN _ _ h⟩
 obtain⟨a,ha⟩:=has;rw[ha,key a ha]
theorem qwq{bf:List (List Nat)}{j:Nat}:∀ {E:List Nat} {p q:Nat},E[q]?=some j→(∀ i:Nat,i<q→E[i]?≠some j)→(∀ (i e:Nat),i<q→E[i]?=some e→ ¬ (bf.getD e []).contains j=true)→loOf bf j p E≥p+q∧hiOf bf j p E≤p+q
 | [],p,q,h,_,_=>by simp at h
 | e :: r,p,0,h,_,_=>by
   simp only[List.getElem?_cons_zero,zbe]at h;subst h;simp[loOf,hiOf]
 | e :: r,p,q+1,h,h1,h2=>by
   simp only[List.getElem?_cons_succ]at h
   have hne:Nat.beq e j=false:=by
    cases hb:Nat.beq e j with
    | false=>rfl
    | true=>have:=zbg hb; exact absurd (by simp[this]) (h1 0 (by omega))
   obtain⟨i1,i2⟩:=qwq (bf:=bf) (p:=p+1) h (fun i hi=>by have:=h1 (i+1) (by omega); simpa using this) (fun i e hi he=>h2 (i+1) e (by omega) (by simpa using he))
   have h3:=h2 0 e (by omega) (by simp)
   simp only[loOf,hiOf,hne,zbn,if_false];rw[if_neg h3];refine⟨?_,by omega⟩
   split<;>omega
theorem qwr{bf:List (List Nat)}{j:Nat}:∀ {E:List Nat} {p q:Nat} {e:Nat},E[q]?=some e→(∀ i:Nat,E[i]?≠some j)→(bf.getD j []).contains e=true→p+q+1≤loOf bf j p E
 | [],p,q,e,h,_,_=>by simp at h
 | x :: r,p,q,e,h,h1,h2=>by
   have hne:Nat.beq x j=false:=by
    cases hb:Nat.beq x j with
    | false=>rfl
    | true=>have:=zbg hb; exact absurd (by simp[this]) (h1 0)
   simp only[loOf,hne,zbn,if_false];cases q with
   | zero=>
     simp only[List.getElem?_cons_zero,zbe]at h;subst h;rw[if_pos h2]; omega
   | succ q=>
     simp only[List.getElem?_cons_succ]at h;have:=qwr (bf:=bf) (p:=p+1) h (fun i=>by have:=h1 (i+1); simpa using this) h2
     split<;>omega
theorem qls{bf:List (List Nat)}{j:Nat}:∀ {E:List Nat} {p k:Nat},(∀ i:Nat,E[i]?≠some j)→p+k≤hiOf bf j p E→ ∀ (i e:Nat),i<k→E[i]?=some e→(bf.getD e []).contains j=false
 | [],_,_,_,_,i,e,_,h=>by simp at h
 | x :: r,p,k,h1,hk,i,e,hi,h=>by
   have hne:Nat.beq x j=false:=by
    cases hb:Nat.beq x j with
    | false=>rfl
    | true=>have:=zbg hb; exact absurd (by simp[this]) (h1 0)
   simp only[hiOf,hne,zbn,if_false]at hk;split at hk
   · omega
   · rename_i hc
     cases i with
     | zero=>
       simp only[List.getElem?_cons_zero,zbe]at h;subst h; simpa using hc
     | succ i=>
       simp only[List.getElem?_cons_succ]at h;exact qls (p:=p+1) (k:=k - 1) (fun i=>by have:=h1 (i+1); simpa using this) (by omega) i e (by omega) h
end
end Go.K
