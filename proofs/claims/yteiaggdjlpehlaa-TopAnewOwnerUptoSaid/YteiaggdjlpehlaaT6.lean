import Derived.Test.YteiaggdjlpehlaaT5
import Derived.Test.YteiaggdjlpehlaaProg
import Derived.Test.YteiaggdjlpehlaaT2
set_option linter.all false
set_option maxRecDepth 100000
set_option linter.all false
namespace Go.Proofs.KT
open Go Go.J Go.K
noncomputable section
abbrev LL:=List Lin
abbrev LF:=List Fa
abbrev LT:=List AT
theorem mixed:Go.Proofs.Try.prog.follows .mixedOrders=true:=by kernel_rfl
def rl:List Nat:=[7,52,53,54,95]
def k0:AT:=(.int ⟨-9223372036854775808,[]⟩ ⟨9223372036854775807,[]⟩)
def k1:LT:=[k0,k0,k0]
def k2:Lin:=⟨1048576,[]⟩
def k3:Lin:=⟨0,[]⟩
def k4:AT:=(.sl k3 k2 true (k0 :: k1))
def k5:LT:=[.str,k0,k0]
def k6:AT:=(.int k3 ⟨9999,[]⟩)
def k7:LT:=[.str,k6,k6]
def k8:Lin:=⟨0,[(4,1)]⟩
def k9:Fa:=(.pre 4 k8 k7)
def ka:Lin:=⟨-1,[]⟩
def kb:Lin:=⟨0,[(3,1)]⟩
def kc:AT:=(.int ⟨0,[(2,1)]⟩ kb)
def kd:AT:=(.int k3 ⟨-1,[(4,1)]⟩)
def ke:LT:=[kd,kc,kc,(.int ka ⟨-2,[(5,1)]⟩)]
def kf:Lin:=⟨0,[(5,1)]⟩
def kg:Fa:=(.pre 5 kf ke)
def kh:AT:=(.int ka ⟨-1,[(4,1)]⟩)
def ki:Lin:=⟨0,[(6,1)]⟩
def kj:Fa:=(.pre 6 ki [kc,kh,kh])
def kk:Lin:=⟨1850,[(3,-1)]⟩
def kl:Lin:=⟨-1450,[(3,1)]⟩
def km:Lin:=⟨4,[(6,-1)]⟩
def kn:Lin:=⟨1850,[(2,-1)]⟩
def ko:Lin:=⟨0,[(3,1),(2,-1)]⟩
def kp:Lin:=⟨-1450,[(2,1)]⟩
def kq:Lin:=⟨8,[(5,-1)]⟩
def kr:Lin:=⟨6,[(4,-1)]⟩
def ks:V:=(.int .i64 k3)
def kt:List (LAnn):=[⟨0,[(0,(.tup [ks,ks,ks]))],[],[],[],[kr,kq,kp,ko,kn,km,kl,kk],[kj,kg,k9],k3⟩]
def ku:Lin:=⟨9223372036854775807,[(7,-1)]⟩
def kv:Lin:=⟨9223372036854775808,[(7,1)]⟩
def kw:Lin:=⟨9223372036854775807,[(8,-1)]⟩
def kx:Lin:=⟨9223372036854775808,[(8,1)]⟩
def ky:Lin:=⟨9223372036854775807,[(9,-1)]⟩
def kz:Lin:=⟨9223372036854775808,[(9,1)]⟩
def k10:Lin:=⟨0,[(7,1)]⟩
def k11:Lin:=⟨0,[(8,1)]⟩
def k12:Lin:=⟨0,[(9,1)]⟩
def k13:V:=(.int .i64 k12)
def k14:V:=(.int .i64 k11)
def k15:V:=(.int .i64 k10)
def k16:List (Sg):=[(.one .nils)]
def k17:List (Nat×Ck):=[(0,(.own ((.one .nils) :: k16) []))]
def k18:V:=(.int .i64 ⟨0,[(2,1)]⟩)
def k19:V:=(.int .i64 kb)
def k1a:Lin:=⟨1,[]⟩
def k1b:V:=(.sym 4)
def k1c:Lin:=⟨2,[]⟩
def k1d:V:=(.sym 5)
def k1e:Lin:=⟨3,[]⟩
def k1f:V:=(.sym 6)
def k1g:Lin:=⟨4,[]⟩
def k1h:LF:=[(.cell 1 k1g k1f),(.sl 6 true k1),(.cell 1 k1e k1d),(.sl 5 true (k0 :: k1)),(.cell 1 k1c k1b),(.sl 4 true k5),(.cell 1 k1a k19),(.cell 1 k3 k18),(.sl 1 true (k0 :: k0 :: (.sl k3 k2 true k5) :: k4 :: (.sl k3 k2 true k1) :: k0 :: k0 :: (.sl k3 k2 true k5) :: k4 :: (.sl k3 k2 true k1) :: (.sl k3 k2 true [k0]) :: k1))]
def k1i:Lin:=⟨9223372036854775807,[(3,-1)]⟩
def k1j:Lin:=⟨9223372036854775808,[(3,1)]⟩
def k1k:Lin:=⟨1048576,[(6,-1)]⟩
def k1l:Lin:=⟨9223372036854775807,[(2,-1)]⟩
def k1m:Lin:=⟨9223372036854775808,[(2,1)]⟩
def k1n:Lin:=⟨1048576,[(5,-1)]⟩
def k1o:Lin:=⟨1,[(1,-1)]⟩
def k1p:Lin:=⟨-1,[(1,1)]⟩
def k1q:Lin:=⟨1048576,[(4,-1)]⟩
def k1r:LL:=[k8,k1q,k1p,k1o,kf,k1n,k1m,k1l,ki,k1k,k1j,k1i]
def k1s:List (V):=[(.agg [k18,k19,k1b,k1d,k1f])]
def k1t:Lin:=⟨0,[(26,-1),(23,1)]⟩
def k1u:Lin:=⟨0,[(26,1)]⟩
def k1v:Lin:=⟨9223372036854775807,[(26,-1)]⟩
def k1w:Lin:=⟨9223372036854775808,[(26,1)]⟩
def k1x:V:=(.int .i64 k1u)
def k1y:Lin:=⟨0,[(22,-1),(19,1)]⟩
def k1z:Lin:=⟨0,[(22,1)]⟩
def k20:LL:=[⟨9223372036854775808,[(22,1)]⟩,⟨9223372036854775807,[(22,-1)]⟩]
def k21:V:=(.int .i64 k1z)
def k22:Lin:=⟨0,[(14,-1),(6,1)]⟩
def k23:Lin:=⟨0,[(14,1)]⟩
def k24:Lin:=⟨9223372036854775807,[(14,-1)]⟩
def k25:Lin:=⟨9223372036854775808,[(14,1)]⟩
def k26:V:=(.int .i64 k23)
def k27:Lin:=⟨0,[(15,1)]⟩
def k28:Lin:=⟨0,[(34,1)]⟩
def k29:Lin:=⟨0,[(30,1)]⟩
def k2a:LL:=[⟨9223372036854775808,[(30,1)]⟩,⟨9223372036854775807,[(30,-1)]⟩]
def k2b:Lin:=⟨0,[(13,1)]⟩
def k2c:Lin:=⟨9223372036854775807,[(13,-1)]⟩
def k2d:Lin:=⟨9223372036854775808,[(13,1)]⟩
def k2e:LL:=[k2d,k2c]
def k2f:V:=(.int .i64 k2b)
def k2g:Lin:=⟨0,[(25,-1),(22,1)]⟩
def k2h:Lin:=⟨0,[(25,1)]⟩
def k2i:LL:=[⟨9223372036854775808,[(25,1)]⟩,⟨9223372036854775807,[(25,-1)]⟩]
def k2j:V:=(.int .i64 k2h)
def k2k:Lin:=⟨0,[(21,-1),(20,1)]⟩
def k2l:LL:=[⟨9223372036854775808,[(21,1)]⟩,⟨9223372036854775807,[(21,-1)]⟩]
def k2m:Lin:=⟨0,[(21,1)]⟩
def k2n:V:=(.int .i64 k2m)
def k2o:Lin:=⟨0,[(18,1)]⟩
def k2p:Lin:=⟨0,[(12,-1),(4,1)]⟩
def k2q:Lin:=⟨0,[(12,1)]⟩
def k2r:Lin:=⟨9223372036854775807,[(12,-1)]⟩
def k2s:Lin:=⟨9223372036854775808,[(12,1)]⟩
def k2t:V:=(.int .i64 k2q)
def k2u:Lin:=⟨0,[(11,1)]⟩
def k2v:Lin:=⟨9223372036854775807,[(11,-1)]⟩
def k2w:Lin:=⟨9223372036854775808,[(11,1)]⟩
def k2x:V:=(.int .i64 k2u)
def k2y:Lin:=⟨9223372036854775807,[(10,-1)]⟩
def k2z:Lin:=⟨9223372036854775808,[(10,1)]⟩
def k30:Lin:=⟨7,[(11,-1)]⟩
def k31:Lin:=⟨-2,[(11,1)]⟩
def k32:Lin:=⟨1,[(10,1)]⟩
def k33:Lin:=⟨0,[(10,1)]⟩
def k34:Lin:=⟨1,[(11,1)]⟩
def k35:V:=(.int .i64 k33)
def k36:Lin:=⟨-2,[(10,1)]⟩
def k37:Lin:=⟨-1,[(9,1)]⟩
def k38:List (Lin×V):=[(k1g,k1f),(k1e,k1d),(k1c,k1b),(k1a,k19),(k3,k18)]
def k39:Sg:=(.one k1f)
def k3a:Sg:=(.one k1d)
def k3b:Sg:=(.one k1b)
def k3c:Sg:=(.one k19)
def k3d:Sg:=(.one k18)
def k3e:Ck:=(.own [k3d,k3c,k3b,k3a,k39] k38)
def k3f:Lin:=⟨7,[(12,-1)]⟩
def k3g:Lin:=⟨1,[(12,1)]⟩
def k3h:Lin:=⟨-1,[(10,1)]⟩
def k3i:List (LAnn):=(⟨2,[(0,(.tup [k35,ks,k2x]))],[],[],[],[k30,k2u,k34,k3h,k33,k32,⟨6,[(11,-1),(10,1)]⟩,k31,⟨4,[(10,-1)]⟩,k2w,k2v,k2z,k2y],[],k3⟩ :: ⟨3,[(0,(.tup [k35,k2x,k2t]))],[],[],[],[kr,kp,ko,kn,kl,kk,k2q,k3g,k2u,k34,k36,k33,k32,⟨-2,[(12,1)]⟩,k3f,k30,⟨4,[(10,-1)]⟩,k2s,k2r,k2w,k2v,k2z,k2y],[],k3⟩ :: kt)
def k3j:List (Nat×Ck):=((8,k3e) :: k17)
def k3k:Lin:=⟨9223372036854775807,[(15,-1)]⟩
def k3l:Lin:=⟨9223372036854775808,[(15,1)]⟩
def k3m:Lin:=⟨1,[(13,1)]⟩
def k3n:V:=(.int .i64 k27)
def k3o:Sg:=(.one k15)
def k3p:Sg:=(.one k14)
def k3q:LF:=((.cell 1 ⟨11,[]⟩ k15) :: k1h)
def k3r:LL:=[k1p,k1o,kf,k1n,k1m,k1l,ki,k1k,k1j,k1i,kv,ku]
def k3s:Lin:=⟨4,[(11,-1)]⟩
def k3t:List (Nat×Ck):=((9,(.own [(.one ks),(.one ks)] [])) :: k3j)
def k3u:List (Nat×V):=[(0,(.bool (.lit false)))]
def k3v:List (LAnn):=[⟨0,k3u,[],[],[],[],[],k3⟩]
def k3w:Lin:=⟨-1,[(5,1)]⟩
def k3x:Lin:=⟨0,[(16,1)]⟩
def k3y:Fa:=(.pre 16 k3x [(.int k3 k3w)])
def k3z:Lin:=⟨0,[(20,1)]⟩
def k40:List (Sg):=[k39,(.one (.map 12))]
def k41:List (Sg):=(k3d :: k3c :: k3b :: k3a :: k40)
def k42:AT:=(.int k3 kb)
def k43:Ck:=(.mp (.int .i64) true [k6,k42,k6,k42] none)
def k44:AT:=(.int k10 k10)
def k45:Lin:=⟨0,[(19,1)]⟩
def k46:Fa:=(.pre 16 k45 [(.int k3 k3w)])
def k47:LF:=(k46 :: (.cell 16 k3 k15) :: (.sl 16 true [k44]) :: kj :: kg :: k9 :: k3q)
def k48:Lin:=⟨0,[(15,1),(6,-1)]⟩
def k49:Lin:=⟨0,[(15,-1),(6,1)]⟩
def k4a:Lin:=⟨-1,[(7,-1),(5,1)]⟩
def k4b:Lin:=⟨0,[(14,1),(4,-1)]⟩
def k4c:Lin:=⟨0,[(14,-1),(4,1)]⟩
def k4d:Lin:=⟨1,[(16,-1)]⟩
def k4e:Lin:=⟨-1,[(16,1)]⟩
def k4f:Lin:=⟨0,[(37,-1),(36,1)]⟩
def k4g:LL:=[⟨9223372036854775808,[(37,1)]⟩,⟨9223372036854775807,[(37,-1)]⟩]
def k4h:Lin:=⟨0,[(37,1)]⟩
def k4i:LL:=(k4h :: k4f :: k4g)
def k4j:V:=(.int .i64 k4h)
def k4k:Lin:=⟨0,[(35,-1),(4,1)]⟩
def k4l:Lin:=⟨9223372036854775807,[(35,-1)]⟩
def k4m:Lin:=⟨9223372036854775808,[(35,1)]⟩
def k4n:LL:=[k4m,k4l]
def k4o:Lin:=⟨0,[(36,1)]⟩
def k4p:Lin:=⟨0,[(35,1)]⟩
def k4q:Lin:=⟨0,[(29,1)]⟩
def k4r:V:=(.int .i64 k4p)
def k4s:LL:=[⟨9223372036854775808,[(51,1)]⟩,⟨9223372036854775807,[(51,-1)]⟩]
def k4t:Lin:=⟨9223372036854775807,[(52,-1)]⟩
def k4u:Lin:=⟨9223372036854775808,[(52,1)]⟩
def k4v:Lin:=⟨0,[(51,1)]⟩
def k4w:Lin:=⟨0,[(52,1)]⟩
def k4x:V:=(.int .i64 k4v)
def k4y:V:=(.int .i64 k4w)
def k4z:Lin:=⟨9223372036854775807,[(39,-1)]⟩
def k50:Lin:=⟨9223372036854775808,[(39,1)]⟩
def k51:LL:=[k50,k4z]
def k52:Lin:=⟨9223372036854775807,[(40,-1)]⟩
def k53:Lin:=⟨9223372036854775808,[(40,1)]⟩
def k54:Lin:=⟨0,[(41,1)]⟩
def k55:Lin:=⟨9223372036854775807,[(42,-1)]⟩
def k56:Lin:=⟨9223372036854775808,[(42,1)]⟩
def k57:Lin:=⟨0,[(42,-1),(41,1)]⟩
def k58:Lin:=⟨0,[(39,1)]⟩
def k59:Lin:=⟨0,[(40,1)]⟩
def k5a:Lin:=⟨0,[(42,1)]⟩
def k5b:Ck:=(.own [(.arr ⟨9,[]⟩ [k6])] [])
def k5c:Ck:=(.bld [(.int k3 k8),kc,k42] [])
def k5d:V:=(.int .i64 k5a)
def k5e:V:=(.int .i64 k58)
def k5f:V:=(.int .i64 k59)
def k5g:Lin:=⟨9223372036854775807,[(46,-1)]⟩
def k5h:Lin:=⟨9223372036854775808,[(46,1)]⟩
def k5i:LL:=[k5h,k5g]
def k5j:Lin:=⟨0,[(46,1)]⟩
def k5k:V:=(.int .i64 k5j)
def k5l:Lin:=⟨9223372036854775807,[(47,-1)]⟩
def k5m:Lin:=⟨9223372036854775808,[(47,1)]⟩
def k5n:LL:=[k5m,k5l]
def k5o:Lin:=⟨0,[(47,1)]⟩
def k5p:V:=(.int .i64 k5o)
def k5q:LD:= .ann ⟨1,[(8,k5p)],[],[],[],(k5o :: ⟨0,[(47,-1),(34,1)]⟩ :: k5n),[],⟨0,[(47,-1),(34,1)]⟩⟩
def k5r:LL:=[⟨9223372036854775808,[(45,1)]⟩,⟨9223372036854775807,[(45,-1)]⟩]
def k5s:Lin:=⟨0,[(45,1)]⟩
def k5t:V:=(.int .i64 k5s)
def k5u:LD:= .ann ⟨1,[(8,k5t)],[],[],[],(k5s :: ⟨0,[(45,-1),(34,1)]⟩ :: k5r),[],⟨0,[(45,-1),(34,1)]⟩⟩
def k5v:Lin:=⟨0,[(38,-1),(5,1)]⟩
def k5w:LL:=[⟨9223372036854775808,[(38,1)]⟩,⟨9223372036854775807,[(38,-1)]⟩]
def k5x:Lin:=⟨0,[(38,1)]⟩
def k5y:V:=(.int .i64 k5x)
def k5z:Lin:=⟨9223372036854775807,[(44,-1)]⟩
def k60:Lin:=⟨9223372036854775808,[(44,1)]⟩
def k61:LL:=[k60,k5z]
def k62:Lin:=⟨0,[(44,1)]⟩
def k63:V:=(.int .i64 k62)
def k64:LD:= .ann ⟨1,[(8,k63)],[],[],[],(k62 :: ⟨0,[(44,-1),(34,1)]⟩ :: k61),[],⟨0,[(44,-1),(34,1)]⟩⟩
def k65:LL:=[⟨9223372036854775808,[(43,1)]⟩,⟨9223372036854775807,[(43,-1)]⟩]
def k66:Lin:=⟨0,[(43,1)]⟩
def k67:Lin:=⟨0,[(35,-1),(29,1)]⟩
def k68:LL:=[⟨6,[(35,-1)]⟩,k4p,k67]
def k69:Lin:=⟨1,[(35,-1),(4,1)]⟩
def k6a:Lin:=⟨1,[(35,1)]⟩
def k6b:List (Nat×Ck):=[(32,(.own [(.one (.slo 31 k3 k4p k4q))] []))]
def k6c:Ck:=(.loop 2 (some .ret))
def k6d:Ck:=(.own [(.one (.bool (.ne k4o)))] [])
def k6e:List (Nat×V):=[(0,(.bool (.lit true)))]
def k6f:Lin:=⟨0,[(34,-1),(29,1)]⟩
def k6g:LT:=[(.int k3 k8)]
def k6h:V:=(.ptr 32 k3)
def k6i:LL:=[⟨9223372036854775808,[(29,1)]⟩,⟨9223372036854775807,[(29,-1)]⟩]
def k6j:V:=(.int .i64 k4q)
def k6k:Lin:=⟨0,[(27,1)]⟩
def k6l:List (LAnn):=(⟨1,[(0,(.bool (.ne k6k)))],[],[],[],[],[],k3⟩ :: k3v)
def k6m:Lin:=⟨5,[]⟩
def k6n:List (Nat×Ck):=((12,k43) :: (13,(.own k41 ((k6m,(.map 12)) :: k38))) :: k3j)
def k6o:Lin:=⟨0,[(23,1)]⟩
def k6p:V:=(.int .i64 k6o)
def k6q:Nat×Ck:=(9,(.own [(.one k6p),(.one k21)] [(k1a,k21),(k3,k6p)]))
def k6r:LT:=[k42,k42,(.int ka k3w)]
def k6s:Ck:=(.bld ((.int k3 k8) :: k6r) [])
def k6t:LF:=((.cell 5 ⟨2,[(7,4)]⟩ k21) :: (.cell 5 ⟨1,[(7,4)]⟩ k2n) :: k3y :: k47)
def k6u:LL:=[k23,kl,kk,⟨-1,[(19,1)]⟩,⟨1,[(19,-1)]⟩,k10,k6o,k27]
def k6v:Lin:=⟨-1,[(23,-1),(22,1)]⟩
def k6w:Lin:=⟨0,[(21,-1),(3,1)]⟩
def k6x:Lin:=⟨0,[(23,1),(21,-1)]⟩
def k6y:Lin:=⟨0,[(21,1),(2,-1)]⟩
def k6z:Lin:=⟨0,[(44,-1),(43,1)]⟩
def k70:Lin:=⟨0,[(42,-1),(4,1)]⟩
def k71:Lin:=⟨0,[(43,-1),(41,1)]⟩
def k72:Lin:=⟨9223372036854775807,[(58,-1)]⟩
def k73:Lin:=⟨9223372036854775808,[(58,1)]⟩
def k74:Lin:=⟨9223372036854775807,[(59,-1)]⟩
def k75:Lin:=⟨9223372036854775808,[(59,1)]⟩
def k76:Lin:=⟨0,[(58,1)]⟩
def k77:Lin:=⟨0,[(59,1)]⟩
def k78:V:=(.int .i64 k76)
def k79:V:=(.int .i64 k77)
def k7a:List (LD):=[.ann ⟨2,[(14,k79),(71,k78)],[],[],[],[⟨0,[(59,1),(57,-1)]⟩,k77,k76,⟨0,[(58,-1),(26,1)]⟩,k75,k74,k73,k72],[],⟨0,[(58,-1),(26,1)]⟩⟩,.ann ⟨2,[(20,k5d)],[],[(39,(.own [(.one (.slo 38 k3 k66 k4o))] []))],[],[⟨0,[(43,1),(41,-1)]⟩,k71,k66,k5a,k70,k66,⟨0,[(43,-1),(36,1)]⟩,k56,k55],[],k70⟩,.ann ⟨1,[(8,k63)],[],[],[],(k62 :: k6z :: k61),[],k6z⟩]
def k7b:Lin:=⟨0,[(46,-1),(41,1)]⟩
def k7c:Lin:=⟨0,[(48,1)]⟩
def k7d:Lin:=⟨9223372036854775807,[(49,-1)]⟩
def k7e:Lin:=⟨9223372036854775808,[(49,1)]⟩
def k7f:Lin:=⟨0,[(49,1)]⟩
def k7g:LL:=(k7f :: k7c :: ⟨0,[(47,1),(2,-1)]⟩ :: k5o :: k5j :: ⟨268435456,[(48,-1)]⟩ :: ⟨0,[(48,-1),(46,1)]⟩ :: k7b :: ⟨0,[(49,-1),(48,1)]⟩ :: ⟨0,[(47,-1),(3,1)]⟩ :: k7e :: k7d :: k7c :: k5m :: k5l :: k5i)
def k7h:V:=(.int .i64 k7f)
def k7i:Nat×Ck:=(42,(.own [(.one (.sym 48)),(.one k7h)] []))
def k7j:LL:=[⟨9223372036854775808,[(53,1)]⟩,⟨9223372036854775807,[(53,-1)]⟩]
def k7k:Lin:=⟨0,[(53,1)]⟩
def k7l:LD:= .ann ⟨1,[(8,(.int .i64 k7k))],[],[],[],(k7k :: ⟨0,[(53,-1),(41,1)]⟩ :: k7j),[],⟨0,[(53,-1),(41,1)]⟩⟩
def k7m:Lin:=⟨9223372036854775807,[(54,-1)]⟩
def k7n:Lin:=⟨9223372036854775808,[(54,1)]⟩
def k7o:Lin:=⟨0,[(54,1)]⟩
def k7p:V:=(.int .i64 k7o)
def k7q:LD:= .ann ⟨1,[(8,k7p)],[],[],[],[k7o,⟨0,[(54,-1),(41,1)]⟩,k7n,k7m],[],⟨0,[(54,-1),(41,1)]⟩⟩
def k7r:LD:= .ann ⟨1,[(8,k4y)],[],[],[],[k4w,⟨0,[(52,-1),(41,1)]⟩,k4u,k4t],[],⟨0,[(52,-1),(41,1)]⟩⟩
def k7s:Lin:=⟨0,[(45,-1),(26,1)]⟩
def k7t:LD:= .ann ⟨1,[(13,k5t)],[],[],[],(k5s :: k7s :: k5r),[],k7s⟩
def k7u:LD:= .ann ⟨1,[(8,k4x)],[],[],[],(k4v :: ⟨0,[(51,-1),(41,1)]⟩ :: k4s),[],⟨0,[(51,-1),(41,1)]⟩⟩
def k7v:LL:=[⟨9223372036854775808,[(50,1)]⟩,⟨9223372036854775807,[(50,-1)]⟩]
def k7w:Lin:=⟨0,[(50,1)]⟩
def k7x:List (Nat×V):=[(8,(.int .i64 k7w))]
def k7y:LD:= .ann ⟨1,k7x,[],[],[],(k7w :: ⟨0,[(50,-1),(41,1)]⟩ :: k7v),[],⟨0,[(50,-1),(41,1)]⟩⟩
def k7z:Lin:=⟨0,[(45,-1),(6,1)]⟩
def k80:LD:= .ann ⟨1,[(13,k5t)],[],[],[],(k5s :: k7z :: k5r),[],k7z⟩
def k81:LD:= .ann ⟨1,[(43,k4y)],[],[],[],[k4w,⟨0,[(52,-1),(51,1)]⟩,k4u,k4t],[],⟨0,[(52,-1),(51,1)]⟩⟩
def k82:LD:= .ann ⟨1,[(33,k5k)],[],[],[],(k5j :: ⟨0,[(46,-1),(6,1)]⟩ :: k5i),[],⟨0,[(46,-1),(6,1)]⟩⟩
def k83:LD:= .ann ⟨1,[(17,k5t)],[],[],[],(k5s :: k7s :: k5r),[],k7s⟩
def k84:LD:= .ann ⟨1,[(28,k63)],[],[],[],(k62 :: k6z :: k61),[],k6z⟩
def k85:Lin:=⟨0,[(42,-1),(36,1)]⟩
def k86:LL:=[⟨6,[(42,-1)]⟩,k5a,k85]
def k87:Lin:=⟨2,[(42,-1),(4,1)]⟩
def k88:Lin:=⟨1,[(42,-1),(4,1)]⟩
def k89:Lin:=⟨1,[(42,-1),(36,1)]⟩
def k8a:Lin:=⟨1,[(42,1)]⟩
def k8b:Lin:=⟨0,[(42,1),(41,-1)]⟩
def k8c:List (Nat×Ck):=[(39,(.own [(.one (.slo 38 k3 k5a k4o))] []))]
def k8d:List (Nat×Ck):=((27,(.own [(.one (.bool (.ne k66)))] [])) :: (30,k6c) :: (34,k6c) :: k8c)
def k8e:LAnn:=⟨1,k6e,[],k8c,[],(k8b :: k57 :: k5a :: k8a :: k85 :: k89 :: k70 :: k88 :: k87 :: k86),[],k3⟩
def k8f:Lin:=⟨0,[(41,-1),(36,1)]⟩
def k8g:Lin:=⟨2,[(41,-1),(4,1)]⟩
def k8h:Lin:=⟨1,[(41,-1),(4,1)]⟩
def k8i:Lin:=⟨0,[(41,-1),(4,1)]⟩
def k8j:Lin:=⟨1,[(41,1)]⟩
def k8k:LL:=[k54,k8j,k8f,⟨1,[(41,-1),(36,1)]⟩,k8i,k8h,k8g,k54,k8f]
def k8l:List (Nat×Ck):=[(39,(.own [(.one (.slo 38 k3 k54 k4o))] []))]
def k8m:List (Nat×V):=[(4,(.ptr 40 k3)),(3,k6h),(2,(.ptr 35 k3)),(1,(.ptr 37 k3)),(0,(.ptr 39 k3))]
def k8n:Lin:=⟨1,[(36,-1),(4,1)]⟩
def k8o:Lin:=⟨9223372036854775807,[(36,-1)]⟩
def k8p:Lin:=⟨9223372036854775808,[(36,1)]⟩
def k8q:V:=(.int .i64 k4o)
def k8r:LD:= .ann ⟨1,[(13,k8q)],[],[],[],[k4o,k8n,k8p,k8o],[],k8n⟩
def k8s:Lin:=⟨0,[(24,1)]⟩
def k8t:List (Nat×Ck):=((12,k43) :: (13,(.own k41 [])) :: k3j)
def k8u:LL:=(kp :: ⟨0,[(22,1),(2,-1)]⟩ :: ko :: kn :: k49 :: ki :: k48 :: km :: k6v :: ⟨0,[(22,-1),(3,1)]⟩ :: k6u)
def k8v:Nat×Ck:=(9,(.own [(.one k6p),(.one k2j)] [(k1a,k2j),(k3,k6p)]))
def k8w:LL:=(kq :: k6y :: k6x :: k6w :: ⟨-1,[(25,1),(23,-1)]⟩ :: k2h :: k2g :: k8u)
def k8x:List (LAnn):=(⟨1,[(0,(.bool (.ne k1u)))],[],[],[],[],[],k3⟩ :: k3v)
def k8y:LF:=((.cell 1 ⟨13,[]⟩ k15) :: k1h)
def k8z:V:=(.map 11)
def k90:List (Sg):=[k39,(.one k8z)]
def k91:List (Sg):=(k3d :: k3c :: k3b :: k3a :: k90)
def k92:List (Nat×Ck):=((11,k43) :: (12,(.own k91 [])) :: k3j)
def k93:LF:=((.pre 15 k2o [kc]) :: (.cell 15 k3 k15) :: (.sl 15 true [k44]) :: kj :: kg :: k9 :: k8y)
def k94:LL:=[⟨-1,[(15,1)]⟩,⟨1,[(15,-1)]⟩]
def k95:Lin:=⟨0,[(7,-1),(3,1)]⟩
def k96:Lin:=⟨0,[(14,1),(6,-1)]⟩
def k97:Lin:=⟨1,[(18,-1)]⟩
def k98:Lin:=⟨-1,[(18,1)]⟩
def k99:Lin:=⟨0,[(7,1),(2,-1)]⟩
def k9a:Lin:=⟨0,[(13,1),(4,-1)]⟩
def k9b:Lin:=⟨0,[(13,-1),(4,1)]⟩
def k9c:LL:=(k9b :: k8 :: k9a :: kr :: k1p :: k1o :: kf :: kq :: k2b :: kp :: k99 :: ko :: kn :: k98 :: k97 :: k22 :: ki :: k96 :: km :: k23 :: k95 :: kl :: kk :: k94)
def k9d:List (Lin×V):=[(k1g,k1f),(k1e,k1d),(k1a,k19),(k3,k18),(k1c,k1b)]
def k9e:Ck:=(.bld [kd] [])
def k9f:List (Nat×Ck):=((21,k9e) :: (11,k43) :: (12,(.own k91 ((k6m,k8z) :: k9d))) :: k3j)
def k9g:Sg:=(.one (.sym 25))
def k9h:LT:=[(.int k3z k3z),k44,k44,(.int ka ka)]
def k9i:LF:=((.pre 15 k27 [kc]) :: k93)
def k9j:V:=(.int .i64 ka)
def k9k:V:=(.int .i64 k3z)
def k9l:Lin:=⟨268435456,[(21,-1)]⟩
def k9m:Lin:=⟨-1,[(20,-1),(4,1)]⟩
def k9n:Lin:=⟨0,[(43,-1),(42,1)]⟩
def k9o:LL:=[⟨9223372036854775808,[(41,1)]⟩,⟨9223372036854775807,[(41,-1)]⟩]
def k9p:V:=(.int .i64 k54)
def k9q:LL:=[⟨9223372036854775808,[(57,1)]⟩,⟨9223372036854775807,[(57,-1)]⟩]
def k9r:Lin:=⟨0,[(57,1)]⟩
def k9s:List (Nat×Ck):=[(44,(.own [(.arr ⟨9,[]⟩ [(.int k3 k10)])] []))]
def k9t:V:=(.int .i64 k9r)
def k9u:Lin:=⟨9223372036854775807,[(48,-1)]⟩
def k9v:Lin:=⟨9223372036854775808,[(48,1)]⟩
def k9w:Ck:=(.bld [kd,kc,k42] [])
def k9x:Lin:=⟨0,[(44,-1),(25,1)]⟩
def k9y:LD:= .ann ⟨1,k7x,[],[],[],(k7w :: ⟨0,[(50,-1),(40,1)]⟩ :: k7v),[],⟨0,[(50,-1),(40,1)]⟩⟩
def k9z:LL:=[k7e,k7d]
def ka0:Lin:=⟨0,[(41,-1),(35,1)]⟩
def ka1:LL:=[⟨6,[(41,-1)]⟩,k54,ka0]
def ka2:List (Nat×Ck):=[(38,(.own [(.one (.slo 37 k3 k54 k4p))] []))]
def ka3:Lin:=⟨0,[(40,-1),(35,1)]⟩
def ka4:LT:=[kd,k42,k42,(.int ka k3)]
def ka5:Ck:=(.own [(.arr k3 ka4)] [])
def ka6:Lin:=⟨0,[(28,1)]⟩
def ka7:Lin:=⟨0,[(20,-1),(4,1)]⟩
def ka8:LL:=[⟨9223372036854775808,[(20,1)]⟩,⟨9223372036854775807,[(20,-1)]⟩]
def ka9:Lin:=⟨9223372036854775807,[(16,-1)]⟩
def kaa:Lin:=⟨9223372036854775808,[(16,1)]⟩
def kab:Lin:=⟨9223372036854775807,[(17,-1)]⟩
def kac:Lin:=⟨9223372036854775808,[(17,1)]⟩
def kad:Lin:=⟨9223372036854775807,[(18,-1)]⟩
def kae:Lin:=⟨9223372036854775808,[(18,1)]⟩
def kaf:Lin:=⟨1,[(16,1)]⟩
def kag:Lin:=⟨0,[(17,1)]⟩
def kah:V:=(.int .i64 k2o)
def kai:V:=(.int .i64 kag)
def kaj:V:=(.int .i64 k3x)
def kak:V:=(.sym 11)
def kal:V:=(.sym 10)
def kam:V:=(.sym 9)
def kan:Sg:=(.one kam)
def kao:List (Sg):=[k3o,k3p,kan,(.one kal),(.one kak)]
def kap:LF:=((.cell 1 ⟨13,[]⟩ k2t) :: (.cell 1 ⟨9,[]⟩ kak) :: (.sl 11 true k1) :: (.cell 1 ⟨8,[]⟩ kal) :: (.sl 10 true (k0 :: k1)) :: (.cell 1 ⟨7,[]⟩ kam) :: (.sl 9 true k5) :: (.cell 1 ⟨6,[]⟩ k14) :: (.cell 1 k6m k15) :: k1h)
def kaq:LL:=[kv,ku,k2u,⟨1048576,[(11,-1)]⟩]
def kar:AT:=(.int k10 k11)
def kas:AT:=(.int k3 k37)
def kat:Fa:=(.pre 10 k33 [kas,kar,kar,(.int ka k36)])
def kau:Fa:=(.pre 11 k2u [kar,(.int ka k37),(.int ka k37)])
def kav:Lin:=⟨1850,[(7,-1)]⟩
def kaw:Lin:=⟨-1450,[(7,1)]⟩
def kax:Lin:=⟨8,[(10,-1)]⟩
def kay:Lin:=⟨6,[(9,-1)]⟩
def kaz:Lin:=⟨1850,[(8,-1)]⟩
def kb0:Lin:=⟨-1450,[(8,1)]⟩
def kb1:Lin:=⟨0,[(8,1),(7,-1)]⟩
def kb2:Lin:=⟨9223372036854775807,[(23,-1)]⟩
def kb3:Lin:=⟨9223372036854775808,[(23,1)]⟩
def kb4:Lin:=⟨9223372036854775807,[(24,-1)]⟩
def kb5:Lin:=⟨9223372036854775808,[(24,1)]⟩
def kb6:V:=(.int .i64 k8s)
def kb7:Ck:=(.own kao [(k1g,kak),(k1e,kal),(k1c,kam),(k1a,k14),(k3,k15)])
def kb8:V:=(.map 17)
def kb9:List (Sg):=[k39,(.one kb8)]
def kba:List (Sg):=(k3d :: k3c :: k3b :: k3a :: kb9)
def kbb:List (Nat×Ck):=((17,k43) :: (18,(.own kba [])) :: (14,kb7) :: (13,k3e) :: k17)
def kbc:Lin:=⟨0,[(20,-1),(6,1)]⟩
def kbd:Lin:=⟨0,[(20,1),(6,-1)]⟩
def kbe:Lin:=⟨0,[(19,1),(4,-1)]⟩
def kbf:Lin:=⟨0,[(19,-1),(4,1)]⟩
def kbg:Fa:=(.pre 29 k4q [(.int k6k ka6)])
def kbh:Lin:=⟨0,[(33,1)]⟩
def kbi:V:=(.map 23)
def kbj:List (Sg):=[(.one kak),(.one kbi)]
def kbk:List (Sg):=(k3o :: k3p :: kan :: (.one kal) :: kbj)
def kbl:AT:=(.int k3 k11)
def kbm:Nat×Ck:=(23,(.mp (.int .i64) true [k6,kbl,k6,kbl] none))
def kbn:List (Nat×Ck):=(kbm :: (24,(.own kbk [])) :: kbb)
def kbo:AT:=(.int k2q k2q)
def kbp:Lin:=⟨0,[(32,1)]⟩
def kbq:Fa:=(.pre 29 kbp [(.int k6k ka6)])
def kbr:LF:=(kbq :: (.cell 29 k3 k2t) :: (.sl 29 true [kbo]) :: kau :: kat :: (.pre 9 k12 k7) :: kj :: kg :: k9 :: kap)
def kbs:Lin:=⟨1850,[(27,-1)]⟩
def kbt:Lin:=⟨-1450,[(27,1)]⟩
def kbu:LL:=[k2u,k3s,kbt,kbs]
def kbv:Lin:=⟨0,[(27,1),(7,-1)]⟩
def kbw:Lin:=⟨0,[(26,-1),(11,1)]⟩
def kbx:Lin:=⟨0,[(26,1),(11,-1)]⟩
def kby:Lin:=⟨0,[(27,1),(2,-1)]⟩
def kbz:Lin:=⟨1,[(29,-1)]⟩
def kc0:Lin:=⟨-1,[(29,1)]⟩
def kc1:Lin:=⟨0,[(25,1),(9,-1)]⟩
def kc2:Lin:=⟨0,[(25,-1),(9,1)]⟩
def kc3:LL:=(kc2 :: k12 :: kc1 :: kay :: k2h :: kc0 :: kbz :: kp :: kby :: ko :: kn :: ki :: km :: k33 :: kax :: kbx :: k1u :: kbw :: kl :: kk :: k45 :: kaw :: kbv :: kav :: kbu)
def kc4:Lin:=⟨1850,[(28,-1)]⟩
def kc5:Lin:=⟨0,[(28,-1),(3,1)]⟩
def kc6:Lin:=⟨-1450,[(28,1)]⟩
def kc7:Lin:=⟨0,[(28,1),(12,-1)]⟩
def kc8:Lin:=⟨0,[(27,-1),(12,1)]⟩
def kc9:Lin:=⟨0,[(28,-1),(8,1)]⟩
def kca:Lin:=⟨1,[(32,-1)]⟩
def kcb:Lin:=⟨-1,[(32,1)]⟩
def kcc:LL:=(kcb :: kca :: kbf :: k8 :: kbe :: kr :: kbd :: k3z :: kbc :: kc9 :: kb1 :: kb0 :: kaz :: kc8 :: kc7 :: kc6 :: kc5 :: kc4 :: k1p :: k1o :: kf :: kq :: kc3)
def kcd:LF:=(kbg :: kbr)
def kce:Nat×Ck:=(35,(.mp .str false [(.int k3 k3)] none))
def kcf:List (Nat×Ck):=((37,(.bld [kas] [])) :: kce :: kbm :: (24,(.own kbk [(k6m,kbi),(k1g,kak),(k1e,kal),(k1a,k14),(k3,k15),(k1c,kam)])) :: kbb)
def kcg:LT:=[kbo,kbo,(.int ka ka)]
def kch:LT:=((.int k4o k4o) :: kcg)
def kci:Lin:=⟨1,[(41,-1)]⟩
def kcj:Lin:=⟨-1,[(41,1)]⟩
def kck:Lin:=⟨268435456,[(37,-1)]⟩
def kcl:Lin:=⟨-1,[(36,-1),(9,1)]⟩
def kcm:LT:=[kas,kbl,kbl,(.int ka k3)]
def kcn:List (LAnn):=(⟨1,[(0,(.bool (.ne k62)))],[],[],[],[],[],k3⟩ :: k3v)
def kco:Sg:=(.one (.sym 43))
def kcp:Lin:=⟨0,[(36,-1),(25,1)]⟩
def kcq:Lin:=⟨0,[(36,-1),(9,1)]⟩
def kcr:Lin:=⟨268435456,[(36,-1)]⟩
def kcs:Nat×Ck:=(36,(.bld [kas] []))
def kct:Nat×Ck:=(35,(.mp .str false [k0] none))
def kcu:List (Nat×Ck):=((39,k9e) :: kct :: kcs :: kbm :: (24,(.own kbk [])) :: (17,k43) :: (18,(.own kba ((k6m,kb8) :: k9d))) :: (14,kb7) :: (13,k3e) :: k17)
def kcv:LT:=((.int k5x k5x) :: kcg)
def kcw:Lin:=⟨268435456,[(39,-1)]⟩
def kcx:LL:=[kl,kk,k45,kaw,kbv,kav,k58,kcw,k2u,k3s,kbt,kbs,⟨-1,[(43,1)]⟩,⟨1,[(43,-1)]⟩]
def kcy:Lin:=⟨0,[(39,-1),(38,1)]⟩
def kcz:Lin:=⟨0,[(37,1),(36,-1)]⟩
def kd0:Lin:=⟨-1,[(38,-1),(4,1)]⟩
def kd1:Lin:=⟨0,[(38,-1),(4,1)]⟩
def kd2:LT:=[(.int k3 ⟨-1,[(30,1)]⟩)]
def kd3:Nat×Ck:=(17,(.bld [(.int k3 ⟨254,[]⟩)] []))
def kd4:List (Nat×Ck):=[kd3,(32,(.bld kd2 []))]
def kd5:List (Sg):=[k39,(.one (.map 10))]
def kd6:List (Nat×Ck):=((10,k43) :: (11,(.own (k3d :: k3c :: k3b :: k3a :: kd5) ((k6m,(.map 10)) :: k38))) :: (7,k3e) :: k17)
def kd7:Nat×Ck:=(39,(.bld [kd,kc,kc,(.int ka ⟨-1,[(39,1)]⟩)] []))
def kd8:Nat×Ck:=(36,(.own (k3d :: k3c :: k3b :: (.one (.sym 39)) :: kd5) []))
def kd9:LF:=(kj :: kg :: k9 :: k1h)
def kda:Lin:=⟨0,[(31,1)]⟩
def kdb:Lin:=⟨3689348814741910323,[(23,-1)]⟩
def kdc:Lin:=⟨255,[(30,-1)]⟩
def kdd:Lin:=⟨0,[(31,1),(30,-1)]⟩
def kde:Lin:=⟨0,[(31,-1),(30,1)]⟩
def kdf:Lin:=⟨256,[(14,-1)]⟩
def kdg:Lin:=⟨-1,[(14,1)]⟩
def kdh:Lin:=⟨-1,[(15,-1),(14,1)]⟩
def kdi:Lin:=⟨3689348814741910323,[(22,-1)]⟩
def kdj:Lin:=⟨0,[(18,-1),(15,1)]⟩
def kdk:Lin:=⟨0,[(19,-1),(18,1)]⟩
def kdl:Lin:=⟨127,[(29,-1)]⟩
def kdm:Lin:=⟨0,[(13,-1),(6,1)]⟩
def kdn:Lin:=⟨0,[(13,1),(6,-1)]⟩
def kdo:Lin:=⟨1085102592571150095,[(25,-1)]⟩
def kdp:Lin:=⟨0,[(26,-1),(25,1)]⟩
def kdq:Lin:=⟨0,[(27,-1),(26,1),(25,1)]⟩
def kdr:Lin:=⟨0,[(22,-1),(21,1)]⟩
def kds:Lin:=⟨256,[(17,-1)]⟩
def kdt:Lin:=⟨0,[(28,-1),(27,1),(26,1),(25,1)]⟩
def kdu:Lin:=⟨0,[(29,-1),(28,1),(27,1),(26,1),(25,1)]⟩
def kdv:Lin:=⟨0,[(24,-1),(23,1),(22,1)]⟩
def kdw:Lin:=⟨0,[(25,-1),(24,1),(23,1),(22,1)]⟩
def kdx:Lin:=⟨0,[(20,-1),(15,1)]⟩
def kdy:Lin:=⟨0,[(21,-1),(20,1),(19,1)]⟩
def kdz:Lin:=⟨0,[(23,-1),(20,1),(19,1)]⟩
def ke0:Lin:=⟨0,[(12,1),(4,-1)]⟩
def ke1:Lin:=⟨0,[(32,-1),(31,1)]⟩
def ke2:Lin:=⟨268435456,[(32,-1)]⟩
def ke3:Lin:=⟨0,[(28,1),(27,1),(26,1),(25,1),(16,-1)]⟩
def ke4:Lin:=⟨127,[(16,-1)]⟩
def ke5:Lin:=⟨0,[(29,-1),(16,1)]⟩
def ke6:Lin:=⟨0,[(57,-1),(56,1)]⟩
def ke7:Lin:=⟨0,[(55,-1),(4,1)]⟩
def ke8:Lin:=⟨0,[(56,1)]⟩
def ke9:Lin:=⟨0,[(55,1)]⟩
def kea:LD:= .ann ⟨1,[(8,(.int .i64 ⟨0,[(67,1)]⟩))],[],[],[],[⟨0,[(67,1)]⟩,⟨0,[(67,-1),(54,1)]⟩,⟨9223372036854775808,[(67,1)]⟩,⟨9223372036854775807,[(67,-1)]⟩],[],⟨0,[(67,-1),(54,1)]⟩⟩
def keb:LL:=[⟨9223372036854775808,[(65,1)]⟩,⟨9223372036854775807,[(65,-1)]⟩]
def kec:Lin:=⟨0,[(65,1)]⟩
def ked:LD:= .ann ⟨1,[(8,(.int .i64 kec))],[],[],[],(kec :: ⟨0,[(65,-1),(54,1)]⟩ :: keb),[],⟨0,[(65,-1),(54,1)]⟩⟩
def kee:Lin:=⟨0,[(58,-1),(39,1)]⟩
def kef:LD:= .ann ⟨1,[(8,(.int .i64 ⟨0,[(64,1)]⟩))],[],[],[],[⟨0,[(64,1)]⟩,⟨0,[(64,-1),(54,1)]⟩,⟨9223372036854775808,[(64,1)]⟩,⟨9223372036854775807,[(64,-1)]⟩],[],⟨0,[(64,-1),(54,1)]⟩⟩
def keg:Lin:=⟨0,[(55,-1),(49,1)]⟩
def keh:LL:=[⟨6,[(55,-1)]⟩,ke9,keg]
def kei:List (Nat×Ck):=[(52,(.own [(.one (.slo 51 k3 ke9 k7f))] []))]
def kej:Lin:=⟨0,[(54,-1),(49,1)]⟩
def kek:List (LAnn):=(⟨1,[(0,(.bool (.ne k5x)))],[],[],[],[],[],k3⟩ :: k3v)
def kel:Nat×Ck:=(37,(.bld [kd,kc,kc,(.int ka ⟨-1,[(37,1)]⟩)] []))
def kem:Nat×Ck:=(34,(.own (k3d :: k3c :: k3b :: (.one (.sym 37)) :: kd5) []))
def ken:List (Nat×Ck):=(kem :: kel :: (32,(.bld kd2 [])) :: kd3 :: kd6)
def keo:LL:=[k6o,kdb,k6k,k27,kda]
def kep:Lin:=⟨0,[(36,-1),(5,1)]⟩
def keq:LL:=(⟨0,[(33,1),(32,-1)]⟩ :: ke2 :: ke1 :: k2p :: k8 :: ke0 :: kr :: kdz :: kdy :: k3z :: kdx :: ⟨0,[(36,1),(5,-1)]⟩ :: k4o :: k4f :: kep :: kdw :: k8s :: kdv :: k2q :: kdu :: ka6 :: kdt :: k1p :: k1o :: kag :: kds :: kbh :: kf :: kq :: kdr :: k2m :: k4h :: kck :: kdq :: kdp :: k2h :: kdo :: kdn :: k2b :: kdm :: k4q :: kdl :: ⟨0,[(29,1),(16,-1)]⟩ :: kp :: ko :: kn :: kdk :: k2o :: kdj :: ki :: km :: k1z :: kdi :: k1u :: kdh :: kdg :: kdf :: kde :: k29 :: kdd :: kdc :: kl :: kk :: k45 :: keo)
def ker:Lin:=⟨0,[(33,-1),(32,1)]⟩
def kes:List (LAnn):=(⟨1,[(0,(.bool (.ne k4h)))],[],[],[],[],[],k3⟩ :: k3v)
def ket:Nat×Ck:=(36,(.bld [kd,kc,kc,(.int ka ⟨-1,[(36,1)]⟩)] []))
def keu:Nat×Ck:=(33,(.own (k3d :: k3c :: k3b :: (.one (.sym 36)) :: kd5) []))
def kev:List (Nat×Ck):=(keu :: ket :: (32,(.bld kd2 [])) :: kd3 :: kd6)
def kew:Lin:=⟨0,[(35,-1),(5,1)]⟩
def kex:LL:=(kbp :: ke2 :: ke1 :: k2p :: k8 :: ke0 :: kr :: kdz :: kdy :: k3z :: kdx :: k4o :: kcr :: ⟨0,[(36,-1),(35,1)]⟩ :: kdw :: k8s :: kdv :: k2q :: kdu :: ka6 :: kdt :: k1p :: k1o :: kag :: kds :: kew :: kf :: ⟨0,[(35,1),(5,-1)]⟩ :: kq :: kdr :: k2m :: kdq :: kdp :: k2h :: kdo :: kdn :: k2b :: kdm :: k4q :: kdl :: kp :: ko :: kn :: kdk :: k2o :: kdj :: ki :: km :: k1z :: kdi :: k1u :: kdh :: kdg :: kdf :: kde :: k29 :: kdd :: kdc :: kl :: kk :: k45 :: k4p :: keo)
def key:Ck:=(.bld [k0] [])
def kez:Lin:=⟨268435456,[(43,-1)]⟩
def kf0:LL:=[⟨9223372036854775808,[(32,1)]⟩,⟨9223372036854775807,[(32,-1)]⟩]
def kf1:Lin:=⟨9223372036854775807,[(28,-1)]⟩
def kf2:Lin:=⟨9223372036854775808,[(28,1)]⟩
def kf3:V:=(.int .i64 ka6)
def kf4:LL:=[kb3,kb2]
def kf5:Lin:=⟨268435456,[(25,-1)]⟩
def kf6:LL:=[⟨9223372036854775808,[(33,1)]⟩,⟨9223372036854775807,[(33,-1)]⟩]
def kf7:Ck:=(.bld [(.int k3 ⟨268435456,[]⟩)] [])
def kf8:LD:= .ann ⟨0,[],[],[],[],[],[],k1a⟩
def kf9:Lin:=⟨0,[(37,-1),(4,1)]⟩
def kfa:Lin:=⟨0,[(41,-1),(33,1)]⟩
def kfb:LD:= .ann ⟨2,[(14,k7p),(71,(.int .i64 k7k))],[],[],[],(⟨0,[(54,1),(52,-1)]⟩ :: k7o :: k7k :: ⟨0,[(53,-1),(5,1)]⟩ :: k7n :: k7m :: k7j),[],⟨0,[(53,-1),(5,1)]⟩⟩
def kfc:LL:=(k6z :: ⟨0,[(42,-1),(3,1)]⟩ :: k60 :: k5z :: k66 :: k56 :: k55 :: k9o)
def kfd:Nat×Ck:=(37,(.own [kco,(.one k63)] []))
def kfe:LD:= .ann ⟨1,[(8,k7h)],[],[],[],(k7f :: ⟨0,[(49,-1),(33,1)]⟩ :: k9z),[],⟨0,[(49,-1),(33,1)]⟩⟩
def kff:LD:= .ann ⟨1,[(8,k5p)],[],[],[],(k5o :: ⟨0,[(47,-1),(33,1)]⟩ :: k5n),[],⟨0,[(47,-1),(33,1)]⟩⟩
def kfg:Lin:=⟨0,[(40,-1),(5,1)]⟩
def kfh:LD:= .ann ⟨1,[(13,k5f)],[],[],[],[k59,kfg,k53,k52],[],kfg⟩
def kfi:LD:= .ann ⟨1,[(8,k5k)],[],[],[],(k5j :: ⟨0,[(46,-1),(33,1)]⟩ :: k5i),[],⟨0,[(46,-1),(33,1)]⟩⟩
def kfj:LD:= .ann ⟨1,[(13,k5f)],[],[],[],[k59,⟨0,[(40,-1),(6,1)]⟩,k53,k52],[],⟨0,[(40,-1),(6,1)]⟩⟩
def kfk:LD:= .ann ⟨1,[(43,k5p)],[],[],[],(k5o :: ⟨0,[(47,-1),(46,1)]⟩ :: k5n),[],⟨0,[(47,-1),(46,1)]⟩⟩
def kfl:LD:= .ann ⟨1,[(33,k9p)],[],[],[],(k54 :: ⟨0,[(41,-1),(6,1)]⟩ :: k9o),[],⟨0,[(41,-1),(6,1)]⟩⟩
def kfm:LD:= .ann ⟨1,[(17,k5f)],[],[],[],[k59,kfg,k53,k52],[],kfg⟩
def kfn:LD:= .ann ⟨1,[(28,k5e)],[],[],[],(k58 :: kcy :: k51),[],kcy⟩
def kfo:Lin:=⟨0,[(33,-1),(25,1)]⟩
def kfp:LD:= .ann ⟨1,[(49,k2f)],[],[],[],(k2b :: kdm :: k2e),[],kdm⟩
def kfq:LD:= .ann ⟨1,[(18,k2t)],[],[(10,k43)],[],[k2q,k2p,k2s,k2r],[],k2p⟩
def kfr:LL:=[⟨9223372036854775808,[(31,1)]⟩,⟨9223372036854775807,[(31,-1)]⟩]
def kfs:V:=(.int .i64 kda)
def kft:LD:= .ann ⟨1,[(8,kfs)],[],[],[],(kda :: ⟨0,[(31,-1),(7,1)]⟩ :: ⟨1048576,[(31,-1)]⟩ :: kfr),[],⟨0,[(31,-1),(7,1)]⟩⟩
def kfu:LD:= .ann ⟨1,[(8,k6j)],[],[],[],(k4q :: ⟨0,[(29,-1),(7,1)]⟩ :: ⟨1048576,[(29,-1)]⟩ :: k6i),[],⟨0,[(29,-1),(7,1)]⟩⟩
def kfv:Lin:=⟨0,[(22,-1),(5,1)]⟩
def kfw:LD:= .ann ⟨1,[(8,kf3)],[],[],[],[ka6,⟨0,[(28,-1),(7,1)]⟩,⟨1048576,[(28,-1)]⟩,kf2,kf1],[],⟨0,[(28,-1),(7,1)]⟩⟩
def kfx:LD:= .ann ⟨1,[(49,k26)],[],[],[],[k23,k22,k25,k24],[],k22⟩
def kfy:LD:= .ann ⟨1,[(18,k2f)],[],[(11,k43)],[],(k2b :: k9b :: k2e),[],k9b⟩
def kfz:LD:= .ann ⟨1,k7x,[],[],[],(k7w :: ⟨0,[(50,-1),(36,1)]⟩ :: k7v),[],⟨0,[(50,-1),(36,1)]⟩⟩
def kg0:LD:= .ann ⟨1,[(8,k4x)],[],[],[],(k4v :: ⟨0,[(51,-1),(36,1)]⟩ :: k4s),[],⟨0,[(51,-1),(36,1)]⟩⟩
def kg1:LD:= .ann ⟨1,[(8,k7h)],[],[],[],(k7f :: ⟨0,[(49,-1),(36,1)]⟩ :: k9z),[],⟨0,[(49,-1),(36,1)]⟩⟩
def kg2:LD:= .ann ⟨1,[(8,(.int .i64 k7c))],[],[],[],[k7c,⟨0,[(48,-1),(36,1)]⟩,k9v,k9u],[],⟨0,[(48,-1),(36,1)]⟩⟩
def kg3:LD:= .ann ⟨1,[(8,k5p)],[],[],[],(k5o :: ⟨0,[(47,-1),(36,1)]⟩ :: k5n),[],⟨0,[(47,-1),(36,1)]⟩⟩
def kg4:LD:= .ann ⟨1,[(8,k5k)],[],[],[],(k5j :: ⟨0,[(46,-1),(36,1)]⟩ :: k5i),[],⟨0,[(46,-1),(36,1)]⟩⟩
def kg5:Lin:=⟨0,[(36,-1),(31,1)]⟩
def kg6:LL:=[⟨9223372036854775808,[(19,1)]⟩,⟨9223372036854775807,[(19,-1)]⟩]
def kg7:LD:= .ann ⟨2,[(20,k4r)],[],[keu,ket,(34,(.own [(.arr ⟨8,[]⟩ [(.int ka k4o)])] []))],[],(k4o :: k4p :: kcr :: ⟨0,[(36,-1),(35,1)]⟩ :: kew :: k4o :: k4n),[],kew⟩
def kg8:LD:= .ann ⟨2,[(20,k8q)],[],[kem,kel,(35,(.own [(.arr ⟨8,[]⟩ [(.int ka k4h)])] []))],[],[k4h,k4o,kck,k4f,kep,k4h,k8p,k8o],[],kep⟩
def argTy:List AT:=(k0 :: k0 :: (.sl k3 k2 true k5) :: k4 :: (.sl k3 k2 true k1) :: k0 :: k0 :: (.sl k3 k2 true k5) :: k4 :: (.sl k3 k2 true k1) :: (.sl k3 k2 true [k0]) :: k1)
def lem0:Lem:=⟨7,k1s,7,k1r,k1h,k17,(⟨2,[(0,(.tup [k15,ks,k14]))],[],[],[],[⟨7,[(8,-1)]⟩,k11,⟨1,[(8,1)]⟩,⟨-1,[(7,1)]⟩,k10,⟨1,[(7,1)]⟩,⟨6,[(8,-1),(7,1)]⟩,⟨-2,[(8,1)]⟩,⟨4,[(7,-1)]⟩,kx,kw,kv,ku],[],k3⟩ :: ⟨3,[(0,(.tup [k15,k14,k13]))],[],[],[],[kr,kp,ko,kn,kl,kk,k12,⟨1,[(9,1)]⟩,k11,⟨1,[(8,1)]⟩,⟨-2,[(7,1)]⟩,k10,⟨1,[(7,1)]⟩,⟨-2,[(9,1)]⟩,⟨7,[(9,-1)]⟩,⟨7,[(8,-1)]⟩,⟨4,[(7,-1)]⟩,kz,ky,kx,kw,kv,ku],[],k3⟩ :: kt)⟩
def ltape0:List LD:=[.ann ⟨1,[(8,k2x)],[],[],[],[k2u,⟨0,[(11,-1),(8,1)]⟩,k2w,k2v],[(.pre 8 k2u [(.int ⟨1450,[]⟩ ⟨1850,[]⟩)])],⟨0,[(11,-1),(8,1)]⟩⟩,.ann ⟨1,[(32,k2t)],[],[],[],[k2q,k2p,k2s,k2r],[(.pre 4 k2q k7)],k2p⟩,.ann ⟨1,[],[],[(17,(.siter k2b k2o))],[],[k2o,k2o,⟨0,[(18,-1),(13,1)]⟩],[],⟨0,[(18,-1),(13,1)]⟩⟩,.ann ⟨1,[(8,k2n)],[],[],[],(k2m :: k2k :: k2l),[],k2k⟩,.ann ⟨1,[(8,k2j)],[],[],[],(k2h :: k2g :: k2i),[(.pre 22 k2h [k6])],k2g⟩,.ann ⟨1,[(74,k2f)],[],[],[],(k2b :: ⟨0,[(13,-1),(5,1)]⟩ :: k2e),[(.pre 5 k2b ke)],⟨0,[(13,-1),(5,1)]⟩⟩,.ann ⟨1,[(8,k21)],[],[],[],(k1z :: k1y :: k20),[(.pre 19 k1z [kd])],k1y⟩,.ann ⟨1,[(8,k1x)],[],[],[],[k1u,k1t,k1w,k1v],[(.pre 23 k1u [(.int ka ⟨-1,[(13,1)]⟩)])],k1t⟩,.ann ⟨1,[(8,(.int .i64 k29))],[],[],[],(k29 :: ⟨0,[(30,-1),(27,1)]⟩ :: k2a),[(.pre 27 k29 [kc])],⟨0,[(30,-1),(27,1)]⟩⟩,.ann ⟨1,[(8,(.int .i64 k28))],[],[],[],[k28,⟨0,[(34,-1),(31,1)]⟩,⟨9223372036854775808,[(34,1)]⟩,⟨9223372036854775807,[(34,-1)]⟩],[(.pre 31 k28 [(.int k27 ⟨40,[(15,1)]⟩)])],⟨0,[(34,-1),(31,1)]⟩⟩,.ann ⟨1,[(133,k26)],[],[],[],[k23,k22,k25,k24],[(.pre 6 k23 [kc,kh,kh])],k22⟩,.ann ⟨1,[(8,k21)],[],[],[],(k1z :: k1y :: k20),[(.pre 19 k1z [kc])],k1y⟩,.ann ⟨1,[(8,k1x)],[],[],[],[k1u,k1t,k1w,k1v],[(.pre 23 k1u [kh])],k1t⟩]
theorem z50:q17 Go.Proofs.Try.prog lem0:=q0b (L:=[]) (allL_mem trivial) mixed (by kernel_rfl:isOk (lemC Go.Proofs.Try.prog (q1s rl) [] 1000 lem0 ltape0)=true)
def lem1:Lem:=⟨7,k1s,9,k1r,k1h,((8,k3e) :: (7,k3e) :: k17),(⟨2,[(0,(.tup [k13,ks,k35]))],[],[],[],[⟨7,[(10,-1)]⟩,k33,k32,k37,k12,⟨1,[(9,1)]⟩,⟨6,[(10,-1),(9,1)]⟩,k36,⟨4,[(9,-1)]⟩,k2z,k2y,kz,ky],[],k3⟩ :: ⟨3,[(0,(.tup [k13,k35,k2x]))],[],[],[],[kr,kp,ko,kn,kl,kk,k2u,k34,k33,k32,⟨-2,[(9,1)]⟩,k12,⟨1,[(9,1)]⟩,k31,k30,⟨7,[(10,-1)]⟩,⟨4,[(9,-1)]⟩,k2w,k2v,k2z,k2y,kz,ky],[],k3⟩ :: kt)⟩
def ltape1:List LD:=mvTp [(8,10)] ltape0
theorem q9b:q17 Go.Proofs.Try.prog lem1:=q0b (L:=[]) (allL_mem trivial) mixed (by kernel_rfl:isOk (lemC Go.Proofs.Try.prog (q1s rl) [] 1000 lem1 ltape1)=true)
def lem2:Lem:=⟨7,k1s,10,[k8,k1q,k1p,k1o,kf,k1n,k1m,k1l,ki,k1k,k1j,k1i,k10,⟨1048576,[(7,-1)]⟩],((.cell 1 ⟨10,[]⟩ (.sym 7)) :: (.sl 7 true [k0]) :: k1h),((9,k3e) :: k3j),k3i⟩
def ltape2:List LD:=mvTp [(8,11)] ltape0
theorem z51:q17 Go.Proofs.Try.prog lem2:=q0b (L:=[]) (allL_mem trivial) mixed (by kernel_rfl:isOk (lemC Go.Proofs.Try.prog (q1s rl) [] 1000 lem2 ltape2)=true)
def lem3:Lem:=⟨7,k1s,13,(k8 :: k1q :: kx :: kw :: k3r),((.cell 1 ⟨12,[]⟩ k14) :: k3q),((12,k3e) :: (11,(.own [k3p] [])) :: (10,(.own [k3o] [])) :: (9,k3e) :: k17),(⟨2,[(0,(.tup [k2f,ks,k26]))],[],[],[],(⟨7,[(14,-1)]⟩ :: k23 :: ⟨1,[(14,1)]⟩ :: ⟨-1,[(13,1)]⟩ :: k2b :: k3m :: ⟨6,[(14,-1),(13,1)]⟩ :: ⟨-2,[(14,1)]⟩ :: ⟨4,[(13,-1)]⟩ :: k25 :: k24 :: k2e),[],k3⟩ :: ⟨3,[(0,(.tup [k2f,k26,k3n]))],[],[],[],(kr :: kp :: ko :: kn :: kl :: kk :: k27 :: ⟨1,[(15,1)]⟩ :: k23 :: ⟨1,[(14,1)]⟩ :: ⟨-2,[(13,1)]⟩ :: k2b :: k3m :: ⟨-2,[(15,1)]⟩ :: ⟨7,[(15,-1)]⟩ :: ⟨7,[(14,-1)]⟩ :: ⟨4,[(13,-1)]⟩ :: k3l :: k3k :: k25 :: k24 :: k2e),[],k3⟩ :: kt)⟩
def ltape3:List LD:=mvTp [(8,14)] ltape0
theorem z52:q17 Go.Proofs.Try.prog lem3:=q0b (L:=[]) (allL_mem trivial) mixed (by kernel_rfl:isOk (lemC Go.Proofs.Try.prog (q1s rl) [] 1000 lem3 ltape3)=true)
def lem4:Lem:=⟨7,k1s,11,(k8 :: k1q :: k3r),k3q,((10,k3e) :: k3t),(⟨2,[(0,(.tup [k2x,ks,k2t]))],[],[],[],[k3f,k2q,k3g,⟨-1,[(11,1)]⟩,k2u,k34,⟨6,[(12,-1),(11,1)]⟩,⟨-2,[(12,1)]⟩,k3s,k2s,k2r,k2w,k2v],[],k3⟩ :: ⟨3,[(0,(.tup [k2x,k2t,k2f]))],[],[],[],[kr,kp,ko,kn,kl,kk,k2b,k3m,k2q,k3g,k31,k2u,k34,⟨-2,[(13,1)]⟩,⟨7,[(13,-1)]⟩,k3f,k3s,k2d,k2c,k2s,k2r,k2w,k2v],[],k3⟩ :: kt)⟩
def ltape4:List LD:=mvTp [(8,12)] ltape0
theorem qbm:q17 Go.Proofs.Try.prog lem4:=q0b (L:=[]) (allL_mem trivial) mixed (by kernel_rfl:isOk (lemC Go.Proofs.Try.prog (q1s rl) [] 1000 lem4 ltape4)=true)
def lem5:Lem:=⟨52,[(.ptr 13 k3)],20,[k4e,k4d,k4c,k8,k4b,kr,k1p,k1o,k4a,kf,kq,kp,ko,kn,k49,ki,k48,km,k23,kl,kk,⟨-1,[(19,1)]⟩,⟨1,[(19,-1)]⟩,k10,k27],k47,((12,k43) :: (13,(.own k41 [])) :: k3t),(⟨1,[(0,(.bool (.ne k3z)))],[],[],[],[],[k3y],k3⟩ :: k3v)⟩
def ltape5:List LD:=[.ann ⟨1,[(13,k6j)],[],[],[],(k4q :: ⟨1,[(29,-1),(4,1)]⟩ :: k6i),[],⟨1,[(29,-1),(4,1)]⟩⟩,.rcur ⟨1,[(4,(.ptr 33 k3)),(3,(.ptr 25 k3)),(2,(.ptr 28 k3)),(1,(.ptr 30 k3)),(0,k6h)],[],[(31,(.own [(.arr k4q k6g)] [])),(32,(.own [(.one (.slo 31 k3 k28 k4q))] []))],[],[k28,⟨1,[(34,1)]⟩,k6f,⟨1,[(34,-1),(29,1)]⟩,⟨0,[(34,-1),(4,1)]⟩,⟨1,[(34,-1),(4,1)]⟩,⟨2,[(34,-1),(4,1)]⟩,k28,k6f],[],k6f⟩ [⟨1,k6e,[],k6b,[],(⟨0,[(35,1),(34,-1)]⟩ :: ⟨0,[(35,-1),(34,1)]⟩ :: k4p :: k6a :: k67 :: ⟨1,[(35,-1),(29,1)]⟩ :: k4k :: k69 :: ⟨2,[(35,-1),(4,1)]⟩ :: k68),[],k3⟩,⟨2,k3u,[],((20,k6d) :: (23,k6c) :: (27,k6c) :: k6b),[],(⟨0,[(35,1),(34,-1)]⟩ :: k4p :: k6a :: k67 :: ⟨1,[(35,-1),(29,1)]⟩ :: k4k :: k69 :: ⟨2,[(35,-1),(4,1)]⟩ :: ⟨2,[(35,-1),(29,1)]⟩ :: ⟨3,[(35,-1),(4,1)]⟩ :: ⟨0,[(35,-1),(14,1)]⟩ :: ⟨1,[(35,-1),(14,1)]⟩ :: ⟨2,[(35,-1),(14,1)]⟩ :: ⟨3,[(35,-1),(29,1)]⟩ :: ⟨4,[(35,-1),(4,1)]⟩ :: ⟨3,[(35,-1),(14,1)]⟩ :: k68),[],k3⟩],.ann ⟨1,[(28,k4j)],[],[],[],k4i,[],k4f⟩,.ann ⟨1,[(17,k5y)],[],[],[],(k5x :: k5v :: k5w),[],k5v⟩,k64,.ann ⟨1,[(33,k5e)],[],[],[],(k58 :: ⟨0,[(39,-1),(6,1)]⟩ :: k51),[],⟨0,[(39,-1),(6,1)]⟩⟩,.ann ⟨1,[(43,k5t)],[],[],[],(k5s :: ⟨0,[(45,-1),(44,1)]⟩ :: k5r),[],⟨0,[(45,-1),(44,1)]⟩⟩,k5q,.ann ⟨1,[(13,k5y)],[],[],[],(k5x :: ⟨0,[(38,-1),(6,1)]⟩ :: k5w),[],⟨0,[(38,-1),(6,1)]⟩⟩,.ann ⟨1,[(8,(.int .i64 k66))],[],[],[],(k66 :: ⟨0,[(43,-1),(34,1)]⟩ :: k65),[],⟨0,[(43,-1),(34,1)]⟩⟩,k5u,k64,.ann ⟨1,[(13,k5y)],[],[],[],(k5x :: k5v :: k5w),[],k5v⟩,k5u,k5q,.ann ⟨1,[(8,k5k)],[],[],[],(k5j :: ⟨0,[(46,-1),(34,1)]⟩ :: k5i),[],⟨0,[(46,-1),(34,1)]⟩⟩,.ann ⟨4,[(9,k5f),(45,k5e)],[],[(35,(.own [(.one (.sym 41)),(.one k5d)] [])),(41,k5c),(38,k5b)],[],(k5a :: k54 :: ⟨0,[(40,1),(2,-1)]⟩ :: k59 :: k58 :: ⟨268435456,[(41,-1)]⟩ :: ⟨0,[(41,-1),(39,1)]⟩ :: ⟨0,[(39,-1),(34,1)]⟩ :: k57 :: ⟨0,[(40,-1),(3,1)]⟩ :: k56 :: k55 :: k54 :: k53 :: k52 :: k51),[],⟨0,[(39,-1),(34,1)]⟩⟩,.ann ⟨2,[(14,k4y),(71,k4x)],[],[],[],(⟨0,[(52,1),(50,-1)]⟩ :: k4w :: k4v :: ⟨0,[(51,-1),(5,1)]⟩ :: k4u :: k4t :: k4s),[],⟨0,[(51,-1),(5,1)]⟩⟩,.ann ⟨2,[(20,k4r)],[],[(32,(.own [(.one (.slo 31 k3 k4o k4q))] []))],[],(⟨0,[(36,1),(34,-1)]⟩ :: ⟨0,[(36,-1),(34,1)]⟩ :: k4o :: k4p :: k4k :: k4o :: ⟨0,[(36,-1),(29,1)]⟩ :: k4n),[],k4k⟩,.ann ⟨1,[(8,k4j)],[],[],[],k4i,[],k4f⟩]
theorem qf5:q17 Go.Proofs.Try.prog lem5:=q0b (L:=[lem4]) (allL_mem ⟨qbm,trivial⟩) mixed (by kernel_rfl:isOk (lemC Go.Proofs.Try.prog (q1s rl) [lem4] 1000 lem5 ltape5)=true)
def lem6:Lem:=⟨52,[(.ptr 24 k3)],27,(k4e :: k4d :: k4c :: k8 :: k4b :: kr :: k1p :: k1o :: kf :: k4a :: kq :: k6y :: k6x :: k6w :: kp :: ⟨0,[(22,1),(2,-1)]⟩ :: ko :: kn :: k49 :: ki :: k48 :: km :: k6v :: ⟨0,[(22,-1),(3,1)]⟩ :: ⟨0,[(26,1),(5,-1)]⟩ :: ⟨0,[(26,-1),(5,1)]⟩ :: k6u),k6t,((26,k6s) :: (24,(.own (k3d :: k3c :: k3b :: (.one (.sym 26)) :: k40) [(k3,k18),(k1a,k19),(k1c,k1b),(k1g,k1f),(k6m,(.map 12)),(k1e,(.sym 26))])) :: k6q :: k6n),k6l⟩
def ltape6:List LD:=(k8r :: .rcur ⟨1,k8m,[],((38,(.own [(.arr k4o k6g)] [])) :: k8l),[],k8k,[],k8f⟩ [k8e,⟨2,k3u,[],k8d,[],(k8b :: k5a :: k8a :: k85 :: k89 :: k70 :: k88 :: k87 :: ⟨2,[(42,-1),(36,1)]⟩ :: ⟨3,[(42,-1),(4,1)]⟩ :: ⟨0,[(42,-1),(14,1)]⟩ :: ⟨1,[(42,-1),(14,1)]⟩ :: ⟨2,[(42,-1),(14,1)]⟩ :: ⟨3,[(42,-1),(36,1)]⟩ :: ⟨4,[(42,-1),(4,1)]⟩ :: ⟨3,[(42,-1),(14,1)]⟩ :: k86),[],k3⟩] :: k84 :: k83 :: k7u :: k82 :: k81 :: k7q :: k80 :: k7y :: k7r :: k7u :: k7t :: k7r :: k7q :: k7l :: .ann ⟨4,[(9,k5p),(45,k5k)],[],[k7i,(48,k5c),(45,k5b)],[],k7g,[],k7b⟩ :: k7a)
theorem qjl:q17 Go.Proofs.Try.prog lem6:=q0b (L:=[lem4,lem5]) (allL_mem ⟨qbm,qf5,trivial⟩) mixed (by kernel_rfl:isOk (lemC Go.Proofs.Try.prog (q1s rl) [lem4,lem5] 1000 lem6 ltape6)=true)
def lem7:Lem:=⟨53,[(.ptr 13 k3),k15,k6p],24,(k4e :: k4d :: k4c :: k8 :: k4b :: kr :: k1p :: k1o :: k4a :: kf :: kq :: k6y :: k6x :: k6w :: k8u),k6t,(k6q :: k8t),(⟨1,[(0,(.bool (.ne k8s)))],[],[],[],[],[],k3⟩ :: k3v)⟩
def ltape7:List LD:=[.lem 2]
theorem qol:q17 Go.Proofs.Try.prog lem7:=q0b (L:=[lem4,lem5,lem6]) (allL_mem ⟨qbm,qf5,qjl,trivial⟩) mixed (by kernel_rfl:isOk (lemC Go.Proofs.Try.prog (q1s rl) [lem4,lem5,lem6] 1000 lem7 ltape7)=true)
def lem8:Lem:=⟨52,[(.ptr 26 k3)],29,(k4e :: k4d :: k4c :: k8 :: k4b :: kr :: ⟨0,[(28,1),(5,-1)]⟩ :: ⟨0,[(28,-1),(5,1)]⟩ :: k1p :: k1o :: kf :: k4a :: k8w),k6t,((28,k6s) :: (26,(.own (k3d :: k3c :: k3b :: (.one (.sym 28)) :: k40) [(k3,k18),(k1a,k19),(k1c,k1b),(k1g,k1f),(k6m,(.map 12)),(k1e,(.sym 28))])) :: k8v :: k6n),(⟨1,[(0,(.bool (.ne k4q)))],[],[],[],[],[],k3⟩ :: k3v)⟩
def ltape8:List LD:=mvTp [(26,28)] ltape6
theorem qwo:q17 Go.Proofs.Try.prog lem8:=q0b (L:=[lem4,lem5,lem6,lem7]) (allL_mem ⟨qbm,qf5,qjl,qol,trivial⟩) mixed (by kernel_rfl:isOk (lemC Go.Proofs.Try.prog (q1s rl) [lem4,lem5,lem6,lem7] 1000 lem8 ltape8)=true)
def lem9:Lem:=⟨53,[(.ptr 13 k3),k15,k2j],26,(k4e :: k4d :: k4c :: k8 :: k4b :: kr :: k1p :: k1o :: k4a :: kf :: k8w),k6t,(k8v :: k8t),k8x⟩
def ltape9:List LD:=[.lem 4]
theorem z53:q17 Go.Proofs.Try.prog lem9:=q0b (L:=[lem4,lem5,lem6,lem7,lem8]) (allL_mem ⟨qbm,qf5,qjl,qol,qwo,trivial⟩) mixed (by kernel_rfl:isOk (lemC Go.Proofs.Try.prog (q1s rl) [lem4,lem5,lem6,lem7,lem8] 1000 lem9 ltape9)=true)
def lem10:Lem:=⟨7,k1s,10,(k8 :: k1q :: k3r),k8y,((9,k3e) :: k3j),k3i⟩
def ltape10:List LD:=mvTp [(8,11)] ltape0
theorem q8a:q17 Go.Proofs.Try.prog lem10:=q0b (L:=[]) (allL_mem trivial) mixed (by kernel_rfl:isOk (lemC Go.Proofs.Try.prog (q1s rl) [] 1000 lem10 ltape10)=true)
def lem11:Lem:=⟨52,[(.ptr 12 k3)],19,k9c,k93,k92,(⟨1,[(0,(.bool (.ne k45)))],[],[],[],[],[(.pre 15 k27 [kc])],k3⟩ :: k3v)⟩
def ltape11:List LD:=mvTp [(14,13)] ltape5
theorem qaj:q17 Go.Proofs.Try.prog lem11:=q0b (L:=[lem10]) (allL_mem ⟨q8a,trivial⟩) mixed (by kernel_rfl:isOk (lemC Go.Proofs.Try.prog (q1s rl) [lem10] 1000 lem11 ltape11)=true)
def lem12:Lem:=⟨52,[(.ptr 22 k3)],26,(k9m :: k9b :: k8 :: k9a :: kr :: k3z :: k2k :: ⟨-1,[(24,1)]⟩ :: ⟨1,[(24,-1)]⟩ :: k1p :: k1o :: kf :: kq :: k2m :: k9l :: ⟨-1,[(25,1)]⟩ :: ⟨1,[(25,-1)]⟩ :: k2b :: kp :: k99 :: ko :: kn :: k98 :: k97 :: k22 :: ki :: k96 :: km :: k23 :: k95 :: kl :: kk :: ⟨-1,[(23,1)]⟩ :: ⟨1,[(23,-1)]⟩ :: k94),((.cell 24 k3 k9k) :: (.cell 24 k1a k15) :: (.cell 24 k1c k15) :: (.cell 24 k1e k9j) :: (.sl 24 true k9h) :: k9i),((25,(.bld k9h [])) :: (22,(.own (k3d :: k3c :: k3b :: k9g :: k90) [(k3,k18),(k1a,k19),(k1c,k1b),(k1g,k1f),(k6m,k8z),(k1e,(.sym 25))])) :: k9f),k8x⟩
def ltape12:List LD:=[.ann ⟨1,[(13,k4r)],[],[],[],(k4p :: k69 :: k4n),[],k69⟩,.rcur ⟨1,[(4,(.ptr 39 k3)),(3,(.ptr 31 k3)),(2,(.ptr 34 k3)),(1,(.ptr 36 k3)),(0,(.ptr 38 k3))],[],[(37,(.own [(.arr k4p [kd])] [])),(38,(.own [(.one (.slo 37 k3 k59 k4p))] []))],[],[k59,⟨1,[(40,1)]⟩,ka3,⟨1,[(40,-1),(35,1)]⟩,⟨0,[(40,-1),(4,1)]⟩,⟨1,[(40,-1),(4,1)]⟩,⟨2,[(40,-1),(4,1)]⟩,k59,ka3],[],ka3⟩ [⟨1,k6e,[],ka2,[],(⟨0,[(41,1),(40,-1)]⟩ :: ⟨0,[(41,-1),(40,1)]⟩ :: k54 :: k8j :: ka0 :: ⟨1,[(41,-1),(35,1)]⟩ :: k8i :: k8h :: k8g :: ka1),[],k3⟩,⟨2,k3u,[],((26,(.own [(.one (.bool (.ne k5a)))] [])) :: (29,k6c) :: (33,k6c) :: ka2),[],(⟨0,[(41,1),(40,-1)]⟩ :: k54 :: k8j :: ka0 :: ⟨1,[(41,-1),(35,1)]⟩ :: k8i :: k8h :: k8g :: ⟨2,[(41,-1),(35,1)]⟩ :: ⟨3,[(41,-1),(4,1)]⟩ :: ⟨0,[(41,-1),(13,1)]⟩ :: ⟨1,[(41,-1),(13,1)]⟩ :: ⟨2,[(41,-1),(13,1)]⟩ :: ⟨3,[(41,-1),(35,1)]⟩ :: ⟨4,[(41,-1),(4,1)]⟩ :: ⟨3,[(41,-1),(13,1)]⟩ :: ka1),[],k3⟩],.ann ⟨1,[(28,(.int .i64 k66))],[],[],[],(k66 :: k9n :: k65),[],k9n⟩,.ann ⟨1,[(17,k63)],[],[],[],(k62 :: k9x :: k61),[],k9x⟩,k9y,.ann ⟨1,[(33,k5t)],[],[],[],(k5s :: k7z :: k5r),[],k7z⟩,.ann ⟨1,[(43,k4x)],[],[],[],(k4v :: ⟨0,[(51,-1),(50,1)]⟩ :: k4s),[],⟨0,[(51,-1),(50,1)]⟩⟩,.ann ⟨1,[(8,(.int .i64 k7k))],[],[],[],(k7k :: ⟨0,[(53,-1),(40,1)]⟩ :: k7j),[],⟨0,[(53,-1),(40,1)]⟩⟩,.ann ⟨1,[(13,k63)],[],[],[],(k62 :: ⟨0,[(44,-1),(6,1)]⟩ :: k61),[],⟨0,[(44,-1),(6,1)]⟩⟩,.ann ⟨1,[(8,k7h)],[],[],[],(k7f :: ⟨0,[(49,-1),(40,1)]⟩ :: k9z),[],⟨0,[(49,-1),(40,1)]⟩⟩,.ann ⟨1,[(8,k4x)],[],[],[],(k4v :: ⟨0,[(51,-1),(40,1)]⟩ :: k4s),[],⟨0,[(51,-1),(40,1)]⟩⟩,k9y,.ann ⟨1,[(13,k63)],[],[],[],(k62 :: k9x :: k61),[],k9x⟩,.ann ⟨4,[(9,k5k),(45,k5t)],[],((41,(.own [(.one (.sym 47)),(.one (.int .i64 k7c))] [])) :: (47,k9w) :: k9s),[],(k7c :: k5o :: ⟨0,[(46,1),(2,-1)]⟩ :: k5j :: k5s :: ⟨268435456,[(47,-1)]⟩ :: ⟨0,[(47,-1),(45,1)]⟩ :: ⟨0,[(45,-1),(40,1)]⟩ :: ⟨0,[(48,-1),(47,1)]⟩ :: ⟨0,[(46,-1),(3,1)]⟩ :: k9v :: k9u :: k5o :: k5h :: k5g :: k5r),[],⟨0,[(45,-1),(40,1)]⟩⟩,.ann ⟨2,[(14,k78),(71,k9t)],[],k9s,[],(⟨0,[(58,1),(56,-1)]⟩ :: k76 :: k9r :: ⟨0,[(57,-1),(25,1)]⟩ :: k73 :: k72 :: k9q),[],⟨0,[(57,-1),(25,1)]⟩⟩,.ann ⟨2,[(20,k9p)],[],[(38,(.own [(.one (.slo 37 k3 k5a k4p))] []))],[],(⟨0,[(42,1),(40,-1)]⟩ :: ⟨0,[(42,-1),(40,1)]⟩ :: k5a :: k54 :: k8i :: k5a :: ⟨0,[(42,-1),(35,1)]⟩ :: k9o),[],k8i⟩,.ann ⟨1,[(8,(.int .i64 k66))],[],[],[],(k66 :: k9n :: k65),[],k9n⟩]
theorem qdh:q17 Go.Proofs.Try.prog lem12:=q0b (L:=[lem10,lem11]) (allL_mem ⟨q8a,qaj,trivial⟩) mixed (by kernel_rfl:isOk (lemC Go.Proofs.Try.prog (q1s rl) [lem10,lem11] 1000 lem12 ltape12)=true)
def lem13:Lem:=⟨52,[(.ptr 22 k3)],27,(k9m :: k9b :: k8 :: k9a :: kr :: k3z :: k2k :: k1p :: k1o :: kf :: ⟨0,[(5,-1)]⟩ :: k2m :: k9l :: ⟨-1,[(25,1)]⟩ :: ⟨1,[(25,-1)]⟩ :: k2b :: kp :: k99 :: ko :: kn :: k98 :: k97 :: k22 :: ki :: k96 :: km :: ⟨-1,[(26,1),(5,-1)]⟩ :: ⟨1,[(26,-1),(5,1)]⟩ :: k23 :: k95 :: kl :: kk :: k6o :: ⟨0,[(23,-1)]⟩ :: k94),((.cell 25 k3 k9k) :: (.cell 25 k1a k15) :: (.cell 25 k1c k15) :: (.cell 25 k1e k9j) :: (.sl 25 true k9h) :: k9i),((26,(.bld ka4 [])) :: (24,ka5) :: (22,(.own (k3d :: k3c :: k3b :: (.one (.sym 26)) :: k90) [(k3,k18),(k1a,k19),(k1c,k1b),(k1g,k1f),(k6m,k8z),(k1e,(.sym 26))])) :: k9f),k6l⟩
def ltape13:List LD:=(k8r :: .rcur ⟨1,k8m,[],((38,(.own [(.arr k4o [kd])] [])) :: k8l),[],k8k,[],k8f⟩ [k8e,⟨2,k3u,[],k8d,[],(k8b :: k5a :: k8a :: k85 :: k89 :: k70 :: k88 :: k87 :: ⟨2,[(42,-1),(36,1)]⟩ :: ⟨3,[(42,-1),(4,1)]⟩ :: ⟨0,[(42,-1),(13,1)]⟩ :: ⟨1,[(42,-1),(13,1)]⟩ :: ⟨2,[(42,-1),(13,1)]⟩ :: ⟨3,[(42,-1),(36,1)]⟩ :: ⟨4,[(42,-1),(4,1)]⟩ :: ⟨3,[(42,-1),(13,1)]⟩ :: k86),[],k3⟩] :: k84 :: k83 :: k7u :: k82 :: k81 :: k7q :: k80 :: k7y :: k7r :: k7u :: k7t :: k7r :: k7q :: k7l :: .ann ⟨4,[(9,k5p),(45,k5k)],[],[k7i,(48,k9w),(45,k5b)],[],k7g,[],k7b⟩ :: k7a)
theorem qji:q17 Go.Proofs.Try.prog lem13:=q0b (L:=[lem10,lem11,lem12]) (allL_mem ⟨q8a,qaj,qdh,trivial⟩) mixed (by kernel_rfl:isOk (lemC Go.Proofs.Try.prog (q1s rl) [lem10,lem11,lem12] 1000 lem13 ltape13)=true)
def lem14:Lem:=⟨52,[(.ptr 22 k3)],28,(k9m :: k9b :: k8 :: k9a :: kr :: k3z :: k2k :: k1p :: k1o :: k3w :: kq :: k2m :: k9l :: ⟨0,[(25,1),(5,-1)]⟩ :: ⟨0,[(25,-1),(5,1)]⟩ :: k2b :: kp :: k99 :: ko :: kn :: k98 :: k97 :: k22 :: ki :: k96 :: km :: ⟨-1,[(26,1)]⟩ :: ⟨1,[(26,-1)]⟩ :: k23 :: k95 :: kl :: kk :: k6o :: ⟨0,[(23,-1)]⟩ :: ⟨-1,[(27,1),(5,-1)]⟩ :: ⟨1,[(27,-1),(5,1)]⟩ :: k94),((.cell 26 k3 k9k) :: (.cell 26 k1a k15) :: (.cell 26 k1c k15) :: (.cell 26 k1e k9j) :: (.sl 26 true k9h) :: k9i),((27,(.bld (kd :: k6r) [])) :: (22,(.own (k3d :: k3c :: k3b :: (.one (.sym 27)) :: k90) [(k3,k18),(k1a,k19),(k1c,k1b),(k1g,k1f),(k6m,k8z),(k1e,(.sym 27))])) :: k9f),(⟨1,[(0,(.bool (.ne ka6)))],[],[],[],[],[],k3⟩ :: k3v)⟩
def ltape14:List LD:=mvTp [(26,27)] ltape13
theorem qr2:q17 Go.Proofs.Try.prog lem14:=q0b (L:=[lem10,lem11,lem12,lem13]) (allL_mem ⟨q8a,qaj,qdh,qji,trivial⟩) mixed (by kernel_rfl:isOk (lemC Go.Proofs.Try.prog (q1s rl) [lem10,lem11,lem12,lem13] 1000 lem14 ltape14)=true)
def lem15:Lem:=⟨54,[(.ptr 12 k3),k15],20,k9c,k9i,k92,[⟨1,[(0,(.sym 20))],[],[(20,k9e)],[],[k3z,⟨1,[(20,1)]⟩,⟨268435456,[(20,-1)]⟩,ka7,⟨0,[(20,-1),(13,1)]⟩,k3z],[],k3⟩]⟩
def ltape15:List LD:=[.ann ⟨2,[(4,(.sym 21)),(13,k9k)],[],[(21,k9e)],[],(k2m :: k3z :: k9l :: k2k :: ka7 :: k2m :: ka8),[],ka7⟩,.lem 2,.lem 3,.lem 4]
theorem z0j:q17 Go.Proofs.Try.prog lem15:=q0b (L:=[lem10,lem11,lem12,lem13,lem14]) (allL_mem ⟨q8a,qaj,qdh,qji,qr2,trivial⟩) mixed (by kernel_rfl:isOk (lemC Go.Proofs.Try.prog (q1s rl) [lem10,lem11,lem12,lem13,lem14] 1000 lem15 ltape15)=true)
def lem16:Lem:=⟨7,k1s,16,(k8 :: k1q :: kx :: kw :: k2s :: k2r :: k1p :: k1o :: kf :: k1n :: k12 :: ⟨1048576,[(9,-1)]⟩ :: k1m :: k1l :: ki :: k1k :: k33 :: ⟨1048576,[(10,-1)]⟩ :: k1j :: k1i :: kaq),kap,((15,k3e) :: (14,(.own kao [])) :: (13,k3e) :: k17),(⟨2,[(0,(.tup [kaj,ks,kai]))],[],[],[],[⟨7,[(17,-1)]⟩,kag,⟨1,[(17,1)]⟩,k4e,k3x,kaf,⟨6,[(17,-1),(16,1)]⟩,⟨-2,[(17,1)]⟩,⟨4,[(16,-1)]⟩,kac,kab,kaa,ka9],[],k3⟩ :: ⟨3,[(0,(.tup [kaj,kai,kah]))],[],[],[],[kr,kp,ko,kn,kl,kk,k2o,⟨1,[(18,1)]⟩,kag,⟨1,[(17,1)]⟩,⟨-2,[(16,1)]⟩,k3x,kaf,⟨-2,[(18,1)]⟩,⟨7,[(18,-1)]⟩,⟨7,[(17,-1)]⟩,⟨4,[(16,-1)]⟩,kae,kad,kac,kab,kaa,ka9],[],k3⟩ :: kt)⟩
def ltape16:List LD:=mvTp [(8,17)] ltape0
theorem q2v:q17 Go.Proofs.Try.prog lem16:=q0b (L:=[]) (allL_mem trivial) mixed (by kernel_rfl:isOk (lemC Go.Proofs.Try.prog (q1s rl) [] 1000 lem16 ltape16)=true)
def lem17:Lem:=⟨7,[(.agg [k15,k14,kam,kal,kak])],22,(kbf :: k8 :: kbe :: kr :: kbd :: k3z :: kbc :: kx :: kw :: k2s :: k2r :: k1p :: k1o :: kf :: kq :: k12 :: ⟨1048576,[(9,-1)]⟩ :: kp :: ko :: kn :: ki :: km :: k33 :: ⟨1048576,[(10,-1)]⟩ :: kl :: kk :: k45 :: kaq),(kj :: kg :: k9 :: kap),((21,kb7) :: kbb),[⟨2,[(0,(.tup [k21,ks,k6p]))],[],[],[],(⟨7,[(23,-1)]⟩ :: k6o :: ⟨1,[(23,1)]⟩ :: ⟨-1,[(22,1)]⟩ :: k1z :: ⟨1,[(22,1)]⟩ :: ⟨6,[(23,-1),(22,1)]⟩ :: ⟨-2,[(23,1)]⟩ :: ⟨4,[(22,-1)]⟩ :: kb3 :: kb2 :: k20),[],k3⟩,⟨3,[(0,(.tup [k21,k6p,kb6]))],[],[],[],(kb1 :: kb0 :: kaz :: kay :: kaw :: kav :: k8s :: ⟨1,[(24,1)]⟩ :: k6o :: ⟨1,[(23,1)]⟩ :: ⟨-2,[(22,1)]⟩ :: k1z :: ⟨1,[(22,1)]⟩ :: ⟨-2,[(24,1)]⟩ :: ⟨7,[(24,-1)]⟩ :: ⟨7,[(23,-1)]⟩ :: ⟨4,[(22,-1)]⟩ :: kb5 :: kb4 :: kb3 :: kb2 :: k20),[],k3⟩,⟨0,[(0,(.tup [ks,ks,ks]))],[],[],[],[kb1,kb0,kaz,kay,kax,kaw,kav,k3s],[kau,kat,(.pre 9 k12 k7)],k3⟩]⟩
def ltape17:List LD:=mvTp [(8,23),(2,7)] ltape0
theorem q3e:q17 Go.Proofs.Try.prog lem17:=q0b (L:=[lem16]) (allL_mem ⟨q2v,trivial⟩) mixed (by kernel_rfl:isOk (lemC Go.Proofs.Try.prog (q1s rl) [lem16] 1000 lem17 ltape17)=true)
def lem18:Lem:=⟨52,[(.ptr 18 k3)],33,kcc,kbr,kbn,(⟨1,[(0,(.bool (.ne kbh)))],[],[],[],[],[kbg],k3⟩ :: k3v)⟩
def ltape18:List LD:=mvTp [(20,33),(14,19)] ltape5
theorem q3t:q17 Go.Proofs.Try.prog lem18:=q0b (L:=[lem16,lem17]) (allL_mem ⟨q2v,q3e,trivial⟩) mixed (by kernel_rfl:isOk (lemC Go.Proofs.Try.prog (q1s rl) [lem16,lem17] 1000 lem18 ltape18)=true)
def lem19:Lem:=⟨52,[(.ptr 24 k3)],34,kcc,kcd,kbn,(⟨1,[(0,(.bool (.ne k28)))],[],[],[],[],[],k3⟩ :: k3v)⟩
def ltape19:List LD:=mvTp [(20,34),(14,25),(2,7)] ltape5
theorem q4c:q17 Go.Proofs.Try.prog lem19:=q0b (L:=[lem16,lem17,lem18]) (allL_mem ⟨q2v,q3e,q3t,trivial⟩) mixed (by kernel_rfl:isOk (lemC Go.Proofs.Try.prog (q1s rl) [lem16,lem17,lem18] 1000 lem19 ltape19)=true)
def lem20:Lem:=⟨52,[(.ptr 38 k3)],42,(kcb :: kca :: kbf :: k8 :: kbe :: kr :: kbd :: k3z :: kbc :: k4o :: k4f :: kcl :: kc9 :: kb1 :: kb0 :: kaz :: ⟨-1,[(40,1)]⟩ :: ⟨1,[(40,-1)]⟩ :: kc8 :: kc7 :: kc6 :: kc5 :: kc4 :: k1p :: k1o :: kf :: kq :: k4h :: kck :: kc2 :: k12 :: kc1 :: kay :: k2h :: kcj :: kci :: kc0 :: kbz :: kp :: kby :: ko :: kn :: ki :: km :: k33 :: kax :: kbx :: k1u :: kbw :: kl :: kk :: k45 :: kaw :: kbv :: kav :: ⟨-1,[(39,1)]⟩ :: ⟨1,[(39,-1)]⟩ :: kbu),((.cell 40 k3 k8q) :: (.cell 40 k1a k2t) :: (.cell 40 k1c k2t) :: (.cell 40 k1e k9j) :: (.sl 40 true kch) :: kcd),((41,(.bld kch [])) :: (38,(.own (k3o :: k3p :: kan :: (.one (.sym 41)) :: kbj) [(k3,k15),(k1a,k14),(k1c,kam),(k1g,kak),(k6m,kbi),(k1e,(.sym 41))])) :: kcf),(⟨1,[(0,(.bool (.ne k5a)))],[],[],[],[],[],k3⟩ :: k3v)⟩
def ltape20:List LD:=mvTp [(25,41),(13,25),(2,7)] ltape12
theorem q5a:q17 Go.Proofs.Try.prog lem20:=q0b (L:=[lem16,lem17,lem18,lem19]) (allL_mem ⟨q2v,q3e,q3t,q4c,trivial⟩) mixed (by kernel_rfl:isOk (lemC Go.Proofs.Try.prog (q1s rl) [lem16,lem17,lem18,lem19] 1000 lem20 ltape20)=true)
def lem21:Lem:=⟨52,[(.ptr 38 k3)],43,(kcb :: kca :: kbf :: k8 :: kbe :: kr :: kbd :: k3z :: kbc :: k4o :: k4f :: kcl :: kc9 :: kb1 :: kb0 :: kaz :: kc8 :: kc7 :: kc6 :: kc5 :: kc4 :: k1p :: k1o :: kf :: kq :: k4h :: kck :: kc2 :: k12 :: kc1 :: kay :: k2h :: kcj :: kci :: kc0 :: kbz :: kp :: kby :: ko :: kn :: ki :: km :: k33 :: ⟨0,[(10,-1)]⟩ :: kbx :: k1u :: kbw :: ⟨-1,[(42,1),(10,-1)]⟩ :: ⟨1,[(42,-1),(10,1)]⟩ :: kl :: kk :: k45 :: kaw :: kbv :: kav :: k58 :: ⟨0,[(39,-1)]⟩ :: kbu),((.cell 41 k3 k8q) :: (.cell 41 k1a k2t) :: (.cell 41 k1c k2t) :: (.cell 41 k1e k9j) :: (.sl 41 true kch) :: kcd),((42,(.bld kcm [])) :: (40,(.own [(.arr k3 kcm)] [])) :: (38,(.own (k3o :: k3p :: kan :: (.one (.sym 42)) :: kbj) [(k3,k15),(k1a,k14),(k1c,kam),(k1g,kak),(k6m,kbi),(k1e,(.sym 42))])) :: kcf),(⟨1,[(0,(.bool (.ne k66)))],[],[],[],[],[],k3⟩ :: k3v)⟩
def ltape21:List LD:=mvTp [(26,42),(13,25),(2,7)] ltape13
theorem q6e:q17 Go.Proofs.Try.prog lem21:=q0b (L:=[lem16,lem17,lem18,lem19,lem20]) (allL_mem ⟨q2v,q3e,q3t,q4c,q5a,trivial⟩) mixed (by kernel_rfl:isOk (lemC Go.Proofs.Try.prog (q1s rl) [lem16,lem17,lem18,lem19,lem20] 1000 lem21 ltape21)=true)
def lem22:Lem:=⟨52,[(.ptr 38 k3)],44,[kcb,kca,kbf,k8,kbe,kr,kbd,k3z,kbc,k4o,k4f,kcl,kc9,kb1,kb0,kaz,kc8,kc7,kc6,kc5,kc4,k1p,k1o,kf,kq,k4h,kck,kc2,k12,kc1,kay,k2h,⟨0,[(41,1),(10,-1)]⟩,⟨0,[(41,-1),(10,1)]⟩,kc0,kbz,kp,kby,ko,kn,ki,km,k3h,kax,kbx,k1u,kbw,⟨-1,[(42,1)]⟩,⟨1,[(42,-1)]⟩,kl,kk,k45,kaw,kbv,kav,k58,⟨0,[(39,-1)]⟩,k2u,k3s,kbt,kbs,⟨-1,[(43,1),(10,-1)]⟩,⟨1,[(43,-1),(10,1)]⟩],((.cell 42 k3 k8q) :: (.cell 42 k1a k2t) :: (.cell 42 k1c k2t) :: (.cell 42 k1e k9j) :: (.sl 42 true kch) :: kcd),((43,(.bld [kas,kbl,kbl,(.int ka k3h)] [])) :: (38,(.own (k3o :: k3p :: kan :: kco :: kbj) [(k3,k15),(k1a,k14),(k1c,kam),(k1g,kak),(k6m,kbi),(k1e,(.sym 43))])) :: kcf),kcn⟩
def ltape22:List LD:=mvTp [(26,43),(13,25),(2,7)] ltape13
theorem q8b:q17 Go.Proofs.Try.prog lem22:=q0b (L:=[lem16,lem17,lem18,lem19,lem20,lem21]) (allL_mem ⟨q2v,q3e,q3t,q4c,q5a,q6e,trivial⟩) mixed (by kernel_rfl:isOk (lemC Go.Proofs.Try.prog (q1s rl) [lem16,lem17,lem18,lem19,lem20,lem21] 1000 lem22 ltape22)=true)
def lem23:Lem:=⟨54,[(.ptr 24 k3),k2t],36,kcc,kcd,(kce :: kbn),[⟨1,[(0,(.sym 36))],[],[kcs],[],[k4o,⟨1,[(36,1)]⟩,kcr,kcq,kcp,k4o],[],k3⟩]⟩
def ltape23:List LD:=[.ann ⟨2,[(4,(.sym 37)),(13,k8q)],[],[(37,(.bld [kas] []))],[],[k4h,k4o,kck,k4f,kcq,k4h,k8p,k8o],[],kcq⟩,.lem 4,.lem 5,.lem 6]
theorem qak:q17 Go.Proofs.Try.prog lem23:=q0b (L:=[lem16,lem17,lem18,lem19,lem20,lem21,lem22]) (allL_mem ⟨q2v,q3e,q3t,q4c,q5a,q6e,q8b,trivial⟩) mixed (by kernel_rfl:isOk (lemC Go.Proofs.Try.prog (q1s rl) [lem16,lem17,lem18,lem19,lem20,lem21,lem22] 1000 lem23 ltape23)=true)
def lem24:Lem:=⟨52,[(.ptr 40 k3)],44,(kcb :: kca :: kd0 :: kbf :: k8 :: kbe :: kr :: kbd :: k3z :: kbc :: k4f :: k4o :: kcz :: kcr :: kcq :: kcp :: kc9 :: kb1 :: kb0 :: kaz :: kc8 :: kc7 :: kc6 :: kc5 :: kc4 :: k1p :: k1o :: kf :: kq :: k4h :: kc2 :: k12 :: kc1 :: kay :: k2h :: kcj :: kci :: kc0 :: kbz :: kp :: kby :: ko :: kn :: ki :: km :: k5x :: kcy :: k33 :: kax :: kbx :: k1u :: kbw :: ⟨-1,[(42,1)]⟩ :: ⟨1,[(42,-1)]⟩ :: kcx),((.cell 42 k3 k5y) :: (.cell 42 k1a k2t) :: (.cell 42 k1c k2t) :: (.cell 42 k1e k9j) :: (.sl 42 true kcv) :: kcd),((43,(.bld kcv [])) :: (40,(.own (k3d :: k3c :: k3b :: kco :: kb9) [(k3,k18),(k1a,k19),(k1c,k1b),(k1g,k1f),(k6m,kb8),(k1e,(.sym 43))])) :: kcu),kcn⟩
def ltape24:List LD:=mvTp [(25,43),(13,19),(7,12)] ltape12
theorem qdi:q17 Go.Proofs.Try.prog lem24:=q0b (L:=[lem16,lem17,lem18,lem19,lem20,lem21,lem22,lem23]) (allL_mem ⟨q2v,q3e,q3t,q4c,q5a,q6e,q8b,qak,trivial⟩) mixed (by kernel_rfl:isOk (lemC Go.Proofs.Try.prog (q1s rl) [lem16,lem17,lem18,lem19,lem20,lem21,lem22,lem23] 1000 lem24 ltape24)=true)
def lem25:Lem:=⟨52,[(.ptr 40 k3)],45,(kcb :: kca :: kd0 :: kbf :: k8 :: kbe :: kr :: kbd :: k3z :: kbc :: k4f :: k4o :: kcz :: kcr :: kcq :: kcp :: kc9 :: kb1 :: kb0 :: kaz :: kc8 :: kc7 :: kc6 :: kc5 :: kc4 :: ⟨-1,[(44,1),(5,-1)]⟩ :: ⟨1,[(44,-1),(5,1)]⟩ :: k1p :: k1o :: kf :: ⟨0,[(5,-1)]⟩ :: k4h :: kc2 :: k12 :: kc1 :: kay :: k2h :: k54 :: ⟨0,[(41,-1)]⟩ :: kc0 :: kbz :: kp :: kby :: ko :: kn :: ki :: km :: k5x :: kcy :: k33 :: kax :: kbx :: k1u :: kbw :: kcx),((.cell 43 k3 k5y) :: (.cell 43 k1a k2t) :: (.cell 43 k1c k2t) :: (.cell 43 k1e k9j) :: (.sl 43 true kcv) :: kcd),((44,(.bld ka4 [])) :: (42,ka5) :: (40,(.own (k3d :: k3c :: k3b :: (.one (.sym 44)) :: kb9) [(k3,k18),(k1a,k19),(k1c,k1b),(k1g,k1f),(k6m,kb8),(k1e,(.sym 44))])) :: kcu),(⟨1,[(0,(.bool (.ne k5s)))],[],[],[],[],[],k3⟩ :: k3v)⟩
def ltape25:List LD:=mvTp [(26,44),(13,19)] ltape13
theorem qjj:q17 Go.Proofs.Try.prog lem25:=q0b (L:=[lem16,lem17,lem18,lem19,lem20,lem21,lem22,lem23,lem24]) (allL_mem ⟨q2v,q3e,q3t,q4c,q5a,q6e,q8b,qak,qdi,trivial⟩) mixed (by kernel_rfl:isOk (lemC Go.Proofs.Try.prog (q1s rl) [lem16,lem17,lem18,lem19,lem20,lem21,lem22,lem23,lem24] 1000 lem25 ltape25)=true)
def lem26:Lem:=⟨52,[(.ptr 40 k3)],46,[kcb,kca,kd0,kbf,k8,kbe,kr,kbd,k3z,kbc,k4f,k4o,kcz,kcr,kcq,kcp,kc9,kb1,kb0,kaz,kc8,kc7,kc6,kc5,kc4,⟨-1,[(44,1)]⟩,⟨1,[(44,-1)]⟩,k1p,k1o,k3w,kq,k4h,kc2,k12,kc1,kay,k2h,k54,⟨0,[(41,-1)]⟩,kc0,kbz,⟨-1,[(45,1),(5,-1)]⟩,⟨1,[(45,-1),(5,1)]⟩,kp,kby,ko,kn,ki,km,k5x,kcy,k33,kax,kbx,k1u,kbw,kl,kk,k45,kaw,kbv,kav,k58,kcw,k2u,k3s,kbt,kbs,⟨0,[(43,1),(5,-1)]⟩,⟨0,[(43,-1),(5,1)]⟩],((.cell 44 k3 k5y) :: (.cell 44 k1a k2t) :: (.cell 44 k1c k2t) :: (.cell 44 k1e k9j) :: (.sl 44 true kcv) :: kcd),((45,(.bld (kd :: k6r) [])) :: (40,(.own (k3d :: k3c :: k3b :: (.one (.sym 45)) :: kb9) [(k3,k18),(k1a,k19),(k1c,k1b),(k1g,k1f),(k6m,kb8),(k1e,(.sym 45))])) :: kcu),(⟨1,[(0,(.bool (.ne k5j)))],[],[],[],[],[],k3⟩ :: k3v)⟩
def ltape26:List LD:=mvTp [(26,45),(13,19)] ltape13
theorem qr3:q17 Go.Proofs.Try.prog lem26:=q0b (L:=[lem16,lem17,lem18,lem19,lem20,lem21,lem22,lem23,lem24,lem25]) (allL_mem ⟨q2v,q3e,q3t,q4c,q5a,q6e,q8b,qak,qdi,qjj,trivial⟩) mixed (by kernel_rfl:isOk (lemC Go.Proofs.Try.prog (q1s rl) [lem16,lem17,lem18,lem19,lem20,lem21,lem22,lem23,lem24,lem25] 1000 lem26 ltape26)=true)
def lem27:Lem:=⟨54,[(.ptr 18 k3),k2t],38,(kcb :: kca :: kbf :: k8 :: kbe :: kr :: kbd :: k3z :: kbc :: k4f :: k4o :: kcz :: kcr :: kcq :: kcp :: kc9 :: kb1 :: kb0 :: kaz :: kc8 :: kc7 :: kc6 :: kc5 :: kc4 :: k1p :: k1o :: kf :: kq :: k4h :: kc3),kcd,(kct :: kcs :: kbn),[⟨1,[(0,(.sym 38))],[],[(38,k9e)],[],[k5x,⟨1,[(38,1)]⟩,⟨268435456,[(38,-1)]⟩,kd1,⟨0,[(38,-1),(19,1)]⟩,k5x],[],k3⟩]⟩
def ltape27:List LD:=[.ann ⟨2,[(4,(.sym 39)),(13,k5y)],[],[(39,k9e)],[],(k58 :: k5x :: kcw :: kcy :: kd1 :: k58 :: k5w),[],kd1⟩,.lem 8,.lem 9,.lem 10]
theorem z0k:q17 Go.Proofs.Try.prog lem27:=q0b (L:=[lem16,lem17,lem18,lem19,lem20,lem21,lem22,lem23,lem24,lem25,lem26]) (allL_mem ⟨q2v,q3e,q3t,q4c,q5a,q6e,q8b,qak,qdi,qjj,qr3,trivial⟩) mixed (by kernel_rfl:isOk (lemC Go.Proofs.Try.prog (q1s rl) [lem16,lem17,lem18,lem19,lem20,lem21,lem22,lem23,lem24,lem25,lem26] 1000 lem27 ltape27)=true)
def lem28:Lem:=⟨52,[(.ptr 36 k3)],40,[k3x,ke5,ke4,ke3,⟨-1,[(33,-1),(32,1)]⟩,kbp,ke2,ke1,k2p,k8,ke0,kr,kdz,kdy,k3z,kdx,kdw,k8s,kdv,k2q,kdu,ka6,kdt,k1p,k1o,⟨-1,[(33,-1),(17,1)]⟩,kag,kds,kbh,k5v,kf,⟨0,[(38,1),(5,-1)]⟩,kq,kdr,k2m,kdq,kdp,k2h,kdo,kdn,k2b,kdm,k4q,kdl,⟨0,[(29,1),(16,-1)]⟩,kp,ko,kn,kdk,k2o,kdj,k28,⟨-1,[(35,1),(34,-1)]⟩,⟨-1,[(34,-1),(30,1)]⟩,ki,km,k1z,kdi,k5x,kcy,k1u,kdh,kdg,kdf,kde,k29,kdd,kdc,kl,kk,k45,k4p,⟨254,[(35,-1)]⟩,k6o,kdb,k58,kcw,k6k,k27,kda],kd9,(kd8 :: kd7 :: (32,(.bld kd2 [(kbh,(.int .i64 k28))])) :: (17,(.bld [(.int k3 ⟨254,[]⟩)] [(kbh,k4r)])) :: kd6),[⟨1,[(0,(.bool (.ne k59)))],[],kd4,[],[],[],k3⟩,⟨0,k3u,[],kd4,[],[],[],k3⟩]⟩
def ltape28:List LD:=[.ann ⟨1,[(13,k7h)],[],kd4,[],(k7f :: ⟨1,[(49,-1),(4,1)]⟩ :: k9z),[],⟨1,[(49,-1),(4,1)]⟩⟩,.rcur ⟨1,[(4,(.ptr 53 k3)),(3,(.ptr 45 k3)),(2,(.ptr 48 k3)),(1,(.ptr 50 k3)),(0,(.ptr 52 k3))],[],[(51,(.own [(.arr k7f k6g)] [])),(52,(.own [(.one (.slo 51 k3 k7o k7f))] []))],[],[k7o,⟨1,[(54,1)]⟩,kej,⟨1,[(54,-1),(49,1)]⟩,⟨0,[(54,-1),(4,1)]⟩,⟨1,[(54,-1),(4,1)]⟩,⟨2,[(54,-1),(4,1)]⟩,k7o,kej],[],kej⟩ [⟨1,k6e,[],kei,[],(⟨0,[(55,1),(54,-1)]⟩ :: ⟨0,[(55,-1),(54,1)]⟩ :: ke9 :: ⟨1,[(55,1)]⟩ :: keg :: ⟨1,[(55,-1),(49,1)]⟩ :: ke7 :: ⟨1,[(55,-1),(4,1)]⟩ :: ⟨2,[(55,-1),(4,1)]⟩ :: keh),[],k3⟩,⟨2,k3u,[],((40,(.own [(.one (.bool (.ne ke8)))] [])) :: (43,k6c) :: (47,k6c) :: kei),[],(⟨0,[(55,1),(54,-1)]⟩ :: ke9 :: ⟨1,[(55,1)]⟩ :: keg :: ⟨1,[(55,-1),(49,1)]⟩ :: ke7 :: ⟨1,[(55,-1),(4,1)]⟩ :: ⟨2,[(55,-1),(4,1)]⟩ :: ⟨2,[(55,-1),(49,1)]⟩ :: ⟨3,[(55,-1),(4,1)]⟩ :: ⟨0,[(55,-1),(12,1)]⟩ :: ⟨1,[(55,-1),(12,1)]⟩ :: ⟨2,[(55,-1),(12,1)]⟩ :: ⟨3,[(55,-1),(49,1)]⟩ :: ⟨4,[(55,-1),(4,1)]⟩ :: ⟨3,[(55,-1),(12,1)]⟩ :: keh),[],k3⟩],.ann ⟨1,[(28,k9t)],[],[],[],(k9r :: ke6 :: k9q),[],ke6⟩,.ann ⟨1,[(17,k78)],[],[],[],[k76,kee,k73,k72],[],kee⟩,kef,.ann ⟨1,[(33,k79)],[],[],[],[k77,⟨0,[(59,-1),(6,1)]⟩,k75,k74],[],⟨0,[(59,-1),(6,1)]⟩⟩,.ann ⟨1,[(43,(.int .i64 kec))],[],[],[],(kec :: ⟨0,[(65,-1),(64,1)]⟩ :: keb),[],⟨0,[(65,-1),(64,1)]⟩⟩,kea,.ann ⟨1,[(13,k78)],[],[],[],[k76,⟨0,[(58,-1),(6,1)]⟩,k73,k72],[],⟨0,[(58,-1),(6,1)]⟩⟩,.ann ⟨1,[(8,(.int .i64 ⟨0,[(63,1)]⟩))],[],[],[],[⟨0,[(63,1)]⟩,⟨0,[(63,-1),(54,1)]⟩,⟨9223372036854775808,[(63,1)]⟩,⟨9223372036854775807,[(63,-1)]⟩],[],⟨0,[(63,-1),(54,1)]⟩⟩,ked,kef,.ann ⟨1,[(13,k78)],[],[],[],[k76,kee,k73,k72],[],kee⟩,ked,kea,.ann ⟨1,[(8,(.int .i64 ⟨0,[(66,1)]⟩))],[],[],[],[⟨0,[(66,1)]⟩,⟨0,[(66,-1),(54,1)]⟩,⟨9223372036854775808,[(66,1)]⟩,⟨9223372036854775807,[(66,-1)]⟩],[],⟨0,[(66,-1),(54,1)]⟩⟩,.ann ⟨4,[(9,(.int .i64 ⟨0,[(60,1)]⟩)),(45,k79)],[],[(55,(.own [(.one (.sym 61)),(.one (.int .i64 ⟨0,[(62,1)]⟩))] [])),(61,k5c),(58,k5b)],[],[⟨0,[(62,1)]⟩,⟨0,[(61,1)]⟩,⟨0,[(60,1),(2,-1)]⟩,⟨0,[(60,1)]⟩,k77,⟨268435456,[(61,-1)]⟩,⟨0,[(61,-1),(59,1)]⟩,⟨0,[(59,-1),(54,1)]⟩,⟨0,[(62,-1),(61,1)]⟩,⟨0,[(60,-1),(3,1)]⟩,⟨9223372036854775808,[(62,1)]⟩,⟨9223372036854775807,[(62,-1)]⟩,⟨0,[(61,1)]⟩,⟨9223372036854775808,[(60,1)]⟩,⟨9223372036854775807,[(60,-1)]⟩,k75,k74],[],⟨0,[(59,-1),(54,1)]⟩⟩,.ann ⟨2,[(14,(.int .i64 ⟨0,[(72,1)]⟩)),(71,(.int .i64 ⟨0,[(71,1)]⟩))],[],[],[],[⟨0,[(72,1),(70,-1)]⟩,⟨0,[(72,1)]⟩,⟨0,[(71,1)]⟩,⟨0,[(71,-1),(39,1)]⟩,⟨9223372036854775808,[(72,1)]⟩,⟨9223372036854775807,[(72,-1)]⟩,⟨9223372036854775808,[(71,1)]⟩,⟨9223372036854775807,[(71,-1)]⟩],[],⟨0,[(71,-1),(39,1)]⟩⟩,.ann ⟨2,[(20,(.int .i64 ke9))],[],[(52,(.own [(.one (.slo 51 k3 ke8 k7f))] []))],[],[⟨0,[(56,1),(54,-1)]⟩,⟨0,[(56,-1),(54,1)]⟩,ke8,ke9,ke7,ke8,⟨0,[(56,-1),(49,1)]⟩,⟨9223372036854775808,[(55,1)]⟩,⟨9223372036854775807,[(55,-1)]⟩],[],ke7⟩,.ann ⟨1,[(8,k9t)],[],[],[],(k9r :: ke6 :: k9q),[],ke6⟩]
theorem qal:q17 Go.Proofs.Try.prog lem28:=q0b (L:=[lem1]) (allL_mem ⟨q9b,trivial⟩) mixed (by kernel_rfl:isOk (lemC Go.Proofs.Try.prog (q1s rl) [lem1] 1000 lem28 ltape28)=true)
def lem29:Lem:=⟨52,[(.ptr 34 k3)],38,(k3x :: ke5 :: ke4 :: ke3 :: ker :: kbp :: ⟨-1,[(32,-1),(17,1)]⟩ :: keq),kd9,ken,kek⟩
def ltape29:List LD:=mvTp [(26,37),(14,12)] ltape6
theorem qdj:q17 Go.Proofs.Try.prog lem29:=q0b (L:=[lem1,lem28]) (allL_mem ⟨q9b,qal,trivial⟩) mixed (by kernel_rfl:isOk (lemC Go.Proofs.Try.prog (q1s rl) [lem1,lem28] 1000 lem29 ltape29)=true)
def lem30:Lem:=⟨52,[(.ptr 34 k3)],38,(k3x :: ke5 :: ke4 :: ke3 :: ⟨0,[(32,1),(17,-1)]⟩ :: ker :: kbp :: keq),kd9,ken,kek⟩
def ltape30:List LD:=mvTp [(26,37),(14,12)] ltape6
theorem qjk:q17 Go.Proofs.Try.prog lem30:=q0b (L:=[lem1,lem28,lem29]) (allL_mem ⟨q9b,qal,qdj,trivial⟩) mixed (by kernel_rfl:isOk (lemC Go.Proofs.Try.prog (q1s rl) [lem1,lem28,lem29] 1000 lem30 ltape30)=true)
def lem31:Lem:=⟨52,[(.ptr 33 k3)],37,(⟨-1,[(29,-1),(16,1)]⟩ :: k3x :: ⟨256,[(16,-1)]⟩ :: kex),kd9,kev,kes⟩
def ltape31:List LD:=mvTp [(26,36),(14,12)] ltape6
theorem qr4:q17 Go.Proofs.Try.prog lem31:=q0b (L:=[lem1,lem28,lem29,lem30]) (allL_mem ⟨q9b,qal,qdj,qjk,trivial⟩) mixed (by kernel_rfl:isOk (lemC Go.Proofs.Try.prog (q1s rl) [lem1,lem28,lem29,lem30] 1000 lem31 ltape31)=true)
def lem32:Lem:=⟨52,[(.ptr 33 k3)],37,(kaf :: ⟨-1,[(16,-1)]⟩ :: kex),kd9,kev,kes⟩
def ltape32:List LD:=mvTp [(26,36),(14,12)] ltape6
theorem z0l:q17 Go.Proofs.Try.prog lem32:=q0b (L:=[lem1,lem28,lem29,lem30,lem31]) (allL_mem ⟨q9b,qal,qdj,qjk,qr4,trivial⟩) mixed (by kernel_rfl:isOk (lemC Go.Proofs.Try.prog (q1s rl) [lem1,lem28,lem29,lem30,lem31] 1000 lem32 ltape32)=true)
def tape4:List LD:=[.ann ⟨3,[(6,k6p)],[],[(0,(.own [(.one (.sym 24)),k9g] [])),(25,(.bld [.str] [])),(24,key)],[22],(k2h :: k8s :: k6o :: kf5 :: ⟨268435456,[(24,-1)]⟩ :: ⟨0,[(25,-1),(23,1)]⟩ :: ⟨0,[(23,-1),(3,1)]⟩ :: ⟨0,[(24,1),(23,-2),(22,-1)]⟩ :: ⟨0,[(24,-1),(23,2),(22,1)]⟩ :: ⟨1048576,[(25,-1)]⟩ :: ⟨1048576,[(23,-1)]⟩ :: k2h :: k8s :: kf4),[],⟨0,[(23,-1),(3,1)]⟩⟩,.ann ⟨2,[(6,kf3)],[],[(0,(.own [(.one (.sym 29)),k9g] [])),(29,key)],[27],[k4q,ka6,⟨268435456,[(29,-1)]⟩,⟨0,[(28,-1),(4,1)]⟩,⟨0,[(29,1),(28,-4),(27,-1)]⟩,⟨0,[(29,-1),(28,4),(27,1)]⟩,⟨1048576,[(28,-1)]⟩,k4q,kf2,kf1],[],⟨0,[(28,-1),(4,1)]⟩⟩,.ann ⟨2,[(6,(.int .i64 kbp))],[],[(0,(.own [(.one (.sym 33)),k9g] [])),(33,key)],[31],(kbh :: kbp :: ⟨268435456,[(33,-1)]⟩ :: ⟨0,[(32,-1),(5,1)]⟩ :: ⟨0,[(33,1),(32,-3),(31,-1)]⟩ :: ⟨0,[(33,-1),(32,3),(31,1)]⟩ :: ⟨1048576,[(32,-1)]⟩ :: kbh :: kf0),[],⟨0,[(32,-1),(5,1)]⟩⟩,.ann ⟨3,[(6,k9p)],[],[(0,(.own [(.one (.sym 42)),kco] [])),(43,(.bld [.str] [])),(42,key)],[25,40],(⟨0,[(43,1),(25,-1)]⟩ :: k66 :: k5a :: k54 :: kez :: ⟨268435456,[(42,-1)]⟩ :: ⟨0,[(41,-1),(8,1)]⟩ :: ⟨0,[(43,-1),(42,1),(40,-1),(25,1)]⟩ :: ⟨0,[(42,1),(41,-2),(40,-1)]⟩ :: ⟨0,[(42,-1),(41,2),(40,1)]⟩ :: ⟨1048576,[(41,-1)]⟩ :: k66 :: k5a :: k9o),[],⟨0,[(41,-1),(8,1)]⟩⟩,.ann ⟨2,[(6,k5k)],[],[(0,(.own [(.one (.sym 47)),kco] [])),(47,key)],[45],(k5o :: k5j :: ⟨268435456,[(47,-1)]⟩ :: ⟨0,[(46,-1),(9,1)]⟩ :: ⟨0,[(47,1),(46,-4),(45,-1)]⟩ :: ⟨0,[(47,-1),(46,4),(45,1)]⟩ :: ⟨1048576,[(46,-1)]⟩ :: k5o :: k5i),[],⟨0,[(46,-1),(9,1)]⟩⟩,.ann ⟨2,[(6,(.int .i64 k7w))],[],[(0,(.own [(.one (.sym 51)),kco] [])),(51,key)],[49],(k4v :: k7w :: ⟨0,[(50,-1),(10,1)]⟩ :: ⟨0,[(51,1),(50,-3),(49,-1)]⟩ :: ⟨0,[(51,-1),(50,3),(49,1)]⟩ :: ⟨1048576,[(50,-1)]⟩ :: k4v :: k7v),[],⟨0,[(50,-1),(10,1)]⟩⟩,.ann ⟨2,[(6,k7p)],[],[(0,(.own [(.one (.sym 55)),kco] [])),(55,key)],[53],[ke9,k7o,⟨0,[(54,-1),(11,1)]⟩,⟨0,[(55,1),(54,-1),(53,-1)]⟩,⟨0,[(55,-1),(54,1),(53,1)]⟩,⟨1048576,[(54,-1)]⟩,ke9,k7n,k7m],[],⟨0,[(54,-1),(11,1)]⟩⟩]
theorem qAll:allQ Go.Proofs.Try.prog (q1s rl) [] 1000 4 argTy tape4=true:=by kernel_rfl
def tape6:List LD:=[.lem 0]
theorem q6:cloQ Go.Proofs.Try.prog (q1s rl) [lem0] 1000 6 10 none argTy tape6=true:=by kernel_rfl
theorem l6:∀ l∈[lem0],q17 Go.Proofs.Try.prog l:=allL_mem ⟨z50,trivial⟩
def tape11:List LD:=[.lem 0,kfq,kfp,.ann ⟨4,[(13,k2j)],[],[(16,(.own [(.one (.sym 27)),(.one kf3)] [])),(27,k5c),(17,(.own [(.one (.bool (.ne k1u)))] []))],[],(ka6 :: k6k :: k2h :: ⟨268435456,[(27,-1)]⟩ :: ⟨1,[(25,-1),(4,1)]⟩ :: kf2 :: kf1 :: k6k :: k2i),[],⟨1,[(25,-1),(4,1)]⟩⟩,.rcur ⟨4,[(4,k6h),(3,(.ptr 21 k3)),(2,(.ptr 24 k3)),(1,(.ptr 29 k3)),(0,(.ptr 31 k3))],[],[(17,k6d),(16,(.own [(.one (.sym 34)),(.one k4r)] [])),(34,k5c),(30,(.own [(.arr k2h k6g)] [])),(31,(.own [(.one (.slo 30 k3 kbh k2h))] []))],[27],[k4p,k6a,k28,⟨1,[(34,1)]⟩,kbh,⟨1,[(33,1)]⟩,⟨268435456,[(34,-1)]⟩,kfo,⟨1,[(33,-1),(25,1)]⟩,⟨1,[(33,-1),(4,1)]⟩,⟨1,[(33,-1),(12,1)]⟩,⟨0,[(33,1),(28,1)]⟩,⟨0,[(33,1),(27,1)]⟩,k4m,k4l,k28,kbh,kfo],[],kfo⟩ [⟨4,k6e,[],[(31,(.own [(.one (.slo 30 k3 k59 k2h))] [])),(16,(.own [(.one (.sym 38)),(.one k5e)] [])),(38,k5c),(17,(.own [(.one (.bool (.ne k4h)))] []))],[34],[⟨0,[(40,1),(33,-1)]⟩,⟨0,[(40,-1),(33,1)]⟩,k59,⟨1,[(40,1)]⟩,k58,⟨1,[(39,1)]⟩,k5x,⟨1,[(38,1)]⟩,⟨268435456,[(38,-1)]⟩,⟨0,[(40,-1),(25,1)]⟩,⟨1,[(40,-1),(25,1)]⟩,⟨0,[(40,-1),(4,1)]⟩,⟨1,[(40,-1),(4,1)]⟩,⟨1,[(40,-1),(12,1)]⟩,k59,⟨0,[(40,-1),(25,1)]⟩,k50,k4z,k5x],[],k3⟩],kfn,kfm,kfi,kfl,kfk,kfe,kfj,.ann ⟨1,[(8,k5t)],[],[],[],(k5s :: ⟨0,[(45,-1),(33,1)]⟩ :: k5r),[],⟨0,[(45,-1),(33,1)]⟩⟩,kff,kfi,kfh,kff,kfe,.ann ⟨1,[(8,(.int .i64 k7c))],[],[],[],[k7c,⟨0,[(48,-1),(33,1)]⟩,k9v,k9u],[],⟨0,[(48,-1),(33,1)]⟩⟩,.ann ⟨4,[(9,k5d),(45,k9p)],[],[kfd,(43,k5c),(40,k5b)],[],(k62 :: k66 :: ⟨0,[(42,1),(2,-1)]⟩ :: k5a :: k54 :: kez :: k71 :: kfa :: kfc),[],kfa⟩,kfb,.ann ⟨5,[(20,k4j)],[],[(31,(.own [(.one (.slo 30 k3 k54 k2h))] [])),(16,(.own [(.one (.sym 39)),(.one k5f)] [])),(39,k5c),(17,(.own [(.one (.bool (.ne k5x)))] []))],[34],(⟨0,[(41,1),(33,-1)]⟩ :: kfa :: k54 :: k59 :: k58 :: k4h :: kcw :: kf9 :: k54 :: ⟨0,[(41,-1),(25,1)]⟩ :: k53 :: k52 :: k58 :: k4g),[],kf9⟩,.ann ⟨1,[(8,k5d)],[],[],[],[k5a,k57,k56,k55],[],k57⟩,kf8,kf8,kf8,.ann ⟨2,[(6,(.int .i64 kbh))],[],[(0,(.own ((.one (.sym 34)) :: k16) [])),(34,kf7)],[32],(k28 :: kbh :: ⟨0,[(33,-1),(27,1)]⟩ :: ⟨0,[(34,1),(33,-3),(32,-1)]⟩ :: ⟨0,[(34,-1),(33,3),(32,1)]⟩ :: ⟨268435456,[(33,-1)]⟩ :: k28 :: kf6),[],⟨0,[(33,-1),(27,1)]⟩⟩]
theorem q11:cloQ Go.Proofs.Try.prog (q1s rl) [lem1] 1000 11 14 (some 3) argTy tape11=true:=by kernel_rfl
theorem l11:∀ l∈[lem1],q17 Go.Proofs.Try.prog l:=allL_mem ⟨q9b,trivial⟩
def tape16:List LD:=[.lem 0,kfy,kfx,.ann ⟨1,[(8,kai)],[],[],[],[kag,⟨0,[(17,-1),(7,1)]⟩,⟨1048576,[(17,-1)]⟩,kac,kab],[(.pre 7 kag [kd])],⟨0,[(17,-1),(7,1)]⟩⟩,.ann ⟨1,[(29,kah)],[],[],[],[k2o,⟨0,[(18,-1),(7,1)]⟩,⟨1048576,[(18,-1)]⟩,kae,kad],[],⟨0,[(18,-1),(7,1)]⟩⟩,.ann ⟨1,[(8,k2n)],[],[],[],(k2m :: k2k :: ⟨1048575,[(21,-1)]⟩ :: k2l),[],k2k⟩,.ann ⟨1,[(28,k2n)],[],[],[],(k2m :: k2k :: k2l),[],k2k⟩,.ann ⟨1,[(17,k21)],[],[],[],(k1z :: kfv :: k20),[],kfv⟩,kfw,.ann ⟨1,[(33,k6p)],[],[],[],(k6o :: ⟨0,[(23,-1),(6,1)]⟩ :: kf4),[],⟨0,[(23,-1),(6,1)]⟩⟩,.ann ⟨1,[(43,k6j)],[],[],[],(k4q :: ⟨0,[(29,-1),(28,1)]⟩ :: k6i),[],⟨0,[(29,-1),(28,1)]⟩⟩,kft,.ann ⟨1,[(13,k21)],[],[],[],(k1z :: ⟨0,[(22,-1),(6,1)]⟩ :: k20),[],⟨0,[(22,-1),(6,1)]⟩⟩,.ann ⟨1,[(8,(.int .i64 k6k))],[],[],[],[k6k,⟨0,[(27,-1),(7,1)]⟩,⟨1048576,[(27,-1)]⟩,⟨9223372036854775808,[(27,1)]⟩,⟨9223372036854775807,[(27,-1)]⟩],[],⟨0,[(27,-1),(7,1)]⟩⟩,kfu,kfw,.ann ⟨1,[(13,k21)],[],[],[],(k1z :: kfv :: k20),[],kfv⟩,kfu,kft,.ann ⟨1,[(8,(.int .i64 k29))],[],[],[],(k29 :: ⟨0,[(30,-1),(7,1)]⟩ :: ⟨1048576,[(30,-1)]⟩ :: k2a),[],⟨0,[(30,-1),(7,1)]⟩⟩,.ann ⟨4,[(9,kb6),(45,k6p)],[],[(19,(.own [k9g,(.one k1x)] [])),(25,k9w),(22,k5b)],[],(k1u :: k2h :: ⟨0,[(24,1),(2,-1)]⟩ :: k8s :: k6o :: kf5 :: ⟨0,[(25,-1),(23,1)]⟩ :: ⟨0,[(23,-1),(7,1)]⟩ :: kdp :: ⟨0,[(24,-1),(3,1)]⟩ :: ⟨1048576,[(26,-1)]⟩ :: ⟨1048576,[(25,-1)]⟩ :: ⟨1048576,[(24,-1)]⟩ :: ⟨1048576,[(23,-1)]⟩ :: k1w :: k1v :: k2h :: kb5 :: kb4 :: kf4),[],⟨0,[(23,-1),(7,1)]⟩⟩,.ann ⟨2,[(14,k8q),(71,k4r)],[],[],[],(⟨0,[(36,1),(34,-1)]⟩ :: k4o :: k4p :: kew :: k8p :: k8o :: k4n),[],kew⟩]
theorem q16:cloQ Go.Proofs.Try.prog (q1s rl) [lem2] 1000 16 10 none argTy tape16=true:=by kernel_rfl
theorem l16:∀ l∈[lem2],q17 Go.Proofs.Try.prog l:=allL_mem ⟨z51,trivial⟩
def tape18:List LD:=[.lem 0,.ann ⟨1,[(18,kaj)],[],[(14,k43)],[],[k3x,⟨0,[(16,-1),(4,1)]⟩,kaa,ka9],[],⟨0,[(16,-1),(4,1)]⟩⟩,.ann ⟨1,[(49,kai)],[],[],[],[kag,⟨0,[(17,-1),(6,1)]⟩,kac,kab],[],⟨0,[(17,-1),(6,1)]⟩⟩,.ann ⟨1,[(8,k2n)],[],[],[],(k2m :: ⟨0,[(21,-1),(18,1)]⟩ :: k2l),[(.pre 18 k2m [kd])],⟨0,[(21,-1),(18,1)]⟩⟩,.ann ⟨1,[(13,kfs)],[],[(22,(.own [(.arr k1e [k0])] []))],[],(kda :: ⟨1,[(31,-1),(4,1)]⟩ :: kfr),[],⟨1,[(31,-1),(4,1)]⟩⟩,.rcur ⟨1,[(4,(.ptr 35 k3)),(3,(.ptr 27 k3)),(2,(.ptr 30 k3)),(1,k6h),(0,(.ptr 34 k3))],[],[(33,(.own [(.arr kda [kd])] [])),(34,(.own [(.one (.slo 33 k3 k4o kda))] []))],[],[k4o,⟨1,[(36,1)]⟩,kg5,⟨1,[(36,-1),(31,1)]⟩,⟨0,[(36,-1),(4,1)]⟩,k8n,⟨2,[(36,-1),(4,1)]⟩,k4o,kg5],[],kg5⟩ [⟨1,k6e,[],[(34,(.own [(.one (.slo 33 k3 k4h kda))] []))],[],[kcz,k4f,k4h,⟨1,[(37,1)]⟩,⟨0,[(37,-1),(31,1)]⟩,⟨1,[(37,-1),(31,1)]⟩,kf9,⟨1,[(37,-1),(4,1)]⟩,⟨2,[(37,-1),(4,1)]⟩,⟨6,[(37,-1)]⟩,k4h,⟨0,[(37,-1),(31,1)]⟩],[],k3⟩],kfn,kfm,kg4,kfl,kfk,kg1,kfj,.ann ⟨1,[(8,k5t)],[],[],[],(k5s :: ⟨0,[(45,-1),(36,1)]⟩ :: k5r),[],⟨0,[(45,-1),(36,1)]⟩⟩,kg3,kg4,kfh,kg3,kg1,kg2,.ann ⟨4,[(9,k5d),(45,k9p)],[],[kfd,(43,k9w),(40,k5b)],[],(k62 :: k66 :: ⟨0,[(42,1),(2,-1)]⟩ :: k5a :: k54 :: kez :: k71 :: k8f :: kfc),[],k8f⟩,kfb,kg2,kfz,kg1,kg1,kg0,kfz,kg1,kg0,kfz,.ann ⟨2,[(20,k4j)],[],[(34,(.own [(.one (.slo 33 k3 k5x kda))] []))],[],(⟨0,[(38,1),(36,-1)]⟩ :: ⟨0,[(38,-1),(36,1)]⟩ :: k5x :: k4h :: kf9 :: k5x :: ⟨0,[(38,-1),(31,1)]⟩ :: k4g),[],kf9⟩,.ann ⟨1,[(8,k5e)],[],[],[],(k58 :: kcy :: k51),[],kcy⟩]
theorem q18:cloQ Go.Proofs.Try.prog (q1s rl) [lem3] 1000 18 10 none argTy tape18=true:=by kernel_rfl
theorem l18:∀ l∈[lem3],q17 Go.Proofs.Try.prog l:=allL_mem ⟨z52,trivial⟩
def tape20:List LD:=[.lem 0,.ann ⟨1,[(18,k26)],[],[(12,k43)],[],[k23,k4c,k25,k24],[],k4c⟩,.ann ⟨1,[(49,k3n)],[],[],[],[k27,k49,k3l,k3k],[],k49⟩,.ann ⟨1,[(8,(.int .i64 k45))],[],[],[],(k45 :: ⟨0,[(19,-1),(16,1)]⟩ :: kg6),[k46],⟨0,[(19,-1),(16,1)]⟩⟩,.lem 1,.ann ⟨1,[],[],[(9,(.own [(.one k6p),(.one k21)] []))],[],(k6x :: k6o :: kf4),[],⟨0,[(23,-1),(22,1)]⟩⟩,.lem 3,.ann ⟨1,[],[],[(9,(.own [(.one k6p),(.one k2j)] []))],[],(k2g :: k2h :: k2i),[],k2h⟩,.lem 5,kf8]
theorem q20:cloQ Go.Proofs.Try.prog (q1s rl) [lem4,lem5,lem6,lem7,lem8,lem9] 1000 20 10 none argTy tape20=true:=by kernel_rfl
theorem l20:∀ l∈[lem4,lem5,lem6,lem7,lem8,lem9],q17 Go.Proofs.Try.prog l:=allL_mem ⟨qbm,qf5,qjl,qol,qwo,z53,trivial⟩
def tape23:List LD:=[.lem 0,kfy,kfx,.ann ⟨1,[(8,kah)],[],[],[],[k2o,kdj,kae,kad],[(.pre 15 k2o [kc])],kdj⟩,.lem 1,.lem 5,kf8,kf8,kf8,kf8,kf8,.ann ⟨2,[(6,kb6)],[],[(0,(.own (k9g :: k16) [])),(25,(.bld [(.int k3 ⟨6,[]⟩)] []))],[23],[k2h,k8s,kf5,⟨0,[(24,-1),(20,1)]⟩,⟨0,[(25,1),(24,-1),(23,-1)]⟩,⟨0,[(25,-1),(24,1),(23,1)]⟩,k2h,kb5,kb4],[],⟨0,[(24,-1),(20,1)]⟩⟩,kf8]
theorem q23:cloQ Go.Proofs.Try.prog (q1s rl) [lem10,lem11,lem12,lem13,lem14,lem15] 1000 23 26 (some 1) argTy tape23=true:=by kernel_rfl
theorem l23:∀ l∈[lem10,lem11,lem12,lem13,lem14,lem15],q17 Go.Proofs.Try.prog l:=allL_mem ⟨q8a,qaj,qdh,qji,qr2,z0j,trivial⟩
def tape28:List LD:=[.lem 0,.ann ⟨1,[(18,(.int .i64 k45))],[],[(17,k43)],[],(k45 :: kbf :: kg6),[],kbf⟩,.ann ⟨1,[(49,k9k)],[],[],[],(k3z :: kbc :: ka8),[],kbc⟩,.lem 1,.ann ⟨1,[(18,k2j)],[],[kbm],[],(k2h :: kc2 :: k2i),[],kc2⟩,.ann ⟨1,[(49,k1x)],[],[],[],[k1u,kbw,k1w,k1v],[],kbw⟩,.ann ⟨1,[(8,(.int .i64 kbp))],[],[],[],(kbp :: ⟨0,[(32,-1),(29,1)]⟩ :: kf0),[kbq],⟨0,[(32,-1),(29,1)]⟩⟩,.lem 2,.lem 3,.lem 7,.ann ⟨1,[(60,k4j)],[],[kct],[],k4i,[],k4f⟩,.lem 11,.ann ⟨2,[(6,(.sym 40)),(78,k5e)],[],[(40,k9e)],[],(k59 :: k58 :: ⟨268435456,[(40,-1)]⟩ :: ⟨0,[(40,-1),(39,1)]⟩ :: kcy :: k59 :: k51),[],kcy⟩,kf8,kf8,kf8,kf8,kf8,kf8,kf8,kf8,.ann ⟨2,[(6,k63)],[],[(0,(.own ((.one (.sym 45)) :: k16) [])),(45,kf7)],[43],(k5s :: k62 :: ⟨268435456,[(45,-1)]⟩ :: ⟨0,[(44,-1),(40,1)]⟩ :: ⟨0,[(45,1),(44,-1),(43,-1)]⟩ :: ⟨0,[(45,-1),(44,1),(43,1)]⟩ :: ⟨268435456,[(44,-1)]⟩ :: k5s :: k61),[],⟨0,[(44,-1),(40,1)]⟩⟩,kf8,kf8]
theorem q28:cloQ Go.Proofs.Try.prog (q1s rl) [lem16,lem17,lem18,lem19,lem20,lem21,lem22,lem23,lem24,lem25,lem26,lem27] 1000 28 30 (some 1) argTy tape28=true:=by kernel_rfl
theorem l28:∀ l∈[lem16,lem17,lem18,lem19,lem20,lem21,lem22,lem23,lem24,lem25,lem26,lem27],q17 Go.Proofs.Try.prog l:=allL_mem ⟨q2v,q3e,q3t,q4c,q5a,q6e,q8b,qak,qdi,qjj,qr3,z0k,trivial⟩
def tape31:List LD:=[.lem 0,kfq,kfp,.ann ⟨3,[(2,(.sym 17)),(5,kaj),(21,k3n)],[],[kd3],[],[kag,kaf,k27,⟨268435456,[(17,-1)]⟩,⟨0,[(15,-1),(14,1)]⟩,kds,⟨256,[(16,-1)]⟩,kag,kaa,ka9,k3l,k3k],[],⟨0,[(15,-1),(14,1)]⟩⟩,.ann ⟨2,[(2,(.sym 32)),(7,kfs)],[],[(32,(.bld kd2 []))],[],(kbp :: kda :: ke2 :: ke1 :: kde :: kbp :: kfr),[],kde⟩,.ann ⟨1,[(11,(.int .i64 kbh))],[],[],[],(kbh :: ker :: kf6),[],ker⟩,.ann ⟨2,[(20,k5y)],[],[kd8,kd7,(37,(.own [(.arr ⟨8,[]⟩ [(.int ka k58)])] []))],[],(k58 :: k5x :: kcw :: kcy :: k5v :: k58 :: k5w),[],k5v⟩,.lem 1,kg8,.lem 2,kg8,.lem 3,kg7,.lem 4,kg7,.lem 5,kf8,kf8,kf8,.ann ⟨2,[(6,k2n)],[],[(0,(.own ((.one (.sym 22)) :: k16) [])),(22,(.bld [(.int k3 ⟨256,[]⟩)] []))],[20],(k1z :: k2m :: ⟨268435456,[(22,-1)]⟩ :: ⟨0,[(21,-1),(17,1)]⟩ :: ⟨0,[(22,1),(21,-1),(20,-1)]⟩ :: ⟨0,[(22,-1),(21,1),(20,1)]⟩ :: k1z :: k2l),[],⟨0,[(21,-1),(17,1)]⟩⟩]
theorem q31:cloQ Go.Proofs.Try.prog (q1s rl) [lem1,lem28,lem29,lem30,lem31,lem32] 1000 31 33 (some 1) argTy tape31=true:=by kernel_rfl
theorem l31:∀ l∈[lem1,lem28,lem29,lem30,lem31,lem32],q17 Go.Proofs.Try.prog l:=allL_mem ⟨q9b,qal,qdj,qjk,qr4,z0l,trivial⟩
end
end Go.Proofs.KT
open Go Go.J
set_option maxRecDepth 4000
set_option maxHeartbeats 2000000
set_option linter.all false
namespace Go.Proofs.JT
theorem mixed:Try.prog.follows .mixedOrders=true:=by kernel_rfl
theorem tZ3:(Try.prog.info? 3).map (·.size)=some 1:=by kernel_rfl
theorem z8p:q1y Try.prog 90 0 0 3:=q1y.of (by kernel_rfl)
theorem z8q:q1y Try.prog 90 1 1 3:=q1y.of (by kernel_rfl)
theorem z8r:q1y Try.prog 90 2 2 3:=q1y.of (by kernel_rfl)
theorem tS27:Try.prog.underlying 27=some (.slice 3):=by kernel_rfl
theorem tS42:Try.prog.underlying 42=some (.slice 90):=by kernel_rfl
theorem tZ90:(Try.prog.info? 90).map (·.size)=some 3:=by kernel_rfl
theorem tC27:Cell Try.prog 27:=by unfold Cell; kernel_rfl
theorem tC42:Cell Try.prog 42:=by unfold Cell; kernel_rfl
theorem isf6:IsFn Try.prog 6 Try.f6 (q0k Try.f6):=⟨Try.func6,rfl,by kernel_rfl⟩
noncomputable abbrev C6(p:List Nat):Code:=sel (q0k Try.f6) p
theorem isf10:IsFn Try.prog 10 Try.f10 (q0k Try.f10):=⟨Try.func10,rfl,by kernel_rfl⟩
noncomputable abbrev C10(p:List Nat):Code:=sel (q0k Try.f10) p
theorem isf11:IsFn Try.prog 11 Try.f11 (q0k Try.f11):=⟨Try.func11,rfl,by kernel_rfl⟩
noncomputable abbrev C11(p:List Nat):Code:=sel (q0k Try.f11) p
theorem isf14:IsFn Try.prog 14 Try.f14 (q0k Try.f14):=⟨Try.func14,rfl,by kernel_rfl⟩
noncomputable abbrev C14(p:List Nat):Code:=sel (q0k Try.f14) p
theorem isf15:IsFn Try.prog 15 Try.f15 (q0k Try.f15):=⟨Try.func15,rfl,by kernel_rfl⟩
noncomputable abbrev C15(p:List Nat):Code:=sel (q0k Try.f15) p
theorem isf16:IsFn Try.prog 16 Try.f16 (q0k Try.f16):=⟨Try.func16,rfl,by kernel_rfl⟩
noncomputable abbrev C16(p:List Nat):Code:=sel (q0k Try.f16) p
theorem isf18:IsFn Try.prog 18 Try.f18 (q0k Try.f18):=⟨Try.func18,rfl,by kernel_rfl⟩
noncomputable abbrev C18(p:List Nat):Code:=sel (q0k Try.f18) p
theorem isf20:IsFn Try.prog 20 Try.f20 (q0k Try.f20):=⟨Try.func20,rfl,by kernel_rfl⟩
noncomputable abbrev C20(p:List Nat):Code:=sel (q0k Try.f20) p
theorem isf23:IsFn Try.prog 23 Try.f23 (q0k Try.f23):=⟨Try.func23,rfl,by kernel_rfl⟩
noncomputable abbrev C23(p:List Nat):Code:=sel (q0k Try.f23) p
theorem isf26:IsFn Try.prog 26 Try.f26 (q0k Try.f26):=⟨Try.func26,rfl,by kernel_rfl⟩
noncomputable abbrev C26(p:List Nat):Code:=sel (q0k Try.f26) p
theorem isf27:IsFn Try.prog 27 Try.f27 (q0k Try.f27):=⟨Try.func27,rfl,by kernel_rfl⟩
noncomputable abbrev C27(p:List Nat):Code:=sel (q0k Try.f27) p
theorem isf28:IsFn Try.prog 28 Try.f28 (q0k Try.f28):=⟨Try.func28,rfl,by kernel_rfl⟩
noncomputable abbrev C28(p:List Nat):Code:=sel (q0k Try.f28) p
theorem isf30:IsFn Try.prog 30 Try.f30 (q0k Try.f30):=⟨Try.func30,rfl,by kernel_rfl⟩
noncomputable abbrev C30(p:List Nat):Code:=sel (q0k Try.f30) p
theorem isf31:IsFn Try.prog 31 Try.f31 (q0k Try.f31):=⟨Try.func31,rfl,by kernel_rfl⟩
noncomputable abbrev C31(p:List Nat):Code:=sel (q0k Try.f31) p
theorem isf33:IsFn Try.prog 33 Try.f33 (q0k Try.f33):=⟨Try.func33,rfl,by kernel_rfl⟩
noncomputable abbrev C33(p:List Nat):Code:=sel (q0k Try.f33) p
theorem isf47:IsFn Try.prog 47 Try.f47 (q0k Try.f47):=⟨Try.func47,rfl,by kernel_rfl⟩
noncomputable abbrev C47(p:List Nat):Code:=sel (q0k Try.f47) p
theorem isf48:IsFn Try.prog 48 Try.f48 (q0k Try.f48):=⟨Try.func48,rfl,by kernel_rfl⟩
noncomputable abbrev C48(p:List Nat):Code:=sel (q0k Try.f48) p
theorem isf56:IsFn Try.prog 56 Try.f56 (q0k Try.f56):=⟨Try.func56,rfl,by kernel_rfl⟩
noncomputable abbrev C56(p:List Nat):Code:=sel (q0k Try.f56) p
theorem isf57:IsFn Try.prog 57 Try.f57 (q0k Try.f57):=⟨Try.func57,rfl,by kernel_rfl⟩
noncomputable abbrev C57(p:List Nat):Code:=sel (q0k Try.f57) p
theorem c10{g:AH}:q0n Try.prog 10 [] g (fun e g2=>e= .ret (.tuple [])∧g2=g):=by
 refine q0s (N:=0) (sl:=[]) isf10 rfl (zbl _) rfl ?_;refine q8p rfl ?_;refine q1a rfl ?_;exact⟨rfl,rfl⟩
theorem c57{h:AH}{i k m:Nat}(hw:WB h i m)(hk:k+1≤m):q0n Try.prog 57 [.ptr (some (i,k))] h (fun e h'=>e= .ret (.tuple [])∧LeM [i] h h'∧WB h' i m):=by
 refine q0s (N:=4) (sl:=[(0,_)]) isf57 rfl (by show 1≤4; decide) rfl ?_
 refine q1v (l:=[0,1,2]) rfl rfl ?_;refine q07 rfl rfl (q0w rfl rfl (by decide) rfl ?_)
 refine q07 rfl rfl (q29 rfl rfl (by decide) rfl ?_)
 refine q07 rfl rfl (z1y tZ3 rfl rfl rfl rfl rfl rfl hw (by omega) ?_)
 intro h' bt w;refine q0q ?_;refine q1a rfl ?_;exact⟨rfl,((LeM.refl [i] h).butM bt (by simp)),w⟩
theorem c48{h:AH}{i k m:Nat}(hw:WB h i m)(hk:k+3≤m):q0n Try.prog 48 [.ptr (some (i,k))] h (fun e h'=>e= .ret (.tuple [])∧LeM [i] h h'∧WB h' i m):=by
 refine q0s (N:=14) (sl:=[(0,_)]) isf48 rfl (by show 1≤14; decide) rfl ?_
 refine q1p (x:=C48 [0]) (y:=C48 [1]) rfl ?_;refine q1v (l:=[0,1,2,3]) rfl rfl ?_;refine q07 rfl rfl (q0w rfl rfl (by decide) rfl ?_)
 refine q07 rfl rfl (q29 rfl rfl (by decide) rfl ?_)
 refine q07 rfl rfl (q15 z8p tZ3 (by decide) rfl rfl (by decide) rfl ?_)
 refine q07 rfl rfl (q1h isf57 rfl rfl (by decide) rfl (c57 hw (by omega)) ?_)
 rintro e0 h0 ⟨rfl,l0,w0⟩;refine q0q ?_;refine q1p (x:=C48 [1,0]) (y:=C48 [1,1]) rfl ?_;refine q1v (l:=[0,1,2,3]) rfl rfl ?_;refine q07 rfl rfl (q0w rfl rfl (by decide) rfl ?_)
 refine q07 rfl rfl (q29 rfl rfl (by decide) rfl ?_)
 refine q07 rfl rfl (q15 z8q tZ3 (by decide) rfl rfl (by decide) rfl ?_)
 refine q07 rfl rfl (q1h isf57 rfl rfl (by decide) rfl (c57 w0 (by omega)) ?_)
 rintro e1 h1 ⟨rfl,l1,w1⟩;refine q0q ?_;refine q1v (l:=[0,1,2,3]) rfl rfl ?_;refine q07 rfl rfl (q0w rfl rfl (by decide) rfl ?_)
 refine q07 rfl rfl (q29 rfl rfl (by decide) rfl ?_)
 refine q07 rfl rfl (q15 z8r tZ3 (by decide) rfl rfl (by decide) rfl ?_)
 refine q07 rfl rfl (q1h isf57 rfl rfl (by decide) rfl (c57 w1 (by omega)) ?_)
 rintro e2 h2 ⟨rfl,l2,w2⟩;refine q0q ?_;refine q1a rfl ?_;exact⟨rfl,((l0.turnM l1 (by simp)).turnM l2 (by simp)),w2⟩
theorem c56{h:AH}{p:Option (Nat×Nat)}{n:Nat}{c:Cap}(hw:WL h p n 1)(hn:n≤1073741824):q0n Try.prog 56 [.slice p n c,.fn (.func 57) [] []] h (fun e h'=>e= .ret (.tuple [])∧LeQ p n h h'):=by
 refine q0s (N:=16) (sl:=[(0,_),(1,_)]) isf56 rfl (by show 2≤16; decide) rfl ?_
 refine q1p (x:=C56 [0]) (y:=C56 [1]) rfl ?_;refine q1v (l:=[0]) rfl rfl ?_;refine q07 rfl rfl (q1u rfl rfl (by decide) rfl ?_)
 refine q0q ?_;refine q4i (x:=C56 [1,0]) rfl ?_;refine z26 (x:=C56 [1,0,0]) (fun(x:Int) (g:AH)=>⟨[(0,.slice p n c),(1,.fn (.func 57) [] []),(4,.int .i64 x)],g,16,[]⟩) (fun(x:Int) (g:AH)=>0≤x∧x≤n∧LeQ p n h g∧WL g p n 1) (fun(x:Int) (g:AH)=>((n:Int) - x).toNat) 0 h rfl ⟨rfl,rfl,rfl,rfl,rfl,rfl,trivial⟩ ⟨by omega,by omega,.refl _ _ _,hw⟩ ?_
 intro x g hI;obtain⟨x0,x1,lp,wl⟩:0≤x∧x≤n∧LeQ p n h g∧WL g p n 1:=hI;show J _ _ (C56 [1,0,0]) ⟨[(0,.slice p n c),(1,.fn (.func 57) [] []),(4,.int .i64 x)],g,16,[]⟩ _;refine q1p (x:=C56 [1,0,0,0]) (y:=C56 [1,0,0,1]) rfl ?_;refine q1p (x:=C56 [1,0,0,0,0]) (y:=C56 [1,0,0,0,1]) rfl ?_;refine q1v (l:=[0,1,2,3]) rfl rfl ?_;refine q07 rfl rfl (q0w rfl rfl (by decide) rfl ?_)
 refine q07 rfl rfl (q0w rfl rfl (by decide) rfl ?_)
 refine q07 rfl rfl (qnh tS27 rfl rfl (by decide) rfl ?_)
 refine q07 rfl rfl (w_lt rfl rfl (by decide) rfl rfl ?_)
 refine q0q ?_;refine qjf (cx:=C56 [1,0,0,0,1,0]) (cy:=C56 [1,0,0,0,1,1]) rfl rfl (fun q=>?_) (fun q=>?_)
 · refine q8p rfl ?_
   refine q1p (x:=C56 [1,0,0,1,0]) (y:=C56 [1,0,0,1,1]) rfl ?_;refine q4i (x:=C56 [1,0,0,1,0,0]) rfl ?_;rcases wl with e | ⟨i,off,rfl,w⟩
   · omega
   refine q1v (l:=[0,1,2,3,4]) rfl rfl ?_;refine q07 rfl rfl (q0w rfl rfl (by decide) rfl ?_)
   refine q07 rfl rfl (q0w rfl rfl (by decide) rfl ?_)
   refine q07 rfl rfl (q0w rfl rfl (by decide) rfl ?_)
   refine q07 rfl rfl (q33 tS27 tZ3 rfl rfl (by decide) rfl rfl (by omega) ?_)
   refine q07 rfl rfl (qb3 rfl rfl (by decide) rfl rfl (q37 isf57 (c57 w (by omega))) ?_)
   rintro e2 h2 ⟨rfl,l2,w2⟩;refine q0q ?_;refine q1v (l:=[0,1,2]) rfl rfl ?_;refine q07 rfl rfl (q0w rfl rfl (by decide) rfl ?_)
   refine q07 rfl rfl (z1r rfl rfl (by decide) rfl rfl (by omega) ?_)
   refine q07 rfl rfl (q1u rfl rfl (by decide) rfl ?_)
   refine q0q ?_;exact⟨x+1,h2,⟨⟨by omega,by omega,lp.trans (l2.leQ (by omega)),.inr ⟨i,off,rfl,w2⟩⟩,by omega⟩,rfl,rfl,rfl,rfl,rfl,rfl,trivial⟩
 · refine qgv rfl ?_
   refine qct (qct (ql7 rfl ?_));refine q1a rfl ?_;exact⟨rfl,lp⟩
theorem c47{h:AH}{p:Option (Nat×Nat)}{n:Nat}{c:Cap}(hw:WL h p n 3)(hn:n≤1073741824):q0n Try.prog 47 [.slice p n c,.fn (.func 48) [] []] h (fun e h'=>e= .ret (.tuple [])∧LeQ p n h h'):=by
 refine q0s (N:=16) (sl:=[(0,_),(1,_)]) isf47 rfl (by show 2≤16; decide) rfl ?_
 refine q1p (x:=C47 [0]) (y:=C47 [1]) rfl ?_;refine q1v (l:=[0]) rfl rfl ?_;refine q07 rfl rfl (q1u rfl rfl (by decide) rfl ?_)
 refine q0q ?_;refine q4i (x:=C47 [1,0]) rfl ?_;refine z26 (x:=C47 [1,0,0]) (fun(x:Int) (g:AH)=>⟨[(0,.slice p n c),(1,.fn (.func 48) [] []),(4,.int .i64 x)],g,16,[]⟩) (fun(x:Int) (g:AH)=>0≤x∧x≤n∧LeQ p n h g∧WL g p n 3) (fun(x:Int) (g:AH)=>((n:Int) - x).toNat) 0 h rfl ⟨rfl,rfl,rfl,rfl,rfl,rfl,trivial⟩ ⟨by omega,by omega,.refl _ _ _,hw⟩ ?_
 intro x g hI;obtain⟨x0,x1,lp,wl⟩:0≤x∧x≤n∧LeQ p n h g∧WL g p n 3:=hI;show J _ _ (C47 [1,0,0]) ⟨[(0,.slice p n c),(1,.fn (.func 48) [] []),(4,.int .i64 x)],g,16,[]⟩ _;refine q1p (x:=C47 [1,0,0,0]) (y:=C47 [1,0,0,1]) rfl ?_;refine q1p (x:=C47 [1,0,0,0,0]) (y:=C47 [1,0,0,0,1]) rfl ?_;refine q1v (l:=[0,1,2,3]) rfl rfl ?_;refine q07 rfl rfl (q0w rfl rfl (by decide) rfl ?_)
 refine q07 rfl rfl (q0w rfl rfl (by decide) rfl ?_)
 refine q07 rfl rfl (qnh tS42 rfl rfl (by decide) rfl ?_)
 refine q07 rfl rfl (w_lt rfl rfl (by decide) rfl rfl ?_)
 refine q0q ?_;refine qjf (cx:=C47 [1,0,0,0,1,0]) (cy:=C47 [1,0,0,0,1,1]) rfl rfl (fun q=>?_) (fun q=>?_)
 · refine q8p rfl ?_
   refine q1p (x:=C47 [1,0,0,1,0]) (y:=C47 [1,0,0,1,1]) rfl ?_;refine q4i (x:=C47 [1,0,0,1,0,0]) rfl ?_;rcases wl with e | ⟨i,off,rfl,w⟩
   · omega
   refine q1v (l:=[0,1,2,3,4]) rfl rfl ?_;refine q07 rfl rfl (q0w rfl rfl (by decide) rfl ?_)
   refine q07 rfl rfl (q0w rfl rfl (by decide) rfl ?_)
   refine q07 rfl rfl (q0w rfl rfl (by decide) rfl ?_)
   refine q07 rfl rfl (q33 tS42 tZ90 rfl rfl (by decide) rfl rfl (by omega) ?_)
   refine q07 rfl rfl (qb3 rfl rfl (by decide) rfl rfl (q37 isf48 (c48 w (by omega))) ?_)
   rintro e2 h2 ⟨rfl,l2,w2⟩;refine q0q ?_;refine q1v (l:=[0,1,2]) rfl rfl ?_;refine q07 rfl rfl (q0w rfl rfl (by decide) rfl ?_)
   refine q07 rfl rfl (z1r rfl rfl (by decide) rfl rfl (by omega) ?_)
   refine q07 rfl rfl (q1u rfl rfl (by decide) rfl ?_)
   refine q0q ?_;exact⟨x+1,h2,⟨⟨by omega,by omega,lp.trans (l2.leQ (by omega)),.inr ⟨i,off,rfl,w2⟩⟩,by omega⟩,rfl,rfl,rfl,rfl,rfl,rfl,trivial⟩
 · refine qgv rfl ?_
   refine qct (qct (ql7 rfl ?_));refine q1a rfl ?_;exact⟨rfl,lp⟩
theorem c27{h:AH}{b:Nat}{p:Option (Nat×Nat)}{n:Nat}{c:Cap}(ob:Own h b [.slice p n c])(hw:WL h p n 1)(hn:n≤1073741824):q0n Try.prog 27 [.ptr (some (b,0))] h (fun e h'=>e= .ret (.tuple [])∧LeQ p n h h'):=by
 refine q0s (N:=6) (sl:=[(0,_)]) isf27 rfl (by show 1≤6; decide) rfl ?_
 refine q1v (l:=[0,1,2,3]) rfl rfl ?_;refine q07 rfl rfl (q0w rfl rfl (by decide) rfl ?_)
 refine q07 rfl rfl (q29 rfl rfl (by decide) rfl ?_)
 refine q07 rfl rfl (q7s tC27 rfl rfl (by decide) rfl ob.cells rfl ?_)
 refine q07 rfl rfl (q1h isf56 rfl rfl (by decide) rfl (c56 hw hn) ?_)
 rintro e1 h1 ⟨rfl,l1⟩;refine q0q ?_;refine q1a rfl ?_;exact⟨rfl,l1⟩
theorem c15{h:AH}{b:Nat}{p:Option (Nat×Nat)}{n:Nat}{c:Cap}(ob:Own h b [.slice p n c])(hw:WL h p n 3)(hn:n≤1073741824):q0n Try.prog 15 [.ptr (some (b,0))] h (fun e h'=>e= .ret (.tuple [])∧LeQ p n h h'):=by
 refine q0s (N:=6) (sl:=[(0,_)]) isf15 rfl (by show 1≤6; decide) rfl ?_
 refine q1v (l:=[0,1,2,3]) rfl rfl ?_;refine q07 rfl rfl (q0w rfl rfl (by decide) rfl ?_)
 refine q07 rfl rfl (q29 rfl rfl (by decide) rfl ?_)
 refine q07 rfl rfl (q7s tC42 rfl rfl (by decide) rfl ob.cells rfl ?_)
 refine q07 rfl rfl (q1h isf47 rfl rfl (by decide) rfl (c47 hw hn) ?_)
 rintro e1 h1 ⟨rfl,l1⟩;refine q0q ?_;refine q1a rfl ?_;exact⟨rfl,l1⟩
theorem c26{h:AH}{b:Nat}{p:Option (Nat×Nat)}{n:Nat}{c:Cap}(ob:Own h b [.slice p n c])(hw:WL h p n 1)(hn:n≤1073741824):q0n Try.prog 26 [.ptr (some (b,0))] h (fun e h'=>e= .ret (.tuple [])∧LeQ p n h h'):=by
 refine q0s (N:=2) (sl:=[(0,_)]) isf26 rfl (by show 1≤2; decide) rfl ?_
 refine q1v (l:=[0]) rfl rfl ?_;refine q07 rfl rfl (q1h isf27 rfl rfl (by decide) rfl (c27 ob hw hn) ?_)
 rintro e1 h1 ⟨rfl,l1⟩;refine q0q ?_;refine q1a rfl ?_;exact⟨rfl,l1⟩
theorem c30{h:AH}{b:Nat}{p:Option (Nat×Nat)}{n:Nat}{c:Cap}(ob:Own h b [.slice p n c])(hw:WL h p n 1)(hn:n≤1073741824):q0n Try.prog 30 [.ptr (some (b,0))] h (fun e h'=>e= .ret (.tuple [])∧LeQ p n h h'):=by
 refine q0s (N:=2) (sl:=[(0,_)]) isf30 rfl (by show 1≤2; decide) rfl ?_
 refine q1v (l:=[0]) rfl rfl ?_;refine q07 rfl rfl (q1h isf27 rfl rfl (by decide) rfl (c27 ob hw hn) ?_)
 rintro e1 h1 ⟨rfl,l1⟩;refine q0q ?_;refine q1a rfl ?_;exact⟨rfl,l1⟩
theorem c33{h:AH}{b:Nat}{p:Option (Nat×Nat)}{n:Nat}{c:Cap}(ob:Own h b [.slice p n c])(hw:WL h p n 1)(hn:n≤1073741824):q0n Try.prog 33 [.ptr (some (b,0))] h (fun e h'=>e= .ret (.tuple [])∧LeQ p n h h'):=by
 refine q0s (N:=2) (sl:=[(0,_)]) isf33 rfl (by show 1≤2; decide) rfl ?_
 refine q1v (l:=[0]) rfl rfl ?_;refine q07 rfl rfl (q1h isf27 rfl rfl (by decide) rfl (c27 ob hw hn) ?_)
 rintro e1 h1 ⟨rfl,l1⟩;refine q0q ?_;refine q1a rfl ?_;exact⟨rfl,l1⟩
theorem c14{h:AH}{b:Nat}{p:Option (Nat×Nat)}{n:Nat}{c:Cap}(ob:Own h b [.slice p n c])(hw:WL h p n 3)(hn:n≤1073741824):q0n Try.prog 14 [.ptr (some (b,0))] h (fun e h'=>e= .ret (.tuple [])∧LeQ p n h h'):=by
 refine q0s (N:=2) (sl:=[(0,_)]) isf14 rfl (by show 1≤2; decide) rfl ?_
 refine q1v (l:=[0]) rfl rfl ?_;refine q07 rfl rfl (q1h isf15 rfl rfl (by decide) rfl (c15 ob hw hn) ?_)
 rintro e1 h1 ⟨rfl,l1⟩;refine q0q ?_;refine q1a rfl ?_;exact⟨rfl,l1⟩
theorem c6{G M:AH}{b xb:Nat}{cells:List AV}(ga:Go.K.ArgOk G Go.Proofs.KT.argTy cells)(gw:G.wf)(mb:G.next≤b)(kG:∀ i c,G.get i=some c→M.get i=some c)(mn:G.next≤M.next)(ob:Own M b Go.K.Zb)(gx:Own G xb cells):JApp Try.prog (.fn (.func 6) [] [.ptr (some (xb,0))]) [.ptr (some (b,0))] M (fun e H=> ∃ w,e= .ret w∧Puts Try.prog M b H w):=
 Go.K.clo_puts Go.Proofs.KT.l6 mixed isf6 Go.Proofs.KT.q6 (fun g=>q37 isf10 c10) ga gw mb kG mn ob gx
theorem c11{G M:AH}{b xb:Nat}{cells:List AV}(ga:Go.K.ArgOk G Go.Proofs.KT.argTy cells)(gw:G.wf)(mb:G.next≤b)(kG:∀ i c,G.get i=some c→M.get i=some c)(mn:G.next≤M.next)(ob:Own M b Go.K.Zb)(gx:Own G xb cells):JApp Try.prog (.fn (.func 11) [] [.ptr (some (xb,0))]) [.ptr (some (b,0))] M (fun e H=> ∃ w,e= .ret w∧Puts Try.prog M b H w):=
 Go.K.clo_puts Go.Proofs.KT.l11 mixed isf11 Go.Proofs.KT.q11 (fun g bx p n c og wg hn=>q37 isf14 (c14 og wg hn)) ga gw mb kG mn ob gx
theorem c16{G M:AH}{b xb:Nat}{cells:List AV}(ga:Go.K.ArgOk G Go.Proofs.KT.argTy cells)(gw:G.wf)(mb:G.next≤b)(kG:∀ i c,G.get i=some c→M.get i=some c)(mn:G.next≤M.next)(ob:Own M b Go.K.Zb)(gx:Own G xb cells):JApp Try.prog (.fn (.func 16) [] [.ptr (some (xb,0))]) [.ptr (some (b,0))] M (fun e H=> ∃ w,e= .ret w∧Puts Try.prog M b H w):=
 Go.K.clo_puts Go.Proofs.KT.l16 mixed isf16 Go.Proofs.KT.q16 (fun g=>q37 isf10 c10) ga gw mb kG mn ob gx
theorem c18{G M:AH}{b xb:Nat}{cells:List AV}(ga:Go.K.ArgOk G Go.Proofs.KT.argTy cells)(gw:G.wf)(mb:G.next≤b)(kG:∀ i c,G.get i=some c→M.get i=some c)(mn:G.next≤M.next)(ob:Own M b Go.K.Zb)(gx:Own G xb cells):JApp Try.prog (.fn (.func 18) [] [.ptr (some (xb,0))]) [.ptr (some (b,0))] M (fun e H=> ∃ w,e= .ret w∧Puts Try.prog M b H w):=
 Go.K.clo_puts Go.Proofs.KT.l18 mixed isf18 Go.Proofs.KT.q18 (fun g=>q37 isf10 c10) ga gw mb kG mn ob gx
theorem c20{G M:AH}{b xb:Nat}{cells:List AV}(ga:Go.K.ArgOk G Go.Proofs.KT.argTy cells)(gw:G.wf)(mb:G.next≤b)(kG:∀ i c,G.get i=some c→M.get i=some c)(mn:G.next≤M.next)(ob:Own M b Go.K.Zb)(gx:Own G xb cells):JApp Try.prog (.fn (.func 20) [] [.ptr (some (xb,0))]) [.ptr (some (b,0))] M (fun e H=> ∃ w,e= .ret w∧Puts Try.prog M b H w):=
 Go.K.clo_puts Go.Proofs.KT.l20 mixed isf20 Go.Proofs.KT.q20 (fun g=>q37 isf10 c10) ga gw mb kG mn ob gx
theorem c23{G M:AH}{b xb:Nat}{cells:List AV}(ga:Go.K.ArgOk G Go.Proofs.KT.argTy cells)(gw:G.wf)(mb:G.next≤b)(kG:∀ i c,G.get i=some c→M.get i=some c)(mn:G.next≤M.next)(ob:Own M b Go.K.Zb)(gx:Own G xb cells):JApp Try.prog (.fn (.func 23) [] [.ptr (some (xb,0))]) [.ptr (some (b,0))] M (fun e H=> ∃ w,e= .ret w∧Puts Try.prog M b H w):=
 Go.K.clo_puts Go.Proofs.KT.l23 mixed isf23 Go.Proofs.KT.q23 (fun g bx p n c og wg hn=>q37 isf26 (c26 og wg hn)) ga gw mb kG mn ob gx
theorem c28{G M:AH}{b xb:Nat}{cells:List AV}(ga:Go.K.ArgOk G Go.Proofs.KT.argTy cells)(gw:G.wf)(mb:G.next≤b)(kG:∀ i c,G.get i=some c→M.get i=some c)(mn:G.next≤M.next)(ob:Own M b Go.K.Zb)(gx:Own G xb cells):JApp Try.prog (.fn (.func 28) [] [.ptr (some (xb,0))]) [.ptr (some (b,0))] M (fun e H=> ∃ w,e= .ret w∧Puts Try.prog M b H w):=
 Go.K.clo_puts Go.Proofs.KT.l28 mixed isf28 Go.Proofs.KT.q28 (fun g bx p n c og wg hn=>q37 isf30 (c30 og wg hn)) ga gw mb kG mn ob gx
theorem c31{G M:AH}{b xb:Nat}{cells:List AV}(ga:Go.K.ArgOk G Go.Proofs.KT.argTy cells)(gw:G.wf)(mb:G.next≤b)(kG:∀ i c,G.get i=some c→M.get i=some c)(mn:G.next≤M.next)(ob:Own M b Go.K.Zb)(gx:Own G xb cells):JApp Try.prog (.fn (.func 31) [] [.ptr (some (xb,0))]) [.ptr (some (b,0))] M (fun e H=> ∃ w,e= .ret w∧Puts Try.prog M b H w):=
 Go.K.clo_puts Go.Proofs.KT.l31 mixed isf31 Go.Proofs.KT.q31 (fun g bx p n c og wg hn=>q37 isf33 (c33 og wg hn)) ga gw mb kG mn ob gx
end Go.Proofs.JT
