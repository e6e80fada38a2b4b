/- Part 21: Apart1, IsoPut, IsoLook. Conditions: as each part says. -/
import Derived.Test.YtlcbipfmodcedaaGreatDoorFrm11
import Derived.Test.YtlcbipfmodcedaaGreatDoorFrm18
import Derived.Test.YtlcbipfmodcedaaGreatDoorFrm19
import Derived.Test.YtlcbipfmodcedaaGreatDoorFrm20
set_option linter.unusedVariables false
set_option linter.unusedSimpArgs false
set_option maxRecDepth 20000
set_option maxHeartbeats 8000000
namespace Go.Proofs.YtlcbipfmodcedaaGreatDoor
open Go.Sx Go.Our
abbrev ZQ(l:List Qd):List LB:=wj cmpL (Zz l)
abbrev qb(m:List (LB×Int)):List (List SV):=Up KT jC m
theorem Hl(m:List (LB×Int)):Zj (qb m)=true:=DT KT _ (fun _=>rfl) m
instance {m:List (LB×Int)}:Pl (qb m):=⟨Hl m⟩
theorem B3{x:LB}{v:Int}{m:List (LB×Int)}:jZ (false,[CK.str]) (je (SV.str x)) (SV.int .i64 v) (qb m)=qb (wM x v m):=DR KT jC x v m
theorem B4{x:LB}{v:Int}{m:List (LB×Int)}:jZ (false,[CK.str]) (je (SV.str x)) (YG (.int .i64 v)) (qb m)=qb (wM x v m):=DR KT jC x v m
def Xd(v:Int)(l:List LB)(m:List (LB×Int)):List (LB×Int):=l.foldl (fun m x=>wM x v m) m
theorem LK(v:Int)(z:LB):∀(l:List LB) (m:List (LB×Int)),wL z (Xd v l m)=if z∈l then some v else wL z m
 | [],m=>by simp[Xd]
 |x::l,m=>by
  unfold Xd;rw[List.foldl_cons];have:=LK v z l (wM x v m);unfold Xd at this;rw[this,Kr];by_cases h:z∈l
  simp[h]
  .by_cases e:z=x
   simp[e];simp[h,e]
theorem Z9O{v:Int}{l:List LB}{m:List (LB×Int)}{i:Nat}(h:i<l.length):Xd v (l.take (i+1)) m=wM l[i] v (Xd v (l.take i) m):=by
 unfold Xd;rw[zH h,vh];rfl
end Go.Proofs.YtlcbipfmodcedaaGreatDoor
namespace Go.Proofs.YtlcbipfmodcedaaGreatDoor
open Go.Sx Go.Our
def Zg(n:Int):List SV:=[.int .i64 n]
theorem Vp(l:List Int):Zj (l.map Zg)=true:=ZD _ (fun _=>rfl) l
instance :dZ Zg:=⟨fun _=>rfl⟩
def fA(m:List (LB×Int))(x:LB):Int:=(wL x m).getD 0
def B5(f:LB->Int)(q:Qd)(k:Nat):List Int:=((nY q).take k).foldl (DX f) []
structure PX where
 k:Nat
 a:Int
 b:Int
 c:Int
 d:Int
 own:List Int
structure z5b(f:LB->Int)(q:Qd)(x:PX):Prop where
 k:x.k<=4
 a:0<x.k->x.a=mM f q.s
 b:1<x.k->x.b=mM f q.p
 c:2<x.k->x.c=mM f q.o
 d:3<x.k->x.d=mM f q.g
 own:x.own=B5 f q x.k
theorem G1{m:List (LB×Int)}{x:LB}{i:Nat}{v:Int}(h:jb x m=some (i,v)):fA m x=v:=by unfold fA;rw[Kq h];rfl
theorem Zk8(l:List Int)(v:Int){n:Nat}(hn:n=l.length):List.take n (l.map Zg)++List.take 1 (List.drop 0 [[SV.int .i64 v]])=(l++ [v]).map Zg:=by
 subst hn;rw[zg (by simp)];simp[Zg]
theorem Ho{rs:List (List DC)}{r:Nat}{d:DC}{sv:SV}(h:rs[r]?=some [d]):ot (uB rs r 0 (.v sv)) r 0=some (r, .v sv):=by
 unfold ot;rw[Yl,zf rfl,h];rfl
def Xr(b:Int)(A:List LB):Nat->List (LB×Int)
 |0=>[]
 |i+1=>match A[i]? with
  |some x=>wM x (b+i) (Xr b A i)
  |none=>Xr b A i
theorem Bc{b:Int}{A:List LB}{i:Nat}(h:i<A.length):Xr b A (i+1)=wM A[i] (b+i) (Xr b A i):=by
 rw[Xr,z1 h]
theorem tQ{b:Int}{A:List LB}(hn:A.Nodup):∀(n:Nat) (x:LB),n<=A.length->wL x (Xr b A n)=if h:A.idxOf x<n then some (b+(A.idxOf x:Nat))else none
 |0,x,_=>by simp[Xr,wL]
 |n+1,x,h=>by
  rw[Bc (by omega),Kr,tQ hn n x (by omega)];have hidx:A.idxOf A[n]=n:=hn.idxOf_getElem n (by omega);by_cases e:x=A[n]
  .subst e;rw[zf rfl,yp (by omega),hidx]
  .rw[z7 e]
   have hne:A.idxOf x≠n:=fun h2=>e (by
    have hlt:A.idxOf x<A.length:=by omega
    have:=yI hlt
    rw[<-this];congr 1)
   by_cases h3:A.idxOf x<n
   rw[yp h3,yp (by omega)];rw[yQ h3,yQ (by omega)]
def oJ(b:Int)(A:List LB)(x:LB):Int:=if x∈A then b+(A.idxOf x:Nat)else 0
theorem G2{b:Int}{A:List LB}(hn:A.Nodup):fA (Xr b A A.length)=oJ b A:=by
 funext x;unfold fA oJ;rw[tQ hn _ x (zo _)];by_cases h:x∈A
 rw[yp (y7 h),zf h];rfl;rw[yQ (by rw[List.idxOf_lt_length_iff];exact h),z7 h];rfl
theorem Zka(G:List Qd)(q:Qd){n:Nat}(hn:n=G.length):List.take n (G.map Z3)++List.take 1 (List.drop 0 [[.int .i64 q.s.k, .str q.s.t, .str q.s.y, .str q.s.l, .int .i64 q.p.k, .str q.p.t, .str q.p.y, .str q.p.l, .int .i64 q.o.k, .str q.o.t, .str q.o.y, .str q.o.l, .int .i64 q.g.k, .str q.g.t, .str q.g.y, .str q.g.l]])=(G++ [q]).map Z3:=by
 subst hn;rw[zg (by simp),yz]
 rfl
theorem Uw{l c:Int}{b:Nat}(B:Nat)(hb:Nat.ble b B=true)(h1:0<=l)(h2:l<=c)(h3:c<=9223372036854775807)(h4:B*c<=281474976710656):0<=l/\l<=c/\c<=9223372036854775807/\(b:Int)*c<=281474976710656:=
 ⟨h1,h2,h3,Int.le_trans (v8 (by exact_mod_cast zU hb) (Int.le_trans h1 h2)) h4⟩
end Go.Proofs.YtlcbipfmodcedaaGreatDoor
