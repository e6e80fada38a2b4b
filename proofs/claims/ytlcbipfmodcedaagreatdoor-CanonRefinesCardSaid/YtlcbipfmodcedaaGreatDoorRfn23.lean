/- Part 23: Apart1, IsoPut, IsoLook. Conditions: as each part says. -/
import Derived.Test.YtlcbipfmodcedaaGreatDoorRfn13
import Derived.Test.YtlcbipfmodcedaaGreatDoorRfn20
import Derived.Test.YtlcbipfmodcedaaGreatDoorRfn21
import Derived.Test.YtlcbipfmodcedaaGreatDoorRfn22
set_option linter.unusedVariables false
set_option linter.unusedSimpArgs false
set_option maxRecDepth 20000
set_option maxHeartbeats 8000000
namespace Go.Proofs.YtlcbipfmodcedaaGreatDoor
open Go.Sx Go.Our
abbrev Y1(l:List Qd):List LB:=setL cmpL (ZR l)
abbrev numT(m:List (LB×Int)):List (List SV):=Um KT intV m
theorem Z0J(m:List (LB×Int)):Zh (numT m)=true:=Z8D KT _ (fun _=>rfl) m
instance {m:List (LB×Int)}:Pl (numT m):=⟨Z0J m⟩
theorem ZfP{x:LB}{v:Int}{m:List (LB×Int)}:setM (false,[CK.str]) (flKey (SV.str x)) (SV.int .i64 v) (numT m)=numT (setA x v m):=ZcI KT intV x v m
theorem ZfQ{x:LB}{v:Int}{m:List (LB×Int)}:setM (false,[CK.str]) (flKey (SV.str x)) (X4 (.int .i64 v)) (numT m)=numT (setA x v m):=ZcI KT intV x v m
def Vu(v:Int)(l:List LB)(m:List (LB×Int)):List (LB×Int):=l.foldl (fun m x=>setA x v m) m
end Go.Proofs.YtlcbipfmodcedaaGreatDoor
namespace Go.Proofs.YtlcbipfmodcedaaGreatDoor
open Go.Sx Go.Our
def Zk(n:Int):List SV:=[.int .i64 n]
theorem VL(l:List Int):Zh (l.map Zk)=true:=Zz _ (fun _=>rfl) l
instance :PlF Zk:=⟨fun _=>rfl⟩
def fA(m:List (LB×Int))(x:LB):Int:=(getA x m).getD 0
def ownK(f:LB->Int)(q:Qd)(k:Nat):List Int:=((VW q).take k).foldl (ownT f) []
structure PX where
 k:Nat
 a:Int
 b:Int
 c:Int
 d:Int
 own:List Int
structure PInv(f:LB->Int)(q:Qd)(x:PX):Prop where
 k:x.k<=4
 a:0<x.k->x.a=numM f q.s
 b:1<x.k->x.b=numM f q.p
 c:2<x.k->x.c=numM f q.o
 d:3<x.k->x.d=numM f q.g
 own:x.own=ownK f q x.k
theorem VM{m:List (LB×Int)}{x:LB}{i:Nat}{v:Int}(h:ixA x m=some (i,v)):fA m x=v:=by unfold fA;rw[Z0y h];rfl
theorem Zi5(l:List Int)(v:Int){n:Nat}(hn:n=l.length):List.take n (l.map Zk)++List.take 1 (List.drop 0 [[SV.int .i64 v]])=(l++ [v]).map Zk:=by
 subst hn;rw[List.take_of_length_le (by simp)];simp[Zk]
theorem YG{rs:List (List DC)}{r:Nat}{d:DC}{sv:SV}(h:rs[r]?=some [d]):Z0T (setC rs r 0 (.v sv)) r 0=some (r, .v sv):=by
 unfold Z0T;rw[Yj,if_pos rfl,h];rfl
def Xs(b:Int)(A:List LB):Nat->List (LB×Int)
 |0=>[]
 |i+1=>match A[i]? with
  |some x=>setA x (b+i) (Xs b A i)
  |none=>Xs b A i
theorem Z6a{b:Int}{A:List LB}{i:Nat}(h:i<A.length):Xs b A (i+1)=setA A[i] (b+i) (Xs b A i):=by
 rw[Xs,List.getElem?_eq_getElem h]
theorem JJ{b:Int}{A:List LB}(hn:A.Nodup):∀(n:Nat) (x:LB),n<=A.length->getA x (Xs b A n)=if h:A.idxOf x<n then some (b+(A.idxOf x:Nat))else none
 |0,x,_=>by simp[Xs,getA]
 |n+1,x,h=>by
  rw[Z6a (by omega),Z2k,JJ hn n x (by omega)];have hidx:A.idxOf A[n]=n:=hn.idxOf_getElem n (by omega);by_cases e:x=A[n]
  ·subst e;rw[if_pos rfl,dif_pos (by omega),hidx]
  ·rw[if_neg e]
   have hne:A.idxOf x≠n:=fun h2=>e (by
    have hlt:A.idxOf x<A.length:=by omega
    have:=List.getElem_idxOf hlt
    rw[<-this];congr 1)
   by_cases h3:A.idxOf x<n
   ·rw[dif_pos h3,dif_pos (by omega)]
   ·rw[dif_neg h3,dif_neg (by omega)]
def ixF(b:Int)(A:List LB)(x:LB):Int:=if x∈A then b+(A.idxOf x:Nat)else 0
theorem Zag{b:Int}{A:List LB}(hn:A.Nodup):fA (Xs b A A.length)=ixF b A:=by
 funext x;unfold fA ixF;rw[JJ hn _ x (Nat.le_refl _)];by_cases h:x∈A
 ·rw[dif_pos (List.idxOf_lt_length_of_mem h),if_pos h];rfl
 ·rw[dif_neg (by rw[List.idxOf_lt_length_iff];exact h),if_neg h];rfl
theorem Zi7(G:List Qd)(q:Qd){n:Nat}(hn:n=G.length):List.take n (G.map Zd)++List.take 1 (List.drop 0 [[.int .i64 q.s.k, .str q.s.t, .str q.s.y, .str q.s.l, .int .i64 q.p.k, .str q.p.t, .str q.p.y, .str q.p.l, .int .i64 q.o.k, .str q.o.t, .str q.o.y, .str q.o.l, .int .i64 q.g.k, .str q.g.t, .str q.g.y, .str q.g.l]])=(G++ [q]).map Zd:=by
 subst hn;rw[List.take_of_length_le (by simp),List.map_append]
 rfl
theorem Ur{l c:Int}{b:Nat}(B:Nat)(hb:Nat.ble b B=true)(h1:0<=l)(h2:l<=c)(h3:c<=9223372036854775807)(h4:B*c<=281474976710656):0<=l/\l<=c/\c<=9223372036854775807/\(b:Int)*c<=281474976710656:=
 ⟨h1,h2,h3,Int.le_trans (Int.mul_le_mul_of_nonneg_right (by exact_mod_cast Nat.le_of_ble_eq_true hb) (Int.le_trans h1 h2)) h4⟩
end Go.Proofs.YtlcbipfmodcedaaGreatDoor
