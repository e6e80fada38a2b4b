/- Part 1: SxDef, SxRun, SxLaws, SxOpsA, SxOpsB, SxOpsC, SxOpsD, SxOpsE, SxOpsF, SxOpsG, SxOpsH, SxOpsM, SxDeep. Conditions: as each part says. -/
import Derived.WalkKit
import Derived.Scope
import Derived.KernelRfl
import Derived.Below
import Derived.Lib.FrozenHead
import Derived.TacticsIn
import Derived.OrdersIn
import Derived.RangeFuncRecord
import Derived.Laws.CopyRow
import Derived.Laws.MakeOwn
set_option linter.unusedVariables false
namespace Go.Sx
open Go
inductive Blk where
 |glob (g:Nat)
 |loc (i:Nat)
inductive SV where
 |bool (b:Bool)
 |int (k:IntKind) (n:Int)
 |str (s:List UInt8)
 |ptr (b:Blk) (r es c:Nat)
 |sl (b:Blk) (r es len:Nat) (lim:Option Nat)
 |val (v:Value)
 |agg (cs:List SV)
 |arr (es:Nat) (rs:List (List SV))
 |tup (vs:List SV)
 |ifc (t:TypeId) (v:SV)
 |fn (f:Fn) (first cap:List SV)
 |mp (b:Blk)
 |yf (b:Blk)
 |dfs (l:List SV)
 |nb (n:Nat)
 |any
structure LpI where
 N:Nat
 ps:List Nat
 asg:Code
 body:Code
inductive LpS where
 |ready|busy|left (jump:Option Nat)
inductive DC where
 |v (s:SV)
 |kid (es:Nat) (rows:List (List SV))
inductive Hp where
 |box (row:List SV)
 |rows (es:Nat) (rs:List (List SV))
 |siter (s:List UInt8) (pos:Nat)
 |tbl (vs:List Value)
 |bld (T e:TypeId) (l:List UInt8)
 |mp (rs:List (List SV))
 |dfr (far:List Nat)
 |lp (st:LpS) (li:LpI) (fr:List (Nat×SV))
 |deep (mp:Bool) (es:Nat) (rs:List (List DC))
mutual
def plain:SV->Bool
 | .bool _| .int _ _| .str _| .val _| .any| .nb _=>true
 | .ptr (.glob _) _ _ _=>true
 | .ptr (.loc _) _ _ _=>false
 | .sl (.glob _) _ _ _ _=>true
 | .sl (.loc _) _ _ _ _=>false
 | .agg cs=>YK cs
 | .arr _ rs=>Zh rs
 | .tup vs=>YK vs
 | .ifc _ v=>plain v
 | .fn _ a b=>YK a&&YK b
 | .mp (.glob _)=>true
 | .mp (.loc _)=>false
 | .yf _=>false
 | .dfs _=>false
def YK:List SV->Bool
 | []=>true
 |c::cs=>plain c&&YK cs
def Zh:List (List SV)->Bool
 | []=>true
 |r::rs=>YK r&&Zh rs
end
def Z4w:List (Nat×SV)->Bool
 | []=>true
 |(_,v)::r=>plain v&&Z4w r
def JL:DC->Bool
 | .v s=>plain s
 | .kid _ rs=>Zh rs
def Ys:List DC->Bool
 | []=>true
 |c::cs=>JL c&&Ys cs
def Zt:List (List DC)->Bool
 | []=>true
 |r::rs=>Ys r&&Zt rs
def JW:Hp->Bool
 | .box row=>YK row
 | .rows _ rs=>Zh rs
 | .siter _ _=>true
 | .tbl _=>true
 | .bld _ _ _=>true
 | .mp rs=>Zh rs
 | .dfr _=>true
 | .lp _ _ fr=>Z4w fr
 | .deep _ _ rs=>Zt rs
inductive Sh where
 |int (k:IntKind)|bool|str
 |ptr (e:TypeId)|slice (e:TypeId)|array (n:Nat) (e:TypeId)
 |struct (fs:List (Nat×TypeId))
 |map (k e:TypeId)|iface|func|plain|other
inductive CK where
 |int (k:IntKind)|str|bool
structure Tab where
 sh:TypeId->Sh
 size:TypeId->Nat
 zero:TypeId->List SV
 bytes:TypeId->Nat
 flat:TypeId->Option (List CK)
 globs:List (Nat×Hp):=[]
 bld:Option (TypeId×TypeId):=none
 key:TypeId->Option (Bool×List CK):=fun _=>none
 gplain:(globs.all fun p=>JW p.2)=true:=by rfl
def lkp{α:Type}(t:Nat):List (Nat×α)->Option α
 | []=>none
 |(d,v)::r=>match Nat.beq t d with|true=>some v|false=>lkp t r
def WU:Blk->Blk->Bool
 | .glob a, .glob b=>Nat.beq a b
 | .loc a, .loc b=>Nat.beq a b
 |_,_=>false
def lkpB{α:Type}(b:Blk):List (Blk×α)->Option α
 | []=>none
 |(d,v)::r=>match WU b d with|true=>some v|false=>lkpB b r
def setK{α:Type}(t:Nat)(v:α):List (Nat×α)->List (Nat×α)
 | []=>[]
 |(d,u)::r=>match Nat.beq t d with|true=>(d,v)::r|false=>(d,u)::setK t v r
def delK{α:Type}(t:Nat):List (Nat×α)->List (Nat×α)
 | []=>[]
 |(d,u)::r=>match Nat.beq t d with|true=>delK t r|false=>(d,u)::delK t r
def nth{α:Type}:List α->Nat->Option α
 | [],_=>none
 |x::_,0=>some x
 |_::r,n+1=>nth r n
def XU:IntKind->IntKind->Bool
 | .i8, .i8| .i16, .i16| .i32, .i32| .i64, .i64| .u8, .u8| .u16, .u16| .u32, .u32| .u64, .u64=>true
 |_,_=>false
def iAnd(k:IntKind)(a b:Int):Int:=k.wrap ((BitVec.ofInt k.bits a&&&BitVec.ofInt k.bits b).toNat)
def iOr(k:IntKind)(a b:Int):Int:=k.wrap ((BitVec.ofInt k.bits a|||BitVec.ofInt k.bits b).toNat)
def iXor(k:IntKind)(a b:Int):Int:=k.wrap ((BitVec.ofInt k.bits a^^^BitVec.ofInt k.bits b).toNat)
def ZbK(k:IntKind)(a b:Int):Int:=k.wrap ((BitVec.ofInt k.bits a&&& ~~~(BitVec.ofInt k.bits b)).toNat)
def iShl(k:IntKind)(a b:Int):Int:=k.wrap (a*2^ (min b.toNat k.bits))
def iShr(k:IntKind)(a b:Int):Int:=a.fdiv (2^ (min b.toNat k.bits))
def Z1(s:List UInt8)(i:Int):Int:=((s.getD i.toNat 0).toNat:Int)
def Zaz(a b:List UInt8):Bool:=Op.bytesLess a b
inductive Res where
 |val (v:SV)
 |new (v:SV) (h:Hp)
 |upd (i:Nat) (h:Hp) (v:SV)
 |repl (i:Nat) (h:Hp) (v:SV)
 |need (p:Prop) (k:Res)
 |get (rs:List (List SV)) (i:Nat) (k:List SV->Res)
 |ite (b:Bool) (x y:Res)
 |find (r:Option (Nat×SV)) (f:Nat->SV->Res) (x:Res)
 |findD (r:Option (Nat×DC)) (f:Nat->DC->Res) (x:Res)
 |take (i:Nat) (h h2:Hp) (v:SV)
 |putk (i:Nat) (h:Hp) (k:Nat) (v:SV)
 |fail
def ZfU(op:BinOp)(k k':IntKind)(a b:Int):Res:=
 match op with
 | .shl=> .need (0<=b) (.val (.int k (iShl k a b)))
 | .shr=> .need (0<=b) (.val (.int k (iShr k a b)))
 |_=>match XU k k' with
  |false=> .fail
  |true=>match op with
   | .add=> .val (.int k (k.wrap (a+b)))
   | .sub=> .val (.int k (k.wrap (a-b)))
   | .mul=> .val (.int k (k.wrap (a*b)))
   | .quo=> .need (b≠0) (.val (.int k (k.wrap (a.tdiv b))))
   | .rem=> .need (b≠0) (.val (.int k (a.tmod b)))
   | .and=> .val (.int k (iAnd k a b))
   | .or=> .val (.int k (iOr k a b))
   | .xor=> .val (.int k (iXor k a b))
   | .andNot=> .val (.int k (ZbK k a b))
   | .eql=> .val (.bool (a==b))
   | .neq=> .val (.bool (a !=b))
   | .lss=> .val (.bool (decide (a<b)))
   | .leq=> .val (.bool (decide (a<=b)))
   | .gtr=> .val (.bool (decide (b<a)))
   | .geq=> .val (.bool (decide (b<=a)))
   |_=> .fail
def ZfV(op:BinOp)(a b:List UInt8):Res:=
 match op with
 | .add=> .need (a.length+b.length<=9223372036854775807) (.val (.str (a++b)))
 | .eql=> .val (.bool (a==b))
 | .neq=> .val (.bool (a !=b))
 | .lss=> .val (.bool (Zaz a b))
 | .leq=> .val (.bool (Zaz a b||a==b))
 | .gtr=> .val (.bool (!(Zaz a b||a==b)))
 | .geq=> .val (.bool (!(Zaz a b)))
 |_=> .fail
def Ze:List CK->List SV->List SV->Option Bool
 | [],[],[]=>some true
 | .int k::ks, .int k1 a::xs, .int k2 b::ys=>
   match XU k k1&&XU k k2,Ze ks xs ys with
   |true,some r=>some (a==b&&r)
   |_,_=>none
 | .str::ks, .str a::xs, .str b::ys=>match Ze ks xs ys with|some r=>some (a==b&&r)|none=>none
 | .bool::ks, .bool a::xs, .bool b::ys=>match Ze ks xs ys with|some r=>some (a==b&&r)|none=>none
 |_,_,_=>none
def cellsOf:SV->Option (List SV)
 | .agg cs=>some cs
 | .arr _ rs=>some rs.flatten
 | .tup _=>none
 | .any=>none
 | .nb _=>none
 | .dfs _=>none
 |v=>some [v]
def Z0S:Nat->List SV->Option (List SV)
 |0,_=>some []
 |n+1,c::cs=>match Z0S n cs with|some r=>some (c::r)|none=>none
 |_+1,[]=>none
def WV:List SV->List SV->Option (List SV)
 |row,[]=>some row
 |_::row,v::vs=>match WV row vs with|some r=>some (v::r)|none=>none
 | [],_::_=>none
def VC:Nat->List SV->List SV->Option (List SV)
 |0,row,vs=>WV row vs
 |c+1,x::row,vs=>match VC c row vs with|some r=>some (x::r)|none=>none
 |_+1,[],_=>none
def Wx{α:Type}:List α->Nat->Bool
 | [],0=>true
 |_::xs,n+1=>Wx xs n
 |_,_=>false
def JM(es:Nat):Nat->List SV->Option (List (List SV))
 |0,[]=>some []
 |0,_::_=>none
 |n+1,cs=>match Z0S es cs with
  |some r=>match JM es n (cs.drop es)with|some rs=>some (r::rs)|none=>none
  |none=>none
def YH(T:Tab)(t:TypeId)(cs:List SV):Option SV:=
 match T.sh t with
 | .struct _=>some (.agg cs)
 | .array _ _=>some (.agg cs)
 | .other=>none
 |_=>match cs with| [c]=>some c|_=>none
def WW(T:Tab)(t:TypeId)(off:Nat)(row:List SV):Res:=
 match Z0S (T.size t) (row.drop off)with
 |some cs=>match YH T t cs with|some v=> .val v|none=> .fail
 |none=> .fail
def ZN:DC->SV
 | .v s=>s
 | .kid _ _=> .any
def Zs(rs:List (List DC)):List (List SV):=rs.map fun r=>r.map ZN
def ZaA(T:Tab)(hl:Blk->Option Hp)(t:TypeId):SV->Res
 | .ptr b r es c=>
   match hl b with
   |some (.box row)=>match Nat.beq r 0 with|true=>WW T t c row|false=> .fail
   |some (.rows es' rs)=>
    match Nat.beq es es' with
    |true=>match T.sh t with
     | .array n e=>match Nat.beq (T.size e) es with
       |true=> .need (r=0/\c=0/\rs.length=n) (.val (.arr es rs))
       |false=> .get rs r fun row=>WW T t c row
     |_=> .get rs r fun row=>WW T t c row
    |false=> .fail
   |some (.deep false es' rs)=>match Nat.beq es es' with
    |true=> .get (Zs rs) r fun row=>WW T t c row
    |false=> .fail
   |_=> .fail
 |_=> .fail
def Z9n(T:Tab)(hO:Nat->Option Hp)(t:TypeId):SV->SV->Res
 | .ptr (.loc i) r es c,v=>
   match hO i with
   |some (.box row)=>match Nat.beq r 0,cellsOf v with
    |true,some vs=>match Wx vs (T.size t),VC c row vs with
     |true,some row=> .upd i (.box row) (.tup [])
     |_,_=> .fail
    |_,_=> .fail
   |some (.rows es' rs)=>
    match Nat.beq es es' with
    |true=>match T.sh t with
     | .array n e=>match Nat.beq (T.size e) es,Nat.beq (T.size t) (n*es)with
       |true,true=>match v with
        | .arr es'' rs'=> .need (r=0/\c=0/\es''=es/\rs'.length=n/\rs.length=n) (.upd i (.rows es rs') (.tup []))
        | .agg cs=>match JM es n cs with
          |some rs'=> .need (r=0/\c=0/\rs.length=n) (.upd i (.rows es rs') (.tup []))
          |none=> .fail
        |_=> .fail
       |_,_=> .fail
     |_=>match cellsOf v with
      |some vs=>match Wx vs (T.size t)with
       |true=> .get rs r fun row=>match VC c row vs with
        |some row=> .upd i (.rows es (rs.set r row)) (.tup [])
        |none=> .fail
       |false=> .fail
      |none=> .fail
    |false=> .fail
   |_=> .fail
 |_,_=> .fail
def X4:Value->SV
 | .bool b=> .bool b
 | .int k n=> .int k n
 | .string s=> .str s.data.toList
 | .agg _=> .any
 | .tuple vs=>match vs.toList with| []=> .tup []|_=> .any
 |v=> .val v
def Z6w:Blk->(Blk->Prop)->Prop
 | .glob g,K=>K (.glob g)
 | .loc i,K=>K (.loc i)
def Z6x:SV->(SV->Prop)->Prop
 | .bool b,K=>K (.bool b)
 | .int k n,K=>K (.int k n)
 | .str s,K=>K (.str s)
 | .ptr b r es c,K=>Z6w b fun b=>K (.ptr b r es c)
 | .sl b r es len lim,K=>Z6w b fun b=>K (.sl b r es len lim)
 | .val v,K=>K (.val v)
 | .agg cs,K=>K (.agg cs)
 | .arr es rs,K=>K (.arr es rs)
 | .tup vs,K=>K (.tup vs)
 | .ifc t v,K=>K (.ifc t v)
 | .fn f a b,K=>K (.fn f a b)
 | .mp b,K=>Z6w b fun b=>K (.mp b)
 | .yf b,K=>Z6w b fun b=>K (.yf b)
 | .dfs l,K=>K (.dfs l)
 | .any,K=>K .any
 | .nb n,K=>K (.nb n)
def WB:List SV->(List SV->Prop)->Prop
 | [],K=>K []
 |c::cs,K=>Z6x c fun c=>WB cs fun cs=>K (c::cs)
def Z9o:SV->(SV->Prop)->Prop
 | .agg cs,K=>WB cs fun cs=>K (.agg cs)
 | .ifc t v,K=>Z6x v fun v=>K (.ifc t v)
 | .fn f a b,K=>WB a fun a=>WB b fun b=>K (.fn f a b)
 |v,K=>Z6x v K
def UH:List SV->(List SV->Prop)->Prop
 | [],K=>K []
 |c::cs,K=>Z9o c fun c=>UH cs fun cs=>K (c::cs)
def WX:SV->(SV->Prop)->Prop
 | .tup vs,K=>UH vs fun vs=>K (.tup vs)
 |v,K=>Z9o v K
def Z1v:Hp->(Hp->Prop)->Prop
 | .box row,K=>WB row fun row=>K (.box row)
 | .rows es rs,K=>K (.rows es rs)
 | .siter s p,K=>K (.siter s p)
 | .tbl vs,K=>K (.tbl vs)
 | .bld T e l,K=>K (.bld T e l)
 | .mp rs,K=>K (.mp rs)
 | .dfr f,K=>K (.dfr f)
 | .lp st li fr,K=>K (.lp st li fr)
 | .deep mp es rs,K=>K (.deep mp es rs)
def Z2x:List (Nat×Hp)->(List (Nat×Hp)->Prop)->Prop
 | [],K=>K []
 |(i,h)::r,K=>Z2x r fun r=>K ((i,h)::r)
structure IF{J:Type}(b:Bool)(A B:J->Prop)(j:J):Prop where
 t:b=true->A j
 f:b=false->B j
structure UNK{J:Type}(n:Nat)(A B:J->Prop)(j:J):Prop where
 t:n=0->A j
 f:B j
structure NEED(p K:Prop):Prop where
 p:p
 k:K
structure GET(rs:List (List SV))(i:Nat)(K:List SV->Prop):Prop where
 out:∃row,rs[i]?=some row/\K row
structure GETG(g:Prop)(rs:List (List SV))(i:Nat)(K:List SV->Prop):Prop where
 out:∃row,(g->rs[i]?=some row)/\K row
structure FIND{J:Type}(r:Option (Nat×SV))(A:Nat->SV->J->Prop)(B:J->Prop)(j:J):Prop where
 s:∀i v,r=some (i,v)->A i v j
 n:r=none->B j
structure FINDD{J:Type}(r:Option (Nat×DC))(A:Nat->DC->J->Prop)(B:J->Prop)(j:J):Prop where
 s:∀i v,r=some (i,v)->A i v j
 n:r=none->B j
structure STOP(why:String):Prop where
 out:False
structure Cx where
 T:Tab
 N:Nat
 S:List (Blk×Hp)
 ro:Option (Nat×Nat):=none
abbrev Fr:=List (Nat×SV)
abbrev Hps:=List (Nat×Hp)
abbrev Gs:=List (Nat×List (Nat×Bool)×SV)
def JX(fr:Fr):Operand->Option SV
 | .tmp t=>lkp t fr
 | .const v=>some (X4 v)
 | .global g=>some (.ptr (.glob g) 0 0 0)
 | .func f=>some (.fn (.func f) [] [])
def Yp(C:Cx)(O:Hps):Blk->Option Hp
 | .loc i=>match lkp i O with
   |some h=>some h
   |none=>lkpB (.loc i) C.S
 | .glob g=>lkp g C.T.globs
def Z9p(T:Tab)(t:TypeId)(f:Nat):Option (Nat×TypeId):=
 match T.sh t with
 | .struct fs=>nth fs f
 |_=>none
def optAll{α β:Type}(f:α->Option β):List α->Option (List β)
 | []=>some []
 |x::xs=>match f x with
  |some y=>match optAll f xs with|some ys=>some (y::ys)|none=>none
  |none=>none
def Z8g(cells:List SV)(place:Nat->Option (Nat×Nat)):List (Nat×SV)->Option (List SV)
 | []=>some cells
 |(i,v)::rest=>match place i with
  |some (off,size)=>match cellsOf v with
   |some vs=>match Wx vs size,VC off cells vs with
    |true,some cells=>Z8g cells place rest
    |_,_=>none
   |none=>none
  |none=>none
def repl(n:Nat)(cs:List SV):List SV:=match n with|0=>[]|n+1=>cs++repl n cs
def Ze1(T:Tab)(t:TypeId)(v:SV):Option Hp:=
 match T.sh t with
 | .array _ e=>match v with
   | .agg cs=>match T.sh t with
     | .array n _=>match JM (T.size e) n cs with|some rs=>some (.rows (T.size e) rs)|none=>none
     |_=>none
   |_=>none
 | .other=>none
 |_=>match cellsOf v with|some cs=>some (.box cs)|none=>none
def Ze2(T:Tab)(t:TypeId)(nx:Nat)(v:SV):Res:=
 match T.sh t,v with
 | .array n e, .arr es rs=>match Nat.beq (T.size e) es with
   |true=> .need (rs.length=n) (.new (.ptr (.loc nx) 0 es 0) (.rows es rs))
   |false=> .fail
 | .array _ e,v=>match Ze1 T t v with|some h=> .new (.ptr (.loc nx) 0 (T.size e) 0) h|none=> .fail
 |_,v=>match Ze1 T t v with|some h=> .new (.ptr (.loc nx) 0 0 0) h|none=> .fail
def ZbL(tb te:TypeId)(nx:Nat):SV->Res
 | .agg [.val (.pointer none), .val (.slice none 0 0)]=> .new (.ptr (.loc nx) 0 0 0) (.bld tb te [])
 |_=> .fail
def newR(T:Tab)(t:TypeId)(nx:Nat)(v:SV):Res:=
 match T.bld with
 |some (tb,te)=>match Nat.beq t tb with
  |true=>ZbL tb te nx v
  |false=>Ze2 T t nx v
 |none=>Ze2 T t nx v
def flKey:SV->SV
 | .arr _ rs=> .agg rs.flatten
 |v=>v
def Ze3(lk:Operand->Option SV)(x:Operand):Option SV:=match lk x with|some k=>some (flKey k)|none=>none
def ZO:Bool->SV->Option (List SV)
 |true, .agg cs=>some cs
 |true,_=>none
 |false,v=>some [v]
def JY(ks:Bool×List CK)(a b:SV):Option Bool:=match ZO ks.1 a with
 |some xs=>match ZO ks.1 b with
  |some ys=>Ze ks.2 xs ys
  |none=>none
 |none=>none
def WY(ks:Bool×List CK)(a b:SV):Bool:=match JY ks a b with|some r=>r|none=>false
def JF(ks:Bool×List CK)(a:SV):Bool:=(JY ks a a).isSome
def Xz(ks:Bool×List CK)(key:SV):Nat->List (List SV)->Option (Nat×SV)
 |_,[]=>none
 |i,r::rs=>match r with
  | [k,v]=>match WY ks key k with
    |true=>some (i,v)
    |false=>Xz ks key (i+1) rs
  |_=>none
def JN(ks:Bool×List CK)(rs:List (List SV)):Prop:=∀r∈rs,∃k v,r=[k,v]/\JF ks k=true
def putV(v:SV):List SV->List SV
 | [k,_]=>[k,v]
 |r=>r
def setM(ks:Bool×List CK)(key v:SV)(rs:List (List SV)):List (List SV):=match Xz ks key 0 rs with
 |some (i,_)=>rs.modify i (putV v)
 |none=>rs++ [[key,v]]
def Z0T(rs:List (List DC))(r c:Nat):Option (Nat×DC):=match rs[r]? with
 |some row=>match row[c]? with
  |some d=>some (r,d)
  |none=>none
 |none=>none
def findD(ks:Bool×List CK)(key:SV):Nat->List (List DC)->Option (Nat×DC)
 |_,[]=>none
 |i,r::rs=>match r with
  | [k,v]=>match WY ks key (ZN k)with
    |true=>some (i,v)
    |false=>findD ks key (i+1) rs
  |_=>none
def putD(d:DC):List DC->List DC
 | [k,_]=>[k,d]
 |r=>r
def setD(ks:Bool×List CK)(key:SV)(d:DC)(rs:List (List DC)):List (List DC):=match findD ks key 0 rs with
 |some (i,_)=>rs.modify i (putD d)
 |none=>rs++ [[.v key,d]]
def WZ(T:Tab)(et:TypeId)(O:List (Nat×Hp))(i:Nat)(h:DC->Hp):SV->Res
 | .sl (.loc k) r es n lim=>match r,lim with
   |0,none=>match lkp k O with
    |some (.rows es' rows)=>match Nat.beq es es' with
     |true=>match Nat.beq k i with
      |false=> .need (n<=rows.length) (.putk i (h (.kid es (rows.take n))) k (.tup []))
      |true=> .fail
     |false=> .fail
    |_=> .upd i (h (.v (.sl (.loc k) 0 es n none))) (.tup [])
   |r,lim=> .upd i (h (.v (.sl (.loc k) r es n lim))) (.tup [])
 | .val (.slice none 0 0)=>match T.sh et with
   | .slice e=> .upd i (h (.kid (T.size e) [])) (.tup [])
   |_=> .upd i (h (.v (.val (.slice none 0 0)))) (.tup [])
 |v=> .upd i (h (.v v)) (.tup [])
def appV(T:Tab)(e:TypeId):SV->DC
 | .val (.slice none 0 0)=>match T.sh e with
   | .slice e'=> .kid (T.size e') []
   |_=> .v (.val (.slice none 0 0))
 |s=> .v s
def bytesRow(c:UInt8):List SV:=[.int .u8 (c.toNat:Int)]
def Z0U:List SV->UInt8
 | [.int _ n]=>UInt8.ofNat n.toNat
 |_=>0
def hOwn(O:Hps):Blk->Option Hp
 | .loc i=>lkp i O
 | .glob _=>none
def Zfd(s:List UInt8)(lo hi:Option (Option SV)):Res:=
 match lo with
 |none=>match hi with
  |none=> .val (.str s)
  |some (some (.int _ h))=> .need (0<=h/\h<=s.length) (.val (.str (s.take h.toNat)))
  |_=> .fail
 |some (some (.int _ l))=>match hi with
  |none=> .need (0<=l/\l<=s.length) (.val (.str (s.drop l.toNat)))
  |some (some (.int _ h))=> .need (0<=l/\l<=h/\h<=s.length) (.val (.str ((s.drop l.toNat).take (h.toNat-l.toNat))))
  |_=> .fail
 |_=> .fail
def reach(O:Hps)(b:Blk)(r len:Nat)(lim:Option Nat):Nat:=
 match lim with
 |some _=>len
 |none=>match hOwn O b with
  |some (.rows _ rs)=>max len (rs.length-r)
  |_=>len
def Zh4(O:Hps)(b:Blk)(r es len:Nat)(lim:Option Nat)(lo hi mx:Option (Option SV)):Res:=
 match mx with
 |none=>match lo with
  |none=>match hi with
   |none=> .val (.sl b r es len lim)
   |some (some (.int _ h))=> .need (0<=h/\h<=(reach O b r len lim:Nat)) (.val (.sl b r es h.toNat lim))
   |_=> .fail
  |some (some (.int _ l))=>match hi with
   |none=> .need (0<=l/\l<=len) (.val (.sl b (r+l.toNat) es (len-l.toNat) lim))
   |some (some (.int _ h))=> .need (0<=l/\l<=h/\h<=(reach O b r len lim:Nat)) (.val (.sl b (r+l.toNat) es (h.toNat-l.toNat) lim))
   |_=> .fail
  |_=> .fail
 |some (some (.int _ m))=>match lo with
  |none=>match hi with
   |some (some (.int _ h))=> .need (0<=h/\h<=m/\m<=len) (.val (.sl b r es h.toNat (some (r+m.toNat))))
   |_=> .fail
  |_=> .fail
 |_=> .fail
def Zfe(lo hi mx:Option (Option SV)):Res:=
 match mx with
 |some _=> .fail
 |none=>match lo with
  |some _=> .fail
  |none=>match hi with
   |none=> .val (.val (.slice none 0 0))
   |some (some (.int _ h))=> .need (h=0) (.val (.val (.slice none 0 0)))
   |_=> .fail
def Z49(C:Cx)(O:Hps)(es:Nat):SV->Option (List (List SV)×Nat)
 | .sl b r es' len _=>match Yp C O b with
   |some (.rows es'' rs)=>match Nat.beq es es' with
    |true=>match Nat.beq es es'' with
     |true=>some ((rs.drop r).take len,len)
     |false=>none
    |false=>none
   |_=>none
 | .val (.slice _ 0 0)=>some ([],0)
 | .str s=>match Nat.beq es 1 with
   |true=>some (s.map bytesRow,s.length)
   |false=>none
 |_=>none
def ZbM(C:Cx)(O:Hps)(nx:Nat)(e:TypeId)(xs:List (List SV))(m:Nat):Blk->Nat->Nat->Nat->Nat->Res
 | .loc i,0,es,n,l=>match lkp i O with
   |some (.deep false es' ds)=>match Nat.beq es (C.T.size e)with
    |true=>match Nat.beq es es' with
     |true=> .need (xs.length=m/\0<n/\0<m/\n<=ds.length/\n+m<=9223372036854775807/\min (2*(n+m)) ((n+m)+(n+m)/4+192)*C.T.bytes e<=281474976710656)
      (.ite (decide (l<n+m)) (.new (.sl (.loc nx) 0 es (n+m) none) (.rows es ((Zs ds).take n++xs))) (.take i (.rows es ((Zs ds).take n++xs)) (.rows es []) (.sl (.loc i) 0 es (n+m) (some l))))
     |false=> .fail
    |false=> .fail
   |_=> .fail
 |_,_,_,_,_=> .fail
def Z5j(C:Cx)(O:Hps)(nx:Nat)(t:TypeId)(s x:SV):Res:=
 match C.T.sh t with
 | .slice e=>match C.T.zero e with
   | []=> .fail
   |_::_=>match Z49 C O (C.T.size e) x with
    |none=> .fail
    |some (xs,m)=>match s with
     | .val (.slice none 0 0)=>
       .need (xs.length=m/\m<=9223372036854775807/\m*C.T.bytes e<=140737488355328) (.new (.sl (.loc nx) 0 (C.T.size e) m none) (.rows (C.T.size e) xs))
     | .sl (.loc i) 0 es n none=>
       match lkp i O with
       |some (.rows es' rs)=>match Nat.beq es (C.T.size e)with
        |true=>match Nat.beq es es' with
         |true=> .need (xs.length=m/\n<=rs.length/\n+m<=9223372036854775807/\min (2*(n+m)) ((n+m)+(n+m)/4+192)*C.T.bytes e<=281474976710656) (.repl i (.rows es (rs.take n++xs)) (.sl (.loc nx) 0 es (n+m) none))
         |false=> .fail
        |false=> .fail
       |some (.deep false es' rs)=>match Nat.beq es (C.T.size e)with
        |true=>match Nat.beq es es' with
         |true=> .need (xs.length=m/\n<=rs.length/\n+m<=9223372036854775807/\min (2*(n+m)) ((n+m)+(n+m)/4+192)*C.T.bytes e<=281474976710656) (.repl i (.deep false es (rs.take n++xs.map fun row=>row.map (appV C.T e))) (.sl (.loc nx) 0 es (n+m) none))
         |false=> .fail
        |false=> .fail
       |_=> .fail
     | .sl b r es n (some l)=>
       match Z49 C O (C.T.size e) (.sl b r es n (some l))with
       |some (ys,_)=> .need (l=r+n/\0<m/\ys.length=n/\xs.length=m/\n+m<=9223372036854775807/\min (2*(n+m)) ((n+m)+(n+m)/4+192)*C.T.bytes e<=281474976710656) (.new (.sl (.loc nx) 0 (C.T.size e) (n+m) none) (.rows (C.T.size e) (ys++xs)))
       |none=>ZbM C O nx e xs m b r es n l
     |_=> .fail
 |_=> .fail
def ZbN(C:Cx)(nx:Nat)(t:TypeId)(x:SV):Res:=
 match C.T.sh t with
 | .slice e=>match C.T.zero e with
   | []=> .fail
   |c::cs=>match x with
    | .int _ n=> .need (0<=n/\n<=9223372036854775807/\n.toNat*C.T.bytes e<=140737488355328) (.new (.sl (.loc nx) 0 (C.T.size e) n.toNat none) (.rows (C.T.size e) (List.replicate n.toNat (c::cs))))
    |_=> .fail
 |_=> .fail
def ZfW(sh:Sh)(y:Operand)(u:SV)(w:Value):Option Bool:=
 match sh,y,w,u with
 | .iface, .const _, .nilIface, .ifc _ _=>some false
 | .iface, .const _, .nilIface, .val .nilIface=>some true
 | .ptr _,_, .pointer none, .ptr _ _ _ _=>some false
 | .ptr _,_, .pointer none, .val (.pointer none)=>some true
 | .func,_, .nilFunc, .fn _ _ _=>some false
 | .func,_, .nilFunc, .val .nilFunc=>some true
 |_,_,_,_=>none
section
variable (C:Cx)(lk:Operand->Option SV)(O:Hps)(nx:Nat)
def Ze4(x:Operand):Res:=match lk x with|some v=> .val v|none=> .fail
def Zh5(c a b:Operand):Res:=
 match lk c with
 |some (.bool c)=>match lk a,lk b with
  |some (.bool a),some (.bool b)=> .val (.bool (bif c then a else b))
  |some (.bool a),some (.tup [])=> .need (c=true) (.val (.bool a))
  |some (.tup []),some (.bool b)=> .need (c=false) (.val (.bool b))
  |_,_=> .fail
 |_=> .fail
def Zff(e:TypeId):Res:=
 match C.T.zero e with
 | []=> .fail
 |c::cs=>match YH C.T e (c::cs)with|some v=>newR C.T e nx v|none=> .fail
def boxR(e:TypeId)(x:Operand):Res:=match lk x with|some v=>newR C.T e nx v|none=> .fail
def Z9q(ps:Array (Nat×Operand)):Option (List (Nat×SV)):=
 optAll (fun(p:Nat×Operand)=>match lk p.2 with|some v=>some (p.1,v)|none=>none) ps.toList
def Z00(T:Tab)(fs:List (Nat×TypeId))(i:Nat):Option (Nat×Nat):=match nth fs i with|some (off,u)=>some (off,T.size u)|none=>none
def W7(T:Tab)(e:TypeId)(i:Nat):Option (Nat×Nat):=some (i*T.size e,T.size e)
def Zfg(t:TypeId)(ps:Array (Nat×Operand)):Res:=
 match Z9q lk ps with
 |none=> .fail
 |some ps=>match C.T.zero t with
  | []=> .fail
  |c::cs=>match C.T.sh t with
   | .struct fs=>match Z8g (c::cs) (Z00 C.T fs) ps with
     |some cs=> .val (.agg cs)
     |none=> .fail
   | .array _ e=>match Z8g (c::cs) (W7 C.T e) ps with
     |some cs=> .val (.agg cs)
     |none=> .fail
   |_=> .fail
def Z2y(t:TypeId)(len:Nat)(ps:Array (Nat×Operand)):Res:=
 match Z9q lk ps with
 |none=> .fail
 |some ps=>match C.T.sh t with
  | .slice e=>match C.T.zero e with
    | []=> .fail
    |c::cs=>match Nat.ble (len*C.T.size e) 16777216 with
     |false=> .fail
     |true=>match Z8g (repl len (c::cs)) (W7 C.T e) ps with
      |none=> .fail
      |some cs=>match JM (C.T.size e) len cs with
       |some rs=> .new (.sl (.loc nx) 0 (C.T.size e) len none) (.rows (C.T.size e) rs)
       |none=> .fail
  |_=> .fail
def Ze5(i es:Nat)(rs:List (List DC))(r c:Nat)(t:TypeId):DC->Res
 | .v sv=>match YH C.T t [sv]with|some v=> .val v|none=> .fail
 | .kid es' rows=>match C.T.sh t with
   | .slice _=> .take i (.deep false es (rs.modify r fun row=>row.set c (.v (.sl (.loc nx) 0 es' rows.length none)))) (.rows es' rows) (.sl (.loc nx) 0 es' rows.length none)
   |_=> .fail
def Zh6(t:TypeId)(x:Operand):Res:=match lk x with
 |some p=>match p with
  | .ptr (.loc i) r es c=>match lkp i O with
    |some (.deep false es' rs)=>match Nat.beq es es',Nat.beq (C.T.size t) 1 with
     |true,true=> .findD (Z0T rs r c) (fun _ d=>Ze5 C nx i es rs r c t d) .fail
     |_,_=> .fail
    |_=>ZaA C.T (Yp C O) t p
  |_=>ZaA C.T (Yp C O) t p
 |none=> .fail
def okSh(T:Tab)(t:TypeId):Bool:=match T.sh t with| .other=>false|_=>true
def Zfh(t:TypeId)(x y:Operand):Res:=
 match okSh C.T t with
 |false=> .fail
 |true=>match Nat.beq (C.T.size t) 0 with
  |true=> .fail
  |false=>match lk x with
   |some p=>match lk y with
    |some v=>match p with
     | .ptr (.loc i) r es c=>match lkp i O with
       |some (.deep false es' rs)=>match Nat.beq es es',Nat.beq (C.T.size t) 1 with
        |true,true=>match cellsOf v with
         |some [s]=> .findD (Z0T rs r c) (fun _ _=>WZ C.T t O i (fun d=> .deep false es (rs.modify r fun row=>row.set c d)) s) .fail
         |_=> .fail
        |_,_=> .fail
       |_=>Z9n C.T (fun i=>lkp i O) t p v
     |_=>Z9n C.T (fun i=>lkp i O) t p v
    |none=> .fail
   |none=> .fail
def Z6y(x:Operand):Res:=
 match lk x with
 |some (.ptr b r es c)=> .val (.ptr b r es c)
 |_=> .fail
def eqB(ks:List CK)(xs ys:List SV):Bool:=match Ze ks xs ys with|some r=>r|none=>false
def ZbO(ks:List CK)(op:BinOp)(xs ys:List SV):Res:=
 match op with
 | .eql=> .need ((Ze ks xs ys).isSome=true) (.val (.bool (eqB ks xs ys)))
 | .neq=> .need ((Ze ks xs ys).isSome=true) (.val (.bool (!(eqB ks xs ys))))
 |_=> .fail
def binR(op:BinOp)(t:TypeId)(x y:Operand):Res:=
 match lk x with
 |some (.int k a)=>match lk y with
  |some (.int k' b)=>ZfU op k k' a b
  |_=> .fail
 |some (.str a)=>match lk y with
  |some (.str b)=>ZfV op a b
  |_=> .fail
 |some (.bool a)=>match lk y with
  |some (.bool b)=>match C.T.sh t with
   | .bool=>match op with
     | .eql=> .val (.bool (a==b))
     | .neq=> .val (.bool (a !=b))
     |_=> .fail
   |_=> .fail
  |_=> .fail
 |some (.agg xs)=>match lk y with
  |some (.agg ys)=>match C.T.flat t with
   |some ks=>match Ze ks xs ys with
    |some r=>match op with
     | .eql=> .val (.bool r)
     | .neq=> .val (.bool (!r))
     |_=> .fail
    |none=> .fail
   |none=> .fail
  |some (.arr _ rs)=>match C.T.flat t with
   |some ks=>ZbO ks op xs rs.flatten
   |none=> .fail
  |_=> .fail
 |some (.arr _ rs)=>match lk y with
  |some (.agg ys)=>match C.T.flat t with
   |some ks=>ZbO ks op rs.flatten ys
   |none=> .fail
  |some (.arr _ qs)=>match C.T.flat t with
   |some ks=>ZbO ks op rs.flatten qs.flatten
   |none=> .fail
  |_=> .fail
 |some (.sl b r es len lim)=>match lk y with
  |some (.val (.slice none 0 0))=>match C.T.sh t with
   | .slice _=>match op with
     | .eql=> .val (.nb len)
     | .neq=> .need (0<len) (.val (.bool true))
     |_=> .fail
   |_=> .fail
  |_=> .fail
 |some (.val (.slice none 0 0))=>match lk y with
  |some (.val (.slice none 0 0))=>match C.T.sh t with
   | .slice _=>match op with
     | .eql=> .val (.bool true)
     | .neq=> .val (.bool false)
     |_=> .fail
   |_=> .fail
  |_=> .fail
 |some u=>match lk y with
  |some (.val w)=>match ZfW (C.T.sh t) y u w with
   |some r=>match op with
    | .eql=> .val (.bool r)
    | .neq=> .val (.bool (!r))
    |_=> .fail
   |none=> .fail
  |_=> .fail
 |none=> .fail
def unR(op:UnOp)(x:Operand):Res:=
 match op with
 | .not=>match lk x with
   |some (.bool b)=> .val (.bool (!b))
   |_=> .fail
 | .neg=>match lk x with
   |some (.int k n)=> .val (.int k (k.wrap (0-n)))
   |_=> .fail
 | .xor=>match lk x with
   |some (.int k n)=> .val (.int k (iXor k (bif k.signed then-1 else k.max) n))
   |_=> .fail
 |_=> .fail
def Z2z(T:Tab)(t:TypeId):Option TypeId:=
 match T.sh t with
 | .slice e=>match T.sh e with
   | .int .u8=>some e
   |_=>none
 |_=>none
def Zh7(s d:TypeId)(x:Operand):Res:=
 match okSh C.T s with
 |false=> .fail
 |true=>match lk x with
  |some (.int _ n)=>match C.T.sh d with
   | .int k=> .val (.int k (k.wrap n))
   | .str=> .val (.str (Utf8.encode n).data.toList)
   |_=> .fail
  |some (.str s')=>match C.T.sh d with
   | .str=> .val (.str s')
   |_=>match Z2z C.T d with
    |some e=>match Nat.beq (C.T.size e) 1 with
     |true=>match C.T.sh s with
      | .str=> .need (s'.length<=9223372036854775807) (.new (.sl (.loc nx) 0 1 s'.length none) (.rows 1 (s'.map bytesRow)))
      |_=> .fail
     |false=> .fail
    |none=> .fail
  |some (.sl b r es len lim)=>match C.T.sh d with
   | .str=>match Z2z C.T s with
     |some _=>match Z49 C O 1 (.sl b r es len lim)with
      |some (xs,m)=> .need (xs.length=m/\∃l:List UInt8,xs=l.map bytesRow) (.val (.str (xs.map Z0U)))
      |none=> .fail
     |none=> .fail
   |_=> .fail
  |some (.val (.slice none 0 0))=>match C.T.sh d with
   | .str=>match Z2z C.T s with
     |some _=> .val (.str [])
     |none=> .fail
   |_=> .fail
  |_=> .fail
def Zfi(t:TypeId)(x:Operand):Res:=
 match C.T.sh t with
 | .iface=> .fail
 | .other=> .fail
 |_=>match lk x with
  |some v=> .val (.ifc t v)
  |none=> .fail
def Zh8(f:Fn)(a b:Array Operand):Res:=
 match optAll lk a.toList with
 |some a=>match optAll lk b.toList with
  |some b=> .val (.fn f a b)
  |none=> .fail
 |none=> .fail
def Z4x(t:TypeId)(l c:Operand):Res:=
 match C.T.sh t with
 | .slice e=>match C.T.zero e with
   | []=> .fail
   |z::zs=>match lk l with
    |some (.int _ l)=>match lk c with
     |some (.int _ c)=>
      .need (0<=l/\l<=c/\c<=9223372036854775807/\C.T.bytes e*c<=281474976710656)
       (.new (.sl (.loc nx) 0 (C.T.size e) l.toNat none) (.rows (C.T.size e) (List.replicate c.toNat (z::zs))))
     |_=> .fail
    |_=> .fail
 |_=> .fail
def Zfj(t:TypeId)(x:Operand)(lo hi mx:Option Operand):Res:=
 match lk x with
 |some (.str s)=>match C.T.sh t with
  | .str=>match mx with
    |none=>Zfd s (lo.map lk) (hi.map lk)
    |some _=> .fail
  |_=> .fail
 |some (.sl b r es len lim)=>match C.T.sh t with
  | .slice e=>match Nat.beq es (C.T.size e)with
    |true=>match okSh C.T e with
     |true=>Zh4 O b r es len lim (lo.map lk) (hi.map lk) (mx.map lk)
     |false=> .fail
    |false=> .fail
  |_=> .fail
 |some (.val (.slice none 0 0))=>match C.T.sh t with
  | .slice e=>match okSh C.T e with
    |true=>Zfe (lo.map lk) (hi.map lk) (mx.map lk)
    |false=> .fail
  |_=> .fail
 |_=> .fail
def Z4y(s:TypeId)(x:Operand)(f:Nat):Res:=
 match lk x with
 |some (.ptr b r es c)=>match Z9p C.T s f with
  |some (off,u)=>match Nat.beq (C.T.size u) 0 with
   |true=> .fail
   |false=> .val (.ptr b r es (c+off))
  |none=> .fail
 |_=> .fail
def Zfk(t:TypeId)(x:Operand)(f:Nat):Res:=
 match lk x with
 |some (.agg cs)=>match Z9p C.T t f with
  |some (off,u)=>WW C.T u off cs
  |none=> .fail
 |_=> .fail
def Z4z(t:TypeId)(x i:Operand):Res:=
 match lk i with
 |some (.int _ i)=>match C.T.sh t with
  | .array n e=>match lk x with
    |some (.ptr b r es c)=>match Nat.beq es (C.T.size e)with
     |true=> .need (r=0/\c=0/\0<=i/\i<n) (.val (.ptr b i.toNat es 0))
     |false=>match c with
      |0=> .need (r=0/\(0:Nat)=0/\0<=i/\i<n) (.val (.ptr b i.toNat (C.T.size e) 0))
      |c'+1=> .need (0<=i/\i<n) (.val (.ptr b r es (c'+1+i.toNat*C.T.size e)))
    |_=> .fail
  | .slice e=>match lk x with
    |some (.sl b r es len _)=>match Nat.beq es (C.T.size e),okSh C.T e with
     |true,true=> .need (0<=i/\i<len) (.val (.ptr b (r+i.toNat) es 0))
     |_,_=> .fail
    |_=> .fail
  |_=> .fail
 |_=> .fail
def Zfl(t:TypeId)(x i:Operand):Res:=
 match lk i with
 |some (.int _ i)=>match C.T.sh t with
  | .str=>match lk x with
    |some (.str s)=> .need (0<=i/\i<s.length) (.val (.int .u8 (Z1 s i)))
    |_=> .fail
  | .array n e=>match lk x with
    |some (.agg cs)=>match JM (C.T.size e) n cs with
     |some rs=> .need (0<=i/\i<n) (.get rs i.toNat fun row=>WW C.T e 0 row)
     |none=> .fail
    |some (.arr es rs)=>match Nat.beq es (C.T.size e)with
     |true=> .need (0<=i/\i<n/\rs.length=n) (.get rs i.toNat fun row=>WW C.T e 0 row)
     |false=> .fail
    |_=> .fail
  |_=> .fail
 |_=> .fail
def Zfm(t:TypeId)(x:Operand):Res:=
 match C.T.sh t with
 | .str=>match lk x with
   |some (.str s)=> .new (.ptr (.loc nx) 0 0 0) (.siter s 0)
   |_=> .fail
 |_=> .fail
def Zh9(x:Operand)(isStr:Bool):Res:=
 match isStr with
 |true=>match lk x with
  |some (.ptr (.loc i) r es c)=>match lkp i O with
   |some (.siter s pos)=>match Nat.beq (r*es+c) 0 with
    |true=> .ite (decide (pos<s.length))
     (.upd i (.siter s (pos+(Utf8.decode ⟨s.toArray⟩ pos).2)) (.tup [.bool true, .int .i64 (pos:Int), .int .i32 ((Utf8.decode ⟨s.toArray⟩ pos).1:Int)]))
     (.val (.tup [.bool false]))
    |false=> .fail
   |_=> .fail
  |_=> .fail
 |false=> .fail
def Z9r(x:Operand)(i:Nat):Res:=
 match lk x with
 |some (.tup vs)=>match nth vs i with
  |some v=> .val v
  |none=> .fail
 |_=> .fail
def Z5k(T:Tab)(t:TypeId):Res:=
 match T.zero t with
 | []=> .fail
 |c::cs=>match YH T t (c::cs)with
  |some z=> .val (.tup [z, .bool false])
  |none=> .fail
def ZbP(x:Operand)(t:TypeId)(ok:Bool):Res:=
 match C.T.sh t with
 | .iface=> .fail
 | .other=> .fail
 |_=>match lk x with
  |some (.ifc u v)=>match Nat.beq u t with
   |true=>match ok with
    |true=> .val (.tup [v, .bool true])
    |false=> .val v
   |false=>match ok with
    |true=>Z5k C.T t
    |false=> .fail
  |some (.val .nilIface)=>match ok with
   |true=>Z5k C.T t
   |false=> .fail
  |_=> .fail
def Z6z(T:Tab)(t:TypeId)(f:SV->Res):Res:=
 match T.zero t with
 | []=> .fail
 |c::cs=>match YH T t (c::cs)with
  |some z=>f z
  |none=> .fail
def Z1w(ok:Bool)(v:SV)(b:Bool):SV:=match ok with|true=> .tup [v, .bool b]|false=>v
def Z9s(t:TypeId)(r:Option Operand):Res:=
 match r with
 |none=> .new (.mp (.loc nx)) (.mp [])
 |some x=>match C.T.sh t with
  | .map _ _=>match lk x with
    |some (.int _ _)=> .new (.mp (.loc nx)) (.mp [])
    |_=> .fail
  |_=> .fail
def Zha(ok:Bool)(i es:Nat)(rs:List (List DC))(j:Nat):DC->Res
 | .v s=> .val (Z1w ok s true)
 | .kid es' rows=> .take i (.deep true es (rs.modify j (putD (.v (.sl (.loc nx) 0 es' rows.length none))))) (.rows es' rows) (Z1w ok (.sl (.loc nx) 0 es' rows.length none) true)
def Z8h(ks:Bool×List CK)(et:TypeId)(key:SV)(ok:Bool):Blk->Res
 | .loc i=>match lkp i O with
   |some (.deep true es rs)=> .need (JF ks key=true/\JN ks (Zs rs)) (.findD (findD ks key 0 rs) (fun j d=>Zha nx ok i es rs j d) (Z6z C.T et fun z=> .val (Z1w ok z false)))
   |_=> .fail
 | .glob _=> .fail
def ZbQ(t:TypeId)(x i:Operand)(ok:Bool):Res:=
 match C.T.sh t with
 | .map kt et=>match C.T.key kt with
   |some ks=>match Ze3 lk i with
    |some key=>match lk x with
     |some (.mp b)=>match Yp C O b with
      |some (.mp rs)=> .need (JF ks key=true/\JN ks rs) (.find (Xz ks key 0 rs) (fun _ v=> .val (Z1w ok v true)) (Z6z C.T et fun z=> .val (Z1w ok z false)))
      |_=>Z8h C O nx ks et key ok b
     |some (.val (.map none))=> .need (JF ks key=true) (Z6z C.T et fun z=> .val (Z1w ok z false))
     |_=> .fail
    |none=> .fail
   |none=> .fail
 |_=> .fail
def Z0V(t:TypeId)(m k v:Operand):Res:=
 match C.T.sh t with
 | .map kt et=>match C.T.key kt with
   |some ks=>match Ze3 lk k with
    |some key=>match lk v with
     |some v=>match lk m with
      |some (.mp (.loc i))=>match lkp i O with
       |some (.mp rs)=> .need (JF ks key=true/\JN ks rs) (.upd i (.mp (setM ks key v rs)) (.tup []))
       |some (.deep true es rs)=> .need (JF ks key=true/\JN ks (Zs rs)) (WZ C.T et O i (fun d=> .deep true es (setD ks key d rs)) v)
       |_=> .fail
      |_=> .fail
     |none=> .fail
    |none=> .fail
   |none=> .fail
 |_=> .fail
def ZbR(i es:Nat)(rs:List (List DC))(j:Nat):DC->Res
 | .v s=> .val (.tup [s, .int .i64 (j:Int)])
 | .kid es' rows=> .take i (.deep true es (rs.modify j (putD (.v (.sl (.loc nx) 0 es' rows.length none))))) (.rows es' rows) (.tup [.sl (.loc nx) 0 es' rows.length none, .int .i64 (j:Int)])
def Z6A(t:TypeId)(m k:Operand):Res:=
 match C.T.sh t with
 | .map kt et=>match C.T.key kt with
   |some ks=>match lk k with
    |some key=>match lk m with
     |some (.mp (.loc i))=>match lkp i O with
      |some (.mp rs)=> .need (JF ks key=true/\JN ks rs) (.find (Xz ks key 0 rs) (fun j v=> .val (.tup [v, .int .i64 (j:Int)]))
        (Z6z C.T et fun z=> .upd i (.mp (rs++ [[key,z]])) (.tup [z, .int .i64 (rs.length:Int)])))
      |some (.deep true es rs)=> .need (JF ks key=true/\JN ks (Zs rs)) (.findD (findD ks key 0 rs) (fun j d=>ZbR nx i es rs j d)
        (Z6z C.T et fun z=> .upd i (.deep true es (rs++ [[.v key, .v z]])) (.tup [z, .int .i64 (rs.length:Int)])))
      |_=> .fail
     |_=> .fail
    |none=> .fail
   |none=> .fail
 |_=> .fail
def Z2A(t:TypeId)(m s v:Operand):Res:=
 match lk s with
 |some (.int _ n)=>match lk v with
  |some v=>match lk m with
   |some (.mp (.loc i))=>match lkp i O with
    |some (.mp rs)=> .need (0<=n/\n< (rs.length:Int)) (.upd i (.mp (rs.modify n.toNat (putV v))) (.tup []))
    |some (.deep true es rs)=>match C.T.sh t with
     | .map _ et=> .need (0<=n/\n< (rs.length:Int)) (WZ C.T et O i (fun d=> .deep true es (rs.modify n.toNat (putD d))) v)
     |_=> .fail
    |_=> .fail
   |_=> .fail
  |none=> .fail
 |_=> .fail
def lenR(args:List Operand)(ts:List TypeId):Res:=
 match args with
 | [x]=>match ts with
   | [t]=>match lk x with
     |some (.str s)=>match C.T.sh t with| .str=> .val (.int .i64 (s.length:Int))|_=> .fail
     |some (.sl _ _ _ len _)=>match C.T.sh t with| .slice _=> .val (.int .i64 (len:Int))|_=> .fail
     |some (.val (.slice _ n _))=>match C.T.sh t with| .slice _=> .val (.int .i64 (n:Int))|_=> .fail
     |some (.mp b)=>match C.T.sh t with
      | .map _ _=>match Yp C O b with
        |some (.mp rs)=> .val (.int .i64 (rs.length:Int))
        |_=> .fail
      |_=> .fail
     |_=> .fail
   |_=> .fail
 |_=> .fail
def capR(args:List Operand)(ts:List TypeId):Res:=
 match args with
 | [x]=>match ts with
   | [t]=>match lk x with
     |some (.val (.slice none 0 0))=>match C.T.sh t with| .slice _=> .val (.int .i64 0)|_=> .fail
     |_=> .fail
   |_=> .fail
 |_=> .fail
def ZbS(args:List Operand)(ts:List TypeId):Res:=
 match args with
 | [s,x]=>match ts with
   | [t,u]=>match lk s with
     |some s=>match lk x with
      |some x=>match C.T.sh u with
       | .slice _=>Z5j C O nx t s x
       | .str=>Z5j C O nx t s x
       | .int _=>match s with
         | .val (.slice none 0 0)=>ZbN C nx t x
         |_=> .fail
       |_=> .fail
      |none=> .fail
     |none=> .fail
   |_=> .fail
 |_=> .fail
def minR(args:List Operand):Res:=
 match args with
 | [x,y]=>match lk x with
   |some (.int k a)=>match lk y with
    |some (.int _ b)=> .val (.int k (if b<a then b else a))
    |_=> .fail
   |_=> .fail
 |_=> .fail
def maxR(args:List Operand):Res:=
 match args with
 | [x,y]=>match lk x with
   |some (.int k a)=>match lk y with
    |some (.int _ b)=> .val (.int k (if a<b then b else a))
    |_=> .fail
   |_=> .fail
 |_=> .fail
def Zhb(args:List Operand)(ts:List TypeId):Res:=
 match args with
 | [d,x]=>match ts with
   | [t,_]=>match C.T.sh t with
     | .slice e=>match okSh C.T e with
       |false=> .fail
       |true=>match lk d with
        |some (.sl (.loc i) r es n _)=>match lk x with
         |none=> .fail
         |some x=>match Z49 C O (C.T.size e) x with
          |none=> .fail
          |some (xs,m)=>match lkp i O with
           |some (.rows es' rs)=>match Nat.beq es (C.T.size e)with
            |true=>match Nat.beq es es' with
             |true=> .need (xs.length=m/\m<=n/\r+n<=rs.length) (.upd i (.rows es (rs.take r++xs++rs.drop (r+m))) (.int .i64 (m:Int)))
             |false=> .fail
            |false=> .fail
           |_=> .fail
        |_=> .fail
     |_=> .fail
   |_=> .fail
 |_=> .fail
def Zfn(args:List Operand)(ts:List TypeId):Res:=
 match args with
 | [d]=>match ts with
   | [t]=>match C.T.sh t with
     | .slice e=>match C.T.zero e with
       | []=> .fail
       |z::zs=>match lk d with
        |some (.sl (.loc i) r es n _)=>match lkp i O with
         |some (.rows es' rs)=>match Nat.beq es (C.T.size e)with
          |true=>match Nat.beq es es' with
           |true=> .need (r+n<=rs.length) (.upd i (.rows es (rs.take r++List.replicate n (z::zs)++rs.drop (r+n))) (.tup []))
           |false=> .fail
          |false=> .fail
         |_=> .fail
        |_=> .fail
     |_=> .fail
   |_=> .fail
 |_=> .fail
def Vl(b:Builtin)(args:List Operand)(ts:List TypeId):Res:=
 match b with
 | .len=>lenR C lk O args ts
 | .append=>ZbS C lk O nx args ts
 | .cap=>capR C lk args ts
 | .min=>minR lk args
 | .max=>maxR lk args
 | .copy=>Zhb C lk O args ts
 | .clear=>Zfn C lk O args ts
 |_=> .fail
def opR:Op->Res
 | .move x=>Ze4 lk x
 | .assign x=>Ze4 lk x
 | .pick c a b=>Zh5 lk c a b
 | .alloc e=>Zff C nx e
 | .box e x=>boxR C lk nx e x
 | .build t ps=>Zfg C lk t ps
 | .buildSlice t len ps=>Z2y C lk nx t len ps
 | .load t x=>Zh6 C lk O nx t x
 | .store t x y=>Zfh C lk O t x y
 | .nilCheck x=>Z6y lk x
 | .binOp op t x y _=>binR C lk op t x y
 | .unOp op _ x=>unR lk op x
 | .convert s d x=>Zh7 C lk O nx s d x
 | .makeInterface t x=>Zfi C lk t x
 | .makeFunc f a b=>Zh8 lk f a b
 | .makeSlice t l c=>Z4x C lk nx t l c
 | .slice t x lo hi mx=>Zfj C lk O t x lo hi mx
 | .fieldAddr s x f=>Z4y C lk s x f
 | .field t x f=>Zfk C lk t x f
 | .indexAddr t x i=>Z4z C lk t x i
 | .index t x i=>Zfl C lk t x i
 | .makeMap t r=>Z9s C lk nx t r
 | .lookup t x i ok=>ZbQ C lk O nx t x i ok
 | .mapUpdate t m k v=>Z0V C lk O t m k v
 | .insert t m k v=>Z0V C lk O t m k v
 | .mapEntry t m k=>Z6A C lk O nx t m k
 | .entryStore t m s v=>Z2A C lk O t m s v
 | .range t x=>Zfm C lk nx t x
 | .next x isStr=>Zh9 lk O x isStr
 | .extract x i=>Z9r lk x i
 | .typeAssert x _ t ok=>ZbP C lk x t ok
 | .call c=>match c.callee with
   | .builtin b=>Vl C lk O nx b c.args.toList c.argTypes.toList
   |_=> .fail
 |_=> .fail
end
end Go.Sx
namespace Go.Sx
open Go
structure Ent where
 g:Nat
 base:Nat
 cap:Nat
abbrev Env:=List (Option Ent)
def Env.get(η:Env):Blk->Option (Option Ent)
 | .glob g=>some (some ⟨g,0,0⟩)
 | .loc i=>η[i]?
mutual
def Den(η:Env):SV->Value->Prop
 | .bool b,v=>v= .bool b
 | .int k n,v=>v= .int k n
 | .str s,v=>v= .string ⟨s.toArray⟩
 | .ptr b r es c,v=> ∃e,η.get b=some (some e)/\v= .pointer (some ⟨e.g,e.base+(r*es+c),none⟩)
 | .sl b r es len lim,v=>
   (η.get b=some none/\v= .slice none 0 0/\len=0)\/
   (∃e o,η.get b=some (some e)/\v= .slice (some ⟨e.g,o,none⟩) len (lim.getD e.cap-r)/\r+len<=lim.getD e.cap/\lim.getD e.cap<=e.cap/\(r<lim.getD e.cap\/r=0->o=e.base+r*es))
 | .val u,v=>v=u/\u.oneCell'=true
 | .agg cs,v=> ∃vs,v= .agg ⟨vs⟩/\DenL η cs vs/\∀u∈vs,u.oneCell'=true
 | .arr es rs,v=> ∃vs,v= .agg ⟨vs⟩/\DenLL η es rs vs/\∀u∈vs,u.oneCell'=true
 | .tup ts,v=> ∃vs,v= .tuple ⟨vs⟩/\DenL η ts vs
 | .ifc t x,v=> ∃u,v= .iface t u/\Den η x u
 | .fn f a b,v=> ∃us vs,v= .func f ⟨us⟩ ⟨vs⟩/\DenL η a us/\DenL η b vs
 | .mp b,v=> ∃e,η.get b=some (some e)/\v= .map (some e.g)
 | .yf b,v=> ∃e,η.get b=some (some e)/\v= .func (.yield e.g) #[] #[]
 | .dfs _,_=>True
 | .nb n,v=> ∃b,v= .bool b/\(b=true->n=0)
 | .any,_=>True
def DenL(η:Env):List SV->List Value->Prop
 | [],vs=>vs=[]
 |c::cs,vs=> ∃u us,vs=u::us/\Den η c u/\DenL η cs us
def DenLL(η:Env)(es:Nat):List (List SV)->List Value->Prop
 | [],vs=>vs=[]
 |r::rs,vs=> ∃us ws,vs=us++ws/\us.length=es/\DenL η r us/\DenLL η es rs ws
end
def CellsAt(η:Env)(arr:Array Value)(o:Nat)(row:List SV):Prop:=
 ∀j sv,row[j]?=some sv->∃v,arr[o+j]?=some v/\v.oneCell'=true/\Den η sv v
def TmpsOK(η:Env)(tmps:Array Value)(fr:Fr):Prop:=∀t sv,lkp t fr=some sv->Den η sv (tmps.getD t undef)
def LpS.state:LpS->LoopState
 | .ready=> .ready
 | .busy=> .busy
 | .left _=> .done
def Ze6:Option Nat->Code
 |none=> .ret
 |some id=> .exit id
def LpS.jump:LpS->Option Code
 | .left j=>some (Ze6 j)
 |_=>none
def LpSat(η:Env)(r:Loop)(st:LpS)(li:LpI)(fr:Fr):Prop:=
 r.state=st.state/\r.pending=st.jump/\r.params.toList=li.ps/\r.assign=li.asg/\r.body=li.body/\r.tmps.size=li.N/\TmpsOK η r.tmps fr
def Vm(n:Nat)(fz:Nat×Nat):Prop:=∀o,o<n->¬(fz.1<=o/\o<fz.2)
def RowsSat(η:Env)(w:World)(own:Bool)(b:Blk)(es:Nat)(rs:List (List SV)):Prop:=
 (η.get b=some none/\rs=[])\/
 (∃e arr T fz,η.get b=some (some e)/\w.heap[e.g]?=some (.cells arr T fz)/\(own=true->Vm arr.size fz/\arr.size=e.cap*es/\rs.length<=e.cap/\e.base=0)/\
   ∀i row,rs[i]?=some row->row.length=es/\CellsAt η arr (e.base+i*es) row)
def MpSat(η:Env)(w:World)(b:Blk)(rs:List (List SV)):Prop:=
 ∃e es,η.get b=some (some e)/\e.base=0/\w.heap[e.g]?=some (.map es es.size)/\es.size=rs.length/\∀i row,rs[i]?=some row->∃en:MapEntry,es[i]?=some en/\en.born=i/\DenL η row [en.key,en.val]
def ZF(o:Obj)(es i j:Nat):Option Value:=match o with
 | .cells arr _ _=>arr[i*es+j]?
 | .map ens _=>(ens[i]?).map fun e=>match j with|0=>e.key|_=>e.val
 |_=>none
def Yd(rs:List (List DC))(i j:Nat):Option (Nat×List (List SV)):=match rs[i]? with
 |some row=>match row[j]? with
  |some (.kid es rows)=>some (es,rows)
  |_=>none
 |none=>none
def KidSat(η:Env)(w:World)(v:Value)(es:Nat)(rows:List (List SV)):Prop:=
 (v= .slice none 0 0/\rows=[])\/
 (∃g cap arr T fz,v= .slice (some ⟨g,0,none⟩) rows.length cap/\w.heap[g]?=some (.cells arr T fz)/\Vm arr.size fz/\arr.size=cap*es/\rows.length<=cap/\
   ∀i row,rows[i]?=some row->row.length=es/\CellsAt η arr (0+i*es) row)
structure KidsOK(η:Env)(w:World)(g:Nat)(o:Obj)(es:Nat)(rs:List (List DC)):Prop where
 sat:∀i j es' rows,Yd rs i j=some (es',rows)->∃v,ZF o es i j=some v/\KidSat η w v es' rows/\v.ownBlock≠some g
 ne:∀i j i' j' x x' v v' k,Yd rs i j=some x->Yd rs i' j'=some x'->ZF o es i j=some v->ZF o es i' j'=some v'->v.ownBlock=some k->v'.ownBlock=some k->i=i'/\j=j'
def DeepSat(η:Env)(w:World)(b:Blk)(es:Nat)(rs:List (List DC)):Prop:=∀e,η.get b=some (some e)->e.base=0/\∀o,w.heap[e.g]?=some o->KidsOK η w e.g o es rs
def HpSat(η:Env)(w:World)(own:Bool)(b:Blk):Hp->Prop
 | .box row=> ∃e arr T fz,η.get b=some (some e)/\w.heap[e.g]?=some (.cells arr T fz)/\(own=true->Vm arr.size fz)/\CellsAt η arr e.base row
 | .rows es rs=>
   (η.get b=some none/\rs=[])\/
   (∃e arr T fz,η.get b=some (some e)/\w.heap[e.g]?=some (.cells arr T fz)/\(own=true->Vm arr.size fz/\arr.size=e.cap*es/\rs.length<=e.cap/\e.base=0)/\
     ∀i row,rs[i]?=some row->row.length=es/\CellsAt η arr (e.base+i*es) row)
 | .tbl vs=> ∃e,η.get b=some (some e)/\e.base=0/\∃T fz,w.heap[e.g]?=some (.cells vs.toArray T fz)
 | .siter s pos=> ∃e,η.get b=some (some e)/\e.base=0/\w.heap[e.g]?=some (.stringIter ⟨s.toArray⟩ pos)
 | .mp rs=> ∃e es,η.get b=some (some e)/\e.base=0/\w.heap[e.g]?=some (.map es es.size)/\es.size=rs.length/\∀i row,rs[i]?=some row->∃en:MapEntry,es[i]?=some en/\en.born=i/\DenL η row [en.key,en.val]
 | .dfr f=> ∃e,η.get b=some (some e)/\e.base=0/\w.heap[e.g]?=some (.deferred (some []))/\(∀n∈f,w.heap[n]?=some (.deferred (some [])))/\(e.g::f).Nodup
 | .lp st li fr=> ∃e r,η.get b=some (some e)/\e.base=0/\w.heap[e.g]?=some (.loop r)/\LpSat η r st li fr
 | .bld T t l=> ∃e,η.get b=some (some e)/\e.base=0/\Lib.IsBuilderF T t 0 e.g (Lib.byteCells l) w
 | .deep true es rs=>(MpSat η w b (Zs rs)/\es=2)/\DeepSat η w b es rs
 | .deep false es rs=>RowsSat η w own b es (Zs rs)/\DeepSat η w b es rs
def kid(w:World)(g:Nat):Hp->Nat->Prop
 | .bld _ _ _,k=> ∃arr T fz v,w.heap[g]?=some (.cells arr T fz)/\arr[1]?=some v/\v.ownBlock=some k
 | .deep _ es rs,k=> ∃o i j x v,w.heap[g]?=some o/\Yd rs i j=some x/\ZF o es i j=some v/\v.ownBlock=some k
 | .dfr f,k=>k∈f
 |_,_=>False
def feet(η:Env)(w:World)(b:Blk)(h:Hp)(k:Nat):Prop:=∃e,η.get b=some (some e)/\(e.g=k\/kid w e.g h k)
structure FrW(w0 w:World)(F:Nat->Prop):Prop where
 os:w.os=w0.os
 tape:w.tape=w0.tape
 output:w.output=w0.output
 drawn:w0.drawn<=w.drawn
 size:w0.heap.size<=w.heap.size
 block:∀k,k<w0.heap.size->¬F k->w.heap[k]?=w0.heap[k]?
structure Mx where
 P:Program
 C:Cx
 w0:World
 F:Nat->Prop
 η0:Env
 px:Option (Fr×(SV->Hps->Nat->Prop)):=none
def Mx.fence(M:Mx):Fence:={Fence.wide with round:=M.C.ro.map (·.1)}
theorem Mx.all(M:Mx)(f:FuncId):M.fence.fn f:=trivial
theorem Mx.room(M:Mx)(n:Nat):M.fence.room n:=fun _ h=>by cases h
def OOK(M:Mx)(η:Env)(w:World)(O:Hps):Prop:=
 (∀i h,lkp i O=some h->HpSat η w true (.loc i) h/\∀k,feet η w (.loc i) h k->(M.F k\/M.w0.heap.size<=k))/\
 (∀i j h h' k,lkp i O=some h->lkp j O=some h'->i≠j->feet η w (.loc i) h k->¬feet η w (.loc j) h' k)
def lkS(C:Cx):Blk->Option Hp
 | .loc i=>lkpB (.loc i) C.S
 | .glob g=>lkp g C.T.globs
def SOK(M:Mx):Prop:=
 ∀b h,lkS M.C b=some h->HpSat M.η0 M.w0 false b h/\∀k,feet M.η0 M.w0 b h k->k<M.w0.heap.size/\¬M.F k
structure HeapOK(M:Mx)(η:Env)(w:World)(O:Hps)(nx:Nat):Prop where
 pre:M.η0<+:η
 len:η.length=nx
 own:OOK M η w O
 fr:FrW M.w0 w M.F
 sok:SOK M
def FrOK(η:Env)(a:Act)(fr:Fr):Prop:=∀t sv,lkp t fr=some sv->Den η sv (a.tmps.getD t undef)
def PathOK(a:Act)(path:List (Nat×Bool)):Prop:=∀p∈path,a.tmps.getD p.1 undef= .bool p.2
def GsOK(η:Env)(a:Act)(gs:Gs):Prop:=
 ∀t path sv,lkp t gs=some (path,sv)->(PathOK a path->Den η sv (a.tmps.getD t undef))/\(¬PathOK a path->a.tmps.getD t undef=undef)
abbrev DS:Nat:=1000000000
def farD(f:List Nat):List Deferred:=f.map fun n=>{target:= .collected n,args:= #[]}
def farV(f:List Nat):Value:= .tuple (f.map fun(n:Nat)=>Value.int .i64 (n:Int)).toArray
def DfL(η:Env):List SV->List Deferred->Prop
 | [],ds=>ds=[]
 | .ptr b _ _ _::l,ds=> ∃e r,η.get b=some (some e)/\ds={target:= .collected e.g,args:= #[]}::r/\DfL η l r
 | .val v::l,ds=> ∃f r,v=farV f/\ds=farD f++r/\DfL η l r
 | .fn f a b::l,ds=> ∃us vs r,DenL η a us/\DenL η b vs/\ds={target:= .fn f ⟨vs⟩,args:=⟨us⟩}::r/\DfL η l r
 |_::_,_=>False
def DfOK(η:Env)(ds:List Deferred):Option SV->Prop
 |some (.dfs l)=>DfL η l ds
 |_=>ds=[]
structure Models(M:Mx)(η:Env)(fr:Fr)(O:Hps)(nx:Nat)(a:Act)(w:World):Prop where
 heap:HeapOK M η w O nx
 size:a.tmps.size=M.C.N
 nds:M.C.N<=DS
 defers:DfOK η a.defers (lkp DS fr)
 ro:∀l j,M.C.ro=some (l,j)->∃e,η[j]?=some (some e)/\e.g=l
 frame:FrOK η a fr
inductive Ex where
 |normal|exit (id:Nat)|ret
abbrev Post:=Ex->Fr->Hps->Nat->Prop
def Z9t(M:Mx)(ch:List PanicEntry)(a:Act)(w:World):Prop:=
 ∃kp X,M.px=some (kp,X)/\∃η O nx v sv,ch=[{v,recovered:=false}]/\Models M η kp O nx a w/\Den η sv v/\X sv O nx
def ZaB(M:Mx)(Q:Post):Exit->Act->World->Prop
 | .normal,a,w=> ∃η fr O nx,Models M η fr O nx a w/\Q .normal fr O nx
 | .exit id,a,w=> ∃η fr O nx,Models M η fr O nx a w/\Q (.exit id) fr O nx
 | .ret,a,w=> ∃η fr O nx,Models M η fr O nx a w/\Q .ret fr O nx
 | .panic ch,a,w=>Z9t M ch a w
 |_,_,_=>False
def Walk(M:Mx)(c:Code)(fr:Fr)(O:Hps)(nx:Nat)(Q:Post):Prop:=
 ∀η a w,Models M η fr O nx a w->c.wpIn M.fence 0 M.P (ZaB M Q) a w
def Invokes(P:Program)(f:FuncId)(args:Array Value)(w:World)(R:Value->World->Prop):Prop:=
 (∃g,(callFunc f args).run P w= .ok (.enter g args) w/\Calls P g args w fun e w'=> ∃v,e= .returned v/\R v w')\/
 (∃v w',(callFunc f args).run P w= .ok (.value v) w'/\R v w')
structure CALL(M:Mx)(f:FuncId)(args:List SV)(O:Hps)(nx:Nat)(K:SV->Hps->Nat->Prop):Prop where
 out:∀η w vs,HeapOK M η w O nx->DenL η args vs->
  Invokes M.P f ⟨vs⟩ w fun v w'=> ∃r O' nx' η',η<+:η'/\HeapOK M η' w' O' nx'/\Den η' r v/\K r O' nx'
def InvokesE(P:Program)(f:FuncId)(args:Array Value)(w:World)(R RP:Value->World->Prop):Prop:=
 (∃g,(callFunc f args).run P w= .ok (.enter g args) w/\Calls P g args w fun e w'=>(∃v,e= .returned v/\R v w')\/∃v,e= .panicked [{v,recovered:=false}]/\RP v w')\/
 (∃v w',(callFunc f args).run P w= .ok (.value v) w'/\R v w')
structure CALLE(M:Mx)(f:FuncId)(args:List SV)(O:Hps)(nx:Nat)(KP K:SV->Hps->Nat->Prop):Prop where
 out:∀η w vs,HeapOK M η w O nx->DenL η args vs->
  InvokesE M.P f ⟨vs⟩ w (fun v w'=> ∃r O' nx' η',η<+:η'/\HeapOK M η' w' O' nx'/\Den η' r v/\K r O' nx') fun v w'=> ∃r O' nx' η',η<+:η'/\HeapOK M η' w' O' nx'/\Den η' r v/\KP r O' nx'
def ZbT:Fr->Fr->Prop
 | [],_=>True
 |(t,v)::r,fr=>lkp t fr=some v/\ZbT r fr
def ZbU(kp fr:Fr):Prop:=lkp 1000000000 fr=lkp 1000000000 kp/\ZbT kp fr
structure LOOP(M:Mx)(body:Code)(fr:Fr)(O:Hps)(nx:Nat)(Q:Post):Prop where
 out:∀η a w,Models M η fr O nx a w->∀(b:Frame) (k:List Item) (cs:List Frame),b.roundOf=M.fence.round->∃e a' w',ZaB M Q e a' w'/\ArrivesIn (Machine.fenced M.P M.fence) M.P (lone (b.atR a (.code body:: .inLoop body::k)) cs w) b k cs e a' w'
structure YIELD(M:Mx)(j:Nat)(args:List SV)(O:Hps)(nx:Nat)(K:SV->Hps->Nat->Prop):Prop where
 out:∀η w vs e,HeapOK M η w O nx->DenL η args vs->η[j]?=some (some e)->∃fn tmps asg body,(Instr.yield e.g ⟨vs⟩).run M.P w= .ok (.round e.g fn tmps asg body) w/\
  RoundIn Fence.wide 0 M.P e.g fn tmps asg body w fun en w'=> ∃v,en= .returned v/\∃r O' nx' η',η<+:η'/\HeapOK M η' w' O' nx'/\Den η' r v/\K r O' nx'
structure RANGEF(M:Mx)(f:Operand)(ps:Array Tmp)(asg body:Code)(fr:Fr)(O:Hps)(nx:Nat)(Q:Post):Prop where
 out:Walk M (.rangeFunc f ps asg body) fr O nx Q
structure DRAWN(M:Mx)(id:Nat)(ops:Array Oper)(fr:Fr)(O:Hps)(nx:Nat)(Q:Post):Prop where
 out:Walk M (.region id ops true) fr O nx Q
def Z4a(i:Nat)(h:Hp):Hps->(Hps->Prop)->Prop
 | [],K=>K []
 |(j,g)::r,K=>match Nat.beq i j with|true=>K ((j,h)::r)|false=>Z4a i h r fun r=>K ((j,g)::r)
def Z2B(i:Nat):Hps->(Hps->Prop)->Prop
 | [],K=>K []
 |(j,g)::r,K=>match Nat.beq i j with|true=>Z2B i r K|false=>Z2B i r fun r=>K ((j,g)::r)
abbrev ResT:=(SV->Hps->Nat->Prop)->Prop
def Zhc(O:Hps)(nx:Nat)(v:SV):ResT:=fun K=>WX v fun v=>K v O nx
def Zhd(O:Hps)(nx:Nat)(v:SV)(h:Hp):ResT:=fun K=>Z1v h fun h=>WX v fun v=>K v ((nx,h)::O) (nx+1)
def Zhe(O:Hps)(nx:Nat)(i:Nat)(h:Hp)(v:SV):ResT:=fun K=>Z1v h fun h=>WX v fun v=>Z4a i h O fun O=>K v O nx
def Zfo(O:Hps)(nx:Nat)(i:Nat)(h:Hp)(v:SV):ResT:=fun K=>Z1v h fun h=>WX v fun v=>Z2B i O fun O=>K v ((nx,h)::O) (nx+1)
def Zfp(p:Prop)(_:Res)(k:ResT):ResT:=fun K=>NEED p (k K)
def Zhf(rs:List (List SV))(i:Nat)(_:List SV->Res)(f:List SV->ResT):ResT:=fun K=>GET rs i fun row=>WB row fun row=>f row K
def Zhg(b:Bool)(_ _:Res)(x y:ResT):ResT:=fun K=>IF b x y K
def Zfq(r:Option (Nat×SV))(_:Nat->SV->Res)(_:Res)(f:Nat->SV->ResT)(x:ResT):ResT:=fun K=>FIND r (fun i v K=>WX v fun v=>f i v K) x K
def ZbV(r:Option (Nat×DC))(_:Nat->DC->Res)(_:Res)(f:Nat->DC->ResT)(x:ResT):ResT:=fun K=>FINDD r f x K
def Zfr(O:Hps)(nx:Nat)(i:Nat)(h h2:Hp)(v:SV):ResT:=fun K=>Z1v h fun h=>Z1v h2 fun h2=>WX v fun v=>Z4a i h O fun O=>K v ((nx,h2)::O) (nx+1)
def Zfs(O:Hps)(nx:Nat)(i:Nat)(h:Hp)(k:Nat)(v:SV):ResT:=fun K=>Z1v h fun h=>WX v fun v=>Z4a i h O fun O=>Z2B k O fun O=>K v O nx
def Zft:ResT:=fun _=>STOP "operation"
noncomputable def Res.go (O:Hps)(nx:Nat)(r:Res):ResT:=
 Res.rec (motive:=fun _=>ResT) (Zhc O nx) (Zhd O nx) (Zhe O nx) (Zfo O nx) Zfp Zhf Zhg Zfq ZbV (Zfr O nx) (Zfs O nx) Zft r
def putK(d:Option Tmp)(v:SV)(fr:Fr)(K:Fr->Prop):Prop:=
 match d with
 |some d=>K ((d,v)::fr)
 |none=>K fr
def JZ(N:Nat):Option Tmp->Bool
 |some d=>Nat.blt d N
 |none=>true
def U4(lk:Operand->Option SV)(c:Call):Option (FuncId×List SV):=
 match c.callee with
 | .value f=>match lk f,optAll lk c.args.toList with
   |some (.fn (.func f) first cap),some args=>some (f,first++args++cap)
   |_,_=>none
 |_=>none
def Z2C(lk:Operand->Option SV)(c:Call):Option (Nat×List SV):=
 match c.callee with
 | .value f=>match lk f,optAll lk c.args.toList with
   |some (.yf (.loc j)),some args=>some (j,args)
   |_,_=>none
 |_=>none
def Z2D(c:Call):Bool:=match c.callee with| .builtin _=>true|_=>false
def Z2E(M:Mx)(o:Oper)(lk:Operand->Option SV)(O:Hps)(nx:Nat)(K:SV->Hps->Nat->Prop):Prop:=
 match JZ M.C.N o.dst with
 |false=>STOP "slot"
 |true=>
  match o.op with
  | .call c=>match Z2D c with
    |true=>(opR M.C lk O nx (.call c)).go O nx K
    |false=>match U4 lk c with
     |some (f,args)=>UH args fun args=>CALL M f args O nx fun r O nx=>WX r fun r=>Z2x O fun O=>K r O nx
     |none=>match Z2C lk c with
      |some (j,args)=>UH args fun args=>YIELD M j args O nx fun r O nx=>WX r fun r=>Z2x O fun O=>K r O nx
      |none=>STOP "callee"
  |op=>(opR M.C lk O nx op).go O nx K
def X8:SV:= .tup []
def Zfu(M:Mx)(c:Call)(fr:Fr)(K:Fr->Prop):Prop:=
 match M.C.ro with
 |some _=>STOP "defer"
 |none=>match c.callee,c.args.toList with
  | .value f,[]=>match JX fr f with
    |some (.fn (.func g) [] cap)=>match lkp DS fr with
     |none=>K ((DS, .dfs [.fn (.func g) [] cap])::fr)
     |some _=>STOP "defer"
    |_=>STOP "defer"
  |_,_=>STOP "defer"
def ZaC(M:Mx)(o:Oper)(fr:Fr)(O:Hps)(nx:Nat)(K:Fr->SV->Hps->Nat->Prop):Prop:=
 match M.px with
 |none=>Z2E M o (JX fr) O nx (K fr)
 |some (kp,X)=>match JZ M.C.N o.dst with
  |false=>STOP "slot"
  |true=>match o.op with
   | .panic x=>match JX fr x with
     |some (.ifc t u)=>WX (.ifc t u) fun v=>ZbU kp fr/\X v O nx
     |_=>STOP "panic"
   | .defer c=>Zfu M c fr fun fr=>K fr X8 O nx
   | .call c=>match Z2D c with
     |true=>Z2E M o (JX fr) O nx (K fr)
     |false=>match U4 (JX fr) c with
      |some (f,args)=>UH args fun args=>CALLE M f args O nx (fun v O nx=>ZbU kp fr/\X v O nx) fun r O nx=>WX r fun r=>Z2x O fun O=>K fr r O nx
      |none=>Z2E M o (JX fr) O nx (K fr)
   |_=>Z2E M o (JX fr) O nx (K fr)
def UI(ops:List Oper)(j:Nat):Option Nat:=match nth ops j with|some o=>o.dst|none=>none
abbrev RunT:=Fr->Hps->Nat->(Fr->Hps->Nat->Prop)->Prop
def Zfv:RunT:=fun fr O nx K=>K fr O nx
def ZfX(M:Mx)(ops:List Oper)(o:Oper)(_:List Oper)(rest:RunT):RunT:=fun fr O nx K=>
 match o.guard with
 |none=>ZaC M o fr O nx fun fr v O nx=>putK o.dst v fr fun fr=>rest fr O nx K
 |some (j,want)=>
  match UI ops j with
  |none=>STOP "guard"
  |some s=>match lkp s fr with
   |some (.bool b)=>IF b
    (fun J=>match want with
     |true=>ZaC M o ((s, .bool true)::fr) O nx fun fr v O nx=>putK o.dst v fr fun fr=>J fr O nx
     |false=>match JZ M.C.N o.dst with|true=>putK o.dst X8 ((s, .bool true)::fr) fun fr=>J fr O nx|false=>STOP "slot")
    (fun J=>match want with
     |false=>ZaC M o ((s, .bool false)::fr) O nx fun fr v O nx=>putK o.dst v fr fun fr=>J fr O nx
     |true=>match JZ M.C.N o.dst with|true=>putK o.dst X8 ((s, .bool false)::fr) fun fr=>J fr O nx|false=>STOP "slot")
    (fun fr O nx=>rest fr O nx K)
   |some (.tup [])=>match JZ M.C.N o.dst with|true=>putK o.dst X8 fr fun fr=>rest fr O nx K|false=>STOP "slot"
   |_=>STOP "guard"
noncomputable def runS (M:Mx)(ops:List Oper)(l:List Oper):RunT:=List.rec (motive:=fun _=>RunT) Zfv (ZfX M ops) l
def Z5l:List (Nat×Bool)->List (Nat×Bool)->Bool
 | [],_=>true
 |(s,b)::r,p=>(p.any fun q=>Nat.beq q.1 s&& (q.2==b))&&Z5l r p
def Z5m(fr:Fr)(gs:Gs)(path:List (Nat×Bool)):Operand->Option SV
 | .tmp t=>match lkp t gs with
   |some (q,v)=>match Z5l q path with|true=>some v|false=>none
   |none=>lkp t fr
 |x=>JX fr x
def Z0f(fr:Fr)(gs:Gs):List (Nat×Bool)->Option Bool
 | []=>some true
 |(s,want)::r=>
  match Z5m fr gs r (.tmp s)with
  |some (.bool b)=>match Z0f fr gs r with
   |some x=>match want with
    |true=>some (x&&b)
    |false=>some (x&&!b)
   |none=>none
  |_=>none
abbrev ResV:=(SV->Prop)->Prop
def Ze7(v:SV):ResV:=fun K=>WX v K
def Zfw(g:Prop)(p:Prop)(_:Res)(k:ResV):ResV:=fun K=>NEED (g->p) (k K)
def Zhh(g:Prop)(rs:List (List SV))(i:Nat)(_:List SV->Res)(f:List SV->ResV):ResV:=fun K=>GETG g rs i fun row=>WB row fun row=>f row K
def Z0g:ResV:=fun _=>STOP "guarded operation"
noncomputable def Res.gg (g:Prop)(r:Res):ResV:=
 Res.rec (motive:=fun _=>ResV) Ze7 (fun _ _=>Z0g) (fun _ _ _=>Z0g) (fun _ _ _=>Z0g) (Zfw g) (Zhh g) (fun _ _ _ _ _=>Z0g) (fun _ _ _ _ _=>Z0g) (fun _ _ _ _ _=>Z0g) (fun _ _ _ _=>Z0g) (fun _ _ _ _=>Z0g) Z0g r
def Zhi(fr:Fr)(gs:Gs)(path:List (Nat×Bool))(c a b:Operand):Res:=
 match c with
 | .tmp s=>match Z5m fr gs path c with
   |some (.bool x)=>match Z5m fr gs ((s,true)::path) a,Z5m fr gs ((s,false)::path) b with
    |some (.bool a),some (.bool b)=> .val (.bool (bif x then a else b))
    |_,_=> .fail
   |_=> .fail
 |_=> .fail
def opG(C:Cx)(fr:Fr)(gs:Gs)(path:List (Nat×Bool))(O:Hps)(nx:Nat):Op->Res
 | .pick c a b=>Zhi fr gs path c a b
 |op=>opR C (Z5m fr gs path) O nx op
def ZbW(d:Nat)(p:List (Nat×Bool)):Bool:=p.all fun q=>!(Nat.beq q.1 d)
def Zfx(d:Option Tmp)(gs:Gs):Bool:=
 match d with
 |none=>true
 |some d=>gs.all fun e=>!(Nat.beq e.1 d)&&ZbW d e.2.1
def Z5n(gs:Gs)(s:Nat)(want:Bool):List (Nat×Bool):=(s,want)::(match lkp s gs with|some (q,_)=>q|none=>[])
abbrev ZbX:=Fr->Gs->Hps->Nat->(Fr->Hps->Nat->Prop)->Prop
def ZfY:ZbX:=fun fr _ O nx K=>K fr O nx
def ZfZ(M:Mx)(ops:List Oper)(o:Oper)(_:List Oper)(rest:ZbX):ZbX:=fun fr gs O nx K=>
 match JZ M.C.N o.dst with
 |false=>STOP "slot"
 |true=>match Zfx o.dst gs with
  |false=>STOP "slot"
  |true=>match o.guard with
   |none=>(match o.op with
    | .call c=>match Z2D c with
      |true=>(opG M.C fr gs [] O nx (.call c)).go O nx fun v O nx=>putK o.dst v fr fun fr=>rest fr gs O nx K
      |false=>match U4 (Z5m fr gs []) c with
       |some (f,args)=>UH args fun args=>CALL M f args O nx fun r O nx=>WX r fun r=>Z2x O fun O=>putK o.dst r fr fun fr=>rest fr gs O nx K
       |none=>STOP "callee"
    |op=>(opG M.C fr gs [] O nx op).go O nx fun v O nx=>putK o.dst v fr fun fr=>rest fr gs O nx K)
   |some (j,want)=>
    match UI ops j with
    |none=>STOP "guard"
    |some s=>match o.dst with
     |none=>STOP "guard"
     |some d=>match ZbW d (Z5n gs s want)with
      |false=>STOP "slot"
      |true=>match Z0f fr gs (Z5n gs s want)with
       |none=>STOP "path"
       |some g=>(opG M.C fr gs (Z5n gs s want) O nx o.op).gg (g=true) fun v=>rest ((d, .any)::fr) ((d,Z5n gs s want,v)::gs) O nx K
noncomputable def runG (M:Mx)(ops:List Oper)(l:List Oper):ZbX:=List.rec (motive:=fun _=>ZbX) ZfY (ZfZ M ops) l
def loud:Op->Bool
 | .move _| .assign _| .pick .. | .binOp .. | .unOp .. | .load .. | .index .. | .indexAddr .. | .fieldAddr .. | .field .. | .extract .. | .nilCheck _| .slice .. =>false
 | .convert .. =>false
 | .build .. =>false
 | .call {callee:= .builtin .len, .. }=>false
 |_=>true
def Zfy(ops:List Oper):Bool:=ops.any fun o=>match o.guard with|some _=>loud o.op|none=>false
def guarded(ops:List Oper):Bool:=ops.any fun o=>match o.guard with|some _=>true|none=>false
abbrev RunC:=Fr->Hps->Nat->Post->Prop
def Zii:RunC:=fun fr O nx Q=>Q .normal fr O nx
def Zhj(_:Nat):RunC:=fun fr O nx Q=>Q .normal fr O nx
noncomputable def ZbY (M:Mx)(id:Nat)(ops:Array Oper)(draw:Bool):RunC:=fun fr O nx Q=>
 match draw with
 |true=>DRAWN M id ops fr O nx Q
 |false=>match guarded ops.toList&&!(Zfy ops.toList)&&M.px.isNone with
  |true=>runG M ops.toList ops.toList fr [] O nx fun fr O nx=>Q .normal fr O nx
  |false=>runS M ops.toList ops.toList fr O nx fun fr O nx=>Q .normal fr O nx
def cSeq(_ _:Code)(a b:RunC):RunC:=fun fr O nx Q=>a fr O nx fun e fr O nx=>match e with| .normal=>b fr O nx Q|e=>Q e fr O nx
def Zhk(c:Operand)(_ _:Code)(x y:RunC):RunC:=fun fr O nx Q=>
 match JX fr c with
 |some (.bool b)=>match c with
  | .tmp t=>IF b (fun Q=>x ((t, .bool true)::fr) O nx Q) (fun Q=>y ((t, .bool false)::fr) O nx Q) Q
  |_=>IF b (fun Q=>x fr O nx Q) (fun Q=>y fr O nx Q) Q
 |some (.nb n)=>match c with
  | .tmp t=>UNK n (fun Q=>x ((t, .bool true)::fr) O nx Q) (fun Q=>y ((t, .bool false)::fr) O nx Q) Q
  |_=>STOP "test"
 |_=>STOP "test"
def Zhl(id:Nat)(_:Code)(body:RunC):RunC:=fun fr O nx Q=>body fr O nx fun e fr O nx=>match e with
 | .exit i=>match Nat.beq i id with|true=>Q .normal fr O nx|false=>Q (.exit i) fr O nx
 |e=>Q e fr O nx
def Zij(M:Mx)(body:Code)(_:RunC):RunC:=fun fr O nx Q=>LOOP M body fr O nx Q
def Zg0(M:Mx)(f:Operand)(ps:Array Tmp)(asg body:Code)(_ _:RunC):RunC:=fun fr O nx Q=>RANGEF M f ps asg body fr O nx Q
def Zik(id:Nat):RunC:=fun fr O nx Q=>Q (.exit id) fr O nx
def Zhm(_:Code)(body:RunC):RunC:=body
def cRet:RunC:=fun fr O nx Q=>Q .ret fr O nx
def Zhn:RunC:=fun _ _ _ _=>STOP "code"
noncomputable def run (M:Mx)(c:Code):RunC:=
 Code.rec (motive:=fun _=>RunC) Zii (ZbY M) cSeq Zhk Zhl (Zij M) (Zg0 M) Zik Zhm Zhj (fun _=>Zhn) cRet (fun _=>Zhn) c
theorem ZaD{b:Blk}{K:Blk->Prop}:Z6w b K<->K b:=by cases b<;>rfl
theorem Z4A{v:SV}{K:SV->Prop}:Z6x v K<->K v:=by
 cases v<;>first|rfl|(simp only[Z6x];exact ZaD)
theorem JS:∀{vs:List SV} {K:List SV->Prop},WB vs K<->K vs
 | [],_=>Iff.rfl
 |c::cs,K=>by simp only[WB,Z4A,JS]
theorem Z4B{v:SV}{K:SV->Prop}:Z9o v K<->K v:=by
 cases v<;>simp only[Z9o,Z4A,JS]
theorem Ja:∀{vs:List SV} {K:List SV->Prop},UH vs K<->K vs
 | [],_=>Iff.rfl
 |c::cs,K=>by simp only[UH,Z4B,Ja]
theorem Yv{v:SV}{K:SV->Prop}:WX v K<->K v:=by
 cases v<;>simp only[WX,Z4B,Ja]
theorem VO{h:Hp}{K:Hp->Prop}:Z1v h K<->K h:=by
 cases h<;>simp only[Z1v,JS]
theorem VP:∀{O:Hps} {K:Hps->Prop},Z2x O K<->K O
 | [],_=>Iff.rfl
 |(i,h)::r,K=>by simp only[Z2x,VP]
theorem Ju{i:Nat}{h:Hp}:∀{O:Hps} {K:Hps->Prop},Z4a i h O K<->K (setK i h O)
 | [],_=>Iff.rfl
 |(j,g)::r,K=>by
  unfold Z4a setK;cases Nat.beq i j
  ·exact Ju
  ·exact Iff.rfl
theorem XV{i:Nat}:∀{O:Hps} {K:Hps->Prop},Z2B i O K<->K (delK i O)
 | [],_=>Iff.rfl
 |(j,g)::r,K=>by
  unfold Z2B delK;cases Nat.beq i j
  ·exact XV
  ·exact XV
def Res.ok(O:Hps)(nx:Nat):Res->SV->Hps->Nat->Prop
 | .val v,v',O',nx'=>v'=v/\O'=O/\nx'=nx
 | .new v h,v',O',nx'=>v'=v/\O'=(nx,h)::O/\nx'=nx+1
 | .upd i h v,v',O',nx'=>v'=v/\O'=setK i h O/\nx'=nx
 | .repl i h v,v',O',nx'=>v'=v/\O'=(nx,h)::delK i O/\nx'=nx+1
 | .need p k,v',O',nx'=>p/\k.ok O nx v' O' nx'
 | .get rs i f,v',O',nx'=> ∃row,rs[i]?=some row/\(f row).ok O nx v' O' nx'
 | .find r f x,v',O',nx'=>match r with|some (i,v)=>(f i v).ok O nx v' O' nx'|none=>x.ok O nx v' O' nx'
 | .findD r f x,v',O',nx'=>match r with|some (i,v)=>(f i v).ok O nx v' O' nx'|none=>x.ok O nx v' O' nx'
 | .take i h h2 v,v',O',nx'=>v'=v/\O'=(nx,h2)::setK i h O/\nx'=nx+1
 | .putk i h k v,v',O',nx'=>v'=v/\O'=delK k (setK i h O)/\nx'=nx
 | .ite b x y,v',O',nx'=>if b=true then x.ok O nx v' O' nx' else y.ok O nx v' O' nx'
 | .fail,_,_,_=>False
theorem Res.go_ok{O:Hps}{nx:Nat}:∀{r:Res} {K:SV->Hps->Nat->Prop},r.go O nx K->∃v O' nx',r.ok O nx v O' nx'/\K v O' nx'
 | .val v,K,h=>by simp only[Res.go,Zhc,Yv]at h;exact⟨_,_,_,⟨rfl,rfl,rfl⟩,h⟩
 | .new v g,K,h=>by simp only[Res.go,Zhd,Yv,VO]at h;exact⟨_,_,_,⟨rfl,rfl,rfl⟩,h⟩
 | .upd i g v,K,h=>by simp only[Res.go,Zhe,Yv,VO,Ju]at h;exact⟨_,_,_,⟨rfl,rfl,rfl⟩,h⟩
 | .repl i g v,K,h=>by simp only[Res.go,Zfo,Yv,VO,XV]at h;exact⟨_,_,_,⟨rfl,rfl,rfl⟩,h⟩
 | .need p k,K,h=>by
   simp only[Res.go,Zfp]at h;obtain⟨v,O',nx',h1,h2⟩:=Res.go_ok h.k;exact⟨v,O',nx',⟨h.p,h1⟩,h2⟩
 | .get rs i f,K,h=>by
   simp only[Res.go,Zhf,JS]at h;obtain⟨row,hr,h⟩:=h.out;obtain⟨v,O',nx',h1,h2⟩:=Res.go_ok h;exact⟨v,O',nx',⟨row,hr,h1⟩,h2⟩
 | .find r f x,K,h=>by
   simp only[Res.go,Zfq]at h;cases hr:r with
   |none=>
    obtain⟨v,O',nx',h1,h2⟩:=Res.go_ok (h.n hr);exact⟨v,O',nx',h1,h2⟩
   |some p=>
    obtain⟨i,u⟩:=p;have h:=h.s i u hr;rw[Yv]at h;obtain⟨v,O',nx',h1,h2⟩:=Res.go_ok h;exact⟨v,O',nx',h1,h2⟩
 | .findD r f x,K,h=>by
   simp only[Res.go,ZbV]at h;cases hr:r with
   |none=>
    obtain⟨v,O',nx',h1,h2⟩:=Res.go_ok (h.n hr);exact⟨v,O',nx',h1,h2⟩
   |some p=>
    obtain⟨i,u⟩:=p;obtain⟨v,O',nx',h1,h2⟩:=Res.go_ok (h.s i u hr);exact⟨v,O',nx',h1,h2⟩
 | .take i g g2 v,K,h=>by simp only[Res.go,Zfr,Yv,VO,Ju]at h;exact⟨_,_,_,⟨rfl,rfl,rfl⟩,h⟩
 | .putk i g k v,K,h=>by simp only[Res.go,Zfs,Yv,VO,Ju,XV]at h;exact⟨_,_,_,⟨rfl,rfl,rfl⟩,h⟩
 | .ite b x y,K,h=>by
   simp only[Res.go,Zhg]at h;by_cases hb:b=true
   ·obtain⟨v,O',nx',h1,h2⟩:=Res.go_ok (h.t hb);exact⟨v,O',nx',by simp only[Res.ok,if_pos hb];exact h1,h2⟩
   ·obtain⟨v,O',nx',h1,h2⟩:=Res.go_ok (h.f (by simpa using hb));exact⟨v,O',nx',by simp only[Res.ok,if_neg hb];exact h1,h2⟩
 | .fail,K,h=>by simp only[Res.go,Zft]at h;exact h.out.elim
theorem Zn{a b:Nat}(h:Nat.beq a b=true):a=b:=Nat.eq_of_beq_eq_true h
theorem Xl(a:Nat):Nat.beq a a=true:=Nat.beq_refl a
theorem Z9u{a b:Nat}(h:a≠b):Nat.beq a b=false:=by
 cases e:Nat.beq a b
 ·rfl
 ·exact(h (Zn e)).elim
theorem Jv{a b:Nat}(h:Nat.beq a b=false):a≠b:=by
 intro e;subst e;rw[Xl]at h;cases h
section
variable {α:Type}
theorem Z6(t d:Nat)(v:α)(r:List (Nat×α)):lkp t ((d,v)::r)=if t=d then some v else lkp t r:=by
 by_cases h:t=d
 ·subst h;simp only[lkp,Xl,if_pos]
 ·simp only[lkp,Z9u h,if_neg h]
theorem ZX(i:Nat)(h:α):∀(O:List (Nat×α)) (j:Nat),(lkp i O).isSome->lkp j (setK i h O)=if j=i then some h else lkp j O
 | [],j,hi=>by simp[lkp]at hi
 |(d,u)::r,j,hi=>by
  unfold setK;by_cases e:i=d
  ·subst e;simp only[Xl,Z6];split<;>rfl
  ·simp only[Z9u e,Z6];rw[Z6,if_neg e]at hi;have ih:=ZX i h r j hi;by_cases hj:j=d
   ·subst hj;rw[if_pos rfl,if_neg (fun h=>e h.symm),if_pos rfl]
   ·rw[if_neg hj,if_neg hj,ih]
theorem Vn(i:Nat):∀(O:List (Nat×α)) (j:Nat),j≠i->lkp j (delK i O)=lkp j O
 | [],j,hj=>rfl
 |(d,u)::r,j,hj=>by
  unfold delK;by_cases e:i=d
  ·subst e;simp only[Xl,Z6,if_neg hj];exact Vn i r j hj
  ·simp only[Z9u e,Z6,Vn i r j hj]
theorem Yw(i:Nat):∀(O:List (Nat×α)),lkp i (delK i O)=none
 | []=>rfl
 |(d,u)::r=>by
  unfold delK;by_cases e:i=d
  ·subst e;simp only[Xl];exact Yw i r
  ·simp only[Z9u e,Z6,if_neg e];exact Yw i r
end
theorem blkEq_iff{a b:Blk}:WU a b=true<->a=b:=by
 cases a<;>cases b<;>simp[WU]
theorem Env.get_mono{η η':Env}(h:η<+:η'){b:Blk}{x:Option Ent}(hb:η.get b=some x):η'.get b=some x:=by
 cases b with
 |glob g=>exact hb
 |loc i=>
  obtain⟨t,rfl⟩:=h;simp only[Env.get]at hb⊢;rw[List.getElem?_append_left (List.getElem?_eq_some_iff.1 hb).1];exact hb
mutual
theorem Den.mono{η η':Env}(h:η<+:η'):∀{sv:SV} {v:Value},Den η sv v->Den η' sv v
 | .bool _,_,d=>d
 | .int _ _,_,d=>d
 | .str _,_,d=>d
 | .ptr b r es c,v,d=>by
   simp only[Den]at d⊢;obtain⟨e,h1,h2⟩:=d;exact⟨e,Env.get_mono h h1,h2⟩
 | .sl b r es len lim,v,d=>by
   simp only[Den]at d⊢;rcases d with⟨h1,h2⟩|⟨e,o,h1,h2⟩
   ·exact .inl ⟨Env.get_mono h h1,h2⟩
   ·exact .inr ⟨e,o,Env.get_mono h h1,h2⟩
 | .val _,_,d=>d
 | .agg cs,v,d=>by
   simp only[Den]at d⊢;obtain⟨vs,h1,h2,h3⟩:=d;exact⟨vs,h1,DenL.mono h h2,h3⟩
 | .arr es rs,v,d=>by
   simp only[Den]at d⊢;obtain⟨vs,h1,h2,h3⟩:=d;exact⟨vs,h1,DenLL.mono h h2,h3⟩
 | .tup ts,v,d=>by
   simp only[Den]at d⊢;obtain⟨vs,h1,h2⟩:=d;exact⟨vs,h1,DenL.mono h h2⟩
 | .ifc t x,v,d=>by
   simp only[Den]at d⊢;obtain⟨u,h1,h2⟩:=d;exact⟨u,h1,Den.mono h h2⟩
 | .fn f a b,v,d=>by
   simp only[Den]at d⊢;obtain⟨us,vs,h1,h2,h3⟩:=d;exact⟨us,vs,h1,DenL.mono h h2,DenL.mono h h3⟩
 | .mp b,v,d=>by
   simp only[Den]at d⊢;obtain⟨e,h1,h2⟩:=d;exact⟨e,Env.get_mono h h1,h2⟩
 | .yf b,v,d=>by
   simp only[Den]at d⊢;obtain⟨e,h1,h2⟩:=d;exact⟨e,Env.get_mono h h1,h2⟩
 | .dfs _,_,d=>d
 | .any,_,d=>d
 | .nb _,_,d=>d
theorem DenL.mono{η η':Env}(h:η<+:η'):∀{cs:List SV} {vs:List Value},DenL η cs vs->DenL η' cs vs
 | [],_,d=>d
 |c::cs,vs,d=>by
  simp only[DenL]at d⊢;obtain⟨u,us,h1,h2,h3⟩:=d;exact⟨u,us,h1,Den.mono h h2,DenL.mono h h3⟩
theorem DenLL.mono{η η':Env}{es:Nat}(h:η<+:η'):∀{rs:List (List SV)} {vs:List Value},DenLL η es rs vs->DenLL η' es rs vs
 | [],_,d=>d
 |r::rs,vs,d=>by
  simp only[DenLL]at d⊢;obtain⟨us,ws,h1,h2,h3,h4⟩:=d;exact⟨us,ws,h1,h2,DenL.mono h h3,DenLL.mono h h4⟩
end
theorem CellsAt.mono{η η':Env}(h:η<+:η'){arr:Array Value}{o:Nat}{row:List SV}(d:CellsAt η arr o row):CellsAt η' arr o row:=
 fun j sv hj=>let⟨v,h1,h2,h3⟩:=d j sv hj;⟨v,h1,h2,h3.mono h⟩
theorem TmpsOK.mono{η η':Env}(h:η<+:η'){tmps:Array Value}{fr:Fr}(d:TmpsOK η tmps fr):TmpsOK η' tmps fr:=fun t sv ht=>(d t sv ht).mono h
theorem LpSat.mono{η η':Env}(h:η<+:η'){r:Loop}{st:LpS}{li:LpI}{fr:Fr}(d:LpSat η r st li fr):LpSat η' r st li fr:=
 let⟨h1,h2,h3,h4,h5,h6,h7⟩:=d;⟨h1,h2,h3,h4,h5,h6,h7.mono h⟩
theorem DfL.mono{η η':Env}(h:η<+:η'):∀{l:List SV} {ds:List Deferred},DfL η l ds->DfL η' l ds
 | [],_,d=>d
 |c::l,ds,d=>by
  cases c with
  |ptr b _ _ _=>
   simp only[DfL]at d⊢;obtain⟨e,r,h1,h2,h3⟩:=d;exact⟨e,r,Env.get_mono h h1,h2,DfL.mono h h3⟩
  |val v=>
   simp only[DfL]at d⊢;obtain⟨f,r,h1,h2,h3⟩:=d;exact⟨f,r,h1,h2,DfL.mono h h3⟩
  |fn f x y=>
   simp only[DfL]at d⊢;obtain⟨us,vs,r,h1,h2,h3,h4⟩:=d;exact⟨us,vs,r,h1.mono h,h2.mono h,h3,DfL.mono h h4⟩
  |_=>simp only[DfL]at d
theorem DfOK.mono{η η':Env}(h:η<+:η'){ds:List Deferred}{v:Option SV}(d:DfOK η ds v):DfOK η' ds v:=by
 unfold DfOK at d⊢;split at d
 ·exact DfL.mono h d
 ·exact d
theorem KidSat.mono{η η':Env}(h:η<+:η'){w:World}{v:Value}{es:Nat}{rows:List (List SV)}(d:KidSat η w v es rows):KidSat η' w v es rows:=
 d.imp id fun⟨g,cap,arr,T,fz,h1,h2,h3,h4,h5,h6⟩=>⟨g,cap,arr,T,fz,h1,h2,h3,h4,h5,fun i row hr=>⟨(h6 i row hr).1,(h6 i row hr).2.mono h⟩⟩
theorem KidsOK.mono{η η':Env}(h:η<+:η'){w:World}{g:Nat}{o:Obj}{es:Nat}{rs:List (List DC)}(d:KidsOK η w g o es rs):KidsOK η' w g o es rs:=
 ⟨fun i j es' rows hk=>let⟨v,h1,h2,h3⟩:=d.sat i j es' rows hk;⟨v,h1,h2.mono h,h3⟩,d.ne⟩
theorem RowsSat.ent{η:Env}{w:World}{own:Bool}{b:Blk}{es:Nat}{rs:List (List SV)}(d:RowsSat η w own b es rs):∃x,η.get b=some x/\∀e,x=some e->e.g<w.heap.size:=by
 rcases d with h|⟨e,arr,T,fz,h1,h2,h3⟩
 ·exact⟨_,h.1,fun e' he=>by cases he⟩
 ·exact⟨_,h1,fun e' he=>by cases he;exact(Array.getElem?_eq_some_iff.1 h2).1⟩
theorem MpSat.ent{η:Env}{w:World}{b:Blk}{rs:List (List SV)}(d:MpSat η w b rs):∃x,η.get b=some x/\∀e,x=some e->e.g<w.heap.size:=by
 obtain⟨e,es,h1,h2,h3,h4⟩:=d;exact⟨_,h1,fun e' he=>by cases he;exact(Array.getElem?_eq_some_iff.1 h3).1⟩
theorem DeepSat.mono{η η':Env}(h:η<+:η'){w:World}{b:Blk}{es:Nat}{rs:List (List DC)}{x:Option Ent}(hx:η.get b=some x)(d:DeepSat η w b es rs):DeepSat η' w b es rs:=by
 intro e he;have:=Env.get_mono h hx;rw[this]at he;injection he with he;subst he
 obtain⟨h1,h2⟩:=d e hx;exact⟨h1,fun o ho=>(h2 o ho).mono h⟩
theorem HpSat.mono{η η':Env}(h:η<+:η'){w:World}{own:Bool}{b:Blk}:∀{hp:Hp},HpSat η w own b hp->HpSat η' w own b hp
 | .box row,d=>by
   simp only[HpSat]at d⊢;obtain⟨e,arr,T,fz,h1,h2,h3,h4⟩:=d;exact⟨e,arr,T,fz,Env.get_mono h h1,h2,h3,h4.mono h⟩
 | .rows es rs,d=>by
   simp only[HpSat]at d⊢;rcases d with⟨h1,h2⟩|⟨e,arr,T,fz,h1,h2,h3,h4⟩
   ·exact .inl ⟨Env.get_mono h h1,h2⟩
   ·exact .inr ⟨e,arr,T,fz,Env.get_mono h h1,h2,h3,fun i row hr=>⟨(h4 i row hr).1,(h4 i row hr).2.mono h⟩⟩
 | .tbl vs,d=>by
   simp only[HpSat]at d⊢;obtain⟨e,h1,h2⟩:=d;exact⟨e,Env.get_mono h h1,h2⟩
 | .siter s p,d=>by
   simp only[HpSat]at d⊢;obtain⟨e,h1,h2⟩:=d;exact⟨e,Env.get_mono h h1,h2⟩
 | .mp rs,d=>by
   simp only[HpSat]at d⊢;obtain⟨e,es,h1,h2,h3,h4,h5⟩:=d;exact⟨e,es,Env.get_mono h h1,h2,h3,h4,fun i row hr=>let⟨en,g1,g2,g3⟩:=h5 i row hr;⟨en,g1,g2,DenL.mono h g3⟩⟩
 | .dfr _,d=>by
   simp only[HpSat]at d⊢;obtain⟨e,h1,h2⟩:=d;exact⟨e,Env.get_mono h h1,h2⟩
 | .lp st li fr,d=>by
   simp only[HpSat]at d⊢;obtain⟨e,r,h1,h2,h3,h4⟩:=d;exact⟨e,r,Env.get_mono h h1,h2,h3,h4.mono h⟩
 | .bld T t l,d=>by
   simp only[HpSat]at d⊢;obtain⟨e,h1,h2⟩:=d;exact⟨e,Env.get_mono h h1,h2⟩
 | .deep true es rs,d=>by
   simp only[HpSat]at d⊢;obtain⟨⟨d1,d0⟩,d2⟩:=d;obtain⟨x,hx,_⟩:=d1.ent;refine⟨⟨?_,d0⟩,d2.mono h hx⟩;obtain⟨e,es,h1,h2,h3,h4,h5⟩:=d1;exact⟨e,es,Env.get_mono h h1,h2,h3,h4,fun i row hr=>let⟨en,g1,g2,g3⟩:=h5 i row hr;⟨en,g1,g2,DenL.mono h g3⟩⟩
 | .deep false es rs,d=>by
   simp only[HpSat]at d⊢;obtain⟨d1,d2⟩:=d;obtain⟨x,hx,_⟩:=d1.ent;refine⟨?_,d2.mono h hx⟩;rcases d1 with⟨h1,h2⟩|⟨e,arr,T,fz,h1,h2,h3,h4⟩
   ·exact .inl ⟨Env.get_mono h h1,h2⟩
   ·exact .inr ⟨e,arr,T,fz,Env.get_mono h h1,h2,h3,fun i row hr=>⟨(h4 i row hr).1,(h4 i row hr).2.mono h⟩⟩
theorem feet.own{η:Env}{w:World}{b:Blk}{h:Hp}{e:Ent}(he:η.get b=some (some e)):feet η w b h e.g:=⟨e,he, .inl rfl⟩
theorem feet.mono{η η':Env}(h:η<+:η'){w:World}{b:Blk}{hp:Hp}{k:Nat}(f:feet η w b hp k):feet η' w b hp k:=
 let⟨e,h1,h2⟩:=f;⟨e,Env.get_mono h h1,h2⟩
theorem feet.less{η η':Env}(h:η<+:η'){w:World}{b:Blk}{hp:Hp}{k:Nat}{x:Option Ent}(hx:η.get b=some x)(f:feet η' w b hp k):feet η w b hp k:=by
 obtain⟨e,h1,h2⟩:=f;have:=Env.get_mono h hx;rw[this]at h1;exact⟨e,hx.trans h1,h2⟩
theorem kid.keep{w w':World}{g:Nat}{hp:Hp}{k:Nat}(hw:w'.heap[g]?=w.heap[g]?)(f:kid w' g hp k):kid w g hp k:=by
 cases hp with
 |bld T t l=>
  simp only[kid]at f⊢;obtain⟨arr,T',fz,v,h1,h2,h3⟩:=f;exact⟨arr,T',fz,v,hw▸h1,h2,h3⟩
 |deep mp es rs=>
  simp only[kid]at f⊢;obtain⟨o,i,j,x,v,h1,h2,h3,h4⟩:=f;exact⟨o,i,j,x,v,hw▸h1,h2,h3,h4⟩
 |_=>exact f
theorem feet.keep{η:Env}{w w':World}{b:Blk}{hp:Hp}{k:Nat}(hw:∀e,η.get b=some (some e)->w'.heap[e.g]?=w.heap[e.g]?)(f:feet η w' b hp k):feet η w b hp k:=
 let⟨e,h1,h2⟩:=f;⟨e,h1,h2.imp id fun h=>h.keep (hw e h1)⟩
theorem Z8i{w w':World}{base:Nat}{t:TypeId}{size n:Nat}{v:Value}{xs:List Value}(h:w.ownsRowF base t size v n xs)(hk:∀k,v.ownBlock=some k->w'.heap[k]?=w.heap[k]?):w'.ownsRowF base t size v n xs:=by
 obtain⟨h1,h2⟩:=h;refine⟨h1,h2.imp id ?_⟩;rintro⟨g,cap,cur,fz,rfl,h3,h4,h5⟩;exact⟨g,cap,cur,fz,rfl,h3,(hk g rfl).trans h4,h5⟩
theorem WC{w w':World}{T t:TypeId}{b:Nat}{p:Value}{bs:List Value}(h:Lib.BuilderAtF T t 0 b p bs w)(hk:∀k,k=b\/kid w b (.bld T t []) k->w'.heap[k]?=w.heap[k]?):Lib.BuilderAtF T t 0 b p bs w':=by
 obtain⟨h1,v,h2,h3,h4⟩:=h;refine⟨h1,v,(hk b (.inl rfl)).trans h2,Z8i h3 fun k hv=>hk k (.inr ?_),h4⟩;simp only[kid];exact⟨_,_,_,v,h2,rfl,hv⟩
theorem KidSat.keep{η:Env}{w w':World}{v:Value}{es:Nat}{rows:List (List SV)}(d:KidSat η w v es rows)(hk:∀k,v.ownBlock=some k->w'.heap[k]?=w.heap[k]?):KidSat η w' v es rows:=by
 rcases d with d|⟨g,cap,arr,T,fz,h1,h2,h3⟩
 ·exact .inl d
 ·exact .inr ⟨g,cap,arr,T,fz,h1,(hk g (by rw[h1];rfl)).trans h2,h3⟩
theorem KidsOK.keep{η:Env}{w w':World}{g:Nat}{o:Obj}{es:Nat}{rs:List (List DC)}(d:KidsOK η w g o es rs)(hk:∀k i j x v,Yd rs i j=some x->ZF o es i j=some v->v.ownBlock=some k->w'.heap[k]?=w.heap[k]?):KidsOK η w' g o es rs:=
 ⟨fun i j es' rows hkd=>let⟨v,h1,h2,h3⟩:=d.sat i j es' rows hkd;⟨v,h1,h2.keep fun k hv=>hk k i j _ v hkd h1 hv,h3⟩,d.ne⟩
theorem DeepSat.keep{η:Env}{w w':World}{b:Blk}{mp:Bool}{es:Nat}{rs:List (List DC)}(d:DeepSat η w b es rs)(hk:∀k,feet η w b (.deep mp es rs) k->w'.heap[k]?=w.heap[k]?):DeepSat η w' b es rs:=by
 intro e he;obtain⟨h1,h2⟩:=d e he;refine⟨h1,fun o ho=>?_⟩;rw[hk e.g (feet.own he)]at ho;refine(h2 o ho).keep fun k i j x v hkd hc hv=>hk k ⟨e,he, .inr ?_⟩;simp only[kid];exact⟨o,i,j,x,v,ho,hkd,hc,hv⟩
theorem HpSat.keep{η:Env}{w w':World}{own:Bool}{b:Blk}{hp:Hp}(d:HpSat η w own b hp)(hk:∀k,feet η w b hp k->w'.heap[k]?=w.heap[k]?):HpSat η w' own b hp:=by
 cases hp with
 |box row=>
  simp only[HpSat]at d⊢;obtain⟨e,arr,T,fz,h1,h2,h3⟩:=d;exact⟨e,arr,T,fz,h1,(hk e.g (feet.own h1)).trans h2,h3⟩
 |rows es rs=>
  simp only[HpSat]at d⊢;rcases d with h|⟨e,arr,T,fz,h1,h2,h3⟩
  ·exact .inl h
  ·exact .inr ⟨e,arr,T,fz,h1,(hk e.g (feet.own h1)).trans h2,h3⟩
 |tbl vs=>
  simp only[HpSat]at d⊢;obtain⟨e,h1,h2,T,fz,h3⟩:=d;exact⟨e,h1,h2,T,fz,(hk e.g (feet.own h1)).trans h3⟩
 |siter s p=>
  simp only[HpSat]at d⊢;obtain⟨e,h1,h2,h3⟩:=d;exact⟨e,h1,h2,(hk e.g (feet.own h1)).trans h3⟩
 |mp rs=>
  simp only[HpSat]at d⊢;obtain⟨e,es,h1,h2,h3,h4⟩:=d;exact⟨e,es,h1,h2,(hk e.g (feet.own h1)).trans h3,h4⟩
 |dfr f=>
  simp only[HpSat]at d⊢;obtain⟨e,h1,h2,h3,h4,h5⟩:=d;exact⟨e,h1,h2,(hk e.g (feet.own h1)).trans h3,fun n hn=>(hk n ⟨e,h1, .inr hn⟩).trans (h4 n hn),h5⟩
 |lp st li fr=>
  simp only[HpSat]at d⊢;obtain⟨e,r,h1,h2,h3,h4⟩:=d;exact⟨e,r,h1,h2,(hk e.g (feet.own h1)).trans h3,h4⟩
 |bld T t l=>
  simp only[HpSat]at d⊢;obtain⟨e,h1,h2,h3⟩:=d
  have hk':∀k,k=e.g\/kid w e.g (.bld T t []) k->w'.heap[k]?=w.heap[k]?:=by
   rintro k (rfl|h)
   ·exact hk _ (feet.own h1)
   ·exact hk k ⟨e,h1, .inr h⟩
  exact⟨e,h1,h2,h3.imp (fun h=>WC h hk') (fun h=>WC h hk')⟩
 |deep mp es rs=>
  cases mp
  ·simp only[HpSat]at d⊢;obtain⟨d1,d2⟩:=d;refine⟨?_,d2.keep hk⟩;rcases d1 with h|⟨e,arr,T,fz,h1,h2,h3⟩
   ·exact .inl h
   ·exact .inr ⟨e,arr,T,fz,h1,(hk e.g (feet.own h1)).trans h2,h3⟩
  ·simp only[HpSat]at d⊢;obtain⟨⟨d1,d0⟩,d2⟩:=d;refine⟨⟨?_,d0⟩,d2.keep hk⟩;obtain⟨e,es,h1,h2,h3,h4⟩:=d1;exact⟨e,es,h1,h2,(hk e.g (feet.own h1)).trans h3,h4⟩
theorem HpSat.unown{η:Env}{w:World}{b:Blk}{hp:Hp}{own:Bool}(d:HpSat η w own b hp):HpSat η w false b hp:=by
 cases hp with
 |box row=>
  simp only[HpSat]at d⊢;obtain⟨e,arr,T,fz,h1,h2,h3,h4⟩:=d;exact⟨e,arr,T,fz,h1,h2,(fun h=>by cases h),h4⟩
 |rows es rs=>
  simp only[HpSat]at d⊢;rcases d with h|⟨e,arr,T,fz,h1,h2,h3,h4⟩
  ·exact .inl h
  ·exact .inr ⟨e,arr,T,fz,h1,h2,(fun h=>by cases h),h4⟩
 |siter s p=>exact d
 |tbl vs=>exact d
 |mp rs=>exact d
 |dfr f=>exact d
 |lp st li fr=>exact d
 |bld T t l=>exact d
 |deep mp es rs=>
  cases mp
  ·simp only[HpSat]at d⊢;obtain⟨d1,d2⟩:=d;refine⟨?_,d2⟩;rcases d1 with h|⟨e,arr,T,fz,h1,h2,h3,h4⟩
   ·exact .inl h
   ·exact .inr ⟨e,arr,T,fz,h1,h2,(fun h=>by cases h),h4⟩
  ·simp only[HpSat]at d⊢;exact d
theorem HpSat.lt{η:Env}{w:World}{b:Blk}{hp:Hp}{own:Bool}(d:HpSat η w own b hp):∃x,η.get b=some x/\∀e,x=some e->e.g<w.heap.size:=by
 have key:∀{e:Ent} {o:Obj},w.heap[e.g]?=some o->e.g<w.heap.size:=fun h=>(Array.getElem?_eq_some_iff.1 h).1;cases hp with
 |box row=>
  simp only[HpSat]at d;obtain⟨e,arr,T,fz,h1,h2,h3⟩:=d;exact⟨_,h1,fun e' he=>by cases he;exact key h2⟩
 |rows es rs=>
  simp only[HpSat]at d;rcases d with h|⟨e,arr,T,fz,h1,h2,h3⟩
  ·exact⟨_,h.1,fun e' he=>by cases he⟩
  ·exact⟨_,h1,fun e' he=>by cases he;exact key h2⟩
 |tbl vs=>
  simp only[HpSat]at d;obtain⟨e,h1,h2,T,fz,h3⟩:=d;exact⟨_,h1,fun e' he=>by cases he;exact key h3⟩
 |siter s p=>
  simp only[HpSat]at d;obtain⟨e,h1,h2,h3⟩:=d;exact⟨_,h1,fun e' he=>by cases he;exact key h3⟩
 |mp rs=>
  simp only[HpSat]at d;obtain⟨e,es,h1,h2,h3,h4⟩:=d;exact⟨_,h1,fun e' he=>by cases he;exact key h3⟩
 |dfr f=>
  simp only[HpSat]at d;obtain⟨e,h1,h2,h3,_⟩:=d;exact⟨_,h1,fun e' he=>by cases he;exact key h3⟩
 |lp st li fr=>
  simp only[HpSat]at d;obtain⟨e,r,h1,h2,h3,h4⟩:=d;exact⟨_,h1,fun e' he=>by cases he;exact key h3⟩
 |bld T t l=>
  simp only[HpSat]at d;obtain⟨e,h1,h2,h3⟩:=d;refine⟨_,h1,fun e' he=>?_⟩;cases he
  rcases h3 with h3|h3<;>exact h3.lt
 |deep mp es rs=>
  cases mp
  ·simp only[HpSat]at d;exact d.1.ent
  ·simp only[HpSat]at d;exact d.1.1.ent
theorem kid.lt{w:World}{g:Nat}{hp:Hp}{k:Nat}{η:Env}{own:Bool}{b:Blk}{e:Ent}(he:η.get b=some (some e))(hg:e.g=g)(d:HpSat η w own b hp)(f:kid w g hp k):k<w.heap.size:=by
 cases hp with
 |bld T t l=>
  simp only[kid]at f;simp only[HpSat]at d;obtain⟨arr,T',fz,v,h1,h2,h3⟩:=f;obtain⟨e',h4,h5,h6⟩:=d;rw[he]at h4;injection h4 with h4;injection h4 with h4;subst h4 hg
  have key:∀p,Lib.BuilderAtF T t 0 e.g p (Lib.byteCells l) w->k<w.heap.size:=by
   rintro p ⟨_,v',h7,⟨_,h8⟩,_⟩;rw[h7]at h1;injection h1 with h1;injection h1 with h1;subst h1;simp at h2;subst h2;rcases h8 with⟨rfl,_⟩|⟨g,cap,cur,fz,rfl,_,h9,_⟩
   ·simp[Value.ownBlock]at h3
   ·simp only[Value.ownBlock,Option.some.injEq]at h3;subst h3;exact(Array.getElem?_eq_some_iff.1 h9).1
  exact h6.elim (key _) (key _)
 |deep mp es rs=>
  simp only[kid]at f;obtain⟨o,i,j,⟨es',rows⟩,v,h1,h2,h3,h4⟩:=f
  have d2:DeepSat η w b es rs:=by
   cases mp<;>simp only[HpSat]at d<;>exact d.2
  subst hg;obtain⟨v',g1,g2,_⟩:=((d2 e he).2 o h1).sat i j es' rows h2;rw[h3]at g1;injection g1 with g1;subst g1
  rcases g2 with⟨rfl,_⟩|⟨g,cap,arr,T,fz,rfl,h5,_⟩
  ·cases h4
  ·simp only[Value.ownBlock,Option.some.injEq]at h4;subst h4;exact(Array.getElem?_eq_some_iff.1 h5).1
 |dfr l=>
  simp only[HpSat]at d;obtain⟨e',_,_,_,h4,_⟩:=d;exact(Array.getElem?_eq_some_iff.1 (h4 k f)).1
 |_=>exact f.elim
theorem HpSat.feet_lt{η:Env}{w:World}{own:Bool}{b:Blk}{hp:Hp}(d:HpSat η w own b hp){k:Nat}(f:feet η w b hp k):k<w.heap.size:=by
 obtain⟨e,h1,h2⟩:=f;rcases h2 with rfl|h2
 ·obtain⟨x,hx,hl⟩:=d.lt;rw[hx]at h1;injection h1 with h1
  exact hl e h1
 ·exact kid.lt h1 rfl d h2
theorem FrW.refl(w:World)(F:Nat->Prop):FrW w w F:=⟨rfl,rfl,rfl,Nat.le_refl _,Nat.le_refl _,fun _ _ _=>rfl⟩
theorem FrW.trans{a b c:World}{F:Nat->Prop}{G:Nat->Prop}(h:FrW a b F)(k:FrW b c G)(hg:∀n,G n->F n\/a.heap.size<=n):FrW a c F:=
 ⟨k.os.trans h.os,k.tape.trans h.tape,k.output.trans h.output,Nat.le_trans h.drawn k.drawn,Nat.le_trans h.size k.size,fun i hi hF=>
  (k.block i (Nat.lt_of_lt_of_le hi h.size) (fun g=>(hg i g).elim hF (fun h=>by omega))).trans (h.block i hi hF)⟩
theorem HeapOK.shared{M:Mx}{η:Env}{w:World}{O:Hps}{nx:Nat}(H:HeapOK M η w O nx){b:Blk}{h:Hp}(hb:lkS M.C b=some h):HpSat η w false b h:=by
 obtain⟨h1,h2⟩:=H.sok b h hb;refine(h1.keep (w':=w) fun k hk=>?_).mono H.pre;obtain⟨h3,h4⟩:=h2 k hk;exact H.fr.block k h3 h4
theorem HeapOK.ownF{M:Mx}{η:Env}{w:World}{O:Hps}{nx:Nat}(H:HeapOK M η w O nx){i:Nat}{h:Hp}(hi:lkp i O=some h){e:Ent}(he:η[i]?=some (some e)):M.F e.g\/M.w0.heap.size<=e.g:=(H.own.1 i h hi).2 e.g (feet.own he)
theorem HeapOK.look{M:Mx}{η:Env}{w:World}{O:Hps}{nx:Nat}(H:HeapOK M η w O nx){b:Blk}{h:Hp}(hb:Yp M.C O b=some h):HpSat η w false b h:=by
 cases b with
 |glob g=>exact H.shared (b:= .glob g) hb
 |loc i=>
  simp only[Yp]at hb;cases ho:lkp i O with
  |some h'=>rw[ho]at hb;cases hb;exact(H.own.1 i _ ho).1.unown
  |none=>rw[ho]at hb;exact H.shared (b:= .loc i) hb
theorem ZbZ(η:Env)(v:Value):Den η (X4 v) v:=by
 cases v with
 |string s=>simp only[X4,Den]
 |agg cs=>simp only[X4,Den]
 |tuple vs=>
  simp only[X4];split
  ·rename_i h;simp only[Den,DenL];exact⟨[],by rw[<-h],rfl⟩
  ·simp only[Den]
 |_=>simp[X4,Den,Value.oneCell']
theorem Yx{η:Env}{a:Act}{fr:Fr}(h:FrOK η a fr){x:Operand}{sv:SV}(hx:JX fr x=some sv):Den η sv (a.eval x):=by
 cases x with
 |tmp t=>exact h t sv hx
 |const v=>simp only[JX,Option.some.injEq]at hx;subst hx;exact ZbZ η v
 |global g=>simp only[JX,Option.some.injEq]at hx;subst hx;simp[Den,Env.get,Act.eval]
 |func f=>simp only[JX,Option.some.injEq]at hx;subst hx;simp[Den,DenL,Act.eval]
end Go.Sx
set_option linter.unusedSimpArgs false
namespace Go.Sx
open Go
def ShM(T:Tab)(t:TypeId):Sh->TypeDesc->Prop
 | .int k,d=>d= .int k
 | .bool,d=>d= .bool
 | .str,d=>d= .string
 | .ptr e,d=>d= .pointer e
 | .slice e,d=>d= .slice e
 | .array n e,d=>d= .array n e/\T.size t=n*T.size e/\T.sh e≠ .other
 | .struct fs,d=> ∃fields:Array Field,d= .struct fields/\fields.toList.map (fun f=>(f.offset,f.type))=fs/\∀p∈fs,T.sh p.2≠ .other
 | .map k e,d=>d= .map k e
 | .iface,d=> ∃ms,d= .interface ms
 | .func,d=> ∃a b c,d= .func a b c
 | .plain,d=>match d with| .float _| .complex _| .chan .. | .unsafePointer| .tuple _=>True|_=>False
 | .other,_=>True
structure TabOK(P:Program)(T:Tab):Prop where
 und:∀t,T.sh t≠ .other->∃d,P.underlying t=some d/\ShM T t (T.sh t) d
 info:∀t,T.sh t≠ .other->∃i,P.info? t=some i/\i.size=T.size t/\i.bytes=T.bytes t
 zero:∀t,T.sh t≠ .other->T.zero t≠ []->∃i z,P.info? t=some i/\i.zero=some z/\DenL [] (T.zero t) z.cells.toList/\(∀u∈z.cells.toList,u.oneCell'=true)/\
  (T.zero t).length=T.size t/\(YH T t (T.zero t)).isSome/\((∃fs,T.sh t= .struct fs)\/(∃n e,T.sh t= .array n e)->z= .agg z.cells)/\(¬((∃fs,T.sh t= .struct fs)\/(∃n e,T.sh t= .array n e))->z.oneCell'=true)
 zsh:∀t,T.zero t≠ []->T.sh t≠ .other
 flat:∀t ks,T.flat t=some ks->P.eqGuardType P.depth t=false/\∀(w:World) (η:Env) (xs ys:List SV) (us vs:List Value) (r:Bool),Ze ks xs ys=some r->DenL η xs us->DenL η ys vs->
  (Op.equalIn 10000 t (.agg ⟨us⟩) (.agg ⟨vs⟩)).run P w= .ok r w
 key:∀t ks,T.key t=some ks->
  (∀(w:World) (η:Env) (em:Bool) (a:SV) (u:Value),JF ks a=true->Den η a u->(Instr.checkKey em 10000 t u).run P w= .ok () w)/\
  (∀(w:World) (η:Env) (a b:SV) (u v:Value) (r:Bool),JY ks a b=some r->Den η a u->Den η b v->(Op.equal t u v).run P w= .ok r w/\∀d,P.underlying t=some d->Instr.sameNow d u v=none\/Instr.sameNow d u v=some r)/\(∃d,P.underlying t=some d)
def Z1x(P:Program)(o:Oper)(ρ:Operand->Value)(w:World)(u:Value)(w':World):Prop:=
 (execOp ρ o).run P w= .ok (.value u) w'\/((execOp ρ o).run P w= .ok .skip w'/\u=undef)
def Zfz:Op->Bool
 | .store .. | .next .. | .mapUpdate .. | .insert .. | .mapEntry .. | .entryStore .. =>true
 | .call {callee:= .builtin .copy, .. }=>true
 | .call {callee:= .builtin .clear, .. }=>true
 |_=>false
def Y3(M:Mx)(η:Env)(w:World)(o:Oper)(ρ:Operand->Value)(v:SV)(O':Hps)(nx':Nat):Prop:=
 ∃u w' η',Z1x M.P o ρ w u w'/\η<+:η'/\HeapOK M η' w' O' nx'/\Den η' v u/\(Zfz o.op=false->η'=η->w'=w)
structure At(M:Mx)(η:Env)(w:World)(O:Hps)(nx:Nat)(ρ:Operand->Value)(lk:Operand->Option SV):Prop where
 H:HeapOK M η w O nx
 T:TabOK M.P M.C.T
 L:∀x sv,lk x=some sv->Den η sv (ρ x)
section
variable {M:Mx}{η:Env}{w:World}{O:Hps}{nx:Nat}{ρ:Operand->Value}{lk:Operand->Option SV}{o:Oper}{v:SV}{O':Hps}{nx':Nat}
theorem At.same(A:At M η w O nx ρ lk){u:Value}(h:Z1x M.P o ρ w u w)(hv:Den η v u)(e1:O'=O)(e2:nx'=nx):Y3 M η w o ρ v O' nx':=by
 subst e1 e2;exact⟨u,w,η,h,List.prefix_rfl,A.H,hv,fun _ _=>rfl⟩
theorem At.val(A:At M η w O nx ρ lk){v0:SV}(hr:(Res.val v0).ok O nx v O' nx')(h:∃u,Z1x M.P o ρ w u w/\Den η v0 u):Y3 M η w o ρ v O' nx':=by
 obtain⟨rfl,e1,e2⟩:=hr;obtain⟨u,h1,h2⟩:=h;exact A.same h1 h2 e1 e2
end
theorem V0{η:Env}{k:IntKind}{n:Int}{v:Value}(h:Den η (.int k n) v):v= .int k n:=h
theorem X5{η:Env}{b:Bool}{v:Value}(h:Den η (.bool b) v):v= .bool b:=h
theorem Z1y{η:Env}{s:List UInt8}{v:Value}(h:Den η (.str s) v):v= .string ⟨s.toArray⟩:=h
theorem JG{P:Program}{r:Nat}{es:Array MapEntry}{c:Nat}{w:World}(h:w.heap[r]?=some (.map es c)):(getObj r).run P w= .ok (.map es c) w:=by simp[getObj,Sem.run,h]
theorem Z3{P:Program}{t:TypeId}{d:TypeDesc}(h:P.underlying t=some d)(w:World):(underlying t).run P w= .ok d w:=run_underlying h w
theorem W8{P:Program}{t:TypeId}{i:TypeInfo}(h:P.info? t=some i)(w:World):(typeInfo t).run P w= .ok i w:=by simp[typeInfo,h]
theorem Zq{P:Program}{t:TypeId}{i:TypeInfo}(h:P.info? t=some i)(w:World):(sizeOf t).run P w= .ok i.size w:=by simp[sizeOf,W8 h]
theorem XW{P:Program}{t:TypeId}{i:TypeInfo}{z:Value}(h:P.info? t=some i)(hz:i.zero=some z)(w:World):(zeroValue t).run P w= .ok z w:=by simp[zeroValue,W8 h,hz]
theorem kindEq_iff{a b:IntKind}:XU a b=true<->a=b:=by cases a<;>cases b<;>simp[XU]
theorem Z2F(s:List UInt8):(ByteArray.mk s.toArray).toList=s:=by rw[ByteArray.toList_eq]
theorem Z6B{P:Program}{w:World}{op:BinOp}{k:IntKind}{a b:Int}{nx:Nat}{O:Hps}{v':SV}{O':Hps}{nx':Nat}(ρ:Operand->Value)(dst:Option Tmp)(ty:TypeId)(pos:String)(af:Array Edge)(gd:Option (Nat×Bool))
 (t u:TypeId) (x y:Operand) (k':IntKind) (η:Env) (hx:ρ x= .int k a) (hy:ρ y= .int k' b) (hr:(ZfU op k k' a b).ok O nx v' O' nx'):
 O'=O/\nx'=nx/\∃z,(execOp ρ ⟨dst, .binOp op t x y u,ty,pos,af,gd⟩).run P w= .ok (.value z) w/\Den η v' z:=by
 have hg:(eqGuard op t x y (.int k a) (.int k' b))=pure ():=by cases op<;>rfl
 unfold ZfU at hr;cases op
 case shl=>
  obtain⟨h0,rfl,rfl,rfl⟩:=hr;refine⟨rfl,rfl,_,?_,rfl⟩;simp[execOp,hx,hy,hg,binOp,Op.shift,Int.not_lt.2 h0,iShl]
 case shr=>
  obtain⟨h0,rfl,rfl,rfl⟩:=hr;refine⟨rfl,rfl,_,?_,rfl⟩;simp[execOp,hx,hy,hg,binOp,Op.shift,Int.not_lt.2 h0,iShr]
 all_goals
  simp only at hr;cases hk:XU k k'
  ·rw[hk]at hr;exact hr.elim
  ·rw[hk]at hr;have hk:=kindEq_iff.1 hk;subst hk
   first
    |(obtain⟨h0,rfl,rfl,rfl⟩:=hr
      refine⟨rfl,rfl,_,?_,rfl⟩
      simp[execOp,hx,hy,hg,binOp,Op.intDiv,h0])
    |(obtain⟨rfl,rfl,rfl⟩:=hr
      refine⟨rfl,rfl,_,?_,rfl⟩
      simp[execOp,hx,hy,hg,binOp,Op.intArith,Op.intBits,Op.intCmp,iAnd,iOr,iXor,ZbK])
    |exact hr.elim
theorem Z6C{P:Program}{w:World}{op:BinOp}{a b:List UInt8}{nx:Nat}{O:Hps}{v':SV}{O':Hps}{nx':Nat}(ρ:Operand->Value)(dst:Option Tmp)(ty:TypeId)(pos:String)(af:Array Edge)(gd:Option (Nat×Bool))
 (t u:TypeId) (x y:Operand) (η:Env) (hx:ρ x= .string ⟨a.toArray⟩) (hy:ρ y= .string ⟨b.toArray⟩) (hr:(ZfV op a b).ok O nx v' O' nx'):
 O'=O/\nx'=nx/\∃z,(execOp ρ ⟨dst, .binOp op t x y u,ty,pos,af,gd⟩).run P w= .ok (.value z) w/\Den η v' z:=by
 have hg:(eqGuard op t x y (.string ⟨a.toArray⟩) (.string ⟨b.toArray⟩))=pure ():=by cases op<;>rfl
 unfold ZfV at hr;cases op
 case add=>
  obtain⟨h0,rfl,rfl,rfl⟩:=hr;refine⟨rfl,rfl,_,?_,rfl⟩;have e1:ByteArray.size ⟨a.toArray⟩=a.length:=by simp[ByteArray.size]
  have e2:ByteArray.size ⟨b.toArray⟩=b.length:=by simp[ByteArray.size]
  have e3:(ByteArray.mk a.toArray++ByteArray.mk b.toArray)=ByteArray.mk (a++b).toArray:=by
   apply ByteArray.ext;simp
  have h1:¬(((a.length+b.length:Nat):Int)>9223372036854775807):=by omega
  simp[execOp,hx,hy,hg,binOp,Op.stringOp,e1,e2,e3];omega
 all_goals
  first
   |(obtain⟨rfl,rfl,rfl⟩:=hr
     refine⟨rfl,rfl,_,?_,rfl⟩
     simp[execOp,hx,hy,hg,binOp,Op.stringOp,Z2F,Zaz,bne])
   |exact hr.elim
end Go.Sx
namespace Go.Sx
open Go
section
variable {η:Env}
theorem ZP:∀{cs:List SV} {vs:List Value},DenL η cs vs->vs.length=cs.length
 | [],vs,h=>by simp only[DenL]at h;subst h;rfl
 |c::cs,vs,h=>by
  simp only[DenL]at h;obtain⟨u,us,rfl,_,h⟩:=h;simp[ZP h]
theorem XC:∀{cs:List SV} {vs:List Value} {i:Nat} {c:SV},DenL η cs vs->cs[i]?=some c->∃u,vs[i]?=some u/\Den η c u
 | [],vs,i,c,h,hc=>by simp at hc
 |d::cs,vs,i,c,h,hc=>by
  simp only[DenL]at h;obtain⟨u,us,rfl,h1,h2⟩:=h;cases i with
  |zero=>simp at hc;subst hc;exact⟨u,rfl,h1⟩
  |succ i=>simp at hc;simpa using XC h2 hc
theorem VD{α:Type}:∀{cs:List α} {i:Nat},nth cs i=cs[i]?
 | [],i=>by simp[nth]
 |c::cs,0=>by simp[nth]
 |c::cs,i+1=>by simp[nth,VD (cs:=cs) (i:=i)]
theorem Z2G:∀{n:Nat} {cs:List SV} {vs:List Value},DenL η cs vs->DenL η (cs.drop n) (vs.drop n)
 |0,cs,vs,h=>h
 |n+1,[],vs,h=>by simp only[DenL]at h;subst h;simp[DenL]
 |n+1,c::cs,vs,h=>by
  simp only[DenL]at h;obtain⟨u,us,rfl,_,h2⟩:=h;simpa using Z2G (n:=n) h2
theorem VQ:∀{n:Nat} {cs r:List SV},Z0S n cs=some r->r=cs.take n/\n<=cs.length
 |0,cs,r,h=>by simp only[Z0S,Option.some.injEq]at h;subst h;simp
 |n+1,[],r,h=>by simp[Z0S]at h
 |n+1,c::cs,r,h=>by
  simp only[Z0S]at h;cases e:Z0S n cs with
  |none=>rw[e]at h;cases h
  |some q=>
   rw[e]at h;simp only[Option.some.injEq]at h;subst h;obtain⟨h1,h2⟩:=VQ e;subst h1;simp;omega
theorem Z2H:∀{n:Nat} {cs:List SV} {vs:List Value},DenL η cs vs->DenL η (cs.take n) (vs.take n)
 |0,cs,vs,h=>by simp[DenL]
 |n+1,[],vs,h=>by simp only[DenL]at h;subst h;simp[DenL]
 |n+1,c::cs,vs,h=>by
  simp only[DenL]at h;obtain⟨u,us,rfl,h1,h2⟩:=h;simp only[List.take_succ_cons,DenL];exact⟨u,_,rfl,h1,Z2H (n:=n) h2⟩
theorem YW:∀{cs ds:List SV} {us vs:List Value},DenL η cs us->DenL η ds vs->DenL η (cs++ds) (us++vs)
 | [],ds,us,vs,h,k=>by simp only[DenL]at h;subst h;exact k
 |c::cs,ds,us,vs,h,k=>by
  simp only[DenL]at h;obtain⟨u,us,rfl,h1,h2⟩:=h;simp only[List.cons_append,DenL];exact⟨u,_,rfl,h1,YW h2 k⟩
theorem Z01:∀{cs:List SV} {vs:List Value},vs.length=cs.length->(∀(i:Nat) (c:SV),cs[i]?=some c->∃u,vs[i]?=some u/\Den η c u)->DenL η cs vs
 | [],vs,hl,_=>by simp only[DenL];exact List.length_eq_zero_iff.1 hl
 |c::cs,[],hl,_=>by simp at hl
 |c::cs,v::vs,hl,h=>by
  obtain⟨u,h1,h2⟩:=h 0 c rfl;simp at h1;subst h1;simp only[DenL]
  exact⟨v,vs,rfl,h2,Z01 (by simpa using hl) fun i d hd=>by
   obtain⟨u,h3,h4⟩:=h (i+1) d (by simpa using hd)
   exact⟨u,by simpa using h3,h4⟩⟩
theorem lenIs_iff{α:Type}:∀{xs:List α} {n:Nat},Wx xs n=true<->xs.length=n
 | [],0=>by simp[Wx]
 | [],n+1=>by simp[Wx]
 |x::xs,0=>by simp[Wx]
 |x::xs,n+1=>by simp[Wx,lenIs_iff (xs:=xs) (n:=n)]
theorem Jb{η:Env}{es:Nat}:∀{rs:List (List SV)} {vs:List Value},DenLL η es rs vs->DenL η rs.flatten vs
 | [],vs,h=>by simp only[DenLL]at h;subst h;simp[DenL]
 |r::rs,vs,h=>by
  simp only[DenLL]at h;obtain⟨us,ws,rfl,_,h1,h2⟩:=h;simp only[List.flatten_cons];exact YW h1 (Jb h2)
theorem Den.flKey{η:Env}{v:SV}{u:Value}(h:Den η v u):Den η (flKey v) u:=by
 cases v with
 |arr es rs=>
  simp only[Den]at h;obtain⟨vs,rfl,h1,h2⟩:=h;simp only[Sx.flKey,Den];exact⟨vs,rfl,Jb h1,h2⟩
 |_=>exact h
theorem Z6D{η:Env}{ρ:Operand->Value}{lk:Operand->Option SV}(L:∀x sv,lk x=some sv->Den η sv (ρ x)){x:Operand}{k:SV}(h:Ze3 lk x=some k):Den η k (ρ x):=by
 unfold Ze3 at h;split at h
 ·rename_i k' hk;injection h with h;subst h;exact(L _ _ hk).flKey
 ·cases h
theorem UJ{sv:SV}{cs:List SV}{v:Value}(h:Den η sv v)(hc:cellsOf sv=some cs):DenL η cs v.cells.toList/\∀u∈v.cells.toList,u.oneCell'=true:=by
 cases sv with
 |agg ds=>
  simp only[cellsOf,Option.some.injEq]at hc;subst hc;simp only[Den]at h;obtain⟨vs,rfl,h1,h2⟩:=h;exact⟨h1,h2⟩
 |arr _ _=>
  simp only[cellsOf,Option.some.injEq]at hc;subst hc;simp only[Den]at h;obtain⟨vs,rfl,h1,h2⟩:=h;exact⟨Jb h1,h2⟩
 |tup _=>simp[cellsOf]at hc
 |any=>simp[cellsOf]at hc
 |nb n=>simp[cellsOf]at hc
 |dfs l=>simp[cellsOf]at hc
 |yf b=>
  simp only[cellsOf,Option.some.injEq]at hc;subst hc;have h':=h;simp only[Den]at h;obtain⟨e,h1,rfl⟩:=h;simp only[Value.cells,DenL];exact⟨⟨_,[],rfl,h',rfl⟩,by simp[Value.oneCell']⟩
 |bool b=>simp only[cellsOf,Option.some.injEq]at hc;subst hc;simp only[Den]at h;subst h;simp[DenL,Den,Value.cells,Value.oneCell']
 |int k n=>simp only[cellsOf,Option.some.injEq]at hc;subst hc;simp only[Den]at h;subst h;simp[DenL,Den,Value.cells,Value.oneCell']
 |str s=>simp only[cellsOf,Option.some.injEq]at hc;subst hc;simp only[Den]at h;subst h;simp[DenL,Den,Value.cells,Value.oneCell']
 |val u=>
  simp only[cellsOf,Option.some.injEq]at hc;subst hc;have h':=h;simp only[Den]at h;obtain⟨rfl,h1⟩:=h;have hv:v.cells= #[v]:=by cases v<;>simp_all[Value.cells,Value.oneCell']
  rw[hv];simp only[DenL];exact⟨⟨v,[],rfl,h',rfl⟩,by simpa using h1⟩
 |ptr b r es c=>
  simp only[cellsOf,Option.some.injEq]at hc;subst hc;have h':=h;simp only[Den]at h;obtain⟨e,h1,rfl⟩:=h;simp only[Value.cells,DenL];exact⟨⟨_,[],rfl,h',rfl⟩,by simp[Value.oneCell']⟩
 |sl b r es len lim=>
  simp only[cellsOf,Option.some.injEq]at hc;subst hc;have h':=h;simp only[Den]at h;rcases h with⟨_,rfl,_⟩|⟨e,o,_,rfl,_⟩<;>simp only[Value.cells,DenL]<;>exact⟨⟨_,[],rfl,h',rfl⟩,by simp[Value.oneCell']⟩
 |ifc t x=>
  simp only[cellsOf,Option.some.injEq]at hc;subst hc;have h':=h;simp only[Den]at h;obtain⟨u,rfl,_⟩:=h;simp only[Value.cells,DenL];exact⟨⟨_,[],rfl,h',rfl⟩,by simp[Value.oneCell']⟩
 |mp b=>
  simp only[cellsOf,Option.some.injEq]at hc;subst hc;have h':=h;simp only[Den]at h;obtain⟨e,_,rfl⟩:=h;simp only[Value.cells,DenL];exact⟨⟨_,[],rfl,h',rfl⟩,by simp[Value.oneCell']⟩
 |fn f a b=>
  simp only[cellsOf,Option.some.injEq]at hc;subst hc;have h':=h;simp only[Den]at h;obtain⟨us,vs,rfl,_⟩:=h;simp only[Value.cells,DenL];exact⟨⟨_,[],rfl,h',rfl⟩,by simp[Value.oneCell']⟩
end
def Uz:Sh->Bool
 | .struct _| .array _ _=>true
 |_=>false
theorem Z2I{P:Program}{T:Tab}(hT:TabOK P T){t:TypeId}(h:T.sh t≠ .other)(w:World):
 (isAgg t).run P w= .ok (Uz (T.sh t)) w:=by
 obtain⟨d,h1,h2⟩:=hT.und t h;simp only[isAgg,Sem.run_bind,Z3 h1,Result.andThen_ok];cases hs:T.sh t<;>rw[hs]at h2<;>simp only[ShM]at h2
 case array=>obtain⟨rfl,_⟩:=h2;rfl
 case struct=>obtain⟨fs,rfl,_⟩:=h2;rfl
 case iface=>obtain⟨ms,rfl⟩:=h2;rfl
 case func=>obtain⟨a,b,c,rfl⟩:=h2;rfl
 case plain=>cases d<;>first|exact h2.elim|rfl
 case other=>exact(h hs).elim
 all_goals (subst h2;rfl)
def From(η:Env)(row:List SV)(us:List Value)(off:Nat):Prop:=∀(j:Nat) (sv:SV),row[j]?=some sv->∃u,us[off+j]?=some u/\Den η sv u
theorem From.take{η:Env}{row:List SV}{us:List Value}{off n:Nat}(h:From η row us off)(hn:n<=row.length):DenL η (row.take n) ((us.drop off).take n):=by
 refine Z01 ?_ ?_
 ·cases n with
  |zero=>simp
  |succ n=>
   obtain⟨u,hu,_⟩:=h n _ (List.getElem?_eq_getElem (by omega));have:=(List.getElem?_eq_some_iff.1 hu).1;simp;omega
 ·intro i c hc;rw[List.getElem?_take]at hc;split at hc
  ·obtain⟨u,hu,hd⟩:=h i c hc;refine⟨u,?_,hd⟩;rw[List.getElem?_take,if_pos ‹_›,List.getElem?_drop];exact hu
  ·cases hc
theorem From.of_denL{η:Env}{row:List SV}{us:List Value}(h:DenL η row us)(off:Nat):From η (row.drop off) us off:=by
 intro j sv hj;rw[List.getElem?_drop]at hj;exact XC h hj
theorem Z2J{P:Program}{T:Tab}(hT:TabOK P T){η:Env}{t:TypeId}{off off0:Nat}{row:List SV}{us:List Value}{v:SV}{O:Hps}{nx:Nat}{O':Hps}{nx':Nat}(w:World)(hd:From η (row.drop off0) us off)(h1:∀u∈us,u.oneCell'=true)
 (hr:(WW T t off0 row).ok O nx v O' nx'):O'=O/\nx'=nx/\∃u,(part t ⟨us⟩ off).run P w= .ok u w/\Den η v u:=by
 unfold WW at hr;cases ht:Z0S (T.size t) (row.drop off0)with
 |none=>rw[ht]at hr;exact hr.elim
 |some cs=>
  rw[ht]at hr;simp only at hr;obtain⟨rfl,hlen⟩:=VQ ht;have hdd:=hd.take hlen;cases ho:YH T t ((row.drop off0).take (T.size t))with
  |none=>rw[ho]at hr;exact hr.elim
  |some sv=>
   rw[ho]at hr;obtain⟨rfl,rfl,rfl⟩:=hr
   have hsh:T.sh t≠ .other:=by
    intro e;simp only[YH,e]at ho;cases ho
   obtain⟨i,hi,hsz,_⟩:=hT.info t hsh;refine⟨rfl,rfl,?_⟩;have ag:=Z2I hT hsh w
   have agg:(Uz (T.sh t))=true->v= .agg ((row.drop off0).take (T.size t))->∃u,(part t ⟨us⟩ off).run P w= .ok u w/\Den η v u:=by
    rintro hb rfl;rw[hb]at ag;refine⟨.agg ⟨(us.drop off).take (T.size t)⟩,?_,?_⟩
    ·simp[part,ag,Zq hi,hsz,List.extract_eq_take_drop]
    ·simp only[Den];exact⟨(us.drop off).take (T.size t),rfl,hdd,fun u hu=>h1 u (List.mem_of_mem_drop (List.mem_of_mem_take hu))⟩
   have one:(Uz (T.sh t))=false->(row.drop off0).take (T.size t)=[v]->∃u,(part t ⟨us⟩ off).run P w= .ok u w/\Den η v u:=by
    intro hb hs;rw[hb]at ag;rw[hs]at hdd;obtain⟨u,hu,hdu⟩:=XC (i:=0) hdd rfl;rw[List.getElem?_take]at hu;split at hu
    ·simp at hu;exact⟨u,by simp[part,ag,hu],hdu⟩
    ·cases hu
   cases hs:T.sh t<;>rw[hs]at agg one<;>simp only[YH,hs]at ho
   case struct=>simp only[Option.some.injEq]at ho;exact agg rfl ho.symm
   case array=>simp only[Option.some.injEq]at ho;exact agg rfl ho.symm
   case other=>cases ho
   all_goals
    split at ho
    ·rename_i c hc;simp only[Option.some.injEq]at ho;subst ho;exact one rfl hc
    ·cases ho
theorem Ze8{P:Program}{T:Tab}(hT:TabOK P T){η:Env}{t:TypeId}{off:Nat}{row:List SV}{us:List Value}{v:SV}{O:Hps}{nx:Nat}{O':Hps}{nx':Nat}(w:World)(hd:DenL η row us)(h1:∀u∈us,u.oneCell'=true)
 (hr:(WW T t off row).ok O nx v O' nx'):O'=O/\nx'=nx/\∃u,(part t ⟨us⟩ off).run P w= .ok u w/\Den η v u:=
 Z2J hT w (From.of_denL hd off) h1 hr
section
variable {M:Mx}{η:Env}{w:World}{O:Hps}{nx:Nat}{ρ:Operand->Value}{lk:Operand->Option SV}{v:SV}{O':Hps}{nx':Nat}{dst:Option Tmp}{ty:TypeId}{pos:String}{af:Array Edge}{gd:Option (Nat×Bool)}
theorem Zho(A:At M η w O nx ρ lk)(x:Operand)(hr:(opR M.C lk O nx (.move x)).ok O nx v O' nx'):Y3 M η w ⟨dst, .move x,ty,pos,af,gd⟩ ρ v O' nx':=by
 simp only[opR,Ze4]at hr;cases hx:lk x with
 |none=>rw[hx]at hr;exact hr.elim
 |some u=>rw[hx]at hr;exact A.val hr ⟨ρ x, .inl rfl,A.L x _ hx⟩
theorem Ze9(A:At M η w O nx ρ lk)(x:Operand)(hr:(opR M.C lk O nx (.assign x)).ok O nx v O' nx'):Y3 M η w ⟨dst, .assign x,ty,pos,af,gd⟩ ρ v O' nx':=by
 simp only[opR,Ze4]at hr;cases hx:lk x with
 |none=>rw[hx]at hr;exact hr.elim
 |some u=>rw[hx]at hr;exact A.val hr ⟨ρ x, .inl rfl,A.L x _ hx⟩
theorem Zhp(A:At M η w O nx ρ lk)(c a b:Operand)(hr:(opR M.C lk O nx (.pick c a b)).ok O nx v O' nx'):Y3 M η w ⟨dst, .pick c a b,ty,pos,af,gd⟩ ρ v O' nx':=by
 simp only[opR,Zh5]at hr;split at hr
 ·rename_i x hc;split at hr
  ·rename_i p q ha hb;refine A.val hr ⟨.bool (bif x then p else q), .inl ?_,rfl⟩;have h1:=X5 (A.L _ _ hc);have h2:=X5 (A.L _ _ ha);have h3:=X5 (A.L _ _ hb);cases x<;>simp[execOp,h1,h2,h3,asBool]
  ·rename_i p ha hb;obtain⟨hx,hr⟩:=hr;subst hx;refine A.val hr ⟨.bool p, .inl ?_,rfl⟩;have h1:=X5 (A.L _ _ hc);have h2:=X5 (A.L _ _ ha);simp[execOp,h1,h2,asBool]
  ·rename_i p ha hb;obtain⟨hx,hr⟩:=hr;subst hx;refine A.val hr ⟨.bool p, .inl ?_,rfl⟩;have h1:=X5 (A.L _ _ hc);have h2:=X5 (A.L _ _ hb);simp[execOp,h1,h2,asBool]
  ·exact hr.elim
 ·exact hr.elim
theorem Zc0(A:At M η w O nx ρ lk)(x:Operand)(i:Nat)(hr:(opR M.C lk O nx (.extract x i)).ok O nx v O' nx'):Y3 M η w ⟨dst, .extract x i,ty,pos,af,gd⟩ ρ v O' nx':=by
 simp only[opR,Z9r]at hr;split at hr
 ·rename_i vs hx;split at hr
  ·rename_i z hz;have h1:=A.L _ _ hx;simp only[Den]at h1;obtain⟨us,h1,h2⟩:=h1;rw[VD]at hz;obtain⟨u,h3,h4⟩:=XC h2 hz;refine A.val hr ⟨u, .inl ?_,h4⟩;simp[execOp,h1,Instr.extract,h3]
  ·exact hr.elim
 ·exact hr.elim
theorem Zg1(A:At M η w O nx ρ lk)(t:TypeId)(x:Operand)(f:Nat)(hr:(opR M.C lk O nx (.field t x f)).ok O nx v O' nx'):Y3 M η w ⟨dst, .field t x f,ty,pos,af,gd⟩ ρ v O' nx':=by
 simp only[opR,Zfk]at hr;split at hr
 ·rename_i cs hx;have h1:=A.L _ _ hx;simp only[Den]at h1;obtain⟨us,h1,h2,h3⟩:=h1;split at hr
  case h_2=>exact hr.elim
  rename_i off u hf;unfold Z9p at hf;split at hf
  ·rename_i fs hs;obtain⟨d,hd,hsm⟩:=A.T.und t (by rw[hs];simp);rw[hs]at hsm;simp only[ShM]at hsm;obtain⟨fields,rfl,hfs,_⟩:=hsm;rw[VD,<-hfs,List.getElem?_map]at hf;cases hq:fields.toList[f]? with
   |none=>rw[hq]at hf;cases hf
   |some fd=>
    rw[hq]at hf;simp only[Option.map_some,Option.some.injEq,Prod.mk.injEq]at hf;obtain⟨rfl,rfl⟩:=hf;obtain⟨e1,e2,z,h4,h5⟩:=Ze8 A.T w h2 h3 hr;refine A.same (.inl ?_) h5 e1 e2;have hq':fields[f]?=some fd:=by simpa using hq
    simp[execOp,h1,Instr.field,Z3 hd,hq',asAgg,h4]
  ·cases hf
 ·exact hr.elim
theorem ZaE(A:At M η w O nx ρ lk)(x:Operand)(hr:(opR M.C lk O nx (.nilCheck x)).ok O nx v O' nx'):Y3 M η w ⟨dst, .nilCheck x,ty,pos,af,gd⟩ ρ v O' nx':=by
 simp only[opR,Z6y]at hr;split at hr
 ·rename_i b r es c hx;have h1:=A.L _ _ hx;refine A.val hr ⟨ρ x, .inl ?_,h1⟩;simp only[Den]at h1;obtain⟨e,_,h2⟩:=h1;simp[execOp,h2]
 ·exact hr.elim
theorem Zhq(A:At M η w O nx ρ lk)(op:UnOp)(t:TypeId)(x:Operand)(hr:(opR M.C lk O nx (.unOp op t x)).ok O nx v O' nx'):Y3 M η w ⟨dst, .unOp op t x,ty,pos,af,gd⟩ ρ v O' nx':=by
 simp only[opR,unR]at hr;split at hr
 ·split at hr
  ·rename_i b hx;have h1:=X5 (A.L _ _ hx);exact A.val hr ⟨.bool (!b), .inl (by simp[execOp,h1,Op.unary]),rfl⟩
  ·exact hr.elim
 ·split at hr
  ·rename_i k n hx;have h1:=V0 (A.L _ _ hx);exact A.val hr ⟨.int k (k.wrap (0-n)), .inl (by simp[execOp,h1,Op.unary,Op.intArith]),rfl⟩
  ·exact hr.elim
 ·split at hr
  ·rename_i k n hx;have h1:=V0 (A.L _ _ hx);refine A.val hr ⟨.int k (iXor k (bif k.signed then-1 else k.max) n), .inl ?_,rfl⟩;cases hk:k.signed<;>simp[execOp,h1,Op.unary,Op.intBits,iXor,hk]
  ·exact hr.elim
 ·exact hr.elim
theorem Z2K(A:At M η w O nx ρ lk)(t:TypeId)(x:Operand)(hr:(opR M.C lk O nx (.makeInterface t x)).ok O nx v O' nx'):Y3 M η w ⟨dst, .makeInterface t x,ty,pos,af,gd⟩ ρ v O' nx':=by
 simp only[opR,Zfi]at hr;split at hr
 ·exact hr.elim
 ·exact hr.elim
 ·rename_i sh hi ho;split at hr
  case h_2=>exact hr.elim
  rename_i u hx;refine A.val hr ⟨.iface t (ρ x), .inl ?_,?_⟩
  ·obtain⟨d,h1,h2⟩:=A.T.und t ho
   have:(Instr.makeInterface t (ρ x)).run M.P w= .ok (.iface t (ρ x)) w:=by
    simp only[Instr.makeInterface,Sem.run_bind,Z3 h1,Result.andThen_ok];cases d with
    |interface ms=>
     exfalso;cases hs:M.C.T.sh t<;>rw[hs]at h2<;>simp only[ShM]at h2<;>simp_all
    |_=>rfl
   simp[execOp,this]
  ·simp only[Den];exact⟨_,rfl,A.L _ _ hx⟩
theorem Z0W{xs:List Operand}{svs:List SV}(hl:∀x sv,lk x=some sv->Den η sv (ρ x))(h:optAll lk xs=some svs):DenL η svs (xs.map ρ):=by
 induction xs generalizing svs with
 |nil=>simp only[optAll,Option.some.injEq]at h;subst h;simp[DenL]
 |cons x xs ih=>
  simp only[optAll]at h;split at h
  ·rename_i y hy;split at h
   ·rename_i ys hys;simp only[Option.some.injEq]at h;subst h;simp only[List.map_cons,DenL];exact⟨_,_,rfl,hl _ _ hy,ih hys⟩
   ·cases h
  ·cases h
theorem ZaF(A:At M η w O nx ρ lk)(f:Fn)(a b:Array Operand)(hr:(opR M.C lk O nx (.makeFunc f a b)).ok O nx v O' nx'):Y3 M η w ⟨dst, .makeFunc f a b,ty,pos,af,gd⟩ ρ v O' nx':=by
 simp only[opR,Zh8]at hr;split at hr
 ·rename_i xs h1;split at hr
  case h_2=>exact hr.elim
  rename_i ys h2;refine A.val hr ⟨.func f (a.map ρ) (b.map ρ), .inl rfl,?_⟩;simp only[Den];exact⟨a.toList.map ρ,b.toList.map ρ,by congr 1<;>(apply Array.ext';simp),Z0W A.L h1,Z0W A.L h2⟩
 ·exact hr.elim
end
theorem Zc1{z:Value}(h:z.oneCell'=true):z.cells= #[z]:=by cases z<;>first|rfl|(simp[Value.oneCell']at h)
section
variable {η:Env}
theorem V1{es:Nat}:∀{n:Nat} {cs:List SV} {rs:List (List SV)},JM es n cs=some rs->rs.length=n/\cs.length=n*es/\∀(i:Nat) (row:List SV),rs[i]?=some row->row.length=es/\row=(cs.drop (i*es)).take es
 |0,[],rs,h=>by simp only[JM,Option.some.injEq]at h;subst h;simp
 |0,c::cs,rs,h=>by simp[JM]at h
 |n+1,cs,rs,h=>by
  simp only[JM]at h;cases h1:Z0S es cs with
  |none=>rw[h1]at h;cases h
  |some r=>
   rw[h1]at h;simp only at h;cases h2:JM es n (cs.drop es)with
   |none=>rw[h2]at h;cases h
   |some q=>
    rw[h2]at h;simp only[Option.some.injEq]at h;subst h;obtain⟨rfl,hl⟩:=VQ h1;obtain⟨h3,h4,h5⟩:=V1 h2;refine⟨by simp[h3],?_,?_⟩
    ·rw[List.length_drop]at h4;rw[Nat.succ_mul];omega
    ·intro i row hi;cases i with
     |zero=>simp at hi;subst hi;simp[Nat.min_eq_left hl]
     |succ i=>
      simp at hi;obtain⟨h6,h7⟩:=h5 i row hi;refine⟨h6,?_⟩;rw[h7,List.drop_drop];congr 2;rw[Nat.succ_mul];omega
theorem Z2L{es:Nat}:∀{rs:List (List SV)} {vs:List Value} {i:Nat} {row:List SV},DenLL η es rs vs->rs[i]?=some row->From η row vs (i*es)/\row.length=es
 | [],vs,i,row,h,hi=>by simp at hi
 |r::rs,vs,i,row,h,hi=>by
  simp only[DenLL]at h;obtain⟨us,ws,rfl,hl,h1,h2⟩:=h;cases i with
  |zero=>
   simp at hi;subst hi;refine⟨fun j sv hj=>?_,by rw[<-ZP h1,hl]⟩;obtain⟨u,hu,hd⟩:=XC h1 hj;refine⟨u,?_,hd⟩;rw[Nat.zero_mul,Nat.zero_add,List.getElem?_append_left (List.getElem?_eq_some_iff.1 hu).1];exact hu
  |succ i=>
   simp at hi;obtain⟨h3,h4⟩:=Z2L h2 hi;refine⟨fun j sv hj=>?_,h4⟩;obtain⟨u,hu,hd⟩:=h3 j sv hj;refine⟨u,?_,hd⟩;rw[List.getElem?_append_right (by rw[Nat.succ_mul];omega),hl];rw[show(i+1)*es+j-es=i*es+j by rw[Nat.succ_mul];omega];exact hu
theorem V2{es:Nat}:∀{rs:List (List SV)} {vs:List Value},DenLL η es rs vs->vs.length=rs.length*es
 | [],vs,h=>by simp only[DenLL]at h;subst h;simp
 |r::rs,vs,h=>by
  simp only[DenLL]at h;obtain⟨us,ws,rfl,hl,h1,h2⟩:=h;rw[List.length_append,hl,V2 h2,List.length_cons,Nat.succ_mul];omega
theorem Z8j{es n:Nat}{cs:List SV}{rs:List (List SV)}{vs:List Value}(h:JM es n cs=some rs)(hd:DenL η cs vs){i:Nat}{row:List SV}(hi:rs[i]?=some row):From η row vs (i*es):=by
 obtain⟨h1,h2,h3⟩:=V1 h;obtain⟨h4,h5⟩:=h3 i row hi;intro j sv hj;rw[h5,List.getElem?_take]at hj;split at hj
 ·rw[List.getElem?_drop]at hj;exact XC hd hj
 ·cases hj
theorem Z2M{es n:Nat}{cs:List SV}{rs:List (List SV)}{vs:List Value}(h:JM es n cs=some rs)(hd:DenL η cs vs):DenLL η es rs vs:=by
 induction n generalizing cs rs vs with
 |zero=>
  cases cs with
  |nil=>simp only[JM,Option.some.injEq]at h;subst h;simpa[DenLL,DenL]using hd
  |cons c cs=>simp[JM]at h
 |succ n ih=>
  simp only[JM]at h;cases h1:Z0S es cs with
  |none=>rw[h1]at h;cases h
  |some r=>
   rw[h1]at h;simp only at h;cases h2:JM es n (cs.drop es)with
   |none=>rw[h2]at h;cases h
   |some q=>
    rw[h2]at h;simp only[Option.some.injEq]at h;subst h;obtain⟨rfl,hl⟩:=VQ h1;have hv:=ZP hd;simp only[DenLL];exact⟨vs.take es,vs.drop es,(List.take_append_drop es vs).symm,by rw[List.length_take,hv];omega,Z2H hd,ih h2 (Z2G hd)⟩
theorem Z02{P:Program}{T:Tab}(hT:TabOK P T){t:TypeId}{sv:SV}(hs:T.sh t≠ .other)(hz:T.zero t≠ [])(ho:YH T t (T.zero t)=some sv)(η:Env):∃i z,P.info? t=some i/\i.zero=some z/\Den η sv z:=by
 obtain⟨i,z,h1,h2,h3,h4,h5,h6,h7,h8⟩:=hT.zero t hs hz;refine⟨i,z,h1,h2,?_⟩;have h3:=DenL.mono (η':=η) List.nil_prefix h3
 have agg:((∃fs,T.sh t= .struct fs)\/(∃n e,T.sh t= .array n e))->sv= .agg (T.zero t)->Den η sv z:=by
  rintro hh rfl;rw[h7 hh];simp only[Den];exact⟨z.cells.toList,by simp,h3,h4⟩
 have one:¬((∃fs,T.sh t= .struct fs)\/(∃n e,T.sh t= .array n e))->T.zero t=[sv]->Den η sv z:=by
  intro hh hq;have:=h8 hh;have hv:z.cells= #[z]:=Zc1 this;rw[hq,hv]at h3;simp only[DenL]at h3;obtain⟨u,us,he,hd,_⟩:=h3;simp at he;rw[he.1];exact hd
 cases hh:T.sh t<;>rw[hh]at agg one<;>simp only[YH,hh]at ho
 case struct=>simp only[Option.some.injEq]at ho;exact agg (.inl ⟨_,rfl⟩) ho.symm
 case array=>simp only[Option.some.injEq]at ho;exact agg (.inr ⟨_,_,rfl⟩) ho.symm
 case other=>cases ho
 all_goals
  split at ho
  ·rename_i c hc;simp only[Option.some.injEq]at ho;subst ho;exact one (by simp) hc
  ·cases ho
end
section
variable {M:Mx}{η:Env}{w:World}{O:Hps}{nx:Nat}{ρ:Operand->Value}{lk:Operand->Option SV}{v:SV}{O':Hps}{nx':Nat}{dst:Option Tmp}{ty:TypeId}{pos:String}{af:Array Edge}{gd:Option (Nat×Bool)}
theorem Zg2(A:At M η w O nx ρ lk)(t:TypeId)(x i:Operand)(hr:(opR M.C lk O nx (.index t x i)).ok O nx v O' nx'):Y3 M η w ⟨dst, .index t x i,ty,pos,af,gd⟩ ρ v O' nx':=by
 simp only[opR,Zfl]at hr;split at hr
 case h_2=>exact hr.elim
 rename_i k n hi;have hiv:=V0 (A.L _ _ hi);split at hr
 ·rename_i hs;obtain⟨d,hd,hm⟩:=A.T.und t (by rw[hs];simp);rw[hs]at hm;simp only[ShM]at hm;subst hm;split at hr
  case h_2=>exact hr.elim
  rename_i s hx;have hxv:=Z1y (A.L _ _ hx);obtain⟨⟨h0,h1⟩,h2⟩:=hr;refine A.val h2 ⟨.int .u8 (Z1 s n), .inl ?_,rfl⟩;have hlt:n.toNat<s.length:=by omega
  have hg:(ByteArray.mk s.toArray)[n.toNat]?=some s[n.toNat]:=by
   show(if h:_ then _ else _)=_
   rw[dif_pos (show n.toNat< (ByteArray.mk s.toArray).size by simpa[ByteArray.size]using hlt)]
   rfl
  simp[execOp,hxv,hiv,Instr.index,asIntOf,Z3 hd,h0,hg,Z1,hlt]
 ·rename_i m e hs;obtain⟨d,hd,hm⟩:=A.T.und t (by rw[hs];simp);rw[hs]at hm;simp only[ShM]at hm;obtain⟨rfl,hsz,hse⟩:=hm;obtain⟨ie,hie,hies,_⟩:=A.T.info e hse;split at hr
  ·rename_i cs hx;have hxv:=A.L _ _ hx;simp only[Den]at hxv;obtain⟨us,hxv,hdl,h1⟩:=hxv;split at hr
   case h_2=>exact hr.elim
   rename_i rs hch;obtain⟨⟨h0,hlt⟩,row,hrow,hr⟩:=hr;have hf:=Z8j hch hdl hrow;obtain⟨e1,e2,u,hu,hdu⟩:=Z2J A.T w (off0:=0) (by simpa using hf) h1 hr;refine A.same (.inl ?_) hdu e1 e2;simp[execOp,hxv,hiv,Instr.index,asIntOf,Z3 hd,h0,hlt,Zq hie,hies,hu]
  ·rename_i es rs hx;have hxv:=A.L _ _ hx;simp only[Den]at hxv;obtain⟨us,hxv,hdl,h1⟩:=hxv;split at hr
   case h_2=>exact hr.elim
   rename_i hes;have hes:=Zn hes;subst hes;obtain⟨⟨h0,hlt,hlen⟩,row,hrow,hr⟩:=hr;have hf:=(Z2L hdl hrow).1;obtain⟨e1,e2,u,hu,hdu⟩:=Z2J A.T w (off0:=0) (by simpa using hf) h1 hr;refine A.same (.inl ?_) hdu e1 e2;simp[execOp,hxv,hiv,Instr.index,asIntOf,Z3 hd,h0,hlt,Zq hie,hies,hu]
  ·exact hr.elim
 ·exact hr.elim
theorem Z8k(A:At M η w O nx ρ lk)(t:TypeId)(x i:Operand)(hr:(opR M.C lk O nx (.indexAddr t x i)).ok O nx v O' nx'):Y3 M η w ⟨dst, .indexAddr t x i,ty,pos,af,gd⟩ ρ v O' nx':=by
 simp only[opR,Z4z]at hr;split at hr
 case h_2=>exact hr.elim
 rename_i k n hi;have hiv:=V0 (A.L _ _ hi);split at hr
 ·rename_i m e hs;obtain⟨d,hd,hm⟩:=A.T.und t (by rw[hs];simp);rw[hs]at hm;simp only[ShM]at hm;obtain⟨rfl,hsz,hse⟩:=hm;obtain⟨ie,hie,hies,_⟩:=A.T.info e hse;split at hr
  case h_2=>exact hr.elim
  rename_i b r es c hx;have hxv:=A.L _ _ hx;simp only[Den]at hxv;obtain⟨en,hb,hxv⟩:=hxv;split at hr
  ·rename_i hes;have hes:=Zn hes;subst hes;obtain⟨⟨rfl,rfl,h0,hlt⟩,h2⟩:=hr;refine A.val h2 ⟨.pointer (some ⟨en.g,en.base+n.toNat*M.C.T.size e,none⟩), .inl ?_,?_⟩
   ·have:(⟨en.g,en.base,none⟩:Addr).add (n.toNat*M.C.T.size e)=⟨en.g,en.base+n.toNat*M.C.T.size e,none⟩:=Addr.add_lit _ _ _;simp[execOp,hxv,hiv,Instr.indexAt,asIntOf,Instr.sureAddr,Z3 hd,h0,hlt,Zq hie,hies,this]
   ·simp only[Den];exact⟨en,hb,by simp⟩
  ·split at hr
   ·obtain⟨⟨rfl,_,h0,hlt⟩,h2⟩:=hr;refine A.val h2 ⟨.pointer (some ⟨en.g,en.base+n.toNat*M.C.T.size e,none⟩), .inl ?_,?_⟩
    ·have:(⟨en.g,en.base,none⟩:Addr).add (n.toNat*M.C.T.size e)=⟨en.g,en.base+n.toNat*M.C.T.size e,none⟩:=Addr.add_lit _ _ _;simp[execOp,hxv,hiv,Instr.indexAt,asIntOf,Instr.sureAddr,Z3 hd,h0,hlt,Zq hie,hies,this]
    ·simp only[Den];exact⟨en,hb,by simp⟩
   ·rename_i c';obtain⟨⟨h0,hlt⟩,h2⟩:=hr;refine A.val h2 ⟨.pointer (some ⟨en.g,en.base+(r*es+(c'+1))+n.toNat*M.C.T.size e,none⟩), .inl ?_,?_⟩
    ·have:(⟨en.g,en.base+(r*es+(c'+1)),none⟩:Addr).add (n.toNat*M.C.T.size e)=⟨en.g,en.base+(r*es+(c'+1))+n.toNat*M.C.T.size e,none⟩:=Addr.add_lit _ _ _;simp[execOp,hxv,hiv,Instr.indexAt,asIntOf,Instr.sureAddr,Z3 hd,h0,hlt,Zq hie,hies,this]
    ·simp only[Den];exact⟨en,hb,by simp only[Nat.add_assoc]⟩
 ·rename_i e hs;obtain⟨d,hd,hm⟩:=A.T.und t (by rw[hs];simp);rw[hs]at hm;simp only[ShM]at hm;subst hm;split at hr
  case h_2=>exact hr.elim
  rename_i b r es len lim hx;have hxv:=A.L _ _ hx;simp only[Den]at hxv;split at hr
  case h_2=>exact hr.elim
  rename_i hes hok;have hes:=Zn hes;subst hes;have hse:M.C.T.sh e≠ .other:=by intro h;simp[okSh,h]at hok
  obtain⟨ie,hie,hies,_⟩:=A.T.info e hse;obtain⟨⟨h0,hlt⟩,h2⟩:=hr;rcases hxv with⟨_,_,h⟩|⟨en,o,hb,hxv,h3,h4,h5⟩
  ·subst h;omega
  refine A.val h2 ⟨.pointer (some ⟨en.g,en.base+(r+n.toNat)*M.C.T.size e,none⟩), .inl ?_,?_⟩
  ·have ho:=h5 (by omega)
   have:(⟨en.g,o,none⟩:Addr).add (n.toNat*M.C.T.size e)=⟨en.g,en.base+(r+n.toNat)*M.C.T.size e,none⟩:=by
    rw[Addr.add_lit,ho,Nat.add_mul];congr 1;omega
   simp[execOp,hxv,hiv,Instr.indexAt,asIntOf,Z3 hd,h0,hlt,Zq hie,hies,this]
  ·simp only[Den];exact⟨en,hb,by simp⟩
 ·exact hr.elim
theorem Z8l(A:At M η w O nx ρ lk)(t:TypeId)(x:Operand)(f:Nat)(hr:(opR M.C lk O nx (.fieldAddr t x f)).ok O nx v O' nx'):Y3 M η w ⟨dst, .fieldAddr t x f,ty,pos,af,gd⟩ ρ v O' nx':=by
 simp only[opR,Z4y]at hr;split at hr
 case h_2=>exact hr.elim
 rename_i b r es c hx;have hxv:=A.L _ _ hx;simp only[Den]at hxv;obtain⟨en,hb,hxv⟩:=hxv;split at hr
 case h_2=>exact hr.elim
 rename_i off u hf;unfold Z9p at hf;split at hf
 case h_2=>cases hf
 rename_i fs hs;obtain⟨d,hd,hsm⟩:=A.T.und t (by rw[hs];simp);rw[hs]at hsm;simp only[ShM]at hsm;obtain⟨fields,rfl,hfs,hok⟩:=hsm;have hmem:(off,u)∈fs:=by rw[VD]at hf;exact List.mem_of_getElem? hf
 have hou:=hok _ hmem;obtain⟨iu,hiu,hius,_⟩:=A.T.info u hou;rw[VD,<-hfs,List.getElem?_map]at hf;cases hq:fields.toList[f]? with
 |none=>rw[hq]at hf;cases hf
 |some fd=>
  rw[hq]at hf;simp only[Option.map_some,Option.some.injEq,Prod.mk.injEq]at hf;obtain⟨rfl,rfl⟩:=hf;split at hr
  ·exact hr.elim
  rename_i hz;have hz:=Jv hz;refine A.val hr ⟨.pointer (some ⟨en.g,en.base+(r*es+(c+fd.offset)),none⟩), .inl ?_,?_⟩
  ·have hq':fields[f]?=some fd:=by simpa using hq
   have:(⟨en.g,en.base+(r*es+c),none⟩:Addr).add fd.offset=⟨en.g,en.base+(r*es+(c+fd.offset)),none⟩:=by
    rw[Addr.add_lit];congr 1;omega
   simp[execOp,hxv,Instr.fieldAt,Instr.sureAddr,Z3 hd,hq',fieldPlace,Zq hiu,hius,hz,this]
  ·simp only[Den];exact⟨en,hb,rfl⟩
theorem Zea(A:At M η w O nx ρ lk)(x:Operand)(t u:TypeId)(ok:Bool)(hr:(opR M.C lk O nx (.typeAssert x t u ok)).ok O nx v O' nx'):Y3 M η w ⟨dst, .typeAssert x t u ok,ty,pos,af,gd⟩ ρ v O' nx':=by
 simp only[opR,ZbP]at hr;split at hr
 ·exact hr.elim
 ·exact hr.elim
 rename_i sh hni hno;obtain⟨d,hd,hm⟩:=A.T.und u hno
 have hnd:∀ms,d≠ .interface ms:=by
  rintro ms rfl;cases hs:M.C.T.sh u<;>rw[hs]at hm<;>simp only[ShM]at hm<;>simp_all
 have zt:∀{v},(Z5k M.C.T u).ok O nx v O' nx'->ok=true->O'=O/\nx'=nx/\∃z,(zeroValue u).run M.P w= .ok z w/\Den η v (.tuple #[z, .bool false]):=by
  intro v hr _;unfold Z5k at hr;cases hz:M.C.T.zero u with
  |nil=>rw[hz]at hr;exact hr.elim
  |cons c cs=>
   rw[hz]at hr;simp only at hr;cases ho:YH M.C.T u (c::cs)with
   |none=>rw[ho]at hr;exact hr.elim
   |some sv=>
    rw[ho]at hr;obtain⟨rfl,rfl,rfl⟩:=hr;obtain⟨i,z,h1,h2,h3⟩:=Z02 A.T hno (by rw[hz];simp) (by rw[hz];exact ho) η;exact⟨rfl,rfl,z,XW h1 h2 w,by simp only[Den,DenL];exact⟨_,rfl,z,_,rfl,h3,_,_,rfl,rfl,rfl⟩⟩
 split at hr
 ·rename_i q y hx;have hxv:=A.L _ _ hx;simp only[Den]at hxv;obtain⟨z,hxv,hz⟩:=hxv
  have run:(Instr.typeAssert (.iface q z) t u ok).run M.P w=if q=u then .ok (if ok then .tuple #[z, .bool true]else z) w else(if ok then((zeroValue u).run M.P w).andThen fun a w=> .ok (.tuple #[a, .bool false]) w else(runtimePanic (.typeAssertion (some t) (some q) u ""):Sem Value).run M.P w):=by
   simp only[Instr.typeAssert,Sem.run_bind,Z3 hd,Result.andThen_ok];cases d<;>first|(exact absurd rfl (hnd _))|(cases ok<;>by_cases e:q=u<;>simp[e])
  split at hr
  ·rename_i he;have he:=Zn he;subst he;split at hr
   ·refine A.val hr ⟨.tuple #[z, .bool true], .inl ?_,?_⟩
    ·simp[execOp,hxv,run]
    ·simp only[Den,DenL];exact⟨_,rfl,z,_,rfl,hz,_,_,rfl,rfl,rfl⟩
   ·refine A.val hr ⟨z, .inl ?_,hz⟩;simp[execOp,hxv,run]
  ·rename_i he;have he:=Jv he;split at hr
   ·obtain⟨e1,e2,a,h1,h2⟩:=zt hr rfl;refine A.same (.inl ?_) h2 e1 e2;simp[execOp,hxv,run,he,h1]
   ·exact hr.elim
 ·rename_i hx;have hxv:=A.L _ _ hx;simp only[Den]at hxv;obtain⟨hxv,_⟩:=hxv;split at hr
  ·obtain⟨e1,e2,a,h1,h2⟩:=zt hr rfl;refine A.same (.inl ?_) h2 e1 e2
   have:(Instr.typeAssert .nilIface t u true).run M.P w= .ok (.tuple #[a, .bool false]) w:=by
    simp only[Instr.typeAssert,Sem.run_bind,Z3 hd,Result.andThen_ok];cases d<;>first|(exact absurd rfl (hnd _))|simp[h1]
   simp[execOp,hxv,this]
  ·exact hr.elim
 ·exact hr.elim
end
theorem VR(s:List UInt8)(a b:Nat):(ByteArray.mk s.toArray).extract a b=⟨((s.drop a).take (b-a)).toArray⟩:=by
 apply ByteArray.ext;simp[List.extract_eq_take_drop]
theorem VE(s:List UInt8):(ByteArray.mk s.toArray).size=s.length:=by simp[ByteArray.size]
section
variable {M:Mx}{η:Env}{w:World}{O:Hps}{nx:Nat}{ρ:Operand->Value}{lk:Operand->Option SV}{v:SV}{O':Hps}{nx':Nat}{dst:Option Tmp}{ty:TypeId}{pos:String}{af:Array Edge}{gd:Option (Nat×Bool)}
theorem Zc2{P:Program}{T:Tab}(hT:TabOK P T){t:TypeId}{op:BinOp}{x y:Operand}{u:SV}{wv a b:Value}{r:Bool}(d:Nat)(h:ZfW (T.sh t) y u wv=some r)(ha:Den η u a)(hb:b=wv)(w:World):
 (eqGuard op t x y a b).run P w= .ok () w/\(Op.equalIn (d+1) t a b).run P w= .ok r w/\(binOp .eql t a b=(do pure (.bool (<-Op.equal t a b))))/\(binOp .neq t a b=(do pure (.bool (!(<-Op.equal t a b))))):=by
 subst hb;unfold ZfW at h;split at h
 case h_7=>cases h
 all_goals
  rename_i hs;obtain⟨dd,hd,hm⟩:=hT.und t (by rw[hs];simp);rw[hs]at hm;simp only[ShM]at hm;simp only[Option.some.injEq]at h;subst h;simp only[Den]at ha
 ·obtain⟨ms,rfl⟩:=hm;obtain⟨z,rfl,_⟩:=ha;refine⟨by cases op<;>simp[eqGuard],?_,rfl,rfl⟩;simp[Op.equalIn,Z3 hd]
 ·obtain⟨ms,rfl⟩:=hm;obtain⟨rfl,_⟩:=ha;refine⟨by cases op<;>simp[eqGuard],?_,rfl,rfl⟩;simp[Op.equalIn,Z3 hd]
 ·subst hm;obtain⟨e,_,rfl⟩:=ha;refine⟨by cases op<;>simp[eqGuard],?_,rfl,rfl⟩;simp[Op.equalIn,Z3 hd]
 ·subst hm;obtain⟨rfl,_⟩:=ha;refine⟨by cases op<;>simp[eqGuard],?_,rfl,rfl⟩;simp[Op.equalIn,Z3 hd]
 ·obtain⟨_,_,_,rfl⟩:=hm;obtain⟨_,_,rfl,_⟩:=ha;refine⟨by cases op<;>simp[eqGuard],?_,rfl,rfl⟩;simp[Op.equalIn,Z3 hd]
 ·obtain⟨_,_,_,rfl⟩:=hm;obtain⟨rfl,_⟩:=ha;refine⟨by cases op<;>simp[eqGuard],?_,rfl,rfl⟩;simp[Op.equalIn,Z3 hd]
theorem Z2N(A:At M η w O nx ρ lk){op:BinOp}{t u:TypeId}{x y:Operand}{ks:List CK}(hfl:M.C.T.flat t=some ks){xs ys:List SV}{us vs:List Value}(hx:ρ x= .agg ⟨us⟩)(hy:ρ y= .agg ⟨vs⟩)(hd1:DenL η xs us)(hd2:DenL η ys vs)
 (hr:(ZbO ks op xs ys).ok O nx v O' nx'):Y3 M η w ⟨dst, .binOp op t x y u,ty,pos,af,gd⟩ ρ v O' nx':=by
 obtain⟨g1,g2⟩:=A.T.flat t ks hfl;have go:∀r,Ze ks xs ys=some r->eqB ks xs ys=r/\(Op.equalIn 10000 t (.agg ⟨us⟩) (.agg ⟨vs⟩)).run M.P w= .ok r w:=fun r hce=>⟨by simp[eqB,hce],g2 w η xs ys us vs r hce hd1 hd2⟩;unfold ZbO at hr;split at hr
 ·obtain⟨hn,hr⟩:=hr;obtain⟨r,hce⟩:=Option.isSome_iff_exists.1 hn;obtain⟨e,h⟩:=go r hce;rw[e]at hr;refine A.val hr ⟨.bool r, .inl ?_,rfl⟩;simp only[execOp,hx,hy,Sem.run_bind,run_eqGuard_agg w _ t x y ⟨us⟩ ⟨vs⟩ g1,Result.andThen_ok,run_eql_struct,h,Sem.run_pure]
 ·obtain⟨hn,hr⟩:=hr;obtain⟨r,hce⟩:=Option.isSome_iff_exists.1 hn;obtain⟨e,h⟩:=go r hce;rw[e]at hr;refine A.val hr ⟨.bool (!r), .inl ?_,rfl⟩;simp only[execOp,hx,hy,Sem.run_bind,run_eqGuard_agg w _ t x y ⟨us⟩ ⟨vs⟩ g1,Result.andThen_ok,run_neq_struct,h,Sem.run_pure]
 ·exact hr.elim
theorem Zg3(A:At M η w O nx ρ lk)(op:BinOp)(t u:TypeId)(x y:Operand)(hr:(opR M.C lk O nx (.binOp op t x y u)).ok O nx v O' nx'):Y3 M η w ⟨dst, .binOp op t x y u,ty,pos,af,gd⟩ ρ v O' nx':=by
 simp only[opR,binR]at hr;split at hr
 ·rename_i k a hx;split at hr
  case h_2=>exact hr.elim
  rename_i k' b hy;obtain⟨e1,e2,z,h1,h2⟩:=Z6B (P:=M.P) (w:=w) ρ dst ty pos af gd t u x y k' η (V0 (A.L _ _ hx)) (V0 (A.L _ _ hy)) hr;exact A.same (.inl h1) h2 e1 e2
 ·rename_i a hx;split at hr
  case h_2=>exact hr.elim
  rename_i b hy;obtain⟨e1,e2,z,h1,h2⟩:=Z6C (P:=M.P) (w:=w) ρ dst ty pos af gd t u x y η (Z1y (A.L _ _ hx)) (Z1y (A.L _ _ hy)) hr;exact A.same (.inl h1) h2 e1 e2
 ·rename_i a hx;split at hr
  case h_2=>exact hr.elim
  rename_i b hy;have hxv:=X5 (A.L _ _ hx);have hyv:=X5 (A.L _ _ hy);split at hr
  case h_2=>exact hr.elim
  rename_i hs;obtain⟨d,hd,hm⟩:=A.T.und t (by rw[hs];simp);rw[hs]at hm;simp only[ShM]at hm;subst hm;have e1:∀d,(Op.equalIn (d+1) t (.bool a) (.bool b)).run M.P w= .ok (a==b) w:=fun d=>by simp[Op.equalIn,Z3 hd]
  have e2:=e1 9999;split at hr
  ·refine A.val hr ⟨.bool (a==b), .inl ?_,rfl⟩;simp[execOp,hxv,hyv,eqGuard_at_bool,binOp,Op.equal,Op.maxDepth,e2]
  ·refine A.val hr ⟨.bool (a !=b), .inl ?_,rfl⟩;simp[execOp,hxv,hyv,eqGuard_at_bool,binOp,Op.equal,Op.maxDepth,e2,bne]
  ·exact hr.elim
 ·rename_i xs hx;have hxv:=A.L _ _ hx;simp only[Den]at hxv;obtain⟨us,hxv,hd1,_⟩:=hxv;split at hr
  case h_3=>exact hr.elim
  ·rename_i ys hy;split at hr
   case h_2=>exact hr.elim
   rename_i ks hfl;split at hr
   case h_2=>exact hr.elim
   rename_i r hce;have hyv:=A.L _ _ hy;simp only[Den]at hyv;obtain⟨vs,hyv,hd2,_⟩:=hyv;obtain⟨g1,g2⟩:=A.T.flat t ks hfl;have g2:=g2 w η xs ys us vs r hce hd1 hd2;split at hr
   ·refine A.val hr ⟨.bool r, .inl ?_,rfl⟩;simp only[execOp,hxv,hyv,Sem.run_bind,run_eqGuard_agg w _ t x y ⟨us⟩ ⟨vs⟩ g1,Result.andThen_ok,run_eql_struct,g2,Sem.run_pure]
   ·refine A.val hr ⟨.bool (!r), .inl ?_,rfl⟩;simp only[execOp,hxv,hyv,Sem.run_bind,run_eqGuard_agg w _ t x y ⟨us⟩ ⟨vs⟩ g1,Result.andThen_ok,run_neq_struct,g2,Sem.run_pure]
   ·exact hr.elim
  ·rename_i es rs hy;split at hr
   case h_2=>exact hr.elim
   rename_i ks hfl;have hyv:=A.L _ _ hy;simp only[Den]at hyv;obtain⟨vs,hyv,hd2,_⟩:=hyv;exact Z2N A hfl hxv hyv hd1 (Jb hd2) hr
 ·rename_i es rs hx;have hxv:=A.L _ _ hx;simp only[Den]at hxv;obtain⟨us,hxv,hd1,_⟩:=hxv;split at hr
  case h_3=>exact hr.elim
  ·rename_i ys hy;split at hr
   case h_2=>exact hr.elim
   rename_i ks hfl;have hyv:=A.L _ _ hy;simp only[Den]at hyv;obtain⟨vs,hyv,hd2,_⟩:=hyv;exact Z2N A hfl hxv hyv (Jb hd1) hd2 hr
  ·rename_i es' qs hy;split at hr
   case h_2=>exact hr.elim
   rename_i ks hfl;have hyv:=A.L _ _ hy;simp only[Den]at hyv;obtain⟨vs,hyv,hd2,_⟩:=hyv;exact Z2N A hfl hxv hyv (Jb hd1) (Jb hd2) hr
 ·rename_i b r es len lim hx;split at hr
  case h_2=>exact hr.elim
  rename_i hy;have hyv:=A.L _ _ hy;simp only[Den]at hyv;obtain⟨hyv,_⟩:=hyv;split at hr
  case h_2=>exact hr.elim
  rename_i e hs;obtain⟨d,hd,hm⟩:=A.T.und t (by rw[hs];simp);rw[hs]at hm;simp only[ShM]at hm;subst hm;have hxv:=A.L _ _ hx;simp only[Den]at hxv
  obtain⟨a,l,c,hxv,hl⟩:∃a l c,ρ x= .slice a l c/\(a.isNone=true->len=0):=by
   rcases hxv with⟨_,h,h0⟩|⟨_,_,_,h,_⟩
   ·exact⟨_,_,_,h,fun _=>h0⟩
   ·exact⟨_,_,_,h,fun h=>by cases h⟩
  have e1:∀d,(Op.equalIn (d+1) t (.slice a l c) (.slice none 0 0)).run M.P w= .ok a.isNone w:=fun d=>by cases a<;>simp[Op.equalIn,Z3 hd]
  have e2:=e1 9999;split at hr
  ·refine A.val hr ⟨.bool a.isNone, .inl ?_,?_⟩
   ·simp[execOp,hxv,hyv,eqGuard,binOp,Op.equal,Op.maxDepth,e2]
   ·simp only[Den];exact⟨_,rfl,hl⟩
  ·obtain⟨hn,hr⟩:=hr
   have:a.isNone=false:=by
    cases h:a.isNone
    ·rfl
    ·have:=hl h;omega
   refine A.val hr ⟨.bool true, .inl ?_,rfl⟩;simp[execOp,hxv,hyv,eqGuard,binOp,Op.equal,Op.maxDepth,e2,this]
  ·exact hr.elim
 ·rename_i hx;split at hr
  case h_2=>exact hr.elim
  rename_i hy;have hyv:=A.L _ _ hy;have hxv:=A.L _ _ hx;simp only[Den]at hyv hxv;obtain⟨hyv,_⟩:=hyv;obtain⟨hxv,_⟩:=hxv;split at hr
  case h_2=>exact hr.elim
  rename_i e hs;obtain⟨d,hd,hm⟩:=A.T.und t (by rw[hs];simp);rw[hs]at hm;simp only[ShM]at hm;subst hm;have e1:∀d,(Op.equalIn (d+1) t (.slice none 0 0) (.slice none 0 0)).run M.P w= .ok true w:=fun d=>by simp[Op.equalIn,Z3 hd]
  have e2:=e1 9999;split at hr
  ·refine A.val hr ⟨.bool true, .inl ?_,rfl⟩;simp[execOp,hxv,hyv,eqGuard,binOp,Op.equal,Op.maxDepth,e2]
  ·refine A.val hr ⟨.bool false, .inl ?_,rfl⟩;simp[execOp,hxv,hyv,eqGuard,binOp,Op.equal,Op.maxDepth,e2]
  ·exact hr.elim
 ·rename_i a hx;split at hr
  case h_2=>exact hr.elim
  rename_i wv hy;split at hr
  case h_2=>exact hr.elim
  rename_i r hne;have hyv:=A.L _ _ hy;simp only[Den]at hyv;obtain⟨hyv,_⟩:=hyv;have key:=fun op=>Zc2 (op:=op) (x:=x) A.T 9999 hne (A.L _ _ hx) hyv w;split at hr
  ·refine A.val hr ⟨.bool r, .inl ?_,rfl⟩;obtain⟨h1,h2,h3,_⟩:=key .eql;simp[execOp,h1,h3,Op.equal,Op.maxDepth,h2]
  ·refine A.val hr ⟨.bool (!r), .inl ?_,rfl⟩;obtain⟨h1,h2,_,h3⟩:=key .neq;simp[execOp,h1,h3,Op.equal,Op.maxDepth,h2]
  ·exact hr.elim
 ·exact hr.elim
theorem Zg4(A:At M η w O nx ρ lk)(t:TypeId)(x:Operand)(lo hi mx:Option Operand)(hr:(opR M.C lk O nx (.slice t x lo hi mx)).ok O nx v O' nx'):Y3 M η w ⟨dst, .slice t x lo hi mx,ty,pos,af,gd⟩ ρ v O' nx':=by
 simp only[opR,Zfj]at hr;have hbd:∀{o:Operand} {k:IntKind} {n:Int},lk o=some (.int k n)->ρ o= .int k n:=fun h=>V0 (A.L _ _ h)
 have sb:∀(k:IntKind) (n:Int) (y:Nat) (c:BoundsCode),0<=n->n<=y->(Instr.sliceBound (.int k n) y c).run M.P w= .ok n.toNat w:=by
  intro k n y c h0 h1;simp[Instr.sliceBound,asIntOf,h0,h1]
 split at hr
 ·rename_i s hx;have hxv:=Z1y (A.L _ _ hx);split at hr
  case h_2=>exact hr.elim
  rename_i hs;obtain⟨d,hd,hm⟩:=A.T.und t (by rw[hs];simp);rw[hs]at hm;simp only[ShM]at hm;subst hm;split at hr
  case h_2=>exact hr.elim
  unfold Zfd at hr;split at hr
  ·rename_i hlo;cases lo with
   |some _=>simp at hlo
   |none=>
    split at hr
    ·rename_i hhi;cases hi with
     |some _=>simp at hhi
     |none=>
      refine A.val hr ⟨_, .inl ?_,rfl⟩;simp[execOp,hxv,Instr.sliceAt,Instr.slice,Instr.sliceBounds,Z3 hd,VR,VE]
    ·rename_i k h hhi;cases hi with
     |none=>simp at hhi
     |some oh=>
      simp only[Option.map_some,Option.some.injEq]at hhi;obtain⟨⟨h0,h1⟩,hr⟩:=hr;refine A.val hr ⟨_, .inl ?_,rfl⟩;have e1:=sb k h s.length .sliceAlen h0 h1;simp[execOp,hxv,Instr.sliceAt,Instr.slice,Instr.sliceBounds,Z3 hd,VR,VE,hbd hhi,e1]
    ·exact hr.elim
  ·rename_i kl l hlo;cases lo with
   |none=>simp at hlo
   |some ol=>
    simp only[Option.map_some,Option.some.injEq]at hlo;split at hr
    ·rename_i hhi;cases hi with
     |some _=>simp at hhi
     |none=>
      obtain⟨⟨h0,h1⟩,hr⟩:=hr;refine A.val hr ⟨_, .inl ?_,rfl⟩;have e1:=sb kl l s.length .sliceB h0 h1;have e2:(s.drop l.toNat).take (s.length-l.toNat)=s.drop l.toNat:=List.take_of_length_le (by simp);simp[execOp,hxv,Instr.sliceAt,Instr.slice,Instr.sliceBounds,Z3 hd,VR,VE,hbd hlo,e1,e2]
    ·rename_i k h hhi;cases hi with
     |none=>simp at hhi
     |some oh=>
      simp only[Option.map_some,Option.some.injEq]at hhi;obtain⟨⟨h0,h1,h2⟩,hr⟩:=hr;refine A.val hr ⟨_, .inl ?_,rfl⟩;have e1:=sb k h s.length .sliceAlen (by omega) h2;have e2:=sb kl l h.toNat .sliceB h0 (by omega);simp[execOp,hxv,Instr.sliceAt,Instr.slice,Instr.sliceBounds,Z3 hd,VR,VE,hbd hhi,hbd hlo,e1,e2]
    ·exact hr.elim
  ·exact hr.elim
 ·rename_i b r es len lim hx;split at hr
  case h_2=>exact hr.elim
  rename_i e hs;obtain⟨d,hd,hm⟩:=A.T.und t (by rw[hs];simp);rw[hs]at hm;simp only[ShM]at hm;subst hm;split at hr
  case h_2=>exact hr.elim
  rename_i hes;have hes:=Zn hes;split at hr
  case h_2=>exact hr.elim
  rename_i hok;have hse:M.C.T.sh e≠ .other:=by intro h;simp[okSh,h]at hok
  obtain⟨ie,hie,hies,_⟩:=A.T.info e hse;rw[<-hies]at hes;have hxv:=A.L _ _ hx
  have cut:∀(l h m:Nat) (lim':Option Nat) (bs:List (Nat×Nat×Nat)),l<=h->h<=m->(∀en,η.get b=some (some en)->(lim'=lim/\m=lim.getD en.cap-r)\/(lim'=some (r+m)/\m<=lim.getD en.cap-r))->(η.get b=some none->m=0)->
   ∃u,(∀(len cap:Nat) (a:Option Addr),ρ x= .slice a len cap->u= .slice (if m=l then a else a.map (·.add (l*ie.size))) (h-l) (m-l))/\Den η (.sl b (r+l) es (h-l) lim') u:=by
   intro l h m lim' _ hlh hhm hen hnil;have hxv':=hxv;simp only[Den]at hxv';rcases hxv' with⟨h1,h2,h3⟩|⟨en,o,h1,h2,h3,h4,h5⟩
   ·have hm0:=hnil h1;refine⟨.slice none 0 0,?_,?_⟩
    ·intro len' cap' a ha;rw[h2]at ha;injection ha with a1 a2 a3;subst a1;have:l=0:=by omega
     have:h=0:=by omega
     simp_all
    ·exact Or.inl ⟨h1,rfl,by omega⟩
   ·refine⟨.slice (if m=l then some ⟨en.g,o,none⟩else some ((⟨en.g,o,none⟩:Addr).add (l*ie.size))) (h-l) (m-l),?_,?_⟩
    ·intro len' cap' a ha;rw[h2]at ha;injection ha with a1 a2 a3;subst a1;simp
    ·simp only[Den];right
     have hL:lim'.getD en.cap=r+m/\r+m<=lim.getD en.cap/\(m≠0->r<lim.getD en.cap):=by
      have hh:=hen en h1;clear hen h5 h2;obtain⟨L,hLL⟩:∃L,lim.getD en.cap=L:=⟨_,rfl⟩;rw[hLL]at h3 h4 hh⊢;rcases hh with⟨e1,hm⟩|⟨e1,hm⟩
      ·rw[e1,hLL];omega
      ·rw[e1];refine⟨rfl,?_,?_⟩<;>omega
     refine⟨en,if m=l then o else o+l*ie.size,h1,?_⟩;rw[hL.1];refine⟨?_,by omega,by omega,?_⟩
     ·congr 1
      ·split
       ·rfl
       ·rw[Addr.add_lit]
      ·omega
     ·intro hlt;by_cases hml:m=l
      ·rcases hlt with hlt|hlt
       ·omega
       ·obtain⟨rfl,rfl⟩:r=0/\l=0:=by omega
        rw[if_pos hml,h5 (.inr rfl)]
      ·have h0:r<lim.getD en.cap\/r=0:=by
        rcases hlt with hlt|hlt
        ·exact .inl (hL.2.2 (by omega))
        ·exact .inr (by omega)
       rw[if_neg hml,h5 h0,hes,Nat.add_mul];omega
  obtain⟨a,cap,hv,hlc,hcap,hreach⟩:∃a cap,ρ x= .slice a len cap/\len<=cap/\(∀en,η.get b=some (some en)->cap=lim.getD en.cap-r)/\reach O b r len lim<=cap/\(η.get b=some none->cap=0):=by
   have hxv':=hxv;simp only[Den]at hxv';rcases hxv' with⟨h1,h2,h3⟩|⟨en,o,h1,h2,h3,h4,h5⟩
   ·subst h3;refine⟨none,0,h2,Nat.le_refl _,(fun en h=>by rw[h1]at h;cases h),?_,fun _=>rfl⟩;unfold reach;cases lim with
    |some _=>exact Nat.le_refl _
    |none=>
     simp only;split
     ·rename_i es' rs hO;cases b with
      |glob g=>simp[hOwn]at hO
      |loc i=>
       obtain⟨hsat,_⟩:=A.H.own.1 i _ hO;simp only[HpSat]at hsat;rcases hsat with⟨_,rfl⟩|⟨e',arr,T',fz,h6,_⟩
       ·simp
       ·rw[h1]at h6;cases h6
     ·exact Nat.le_refl _
   ·refine⟨some ⟨en.g,o,none⟩,lim.getD en.cap-r,h2,by omega,(fun e' h=>by rw[h1]at h;cases h;rfl),?_,(fun h=>by rw[h1]at h;cases h)⟩;unfold reach;cases lim with
    |some _=>simp only;omega
    |none=>
     simp only;split
     ·rename_i es' rs hO;cases b with
      |glob g=>simp[hOwn]at hO
      |loc i=>
       obtain⟨hsat,_⟩:=A.H.own.1 i _ hO;simp only[HpSat]at hsat;rcases hsat with⟨h6,_⟩|⟨e',arr,T',fz,h6,_,h7,_⟩
       ·rw[h1]at h6;cases h6
       ·rw[h1]at h6;cases h6;have h8:=(h7 trivial).2.2.1;simp at h3⊢;omega
     ·simp at h3⊢;omega
  obtain⟨hreach,hnil0⟩:=hreach;have sok:∀en,η.get b=some (some en)->(lim=lim/\cap=lim.getD en.cap-r)\/(lim=some (r+cap)/\cap<=lim.getD en.cap-r):=fun en h=> .inl ⟨rfl,hcap en h⟩;unfold Zh4 at hr;split at hr
  ·rename_i hmx;cases mx with
   |some _=>simp at hmx
   |none=>
    split at hr
    ·rename_i hlo;cases lo with
     |some _=>simp at hlo
     |none=>
      split at hr
      ·rename_i hhi;cases hi with
       |some _=>simp at hhi
       |none=>
        refine A.val hr ⟨ρ x, .inl ?_,hxv⟩;simp[execOp,hv,Instr.sliceAt,Instr.slice,Instr.sliceBounds,Z3 hd,Zq hie,Addr.add_zero']
      ·rename_i k h hhi;cases hi with
       |none=>simp at hhi
       |some oh=>
        simp only[Option.map_some,Option.some.injEq]at hhi;obtain⟨⟨h0,h1⟩,hr⟩:=hr;obtain⟨u,hu,hdu⟩:=cut 0 h.toNat cap lim [] (by omega) (by omega) sok hnil0;refine A.val hr ⟨u, .inl ?_,by simpa using hdu⟩;have e1:=sb k h cap .sliceAcap h0 (by omega);have hu:=hu _ _ _ hv;simp[execOp,hv,Instr.sliceAt,Instr.slice,Instr.sliceBounds,Z3 hd,hbd hhi,e1,Zq hie,hu]
      ·exact hr.elim
    ·rename_i kl l hlo;cases lo with
     |none=>simp at hlo
     |some ol=>
      simp only[Option.map_some,Option.some.injEq]at hlo;split at hr
      ·rename_i hhi;cases hi with
       |some _=>simp at hhi
       |none=>
        obtain⟨⟨h0,h1⟩,hr⟩:=hr;obtain⟨u,hu,hdu⟩:=cut l.toNat len cap lim [] (by omega) hlc sok hnil0;refine A.val hr ⟨u, .inl ?_,hdu⟩;have e1:=sb kl l len .sliceB h0 h1;have hu:=hu _ _ _ hv;simp[execOp,hv,Instr.sliceAt,Instr.slice,Instr.sliceBounds,Z3 hd,hbd hlo,e1,Zq hie,hu]
      ·rename_i k h hhi;cases hi with
       |none=>simp at hhi
       |some oh=>
        simp only[Option.map_some,Option.some.injEq]at hhi;obtain⟨⟨h0,h1,h2⟩,hr⟩:=hr;obtain⟨u,hu,hdu⟩:=cut l.toNat h.toNat cap lim [] (by omega) (by omega) sok hnil0;refine A.val hr ⟨u, .inl ?_,hdu⟩;have e1:=sb k h cap .sliceAcap (by omega) (by omega);have e2:=sb kl l h.toNat .sliceB h0 (by omega);have hu:=hu _ _ _ hv;simp[execOp,hv,Instr.sliceAt,Instr.slice,Instr.sliceBounds,Z3 hd,hbd hhi,hbd hlo,e1,e2,Zq hie,hu]
      ·exact hr.elim
    ·exact hr.elim
  ·rename_i km m hmx;cases mx with
   |none=>simp at hmx
   |some om=>
    simp only[Option.map_some,Option.some.injEq]at hmx;split at hr
    case h_2=>exact hr.elim
    rename_i hlo;cases lo with
    |some _=>simp at hlo
    |none=>
     split at hr
     case h_2=>exact hr.elim
     rename_i k h hhi;cases hi with
     |none=>simp at hhi
     |some oh=>
      simp only[Option.map_some,Option.some.injEq]at hhi;obtain⟨⟨h0,h1,h2⟩,hr⟩:=hr;obtain⟨u,hu,hdu⟩:=cut 0 h.toNat m.toNat (some (r+m.toNat)) [] (by omega) (by omega) (fun en h=> .inr ⟨rfl,by have:=hcap en h;omega⟩) (fun h=>by have:=hnil0 h;omega);refine A.val hr ⟨u, .inl ?_,by simpa using hdu⟩;have e1:=sb k h m.toNat .slice3B h0 (by omega);have e2:=sb km m cap .slice3Acap (by omega) (by omega);have hu:=hu _ _ _ hv;simp[execOp,hv,Instr.sliceAt,Instr.slice,Instr.sliceBounds,Z3 hd,hbd hhi,hbd hmx,e1,e2,Zq hie,hu]
  ·exact hr.elim
 ·rename_i hx;split at hr
  case h_2=>exact hr.elim
  rename_i e hs;obtain⟨d,hd,hm⟩:=A.T.und t (by rw[hs];simp);rw[hs]at hm;simp only[ShM]at hm;subst hm;split at hr
  case h_2=>exact hr.elim
  rename_i hok;have hse:M.C.T.sh e≠ .other:=by intro h;simp[okSh,h]at hok
  obtain⟨ie,hie,hies,_⟩:=A.T.info e hse;have hxv:ρ x= .slice none 0 0:=(A.L _ _ hx).1;unfold Zfe at hr;split at hr
  case h_1=>exact hr.elim
  rename_i hmx;cases mx with
  |some _=>simp at hmx
  |none=>
   split at hr
   case h_1=>exact hr.elim
   rename_i hlo;cases lo with
   |some _=>simp at hlo
   |none=>
    split at hr
    ·rename_i hhi;cases hi with
     |some _=>simp at hhi
     |none=>
      refine A.val hr ⟨ρ x, .inl ?_,A.L _ _ hx⟩;simp[execOp,hxv,Instr.sliceAt,Instr.slice,Instr.sliceBounds,Z3 hd,Zq hie]
    ·rename_i k h hhi;cases hi with
     |none=>simp at hhi
     |some oh=>
      simp only[Option.map_some,Option.some.injEq]at hhi;obtain⟨rfl,hr⟩:=hr;refine A.val hr ⟨ρ x, .inl ?_,A.L _ _ hx⟩;have e1:=sb k 0 0 .sliceAcap (by omega) (by omega);simp[execOp,hxv,Instr.sliceAt,Instr.slice,Instr.sliceBounds,Z3 hd,hbd hhi,e1,Zq hie]
    ·exact hr.elim
 ·exact hr.elim
end
theorem Z1z{w w':World}{o:Obj}(h:w'.heap=w.heap.push o){k:Nat}(hk:k<w.heap.size):w'.heap[k]?=w.heap[k]?:=by
 rw[h,Array.getElem?_push,if_neg (by omega)]
theorem Yy{w w':World}{o:Obj}(h:w'.heap=w.heap.push o):w'.heap[w.heap.size]?=some o:=by
 rw[h,Array.getElem?_push,if_pos rfl]
section
variable {M:Mx}{η:Env}{w w':World}{O:Hps}{nx:Nat}
theorem HeapOK.lt(H:HeapOK M η w O nx){i:Nat}{h:Hp}(hi:lkp i O=some h):i<nx:=by
 obtain⟨x,hx,_⟩:=(H.own.1 i h hi).1.lt;rw[<-H.len];exact(List.getElem?_eq_some_iff.1 hx).1
theorem OOK.still(H:OOK M η w O)(hh:w'.heap=w.heap):OOK M η w' O:=
 ⟨fun i h hi=>⟨(H.1 i h hi).1.keep fun k _=>by rw[hh],fun k hk=>(H.1 i h hi).2 k (hk.keep fun e _=>by rw[hh])⟩,
  fun i j h h' k hi hj hij f f'=>H.2 i j h h' k hi hj hij (f.keep fun e _=>by rw[hh]) (f'.keep fun e _=>by rw[hh])⟩
theorem HeapOK.still(H:HeapOK M η w O nx)(hh:w'.heap=w.heap)(ho:w'.os=w.os)(ht:w'.tape=w.tape)(hp:w'.output=w.output)(hdr:w.drawn<=w'.drawn):HeapOK M η w' O nx:=
 {pre:=H.pre,len:=H.len,sok:=H.sok
  own:=H.own.still hh
  fr:=⟨ho.trans H.fr.os,ht.trans H.fr.tape,hp.trans H.fr.output,Nat.le_trans H.fr.drawn hdr,by rw[hh];exact H.fr.size,fun k hk hF=>by rw[hh];exact H.fr.block k hk hF⟩}
theorem feet.of{η:Env}{w:World}{b:Blk}{h:Hp}{k:Nat}{e:Ent}(he:η.get b=some (some e))(f:feet η w b h k):e.g=k\/kid w e.g h k:=by
 obtain⟨e',h1,h2⟩:=f;rw[he]at h1;injection h1 with h1;injection h1 with h1;subst h1;exact h2
theorem feet.none{η:Env}{w:World}{b:Blk}{h:Hp}{k:Nat}(he:η.get b=some none)(f:feet η w b h k):False:=by
 obtain⟨e',h1,h2⟩:=f;rw[he]at h1;injection h1 with h1;cases h1
theorem HeapOK.stands(H:HeapOK M η w O nx){η':Env}(hp:η<+:η'){i:Nat}{h:Hp}(hi:lkp i O=some h){w':World}(hw:∀k,feet η w (.loc i) h k->w'.heap[k]?=w.heap[k]?){k:Nat}(f:feet η' w' (.loc i) h k):feet η w (.loc i) h k:=by
 obtain⟨x,hx,_⟩:=(H.own.1 i h hi).1.lt;exact(f.less hp hx).keep fun e he=>hw _ (feet.own he)
theorem HeapOK.push(H:HeapOK M η w O nx)(x:Option Ent){h:Hp}{w':World}(hold:∀k,k<w.heap.size->w'.heap[k]?=w.heap[k]?)(hsz:w.heap.size<=w'.heap.size)(ho:w'.os=w.os)(ht:w'.tape=w.tape)(hp:w'.output=w.output)(hdr:w.drawn<=w'.drawn)
 (hs:HpSat (η++ [x]) w' true (.loc nx) h) (hF:∀k,feet (η++ [x]) w' (.loc nx) h k->M.F k\/M.w0.heap.size<=k)
 (hne:∀k,feet (η++ [x]) w' (.loc nx) h k->∀(j:Nat) (g:Hp),lkp j O=some g->¬feet η w (.loc j) g k):HeapOK M (η++ [x]) w' ((nx,h)::O) (nx+1):=by
 have hpre:η<+:η++ [x]:=List.prefix_append _ _;have keep:∀i h,lkp i O=some h->∀k,feet η w (.loc i) h k->w'.heap[k]?=w.heap[k]?:=fun i h hi k f=>hold k ((H.own.1 i h hi).1.feet_lt f);have back:∀i h,lkp i O=some h->∀k,feet (η++ [x]) w' (.loc i) h k->feet η w (.loc i) h k:=fun i h hi k f=>H.stands hpre hi (keep i h hi) f;refine{pre:=H.pre.trans hpre,len:=by simp[H.len],sok:=H.sok,own:=⟨?_,?_⟩,fr:=⟨ho.trans H.fr.os,ht.trans H.fr.tape,hp.trans H.fr.output,Nat.le_trans H.fr.drawn hdr,Nat.le_trans H.fr.size hsz,?_⟩}
 ·intro i g hi;rw[Z6]at hi;split at hi
  ·rename_i e;subst e;injection hi with hi;subst hi;exact⟨hs,hF⟩
  ·exact⟨((H.own.1 i g hi).1.keep (keep i g hi)).mono hpre,fun k f=>(H.own.1 i g hi).2 k (back i g hi k f)⟩
 ·intro i j g g' k hi hj hij f f';rw[Z6]at hi hj;split at hi
  ·rename_i hq;subst hq;rw[if_neg (Ne.symm hij)]at hj;injection hi with hi;subst hi;exact hne k f j g' hj (back j g' hj k f')
  ·split at hj
   ·rename_i hq;subst hq;injection hj with hj;subst hj;exact hne k f' i g hi (back i g hi k f)
   ·exact H.own.2 i j g g' k hi hj hij (back i g hi k f) (back j g' hj k f')
 ·intro k hk hF;rw[hold k (Nat.lt_of_lt_of_le hk H.fr.size)];exact H.fr.block k hk hF
def Z8m:Hp->Bool
 | .bld _ _ _=>false
 | .deep _ _ _=>false
 | .dfr (_::_)=>false
 |_=>true
theorem Z0h{h:Hp}(hl:Z8m h=true){w:World}{g k:Nat}(f:kid w g h k):False:=by
 cases h with
 |bld T t l=>cases hl
 |deep mp es rs=>cases hl
 |dfr l=>
  cases l with
  |nil=>cases f
  |cons _ _=>cases hl
 |_=>exact f
theorem HeapOK.alloc(H:HeapOK M η w O nx){o:Obj}(hh:w'.heap=w.heap.push o)(ho:w'.os=w.os)(ht:w'.tape=w.tape)(hp:w'.output=w.output)(base cap:Nat){h:Hp}
 (hs:HpSat (η++ [some ⟨w.heap.size,base,cap⟩]) w' true (.loc nx) h) (hdr:w.drawn<=w'.drawn:=by first|exact Nat.le_refl _|exact Nat.le_succ _) (hl:Z8m h=true:=by rfl):HeapOK M (η++ [some ⟨w.heap.size,base,cap⟩]) w' ((nx,h)::O) (nx+1):=by
 have hnew:(η++ [some (⟨w.heap.size,base,cap⟩:Ent)]).get (.loc nx)=some (some ⟨w.heap.size,base,cap⟩):=by simp only[Env.get];rw[<-H.len];simp
 have one:∀k,feet (η++ [some ⟨w.heap.size,base,cap⟩]) w' (.loc nx) h k->k=w.heap.size:=fun k f=>by
  rcases f.of hnew with h1|h1
  ·exact h1.symm
  ·exact(Z0h hl h1).elim
 refine H.push _ (fun k hk=>Z1z hh hk) (by rw[hh,Array.size_push];exact Nat.le_succ _) ho ht hp hdr hs (fun k f=> .inr ?_) fun k f j g hj f'=>?_
 ·rw[one k f];exact H.fr.size
 ·have:=(H.own.1 j g hj).1.feet_lt f';rw[one k f]at this;omega
theorem HeapOK.updF(H:HeapOK M η w O nx){i:Nat}{h0 h:Hp}(hi:lkp i O=some h0){e:Ent}(he:η[i]?=some (some e))(hother:∀k,k≠e.g->w'.heap[k]?=w.heap[k]?)(hsz:w'.heap.size=w.heap.size)
 (ho:w'.os=w.os) (ht:w'.tape=w.tape) (hp:w'.output=w.output) (hs:HpSat η w' true (.loc i) h) (hdr:w.drawn<=w'.drawn) (hfe:∀k,feet η w' (.loc i) h k->feet η w (.loc i) h0 k):HeapOK M η w' (setK i h O) nx:=by
 have hsome:(lkp i O).isSome:=by rw[hi];rfl
 have fi:feet η w (.loc i) h0 e.g:=feet.own he;have keep:∀j g,j≠i->lkp j O=some g->∀k,feet η w (.loc j) g k->w'.heap[k]?=w.heap[k]?:=fun j g hji hj k f=>hother k fun hk=>H.own.2 j i g h0 k hj hi hji f (hk▸fi);have back:∀j g,j≠i->lkp j O=some g->∀k,feet η w' (.loc j) g k->feet η w (.loc j) g k:=fun j g hji hj k f=>H.stands List.prefix_rfl hj (keep j g hji hj) f;refine{pre:=H.pre,len:=H.len,sok:=H.sok,own:=⟨?_,?_⟩,fr:=⟨ho.trans H.fr.os,ht.trans H.fr.tape,hp.trans H.fr.output,Nat.le_trans H.fr.drawn hdr,by rw[hsz];exact H.fr.size,?_⟩}
 ·intro j g hj;rw[ZX i h O j hsome]at hj;split at hj
  ·rename_i e;subst e;injection hj with hj;subst hj
   exact⟨hs,fun k f=>(H.own.1 j h0 hi).2 k (hfe k f)⟩
  ·rename_i hne;exact⟨(H.own.1 j g hj).1.keep (keep j g hne hj),fun k f=>(H.own.1 j g hj).2 k (back j g hne hj k f)⟩
 ·intro j k g g' m hj hk hne f f';rw[ZX i h O j hsome]at hj;rw[ZX i h O k hsome]at hk;split at hj
  ·rename_i e1;subst e1;injection hj with hj;subst hj
   rw[if_neg (Ne.symm hne)]at hk;exact H.own.2 j k h0 g' m hi hk hne (hfe m f) (back k g' (Ne.symm hne) hk m f')
  ·rename_i hji;split at hk
   ·rename_i e1;subst e1;injection hk with hk;subst hk
    exact H.own.2 j k g h0 m hj hi hne (back j g hji hj m f) (hfe m f')
   ·rename_i hki;exact H.own.2 j k g g' m hj hk hne (back j g hji hj m f) (back k g' hki hk m f')
 ·intro k hk hF;rw[hother k ?_]
  ·exact H.fr.block k hk hF
  ·intro hke;subst hke;rcases H.ownF hi he with h1|h1
   ·exact hF h1
   ·omega
theorem HeapOK.upd(H:HeapOK M η w O nx){i:Nat}{h0 h:Hp}(hi:lkp i O=some h0){e:Ent}(he:η[i]?=some (some e))(hother:∀k,k≠e.g->w'.heap[k]?=w.heap[k]?)(hsz:w'.heap.size=w.heap.size)
 (ho:w'.os=w.os) (ht:w'.tape=w.tape) (hp:w'.output=w.output) (hs:HpSat η w' true (.loc i) h) (hdr:w.drawn<=w'.drawn:=by first|exact Nat.le_refl _|exact Nat.le_succ _) (hl:Z8m h=true:=by rfl):HeapOK M η w' (setK i h O) nx:=
 H.updF hi he hother hsz ho ht hp hs hdr fun k f=>by
  rcases f.of (e:=e) (show η.get (.loc i)=some (some e)from he)with h1|h1
  ·exact h1▸feet.own he
  ·exact(Z0h hl h1).elim
theorem HeapOK.name(H:HeapOK M η w O nx)(x:Option Ent){h:Hp}(hs:HpSat (η++ [x]) w true (.loc nx) h)(hF:∀e,x=some e->M.F e.g\/M.w0.heap.size<=e.g)
 (hne:∀e,x=some e->∀(j:Nat) (g:Hp),lkp j O=some g->¬feet η w (.loc j) g e.g) (hl:Z8m h=true:=by rfl):HeapOK M (η++ [x]) w ((nx,h)::O) (nx+1):=by
 have hnew:(η++ [x]).get (.loc nx)=some x:=by simp only[Env.get];rw[<-H.len];simp
 have one:∀k,feet (η++ [x]) w (.loc nx) h k->∃e,x=some e/\k=e.g:=fun k f=>by
  obtain⟨e,h1,h2⟩:=f;rw[hnew]at h1;injection h1 with h1
  rcases h2 with h2|h2
  ·exact⟨e,h1,h2.symm⟩
  ·exact(Z0h hl h2).elim
 refine H.push x (fun k hk=>rfl) (Nat.le_refl _) rfl rfl rfl (Nat.le_refl _) hs (fun k f=>?_) fun k f j g hj f'=>?_
 ·obtain⟨e,h1,rfl⟩:=one k f;exact hF e h1
 ·obtain⟨e,h1,rfl⟩:=one k f;exact hne e h1 j g hj f'
end
theorem X3{P:Program}(g o:Nat)(t:TypeId)(fz:Nat×Nat):∀(vs:List Value) (i:Nat) (cur:Array Value) (w:World),w.heap[g]?=some (.cells cur t fz)->o+i+vs.length<=cur.size->Vm cur.size fz->(∀v∈vs,v.oneCell'=true)->
 (storeCells ⟨g,o,none⟩ vs i).run P w= .ok () (w.setRow g (cur.toList.take (o+i)++vs++cur.toList.drop (o+i+vs.length)).toArray)
 | [],i,cur,w,hg,_,_,_=>by
   simp only[storeCells,List.append_nil,List.length_nil,Nat.add_zero,List.take_append_drop,Array.toArray_toList];rw[setRow_self w g cur t fz hg]
   rfl
 |v::rest,i,cur,w,hg,hl,hu,h1=>by
  have hi:o+i<cur.size:=by simp at hl;omega
  have hadd:(⟨g,o,none⟩:Addr).add i=⟨g,o+i,none⟩:=by unfold Addr.add;split<;>simp_all
  have hcell:w.cell? ⟨g,o+i,none⟩=some cur[o+i]:=by simp[World.cell?,hg,hi]
  have hfro:w.frozen? ⟨g,o+i,none⟩=false:=by
   have:=hu (o+i) hi;simp only[World.frozen?,hg];simpa using this
  have hst:(store ((⟨g,o,none⟩:Addr).add i) v).run P w= .ok () (w.setRow g (cur.setIfInBounds (o+i) v)):=by
   rw[hadd,run_store P w _ v _ (h1 v (by simp)),hcell];simp[hfro,setCell_eq_setRow w g (o+i) cur t fz v hg]
  have ih:=X3 (P:=P) g o t fz rest (i+1) (cur.setIfInBounds (o+i) v) (w.setRow g (cur.setIfInBounds (o+i) v)) (setRow_heap w g cur _ t _ hg) (by simp at hl⊢;omega) (by simpa using hu) (fun x hx=>h1 x (by simp[hx]));simp only[storeCells,Sem.run_bind,hst,Result.andThen_ok,ih,setRow_setRow];congr 3;have:=list_seg_step cur.toList (o+i) v rest (by simp at hl⊢;omega);simpa[Nat.add_assoc,Nat.add_comm,Nat.add_left_comm]using this
theorem Z2a{P:Program}{T:Tab}(hT:TabOK P T){η:Env}{t:TypeId}{c:Nat}{row:List SV}{v:SV}{O:Hps}{nx:Nat}{O':Hps}{nx':Nat}{w:World}{g o:Nat}{arr:Array Value}{tt:TypeId}{fz:Nat×Nat}
 (hg:w.heap[g]?=some (.cells arr tt fz)) (hc:CellsAt η arr o row) (hr:(WW T t c row).ok O nx v O' nx'):O'=O/\nx'=nx/\∃u,(loadVar t ⟨g,o+c,none⟩).run P w= .ok u w/\Den η v u:=by
 unfold WW at hr;cases ht:Z0S (T.size t) (row.drop c)with
 |none=>rw[ht]at hr;exact hr.elim
 |some cs=>
  rw[ht]at hr;simp only at hr;obtain⟨rfl,hlen⟩:=VQ ht;cases ho:YH T t ((row.drop c).take (T.size t))with
  |none=>rw[ho]at hr;exact hr.elim
  |some sv=>
   rw[ho]at hr;obtain⟨rfl,rfl,rfl⟩:=hr
   have hsh:T.sh t≠ .other:=by
    intro e;simp only[YH,e]at ho;cases ho
   obtain⟨i,hi,hsz,_⟩:=hT.info t hsh;refine⟨rfl,rfl,?_⟩;have ag:=Z2I hT hsh w
   have hfrom:From η (row.drop c) arr.toList (o+c):=by
    intro j sv hj;rw[List.getElem?_drop]at hj;obtain⟨u,h1,_,h2⟩:=hc _ _ hj;exact⟨u,by rw[Nat.add_assoc];simpa using h1,h2⟩
   have hone:∀u∈(arr.toList.drop (o+c)).take (T.size t),u.oneCell'=true:=by
    intro u hu;obtain⟨j,hj⟩:=List.getElem?_of_mem hu;rw[List.getElem?_take]at hj;split at hj
    ·rename_i hlt;have hjr:(row.drop c)[j]?=some ((row.drop c)[j]'(by omega)):=List.getElem?_eq_getElem _;rw[List.getElem?_drop]at hjr hj;obtain⟨u',h1,h2,_⟩:=hc _ _ hjr;have:arr.toList[o+c+j]?=some u':=by rw[Nat.add_assoc];simpa using h1
     rw[this]at hj;injection hj with hj;subst hj;exact h2
    ·cases hj
   have hdd:=hfrom.take hlen
   have hcell:∀j u,((arr.toList.drop (o+c)).take (T.size t))[j]?=some u->w.cell? ((⟨g,o+c,none⟩:Addr).add j)=some u:=by
    intro j u hj;rw[List.getElem?_take]at hj;split at hj
    ·rw[List.getElem?_drop]at hj;rw[Addr.add_lit];simp only[World.cell?,hg];simpa using hj
    ·cases hj
   have hll:((arr.toList.drop (o+c)).take (T.size t)).length=T.size t:=by rw[ZP hdd,List.length_take];omega
   have agg:(Uz (T.sh t))=true->v= .agg ((row.drop c).take (T.size t))->∃u,(loadVar t ⟨g,o+c,none⟩).run P w= .ok u w/\Den η v u:=by
    rintro hb rfl;rw[hb]at ag;have hl:=run_loadCells_list (P:=P) w ⟨g,o+c,none⟩ _ hcell;rw[hll]at hl;refine⟨.agg ⟨(arr.toList.drop (o+c)).take (T.size t)⟩,?_,?_⟩
    ·simp only[loadVar,Sem.run_bind,ag,Result.andThen_ok,if_true,Zq hi,hsz,hl,Sem.run_pure]
    ·simp only[Den];exact⟨_,rfl,hdd,hone⟩
   have one:(Uz (T.sh t))=false->(row.drop c).take (T.size t)=[v]->∃u,(loadVar t ⟨g,o+c,none⟩).run P w= .ok u w/\Den η v u:=by
    intro hb hs;rw[hb]at ag;rw[hs]at hdd;obtain⟨u,hu,hdu⟩:=XC (i:=0) hdd rfl;have:=hcell 0 u hu;rw[Addr.add_zero']at this;exact⟨u,by simp[loadVar,ag,this],hdu⟩
   cases hs:T.sh t<;>rw[hs]at agg one<;>simp only[YH,hs]at ho
   case struct=>simp only[Option.some.injEq]at ho;exact agg rfl ho.symm
   case array=>simp only[Option.some.injEq]at ho;exact agg rfl ho.symm
   case other=>cases ho
   all_goals
    split at ho
    ·rename_i c hc;simp only[Option.some.injEq]at ho;subst ho;exact one rfl hc
    ·cases ho
section
variable {M:Mx}{η:Env}{w:World}{O:Hps}{nx:Nat}{ρ:Operand->Value}{lk:Operand->Option SV}{v:SV}{O':Hps}{nx':Nat}{dst:Option Tmp}{ty:TypeId}{pos:String}{af:Array Edge}{gd:Option (Nat×Bool)}
theorem Z8n{η:Env}{arr:Array Value}{base es:Nat}:∀{rs:List (List SV)},(∀(i:Nat) (row:List SV),rs[i]?=some row->row.length=es/\CellsAt η arr (base+i*es) row)->
 DenLL η es rs ((arr.toList.drop base).take (rs.length*es))/\((arr.toList.drop base).take (rs.length*es)).length=rs.length*es/\∀u∈(arr.toList.drop base).take (rs.length*es),u.oneCell'=true:=by
 intro rs
 induction rs generalizing base with
 |nil=>intro _;simp[DenLL]
 |cons r rs ih=>
  intro h;obtain⟨h1,h2⟩:=h 0 r rfl
  have h3:=ih (base:=base+es) (fun i row hi=>by
   obtain⟨h4,h5⟩:=h (i+1) row (by simpa using hi);refine⟨h4,?_⟩;rw[show base+es+i*es=base+(i+1)*es by rw[Nat.succ_mul];omega]
   exact h5)
  have hf:From η r arr.toList base:=fun j sv hj=>by
   obtain⟨u,h6,_,h7⟩:=h2 j sv hj;exact⟨u,by simpa using h6,h7⟩
  have hd:=hf.take (n:=es) (by omega);rw[List.take_of_length_le (by omega)]at hd;have hlen:((arr.toList.drop base).take es).length=es:=by rw[ZP hd,h1]
  have hsplit:(arr.toList.drop base).take ((r::rs).length*es)=(arr.toList.drop base).take es++(arr.toList.drop (base+es)).take (rs.length*es):=by
   rw[List.length_cons,Nat.succ_mul,Nat.add_comm,List.take_add,List.drop_drop]
  rw[hsplit];refine⟨?_,?_,?_⟩
  ·simp only[DenLL];exact⟨_,_,rfl,hlen,hd,h3.1⟩
  ·rw[List.length_append,hlen,h3.2.1,List.length_cons,Nat.succ_mul];omega
  ·intro u hu;rcases List.mem_append.1 hu with hu|hu
   ·obtain⟨j,hj⟩:=List.getElem?_of_mem hu;rw[List.getElem?_take]at hj;split at hj
    ·rename_i hlt;obtain⟨u',h6,h7,_⟩:=h2 j _ (List.getElem?_eq_getElem (by omega));rw[List.getElem?_drop]at hj;rw[Nat.zero_mul,Nat.add_zero]at h6;have:arr.toList[base+j]?=some u':=by simpa using h6
     rw[this]at hj;injection hj with hj;subst hj;exact h7
    ·cases hj
   ·exact h3.2.2 u hu
theorem Z2O(hT:TabOK M.P M.C.T)(H:HeapOK M η w O nx){t:TypeId}{p:SV}{pv:Value}(hxv:Den η p pv)(hr:(ZaA M.C.T (Yp M.C O) t p).ok O nx v O' nx'):
 O'=O/\nx'=nx/\∃a u,pv= .pointer (some a)/\(loadVar t a).run M.P w= .ok u w/\Den η v u:=by
 unfold ZaA at hr;split at hr
 case h_2=>exact hr.elim
 rename_i b r es c;simp only[Den]at hxv;obtain⟨en,hb,hxv⟩:=hxv;subst hxv;split at hr
 ·rename_i row hh;have hsat:=H.look hh;simp only[HpSat]at hsat;obtain⟨en',arr,T,fz,h1,h2,_,h3⟩:=hsat;rw[hb]at h1;injection h1 with h1;injection h1 with h1;subst h1
  split at hr
  case h_2=>exact hr.elim
  rename_i hz;have hz:=Zn hz;subst hz;obtain⟨e1,e2,u,hu,hd⟩:=Z2a hT h2 h3 hr;exact⟨e1,e2,_,u,rfl,by rw[Nat.zero_mul,Nat.zero_add];exact hu,hd⟩
 ·rename_i es' rs hh;have hsat:=H.look hh;simp only[HpSat]at hsat;split at hr
  case h_2=>exact hr.elim
  rename_i hes;have hes:=Zn hes;subst hes;rcases hsat with⟨h1,_⟩|⟨en',arr,T,fz,h1,h2,_,h3⟩
  ·rw[hb]at h1;cases h1
  rw[hb]at h1;injection h1 with h1;injection h1 with h1;subst h1
  have rowcase:∀{hr:(Res.get rs r fun row=>WW M.C.T t c row).ok O nx v O' nx'},O'=O/\nx'=nx/\∃a u,(Value.pointer (some ⟨en.g,en.base+(r*es+c),none⟩))= .pointer (some a)/\(loadVar t a).run M.P w= .ok u w/\Den η v u:=by
   rintro⟨row,hrow,hr⟩;obtain⟨h4,h5⟩:=h3 r row hrow;obtain⟨e1,e2,u,hu,hd⟩:=Z2a hT h2 h5 hr;exact⟨e1,e2,_,u,rfl,by rw[<-Nat.add_assoc];exact hu,hd⟩
  split at hr
  ·rename_i n e hs;split at hr
   ·rename_i hse;have hse:=Zn hse;obtain⟨⟨rfl,rfl,hlen⟩,rfl,rfl,rfl⟩:=hr;obtain⟨h4,h5,h6⟩:=Z8n h3;obtain⟨d,hd,hm⟩:=hT.und t (by rw[hs];simp);rw[hs]at hm;simp only[ShM]at hm;obtain⟨rfl,hsz,_⟩:=hm;obtain⟨i,hi,hisz,_⟩:=hT.info t (by rw[hs];simp);have ag:=Z2I hT (t:=t) (by rw[hs];simp) w;rw[hs]at ag;simp only[Uz]at ag
    have hcell:∀j u,((arr.toList.drop en.base).take (rs.length*es))[j]?=some u->w.cell? ((⟨en.g,en.base,none⟩:Addr).add j)=some u:=by
     intro j u hj;rw[List.getElem?_take]at hj;split at hj
     ·rw[List.getElem?_drop]at hj;rw[Addr.add_lit];simp only[World.cell?,h2];simpa using hj
     ·cases hj
    have hl:=run_loadCells_list (P:=M.P) w ⟨en.g,en.base,none⟩ _ hcell;rw[h5]at hl;have hszz:i.size=rs.length*es:=by rw[hisz,hsz,hlen,hse]
    refine⟨rfl,rfl,_, .agg ⟨(arr.toList.drop en.base).take (rs.length*es)⟩,rfl,?_,?_⟩
    ·simp only[Nat.zero_mul,Nat.add_zero];simp only[loadVar,Sem.run_bind,ag,Result.andThen_ok,if_true,Zq hi,hszz,hl,Sem.run_pure]
    ·simp only[Den];exact⟨_,rfl,h4,h6⟩
   ·exact rowcase (hr:=hr)
  ·exact rowcase (hr:=hr)
 ·rename_i es' rs hh;have hsat:=H.look hh;simp only[HpSat]at hsat;split at hr
  case h_2=>exact hr.elim
  rename_i hes;have hes:=Zn hes;subst hes;rcases hsat.1 with⟨h1,_⟩|⟨en',arr,T,fz,h1,h2,_,h3⟩
  ·rw[hb]at h1;cases h1
  rw[hb]at h1;injection h1 with h1;injection h1 with h1;subst h1
  obtain⟨row,hrow,hr⟩:=hr;obtain⟨h4,h5⟩:=h3 r row hrow;obtain⟨e1,e2,u,hu,hd⟩:=Z2a hT h2 h5 hr;exact⟨e1,e2,_,u,rfl,by rw[<-Nat.add_assoc];exact hu,hd⟩
 ·exact hr.elim
theorem Zil(A:At M η w O nx ρ lk)(args:Array Operand)(ts:Array TypeId)(hr:(opR M.C lk O nx (.call ⟨.builtin .len,args,ts⟩)).ok O nx v O' nx'):Y3 M η w ⟨dst, .call ⟨.builtin .len,args,ts⟩,ty,pos,af,gd⟩ ρ v O' nx':=by
 simp only[opR,Vl,lenR]at hr;split at hr
 case h_2=>exact hr.elim
 rename_i x ha;obtain rfl:args= #[x]:=by apply Array.ext';simpa using ha
 split at hr
 case h_2=>exact hr.elim
 rename_i t ht;obtain rfl:ts= #[t]:=by apply Array.ext';simpa using ht
 split at hr
 ·rename_i s hx;split at hr
  case h_2=>exact hr.elim
  rename_i hs;obtain⟨d,hd,hm⟩:=A.T.und t (by rw[hs];simp);rw[hs]at hm;simp only[ShM]at hm;subst hm;have hxv:=Z1y (A.L _ _ hx);exact A.val hr ⟨.int .i64 s.length, .inl (by simp[execOp,resolve,invoke,builtin,hxv,Builtin.len_,Z3 hd,goInt,VE]),rfl⟩
 ·rename_i b r es len lim hx;split at hr
  case h_2=>exact hr.elim
  rename_i e hs;obtain⟨d,hd,hm⟩:=A.T.und t (by rw[hs];simp);rw[hs]at hm;simp only[ShM]at hm;subst hm;have hxv:=A.L _ _ hx
  obtain⟨a,cap,hv⟩:∃a cap,ρ x= .slice a len cap:=by
   simp only[Den]at hxv;rcases hxv with⟨_,h,rfl⟩|⟨en,o,_,h,_⟩
   ·exact⟨_,_,h⟩
   ·exact⟨_,_,h⟩
  exact A.val hr ⟨.int .i64 len, .inl (by simp[execOp,resolve,invoke,builtin,hv,Builtin.len_,Z3 hd,goInt]),rfl⟩
 ·rename_i hx;split at hr
  case h_2=>exact hr.elim
  rename_i e hs;obtain⟨d,hd,hm⟩:=A.T.und t (by rw[hs];simp);rw[hs]at hm;simp only[ShM]at hm;subst hm;have hxv:=(A.L _ _ hx).1;exact A.val hr ⟨.int .i64 _, .inl (by simp[execOp,resolve,invoke,builtin,hxv,Builtin.len_,Z3 hd,goInt]),rfl⟩
 ·rename_i b hx;split at hr
  case h_2=>exact hr.elim
  rename_i kt et hs;obtain⟨d,hd,hm⟩:=A.T.und t (by rw[hs];simp);rw[hs]at hm;simp only[ShM]at hm;subst hm;split at hr
  case h_2=>exact hr.elim
  rename_i rs hb;have hxv:=A.L _ _ hx;simp only[Den]at hxv;obtain⟨e,he,hv⟩:=hxv;have hsat:=A.H.look hb;simp only[HpSat]at hsat;obtain⟨e',es,h1,h2,h3,h4,h5⟩:=hsat;rw[he]at h1;cases h1;exact A.val hr ⟨.int .i64 rs.length, .inl (by simp[execOp,resolve,invoke,builtin,hv,Builtin.len_,Z3 hd,goInt,JG h3,h4]),rfl⟩
 ·exact hr.elim
theorem Zim(A:At M η w O nx ρ lk)(args:Array Operand)(ts:Array TypeId)(hr:(opR M.C lk O nx (.call ⟨.builtin .cap,args,ts⟩)).ok O nx v O' nx'):Y3 M η w ⟨dst, .call ⟨.builtin .cap,args,ts⟩,ty,pos,af,gd⟩ ρ v O' nx':=by
 simp only[opR,Vl,capR]at hr;split at hr
 case h_2=>exact hr.elim
 rename_i x ha;obtain rfl:args= #[x]:=by apply Array.ext';simpa using ha
 split at hr
 case h_2=>exact hr.elim
 rename_i t ht;obtain rfl:ts= #[t]:=by apply Array.ext';simpa using ht
 split at hr
 case h_2=>exact hr.elim
 rename_i hx;split at hr
 case h_2=>exact hr.elim
 rename_i e hs;obtain⟨d,hd,hm⟩:=A.T.und t (by rw[hs];simp);rw[hs]at hm;simp only[ShM]at hm;subst hm;have hxv:ρ x= .slice none 0 0:=(A.L _ _ hx).1;exact A.val hr ⟨.int .i64 0, .inl (by simp[execOp,resolve,invoke,builtin,hxv,Builtin.cap_,Z3 hd,goInt]),rfl⟩
end
theorem W9(n:Nat):Vm n (0,0):=fun o _ h=>by omega
theorem CellsAt.of_denL{η:Env}{row:List SV}{vs:List Value}(h:DenL η row vs)(h1:∀u∈vs,u.oneCell'=true):CellsAt η ⟨vs⟩ 0 row:=by
 intro j sv hj;obtain⟨u,hu,hd⟩:=XC h hj;exact⟨u,by simpa using hu,h1 u (List.mem_of_getElem? hu),hd⟩
theorem Xe{η:Env}{es:Nat}{rs:List (List SV)}{vs:List Value}(h:DenLL η es rs vs)(h1:∀u∈vs,u.oneCell'=true):∀(i:Nat) (row:List SV),rs[i]?=some row->row.length=es/\CellsAt η ⟨vs⟩ (0+i*es) row:=by
 intro i row hi;obtain⟨h2,h3⟩:=Z2L h hi;refine⟨h3,fun j sv hj=>?_⟩;obtain⟨u,hu,hd⟩:=h2 j sv hj;exact⟨u,by simpa using hu,h1 u (List.mem_of_getElem? hu),hd⟩
def X9(w:World)(o:Obj):World:={w with heap:=w.heap.push o}
section
variable {M:Mx}{η:Env}{w:World}{O:Hps}{nx:Nat}{ρ:Operand->Value}{lk:Operand->Option SV}{v:SV}{O':Hps}{nx':Nat}{dst:Option Tmp}{ty:TypeId}{pos:String}{af:Array Edge}{gd:Option (Nat×Bool)}
theorem ZL{η:Env}{nx:Nat}(h:η.length=nx)(e:Option Ent):Env.get (η++ [e]) (.loc nx)=some e:=by
 subst h;simp[Env.get]
theorem Zg5(H:HeapOK M η w O nx)(e:TypeId){row:List SV}{vs:List Value}(h:DenL η row vs)(h1:∀u∈vs,u.oneCell'=true):
 HeapOK M (η++ [some ⟨w.heap.size,0,1⟩]) (X9 w (.cells ⟨vs⟩ e)) ((nx, .box row)::O) (nx+1):=by
 refine H.alloc (w':=X9 w (.cells ⟨vs⟩ e)) rfl rfl rfl rfl 0 1 ?_;simp only[HpSat];exact⟨_,⟨vs⟩,e,(0,0),ZL H.len _,Yy (w:=w) (w':=X9 w (.cells ⟨vs⟩ e)) rfl,fun _=>W9 _,(CellsAt.of_denL h h1).mono (List.prefix_append _ _)⟩
theorem Z2b(H:HeapOK M η w O nx)(e:TypeId){es:Nat}{rs:List (List SV)}{vs:List Value}(cap:Nat){arr:Array Value}(hsz:arr.size=cap*es)(hcap:rs.length<=cap)
 (hr:∀(i:Nat) (row:List SV),rs[i]?=some row->row.length=es/\CellsAt η arr (0+i*es) row):
 HeapOK M (η++ [some ⟨w.heap.size,0,cap⟩]) (X9 w (.cells arr e)) ((nx, .rows es rs)::O) (nx+1):=by
 refine H.alloc (w':=X9 w (.cells arr e)) rfl rfl rfl rfl 0 cap ?_;simp only[HpSat];right
 exact⟨_,arr,e,(0,0),ZL H.len _,Yy (w:=w) (w':=X9 w (.cells arr e)) rfl,fun _=>⟨W9 _,hsz,hcap,rfl⟩,fun i row hi=>⟨(hr i row hi).1,(hr i row hi).2.mono (List.prefix_append _ _)⟩⟩
theorem Z4C(A:At M η w O nx ρ lk)(e:TypeId){v0:SV}{u:Value}(hd:Den η v0 u)(hr:(Ze2 M.C.T e nx v0).ok O nx v O' nx'):
 ∃η',η<+:η'/\HeapOK M η' (X9 w (.cells u.cells e)) O' nx'/\Den η' v (.pointer (some ⟨w.heap.size,0,none⟩))/\η'≠η:=by
 have hptr:∀(es:Nat) (cap:Nat),Den (η++ [some ⟨w.heap.size,0,cap⟩]) (.ptr (.loc nx) 0 es 0) (.pointer (some ⟨w.heap.size,0,none⟩)):=by
  intro es cap;simp only[Den];exact⟨_,ZL A.H.len _,by simp⟩
 have hbox:∀{h:Hp} {es:Nat},Ze1 M.C.T e v0=some h->(∀n q,M.C.T.sh e= .array n q->M.C.T.size q=es)->v= .ptr (.loc nx) 0 es 0->O'=(nx,h)::O->nx'=nx+1->∃η',η<+:η'/\HeapOK M η' (X9 w (.cells u.cells e)) O' nx'/\Den η' v (.pointer (some ⟨w.heap.size,0,none⟩))/\η'≠η:=by
  rintro h es hb hes rfl rfl rfl;unfold Ze1 at hb;split at hb
  ·rename_i n q hs;split at hb
   case h_2=>cases hb
   rename_i cs;rw[hs]at hb;simp only at hb;split at hb
   case h_2=>cases hb
   rename_i rs hc;injection hb with hb;subst hb;simp only[Den]at hd;obtain⟨vs,rfl,h1,h2⟩:=hd;obtain⟨h3,h4,_⟩:=V1 hc;have hl:=ZP h1;exact⟨_,List.prefix_append _ _,Z2b A.H e (vs:=vs) n (by show vs.length=_;rw[hl,h4]) (by omega) (Xe (Z2M hc h1) h2),hptr _ _,by simp⟩
  ·cases hb
  ·split at hb
   case h_2=>cases hb
   rename_i cs hc;injection hb with hb;subst hb;obtain⟨h1,h2⟩:=UJ hd hc;have:=Zg5 A.H e h1 h2;exact⟨_,List.prefix_append _ _,by simpa using this,hptr _ _,by simp⟩
 unfold Ze2 at hr;split at hr
 ·rename_i n q es rs hs;split at hr
  case h_2=>exact hr.elim
  rename_i hes;have hes:=Zn hes;subst hes;obtain⟨hlen,rfl,rfl,rfl⟩:=hr;simp only[Den]at hd;obtain⟨vs,rfl,h1,h2⟩:=hd;have hl:=V2 h1;exact⟨_,List.prefix_append _ _,Z2b A.H e (vs:=vs) n (by show vs.length=_;rw[hl,hlen]) (by omega) (Xe h1 h2),hptr _ _,by simp⟩
 ·rename_i n q v0' hs _;split at hr
  case h_2=>exact hr.elim
  rename_i h hb;obtain⟨e1,e2,e3⟩:=hr;exact hbox hb (fun n' q' h=>by rw[hs]at h;injection h with _ h;rw[h]) e1 e2 e3
 ·rename_i hna _;split at hr
  case h_2=>exact hr.elim
  rename_i h hb;obtain⟨e1,e2,e3⟩:=hr;exact hbox hb (fun n' q' h=>absurd h (hna _ _)) e1 e2 e3
theorem Zc3(A:At M η w O nx ρ lk)(tb te:TypeId){v0:SV}{u:Value}(hd:Den η v0 u)(hr:(ZbL tb te nx v0).ok O nx v O' nx'):
 ∃η',η<+:η'/\HeapOK M η' (X9 w (.cells u.cells tb)) O' nx'/\Den η' v (.pointer (some ⟨w.heap.size,0,none⟩))/\η'≠η:=by
 unfold ZbL at hr;split at hr
 case h_2=>exact hr.elim
 obtain⟨rfl,rfl,rfl⟩:=hr;simp only[Den,DenL]at hd;obtain⟨vs,rfl,⟨u1,us1,rfl,h1,u2,us2,rfl,h2,rfl⟩,_⟩:=hd;obtain⟨rfl,_⟩:=h1;obtain⟨rfl,_⟩:=h2;have hheap:(X9 w (.cells #[.pointer none, .slice none 0 0] tb)).heap[w.heap.size]?=some (.cells #[.pointer none, .slice none 0 0] tb (0,0)):=Yy (w:=w) rfl;have hnew:(η++ [some (⟨w.heap.size,0,1⟩:Ent)]).get (.loc nx)=some (some ⟨w.heap.size,0,1⟩):=ZL A.H.len _
 have one:∀k,feet (η++ [some ⟨w.heap.size,0,1⟩]) (X9 w (.cells #[.pointer none, .slice none 0 0] tb)) (.loc nx) (.bld tb te []) k->k=w.heap.size:=fun k f=>by
  rcases f.of hnew with h|h
  ·exact h.symm
  ·simp only[kid]at h;obtain⟨arr,T,fz,v,k1,k2,k3⟩:=h;rw[hheap]at k1;injection k1 with k1;injection k1 with k1;subst k1;simp at k2;subst k2;simp[Value.ownBlock]at k3
 refine⟨_,List.prefix_append _ _,A.H.push (some ⟨w.heap.size,0,1⟩) (fun k hk=>Z1z (w:=w) rfl hk) (by simp[X9]) rfl rfl rfl (Nat.le_refl _) ?_ (fun k f=> .inr ?_) (fun k f j g hj f'=>?_),?_,by simp⟩
 ·simp only[HpSat];exact⟨_,hnew,rfl, .inl ⟨Nat.zero_le _,_,hheap,⟨rfl, .inl ⟨rfl,rfl⟩⟩,by simp[Value.ownBlock]⟩⟩
 ·rw[one k f];exact A.H.fr.size
 ·have:=(A.H.own.1 j g hj).1.feet_lt f';rw[one k f]at this;omega
 ·simp only[Den];exact⟨_,hnew,by simp⟩
theorem Z6E(A:At M η w O nx ρ lk)(e:TypeId){v0:SV}{u:Value}(hd:Den η v0 u)(hr:(newR M.C.T e nx v0).ok O nx v O' nx'):
 ∃η',η<+:η'/\HeapOK M η' (X9 w (.cells u.cells e)) O' nx'/\Den η' v (.pointer (some ⟨w.heap.size,0,none⟩))/\η'≠η:=by
 unfold newR at hr;split at hr
 ·split at hr
  ·rename_i h;rw[Zn h];exact Zc3 A _ _ hd hr
  ·exact Z4C A e hd hr
 ·exact Z4C A e hd hr
theorem Zg6(A:At M η w O nx ρ lk)(e:TypeId)(hr:(opR M.C lk O nx (.alloc e)).ok O nx v O' nx'):Y3 M η w ⟨dst, .alloc e,ty,pos,af,gd⟩ ρ v O' nx':=by
 simp only[opR,Zff]at hr;split at hr
 ·exact hr.elim
 rename_i c cs hz;split at hr
 case h_2=>exact hr.elim
 rename_i v0 ho;have hsh:M.C.T.sh e≠ .other:=by intro h;simp[YH,h]at ho
 obtain⟨i,z,h1,h2,h3⟩:=Z02 A.T hsh (by rw[hz];simp) (by rw[hz];exact ho) η;obtain⟨η',h4,h5,h6,h7⟩:=Z6E A e h3 hr;exact⟨_,_,η', .inl (by simp[execOp,Instr.alloc,XW h1 h2,newVar,newRow];rfl),h4,h5,h6,fun _ h=>absurd h h7⟩
theorem Zin(A:At M η w O nx ρ lk)(e:TypeId)(x:Operand)(hr:(opR M.C lk O nx (.box e x)).ok O nx v O' nx'):Y3 M η w ⟨dst, .box e x,ty,pos,af,gd⟩ ρ v O' nx':=by
 simp only[opR,boxR]at hr;split at hr
 case h_2=>exact hr.elim
 rename_i v0 hx;obtain⟨η',h4,h5,h6,h7⟩:=Z6E A e (A.L _ _ hx) hr;exact⟨_,_,η', .inl (by simp[execOp,Instr.box,newVar,newRow];rfl),h4,h5,h6,fun _ h=>absurd h h7⟩
theorem Z1A:∀{row vs r:List SV},WV row vs=some r->r=vs++row.drop vs.length/\vs.length<=row.length
 |row,[],r,h=>by simp only[WV,Option.some.injEq]at h;subst h;simp
 | [],v::vs,r,h=>by simp[WV]at h
 |x::row,v::vs,r,h=>by
  simp only[WV]at h;cases e:WV row vs with
  |none=>rw[e]at h;cases h
  |some q=>
   rw[e]at h;simp only[Option.some.injEq]at h;subst h;obtain⟨h1,h2⟩:=Z1A e;subst h1;simp;omega
theorem Vo:∀{c:Nat} {row vs r:List SV},VC c row vs=some r->r=row.take c++vs++row.drop (c+vs.length)/\c+vs.length<=row.length
 |0,row,vs,r,h=>by
  simp only[VC]at h;obtain⟨h1,h2⟩:=Z1A h;subst h1;simp;exact h2
 |c+1,[],vs,r,h=>by simp[VC]at h
 |c+1,x::row,vs,r,h=>by
  simp only[VC]at h;cases e:VC c row vs with
  |none=>rw[e]at h;cases h
  |some q=>
   rw[e]at h;simp only[Option.some.injEq]at h;subst h;obtain⟨h1,h2⟩:=Vo e;subst h1;rw[show c+1+vs.length=(c+vs.length)+1 by omega];simp;omega
theorem Z2P(off:Nat):∀(vs:List Value) (k:Nat) (cur:Array Value),off+k+vs.length<=cur.size->
 ((vs.zipIdx k).foldl (fun cs (p:Value×Nat)=>cs.setIfInBounds (off+p.2) p.1) cur).toList=cur.toList.take (off+k)++vs++cur.toList.drop (off+k+vs.length)
 | [],k,cur,h=>by simp
 |v::vs,k,cur,h=>by
  have ih:=Z2P off vs (k+1) (cur.setIfInBounds (off+k) v) (by simp at h⊢;omega);simp only[List.zipIdx_cons,List.foldl_cons];rw[ih];have:=list_seg_step cur.toList (off+k) v vs (by simp at h⊢;omega);simpa[Nat.add_assoc,Nat.add_comm,Nat.add_left_comm]using this
theorem Z2c{η:Env}{place:Nat->Option (Nat×Nat)}:∀{ps:List (Nat×SV)} {vs:List (Nat×Value)} {cells:List SV} {cur:Array Value} {cs:List SV},Z8g cells place ps=some cs->DenL η cells cur.toList->(∀u∈cur.toList,u.oneCell'=true)->
 vs.length=ps.length->(∀(i:Nat) (p:Nat×SV),ps[i]?=some p->∃u,vs[i]?=some (p.1,u)/\Den η p.2 u)->
 ∃arr,Instr.fill place cur vs=some arr/\DenL η cs arr.toList/\∀u∈arr.toList,u.oneCell'=true
 | [],vs,cells,cur,cs,h,hd,h1,hl,_=>by
   simp only[Z8g,Option.some.injEq]at h;subst h;obtain rfl:vs=[]:=List.length_eq_zero_iff.1 hl;exact⟨cur,rfl,hd,h1⟩
 |(i,sv)::ps,[],cells,cur,cs,h,hd,h1,hl,_=>by simp at hl
 |(i,sv)::ps,(i',u)::vs,cells,cur,cs,h,hd,h1,hl,hp=>by
  obtain⟨u',hu,hdu⟩:=hp 0 (i,sv) rfl;simp at hu;obtain⟨rfl,rfl⟩:=hu;simp only[Z8g]at h;split at h
  case h_2=>cases h
  rename_i off size hpl;split at h
  case h_2=>cases h
  rename_i ws hws;split at h
  case h_2=>cases h
  rename_i cells' hlen hsp;have hlen:=lenIs_iff.1 hlen;obtain⟨rfl,hle⟩:=Vo hsp;obtain⟨h2,h3⟩:=UJ hdu hws;have hl2:=ZP h2;have hl3:=ZP hd;have hsz:u.cells.size=size:=by rw[<-hlen,<-hl2];simp
  have hfit:¬(off+u.cells.size>cur.size):=by
   have:u.cells.size=ws.length:=by rw[hsz,hlen]
   have h5:cur.size=cells.length:=by rw[<-hl3];simp
   omega
  have hfold:(u.cells.zipIdx.foldl (fun cs (x:Value×Nat)=>cs.setIfInBounds (off+x.2) x.1) cur).toList=cur.toList.take off++u.cells.toList++cur.toList.drop (off+u.cells.toList.length):=by
   have:=Z2P off u.cells.toList 0 cur (by simp;omega);simp only[Nat.add_zero]at this;rw[<-this,<-Array.foldl_toList];simp
  have hd':DenL η (cells.take off++ws++cells.drop (off+ws.length)) (cur.toList.take off++u.cells.toList++cur.toList.drop (off+u.cells.toList.length)):=by
   rw[hl2];exact YW (YW (Z2H hd) h2) (Z2G hd)
  rw[<-hfold]at hd'
  obtain⟨arr,h6,h7,h8⟩:=Z2c (vs:=vs) h hd' (by
   rw[hfold];intro x hx;rcases List.mem_append.1 hx with hx|hx
   ·rcases List.mem_append.1 hx with hx|hx
    ·exact h1 x (List.mem_of_mem_take hx)
    ·exact h3 x hx
   ·exact h1 x (List.mem_of_mem_drop hx)) (by simpa using hl) (fun k p hk=>by simpa using hp (k+1) p (by simpa using hk))
  refine⟨arr,?_,h7,h8⟩;simp only[Instr.fill,hpl];rw[if_neg (by simp[hsz];simpa[hsz]using hfit)];exact h6
theorem Z6F{ps:Array (Nat×Operand)}{svs:List (Nat×SV)}(hl:∀x sv,lk x=some sv->Den η sv (ρ x))(h:Z9q lk ps=some svs):
 (ps.map fun p=>(p.1,ρ p.2)).toList.length=svs.length/\∀(i:Nat) (p:Nat×SV),svs[i]?=some p->∃u,(ps.map fun p=>(p.1,ρ p.2)).toList[i]?=some (p.1,u)/\Den η p.2 u:=by
 unfold Z9q at h;simp only[Array.toList_map];generalize ps.toList=l at h⊢
 induction l generalizing svs with
 |nil=>simp only[optAll,Option.some.injEq]at h;subst h;simp
 |cons p l ih=>
  simp only[optAll]at h;split at h
  case h_2=>cases h
  rename_i q hq;split at hq
  case h_2=>cases hq
  rename_i sv hsv;simp only[Option.some.injEq]at hq;subst hq;split at h
  case h_2=>cases h
  rename_i qs hqs;simp only[Option.some.injEq]at h;subst h;obtain⟨h1,h2⟩:=ih hqs;refine⟨by simpa using h1,?_⟩;intro i r hr;cases i with
  |zero=>simp at hr;subst hr;exact⟨ρ p.2,by simp,hl _ _ hsv⟩
  |succ i=>simpa using h2 i r (by simpa using hr)
theorem Z9v{α β:Type}{P:Program}{w:World}(f:α->Sem β)(g:α->β):∀(l:List α),(∀x∈l,(f x).run P w= .ok (g x) w)->(l.mapM f).run P w= .ok (l.map g) w
 | [],_=>rfl
 |x::l,h=>by
  simp only[List.mapM_cons,Sem.run_bind,h x (by simp),Result.andThen_ok,Z9v f g l (fun y hy=>h y (by simp[hy])),Sem.run_pure,List.map_cons]
theorem Z6G{T:Tab}{P:Program}(hT:TabOK P T){t:TypeId}{fs:List (Nat×TypeId)}(hs:T.sh t= .struct fs){fields:Array Field}(hf:fields.toList.map (fun f=>(f.offset,f.type))=fs)(hok:∀p∈fs,T.sh p.2≠ .other)(w:World):
 (fields.mapM fun f=>do pure (f.offset,<-sizeOf f.type):Sem (Array (Nat×Nat))).run P w= .ok (fields.map fun f=>(f.offset,T.size f.type)) w:=by
 rw[Array.mapM_eq_mapM_toList];simp only[Sem.run_map];rw[Z9v (g:=fun f:Field=>(f.offset,T.size f.type))]
 ·simp only[Result.andThen_ok,Result.ok.injEq,and_true];apply Array.ext';simp
 ·intro f hfm;have:T.sh f.type≠ .other:=hok (f.offset,f.type) (by rw[<-hf];exact List.mem_map_of_mem (f:=fun f:Field=>(f.offset,f.type)) hfm);obtain⟨i,hi,hsz,_⟩:=hT.info f.type this;simp[Zq hi,hsz]
theorem Zg7(A:At M η w O nx ρ lk)(t:TypeId)(ps:Array (Nat×Operand))(hr:(opR M.C lk O nx (.build t ps)).ok O nx v O' nx'):Y3 M η w ⟨dst, .build t ps,ty,pos,af,gd⟩ ρ v O' nx':=by
 simp only[opR,Zfg]at hr;split at hr
 ·exact hr.elim
 rename_i svs hps;split at hr
 ·exact hr.elim
 rename_i c cs hz;obtain⟨hpl,hpd⟩:=Z6F A.L hps;split at hr
 ·rename_i fs hs;split at hr
  case h_2=>exact hr.elim
  rename_i cs' hf;have hsh:M.C.T.sh t≠ .other:=by rw[hs];simp
  obtain⟨i,z,h1,h2,h3,h4,_⟩:=A.T.zero t hsh (by rw[hz];simp);rw[hz]at h3;obtain⟨d,hd,hm⟩:=A.T.und t hsh;rw[hs]at hm;simp only[ShM]at hm;obtain⟨fields,rfl,hfs,hok⟩:=hm
  have hplace:(fun i=>(fields.map fun f=>(f.offset,M.C.T.size f.type))[i]?)=Z00 M.C.T fs:=by
   funext i;unfold Z00;rw[VD,<-hfs,List.getElem?_map];cases hq:fields.toList[i]? with
   |none=>simp at hq;simp[hq]
   |some f=>simp at hq;simp[hq]
  obtain⟨arr,h5,h6,h7⟩:=Z2c hf (DenL.mono (List.nil_prefix) h3) h4 hpl hpd;refine A.val hr ⟨.agg arr, .inl ?_,?_⟩
  ·rw[<-hplace]at h5;have hmm:=Z6G A.T hs hfs hok w;simp only[execOp,Instr.build,Sem.run_bind,XW h1 h2,Result.andThen_ok,Z3 hd,hmm,h5,Sem.run_pure]
  ·simp only[Den];exact⟨arr.toList,rfl,h6,h7⟩
 ·rename_i n e hs;split at hr
  case h_2=>exact hr.elim
  rename_i cs' hf;have hsh:M.C.T.sh t≠ .other:=by rw[hs];simp
  obtain⟨i,z,h1,h2,h3,h4,_⟩:=A.T.zero t hsh (by rw[hz];simp);rw[hz]at h3;obtain⟨d,hd,hm⟩:=A.T.und t hsh;rw[hs]at hm;simp only[ShM]at hm;obtain⟨rfl,hsz,hok⟩:=hm;obtain⟨ie,hie,hies,_⟩:=A.T.info e hok;obtain⟨arr,h5,h6,h7⟩:=Z2c hf (DenL.mono (List.nil_prefix) h3) h4 hpl hpd;refine A.val hr ⟨.agg arr, .inl ?_,?_⟩
  ·have hplace:(fun i=>some (i*M.C.T.size e,M.C.T.size e))=W7 M.C.T e:=rfl;rw[<-hplace]at h5;simp only[execOp,Instr.build,Sem.run_bind,XW h1 h2,Result.andThen_ok,Z3 hd,Zq hie,hies,h5,Sem.run_pure]
  ·simp only[Den];exact⟨arr.toList,rfl,h6,h7⟩
 ·exact hr.elim
end
def XT(z:List Value)(n:Nat):List Value:=(List.range (n*z.length)).map fun i=>z.getD (i%z.length) undef
theorem U5(z:Array Value)(n k:Nat)(h:k=n*z.size):((Array.range k).map fun i=>z[i%z.size]!).toList=XT z.toList n:=by
 subst h;unfold XT;simp only[Array.toList_map,Array.toList_range,Array.length_toList];apply List.map_congr_left;intro i hi
 have hpos:0<z.size:=by
  rcases Nat.eq_zero_or_pos z.size with h|h
  ·rw[h]at hi;simp at hi
  ·exact h
 have hlt:=Nat.mod_lt i hpos;rw[getElem!_pos z (i%z.size) hlt];simp[List.getD,hlt]
theorem Z0i(z:List Value)(n:Nat):(XT z n).length=n*z.length:=by simp[XT]
theorem Z2Q{z:List Value}{n i j:Nat}(hi:i<n)(hj:j<z.length):(XT z n)[i*z.length+j]?=z[j]?:=by
 have h1:i*z.length+j<n*z.length:=by
  have:(i+1)*z.length<=n*z.length:=Nat.mul_le_mul_right _ hi;rw[Nat.succ_mul]at this;omega
 have h2:(i*z.length+j)%z.length=j:=by rw[Nat.mul_comm,Nat.mul_add_mod];exact Nat.mod_eq_of_lt hj
 unfold XT;rw[List.getElem?_map,List.getElem?_range h1];simp[h2,hj]
theorem Z2R{z:List Value}(h:∀u∈z,u.oneCell'=true)(n:Nat):∀u∈XT z n,u.oneCell'=true:=by
 intro u hu;unfold XT at hu;obtain⟨i,hi,rfl⟩:=List.mem_map.1 hu
 have hpos:0<z.length:=by
  rcases Nat.eq_zero_or_pos z.length with h|h
  ·rw[h]at hi;simp at hi
  ·exact h
 have hlt:=Nat.mod_lt i hpos;simp only[List.getD,List.getElem?_eq_getElem hlt,Option.getD_some];exact h _ (List.getElem_mem hlt)
theorem Z4D(z:List Value)(n:Nat):XT z (n+1)=z++XT z n:=by
 apply List.ext_getElem?;intro k;by_cases hk:k< (n+1)*z.length
 ·have hpos:0<z.length:=by
   rcases Nat.eq_zero_or_pos z.length with h|h
   ·rw[h]at hk;simp at hk
   ·exact h
  have hd:=Nat.div_add_mod k z.length;have hm:=Nat.mod_lt k hpos;have hq:k/z.length<n+1:=(Nat.div_lt_iff_lt_mul hpos).2 hk;have e:k=k/z.length*z.length+k%z.length:=by rw[Nat.mul_comm];exact hd.symm
  rw[e,Z2Q hq hm];by_cases h0:k/z.length=0
  ·rw[h0,Nat.zero_mul,Nat.zero_add,List.getElem?_append_left hm]
  ·obtain⟨q,hq'⟩:=Nat.exists_eq_succ_of_ne_zero h0;rw[hq',Nat.succ_mul,List.getElem?_append_right (by omega)];rw[show q*z.length+z.length+k%z.length-z.length=q*z.length+k%z.length by omega];rw[Z2Q (by omega) hm]
 ·rw[List.getElem?_eq_none (by rw[Z0i];omega),List.getElem?_eq_none (by rw[List.length_append,Z0i];rw[Nat.succ_mul]at hk;omega)]
theorem Z9w{η:Env}{z:List SV}{vs:List Value}(h:DenL η z vs):∀n,DenL η (repl n z) (XT vs n)
 |0=>by simp[repl,XT,DenL]
 |n+1=>by
  rw[Z4D];simp only[repl];exact YW h (Z9w h n)
section
variable {M:Mx}{η:Env}{w:World}{O:Hps}{nx:Nat}{ρ:Operand->Value}{lk:Operand->Option SV}{v:SV}{O':Hps}{nx':Nat}{dst:Option Tmp}{ty:TypeId}{pos:String}{af:Array Edge}{gd:Option (Nat×Bool)}
theorem UK(hlen:η.length=nx){w:World}{es len cap:Nat}(h:len<=cap):Den (η++ [some ⟨w.heap.size,0,cap⟩]) (.sl (.loc nx) 0 es len none) (.slice (some ⟨w.heap.size,0,none⟩) len cap):=by
 simp only[Den];right
 exact⟨_,0,ZL hlen _,by simp,by simpa using h,by simp,by simp⟩
theorem Z6H(A:At M η w O nx ρ lk)(t:TypeId)(len:Nat)(ps:Array (Nat×Operand))(hr:(opR M.C lk O nx (.buildSlice t len ps)).ok O nx v O' nx'):Y3 M η w ⟨dst, .buildSlice t len ps,ty,pos,af,gd⟩ ρ v O' nx':=by
 simp only[opR,Z2y]at hr;split at hr
 ·exact hr.elim
 rename_i svs hps;obtain⟨hpl,hpd⟩:=Z6F A.L hps;split at hr
 case h_2=>exact hr.elim
 rename_i e hs;obtain⟨d,hd,hm⟩:=A.T.und t (by rw[hs];simp);rw[hs]at hm;simp only[ShM]at hm;subst hm;split at hr
 ·exact hr.elim
 rename_i c cs hz;split at hr
 ·exact hr.elim
 rename_i hle;have hle:=Nat.le_of_ble_eq_true hle;split at hr
 ·exact hr.elim
 rename_i cs' hf;split at hr
 case h_2=>exact hr.elim
 rename_i rs hch;obtain⟨rfl,rfl,rfl⟩:=hr;have hsh:M.C.T.sh e≠ .other:=A.T.zsh e (by rw[hz];simp);obtain⟨ie,z,h1,h2,h3,h4,h5,_⟩:=A.T.zero e hsh (by rw[hz];simp);rw[hz]at h3 h5;obtain⟨ie',hie,hies,_⟩:=A.T.info e hsh;rw[h1]at hie;injection hie with hie;subst hie
 have h3:=DenL.mono (η':=η) List.nil_prefix h3;have hzl:z.cells.toList.length=M.C.T.size e:=by rw[ZP h3,h5]
 have hzs:z.cells.size=M.C.T.size e:=by simpa using hzl
 obtain⟨arr,h6,h7,h8⟩:=Z2c (cur:=⟨XT z.cells.toList len⟩) hf (Z9w h3 len) (Z2R h4 len) hpl hpd;obtain⟨hc1,hc2,_⟩:=V1 hch;have hal:=ZP h7;refine⟨_,X9 w (.cells arr e),_, .inl ?_,List.prefix_append _ _,Z2b A.H e (vs:=arr.toList) len (by rw[hc2]at hal;simpa using hal) (by omega) (Xe (Z2M hch h7) h8),UK A.H.len (Nat.le_refl _),fun _ h=>absurd h (by simp)⟩;have hplace:(fun i=>some (i*M.C.T.size e,M.C.T.size e))=W7 M.C.T e:=rfl;rw[<-hplace]at h6;have hn:¬(len*M.C.T.size e>16777216):=by omega
 have hcells:len*M.C.T.size e≠0->((Array.range (len*M.C.T.size e)).map fun i=>z.cells[i%z.cells.size]!)=⟨XT z.cells.toList len⟩:=by
  intro h0;apply Array.ext';exact U5 z.cells len _ (by rw[hzs])
 by_cases h0:len*M.C.T.size e=0
 ·have hnil:XT z.cells.toList len=[]:=by apply List.length_eq_zero_iff.1;rw[Z0i,hzl,h0]
  rw[hnil]at h6;simp only[Array.toList_map]at h6;simp[execOp,Instr.buildSlice,Z3 hd,Zq h1,hies,h0,Array.range_zero',h6,newRow,X9]
 ·have hc:=hcells h0;simp only[execOp,Instr.buildSlice,Sem.run_bind,Z3 hd,Result.andThen_ok,Zq h1,hies,Sem.run_ite,gt_iff_lt];rw[if_neg (by simpa using hn),if_neg h0];simp only[Sem.run_bind,XW h1 h2,Result.andThen_ok,Sem.run_pure,hc,h6,newRow,run_newObj]
  rfl
theorem Z8o(A:At M η w O nx ρ lk)(t:TypeId)(l c:Operand)(hr:(opR M.C lk O nx (.makeSlice t l c)).ok O nx v O' nx'):Y3 M η w ⟨dst, .makeSlice t l c,ty,pos,af,gd⟩ ρ v O' nx':=by
 simp only[opR,Z4x]at hr;split at hr
 case h_2=>exact hr.elim
 rename_i e hs;obtain⟨d,hd,hm⟩:=A.T.und t (by rw[hs];simp);rw[hs]at hm;simp only[ShM]at hm;subst hm;split at hr
 ·exact hr.elim
 rename_i zc zs hz;split at hr
 case h_2=>exact hr.elim
 rename_i k1 ln hl;split at hr
 case h_2=>exact hr.elim
 rename_i k2 cp hc;obtain⟨⟨b0,b1,b2,b3⟩,rfl,rfl,rfl⟩:=hr;have hlv:=V0 (A.L _ _ hl);have hcv:=V0 (A.L _ _ hc);have hsh:M.C.T.sh e≠ .other:=A.T.zsh e (by rw[hz];simp);obtain⟨ie,z,h1,h2,h3,h4,h5,_⟩:=A.T.zero e hsh (by rw[hz];simp);rw[hz]at h3 h5;obtain⟨ie',hie,hies,hieb⟩:=A.T.info e hsh;rw[h1]at hie;injection hie with hie;subst hie
 have h3:=DenL.mono (η':=η) List.nil_prefix h3;have hzl:z.cells.toList.length=M.C.T.size e:=by rw[ZP h3,h5]
 have hzs:z.cells.size=M.C.T.size e:=by simpa using hzl
 have w1:IntKind.i64.wrap ln=ln:=IntWalk.i64_in _ ⟨by omega,by omega⟩;have w2:IntKind.i64.wrap cp=cp:=IntWalk.i64_in _ ⟨by omega,by omega⟩
 refine⟨.slice (some ⟨w.heap.size,0,none⟩) ln.toNat cp.toNat,X9 w (.cells ⟨XT z.cells.toList cp.toNat⟩ e),_, .inl ?_,List.prefix_append _ _,
  Z2b A.H e (vs:=[]) (rs:=List.replicate cp.toNat (zc::zs)) cp.toNat (by show(XT _ _).length=_;rw[Z0i,hzl]) (by simp) ?_,UK A.H.len (by omega),fun _ h=>absurd h (by simp)⟩
 ·have hm:=run_make (P:=M.P) w t e ie z hd h1 h2 k1 k2 ln cp b0 b1 (by rw[hieb];exact b3) b2
  have hc:madeCells z.cells (cp.toNat*ie.size)=⟨XT z.cells.toList cp.toNat⟩:=by
   apply Array.ext';unfold madeCells;have:=U5 z.cells cp.toNat (cp.toNat*ie.size) (by rw[hies,hzs])
   first|exact this|(split<;>simp_all)
  rw[hc]at hm;simp only[execOp,hlv,hcv,Sem.run_bind,hm,Result.andThen_ok,Sem.run_pure]
  rfl
 ·intro i row hi;have hi':=List.getElem?_eq_some_iff.1 hi;obtain⟨hlt,hrow⟩:=hi';simp only[List.getElem_replicate]at hrow;subst hrow;simp only[List.length_replicate]at hlt;refine⟨h5,fun j sv hj=>?_⟩;obtain⟨u,hu,hdu⟩:=XC h3 hj;refine⟨u,?_,h4 u (List.mem_of_getElem? hu),hdu⟩;have hjl:=(List.getElem?_eq_some_iff.1 hu).1;have:=Z2Q (z:=z.cells.toList) hlt hjl;rw[hzl]at this;rw[Nat.zero_add];rw[List.getElem?_toArray,this];exact hu
theorem Z6I{η:Env}{arr:Array Value}{o c:Nat}{row vs:List SV}{us:List Value}(hc:CellsAt η arr o row)(hd:DenL η vs us)(h1:∀u∈us,u.oneCell'=true)(hle:c+vs.length<=row.length)(hfit:o+c+us.length<=arr.size):
 CellsAt η (arr.toList.take (o+c)++us++arr.toList.drop (o+c+us.length)).toArray o (row.take c++vs++row.drop (c+vs.length)):=by
 have hl:=ZP hd;intro j sv hj
 have hget:∀k,(arr.toList.take (o+c)++us++arr.toList.drop (o+c+us.length))[o+k]?=if k<c then arr[o+k]? else if k<c+us.length then us[k-c]? else arr[o+k]?:=by
  intro k;have ht:(arr.toList.take (o+c)).length=o+c:=by rw[List.length_take];simp;omega
  rw[List.append_assoc];split
  ·rw[List.getElem?_append_left (by omega),List.getElem?_take,if_pos (by omega)];simp
  ·rw[List.getElem?_append_right (by omega),ht];split
   ·rw[List.getElem?_append_left (by omega)];congr 1;omega
   ·rw[List.getElem?_append_right (by omega),List.getElem?_drop];rw[show o+c+us.length+(o+k-(o+c)-us.length)=o+k by omega];simp
 have hrow:(row.take c++vs++row.drop (c+vs.length))[j]?=if j<c then row[j]? else if j<c+vs.length then vs[j-c]? else row[j]?:=by
  have ht:(row.take c).length=c:=by rw[List.length_take];omega
  rw[List.append_assoc];split
  ·rw[List.getElem?_append_left (by omega),List.getElem?_take,if_pos (by omega)]
  ·rw[List.getElem?_append_right (by omega),ht];split
   ·rw[List.getElem?_append_left (by omega)]
   ·rw[List.getElem?_append_right (by omega),List.getElem?_drop];congr 1;omega
 rw[hrow]at hj;have hg:=hget j;rw[<-hl]at hj
 have key:∀x,(if j<c then arr[o+j]? else if j<c+us.length then us[j-c]? else arr[o+j]?)=some x->(arr.toList.take (o+c)++us++arr.toList.drop (o+c+us.length)).toArray[o+j]?=some x:=by
  intro x hx;rw[<-hx,<-hg];simp
 split at hj
 ·rename_i h;obtain⟨u,h2,h3,h4⟩:=hc j sv hj;exact⟨u,key u (by rw[if_pos h];exact h2),h3,h4⟩
 ·rename_i h;split at hj
  ·rename_i h';obtain⟨u,h2,h3⟩:=XC hd hj;exact⟨u,key u (by rw[if_neg h,if_pos h'];exact h2),h1 u (List.mem_of_getElem? h2),h3⟩
  ·rename_i h';obtain⟨u,h2,h3,h4⟩:=hc j sv hj;exact⟨u,key u (by rw[if_neg h,if_neg h'];exact h2),h3,h4⟩
theorem Z0X{η:Env}{arr:Array Value}{o p n:Nat}{row:List SV}{us:List Value}(hc:CellsAt η arr o row)(hr:row.length=n)(hfit:p+us.length<=arr.size)(hoff:o+n<=p\/p+us.length<=o):
 CellsAt η (arr.toList.take p++us++arr.toList.drop (p+us.length)).toArray o row:=by
 intro j sv hj;obtain⟨u,h2,h3,h4⟩:=hc j sv hj;refine⟨u,?_,h3,h4⟩;have hjl:=(List.getElem?_eq_some_iff.1 hj).1;have ht:(arr.toList.take p).length=p:=by rw[List.length_take];simp;omega
 simp only[List.append_assoc,List.getElem?_toArray];rcases hoff with h|h
 ·rw[List.getElem?_append_left (by omega),List.getElem?_take,if_pos (by omega)];simpa using h2
 ·rw[List.getElem?_append_right (by omega),ht,List.getElem?_append_right (by omega),List.getElem?_drop];rw[show p+us.length+(o+j-p-us.length)=o+j by omega];simpa using h2
end
section
variable {M:Mx}{η:Env}{w:World}{O:Hps}{nx:Nat}{ρ:Operand->Value}{lk:Operand->Option SV}{v:SV}{O':Hps}{nx':Nat}{dst:Option Tmp}{ty:TypeId}{pos:String}{af:Array Edge}{gd:Option (Nat×Bool)}
theorem V3(η:Env):Den η (.tup []) undef:=by
 simp only[Den,DenL];exact⟨[],rfl,rfl⟩
theorem Z2S{arr:Array Value}{es r c:Nat}{rs:List (List SV)}{row vs:List SV}{us:List Value}{cap:Nat}(hsz:arr.size=cap*es)(hcap:rs.length<=cap)
 (hr:∀(i:Nat) (row:List SV),rs[i]?=some row->row.length=es/\CellsAt η arr (0+i*es) row) (hrow:rs[r]?=some row) (hd:DenL η vs us) (h1:∀u∈us,u.oneCell'=true) (hle:c+vs.length<=row.length):
 r*es+c+us.length<=arr.size/\
 ∀(i:Nat) (q:List SV),(rs.set r (row.take c++vs++row.drop (c+vs.length)))[i]?=some q->q.length=es/\CellsAt η (arr.toList.take (r*es+c)++us++arr.toList.drop (r*es+c+us.length)).toArray (0+i*es) q:=by
 have hl:=ZP hd;have hlt:=(List.getElem?_eq_some_iff.1 hrow).1;obtain⟨hre,hrc⟩:=hr r row hrow
 have hfit:r*es+c+us.length<=arr.size:=by
  have:(r+1)*es<=cap*es:=Nat.mul_le_mul_right _ (by omega);rw[Nat.succ_mul]at this;omega
 refine⟨hfit,?_⟩;intro i q hi;rw[List.getElem?_set]at hi;split at hi
 ·rename_i e;subst e;simp only[hlt,if_true,Option.some.injEq]at hi;subst hi;refine⟨?_,?_⟩
  ·simp only[List.length_append,List.length_take,List.length_drop];omega
  ·have:=Z6I (o:=0+r*es) hrc hd h1 hle (by rw[Nat.zero_add];exact hfit);simpa only[Nat.zero_add]using this
 ·rename_i e;obtain⟨hqe,hqc⟩:=hr i q hi;refine⟨hqe,Z0X (o:=0+i*es) hqc hqe hfit ?_⟩;rcases Nat.lt_or_gt_of_ne e with h|h
  ·right
   have:(r+1)*es<=i*es:=Nat.mul_le_mul_right _ h;rw[Nat.succ_mul]at this;omega
  ·left
   have:(i+1)*es<=r*es:=Nat.mul_le_mul_right _ h;rw[Nat.succ_mul]at this;omega
theorem Z1B(A:At M η w O nx ρ lk)(t:TypeId)(x y:Operand){p sv:SV}(hsh:M.C.T.sh t≠ .other)(hsz0:¬M.C.T.size t=0)(hx:lk x=some p)(hy:lk y=some sv)(hr:(Z9n M.C.T (fun i=>lkp i O) t p sv).ok O nx v O' nx'):Y3 M η w ⟨dst, .store t x y,ty,pos,af,gd⟩ ρ v O' nx':=by
 have hxv:=A.L _ _ hx;have hyv:=A.L _ _ hy;unfold Z9n at hr;split at hr
 case h_2=>exact hr.elim
 rename_i sv' i r es c;simp only[Den]at hxv;obtain⟨en,hb,hxv⟩:=hxv;simp only[Env.get]at hb
 have step:∀{h0 h:Hp} {arr:Array Value} {tt:TypeId} {fz:Nat×Nat} {us:List Value},lkp i O=some h0->w.heap[en.g]?=some (.cells arr tt fz)->Vm arr.size fz->(ρ y).cells.toList=us->us.length=M.C.T.size t->
  (∀u∈us,u.oneCell'=true)->en.base+(r*es+c)+us.length<=arr.size->
  (∀w':World,w'.heap[en.g]?=some (.cells (arr.toList.take (en.base+(r*es+c))++us++arr.toList.drop (en.base+(r*es+c)+us.length)).toArray tt fz)->HpSat η w' true (.loc i) h)->Z8m h=true->v= .tup []->O'=setK i h O->nx'=nx->
  Y3 M η w ⟨dst, .store t x y,ty,pos,af,gd⟩ ρ v O' nx':=by
  intro h0 h arr tt fz us h1 h2 h3 h4 h5 h7 h8 h9 hl e1 e2 e3;subst e1 e2 e3;obtain⟨ie,hie,hies,_⟩:=A.T.info t hsh;have hst:=X3 (P:=M.P) en.g (en.base+(r*es+c)) tt fz us 0 arr w h2 (by simpa using h8) h3 h7;simp only[Nat.add_zero]at hst;refine⟨undef,w.setRow en.g _,η, .inr ⟨?_,rfl⟩,List.prefix_rfl,A.H.upd h1 hb (fun k hk=>setRow_other w en.g k _ hk) (setRow_size _ _ _) rfl rfl rfl (h9 _ (setRow_heap w en.g arr _ tt fz h2)) (hl:=hl),V3 η,fun h=>by cases h⟩
  have hcs:(ρ y).cells.size=ie.size:=by
   have:(ρ y).cells.toList.length=M.C.T.size t:=by rw[h4,h5]
   rw[hies];simpa using this
  simp only[execOp,hxv,Instr.storeAt,Instr.sureAddr,storeVar,Sem.run_bind,Sem.run_pure,Result.andThen_ok,Zq hie,Sem.run_ite,hcs];rw[if_neg (by simp)];simp only[Sem.run_bind,Sem.run_pure,Result.andThen_ok,h4,hst]
 split at hr
 ·rename_i row hh;obtain⟨hsat,_⟩:=A.H.own.1 i _ hh;simp only[HpSat]at hsat;obtain⟨en',arr,T,fz,h1,h2,h3,h4⟩:=hsat;simp only[Env.get]at h1;rw[hb]at h1;injection h1 with h1;injection h1 with h1;subst h1
  split at hr
  case h_2=>exact hr.elim
  rename_i vs hz hvs;have hz:=Zn hz;subst hz;split at hr
  case h_2=>exact hr.elim
  rename_i row' hlen hsp;have hlen:=lenIs_iff.1 hlen;obtain⟨rfl,hle⟩:=Vo hsp;obtain⟨e1,e2,e3⟩:=hr;obtain⟨h5,h6⟩:=UJ hyv hvs;have hl:=ZP h5
  have hfit:en.base+c+(ρ y).cells.toList.length<=arr.size:=by
   rw[hl];obtain⟨u,hu,_⟩:=h4 (c+vs.length-1) _ (List.getElem?_eq_getElem (by omega));have:=(Array.getElem?_eq_some_iff.1 hu).1;omega
  refine step hh h2 (h3 trivial) rfl (by rw[hl,hlen]) h6 (by rw[Nat.zero_mul,Nat.zero_add];exact hfit) ?_ rfl e1 e2 e3;intro w' hw';rw[Nat.zero_mul,Nat.zero_add]at hw';simp only[HpSat];refine⟨en,_,T,fz,hb,hw',fun _=>?_,Z6I h4 h5 h6 hle hfit⟩
  have:(arr.toList.take (en.base+c)++(ρ y).cells.toList++arr.toList.drop (en.base+c+(ρ y).cells.toList.length)).toArray.size=arr.size:=by
   simp only[List.size_toArray,List.length_append,List.length_take,List.length_drop,Array.length_toList]at hfit⊢;omega
  rw[this];exact h3 trivial
 ·rename_i es' rs hh;obtain⟨hsat,_⟩:=A.H.own.1 i _ hh;simp only[HpSat]at hsat;split at hr
  case h_2=>exact hr.elim
  rename_i hes;have hes:=Zn hes;subst hes;simp only[Env.get]at hsat;rcases hsat with⟨h1,_⟩|⟨en',arr,T,fz,h1,h2,h3,h4⟩
  ·rw[hb]at h1;cases h1
  rw[hb]at h1;injection h1 with h1;injection h1 with h1;subst h1
  obtain⟨h3u,h3s,h3c,h3b⟩:=h3 trivial;rw[h3b]at h4 step
  have hsize:∀{o:Nat} {us:List Value},o+us.length<=arr.size->(arr.toList.take o++us++arr.toList.drop (o+us.length)).toArray.size=arr.size:=by
   intro o us h;simp only[List.size_toArray,List.length_append,List.length_take,List.length_drop,Array.length_toList];omega
  have one:∀{hr:(match cellsOf sv with
   |some vs=>match Wx vs (M.C.T.size t)with
    |true=>Res.get rs r fun row=>match VC c row vs with
     |some row=> .upd i (.rows es (rs.set r row)) (.tup [])
     |none=> .fail
    |false=> .fail
   |none=> .fail).ok O nx v O' nx'},Y3 M η w ⟨dst, .store t x y,ty,pos,af,gd⟩ ρ v O' nx':=by
   intro hr;split at hr
   case h_2=>exact hr.elim
   rename_i vs hvs;split at hr
   case h_2=>exact hr.elim
   rename_i hlen;have hlen:=lenIs_iff.1 hlen;obtain⟨row,hrow,hr⟩:=hr;simp only at hr;split at hr
   case h_2=>exact hr.elim
   rename_i row' hsp;obtain⟨rfl,hle⟩:=Vo hsp;obtain⟨e1,e2,e3⟩:=hr;obtain⟨h5,h6⟩:=UJ hyv hvs;have hl:=ZP h5;obtain⟨hfit,hrows⟩:=Z2S h3s h3c h4 hrow h5 h6 hle;refine step hh h2 h3u rfl (by rw[hl,hlen]) h6 (by rw[Nat.zero_add];exact hfit) ?_ rfl e1 e2 e3;intro w' hw';rw[Nat.zero_add]at hw';simp only[HpSat];right
   have hz:=hsize hfit;exact⟨en,_,T,fz,hb,hw',fun _=>⟨by rw[hz];exact h3u,by rw[hz];exact h3s,by simpa using h3c,h3b⟩,by rw[h3b];exact hrows⟩
  have whole:∀{rs':List (List SV)} {us:List Value},rs'.length=rs.length->r=0->c=0->(ρ y).cells.toList=us->us.length=M.C.T.size t->DenLL η es rs' us->(∀u∈us,u.oneCell'=true)->v= .tup []->O'=setK i (.rows es rs') O->nx'=nx->
   Y3 M η w ⟨dst, .store t x y,ty,pos,af,gd⟩ ρ v O' nx':=by
   intro rs' us q1 q2 q3 q4 q5 q6 q7 e1 e2 e3;subst q2 q3;have hl:=V2 q6
   have hfit:0+us.length<=arr.size:=by
    have:rs.length*es<=en.cap*es:=Nat.mul_le_mul_right _ h3c;rw[hl,q1];omega
   refine step hh h2 h3u q4 q5 q7 (by rw[Nat.zero_mul];exact hfit) ?_ rfl e1 e2 e3;intro w' hw';simp only[HpSat];right
   have hz:=hsize hfit;simp only[Nat.zero_mul,Nat.add_zero]at hw';refine⟨en,_,T,fz,hb,hw',fun _=>⟨by rw[hz];exact h3u,by rw[hz];exact h3s,by omega,h3b⟩,?_⟩;rw[h3b];intro k row hk;obtain⟨p1,p2⟩:=Xe q6 q7 k row hk;refine⟨p1,fun j sv' hj=>?_⟩;obtain⟨u,p3,p4,p5⟩:=p2 j sv' hj;refine⟨u,?_,p4,p5⟩;have hlt:=(Array.getElem?_eq_some_iff.1 p3).1;simp only[List.take_zero,List.nil_append,List.getElem?_toArray];rw[List.getElem?_append_left (by simpa using hlt)];simpa using p3
  split at hr
  ·rename_i n e hs;split at hr
   case h_2=>exact hr.elim
   rename_i hse hst;have hse:=Zn hse;have hst:=Zn hst;split at hr
   ·rename_i es'' rs';obtain⟨⟨q1,q2,rfl,q3,q4⟩,e1,e2,e3⟩:=hr;simp only[Den]at hyv;obtain⟨us,hyv,q5,q6⟩:=hyv;refine whole (us:=us) (by omega) q1 q2 (by rw[hyv];rfl) ?_ q5 q6 e1 e2 e3;rw[V2 q5,q3,hst]
   ·rename_i cs;split at hr
    case h_2=>exact hr.elim
    rename_i rs' hch;obtain⟨⟨q1,q2,q3⟩,e1,e2,e3⟩:=hr;simp only[Den]at hyv;obtain⟨us,hyv,q5,q6⟩:=hyv;obtain⟨q7,q8,_⟩:=V1 hch;refine whole (us:=us) (by omega) q1 q2 (by rw[hyv];rfl) ?_ (Z2M hch q5) q6 e1 e2 e3;rw[ZP q5,q8,hst]
   ·exact hr.elim
  ·exact one (hr:=hr)
 ·exact hr.elim
end
def Z1Y:CK->SV->SV->Option Bool
 | .int k, .int k1 a, .int k2 b=>match XU k k1&&XU k k2 with|true=>some (a==b)|false=>none
 | .str, .str a, .str b=>some (a==b)
 | .bool, .bool a, .bool b=>some (a==b)
 |_,_,_=>none
def both:Option Bool->Option Bool->Option Bool
 |some a,some b=>some (a&&b)
 |_,_=>none
theorem Zc4{a b:Option Bool}:(both a b).isSome=true<->a.isSome=true/\b.isSome=true:=by cases a<;>cases b<;>simp[both]
theorem Zc5{a b:Option Bool}:both a b=some true<->a=some true/\b=some true:=by cases a<;>cases b<;>simp[both]
theorem Z1C{k:CK}{ks:List CK}{x y:SV}{xs ys:List SV}:Ze (k::ks) (x::xs) (y::ys)=both (Z1Y k x y) (Ze ks xs ys):=by
 cases k with
 |int k=>
  cases x with
  |int k1 a=>
   cases y with
   |int k2 b=>
    simp only[Ze,Z1Y];cases XU k k1&&XU k k2<;>cases Ze ks xs ys<;>rfl
   |_=>rfl
  |_=>rfl
 |str=>
  cases x with
  |str a=>
   cases y with
   |str b=>simp only[Ze,Z1Y];cases Ze ks xs ys<;>rfl
   |_=>rfl
  |_=>rfl
 |bool=>
  cases x with
  |bool a=>
   cases y with
   |bool b=>simp only[Ze,Z1Y];cases Ze ks xs ys<;>rfl
   |_=>rfl
  |_=>rfl
theorem Zeb{k:CK}{x y:SV}(h1:(Z1Y k x x).isSome=true)(h2:(Z1Y k y y).isSome=true):(Z1Y k x y).isSome=true:=by
 cases k with
 |int k=>
  cases x with
  |int k1 a=>
   cases y with
   |int k2 b=>
    simp only[Z1Y]at h1 h2⊢;cases e1:XU k k1<;>cases e2:XU k k2<;>simp_all
   |_=>cases h2
  |_=>cases h1
 |str=>
  cases x with
  |str a=>cases y with
   |str b=>rfl
   |_=>cases h2
  |_=>cases h1
 |bool=>
  cases x with
  |bool a=>cases y with
   |bool b=>rfl
   |_=>cases h2
  |_=>cases h1
theorem ZaG{η:Env}{k:CK}{x y:SV}{u v:Value}(h:Z1Y k x y=some true)(h1:Den η x u)(h2:Den η y v):u=v/\∀n,Instr.sameBits n u u=true:=by
 cases k with
 |int k=>
  cases x with
  |int k1 a=>
   cases y with
   |int k2 b=>
    simp only[Z1Y]at h;split at h
    ·rename_i hk;simp only[Bool.and_eq_true,kindEq_iff]at hk;simp only[Option.some.injEq,beq_iff_eq]at h;simp only[Den]at h1 h2;obtain⟨e1,e2⟩:=hk;subst h1;subst h2;subst h;subst e1;subst e2;exact⟨rfl,fun n=>by cases n<;>simp[Instr.sameBits]⟩
    ·cases h
   |_=>cases h
  |_=>cases h
 |str=>
  cases x with
  |str a=>cases y with
   |str b=>
    simp only[Z1Y,Option.some.injEq,beq_iff_eq]at h;simp only[Den]at h1 h2;subst h1;subst h2;subst h;exact⟨rfl,fun n=>by cases n<;>(show(a.toArray==a.toArray)=true;simp)⟩
   |_=>cases h
  |_=>cases h
 |bool=>
  cases x with
  |bool a=>cases y with
   |bool b=>
    simp only[Z1Y,Option.some.injEq,beq_iff_eq]at h;simp only[Den]at h1 h2;subst h1;subst h2;subst h;exact⟨rfl,fun n=>by cases n<;>simp[Instr.sameBits]⟩
   |_=>cases h
  |_=>cases h
theorem Z4E:∀{ks:List CK} {xs ys:List SV},(Ze ks xs xs).isSome=true->(Ze ks ys ys).isSome=true->(Ze ks xs ys).isSome=true
 | [],xs,ys,h1,h2=>by cases xs<;>cases ys<;>simp_all[Ze]
 |k::ks,[],ys,h1,h2=>by cases k<;>simp[Ze]at h1
 |k::ks,x::xs,[],h1,h2=>by cases k<;>simp[Ze]at h2
 |k::ks,x::xs,y::ys,h1,h2=>by
  rw[Z1C,Zc4]at h1 h2⊢;exact⟨Zeb h1.1 h2.1,Z4E h1.2 h2.2⟩
theorem UL{η:Env}:∀{ks:List CK} {xs ys:List SV} {us vs:List Value},Ze ks xs ys=some true->DenL η xs us->DenL η ys vs->us=vs/\∀u∈us,∀n,Instr.sameBits n u u=true
 | [],[],[],us,vs,h,h1,h2=>by
   simp only[DenL]at h1 h2;subst h1;subst h2;simp
 | [],_::_,_,us,vs,h,h1,h2=>by simp[Ze]at h
 | [],[],_::_,us,vs,h,h1,h2=>by simp[Ze]at h
 |k::ks,[],ys,us,vs,h,h1,h2=>by cases k<;>simp[Ze]at h
 |k::ks,x::xs,[],us,vs,h,h1,h2=>by cases k<;>simp[Ze]at h
 |k::ks,x::xs,y::ys,us,vs,h,h1,h2=>by
  rw[Z1C,Zc5]at h;simp only[DenL]at h1 h2;obtain⟨u,us,rfl,a1,a2⟩:=h1;obtain⟨v,vs,rfl,b1,b2⟩:=h2;obtain⟨e1,s1⟩:=ZaG h.1 a1 b1;obtain⟨e2,s2⟩:=UL h.2 a2 b2;subst e1;subst e2;exact⟨rfl,fun w hw=>by rcases List.mem_cons.1 hw with rfl|hw;exact s1;exact s2 w hw⟩
theorem Z1D{p:Nat->Value->Value->Bool}{n:Nat}:∀{l:List Value},(∀u∈l,p n u u=true)->((l.zip l).all fun(x,y)=>p n x y)=true
 | [],_=>rfl
 |u::us,h=>by simp only[List.zip_cons_cons,List.all_cons,Bool.and_eq_true];exact⟨h u (by simp),Z1D fun w hw=>h w (by simp[hw])⟩
theorem Z2d{η:Env}{ks:Bool×List CK}{a b:SV}{u v:Value}(h:WY ks a b=true)(h1:Den η a u)(h2:Den η b v):u=v/\Instr.sameBits 10000 u u=true:=by
 obtain⟨f,ks⟩:=ks
 have hq:JY (f,ks) a b=some true:=by
  unfold WY at h;cases hq:JY (f,ks) a b with
  |none=>rw[hq]at h;cases h
  |some r=>rw[hq]at h;exact congrArg some h
 cases f with
 |false=>
  simp only[JY,ZO]at hq;obtain⟨e,s⟩:=UL hq (show DenL η [a] [u]from by simp only[DenL];exact⟨u,[],rfl,h1,rfl⟩) (show DenL η [b] [v]from by simp only[DenL];exact⟨v,[],rfl,h2,rfl⟩);exact⟨by simpa using e,s u (by simp) _⟩
 |true=>
  cases a with
  |agg xs=>
   cases b with
   |agg ys=>
    simp only[JY,ZO]at hq;simp only[Den]at h1 h2;obtain⟨us,rfl,h1,_⟩:=h1;obtain⟨vs,rfl,h2,_⟩:=h2;obtain⟨e,s⟩:=UL hq h1 h2;subst e;refine⟨rfl,?_⟩;show(us.toArray.size==us.toArray.size&& (us.toArray.toList.zip us.toArray.toList).all fun(x,y)=>Instr.sameBits 9999 x y)=true
    simp only[beq_self_eq_true,Bool.true_and];exact Z1D fun w hw=>s w (by simpa using hw) _
   |_=>simp[JY,ZO]at hq
  |_=>simp[JY,ZO]at hq
theorem ZaH{ks:Bool×List CK}{a b:SV}(h1:JF ks a=true)(h2:JF ks b=true):∃r,JY ks a b=some r:=by
 obtain⟨f,ks⟩:=ks;simp only[JF,JY]at h1 h2⊢;cases ha:ZO f a with
 |none=>rw[ha]at h1;cases h1
 |some xs=>
  cases hb:ZO f b with
  |none=>rw[hb]at h2;cases h2
  |some ys=>
   rw[ha]at h1;rw[hb]at h2;exact Option.isSome_iff_exists.1 (Z4E h1 h2)
def MapL(η:Env):List (List SV)->List MapEntry->Prop
 | [],[]=>True
 |r::rs,e::es=>DenL η r [e.key,e.val]/\MapL η rs es
 |_,_=>False
theorem Z03{η:Env}:∀{rs:List (List SV)} {es:List MapEntry} {i:Nat},es.length=rs.length->(∀j row,rs[j]?=some row->∃en:MapEntry,es[j]?=some en/\en.born=i+j/\DenL η row [en.key,en.val])->MapL η rs es
 | [],[],_,_,_=>trivial
 | [],_::_,_,h,_=>by simp at h
 |_::_,[],_,h,_=>by simp at h
 |r::rs,e::es,i,hl,h=>by
  obtain⟨en,h1,_,h3⟩:=h 0 r rfl;simp at h1;subst h1
  exact⟨h3,Z03 (i:=i+1) (by simpa using hl) fun j row hr=>by
   obtain⟨en,g1,g2,g3⟩:=h (j+1) row (by simpa using hr)
   exact⟨en,by simpa using g1,by omega,g3⟩⟩
def Hit(η:Env):Option (Nat×SV)->Option (Nat×Value)->Prop
 |none,f=>f=none
 |some (j,v),f=> ∃x,f=some (j,x)/\Den η v x
theorem Z9x{P:Program}{T:Tab}(hT:TabOK P T){t:TypeId}{ks:Bool×List CK}(ht:T.key t=some ks){η:Env}{w:World}{key:SV}{u:Value}(hk:JF ks key=true)(hu:Den η key u):
 ∀{rs:List (List SV)} {es:List MapEntry} {i:Nat},JN ks rs->MapL η rs es->∃f,(Instr.findAsking t u es i).run P w= .ok f w/\(∀d,P.underlying t=some d->Instr.findNow d u es i=none\/Instr.findNow d u es i=some f)/\Hit η (Xz ks key i rs) f/\∀j x,f=some (j,x)->i<=j/\∃e,es[j-i]?=some e/\e.val=x
 | [],[],i,_,_=>⟨none,by simp[Instr.findAsking],fun d _=> .inr rfl,rfl,fun _ _ h=>by cases h⟩
 | [],_::_,_,_,h=>h.elim
 |_::_,[],_,_,h=>h.elim
 |r::rs,e::es,i,ho,h=>by
  obtain⟨k,v,rfl,hko⟩:=ho r (by simp);obtain⟨hd,hr⟩:=h;simp only[DenL]at hd;obtain⟨_,_,e1,hdk,_,_,e2,hdv,e3⟩:=hd;cases e1;cases e2
  obtain⟨b,hb⟩:=ZaH hk hko;obtain⟨g1,g2⟩:=(hT.key t ks ht).2.1 w η key k u e.key b hb hu hdk;have his:WY ks key k=b:=by simp only[WY,hb]
  cases b with
  |true=>
   refine⟨some (i,e.val),by simp[Instr.findAsking,g1],fun d hd=>?_,?_,fun j x h=>?_⟩
   ·rcases g2 d hd with h|h<;>simp[Instr.findNow,h]
   ·simp only[Xz,his];exact⟨_,rfl,hdv⟩
   ·simp only[Option.some.injEq,Prod.mk.injEq]at h;obtain⟨rfl,rfl⟩:=h;exact⟨Nat.le_refl _,e,by simp,rfl⟩
  |false=>
   obtain⟨f,f1,f2,f3,f4⟩:=Z9x hT ht hk hu (i:=i+1) (rs:=rs) (es:=es) (fun r hr=>ho r (by simp[hr])) hr;refine⟨f,by simp[Instr.findAsking,g1];exact f1,fun d hd=>?_,?_,fun j x h=>?_⟩
   ·rcases g2 d hd with h|h
    ·simp[Instr.findNow,h]
    ·simp only[Instr.findNow,h];exact f2 d hd
   ·simp only[Xz,his];exact f3
   ·obtain⟨h1,e',h2,h3⟩:=f4 j x h;refine⟨by omega,e',?_,h3⟩;rw[show j-i=(j-(i+1))+1 by omega];simpa using h2
theorem Vp{P:Program}{T:Tab}(hT:TabOK P T){t:TypeId}{ks:Bool×List CK}(ht:T.key t=some ks){η:Env}{w:World}{key:SV}{u:Value}(hk:JF ks key=true)(hu:Den η key u)
 {rs:List (List SV)} {es:List MapEntry} (ho:JN ks rs) (hm:MapL η rs es):∃f,(Instr.findKey t u es).run P w= .ok f w/\Hit η (Xz ks key 0 rs) f/\∀j x,f=some (j,x)->∃e,es[j]?=some e/\e.val=x:=by
 obtain⟨f,f1,f2,f3,f4⟩:=Z9x hT ht hk hu (i:=0) (w:=w) ho hm;obtain⟨d,hd⟩:=(hT.key t ks ht).2.2;refine⟨f,?_,f3,fun j x h=>by simpa using(f4 j x h).2⟩;rcases f2 d hd with h|h
 ·simp[Instr.findKey,Z3 hd,h,f1]
 ·simp[Instr.findKey,Z3 hd,h]
theorem U6{P:Program}{T:Tab}(hT:TabOK P T){t:TypeId}{ks:Bool×List CK}(ht:T.key t=some ks){η:Env}{w:World}{key:SV}{u:Value}(hk:JF ks key=true)(hu:Den η key u)
 {rs:List (List SV)} {es:List MapEntry} (ho:JN ks rs) (hm:MapL η rs es):∃f,(Instr.findKey t u es).run P w= .ok f w/\Hit η (Xz ks key 0 rs) f:=
 let⟨f,h1,h2,_⟩:=Vp hT ht hk hu ho hm;⟨f,h1,h2⟩
theorem Wa{ks:Bool×List CK}{key:SV}:∀{rs:List (List DC)} {i:Nat},Xz ks key i (Zs rs)=(findD ks key i rs).map fun p=>(p.1,ZN p.2)
 | [],_=>rfl
 |r::rs,i=>by
  have ih:=Wa (ks:=ks) (key:=key) (rs:=rs) (i:=i+1);unfold Zs at ih⊢
  match r with
  | []=>rfl
  | [a]=>rfl
  |a::b::c::l=>rfl
  | [k,v]=>
    simp only[List.map_cons,List.map_nil,Xz,findD];cases WY ks key (ZN k)
    ·exact ih
    ·rfl
theorem Z2e{ks:Bool×List CK}{key:SV}:∀{rs:List (List DC)} {i j:Nat} {v:DC},findD ks key i rs=some (j,v)->∃k,i<=j/\rs[j-i]?=some [k,v]/\WY ks key (ZN k)=true
 | [],i,j,v,h=>by simp[findD]at h
 |r::rs,i,j,v,h=>by
  unfold findD at h;split at h
  ·rename_i k u;split at h
   ·rename_i hk;simp only[Option.some.injEq,Prod.mk.injEq]at h;obtain⟨rfl,rfl⟩:=h;exact⟨k,Nat.le_refl _,by simp,hk⟩
   ·obtain⟨k',h1,h2,h3⟩:=Z2e h;refine⟨k',by omega,?_,h3⟩;have:j-i=(j-(i+1))+1:=by omega
    rw[this];simpa using h2
  ·cases h
def setC(rs:List (List DC))(r c:Nat)(d:DC):List (List DC):=rs.modify r fun row=>row.set c d
theorem Yj{rs:List (List DC)}{r c:Nat}{d:DC}(i:Nat):(setC rs r c d)[i]?=if i=r then(rs[i]?).map (fun row=>row.set c d)else rs[i]?:=by
 unfold setC;rw[List.getElem?_modify];by_cases h:r=i
 ·subst h;simp
 ·rw[if_neg (fun e=>h e.symm)];simp[h]
theorem kidAt_some{rs:List (List DC)}{i j es:Nat}{rows:List (List SV)}:Yd rs i j=some (es,rows)<->∃row,rs[i]?=some row/\row[j]?=some (.kid es rows):=by
 unfold Yd;constructor
 ·intro h;split at h
  ·rename_i row hr;split at h
   ·rename_i es' rows' hc;simp only[Option.some.injEq,Prod.mk.injEq]at h;obtain⟨rfl,rfl⟩:=h;exact⟨row,hr,hc⟩
   ·cases h
  ·cases h
 ·rintro⟨row,hr,hc⟩;rw[hr];simp only[hc]
theorem XL{rs:List (List DC)}{r c:Nat}{d:DC}{i j:Nat}{x:Nat×List (List SV)}(h:Yd (setC rs r c d) i j=some x):Yd rs i j=some x\/(i=r/\j=c/\d= .kid x.1 x.2):=by
 obtain⟨es,rows⟩:=x;obtain⟨row,hr,hc⟩:=kidAt_some.1 h;rw[Yj]at hr;by_cases hi:i=r
 ·subst hi;rw[if_pos rfl]at hr;obtain⟨row0,h0,rfl⟩:=Option.map_eq_some_iff.1 hr;rw[List.getElem?_set]at hc;by_cases hj:c=j
  ·subst hj;rw[if_pos rfl]at hc;split at hc
   ·injection hc with hc;exact .inr ⟨rfl,rfl,hc⟩
   ·cases hc
  ·rw[if_neg hj]at hc;exact .inl (kidAt_some.2 ⟨row0,h0,hc⟩)
 ·rw[if_neg hi]at hr;exact .inl (kidAt_some.2 ⟨row,hr,hc⟩)
theorem JT{rs:List (List DC)}{r c:Nat}{sv:SV}{i j:Nat}{x:Nat×List (List SV)}(h:Yd (setC rs r c (.v sv)) i j=some x):Yd rs i j=some x/\¬(i=r/\j=c):=by
 refine⟨(XL h).elim id (fun h=>by cases h.2.2),?_⟩;rintro⟨rfl,rfl⟩;obtain⟨es,rows⟩:=x;obtain⟨row,hr,hc⟩:=kidAt_some.1 h;rw[Yj,if_pos rfl]at hr;obtain⟨row0,h0,rfl⟩:=Option.map_eq_some_iff.1 hr;rw[List.getElem?_set,if_pos rfl]at hc;split at hc
 ·cases hc
 ·cases hc
theorem Y6{rs:List (List DC)}{i:Nat}:(Zs rs)[i]?=(rs[i]?).map fun r=>r.map ZN:=by unfold Zs;rw[List.getElem?_map]
theorem Y7{rs:List (List DC)}:(Zs rs).length=rs.length:=by unfold Zs;rw[List.length_map]
theorem Wb{rs:List (List DC)}{r c:Nat}{d:DC}(i:Nat):(Zs (setC rs r c d))[i]?=if i=r then((Zs rs)[i]?).map (fun row=>row.set c (ZN d))else(Zs rs)[i]?:=by
 rw[Y6,Yj,Y6];split
 ·cases rs[i]?<;>simp[List.map_set]
 ·rfl
theorem Z5o{rs:List (List DC)}{r c:Nat}{d:DC}:(setC rs r c d).length=rs.length:=by unfold setC;rw[List.length_modify]
section
variable {M:Mx}{η:Env}{w w':World}{O:Hps}{nx:Nat}
def Zc6(η:Env)(w:World)(own:Bool)(b:Blk)(mp:Bool)(es:Nat)(fs:List (List SV)):Prop:=match mp with|true=>MpSat η w b fs|false=>RowsSat η w own b es fs
theorem UM{own:Bool}{b:Blk}{mp:Bool}{es:Nat}{rs:List (List DC)}(d:HpSat η w own b (.deep mp es rs)){r c:Nat}{row:List DC}{dc:DC}(hr:rs[r]?=some row)(hc:row[c]?=some dc):
 ∃e o v,η.get b=some (some e)/\w.heap[e.g]?=some o/\ZF o es r c=some v/\Den η (ZN dc) v/\KidsOK η w e.g o es rs:=by
 have hfr:(Zs rs)[r]?=some (row.map ZN):=by rw[Y6,hr];rfl
 have hfc:(row.map ZN)[c]?=some (ZN dc):=by rw[List.getElem?_map,hc];rfl
 cases mp
 ·simp only[HpSat]at d;obtain⟨d1,d2⟩:=d;rcases d1 with⟨_,h2⟩|⟨e,arr,T,fz,h1,h2,h3,h4⟩
  ·rw[h2]at hfr;cases hfr
  obtain⟨h5,h6⟩:=d2 e h1;obtain⟨v,h7,_,h8⟩:=(h4 r _ hfr).2 c _ hfc;rw[h5,Nat.zero_add]at h7;exact⟨e,_,v,h1,h2,h7,h8,h6 _ h2⟩
 ·simp only[HpSat]at d;obtain⟨⟨d1,d0⟩,d2⟩:=d;obtain⟨e,ens,h1,h2,h3,h4,h5⟩:=d1;obtain⟨_,h6⟩:=d2 e h1;obtain⟨en,g1,_,g3⟩:=h5 r _ hfr;obtain⟨v,hv,hd⟩:=XC g3 hfc;refine⟨e,_,v,h1,h3,?_,hd,h6 _ h3⟩;simp only[ZF,g1,Option.map_some]
  match c,hv with
  |0,hv=>simpa using hv
  |1,hv=>simpa using hv
  |c+2,hv=>simp at hv
theorem Z0Y{own:Bool}{b:Blk}{mp:Bool}{es:Nat}{rs:List (List DC)}(d:HpSat η w own b (.deep mp es rs)){η':Env}(hp:η<+:η'){r c:Nat}{dc:DC}
 (hv:∀e o v,η.get b=some (some e)->w.heap[e.g]?=some o->ZF o es r c=some v->Den η' (ZN dc) v):
 Zc6 η' w own b mp es (Zs (setC rs r c dc)):=by
 cases mp
 ·simp only[HpSat]at d;obtain⟨d1,d2⟩:=d;rcases d1 with⟨h1,h2⟩|⟨e,arr,T,fz,h1,h2,h3,h4⟩
  ·refine .inl ⟨Env.get_mono hp h1,?_⟩;apply List.length_eq_zero_iff.1;rw[Y7,Z5o,<-Y7,h2];rfl
  ·refine .inr ⟨e,arr,T,fz,Env.get_mono hp h1,h2,by rw[Y7,Z5o,<-Y7];exact h3,fun i row hr=>?_⟩;rw[Wb]at hr;obtain⟨h5,_⟩:=d2 e h1;split at hr
   ·rename_i hi;subst hi;obtain⟨row0,h0,rfl⟩:=Option.map_eq_some_iff.1 hr;obtain⟨g1,g2⟩:=h4 i row0 h0;refine⟨by rw[List.length_set];exact g1,fun j sv hj=>?_⟩;rw[List.getElem?_set]at hj;split at hj
    ·rename_i hcj;subst hcj;split at hj
     ·rename_i hlt;injection hj with hj;subst hj;obtain⟨v,k1,k2,_⟩:=g2 c _ (List.getElem?_eq_getElem hlt);refine⟨v,k1,k2,hv e _ v h1 h2 ?_⟩;rw[h5,Nat.zero_add]at k1;exact k1
     ·cases hj
    ·obtain⟨v,k1,k2,k3⟩:=g2 j sv hj;exact⟨v,k1,k2,k3.mono hp⟩
   ·exact⟨(h4 i row hr).1,(h4 i row hr).2.mono hp⟩
 ·simp only[HpSat]at d;obtain⟨⟨d1,d0⟩,d2⟩:=d;obtain⟨e,ens,h1,h2,h3,h4,h5⟩:=d1;refine⟨e,ens,Env.get_mono hp h1,h2,h3,by rw[Y7,Z5o,<-Y7];exact h4,fun i row hr=>?_⟩;rw[Wb]at hr;split at hr
  ·rename_i hi;subst hi;obtain⟨row0,h0,rfl⟩:=Option.map_eq_some_iff.1 hr;obtain⟨en,g1,g2,g3⟩:=h5 i row0 h0;refine⟨en,g1,g2,?_⟩;have hvc:=fun v (hc:ZF (.map ens ens.size) es i c=some v)=>hv e _ v h1 h3 hc;simp only[ZF,g1,Option.map_some,Option.some.injEq]at hvc;have g3:=g3.mono hp
   match row0,c,hvc,g3 with
   | [],c,_,g3=>simpa using g3
   | [a],0,hvc,g3=>simp[DenL]at g3
   |a::b::l,0,hvc,g3=>
    simp only[List.set_cons_zero,DenL]at g3⊢;obtain⟨u,us,q1,q2,q3⟩:=g3;injection q1 with q1 q1';subst q1 q1';exact⟨_,_,rfl,hvc _ rfl,q3⟩
   | [a],c+1,hvc,g3=>simp[DenL]at g3
   |a::b::l,1,hvc,g3=>
    simp only[List.set_cons_succ,List.set_cons_zero,DenL]at g3⊢;obtain⟨u,us,q1,q2,u',us',q3,q4,q5⟩:=g3;injection q1 with q1 q1';subst q1 q1';injection q3 with q3 q3';subst q3 q3';exact⟨_,_,rfl,q2,_,_,rfl,hvc _ rfl,q5⟩
   |a::b::l,c+2,hvc,g3=>
    have:(a::b::l).set (c+2) (ZN dc)=a::b::l:=by
     simp only[DenL]at g3;obtain⟨u,us,q1,q2,u',us',q3,q4,q5⟩:=g3;injection q1 with q1 q1';subst q1 q1';injection q3 with q3 q3';subst q3 q3';cases l with
     |nil=>rfl
     |cons x l=>simp[DenL]at q5
    rw[this];exact g3
  ·obtain⟨en,g1,g2,g3⟩:=h5 i row hr;exact⟨en,g1,g2,g3.mono hp⟩
theorem HpSat.deep_ent{own:Bool}{b:Blk}{mp:Bool}{es:Nat}{rs:List (List DC)}(d:HpSat η w own b (.deep mp es rs)):(∃x,η.get b=some x)/\DeepSat η w b es rs/\(mp=true->es=2):=by
 cases mp
 ·simp only[HpSat]at d;exact⟨let⟨x,h,_⟩:=d.1.ent;⟨x,h⟩,d.2,fun h=>by cases h⟩
 ·simp only[HpSat]at d;exact⟨let⟨x,h,_⟩:=d.1.1.ent;⟨x,h⟩,d.2,fun _=>d.1.2⟩
theorem HpSat.deep_of{own:Bool}{b:Blk}{mp:Bool}{es:Nat}{rs:List (List DC)}(h:Zc6 η w own b mp es (Zs rs))(h0:mp=true->es=2)(h2:DeepSat η w b es rs):HpSat η w own b (.deep mp es rs):=by
 cases mp
 ·simp only[HpSat];exact⟨h,h2⟩
 ·simp only[HpSat];exact⟨⟨h,h0 rfl⟩,h2⟩
theorem HeapOK.take(H:HeapOK M η w O nx){i:Nat}{mp:Bool}{es:Nat}{rs:List (List DC)}(hi:lkp i O=some (.deep mp es rs)){r c es':Nat}{row:List DC}{rows:List (List SV)}(hr:rs[r]?=some row)(hc:row[c]?=some (.kid es' rows)):
 ∃x,HeapOK M (η++ [x]) w ((nx, .rows es' rows)::setK i (.deep mp es (setC rs r c (.v (.sl (.loc nx) 0 es' rows.length none)))) O) (nx+1):=by
 obtain⟨hsat,hF⟩:=H.own.1 i _ hi;obtain⟨e,o,v,he,ho,hv,_,hK⟩:=UM hsat hr hc;have hkid:Yd rs r c=some (es',rows):=kidAt_some.2 ⟨row,hr,hc⟩;obtain⟨v',hv',hks,hvg⟩:=hK.sat r c es' rows hkid;rw[hv]at hv';injection hv' with hv';subst hv'
 have fkid:∀k,v.ownBlock=some k->feet η w (.loc i) (.deep mp es rs) k:=fun k hk=>⟨e,he, .inr (by simp only[kid];exact⟨o,r,c,_,v,ho,hkid,hv,hk⟩)⟩;obtain⟨_,hD,h0⟩:=hsat.deep_ent;have hsome:(lkp i O).isSome:=by rw[hi];rfl
 obtain⟨x,hx,hxe,hnew,hden⟩:∃x:Option Ent,(∀e',x=some e'->v.ownBlock=some e'.g)/\(∀e',x=some e'->e'.g<w.heap.size)/\HpSat (η++ [x]) w true (.loc nx) (.rows es' rows)/\Den (η++ [x]) (.sl (.loc nx) 0 es' rows.length none) v:=by
  rcases hks with⟨rfl,rfl⟩|⟨g,cap,arr,T,fz,rfl,k2,k3,k4,k5,k6⟩
  ·refine⟨none,(fun e' h=>by cases h),(fun e' h=>by cases h),?_,?_⟩
   ·simp only[HpSat];exact .inl ⟨ZL H.len _,trivial⟩
   ·simp only[Den];exact .inl ⟨ZL H.len _,trivial,rfl⟩
  ·refine⟨some ⟨g,0,cap⟩,fun e' h=>by injection h with h;subst h;rfl,fun e' h=>by injection h with h;subst h;exact(Array.getElem?_eq_some_iff.1 k2).1,?_,?_⟩
   ·simp only[HpSat];exact .inr ⟨_,arr,T,fz,ZL H.len _,k2,fun _=>⟨k3,k4,k5,rfl⟩,fun j row hj=>⟨(k6 j row hj).1,(k6 j row hj).2.mono (List.prefix_append _ _)⟩⟩
   ·simp only[Den];exact .inr ⟨_,0,ZL H.len _,by simp,by simpa using k5,by simp,fun _=>by simp⟩
 have hp:η<+:η++ [x]:=List.prefix_append _ _;have hgi:(η++ [x]).get (.loc i)=some (some e):=Env.get_mono hp he
 have hsi:HpSat (η++ [x]) w true (.loc i) (.deep mp es (setC rs r c (.v (.sl (.loc nx) 0 es' rows.length none)))):=by
  refine HpSat.deep_of (Z0Y hsat hp fun e' o' v' h1 h2 h3=>?_) h0 fun e' h1=>?_
  ·rw[he]at h1;injection h1 with h1;injection h1 with h1;subst h1
   rw[ho]at h2;injection h2 with h2;subst h2
   rw[hv]at h3;injection h3 with h3;subst h3
   exact hden
  ·rw[hgi]at h1;injection h1 with h1;injection h1 with h1;subst h1
   refine⟨(hD e he).1,fun o' h2=>?_⟩;rw[ho]at h2;injection h2 with h2;subst h2
   have hK:=hK.mono hp;exact⟨fun a b es'' rows'' hk=>hK.sat a b es'' rows'' (JT hk).1,fun a b a' b' y y' u u' k h1 h2=>hK.ne a b a' b' y y' u u' k (JT h1).1 (JT h2).1⟩
 have back:∀j g,lkp j O=some g->∀k,feet (η++ [x]) w (.loc j) g k->feet η w (.loc j) g k:=fun j g hj k f=>H.stands hp hj (fun _ _=>rfl) f
 have backi:∀k,feet (η++ [x]) w (.loc i) (.deep mp es (setC rs r c (.v (.sl (.loc nx) 0 es' rows.length none)))) k->feet η w (.loc i) (.deep mp es rs) k/\v.ownBlock≠some k:=by
  intro k f;rcases f.of hgi with rfl|f
  ·exact⟨feet.own he,hvg⟩
  ·simp only[kid]at f;obtain⟨o',a,b,y,u,f1,f2,f3,f4⟩:=f;rw[ho]at f1;injection f1 with f1;subst f1
   obtain⟨f5,f6⟩:=JT f2;refine⟨⟨e,he, .inr (by simp only[kid];exact⟨o,a,b,y,u,ho,f5,f3,f4⟩)⟩,fun hk=>f6 ?_⟩;exact hK.ne a b r c y _ u v k f5 hkid f3 hv f4 hk
 have fnew:∀k,feet (η++ [x]) w (.loc nx) (.rows es' rows) k->v.ownBlock=some k:=by
  intro k f;obtain⟨e',f1,f2⟩:=f;rw[ZL H.len]at f1;injection f1 with f1;subst f1
  rcases f2 with rfl|f2
  ·exact hx _ rfl
  ·exact f2.elim
 refine⟨x,{pre:=H.pre.trans hp,len:=by simp[H.len],sok:=H.sok,fr:=H.fr,own:=⟨?_,?_⟩}⟩
 ·intro j g hj;rw[Z6]at hj;split at hj
  ·rename_i hq;subst hq;injection hj with hj;subst hj
   exact⟨hnew,fun k f=>hF k (fkid k (fnew k f))⟩
  ·rw[ZX i _ O j hsome]at hj;split at hj
   ·rename_i hq;subst hq;injection hj with hj;subst hj
    exact⟨hsi,fun k f=>hF k (backi k f).1⟩
   ·exact⟨(H.own.1 j g hj).1.mono hp,fun k f=>(H.own.1 j g hj).2 k (back j g hj k f)⟩
 ·intro j k g g' m hj hk hne f f';rw[Z6]at hj hk;rw[ZX i _ O _ hsome]at hj hk;split at hj
  ·rename_i hq;subst hq;injection hj with hj;subst hj
   rw[if_neg (Ne.symm hne)]at hk;have f:=fnew m f;split at hk
   ·rename_i hq;subst hq;injection hk with hk;subst hk
    exact(backi m f').2 f
   ·rename_i hki;exact H.own.2 i k _ g' m hi hk (Ne.symm hki) (fkid m f) (back k g' hk m f')
  ·split at hk
   ·rename_i hq;subst hq;injection hk with hk;subst hk
    have f':=fnew m f';split at hj
    ·rename_i hq;subst hq;injection hj with hj;subst hj
     exact(backi m f).2 f'
    ·rename_i hji;exact H.own.2 i j _ g m hi hj (Ne.symm hji) (fkid m f') (back j g hj m f)
   ·split at hj
    ·rename_i hq;subst hq;injection hj with hj;subst hj
     rw[if_neg (Ne.symm hne)]at hk;exact H.own.2 j k _ g' m hi hk hne (backi m f).1 (back k g' hk m f')
    ·split at hk
     ·rename_i hq;subst hq;injection hk with hk;subst hk
      exact H.own.2 j k g _ m hj hi hne (back j g hj m f) (backi m f').1
     ·exact H.own.2 j k g g' m hj hk hne (back j g hj m f) (back k g' hk m f')
theorem HeapOK.putk(H:HeapOK M η w O nx){i:Nat}{mp:Bool}{es:Nat}{rs:List (List DC)}(hi:lkp i O=some (.deep mp es rs)){r c k es' n:Nat}{row:List DC}{rows:List (List SV)}(hr:rs[r]?=some row)(hc:row[c]?=some (.v (.sl (.loc k) 0 es' n none)))
 (hk:lkp k O=some (.rows es' rows)) (hn:n<=rows.length) (hki:k≠i):HeapOK M η w (delK k (setK i (.deep mp es (setC rs r c (.kid es' (rows.take n)))) O)) nx:=by
 obtain⟨hsat,hF⟩:=H.own.1 i _ hi;obtain⟨hsk,hFk⟩:=H.own.1 k _ hk;obtain⟨e,o,v,he,ho,hv,hdv,hK⟩:=UM hsat hr hc;obtain⟨_,hD,h0⟩:=hsat.deep_ent;have hsome:(lkp i O).isSome:=by rw[hi];rfl
 have hks:KidSat η w v es' (rows.take n)/\∀g,v.ownBlock=some g->feet η w (.loc k) (.rows es' rows) g:=by
  simp only[ZN,Den]at hdv;simp only[HpSat]at hsk;rcases hdv with⟨h1,rfl,rfl⟩|⟨en,q,h1,rfl,h3,h4,h5⟩
  ·exact⟨.inl ⟨rfl,by simp⟩,fun g h=>by cases h⟩
  ·rcases hsk with⟨h6,_⟩|⟨en',arr,T,fz,h6,h7,h8,h9⟩
   ·rw[h1]at h6;cases h6
   rw[h1]at h6;injection h6 with h6;injection h6 with h6;subst h6
   obtain⟨g1,g2,g3,g4⟩:=h8 trivial;have hq:=h5 (.inr trivial);rw[g4]at hq h9;simp only[Nat.zero_mul,Nat.add_zero]at hq;subst hq;have hl:(rows.take n).length=n:=by rw[List.length_take];omega
   refine⟨.inr ⟨en.g,en.cap,arr,T,fz,by rw[hl];simp,h7,g1,g2,by rw[hl];omega,fun j q hj=>?_⟩,fun g h=>?_⟩
   ·rw[List.getElem?_take]at hj;split at hj
    ·exact h9 j q hj
    ·cases hj
   ·simp only[Value.ownBlock,Option.some.injEq]at h;subst h;exact feet.own h1
 obtain⟨hks,hvf⟩:=hks
 have hnokid:Yd rs r c=none:=by
  cases hq:Yd rs r c with
  |none=>rfl
  |some x=>
   obtain⟨a,b⟩:=x;obtain⟨row',q1,q2⟩:=kidAt_some.1 hq;rw[hr]at q1;injection q1 with q1;subst q1
   rw[hc]at q2;cases q2
 have foot:∀a b y u g,Yd rs a b=some y->ZF o es a b=some u->u.ownBlock=some g->feet η w (.loc i) (.deep mp es rs) g:=fun a b y u g h1 h2 h3=>⟨e,he, .inr (by simp only[kid];exact⟨o,a,b,y,u,ho,h1,h2,h3⟩)⟩;have hvg:v.ownBlock≠some e.g:=fun h=>H.own.2 k i _ _ e.g hk hi hki (hvf _ h) (feet.own he)
 have hsi:HpSat η w true (.loc i) (.deep mp es (setC rs r c (.kid es' (rows.take n)))):=by
  refine HpSat.deep_of (Z0Y (dc:= .kid es' (rows.take n)) hsat List.prefix_rfl fun _ _ _ _ _ _=>trivial) h0 fun e' h1=>?_;rw[he]at h1;injection h1 with h1;injection h1 with h1;subst h1
  refine⟨(hD e he).1,fun o' h2=>?_⟩;rw[ho]at h2;injection h2 with h2;subst h2
  refine⟨fun a b es'' rows'' hkd=>?_,fun a b a' b' y y' u u' g h1 h2 h3 h4 h5 h6=>?_⟩
  ·rcases XL hkd with h|⟨rfl,rfl,h⟩
   ·exact hK.sat a b _ _ h
   ·injection h with q1 q2;subst q1 q2;exact⟨v,hv,hks,hvg⟩
  ·rcases XL h1 with q|⟨rfl,rfl,q⟩
   ·rcases XL h2 with q'|⟨rfl,rfl,q'⟩
    ·exact hK.ne a b a' b' y y' u u' g q q' h3 h4 h5 h6
    ·rw[hv]at h4;injection h4 with h4;subst h4
     exact(H.own.2 k i _ _ g hk hi hki (hvf _ h6) (foot a b y u g q h3 h5)).elim
   ·rcases XL h2 with q'|⟨rfl,rfl,q'⟩
    ·rw[hv]at h3;injection h3 with h3;subst h3
     exact(H.own.2 k i _ _ g hk hi hki (hvf _ h5) (foot a' b' y' u' g q' h4 h6)).elim
    ·exact⟨rfl,rfl⟩
 have backi:∀m,feet η w (.loc i) (.deep mp es (setC rs r c (.kid es' (rows.take n)))) m->feet η w (.loc i) (.deep mp es rs) m\/feet η w (.loc k) (.rows es' rows) m:=by
  intro m f;rcases f.of he with rfl|f
  ·exact .inl (feet.own he)
  ·simp only[kid]at f;obtain⟨o',a,b,y,u,f1,f2,f3,f4⟩:=f;rw[ho]at f1;injection f1 with f1;subst f1
   rcases XL f2 with q|⟨rfl,rfl,q⟩
   ·exact .inl (foot a b y u m q f3 f4)
   ·rw[hv]at f3;injection f3 with f3;subst f3
    exact .inr (hvf m f4)
 have aux:∀(j:Nat) (g:Hp),lkp j (delK k (setK i (.deep mp es (setC rs r c (.kid es' (rows.take n)))) O))=some g->j≠k/\lkp j (setK i (.deep mp es (setC rs r c (.kid es' (rows.take n)))) O)=some g:=fun j g h=>by
  by_cases hj:j=k
  ·subst hj;rw[Yw]at h;cases h
  ·exact⟨hj,by rwa [Vn k _ j hj]at h⟩
 refine{pre:=H.pre,len:=H.len,sok:=H.sok,fr:=H.fr,own:=⟨?_,?_⟩}
 ·intro j g hj
  replace hj:=(aux j g hj).2
  rw[ZX i _ O j hsome]at hj;split at hj
  ·rename_i hq;subst hq;injection hj with hj;subst hj
   exact⟨hsi,fun m f=>(backi m f).elim (hF m) (hFk m)⟩
  ·exact H.own.1 j g hj
 ·intro j j' g g' m hj hj' hne f f';have hjk:=(aux j g hj).1;have hjk':=(aux j' g' hj').1
  replace hj:=(aux j g hj).2
  replace hj':=(aux j' g' hj').2
  rw[ZX i _ O _ hsome]at hj hj';split at hj
  ·rename_i hq;subst hq;injection hj with hj;subst hj
   rw[if_neg (Ne.symm hne)]at hj';rcases backi m f with f|f
   ·exact H.own.2 j j' _ g' m hi hj' hne f f'
   ·exact H.own.2 k j' _ g' m hk hj' (Ne.symm hjk') f f'
  ·split at hj'
   ·rename_i hq;subst hq;injection hj' with hj';subst hj'
    rcases backi m f' with f'|f'
    ·exact H.own.2 j j' g _ m hj hi hne f f'
    ·exact H.own.2 j k g _ m hj hk hjk f f'
   ·exact H.own.2 j j' g g' m hj hj' hne f f'
theorem HeapOK.nilk(H:HeapOK M η w O nx){i:Nat}{mp:Bool}{es:Nat}{rs:List (List DC)}(hi:lkp i O=some (.deep mp es rs)){r c es':Nat}{row:List DC}(hr:rs[r]?=some row)(hc:row[c]?=some (.v (.val (.slice none 0 0)))):
 HeapOK M η w (setK i (.deep mp es (setC rs r c (.kid es' []))) O) nx:=by
 obtain⟨hsat,hF⟩:=H.own.1 i _ hi;obtain⟨e,o,v,he,ho,hv,hdv,hK⟩:=UM hsat hr hc;obtain⟨_,hD,h0⟩:=hsat.deep_ent;have hv0:v= .slice none 0 0:=hdv.1;subst hv0
 have back:∀{a b y u g},Yd (setC rs r c (.kid es' [])) a b=some y->ZF o es a b=some u->u.ownBlock=some g->Yd rs a b=some y:=by
  intro a b y u g h1 h2 h3;rcases XL h1 with q|⟨rfl,rfl,q⟩
  ·exact q
  ·rw[hv]at h2;injection h2 with h2;subst h2;cases h3
 refine H.updF hi he (fun _ _=>rfl) rfl rfl rfl rfl ?_ (Nat.le_refl _) fun m f=>?_
 ·refine HpSat.deep_of (Z0Y (dc:= .kid es' []) hsat List.prefix_rfl fun _ _ _ _ _ _=>trivial) h0 fun e' h1=>?_;rw[he]at h1;injection h1 with h1;injection h1 with h1;subst h1
  refine⟨(hD e he).1,fun o' h2=>?_⟩;rw[ho]at h2;injection h2 with h2;subst h2
  refine⟨fun a b es'' rows'' hkd=>?_,fun a b a' b' y y' u u' g h1 h2 h3 h4 h5 h6=>hK.ne a b a' b' y y' u u' g (back h1 h3 h5) (back h2 h4 h6) h3 h4 h5 h6⟩;rcases XL hkd with h|⟨rfl,rfl,h⟩
  ·exact hK.sat a b _ _ h
  ·injection h with q1 q2;subst q1 q2;exact⟨_,hv, .inl ⟨rfl,rfl⟩,by simp[Value.ownBlock]⟩
 ·rcases f.of he with rfl|f
  ·exact feet.own he
  ·simp only[kid]at f;obtain⟨o',a,b,y,u,f1,f2,f3,f4⟩:=f;rw[ho]at f1;injection f1 with f1;subst f1
   exact⟨e,he, .inr (by simp only[kid];exact⟨o,a,b,y,u,ho,back f2 f3 f4,f3,f4⟩)⟩
theorem Z2T{T:Tab}{et:TypeId}{i:Nat}{h:DC->Hp}{sv:SV}{v':SV}{O':Hps}{nx':Nat}(hr:(WZ T et O i h sv).ok O nx v' O' nx'){mp:Bool}{es:Nat}{rsv:List (List DC)}{r c:Nat}{row:List DC}
 (hh:∀d,h d= .deep mp es (setC rsv r c d)) (hv:h (.v sv)= .deep mp es rsv) (hrow:rsv[r]?=some row) (hcell:row[c]?=some (.v sv)) (hi:(lkp i O).isSome)
 (H:HeapOK M η w (setK i (h (.v sv)) O) nx):HeapOK M η w O' nx/\v'= .tup []/\nx'=nx:=by
 have plainCase:(Res.upd i (h (.v sv)) (.tup [])).ok O nx v' O' nx'->HeapOK M η w O' nx/\v'= .tup []/\nx'=nx:=by
  rintro⟨rfl,rfl,rfl⟩;exact⟨H,rfl,rfl⟩
 have hlk:lkp i (setK i (h (.v sv)) O)=some (.deep mp es rsv):=by rw[ZX i _ O i hi,if_pos rfl,hv]
 have set2:∀(a b:Hp) (O:Hps),setK i a (setK i b O)=setK i a O:=by
  intro a b O
  induction O with
  |nil=>rfl
  |cons p O ih=>
   obtain⟨d,u⟩:=p;unfold setK;cases hb:Nat.beq i d
   ·simp only[setK,hb,ih]
   ·simp only[setK,hb]
 unfold WZ at hr;split at hr
 ·rename_i k r' es' n lim;split at hr
  ·split at hr
   ·rename_i es'' rows hk;split at hr
    case h_2=>exact hr.elim
    rename_i h1;have h1:=Zn h1;subst h1;split at hr
    case h_2=>exact hr.elim
    rename_i h2;have hki:=Jv h2;obtain⟨hn,rfl,rfl,rfl⟩:=hr;have hk':lkp k (setK i (h (.v (.sl (.loc k) 0 es' n none))) O)=some (.rows es' rows):=by rw[ZX i _ O k hi,if_neg hki];exact hk
    have:=H.putk hlk hrow hcell hk' hn hki;rw[set2,<-hh]at this;exact⟨this,rfl,rfl⟩
   ·exact plainCase hr
  ·exact plainCase hr
 ·split at hr
  ·rename_i e hs;obtain⟨rfl,rfl,rfl⟩:=hr;have:=H.nilk (es':=T.size e) hlk hrow hcell;rw[set2,<-hh]at this;exact⟨this,rfl,rfl⟩
  ·exact plainCase hr
 ·exact plainCase hr
end
end Go.Sx
