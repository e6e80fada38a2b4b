/- Part 0: Ali, RowM, SxDef, SxRun, SxLaws, SxOpsA, SxOpsB, SxOpsC, SxOpsD, SxOpsE, SxOpsF, SxOpsG, SxOpsH, SxOpsM, SxDeep. Conditions: as each part says. -/
import Derived.Below
import Derived.ProofKit
import Derived.OpenShut
import Derived.SizedLaws
import Derived.Deep.Slices
import Derived.Deep.DeepHandedRow
import Derived.Lib.LaidTab
import Derived.WalkKit
import Derived.Scope
import Derived.KernelRfl
import Derived.Lib.FrozenHead
import Derived.TacticsIn
import Derived.OrdersIn
import Derived.RangeFuncRecord
import Derived.Laws.CopyRow
import Derived.Laws.MakeOwn
namespace Go
abbrev z1:=@List.getElem?_eq_getElem
abbrev z6:=@List.getElem?_map
abbrev z7:=@if_neg
abbrev z8:=@congrArg
abbrev ze:=@List.getElem?_eq_some_iff
abbrev zf:=@if_pos
abbrev zg:=@List.take_of_length_le
abbrev zh:=@List.length_append
abbrev zi:=@Option.some.injEq
abbrev zj:=@Bool.and_eq_true
abbrev zk:=@List.getElem_mem
abbrev zl:=@List.getD_eq_getElem?_getD
abbrev zm:=@List.drop_eq_getElem_cons
abbrev zn:=@List.getElem?_append_left
abbrev zo:=@Nat.le_refl
abbrev zq:=@List.length_take
abbrev zu:=@List.prefix_rfl
abbrev zw:=@List.getElem?_append_right
abbrev zx:=@Nat.zero_add
abbrev zy:=@List.length_map
abbrev zz:=@List.prefix_append
abbrev zA:=@Array.getElem?_eq_some_iff
abbrev zB:=@Bool.and_self
abbrev zC:=@Option.map_eq_some_iff
abbrev zD:=@List.length_drop
abbrev zF:=@Bool.and_true
abbrev zG:=@List.map_cons
abbrev zH:=@List.take_succ_eq_append_getElem
abbrev zI:=@List.mem_singleton
abbrev zJ:=@List.mem_cons_self
abbrev zK:=@List.mem_cons_of_mem
abbrev zL:=@List.mem_cons
abbrev zM:=@List.length_eq_zero_iff
abbrev zN:=@List.drop_eq_nil_of_le
abbrev zO:=@Nat.le_trans
abbrev zP:=@List.append_nil
abbrev zQ:=@List.mem_append
abbrev zR:=@List.append_assoc
abbrev zS:=@List.getElem?_take
abbrev zT:=@List.all_eq_true
abbrev zU:=@Nat.le_of_ble_eq_true
abbrev zV:=@List.mem_of_getElem?
abbrev zW:=@List.getElem?_eq_none
abbrev zX:=@Bool.eq_iff_iff
abbrev zY:=@Nat.lt_or_ge
abbrev zZ:=@Array.getD_eq_getD_getElem?
abbrev y5:=@decide_eq_false
abbrev y6:=@List.getElem?_drop
abbrev y7:=@List.idxOf_lt_length_of_mem
abbrev y8:=@List.take_length
abbrev y9:=@Array.getElem?_append_left
abbrev yc:=@List.mem_map
abbrev yd:=@List.pairwise_cons
abbrev ye:=@List.size_toArray
abbrev yg:=@List.getElem_map
abbrev yh:=@Array.getElem?_modify
abbrev yj:=@List.mem_range
abbrev yl:=@decide_eq_false_iff_not
abbrev ym:=@Nat.mul_le_mul_right
abbrev yo:=@List.getElem?_modify
abbrev yp:=@dif_pos
abbrev yq:=@decide_eq_true
abbrev yt:=@List.length_mergeSort
abbrev yu:=@List.ext_getElem?
abbrev yw:=@decide_eq_true_eq
abbrev yx:=@decide_eq_true_iff
abbrev yy:=@List.map_congr_left
abbrev yz:=@List.map_append
abbrev yA:=@List.cons.injEq
abbrev yB:=@List.drop_drop
abbrev yC:=@Nat.succ_mul
abbrev yD:=@Array.ext'
abbrev yE:=@List.length_range
abbrev yF:=@Prod.mk.injEq
abbrev yG:=@List.getElem?_range
abbrev yH:=@Nat.lt_of_lt_of_le
abbrev yI:=@List.getElem_idxOf
abbrev yJ:=@if_true
abbrev yK:=@List.length_replicate
abbrev yL:=@Array.getElem?_eq_getElem
abbrev yM:=@List.mem_iff_getElem
abbrev yN:=@List.drop_zero
abbrev yO:=@Nat.zero_mul
abbrev yP:=@List.map_nil
abbrev yQ:=@dif_neg
abbrev yR:=@Nat.blt_eq
abbrev yS:=@List.getElem_range
abbrev yT:=@Array.getElem?_setIfInBounds
abbrev yU:=@Bool.or_eq_true
abbrev yV:=@List.ext_getElem
abbrev yW:=@List.take_append_drop
abbrev yX:=@List.getElem?_toArray
abbrev yY:=@Ne.symm
abbrev yZ:=@List.cons.inj
abbrev x5:=@List.map_replicate
abbrev x6:=@List.mergeSort_perm
abbrev x7:=@Nat.min_eq_left
abbrev x8:=@Bool.cond_eq_ite
abbrev x9:=@List.getElem_inj
abbrev xd:=@Bool.true_and
abbrev xe:=@Int.tdiv_eq_ediv_of_nonneg
abbrev xg:=@not_false_eq_true
abbrev xh:=@beq_iff_eq
abbrev xk:=@List.pairwise_iff_getElem
abbrev xl:=@List.take_append_of_le_length
abbrev xm:=@and_true
abbrev xo:=@List.map_map
abbrev xq:=@List.not_mem_nil
abbrev xu:=@Array.size_mapIdx
abbrev xw:=@Bool.if_false_right
abbrev xx:=@Nat.eq_zero_or_pos
abbrev xy:=@List.nil_prefix
abbrev xA:=@UInt8.toNat_ofNat_of_lt'
abbrev xB:=@List.getElem?_set
abbrev xC:=@Bool.if_true_left
abbrev xD:=@Nat.add_assoc
abbrev xE:=@Bool.false_or
abbrev xF:=@Iff.rfl
abbrev xG:=@if_false
abbrev xH:=@List.any_eq_true
abbrev xI:=@true_and
abbrev xJ:=@List.nodup_range
abbrev xK:=@Nat.add_mul
abbrev xL:=@Nat.mul_one
abbrev xM:=@Array.getElem?_eq_none
abbrev xN:=@Array.ext_getElem?
abbrev xO:=@List.length_set
abbrev xP:=@List.mem_append_right
abbrev xQ:=@List.map_take
abbrev xR:=@List.getElem_take
abbrev xS:=@Classical.byContradiction
abbrev xT:=@List.take_take
abbrev xU:=@Int.sub_zero
abbrev xV:=@List.mem_flatMap
abbrev xW:=@Array.getElem?_push
abbrev xX:=@List.getLast_eq_getElem
abbrev xY:=@Bool.not_true
abbrev xZ:=@Bool.false_eq_true
abbrev v7:=@UInt8.toNat_ofNat'
abbrev v8:=@Int.mul_le_mul_of_nonneg_right
abbrev ve:=@Nat.zero_le
abbrev vg:=@List.getLast?_eq_some_getLast
abbrev vh:=@List.foldl_append
abbrev vi:=@Nat.mul_comm
abbrev vj:=@List.map_set
abbrev vk:=@UInt8.lt_iff_toNat_lt
abbrev vm:=@Array.getElem?_mapIdx
abbrev vn:=@List.set_append_right
abbrev vo:=@List.length_filter_le
abbrev vp:=@List.eq_replicate_iff
abbrev vq:=@List.Perm.refl
abbrev vr:=@List.mem_of_mem_drop
abbrev vt:=@Nat.mod_eq_of_lt
abbrev vu:=@List.mem_append_left
abbrev vv:=@decide_eq_decide
abbrev vw:=@List.drop_length
abbrev vz:=@List.filter_cons
abbrev vA:=@List.getElem_set
abbrev vB:=@List.mem_map_of_mem
abbrev vC:=@List.drop_succ_cons
abbrev vD:=@List.getElem_of_mem
abbrev vE:=@Int.toNat_of_nonneg
abbrev vF:=@List.all_append
abbrev vG:=@Option.isSome_iff_exists
abbrev vH:=@Int.lt_or_eq_of_le
abbrev vI:=@Nat.sub_self
abbrev vJ:=@Nat.lt_or_eq_of_le
abbrev vK:=@List.mapM_cons
abbrev vL:=@Bool.and_assoc
abbrev vM:=@Option.bind_eq_some_iff
abbrev vN:=@List.getElem?_replicate
abbrev vO:=@List.mem_singleton_self
abbrev vP:=@Array.size_modify
abbrev vQ:=@Array.size_append
end Go
set_option linter.unusedVariables false
namespace Go.Our
open Go.RowKit Go.ChangeShapes Go.WideShapes Go.ChangeAt
section
variable {H:Type}{enc:TypeId×Value->H}{P:Program}
theorem Aa(hl:laidOutB P=true){W W':World}(hb:Below W.heap.size W W'):
 ∀(ts:List TypeId) (vs:List Value) (ds:List (DataW H)) (ps:List MemPlace),(∀t∈ts,P.readableRec t=true/\t<P.types.size)->
  DataW.TrodAll enc P W 0 (fun _=>true) true ts vs ds ps->(∀x∈ps,x.block<W.heap.size)->DataW.TrodAll enc P W' 0 (fun b=>decide (b<W.heap.size)) true ts vs ds ps
 | [],[],[],ps,_,h,_=>h
 |t::ts,v::vs,d::ds,ps,ht,⟨p,q,h1,h2,hpq⟩,hlt=>
  ⟨p,q,Below.trod hl (ht t (by simp)).1 (ht t (by simp)).2 h1 hb (fun x hx=>hlt x (by rw[hpq];simp[hx])),
   Aa hl hb ts vs ds q (fun t' h'=>ht t' (by simp[h'])) h2 (fun x hx=>hlt x (by rw[hpq];simp[hx])),hpq⟩
 | [],[],_::_,_,_,h,_=>h.elim
 | [],_::_,_,_,_,h,_=>h.elim
 |_::_,[],_,_,_,h,_=>h.elim
 |_::_,_::_,[],_,_,h,_=>h.elim
theorem Sy{f:Func}{s:ChangeSpec}{W W':World}{args:Array Value}{ds gs:List (DataW H)}{before:List MemPlace}{tb:TypeId}
 (hl:laidOutB P=true) (hts:∀t∈f.params.toList,P.readableRec t=true/\t<P.types.size) (hr:f.resultTypes= #[tb]) (Qj:P.underlying tb=some .bool)
 (hW:DataW.Whole enc P f.params.toList s.vars false W args.toList ds gs before) (hvars:s.vars=[]) (hres:(s.fn H (ds++gs)).results=[.lit (.bool true)]) (hargs:(s.fn H (ds++gs)).args=ds)
 (hv:(s.fn H (ds++gs)).vars=[]) (hb:Below W.heap.size W W'):s.post enc P f false true false false W args (.bool true) W':=by
 have hlt:=hW.lt;have hW':=hW;obtain⟨p,q,hA,hV,hpq,hfz,hnd⟩:=hW;refine⟨ds,gs,before,[],p,[],hW',?_,?_,?_,hb.frame _,fun h=>by cases h⟩
 .rw[hres,hr];exact trodAll_mk1 (shut_bool Qj true)
 .rw[hargs];exact Aa hl hb _ _ _ _ hts hA (fun x hx=>by simpa using hlt x (by rw[hpq];simp[hx]))
 .rw[hv,hvars]
  rfl
theorem Ab{l r:List Nat}(h:(l++r).all (· <=reachBytes)=true):l.all (· <=reachBytes)=true:=by rw[vF,zj]at h;exact h.1
theorem Sz{l r:List Nat}(h:(l++r).all (· <=reachBytes)=true):r.all (· <=reachBytes)=true:=by rw[vF,zj]at h;exact h.2
end
end Go.Our
namespace Go.Sx
open Go
inductive wq where
 |uH (g:Nat)
 |loc (i:Nat)
inductive SV where
 |bool (b:Bool)
 |int (k:IntKind) (n:Int)
 |str (s:List UInt8)
 |ptr (b:wq) (r es c:Nat)
 |sl (b:wq) (r es len:Nat) (lim:Option Nat)
 |val (v:Value)
 |agg (cs:List SV)
 |arr (es:Nat) (rs:List (List SV))
 |uz (vs:List SV)
 |fH (t:TypeId) (v:SV)
 |fn (f:Fn) (first cap:List SV)
 |mp (b:wq)
 |yf (b:wq)
 |jJ (l:List SV)
 |nb (n:Nat)
 |any
structure mh where
 N:Nat
 ps:List Nat
 eo:Code
 body:Code
inductive aM where
 |ready|busy|left (jump:Option Nat)
inductive DC where
 |v (s:SV)
 |uA (es:Nat) (rows:List (List SV))
inductive Hp where
 |box (row:List SV)
 |rows (es:Nat) (rs:List (List SV))
 |wu (s:List UInt8) (pos:Nat)
 |dY (vs:List Value)
 |kV (T e:TypeId) (l:List UInt8)
 |mp (rs:List (List SV))
 |jV (far:List Nat)
 |lp (st:aM) (li:mh) (fr:List (Nat×SV))
 |deep (mp:Bool) (es:Nat) (rs:List (List DC))
mutual
def plain:SV->Bool
 | .bool _| .int _ _| .str _| .val _| .any| .nb _=>true
 | .ptr (.uH _) _ _ _=>true
 | .ptr (.loc _) _ _ _=>false
 | .sl (.uH _) _ _ _ _=>true
 | .sl (.loc _) _ _ _ _=>false
 | .agg cs=>YJ cs
 | .arr _ rs=>Zj rs
 | .uz vs=>YJ vs
 | .fH _ v=>plain v
 | .fn _ a b=>YJ a&&YJ b
 | .mp (.uH _)=>true
 | .mp (.loc _)=>false
 | .yf _=>false
 | .jJ _=>false
def YJ:List SV->Bool
 | []=>true
 |c::cs=>plain c&&YJ cs
def Zj:List (List SV)->Bool
 | []=>true
 |r::rs=>YJ r&&Zj rs
end
def iy:List (Nat×SV)->Bool
 | []=>true
 |(_,v)::r=>plain v&&iy r
def JN:DC->Bool
 | .v s=>plain s
 | .uA _ rs=>Zj rs
def Yr:List DC->Bool
 | []=>true
 |c::cs=>JN c&&Yr cs
def ZB:List (List DC)->Bool
 | []=>true
 |r::rs=>Yr r&&ZB rs
def V2:Hp->Bool
 | .box row=>YJ row
 | .rows _ rs=>Zj rs
 | .wu _ _=>true
 | .dY _=>true
 | .kV _ _ _=>true
 | .mp rs=>Zj rs
 | .jV _=>true
 | .lp _ _ fr=>iy fr
 | .deep _ _ rs=>ZB rs
inductive Sh where
 |int (k:IntKind)|bool|str
 |ptr (e:TypeId)|slice (e:TypeId)|array (n:Nat) (e:TypeId)
 |struct (fs:List (Nat×TypeId))
 |map (k e:TypeId)|iface|func|plain|other
inductive CK where
 |int (k:IntKind)|str|bool
structure wU where
 sh:TypeId->Sh
 size:TypeId->Nat
 zero:TypeId->List SV
 bytes:TypeId->Nat
 flat:TypeId->Option (List CK)
 qt:List (Nat×Hp):=[]
 kV:Option (TypeId×TypeId):=none
 key:TypeId->Option (Bool×List CK):=fun _=>none
 dA:(qt.all fun p=>V2 p.2)=true:=by rfl
def u5{Y:Type}(t:Nat):List (Nat×Y)->Option Y
 | []=>none
 |(d,v)::r=>match Nat.beq t d with|true=>some v|false=>u5 t r
def bA:wq->wq->Bool
 | .uH a, .uH b=>Nat.beq a b
 | .loc a, .loc b=>Nat.beq a b
 |_,_=>false
def qv{Y:Type}(b:wq):List (wq×Y)->Option Y
 | []=>none
 |(d,v)::r=>match bA b d with|true=>some v|false=>qv b r
def uI{Y:Type}(t:Nat)(v:Y):List (Nat×Y)->List (Nat×Y)
 | []=>[]
 |(d,u)::r=>match Nat.beq t d with|true=>(d,v)::r|false=>(d,u)::uI t v r
def uU{Y:Type}(t:Nat):List (Nat×Y)->List (Nat×Y)
 | []=>[]
 |(d,u)::r=>match Nat.beq t d with|true=>uU t r|false=>(d,u)::uU t r
def nth{Y:Type}:List Y->Nat->Option Y
 | [],_=>none
 |x::_,0=>some x
 |_::r,n+1=>nth r n
def XQ:IntKind->IntKind->Bool
 | .i8, .i8| .i16, .i16| .i32, .i32| .i64, .i64| .u8, .u8| .u16, .u16| .u32, .u32| .u64, .u64=>true
 |_,_=>false
def jY(k:IntKind)(a b:Int):Int:=k.wrap ((BitVec.ofInt k.bits a&&&BitVec.ofInt k.bits b).toNat)
def Qk(k:IntKind)(a b:Int):Int:=k.wrap ((BitVec.ofInt k.bits a|||BitVec.ofInt k.bits b).toNat)
def oM(k:IntKind)(a b:Int):Int:=k.wrap ((BitVec.ofInt k.bits a^^^BitVec.ofInt k.bits b).toNat)
def Ac(k:IntKind)(a b:Int):Int:=k.wrap ((BitVec.ofInt k.bits a&&& ~~~(BitVec.ofInt k.bits b)).toNat)
def oN(k:IntKind)(a b:Int):Int:=k.wrap (a*2^ (min b.toNat k.bits))
def Ql(k:IntKind)(a b:Int):Int:=a.fdiv (2^ (min b.toNat k.bits))
def Z1(s:List UInt8)(i:Int):Int:=((s.getD i.toNat 0).toNat:Int)
def iz(a b:List UInt8):Bool:=Op.bytesLess a b
inductive ux where
 |val (v:SV)
 |new (v:SV) (h:Hp)
 |kZ (i:Nat) (h:Hp) (v:SV)
 |gU (i:Nat) (h:Hp) (v:SV)
 |need (p:Prop) (k:ux)
 |get (rs:List (List SV)) (i:Nat) (k:List SV->ux)
 |ite (b:Bool) (x y:ux)
 |find (r:Option (Nat×SV)) (f:Nat->SV->ux) (x:ux)
 |findD (r:Option (Nat×DC)) (f:Nat->DC->ux) (x:ux)
 |take (i:Nat) (h h2:Hp) (v:SV)
 |fI (i:Nat) (h:Hp) (k:Nat) (v:SV)
 |fail
def E3(op:BinOp)(k k':IntKind)(a b:Int):ux:=
 match op with
 | .shl=> .need (0<=b) (.val (.int k (oN k a b)))
 | .shr=> .need (0<=b) (.val (.int k (Ql k a b)))
 |_=>match XQ k k' with
  |false=> .fail
  |true=>match op with
   | .add=> .val (.int k (k.wrap (a+b)))
   | .sub=> .val (.int k (k.wrap (a-b)))
   | .mul=> .val (.int k (k.wrap (a*b)))
   | .quo=> .need (b≠0) (.val (.int k (k.wrap (a.tdiv b))))
   | .rem=> .need (b≠0) (.val (.int k (a.tmod b)))
   | .and=> .val (.int k (jY k a b))
   | .or=> .val (.int k (Qk k a b))
   | .xor=> .val (.int k (oM k a b))
   | .andNot=> .val (.int k (Ac k a b))
   | .eql=> .val (.bool (a==b))
   | .neq=> .val (.bool (a !=b))
   | .lss=> .val (.bool (decide (a<b)))
   | .leq=> .val (.bool (decide (a<=b)))
   | .gtr=> .val (.bool (decide (b<a)))
   | .geq=> .val (.bool (decide (b<=a)))
   |_=> .fail
def E4(op:BinOp)(a b:List UInt8):ux:=
 match op with
 | .add=> .need (a.length+b.length<=9223372036854775807) (.val (.str (a++b)))
 | .eql=> .val (.bool (a==b))
 | .neq=> .val (.bool (a !=b))
 | .lss=> .val (.bool (iz a b))
 | .leq=> .val (.bool (iz a b||a==b))
 | .gtr=> .val (.bool (!(iz a b||a==b)))
 | .geq=> .val (.bool (!(iz a b)))
 |_=> .fail
def Zi:List CK->List SV->List SV->Option Bool
 | [],[],[]=>some true
 | .int k::ks, .int k1 a::xs, .int k2 b::ys=>
   match XQ k k1&&XQ k k2,Zi ks xs ys with
   |true,some r=>some (a==b&&r)
   |_,_=>none
 | .str::ks, .str a::xs, .str b::ys=>match Zi ks xs ys with|some r=>some (a==b&&r)|none=>none
 | .bool::ks, .bool a::xs, .bool b::ys=>match Zi ks xs ys with|some r=>some (a==b&&r)|none=>none
 |_,_,_=>none
def cellsOf:SV->Option (List SV)
 | .agg cs=>some cs
 | .arr _ rs=>some rs.flatten
 | .uz _=>none
 | .any=>none
 | .nb _=>none
 | .jJ _=>none
 |v=>some [v]
def aN:Nat->List SV->Option (List SV)
 |0,_=>some []
 |n+1,c::cs=>match aN n cs with|some r=>some (c::r)|none=>none
 |_+1,[]=>none
def rQ:List SV->List SV->Option (List SV)
 |row,[]=>some row
 |_::row,v::vs=>match rQ row vs with|some r=>some (v::r)|none=>none
 | [],_::_=>none
def VK:Nat->List SV->List SV->Option (List SV)
 |0,row,vs=>rQ row vs
 |c+1,x::row,vs=>match VK c row vs with|some r=>some (x::r)|none=>none
 |_+1,[],_=>none
def WC{Y:Type}:List Y->Nat->Bool
 | [],0=>true
 |_::xs,n+1=>WC xs n
 |_,_=>false
def JO(es:Nat):Nat->List SV->Option (List (List SV))
 |0,[]=>some []
 |0,_::_=>none
 |n+1,cs=>match aN es cs with
  |some r=>match JO es n (cs.drop es)with|some rs=>some (r::rs)|none=>none
  |none=>none
def YF(T:wU)(t:TypeId)(cs:List SV):Option SV:=
 match T.sh t with
 | .struct _=>some (.agg cs)
 | .array _ _=>some (.agg cs)
 | .other=>none
 |_=>match cs with| [c]=>some c|_=>none
def bB(T:wU)(t:TypeId)(off:Nat)(row:List SV):ux:=
 match aN (T.size t) (row.drop off)with
 |some cs=>match YF T t cs with|some v=> .val v|none=> .fail
 |none=> .fail
def ZS:DC->SV
 | .v s=>s
 | .uA _ _=> .any
def Zy(rs:List (List DC)):List (List SV):=rs.map fun r=>r.map ZS
def iA(T:wU)(hl:wq->Option Hp)(t:TypeId):SV->ux
 | .ptr b r es c=>
   match hl b with
   |some (.box row)=>match Nat.beq r 0 with|true=>bB T t c row|false=> .fail
   |some (.rows es' rs)=>
    match Nat.beq es es' with
    |true=>match T.sh t with
     | .array n e=>match Nat.beq (T.size e) es with
       |true=> .need (r=0/\c=0/\rs.length=n) (.val (.arr es rs))
       |false=> .get rs r fun row=>bB T t c row
     |_=> .get rs r fun row=>bB T t c row
    |false=> .fail
   |some (.deep false es' rs)=>match Nat.beq es es' with
    |true=> .get (Zy rs) r fun row=>bB T t c row
    |false=> .fail
   |_=> .fail
 |_=> .fail
def Gy(T:wU)(hO:Nat->Option Hp)(t:TypeId):SV->SV->ux
 | .ptr (.loc i) r es c,v=>
   match hO i with
   |some (.box row)=>match Nat.beq r 0,cellsOf v with
    |true,some vs=>match WC vs (T.size t),VK c row vs with
     |true,some row=> .kZ i (.box row) (.uz [])
     |_,_=> .fail
    |_,_=> .fail
   |some (.rows es' rs)=>
    match Nat.beq es es' with
    |true=>match T.sh t with
     | .array n e=>match Nat.beq (T.size e) es,Nat.beq (T.size t) (n*es)with
       |true,true=>match v with
        | .arr gW rs'=> .need (r=0/\c=0/\gW=es/\rs'.length=n/\rs.length=n) (.kZ i (.rows es rs') (.uz []))
        | .agg cs=>match JO es n cs with
          |some rs'=> .need (r=0/\c=0/\rs.length=n) (.kZ i (.rows es rs') (.uz []))
          |none=> .fail
        |_=> .fail
       |_,_=> .fail
     |_=>match cellsOf v with
      |some vs=>match WC vs (T.size t)with
       |true=> .get rs r fun row=>match VK c row vs with
        |some row=> .kZ i (.rows es (rs.set r row)) (.uz [])
        |none=> .fail
       |false=> .fail
      |none=> .fail
    |false=> .fail
   |_=> .fail
 |_,_=> .fail
def YG:Value->SV
 | .bool b=> .bool b
 | .int k n=> .int k n
 | .string s=> .str s.data.toList
 | .agg _=> .any
 | .tuple vs=>match vs.toList with| []=> .uz []|_=> .any
 |v=> .val v
def Qm:wq->(wq->Prop)->Prop
 | .uH g,K=>K (.uH g)
 | .loc i,K=>K (.loc i)
def Qn:SV->(SV->Prop)->Prop
 | .bool b,K=>K (.bool b)
 | .int k n,K=>K (.int k n)
 | .str s,K=>K (.str s)
 | .ptr b r es c,K=>Qm b fun b=>K (.ptr b r es c)
 | .sl b r es len lim,K=>Qm b fun b=>K (.sl b r es len lim)
 | .val v,K=>K (.val v)
 | .agg cs,K=>K (.agg cs)
 | .arr es rs,K=>K (.arr es rs)
 | .uz vs,K=>K (.uz vs)
 | .fH t v,K=>K (.fH t v)
 | .fn f a b,K=>K (.fn f a b)
 | .mp b,K=>Qm b fun b=>K (.mp b)
 | .yf b,K=>Qm b fun b=>K (.yf b)
 | .jJ l,K=>K (.jJ l)
 | .any,K=>K .any
 | .nb n,K=>K (.nb n)
def WH:List SV->(List SV->Prop)->Prop
 | [],K=>K []
 |c::cs,K=>Qn c fun c=>WH cs fun cs=>K (c::cs)
def Gz:SV->(SV->Prop)->Prop
 | .agg cs,K=>WH cs fun cs=>K (.agg cs)
 | .fH t v,K=>Qn v fun v=>K (.fH t v)
 | .fn f a b,K=>WH a fun a=>WH b fun b=>K (.fn f a b)
 |v,K=>Qn v K
def UK:List SV->(List SV->Prop)->Prop
 | [],K=>K []
 |c::cs,K=>Gz c fun c=>UK cs fun cs=>K (c::cs)
def bD:SV->(SV->Prop)->Prop
 | .uz vs,K=>UK vs fun vs=>K (.uz vs)
 |v,K=>Gz v K
def lH:Hp->(Hp->Prop)->Prop
 | .box row,K=>WH row fun row=>K (.box row)
 | .rows es rs,K=>K (.rows es rs)
 | .wu s p,K=>K (.wu s p)
 | .dY vs,K=>K (.dY vs)
 | .kV T e l,K=>K (.kV T e l)
 | .mp rs,K=>K (.mp rs)
 | .jV f,K=>K (.jV f)
 | .lp st li fr,K=>K (.lp st li fr)
 | .deep mp es rs,K=>K (.deep mp es rs)
def rR:List (Nat×Hp)->(List (Nat×Hp)->Prop)->Prop
 | [],K=>K []
 |(i,h)::r,K=>rR r fun r=>K ((i,h)::r)
structure IF{J:Type}(b:Bool)(A B:J->Prop)(j:J):Prop where
 t:b=true->A j
 f:b=false->B j
structure rS{J:Type}(n:Nat)(A B:J->Prop)(j:J):Prop where
 t:n=0->A j
 f:B j
structure u6(p K:Prop):Prop where
 p:p
 k:K
structure GET(rs:List (List SV))(i:Nat)(K:List SV->Prop):Prop where
 out:∃row,rs[i]?=some row/\K row
structure gZ(g:Prop)(rs:List (List SV))(i:Nat)(K:List SV->Prop):Prop where
 out:∃row,(g->rs[i]?=some row)/\K row
structure eu{J:Type}(r:Option (Nat×SV))(A:Nat->SV->J->Prop)(B:J->Prop)(j:J):Prop where
 s:∀i v,r=some (i,v)->A i v j
 n:r=none->B j
structure wV{J:Type}(r:Option (Nat×DC))(A:Nat->DC->J->Prop)(B:J->Prop)(j:J):Prop where
 s:∀i v,r=some (i,v)->A i v j
 n:r=none->B j
structure uF(why:String):Prop where
 out:False
structure Cx where
 T:wU
 N:Nat
 S:List (wq×Hp)
 ro:Option (Nat×Nat):=none
abbrev Fr:=List (Nat×SV)
abbrev vX:=List (Nat×Hp)
abbrev Gs:=List (Nat×List (Nat×Bool)×SV)
def V3(fr:Fr):Operand->Option SV
 | .tmp t=>u5 t fr
 | .const v=>some (YG v)
 | .global g=>some (.ptr (.uH g) 0 0 0)
 | .func f=>some (.fn (.func f) [] [])
def Yn(C:Cx)(O:vX):wq->Option Hp
 | .loc i=>match u5 i O with
   |some h=>some h
   |none=>qv (.loc i) C.S
 | .uH g=>u5 g C.T.qt
def GC(T:wU)(t:TypeId)(f:Nat):Option (Nat×TypeId):=
 match T.sh t with
 | .struct fs=>nth fs f
 |_=>none
def qi{Y Z:Type}(f:Y->Option Z):List Y->Option (List Z)
 | []=>some []
 |x::xs=>match f x with
  |some y=>match qi f xs with|some ys=>some (y::ys)|none=>none
  |none=>none
def rT(cells:List SV)(place:Nat->Option (Nat×Nat)):List (Nat×SV)->Option (List SV)
 | []=>some cells
 |(i,v)::rest=>match place i with
  |some (off,size)=>match cellsOf v with
   |some vs=>match WC vs size,VK off cells vs with
    |true,some cells=>rT cells place rest
    |_,_=>none
   |none=>none
  |none=>none
def gU(n:Nat)(cs:List SV):List SV:=match n with|0=>[]|n+1=>cs++gU n cs
def GD(T:wU)(t:TypeId)(v:SV):Option Hp:=
 match T.sh t with
 | .array _ e=>match v with
   | .agg cs=>match T.sh t with
     | .array n _=>match JO (T.size e) n cs with|some rs=>some (.rows (T.size e) rs)|none=>none
     |_=>none
   |_=>none
 | .other=>none
 |_=>match cellsOf v with|some cs=>some (.box cs)|none=>none
def GF(T:wU)(t:TypeId)(nx:Nat)(v:SV):ux:=
 match T.sh t,v with
 | .array n e, .arr es rs=>match Nat.beq (T.size e) es with
   |true=> .need (rs.length=n) (.new (.ptr (.loc nx) 0 es 0) (.rows es rs))
   |false=> .fail
 | .array _ e,v=>match GD T t v with|some h=> .new (.ptr (.loc nx) 0 (T.size e) 0) h|none=> .fail
 |_,v=>match GD T t v with|some h=> .new (.ptr (.loc nx) 0 0 0) h|none=> .fail
def E5(tb te:TypeId)(nx:Nat):SV->ux
 | .agg [.val (.pointer none), .val (.slice none 0 0)]=> .new (.ptr (.loc nx) 0 0 0) (.kV tb te [])
 |_=> .fail
def newR(T:wU)(t:TypeId)(nx:Nat)(v:SV):ux:=
 match T.kV with
 |some (tb,te)=>match Nat.beq t tb with
  |true=>E5 tb te nx v
  |false=>GF T t nx v
 |none=>GF T t nx v
def je:SV->SV
 | .arr _ rs=> .agg rs.flatten
 |v=>v
def GG(lk:Operand->Option SV)(x:Operand):Option SV:=match lk x with|some k=>some (je k)|none=>none
def ZT:Bool->SV->Option (List SV)
 |true, .agg cs=>some cs
 |true,_=>none
 |false,v=>some [v]
def V4(ks:Bool×List CK)(a b:SV):Option Bool:=match ZT ks.1 a with
 |some xs=>match ZT ks.1 b with
  |some ys=>Zi ks.2 xs ys
  |none=>none
 |none=>none
def bE(ks:Bool×List CK)(a b:SV):Bool:=match V4 ks a b with|some r=>r|none=>false
def JF(ks:Bool×List CK)(a:SV):Bool:=(V4 ks a a).isSome
def Xs(ks:Bool×List CK)(key:SV):Nat->List (List SV)->Option (Nat×SV)
 |_,[]=>none
 |i,r::rs=>match r with
  | [k,v]=>match bE ks key k with
    |true=>some (i,v)
    |false=>Xs ks key (i+1) rs
  |_=>none
def JP(ks:Bool×List CK)(rs:List (List SV)):Prop:=∀r∈rs,∃k v,r=[k,v]/\JF ks k=true
def ew(v:SV):List SV->List SV
 | [k,_]=>[k,v]
 |r=>r
def jZ(ks:Bool×List CK)(key v:SV)(rs:List (List SV)):List (List SV):=match Xs ks key 0 rs with
 |some (i,_)=>rs.modify i (ew v)
 |none=>rs++ [[key,v]]
def ot(rs:List (List DC))(r c:Nat):Option (Nat×DC):=match rs[r]? with
 |some row=>match row[c]? with
  |some d=>some (r,d)
  |none=>none
 |none=>none
def findD(ks:Bool×List CK)(key:SV):Nat->List (List DC)->Option (Nat×DC)
 |_,[]=>none
 |i,r::rs=>match r with
  | [k,v]=>match bE ks key (ZS k)with
    |true=>some (i,v)
    |false=>findD ks key (i+1) rs
  |_=>none
def jl(d:DC):List DC->List DC
 | [k,_]=>[k,d]
 |r=>r
def kE(ks:Bool×List CK)(key:SV)(d:DC)(rs:List (List DC)):List (List DC):=match findD ks key 0 rs with
 |some (i,_)=>rs.modify i (jl d)
 |none=>rs++ [[.v key,d]]
def rU(T:wU)(et:TypeId)(O:List (Nat×Hp))(i:Nat)(h:DC->Hp):SV->ux
 | .sl (.loc k) r es n lim=>match r,lim with
   |0,none=>match u5 k O with
    |some (.rows es' rows)=>match Nat.beq es es' with
     |true=>match Nat.beq k i with
      |false=> .need (n<=rows.length) (.fI i (h (.uA es (rows.take n))) k (.uz []))
      |true=> .fail
     |false=> .fail
    |_=> .kZ i (h (.v (.sl (.loc k) 0 es n none))) (.uz [])
   |r,lim=> .kZ i (h (.v (.sl (.loc k) r es n lim))) (.uz [])
 | .val (.slice none 0 0)=>match T.sh et with
   | .slice e=> .kZ i (h (.uA (T.size e) [])) (.uz [])
   |_=> .kZ i (h (.v (.val (.slice none 0 0)))) (.uz [])
 |v=> .kZ i (h (.v v)) (.uz [])
def fJ(T:wU)(e:TypeId):SV->DC
 | .val (.slice none 0 0)=>match T.sh e with
   | .slice e'=> .uA (T.size e') []
   |_=> .v (.val (.slice none 0 0))
 |s=> .v s
def bytesRow(c:UInt8):List SV:=[.int .u8 (c.toNat:Int)]
def iB:List SV->UInt8
 | [.int _ n]=>UInt8.ofNat n.toNat
 |_=>0
def rV(O:vX):wq->Option Hp
 | .loc i=>u5 i O
 | .uH _=>none
def Ad(s:List UInt8)(lo hi:Option (Option SV)):ux:=
 match lo with
 |none=>match hi with
  |none=> .val (.str s)
  |some (some (.int _ h))=> .need (0<=h/\h<=s.length) (.val (.str (s.take h.toNat)))
  |_=> .fail
 |some (some (.int _ l))=>match hi with
  |none=> .need (0<=l/\l<=s.length) (.val (.str (s.drop l.toNat)))
  |some (some (.int _ h))=> .need (0<=l/\l<=h/\h<=s.length) (.val (.str ((s.drop l.toNat).take (h.toNat-l.toNat))))
  |_=> .fail
 |_=> .fail
def reach(O:vX)(b:wq)(r len:Nat)(lim:Option Nat):Nat:=
 match lim with
 |some _=>len
 |none=>match rV O b with
  |some (.rows _ rs)=>max len (rs.length-r)
  |_=>len
def Ae(O:vX)(b:wq)(r es len:Nat)(lim:Option Nat)(lo hi mx:Option (Option SV)):ux:=
 match mx with
 |none=>match lo with
  |none=>match hi with
   |none=> .val (.sl b r es len lim)
   |some (some (.int _ h))=> .need (0<=h/\h<=(reach O b r len lim:Nat)) (.val (.sl b r es h.toNat lim))
   |_=> .fail
  |some (some (.int _ l))=>match hi with
   |none=> .need (0<=l/\l<=len) (.val (.sl b (r+l.toNat) es (len-l.toNat) lim))
   |some (some (.int _ h))=> .need (0<=l/\l<=h/\h<=(reach O b r len lim:Nat)) (.val (.sl b (r+l.toNat) es (h.toNat-l.toNat) lim))
   |_=> .fail
  |_=> .fail
 |some (some (.int _ m))=>match lo with
  |none=>match hi with
   |some (some (.int _ h))=> .need (0<=h/\h<=m/\m<=len) (.val (.sl b r es h.toNat (some (r+m.toNat))))
   |_=> .fail
  |_=> .fail
 |_=> .fail
def Af(lo hi mx:Option (Option SV)):ux:=
 match mx with
 |some _=> .fail
 |none=>match lo with
  |some _=> .fail
  |none=>match hi with
   |none=> .val (.val (.slice none 0 0))
   |some (some (.int _ h))=> .need (h=0) (.val (.val (.slice none 0 0)))
   |_=> .fail
def nM(C:Cx)(O:vX)(es:Nat):SV->Option (List (List SV)×Nat)
 | .sl b r es' len _=>match Yn C O b with
   |some (.rows gW rs)=>match Nat.beq es es' with
    |true=>match Nat.beq es gW with
     |true=>some ((rs.drop r).take len,len)
     |false=>none
    |false=>none
   |_=>none
 | .val (.slice _ 0 0)=>some ([],0)
 | .str s=>match Nat.beq es 1 with
   |true=>some (s.map bytesRow,s.length)
   |false=>none
 |_=>none
def Ag(C:Cx)(O:vX)(nx:Nat)(e:TypeId)(xs:List (List SV))(m:Nat):wq->Nat->Nat->Nat->Nat->ux
 | .loc i,0,es,n,l=>match u5 i O with
   |some (.deep false es' ds)=>match Nat.beq es (C.T.size e)with
    |true=>match Nat.beq es es' with
     |true=> .need (xs.length=m/\0<n/\0<m/\n<=ds.length/\n+m<=9223372036854775807/\min (2*(n+m)) ((n+m)+(n+m)/4+192)*C.T.bytes e<=281474976710656)
      (.ite (decide (l<n+m)) (.new (.sl (.loc nx) 0 es (n+m) none) (.rows es ((Zy ds).take n++xs))) (.take i (.rows es ((Zy ds).take n++xs)) (.rows es []) (.sl (.loc i) 0 es (n+m) (some l))))
     |false=> .fail
    |false=> .fail
   |_=> .fail
 |_,_,_,_,_=> .fail
def GH(C:Cx)(O:vX)(nx:Nat)(t:TypeId)(s x:SV):ux:=
 match C.T.sh t with
 | .slice e=>match C.T.zero e with
   | []=> .fail
   |_::_=>match nM C O (C.T.size e) x with
    |none=> .fail
    |some (xs,m)=>match s with
     | .val (.slice none 0 0)=>
       .need (xs.length=m/\m<=9223372036854775807/\m*C.T.bytes e<=140737488355328) (.new (.sl (.loc nx) 0 (C.T.size e) m none) (.rows (C.T.size e) xs))
     | .sl (.loc i) 0 es n none=>
       match u5 i O with
       |some (.rows es' rs)=>match Nat.beq es (C.T.size e)with
        |true=>match Nat.beq es es' with
         |true=> .need (xs.length=m/\n<=rs.length/\n+m<=9223372036854775807/\min (2*(n+m)) ((n+m)+(n+m)/4+192)*C.T.bytes e<=281474976710656) (.gU i (.rows es (rs.take n++xs)) (.sl (.loc nx) 0 es (n+m) none))
         |false=> .fail
        |false=> .fail
       |some (.deep false es' rs)=>match Nat.beq es (C.T.size e)with
        |true=>match Nat.beq es es' with
         |true=> .need (xs.length=m/\n<=rs.length/\n+m<=9223372036854775807/\min (2*(n+m)) ((n+m)+(n+m)/4+192)*C.T.bytes e<=281474976710656) (.gU i (.deep false es (rs.take n++xs.map fun row=>row.map (fJ C.T e))) (.sl (.loc nx) 0 es (n+m) none))
         |false=> .fail
        |false=> .fail
       |_=> .fail
     | .sl b r es n (some l)=>
       match nM C O (C.T.size e) (.sl b r es n (some l))with
       |some (ys,_)=> .need (l=r+n/\0<m/\ys.length=n/\xs.length=m/\n+m<=9223372036854775807/\min (2*(n+m)) ((n+m)+(n+m)/4+192)*C.T.bytes e<=281474976710656) (.new (.sl (.loc nx) 0 (C.T.size e) (n+m) none) (.rows (C.T.size e) (ys++xs)))
       |none=>Ag C O nx e xs m b r es n l
     |_=> .fail
 |_=> .fail
def Ah(C:Cx)(nx:Nat)(t:TypeId)(x:SV):ux:=
 match C.T.sh t with
 | .slice e=>match C.T.zero e with
   | []=> .fail
   |c::cs=>match x with
    | .int _ n=> .need (0<=n/\n<=9223372036854775807/\n.toNat*C.T.bytes e<=140737488355328) (.new (.sl (.loc nx) 0 (C.T.size e) n.toNat none) (.rows (C.T.size e) (List.replicate n.toNat (c::cs))))
    |_=> .fail
 |_=> .fail
def E6(sh:Sh)(y:Operand)(u:SV)(w:Value):Option Bool:=
 match sh,y,w,u with
 | .iface, .const _, .nilIface, .fH _ _=>some false
 | .iface, .const _, .nilIface, .val .nilIface=>some true
 | .ptr _,_, .pointer none, .ptr _ _ _ _=>some false
 | .ptr _,_, .pointer none, .val (.pointer none)=>some true
 | .func,_, .nilFunc, .fn _ _ _=>some false
 | .func,_, .nilFunc, .val .nilFunc=>some true
 |_,_,_,_=>none
section
variable (C:Cx)(lk:Operand->Option SV)(O:vX)(nx:Nat)
def GI(x:Operand):ux:=match lk x with|some v=> .val v|none=> .fail
def Ai(c a b:Operand):ux:=
 match lk c with
 |some (.bool c)=>match lk a,lk b with
  |some (.bool a),some (.bool b)=> .val (.bool (bif c then a else b))
  |some (.bool a),some (.uz [])=> .need (c=true) (.val (.bool a))
  |some (.uz []),some (.bool b)=> .need (c=false) (.val (.bool b))
  |_,_=> .fail
 |_=> .fail
def Aj(e:TypeId):ux:=
 match C.T.zero e with
 | []=> .fail
 |c::cs=>match YF C.T e (c::cs)with|some v=>newR C.T e nx v|none=> .fail
def Qo(e:TypeId)(x:Operand):ux:=match lk x with|some v=>newR C.T e nx v|none=> .fail
def GJ(ps:Array (Nat×Operand)):Option (List (Nat×SV)):=
 qi (fun(p:Nat×Operand)=>match lk p.2 with|some v=>some (p.1,v)|none=>none) ps.toList
def E7(T:wU)(fs:List (Nat×TypeId))(i:Nat):Option (Nat×Nat):=match nth fs i with|some (off,u)=>some (off,T.size u)|none=>none
def Wc(T:wU)(e:TypeId)(i:Nat):Option (Nat×Nat):=some (i*T.size e,T.size e)
def Ak(t:TypeId)(ps:Array (Nat×Operand)):ux:=
 match GJ lk ps with
 |none=> .fail
 |some ps=>match C.T.zero t with
  | []=> .fail
  |c::cs=>match C.T.sh t with
   | .struct fs=>match rT (c::cs) (E7 C.T fs) ps with
     |some cs=> .val (.agg cs)
     |none=> .fail
   | .array _ e=>match rT (c::cs) (Wc C.T e) ps with
     |some cs=> .val (.agg cs)
     |none=> .fail
   |_=> .fail
def Al(t:TypeId)(len:Nat)(ps:Array (Nat×Operand)):ux:=
 match GJ lk ps with
 |none=> .fail
 |some ps=>match C.T.sh t with
  | .slice e=>match C.T.zero e with
    | []=> .fail
    |c::cs=>match Nat.ble (len*C.T.size e) 16777216 with
     |false=> .fail
     |true=>match rT (gU len (c::cs)) (Wc C.T e) ps with
      |none=> .fail
      |some cs=>match JO (C.T.size e) len cs with
       |some rs=> .new (.sl (.loc nx) 0 (C.T.size e) len none) (.rows (C.T.size e) rs)
       |none=> .fail
  |_=> .fail
def GK(i es:Nat)(rs:List (List DC))(r c:Nat)(t:TypeId):DC->ux
 | .v sv=>match YF C.T t [sv]with|some v=> .val v|none=> .fail
 | .uA es' rows=>match C.T.sh t with
   | .slice _=> .take i (.deep false es (rs.modify r fun row=>row.set c (.v (.sl (.loc nx) 0 es' rows.length none)))) (.rows es' rows) (.sl (.loc nx) 0 es' rows.length none)
   |_=> .fail
def Am(t:TypeId)(x:Operand):ux:=match lk x with
 |some p=>match p with
  | .ptr (.loc i) r es c=>match u5 i O with
    |some (.deep false es' rs)=>match Nat.beq es es',Nat.beq (C.T.size t) 1 with
     |true,true=> .findD (ot rs r c) (fun _ d=>GK C nx i es rs r c t d) .fail
     |_,_=> .fail
    |_=>iA C.T (Yn C O) t p
  |_=>iA C.T (Yn C O) t p
 |none=> .fail
def qE(T:wU)(t:TypeId):Bool:=match T.sh t with| .other=>false|_=>true
def An(t:TypeId)(x y:Operand):ux:=
 match qE C.T t with
 |false=> .fail
 |true=>match Nat.beq (C.T.size t) 0 with
  |true=> .fail
  |false=>match lk x with
   |some p=>match lk y with
    |some v=>match p with
     | .ptr (.loc i) r es c=>match u5 i O with
       |some (.deep false es' rs)=>match Nat.beq es es',Nat.beq (C.T.size t) 1 with
        |true,true=>match cellsOf v with
         |some [s]=> .findD (ot rs r c) (fun _ _=>rU C.T t O i (fun d=> .deep false es (rs.modify r fun row=>row.set c d)) s) .fail
         |_=> .fail
        |_,_=> .fail
       |_=>Gy C.T (fun i=>u5 i O) t p v
     |_=>Gy C.T (fun i=>u5 i O) t p v
    |none=> .fail
   |none=> .fail
def Ao(x:Operand):ux:=
 match lk x with
 |some (.ptr b r es c)=> .val (.ptr b r es c)
 |_=> .fail
def GL(ks:List CK)(xs ys:List SV):Bool:=match Zi ks xs ys with|some r=>r|none=>false
def Qp(ks:List CK)(op:BinOp)(xs ys:List SV):ux:=
 match op with
 | .eql=> .need ((Zi ks xs ys).isSome=true) (.val (.bool (GL ks xs ys)))
 | .neq=> .need ((Zi ks xs ys).isSome=true) (.val (.bool (!(GL ks xs ys))))
 |_=> .fail
def Qq(op:BinOp)(t:TypeId)(x y:Operand):ux:=
 match lk x with
 |some (.int k a)=>match lk y with
  |some (.int k' b)=>E3 op k k' a b
  |_=> .fail
 |some (.str a)=>match lk y with
  |some (.str b)=>E4 op a b
  |_=> .fail
 |some (.bool a)=>match lk y with
  |some (.bool b)=>match C.T.sh t with
   | .bool=>match op with
     | .eql=> .val (.bool (a==b))
     | .neq=> .val (.bool (a !=b))
     |_=> .fail
   |_=> .fail
  |_=> .fail
 |some (.agg xs)=>match lk y with
  |some (.agg ys)=>match C.T.flat t with
   |some ks=>match Zi ks xs ys with
    |some r=>match op with
     | .eql=> .val (.bool r)
     | .neq=> .val (.bool (!r))
     |_=> .fail
    |none=> .fail
   |none=> .fail
  |some (.arr _ rs)=>match C.T.flat t with
   |some ks=>Qp ks op xs rs.flatten
   |none=> .fail
  |_=> .fail
 |some (.arr _ rs)=>match lk y with
  |some (.agg ys)=>match C.T.flat t with
   |some ks=>Qp ks op rs.flatten ys
   |none=> .fail
  |some (.arr _ qs)=>match C.T.flat t with
   |some ks=>Qp ks op rs.flatten qs.flatten
   |none=> .fail
  |_=> .fail
 |some (.sl b r es len lim)=>match lk y with
  |some (.val (.slice none 0 0))=>match C.T.sh t with
   | .slice _=>match op with
     | .eql=> .val (.nb len)
     | .neq=> .need (0<len) (.val (.bool true))
     |_=> .fail
   |_=> .fail
  |_=> .fail
 |some (.val (.slice none 0 0))=>match lk y with
  |some (.val (.slice none 0 0))=>match C.T.sh t with
   | .slice _=>match op with
     | .eql=> .val (.bool true)
     | .neq=> .val (.bool false)
     |_=> .fail
   |_=> .fail
  |_=> .fail
 |some u=>match lk y with
  |some (.val w)=>match E6 (C.T.sh t) y u w with
   |some r=>match op with
    | .eql=> .val (.bool r)
    | .neq=> .val (.bool (!r))
    |_=> .fail
   |none=> .fail
  |_=> .fail
 |none=> .fail
def Ap(op:UnOp)(x:Operand):ux:=
 match op with
 | .not=>match lk x with
   |some (.bool b)=> .val (.bool (!b))
   |_=> .fail
 | .neg=>match lk x with
   |some (.int k n)=> .val (.int k (k.wrap (0-n)))
   |_=> .fail
 | .xor=>match lk x with
   |some (.int k n)=> .val (.int k (oM k (bif k.signed then-1 else k.max) n))
   |_=> .fail
 |_=> .fail
def Qr(T:wU)(t:TypeId):Option TypeId:=
 match T.sh t with
 | .slice e=>match T.sh e with
   | .int .u8=>some e
   |_=>none
 |_=>none
def Aq(s d:TypeId)(x:Operand):ux:=
 match qE C.T s with
 |false=> .fail
 |true=>match lk x with
  |some (.int _ n)=>match C.T.sh d with
   | .int k=> .val (.int k (k.wrap n))
   | .str=> .val (.str (Utf8.encode n).data.toList)
   |_=> .fail
  |some (.str s')=>match C.T.sh d with
   | .str=> .val (.str s')
   |_=>match Qr C.T d with
    |some e=>match Nat.beq (C.T.size e) 1 with
     |true=>match C.T.sh s with
      | .str=> .need (s'.length<=9223372036854775807) (.new (.sl (.loc nx) 0 1 s'.length none) (.rows 1 (s'.map bytesRow)))
      |_=> .fail
     |false=> .fail
    |none=> .fail
  |some (.sl b r es len lim)=>match C.T.sh d with
   | .str=>match Qr C.T s with
     |some _=>match nM C O 1 (.sl b r es len lim)with
      |some (xs,m)=> .need (xs.length=m/\∃l:List UInt8,xs=l.map bytesRow) (.val (.str (xs.map iB)))
      |none=> .fail
     |none=> .fail
   |_=> .fail
  |some (.val (.slice none 0 0))=>match C.T.sh d with
   | .str=>match Qr C.T s with
     |some _=> .val (.str [])
     |none=> .fail
   |_=> .fail
  |_=> .fail
def Ar(t:TypeId)(x:Operand):ux:=
 match C.T.sh t with
 | .iface=> .fail
 | .other=> .fail
 |_=>match lk x with
  |some v=> .val (.fH t v)
  |none=> .fail
def As(f:Fn)(a b:Array Operand):ux:=
 match qi lk a.toList with
 |some a=>match qi lk b.toList with
  |some b=> .val (.fn f a b)
  |none=> .fail
 |none=> .fail
def Au(t:TypeId)(l c:Operand):ux:=
 match C.T.sh t with
 | .slice e=>match C.T.zero e with
   | []=> .fail
   |z::zs=>match lk l with
    |some (.int _ l)=>match lk c with
     |some (.int _ c)=>
      .need (0<=l/\l<=c/\c<=9223372036854775807/\C.T.bytes e*c<=281474976710656)
       (.new (.sl (.loc nx) 0 (C.T.size e) l.toNat none) (.rows (C.T.size e) (List.replicate c.toNat (z::zs))))
     |_=> .fail
    |_=> .fail
 |_=> .fail
def Av(t:TypeId)(x:Operand)(lo hi mx:Option Operand):ux:=
 match lk x with
 |some (.str s)=>match C.T.sh t with
  | .str=>match mx with
    |none=>Ad s (lo.map lk) (hi.map lk)
    |some _=> .fail
  |_=> .fail
 |some (.sl b r es len lim)=>match C.T.sh t with
  | .slice e=>match Nat.beq es (C.T.size e)with
    |true=>match qE C.T e with
     |true=>Ae O b r es len lim (lo.map lk) (hi.map lk) (mx.map lk)
     |false=> .fail
    |false=> .fail
  |_=> .fail
 |some (.val (.slice none 0 0))=>match C.T.sh t with
  | .slice e=>match qE C.T e with
    |true=>Af (lo.map lk) (hi.map lk) (mx.map lk)
    |false=> .fail
  |_=> .fail
 |_=> .fail
def Aw(s:TypeId)(x:Operand)(f:Nat):ux:=
 match lk x with
 |some (.ptr b r es c)=>match GC C.T s f with
  |some (off,u)=>match Nat.beq (C.T.size u) 0 with
   |true=> .fail
   |false=> .val (.ptr b r es (c+off))
  |none=> .fail
 |_=> .fail
def Ay(t:TypeId)(x:Operand)(f:Nat):ux:=
 match lk x with
 |some (.agg cs)=>match GC C.T t f with
  |some (off,u)=>bB C.T u off cs
  |none=> .fail
 |_=> .fail
def Az(t:TypeId)(x i:Operand):ux:=
 match lk i with
 |some (.int _ i)=>match C.T.sh t with
  | .array n e=>match lk x with
    |some (.ptr b r es c)=>match Nat.beq es (C.T.size e)with
     |true=> .need (r=0/\c=0/\0<=i/\i<n) (.val (.ptr b i.toNat es 0))
     |false=>match c with
      |0=> .need (r=0/\(0:Nat)=0/\0<=i/\i<n) (.val (.ptr b i.toNat (C.T.size e) 0))
      |c'+1=> .need (0<=i/\i<n) (.val (.ptr b r es (c'+1+i.toNat*C.T.size e)))
    |_=> .fail
  | .slice e=>match lk x with
    |some (.sl b r es len _)=>match Nat.beq es (C.T.size e),qE C.T e with
     |true,true=> .need (0<=i/\i<len) (.val (.ptr b (r+i.toNat) es 0))
     |_,_=> .fail
    |_=> .fail
  |_=> .fail
 |_=> .fail
def AA(t:TypeId)(x i:Operand):ux:=
 match lk i with
 |some (.int _ i)=>match C.T.sh t with
  | .str=>match lk x with
    |some (.str s)=> .need (0<=i/\i<s.length) (.val (.int .u8 (Z1 s i)))
    |_=> .fail
  | .array n e=>match lk x with
    |some (.agg cs)=>match JO (C.T.size e) n cs with
     |some rs=> .need (0<=i/\i<n) (.get rs i.toNat fun row=>bB C.T e 0 row)
     |none=> .fail
    |some (.arr es rs)=>match Nat.beq es (C.T.size e)with
     |true=> .need (0<=i/\i<n/\rs.length=n) (.get rs i.toNat fun row=>bB C.T e 0 row)
     |false=> .fail
    |_=> .fail
  |_=> .fail
 |_=> .fail
def AB(t:TypeId)(x:Operand):ux:=
 match C.T.sh t with
 | .str=>match lk x with
   |some (.str s)=> .new (.ptr (.loc nx) 0 0 0) (.wu s 0)
   |_=> .fail
 |_=> .fail
def AE(x:Operand)(isStr:Bool):ux:=
 match isStr with
 |true=>match lk x with
  |some (.ptr (.loc i) r es c)=>match u5 i O with
   |some (.wu s pos)=>match Nat.beq (r*es+c) 0 with
    |true=> .ite (decide (pos<s.length))
     (.kZ i (.wu s (pos+(Utf8.decode ⟨s.toArray⟩ pos).2)) (.uz [.bool true, .int .i64 (pos:Int), .int .i32 ((Utf8.decode ⟨s.toArray⟩ pos).1:Int)]))
     (.val (.uz [.bool false]))
    |false=> .fail
   |_=> .fail
  |_=> .fail
 |false=> .fail
def AF(x:Operand)(i:Nat):ux:=
 match lk x with
 |some (.uz vs)=>match nth vs i with
  |some v=> .val v
  |none=> .fail
 |_=> .fail
def GM(T:wU)(t:TypeId):ux:=
 match T.zero t with
 | []=> .fail
 |c::cs=>match YF T t (c::cs)with
  |some z=> .val (.uz [z, .bool false])
  |none=> .fail
def AG(x:Operand)(t:TypeId)(ok:Bool):ux:=
 match C.T.sh t with
 | .iface=> .fail
 | .other=> .fail
 |_=>match lk x with
  |some (.fH u v)=>match Nat.beq u t with
   |true=>match ok with
    |true=> .val (.uz [v, .bool true])
    |false=> .val v
   |false=>match ok with
    |true=>GM C.T t
    |false=> .fail
  |some (.val .nilIface)=>match ok with
   |true=>GM C.T t
   |false=> .fail
  |_=> .fail
def lI(T:wU)(t:TypeId)(f:SV->ux):ux:=
 match T.zero t with
 | []=> .fail
 |c::cs=>match YF T t (c::cs)with
  |some z=>f z
  |none=> .fail
def lJ(ok:Bool)(v:SV)(b:Bool):SV:=match ok with|true=> .uz [v, .bool b]|false=>v
def AH(t:TypeId)(r:Option Operand):ux:=
 match r with
 |none=> .new (.mp (.loc nx)) (.mp [])
 |some x=>match C.T.sh t with
  | .map _ _=>match lk x with
    |some (.int _ _)=> .new (.mp (.loc nx)) (.mp [])
    |_=> .fail
  |_=> .fail
def AJ(ok:Bool)(i es:Nat)(rs:List (List DC))(j:Nat):DC->ux
 | .v s=> .val (lJ ok s true)
 | .uA es' rows=> .take i (.deep true es (rs.modify j (jl (.v (.sl (.loc nx) 0 es' rows.length none))))) (.rows es' rows) (lJ ok (.sl (.loc nx) 0 es' rows.length none) true)
def E8(ks:Bool×List CK)(et:TypeId)(key:SV)(ok:Bool):wq->ux
 | .loc i=>match u5 i O with
   |some (.deep true es rs)=> .need (JF ks key=true/\JP ks (Zy rs)) (.findD (findD ks key 0 rs) (fun j d=>AJ nx ok i es rs j d) (lI C.T et fun z=> .val (lJ ok z false)))
   |_=> .fail
 | .uH _=> .fail
def AK(t:TypeId)(x i:Operand)(ok:Bool):ux:=
 match C.T.sh t with
 | .map kt et=>match C.T.key kt with
   |some ks=>match GG lk i with
    |some key=>match lk x with
     |some (.mp b)=>match Yn C O b with
      |some (.mp rs)=> .need (JF ks key=true/\JP ks rs) (.find (Xs ks key 0 rs) (fun _ v=> .val (lJ ok v true)) (lI C.T et fun z=> .val (lJ ok z false)))
      |_=>E8 C O nx ks et key ok b
     |some (.val (.map none))=> .need (JF ks key=true) (lI C.T et fun z=> .val (lJ ok z false))
     |_=> .fail
    |none=> .fail
   |none=> .fail
 |_=> .fail
def E9(t:TypeId)(m k v:Operand):ux:=
 match C.T.sh t with
 | .map kt et=>match C.T.key kt with
   |some ks=>match GG lk k with
    |some key=>match lk v with
     |some v=>match lk m with
      |some (.mp (.loc i))=>match u5 i O with
       |some (.mp rs)=> .need (JF ks key=true/\JP ks rs) (.kZ i (.mp (jZ ks key v rs)) (.uz []))
       |some (.deep true es rs)=> .need (JF ks key=true/\JP ks (Zy rs)) (rU C.T et O i (fun d=> .deep true es (kE ks key d rs)) v)
       |_=> .fail
      |_=> .fail
     |none=> .fail
    |none=> .fail
   |none=> .fail
 |_=> .fail
def Ea(i es:Nat)(rs:List (List DC))(j:Nat):DC->ux
 | .v s=> .val (.uz [s, .int .i64 (j:Int)])
 | .uA es' rows=> .take i (.deep true es (rs.modify j (jl (.v (.sl (.loc nx) 0 es' rows.length none))))) (.rows es' rows) (.uz [.sl (.loc nx) 0 es' rows.length none, .int .i64 (j:Int)])
def AL(t:TypeId)(m k:Operand):ux:=
 match C.T.sh t with
 | .map kt et=>match C.T.key kt with
   |some ks=>match lk k with
    |some key=>match lk m with
     |some (.mp (.loc i))=>match u5 i O with
      |some (.mp rs)=> .need (JF ks key=true/\JP ks rs) (.find (Xs ks key 0 rs) (fun j v=> .val (.uz [v, .int .i64 (j:Int)]))
        (lI C.T et fun z=> .kZ i (.mp (rs++ [[key,z]])) (.uz [z, .int .i64 (rs.length:Int)])))
      |some (.deep true es rs)=> .need (JF ks key=true/\JP ks (Zy rs)) (.findD (findD ks key 0 rs) (fun j d=>Ea nx i es rs j d)
        (lI C.T et fun z=> .kZ i (.deep true es (rs++ [[.v key, .v z]])) (.uz [z, .int .i64 (rs.length:Int)])))
      |_=> .fail
     |_=> .fail
    |none=> .fail
   |none=> .fail
 |_=> .fail
def AO(t:TypeId)(m s v:Operand):ux:=
 match lk s with
 |some (.int _ n)=>match lk v with
  |some v=>match lk m with
   |some (.mp (.loc i))=>match u5 i O with
    |some (.mp rs)=> .need (0<=n/\n< (rs.length:Int)) (.kZ i (.mp (rs.modify n.toNat (ew v))) (.uz []))
    |some (.deep true es rs)=>match C.T.sh t with
     | .map _ et=> .need (0<=n/\n< (rs.length:Int)) (rU C.T et O i (fun d=> .deep true es (rs.modify n.toNat (jl d))) v)
     |_=> .fail
    |_=> .fail
   |_=> .fail
  |none=> .fail
 |_=> .fail
def Qs(args:List Operand)(ts:List TypeId):ux:=
 match args with
 | [x]=>match ts with
   | [t]=>match lk x with
     |some (.str s)=>match C.T.sh t with| .str=> .val (.int .i64 (s.length:Int))|_=> .fail
     |some (.sl _ _ _ len _)=>match C.T.sh t with| .slice _=> .val (.int .i64 (len:Int))|_=> .fail
     |some (.val (.slice _ n _))=>match C.T.sh t with| .slice _=> .val (.int .i64 (n:Int))|_=> .fail
     |some (.mp b)=>match C.T.sh t with
      | .map _ _=>match Yn C O b with
        |some (.mp rs)=> .val (.int .i64 (rs.length:Int))
        |_=> .fail
      |_=> .fail
     |_=> .fail
   |_=> .fail
 |_=> .fail
def Qt(args:List Operand)(ts:List TypeId):ux:=
 match args with
 | [x]=>match ts with
   | [t]=>match lk x with
     |some (.val (.slice none 0 0))=>match C.T.sh t with| .slice _=> .val (.int .i64 0)|_=> .fail
     |_=> .fail
   |_=> .fail
 |_=> .fail
def AP(args:List Operand)(ts:List TypeId):ux:=
 match args with
 | [s,x]=>match ts with
   | [t,u]=>match lk s with
     |some s=>match lk x with
      |some x=>match C.T.sh u with
       | .slice _=>GH C O nx t s x
       | .str=>GH C O nx t s x
       | .int _=>match s with
         | .val (.slice none 0 0)=>Ah C nx t x
         |_=> .fail
       |_=> .fail
      |none=> .fail
     |none=> .fail
   |_=> .fail
 |_=> .fail
def Qu(args:List Operand):ux:=
 match args with
 | [x,y]=>match lk x with
   |some (.int k a)=>match lk y with
    |some (.int _ b)=> .val (.int k (if b<a then b else a))
    |_=> .fail
   |_=> .fail
 |_=> .fail
def Qv(args:List Operand):ux:=
 match args with
 | [x,y]=>match lk x with
   |some (.int k a)=>match lk y with
    |some (.int _ b)=> .val (.int k (if a<b then b else a))
    |_=> .fail
   |_=> .fail
 |_=> .fail
def AQ(args:List Operand)(ts:List TypeId):ux:=
 match args with
 | [d,x]=>match ts with
   | [t,_]=>match C.T.sh t with
     | .slice e=>match qE C.T e with
       |false=> .fail
       |true=>match lk d with
        |some (.sl (.loc i) r es n _)=>match lk x with
         |none=> .fail
         |some x=>match nM C O (C.T.size e) x with
          |none=> .fail
          |some (xs,m)=>match u5 i O with
           |some (.rows es' rs)=>match Nat.beq es (C.T.size e)with
            |true=>match Nat.beq es es' with
             |true=> .need (xs.length=m/\m<=n/\r+n<=rs.length) (.kZ i (.rows es (rs.take r++xs++rs.drop (r+m))) (.int .i64 (m:Int)))
             |false=> .fail
            |false=> .fail
           |_=> .fail
        |_=> .fail
     |_=> .fail
   |_=> .fail
 |_=> .fail
def AR(args:List Operand)(ts:List TypeId):ux:=
 match args with
 | [d]=>match ts with
   | [t]=>match C.T.sh t with
     | .slice e=>match C.T.zero e with
       | []=> .fail
       |z::zs=>match lk d with
        |some (.sl (.loc i) r es n _)=>match u5 i O with
         |some (.rows es' rs)=>match Nat.beq es (C.T.size e)with
          |true=>match Nat.beq es es' with
           |true=> .need (r+n<=rs.length) (.kZ i (.rows es (rs.take r++List.replicate n (z::zs)++rs.drop (r+n))) (.uz []))
           |false=> .fail
          |false=> .fail
         |_=> .fail
        |_=> .fail
     |_=> .fail
   |_=> .fail
 |_=> .fail
def Vt(b:Builtin)(args:List Operand)(ts:List TypeId):ux:=
 match b with
 | .len=>Qs C lk O args ts
 | .append=>AP C lk O nx args ts
 | .cap=>Qt C lk args ts
 | .min=>Qu lk args
 | .max=>Qv lk args
 | .copy=>AQ C lk O args ts
 | .clear=>AR C lk O args ts
 |_=> .fail
def w5:Op->ux
 | .move x=>GI lk x
 | .assign x=>GI lk x
 | .pick c a b=>Ai lk c a b
 | .alloc e=>Aj C nx e
 | .box e x=>Qo C lk nx e x
 | .build t ps=>Ak C lk t ps
 | .buildSlice t len ps=>Al C lk nx t len ps
 | .load t x=>Am C lk O nx t x
 | .store t x y=>An C lk O t x y
 | .nilCheck x=>Ao lk x
 | .binOp op t x y _=>Qq C lk op t x y
 | .unOp op _ x=>Ap lk op x
 | .convert s d x=>Aq C lk O nx s d x
 | .makeInterface t x=>Ar C lk t x
 | .makeFunc f a b=>As lk f a b
 | .makeSlice t l c=>Au C lk nx t l c
 | .slice t x lo hi mx=>Av C lk O t x lo hi mx
 | .fieldAddr s x f=>Aw C lk s x f
 | .field t x f=>Ay C lk t x f
 | .indexAddr t x i=>Az C lk t x i
 | .index t x i=>AA C lk t x i
 | .makeMap t r=>AH C lk nx t r
 | .lookup t x i ok=>AK C lk O nx t x i ok
 | .mapUpdate t m k v=>E9 C lk O t m k v
 | .insert t m k v=>E9 C lk O t m k v
 | .mapEntry t m k=>AL C lk O nx t m k
 | .entryStore t m s v=>AO C lk O t m s v
 | .range t x=>AB C lk nx t x
 | .next x isStr=>AE lk O x isStr
 | .extract x i=>AF lk x i
 | .typeAssert x _ t ok=>AG C lk x t ok
 | .call c=>match c.callee with
   | .builtin b=>Vt C lk O nx b c.args.toList c.argTypes.toList
   |_=> .fail
 |_=> .fail
end
structure wZ where
 g:Nat
 base:Nat
 cap:Nat
abbrev Env:=List (Option wZ)
def Env.get(Y:Env):wq->Option (Option wZ)
 | .uH g=>some (some ⟨g,0,0⟩)
 | .loc i=>Y[i]?
mutual
def Den(Y:Env):SV->Value->Prop
 | .bool b,v=>v= .bool b
 | .int k n,v=>v= .int k n
 | .str s,v=>v= .string ⟨s.toArray⟩
 | .ptr b r es c,v=> ∃e,Y.get b=some (some e)/\v= .pointer (some ⟨e.g,e.base+(r*es+c),none⟩)
 | .sl b r es len lim,v=>
   (Y.get b=some none/\v= .slice none 0 0/\len=0)\/
   (∃e o,Y.get b=some (some e)/\v= .slice (some ⟨e.g,o,none⟩) len (lim.getD e.cap-r)/\r+len<=lim.getD e.cap/\lim.getD e.cap<=e.cap/\(r<lim.getD e.cap\/r=0->o=e.base+r*es))
 | .val u,v=>v=u/\u.oneCell'=true
 | .agg cs,v=> ∃vs,v= .agg ⟨vs⟩/\vV Y cs vs/\∀u∈vs,u.oneCell'=true
 | .arr es rs,v=> ∃vs,v= .agg ⟨vs⟩/\uh Y es rs vs/\∀u∈vs,u.oneCell'=true
 | .uz ts,v=> ∃vs,v= .tuple ⟨vs⟩/\vV Y ts vs
 | .fH t x,v=> ∃u,v= .iface t u/\Den Y x u
 | .fn f a b,v=> ∃us vs,v= .func f ⟨us⟩ ⟨vs⟩/\vV Y a us/\vV Y b vs
 | .mp b,v=> ∃e,Y.get b=some (some e)/\v= .map (some e.g)
 | .yf b,v=> ∃e,Y.get b=some (some e)/\v= .func (.yield e.g) #[] #[]
 | .jJ _,_=>True
 | .nb n,v=> ∃b,v= .bool b/\(b=true->n=0)
 | .any,_=>True
def vV(Y:Env):List SV->List Value->Prop
 | [],vs=>vs=[]
 |c::cs,vs=> ∃u us,vs=u::us/\Den Y c u/\vV Y cs us
def uh(Y:Env)(es:Nat):List (List SV)->List Value->Prop
 | [],vs=>vs=[]
 |r::rs,vs=> ∃us ws,vs=us++ws/\us.length=es/\vV Y r us/\uh Y es rs ws
end
def uj(Y:Env)(arr:Array Value)(o:Nat)(row:List SV):Prop:=
 ∀j sv,row[j]?=some sv->∃v,arr[o+j]?=some v/\v.oneCell'=true/\Den Y sv v
def qj(Y:Env)(tmps:Array Value)(fr:Fr):Prop:=∀t sv,u5 t fr=some sv->Den Y sv (tmps.getD t undef)
def aM.state:aM->LoopState
 | .ready=> .ready
 | .busy=> .busy
 | .left _=> .done
def SC:Option Nat->Code
 |none=> .ret
 |some id=> .exit id
def aM.jump:aM->Option Code
 | .left j=>some (SC j)
 |_=>none
def kM(Y:Env)(r:Loop)(st:aM)(li:mh)(fr:Fr):Prop:=
 r.state=st.state/\r.pending=st.jump/\r.params.toList=li.ps/\r.assign=li.eo/\r.body=li.body/\r.tmps.size=li.N/\qj Y r.tmps fr
def Vu(n:Nat)(fz:Nat×Nat):Prop:=∀o,o<n->¬(fz.1<=o/\o<fz.2)
def uM(Y:Env)(w:World)(own:Bool)(b:wq)(es:Nat)(rs:List (List SV)):Prop:=
 (Y.get b=some none/\rs=[])\/
 (∃e arr T fz,Y.get b=some (some e)/\w.heap[e.g]?=some (.cells arr T fz)/\(own=true->Vu arr.size fz/\arr.size=e.cap*es/\rs.length<=e.cap/\e.base=0)/\
   ∀i row,rs[i]?=some row->row.length=es/\uj Y arr (e.base+i*es) row)
def jK(Y:Env)(w:World)(b:wq)(rs:List (List SV)):Prop:=
 ∃e es,Y.get b=some (some e)/\e.base=0/\w.heap[e.g]?=some (.map es es.size)/\es.size=rs.length/\∀i row,rs[i]?=some row->∃en:MapEntry,es[i]?=some en/\en.born=i/\vV Y row [en.key,en.val]
def ZI(o:Obj)(es i j:Nat):Option Value:=match o with
 | .cells arr _ _=>arr[i*es+j]?
 | .map uK _=>(uK[i]?).map fun e=>match j with|0=>e.key|_=>e.val
 |_=>none
def Ye(rs:List (List DC))(i j:Nat):Option (Nat×List (List SV)):=match rs[i]? with
 |some row=>match row[j]? with
  |some (.uA es rows)=>some (es,rows)
  |_=>none
 |none=>none
def uV(Y:Env)(w:World)(v:Value)(es:Nat)(rows:List (List SV)):Prop:=
 (v= .slice none 0 0/\rows=[])\/
 (∃g cap arr T fz,v= .slice (some ⟨g,0,none⟩) rows.length cap/\w.heap[g]?=some (.cells arr T fz)/\Vu arr.size fz/\arr.size=cap*es/\rows.length<=cap/\
   ∀i row,rows[i]?=some row->row.length=es/\uj Y arr (0+i*es) row)
structure wW(Y:Env)(w:World)(g:Nat)(o:Obj)(es:Nat)(rs:List (List DC)):Prop where
 sat:∀i j es' rows,Ye rs i j=some (es',rows)->∃v,ZI o es i j=some v/\uV Y w v es' rows/\v.ownBlock≠some g
 ne:∀i j i' j' x x' v v' k,Ye rs i j=some x->Ye rs i' j'=some x'->ZI o es i j=some v->ZI o es i' j'=some v'->v.ownBlock=some k->v'.ownBlock=some k->i=i'/\j=j'
def uO(Y:Env)(w:World)(b:wq)(es:Nat)(rs:List (List DC)):Prop:=∀e,Y.get b=some (some e)->e.base=0/\∀o,w.heap[e.g]?=some o->wW Y w e.g o es rs
def vT(Y:Env)(w:World)(own:Bool)(b:wq):Hp->Prop
 | .box row=> ∃e arr T fz,Y.get b=some (some e)/\w.heap[e.g]?=some (.cells arr T fz)/\(own=true->Vu arr.size fz)/\uj Y arr e.base row
 | .rows es rs=>
   (Y.get b=some none/\rs=[])\/
   (∃e arr T fz,Y.get b=some (some e)/\w.heap[e.g]?=some (.cells arr T fz)/\(own=true->Vu arr.size fz/\arr.size=e.cap*es/\rs.length<=e.cap/\e.base=0)/\
     ∀i row,rs[i]?=some row->row.length=es/\uj Y arr (e.base+i*es) row)
 | .dY vs=> ∃e,Y.get b=some (some e)/\e.base=0/\∃T fz,w.heap[e.g]?=some (.cells vs.toArray T fz)
 | .wu s pos=> ∃e,Y.get b=some (some e)/\e.base=0/\w.heap[e.g]?=some (.stringIter ⟨s.toArray⟩ pos)
 | .mp rs=> ∃e es,Y.get b=some (some e)/\e.base=0/\w.heap[e.g]?=some (.map es es.size)/\es.size=rs.length/\∀i row,rs[i]?=some row->∃en:MapEntry,es[i]?=some en/\en.born=i/\vV Y row [en.key,en.val]
 | .jV f=> ∃e,Y.get b=some (some e)/\e.base=0/\w.heap[e.g]?=some (.deferred (some []))/\(∀n∈f,w.heap[n]?=some (.deferred (some [])))/\(e.g::f).Nodup
 | .lp st li fr=> ∃e r,Y.get b=some (some e)/\e.base=0/\w.heap[e.g]?=some (.loop r)/\kM Y r st li fr
 | .kV T t l=> ∃e,Y.get b=some (some e)/\e.base=0/\Lib.IsBuilderF T t 0 e.g (Lib.byteCells l) w
 | .deep true es rs=>(jK Y w b (Zy rs)/\es=2)/\uO Y w b es rs
 | .deep false es rs=>uM Y w own b es (Zy rs)/\uO Y w b es rs
def uA(w:World)(g:Nat):Hp->Nat->Prop
 | .kV _ _ _,k=> ∃arr T fz v,w.heap[g]?=some (.cells arr T fz)/\arr[1]?=some v/\v.ownBlock=some k
 | .deep _ es rs,k=> ∃o i j x v,w.heap[g]?=some o/\Ye rs i j=some x/\ZI o es i j=some v/\v.ownBlock=some k
 | .jV f,k=>k∈f
 |_,_=>False
def vY(Y:Env)(w:World)(b:wq)(h:Hp)(k:Nat):Prop:=∃e,Y.get b=some (some e)/\(e.g=k\/uA w e.g h k)
structure qW(w0 w:World)(F:Nat->Prop):Prop where
 os:w.os=w0.os
 tape:w.tape=w0.tape
 output:w.output=w0.output
 drawn:w0.drawn<=w.drawn
 size:w0.heap.size<=w.heap.size
 block:∀k,k<w0.heap.size->¬F k->w.heap[k]?=w0.heap[k]?
structure Mx where
 P:Program
 C:Cx
 w0:World
 F:Nat->Prop
 η0:Env
 px:Option (Fr×(SV->vX->Nat->Prop)):=none
def Mx.uo(M:Mx):Fence:={Fence.wide with round:=M.C.ro.map (·.1)}
theorem Mx.all(M:Mx)(f:FuncId):M.uo.fn f:=trivial
theorem Mx.room(M:Mx)(n:Nat):M.uo.room n:=fun _ h=>by cases h
def GN(M:Mx)(Y:Env)(w:World)(O:vX):Prop:=
 (∀i h,u5 i O=some h->vT Y w true (.loc i) h/\∀k,vY Y w (.loc i) h k->(M.F k\/M.w0.heap.size<=k))/\
 (∀i j h h' k,u5 i O=some h->u5 j O=some h'->i≠j->vY Y w (.loc i) h k->¬vY Y w (.loc j) h' k)
def ez(C:Cx):wq->Option Hp
 | .loc i=>qv (.loc i) C.S
 | .uH g=>u5 g C.T.qt
def nN(M:Mx):Prop:=
 ∀b h,ez M.C b=some h->vT M.η0 M.w0 false b h/\∀k,vY M.η0 M.w0 b h k->k<M.w0.heap.size/\¬M.F k
structure vR(M:Mx)(Y:Env)(w:World)(O:vX)(nx:Nat):Prop where
 pre:M.η0<+:Y
 len:Y.length=nx
 own:GN M Y w O
 fr:qW M.w0 w M.F
 wm:nN M
def kN(Y:Env)(a:Act)(fr:Fr):Prop:=∀t sv,u5 t fr=some sv->Den Y sv (a.tmps.getD t undef)
def uW(a:Act)(path:List (Nat×Bool)):Prop:=∀p∈path,a.tmps.getD p.1 undef= .bool p.2
def cq(Y:Env)(a:Act)(gs:Gs):Prop:=
 ∀t path sv,u5 t gs=some (path,sv)->(uW a path->Den Y sv (a.tmps.getD t undef))/\(¬uW a path->a.tmps.getD t undef=undef)
abbrev DS:Nat:=1000000000
def rW(f:List Nat):List Deferred:=f.map fun n=>{target:= .collected n,args:= #[]}
def oO(f:List Nat):Value:= .tuple (f.map fun(n:Nat)=>Value.int .i64 (n:Int)).toArray
def kW(Y:Env):List SV->List Deferred->Prop
 | [],ds=>ds=[]
 | .ptr b _ _ _::l,ds=> ∃e r,Y.get b=some (some e)/\ds={target:= .collected e.g,args:= #[]}::r/\kW Y l r
 | .val v::l,ds=> ∃f r,v=oO f/\ds=rW f++r/\kW Y l r
 | .fn f a b::l,ds=> ∃us vs r,vV Y a us/\vV Y b vs/\ds={target:= .fn f ⟨vs⟩,args:=⟨us⟩}::r/\kW Y l r
 |_::_,_=>False
def qw(Y:Env)(ds:List Deferred):Option SV->Prop
 |some (.jJ l)=>kW Y l ds
 |_=>ds=[]
structure u7(M:Mx)(Y:Env)(fr:Fr)(O:vX)(nx:Nat)(a:Act)(w:World):Prop where
 heap:vR M Y w O nx
 size:a.tmps.size=M.C.N
 fK:M.C.N<=DS
 defers:qw Y a.defers (u5 DS fr)
 ro:∀l j,M.C.ro=some (l,j)->∃e,Y[j]?=some (some e)/\e.g=l
 frame:kN Y a fr
inductive Ex where
 |normal|exit (id:Nat)|ret
abbrev Post:=Ex->Fr->vX->Nat->Prop
def GO(M:Mx)(ch:List PanicEntry)(a:Act)(w:World):Prop:=
 ∃kp X,M.px=some (kp,X)/\∃Y O nx v sv,ch=[{v,recovered:=false}]/\u7 M Y kp O nx a w/\Den Y sv v/\X sv O nx
def iC(M:Mx)(Q:Post):Exit->Act->World->Prop
 | .normal,a,w=> ∃Y fr O nx,u7 M Y fr O nx a w/\Q .normal fr O nx
 | .exit id,a,w=> ∃Y fr O nx,u7 M Y fr O nx a w/\Q (.exit id) fr O nx
 | .ret,a,w=> ∃Y fr O nx,u7 M Y fr O nx a w/\Q .ret fr O nx
 | .panic ch,a,w=>GO M ch a w
 |_,_,_=>False
def Walk(M:Mx)(c:Code)(fr:Fr)(O:vX)(nx:Nat)(Q:Post):Prop:=
 ∀Y a w,u7 M Y fr O nx a w->c.wpIn M.uo 0 M.P (iC M Q) a w
def kq(P:Program)(f:FuncId)(args:Array Value)(w:World)(R:Value->World->Prop):Prop:=
 (∃g,(callFunc f args).run P w= .ok (.enter g args) w/\Calls P g args w fun e w'=> ∃v,e= .returned v/\R v w')\/
 (∃v w',(callFunc f args).run P w= .ok (.value v) w'/\R v w')
structure CALL(M:Mx)(f:FuncId)(args:List SV)(O:vX)(nx:Nat)(K:SV->vX->Nat->Prop):Prop where
 out:∀Y w vs,vR M Y w O nx->vV Y args vs->
  kq M.P f ⟨vs⟩ w fun v w'=> ∃r O' vW η',Y<+:η'/\vR M η' w' O' vW/\Den η' r v/\K r O' vW
def kO(P:Program)(f:FuncId)(args:Array Value)(w:World)(R RP:Value->World->Prop):Prop:=
 (∃g,(callFunc f args).run P w= .ok (.enter g args) w/\Calls P g args w fun e w'=>(∃v,e= .returned v/\R v w')\/∃v,e= .panicked [{v,recovered:=false}]/\RP v w')\/
 (∃v w',(callFunc f args).run P w= .ok (.value v) w'/\R v w')
structure jf(M:Mx)(f:FuncId)(args:List SV)(O:vX)(nx:Nat)(KP K:SV->vX->Nat->Prop):Prop where
 out:∀Y w vs,vR M Y w O nx->vV Y args vs->
  kO M.P f ⟨vs⟩ w (fun v w'=> ∃r O' vW η',Y<+:η'/\vR M η' w' O' vW/\Den η' r v/\K r O' vW) fun v w'=> ∃r O' vW η',Y<+:η'/\vR M η' w' O' vW/\Den η' r v/\KP r O' vW
def Eb:Fr->Fr->Prop
 | [],_=>True
 |(t,v)::r,fr=>u5 t fr=some v/\Eb r fr
def Ec(kp fr:Fr):Prop:=u5 1000000000 fr=u5 1000000000 kp/\Eb kp fr
structure vZ(M:Mx)(body:Code)(fr:Fr)(O:vX)(nx:Nat)(Q:Post):Prop where
 out:∀Y a w,u7 M Y fr O nx a w->∀(b:Frame) (k:List Item) (cs:List Frame),b.roundOf=M.uo.round->∃e a' w',iC M Q e a' w'/\ArrivesIn (Machine.fenced M.P M.uo) M.P (lone (b.atR a (.code body:: .inLoop body::k)) cs w) b k cs e a' w'
structure eU(M:Mx)(j:Nat)(args:List SV)(O:vX)(nx:Nat)(K:SV->vX->Nat->Prop):Prop where
 out:∀Y w vs e,vR M Y w O nx->vV Y args vs->Y[j]?=some (some e)->∃fn tmps eo body,(Instr.yield e.g ⟨vs⟩).run M.P w= .ok (.round e.g fn tmps eo body) w/\
  RoundIn Fence.wide 0 M.P e.g fn tmps eo body w fun en w'=> ∃v,en= .returned v/\∃r O' vW η',Y<+:η'/\vR M η' w' O' vW/\Den η' r v/\K r O' vW
structure qQ(M:Mx)(f:Operand)(ps:Array Tmp)(eo body:Code)(fr:Fr)(O:vX)(nx:Nat)(Q:Post):Prop where
 out:Walk M (.rangeFunc f ps eo body) fr O nx Q
structure uq(M:Mx)(id:Nat)(ops:Array Oper)(fr:Fr)(O:vX)(nx:Nat)(Q:Post):Prop where
 out:Walk M (.region id ops true) fr O nx Q
def nO(i:Nat)(h:Hp):vX->(vX->Prop)->Prop
 | [],K=>K []
 |(j,g)::r,K=>match Nat.beq i j with|true=>K ((j,h)::r)|false=>nO i h r fun r=>K ((j,g)::r)
def oP(i:Nat):vX->(vX->Prop)->Prop
 | [],K=>K []
 |(j,g)::r,K=>match Nat.beq i j with|true=>oP i r K|false=>oP i r fun r=>K ((j,g)::r)
abbrev qR:=(SV->vX->Nat->Prop)->Prop
def AV(O:vX)(nx:Nat)(v:SV):qR:=fun K=>bD v fun v=>K v O nx
def AW(O:vX)(nx:Nat)(v:SV)(h:Hp):qR:=fun K=>lH h fun h=>bD v fun v=>K v ((nx,h)::O) (nx+1)
def AX(O:vX)(nx:Nat)(i:Nat)(h:Hp)(v:SV):qR:=fun K=>lH h fun h=>bD v fun v=>nO i h O fun O=>K v O nx
def AY(O:vX)(nx:Nat)(i:Nat)(h:Hp)(v:SV):qR:=fun K=>lH h fun h=>bD v fun v=>oP i O fun O=>K v ((nx,h)::O) (nx+1)
def AZ(p:Prop)(_:ux)(k:qR):qR:=fun K=>u6 p (k K)
def O3(rs:List (List SV))(i:Nat)(_:List SV->ux)(f:List SV->qR):qR:=fun K=>GET rs i fun row=>WH row fun row=>f row K
def O4(b:Bool)(_ _:ux)(x y:qR):qR:=fun K=>IF b x y K
def O5(r:Option (Nat×SV))(_:Nat->SV->ux)(_:ux)(f:Nat->SV->qR)(x:qR):qR:=fun K=>eu r (fun i v K=>bD v fun v=>f i v K) x K
def O6(r:Option (Nat×DC))(_:Nat->DC->ux)(_:ux)(f:Nat->DC->qR)(x:qR):qR:=fun K=>wV r f x K
def O7(O:vX)(nx:Nat)(i:Nat)(h h2:Hp)(v:SV):qR:=fun K=>lH h fun h=>lH h2 fun h2=>bD v fun v=>nO i h O fun O=>K v ((nx,h2)::O) (nx+1)
def O8(O:vX)(nx:Nat)(i:Nat)(h:Hp)(k:Nat)(v:SV):qR:=fun K=>lH h fun h=>bD v fun v=>nO i h O fun O=>oP k O fun O=>K v O nx
def O9:qR:=fun _=>uF "operation"
noncomputable def ux.go (O:vX)(nx:Nat)(r:ux):qR:=
 ux.rec (motive:=fun _=>qR) (AV O nx) (AW O nx) (AX O nx) (AY O nx) AZ O3 O4 O5 O6 (O7 O nx) (O8 O nx) O9 r
def wz(d:Option Tmp)(v:SV)(fr:Fr)(K:Fr->Prop):Prop:=
 match d with
 |some d=>K ((d,v)::fr)
 |none=>K fr
def JG(N:Nat):Option Tmp->Bool
 |some d=>Nat.blt d N
 |none=>true
def U8(lk:Operand->Option SV)(c:Call):Option (FuncId×List SV):=
 match c.callee with
 | .value f=>match lk f,qi lk c.args.toList with
   |some (.fn (.func f) first cap),some args=>some (f,first++args++cap)
   |_,_=>none
 |_=>none
def Ed(lk:Operand->Option SV)(c:Call):Option (Nat×List SV):=
 match c.callee with
 | .value f=>match lk f,qi lk c.args.toList with
   |some (.yf (.loc j)),some args=>some (j,args)
   |_,_=>none
 |_=>none
def Ee(c:Call):Bool:=match c.callee with| .builtin _=>true|_=>false
def oQ(M:Mx)(o:Oper)(lk:Operand->Option SV)(O:vX)(nx:Nat)(K:SV->vX->Nat->Prop):Prop:=
 match JG M.C.N o.dst with
 |false=>uF "slot"
 |true=>
  match o.op with
  | .call c=>match Ee c with
    |true=>(w5 M.C lk O nx (.call c)).go O nx K
    |false=>match U8 lk c with
     |some (f,args)=>UK args fun args=>CALL M f args O nx fun r O nx=>bD r fun r=>rR O fun O=>K r O nx
     |none=>match Ed lk c with
      |some (j,args)=>UK args fun args=>eU M j args O nx fun r O nx=>bD r fun r=>rR O fun O=>K r O nx
      |none=>uF "callee"
  |op=>(w5 M.C lk O nx op).go O nx K
def YS:SV:= .uz []
def Oa(M:Mx)(c:Call)(fr:Fr)(K:Fr->Prop):Prop:=
 match M.C.ro with
 |some _=>uF "defer"
 |none=>match c.callee,c.args.toList with
  | .value f,[]=>match V3 fr f with
    |some (.fn (.func g) [] cap)=>match u5 DS fr with
     |none=>K ((DS, .jJ [.fn (.func g) [] cap])::fr)
     |some _=>uF "defer"
    |_=>uF "defer"
  |_,_=>uF "defer"
def lK(M:Mx)(o:Oper)(fr:Fr)(O:vX)(nx:Nat)(K:Fr->SV->vX->Nat->Prop):Prop:=
 match M.px with
 |none=>oQ M o (V3 fr) O nx (K fr)
 |some (kp,X)=>match JG M.C.N o.dst with
  |false=>uF "slot"
  |true=>match o.op with
   | .panic x=>match V3 fr x with
     |some (.fH t u)=>bD (.fH t u) fun v=>Ec kp fr/\X v O nx
     |_=>uF "panic"
   | .defer c=>Oa M c fr fun fr=>K fr YS O nx
   | .call c=>match Ee c with
     |true=>oQ M o (V3 fr) O nx (K fr)
     |false=>match U8 (V3 fr) c with
      |some (f,args)=>UK args fun args=>jf M f args O nx (fun v O nx=>Ec kp fr/\X v O nx) fun r O nx=>bD r fun r=>rR O fun O=>K fr r O nx
      |none=>oQ M o (V3 fr) O nx (K fr)
   |_=>oQ M o (V3 fr) O nx (K fr)
def UL(ops:List Oper)(j:Nat):Option Nat:=match nth ops j with|some o=>o.dst|none=>none
abbrev RunT:=Fr->vX->Nat->(Fr->vX->Nat->Prop)->Prop
def Ob:RunT:=fun fr O nx K=>K fr O nx
def Ef(M:Mx)(ops:List Oper)(o:Oper)(_:List Oper)(rest:RunT):RunT:=fun fr O nx K=>
 match o.guard with
 |none=>lK M o fr O nx fun fr v O nx=>wz o.dst v fr fun fr=>rest fr O nx K
 |some (j,want)=>
  match UL ops j with
  |none=>uF "guard"
  |some s=>match u5 s fr with
   |some (.bool b)=>IF b
    (fun J=>match want with
     |true=>lK M o ((s, .bool true)::fr) O nx fun fr v O nx=>wz o.dst v fr fun fr=>J fr O nx
     |false=>match JG M.C.N o.dst with|true=>wz o.dst YS ((s, .bool true)::fr) fun fr=>J fr O nx|false=>uF "slot")
    (fun J=>match want with
     |false=>lK M o ((s, .bool false)::fr) O nx fun fr v O nx=>wz o.dst v fr fun fr=>J fr O nx
     |true=>match JG M.C.N o.dst with|true=>wz o.dst YS ((s, .bool false)::fr) fun fr=>J fr O nx|false=>uF "slot")
    (fun fr O nx=>rest fr O nx K)
   |some (.uz [])=>match JG M.C.N o.dst with|true=>wz o.dst YS fr fun fr=>rest fr O nx K|false=>uF "slot"
   |some (.nb n)=>rS n
    (fun J=>match want with
     |true=>lK M o ((s, .bool true)::fr) O nx fun fr v O nx=>wz o.dst v fr fun fr=>J fr O nx
     |false=>match JG M.C.N o.dst with|true=>wz o.dst YS ((s, .bool true)::fr) fun fr=>J fr O nx|false=>uF "slot")
    (fun J=>match want with
     |false=>lK M o ((s, .bool false)::fr) O nx fun fr v O nx=>wz o.dst v fr fun fr=>J fr O nx
     |true=>match JG M.C.N o.dst with|true=>wz o.dst YS ((s, .bool false)::fr) fun fr=>J fr O nx|false=>uF "slot")
    (fun fr O nx=>rest fr O nx K)
   |_=>uF "guard"
noncomputable def aO (M:Mx)(ops:List Oper)(l:List Oper):RunT:=List.rec (motive:=fun _=>RunT) Ob (Ef M ops) l
def GQ:List (Nat×Bool)->List (Nat×Bool)->Bool
 | [],_=>true
 |(s,b)::r,p=>(p.any fun q=>Nat.beq q.1 s&& (q.2==b))&&GQ r p
def mm(fr:Fr)(gs:Gs)(path:List (Nat×Bool)):Operand->Option SV
 | .tmp t=>match u5 t gs with
   |some (q,v)=>match GQ q path with|true=>some v|false=>none
   |none=>u5 t fr
 |x=>V3 fr x
def Qw(fr:Fr)(gs:Gs):List (Nat×Bool)->Option Bool
 | []=>some true
 |(s,want)::r=>
  match mm fr gs r (.tmp s)with
  |some (.bool b)=>match Qw fr gs r with
   |some x=>match want with
    |true=>some (x&&b)
    |false=>some (x&&!b)
   |none=>none
  |_=>none
abbrev jm:=(SV->Prop)->Prop
def GR(v:SV):jm:=fun K=>bD v K
def Od(g:Prop)(p:Prop)(_:ux)(k:jm):jm:=fun K=>u6 (g->p) (k K)
def Oe(g:Prop)(rs:List (List SV))(i:Nat)(_:List SV->ux)(f:List SV->jm):jm:=fun K=>gZ g rs i fun row=>WH row fun row=>f row K
def mo:jm:=fun _=>uF "guarded operation"
noncomputable def ux.gg (g:Prop)(r:ux):jm:=
 ux.rec (motive:=fun _=>jm) GR (fun _ _=>mo) (fun _ _ _=>mo) (fun _ _ _=>mo) (Od g) (Oe g) (fun _ _ _ _ _=>mo) (fun _ _ _ _ _=>mo) (fun _ _ _ _ _=>mo) (fun _ _ _ _=>mo) (fun _ _ _ _=>mo) mo r
def Og(fr:Fr)(gs:Gs)(path:List (Nat×Bool))(c a b:Operand):ux:=
 match c with
 | .tmp s=>match mm fr gs path c with
   |some (.bool x)=>match mm fr gs ((s,true)::path) a,mm fr gs ((s,false)::path) b with
    |some (.bool a),some (.bool b)=> .val (.bool (bif x then a else b))
    |_,_=> .fail
   |_=> .fail
 |_=> .fail
def iD(C:Cx)(fr:Fr)(gs:Gs)(path:List (Nat×Bool))(O:vX)(nx:Nat):Op->ux
 | .pick c a b=>Og fr gs path c a b
 |op=>w5 C (mm fr gs path) O nx op
def Qx(d:Nat)(p:List (Nat×Bool)):Bool:=p.all fun q=>!(Nat.beq q.1 d)
def Oh(d:Option Tmp)(gs:Gs):Bool:=
 match d with
 |none=>true
 |some d=>gs.all fun e=>!(Nat.beq e.1 d)&&Qx d e.2.1
def mq(gs:Gs)(s:Nat)(want:Bool):List (Nat×Bool):=(s,want)::(match u5 s gs with|some (q,_)=>q|none=>[])
abbrev Qy:=Fr->Gs->vX->Nat->(Fr->vX->Nat->Prop)->Prop
def SD:Qy:=fun fr _ O nx K=>K fr O nx
def Eg(M:Mx)(ops:List Oper)(o:Oper)(_:List Oper)(rest:Qy):Qy:=fun fr gs O nx K=>
 match JG M.C.N o.dst with
 |false=>uF "slot"
 |true=>match Oh o.dst gs with
  |false=>uF "slot"
  |true=>match o.guard with
   |none=>(match o.op with
    | .call c=>match Ee c with
      |true=>(iD M.C fr gs [] O nx (.call c)).go O nx fun v O nx=>wz o.dst v fr fun fr=>rest fr gs O nx K
      |false=>match U8 (mm fr gs []) c with
       |some (f,args)=>UK args fun args=>CALL M f args O nx fun r O nx=>bD r fun r=>rR O fun O=>wz o.dst r fr fun fr=>rest fr gs O nx K
       |none=>uF "callee"
    |op=>(iD M.C fr gs [] O nx op).go O nx fun v O nx=>wz o.dst v fr fun fr=>rest fr gs O nx K)
   |some (j,want)=>
    match UL ops j with
    |none=>uF "guard"
    |some s=>match o.dst with
     |none=>uF "guard"
     |some d=>match Qx d (mq gs s want)with
      |false=>uF "slot"
      |true=>match Qw fr gs (mq gs s want)with
       |none=>uF "path"
       |some g=>(iD M.C fr gs (mq gs s want) O nx o.op).gg (g=true) fun v=>rest ((d, .any)::fr) ((d,mq gs s want,v)::gs) O nx K
noncomputable def oR (M:Mx)(ops:List Oper)(l:List Oper):Qy:=List.rec (motive:=fun _=>Qy) SD (Eg M ops) l
def Eh:Op->Bool
 | .move _| .assign _| .pick .. | .binOp .. | .unOp .. | .load .. | .index .. | .indexAddr .. | .fieldAddr .. | .field .. | .extract .. | .nilCheck _| .slice .. =>false
 | .convert .. =>false
 | .build .. =>false
 | .call {callee:= .builtin .len, .. }=>false
 |_=>true
def Oi(ops:List Oper):Bool:=ops.any fun o=>match o.guard with|some _=>Eh o.op|none=>false
def guarded(ops:List Oper):Bool:=ops.any fun o=>match o.guard with|some _=>true|none=>false
abbrev qX:=Fr->vX->Nat->Post->Prop
def SE:qX:=fun fr O nx Q=>Q .normal fr O nx
def SF(_:Nat):qX:=fun fr O nx Q=>Q .normal fr O nx
noncomputable def Oj (M:Mx)(id:Nat)(ops:Array Oper)(draw:Bool):qX:=fun fr O nx Q=>
 match draw with
 |true=>uq M id ops fr O nx Q
 |false=>match guarded ops.toList&&!(Oi ops.toList)&&M.px.isNone with
  |true=>oR M ops.toList ops.toList fr [] O nx fun fr O nx=>Q .normal fr O nx
  |false=>aO M ops.toList ops.toList fr O nx fun fr O nx=>Q .normal fr O nx
def Ei(_ _:Code)(a b:qX):qX:=fun fr O nx Q=>a fr O nx fun e fr O nx=>match e with| .normal=>b fr O nx Q|e=>Q e fr O nx
def Ol(c:Operand)(_ _:Code)(x y:qX):qX:=fun fr O nx Q=>
 match V3 fr c with
 |some (.bool b)=>match c with
  | .tmp t=>IF b (fun Q=>x ((t, .bool true)::fr) O nx Q) (fun Q=>y ((t, .bool false)::fr) O nx Q) Q
  |_=>IF b (fun Q=>x fr O nx Q) (fun Q=>y fr O nx Q) Q
 |some (.nb n)=>match c with
  | .tmp t=>rS n (fun Q=>x ((t, .bool true)::fr) O nx Q) (fun Q=>y ((t, .bool false)::fr) O nx Q) Q
  |_=>uF "test"
 |_=>uF "test"
def SG(id:Nat)(_:Code)(body:qX):qX:=fun fr O nx Q=>body fr O nx fun e fr O nx=>match e with
 | .exit i=>match Nat.beq i id with|true=>Q .normal fr O nx|false=>Q (.exit i) fr O nx
 |e=>Q e fr O nx
def SH(M:Mx)(body:Code)(_:qX):qX:=fun fr O nx Q=>vZ M body fr O nx Q
def SI(M:Mx)(f:Operand)(ps:Array Tmp)(eo body:Code)(_ _:qX):qX:=fun fr O nx Q=>qQ M f ps eo body fr O nx Q
def SJ(id:Nat):qX:=fun fr O nx Q=>Q (.exit id) fr O nx
def SK(_:Code)(body:qX):qX:=body
def Ej:qX:=fun fr O nx Q=>Q .ret fr O nx
def Om:qX:=fun _ _ _ _=>uF "code"
noncomputable def run (M:Mx)(c:Code):qX:=
 Code.rec (motive:=fun _=>qX) SE (Oj M) Ei Ol SG (SH M) (SI M) SJ SK SF (fun _=>Om) Ej (fun _=>Om) c
theorem SL{b:wq}{K:wq->Prop}:Qm b K<->K b:=by cases b<;>rfl
theorem On{v:SV}{K:SV->Prop}:Qn v K<->K v:=by
 cases v<;>first|rfl|(simp only[Qn];exact SL)
theorem JY:∀{vs:List SV} {K:List SV->Prop},WH vs K<->K vs
 | [],_=>xF
 |c::cs,K=>by simp only[WH,On,JY]
theorem Oo{v:SV}{K:SV->Prop}:Gz v K<->K v:=by
 cases v<;>simp only[Gz,On,JY]
theorem J6:∀{vs:List SV} {K:List SV->Prop},UK vs K<->K vs
 | [],_=>xF
 |c::cs,K=>by simp only[UK,Oo,J6]
theorem Yv{v:SV}{K:SV->Prop}:bD v K<->K v:=by
 cases v<;>simp only[bD,Oo,J6]
theorem VT{h:Hp}{K:Hp->Prop}:lH h K<->K h:=by
 cases h<;>simp only[lH,JY]
theorem VU:∀{O:vX} {K:vX->Prop},rR O K<->K O
 | [],_=>xF
 |(i,h)::r,K=>by simp only[rR,VU]
theorem Ju{i:Nat}{h:Hp}:∀{O:vX} {K:vX->Prop},nO i h O K<->K (uI i h O)
 | [],_=>xF
 |(j,g)::r,K=>by
  unfold nO uI;cases Nat.beq i j
  exact Ju;exact xF
theorem XR{i:Nat}:∀{O:vX} {K:vX->Prop},oP i O K<->K (uU i O)
 | [],_=>xF
 |(j,g)::r,K=>by
  unfold oP uU;cases Nat.beq i j
  exact XR;exact XR
def ux.ok(O:vX)(nx:Nat):ux->SV->vX->Nat->Prop
 | .val v,v',O',vW=>v'=v/\O'=O/\vW=nx
 | .new v h,v',O',vW=>v'=v/\O'=(nx,h)::O/\vW=nx+1
 | .kZ i h v,v',O',vW=>v'=v/\O'=uI i h O/\vW=nx
 | .gU i h v,v',O',vW=>v'=v/\O'=(nx,h)::uU i O/\vW=nx+1
 | .need p k,v',O',vW=>p/\k.ok O nx v' O' vW
 | .get rs i f,v',O',vW=> ∃row,rs[i]?=some row/\(f row).ok O nx v' O' vW
 | .find r f x,v',O',vW=>match r with|some (i,v)=>(f i v).ok O nx v' O' vW|none=>x.ok O nx v' O' vW
 | .findD r f x,v',O',vW=>match r with|some (i,v)=>(f i v).ok O nx v' O' vW|none=>x.ok O nx v' O' vW
 | .take i h h2 v,v',O',vW=>v'=v/\O'=(nx,h2)::uI i h O/\vW=nx+1
 | .fI i h k v,v',O',vW=>v'=v/\O'=uU k (uI i h O)/\vW=nx
 | .ite b x y,v',O',vW=>if b=true then x.ok O nx v' O' vW else y.ok O nx v' O' vW
 | .fail,_,_,_=>False
theorem ux.go_ok{O:vX}{nx:Nat}:∀{r:ux} {K:SV->vX->Nat->Prop},r.go O nx K->∃v O' vW,r.ok O nx v O' vW/\K v O' vW
 | .val v,K,h=>by simp only[ux.go,AV,Yv]at h;exact⟨_,_,_,⟨rfl,rfl,rfl⟩,h⟩
 | .new v g,K,h=>by simp only[ux.go,AW,Yv,VT]at h;exact⟨_,_,_,⟨rfl,rfl,rfl⟩,h⟩
 | .kZ i g v,K,h=>by simp only[ux.go,AX,Yv,VT,Ju]at h;exact⟨_,_,_,⟨rfl,rfl,rfl⟩,h⟩
 | .gU i g v,K,h=>by simp only[ux.go,AY,Yv,VT,XR]at h;exact⟨_,_,_,⟨rfl,rfl,rfl⟩,h⟩
 | .need p k,K,h=>by
   simp only[ux.go,AZ]at h;obtain⟨v,O',vW,h1,h2⟩:=ux.go_ok h.k;exact⟨v,O',vW,⟨h.p,h1⟩,h2⟩
 | .get rs i f,K,h=>by
   simp only[ux.go,O3,JY]at h;obtain⟨row,hr,h⟩:=h.out;obtain⟨v,O',vW,h1,h2⟩:=ux.go_ok h;exact⟨v,O',vW,⟨row,hr,h1⟩,h2⟩
 | .find r f x,K,h=>by
   simp only[ux.go,O5]at h;cases hr:r with
   |none=>
    obtain⟨v,O',vW,h1,h2⟩:=ux.go_ok (h.n hr);exact⟨v,O',vW,h1,h2⟩
   |some p=>
    obtain⟨i,u⟩:=p;have h:=h.s i u hr;rw[Yv]at h;obtain⟨v,O',vW,h1,h2⟩:=ux.go_ok h;exact⟨v,O',vW,h1,h2⟩
 | .findD r f x,K,h=>by
   simp only[ux.go,O6]at h;cases hr:r with
   |none=>
    obtain⟨v,O',vW,h1,h2⟩:=ux.go_ok (h.n hr);exact⟨v,O',vW,h1,h2⟩
   |some p=>
    obtain⟨i,u⟩:=p;obtain⟨v,O',vW,h1,h2⟩:=ux.go_ok (h.s i u hr);exact⟨v,O',vW,h1,h2⟩
 | .take i g g2 v,K,h=>by simp only[ux.go,O7,Yv,VT,Ju]at h;exact⟨_,_,_,⟨rfl,rfl,rfl⟩,h⟩
 | .fI i g k v,K,h=>by simp only[ux.go,O8,Yv,VT,Ju,XR]at h;exact⟨_,_,_,⟨rfl,rfl,rfl⟩,h⟩
 | .ite b x y,K,h=>by
   simp only[ux.go,O4]at h;by_cases hb:b=true
   .obtain⟨v,O',vW,h1,h2⟩:=ux.go_ok (h.t hb);exact⟨v,O',vW,by simp only[ux.ok,zf hb];exact h1,h2⟩
   .obtain⟨v,O',vW,h1,h2⟩:=ux.go_ok (h.f (by simpa using hb));exact⟨v,O',vW,by simp only[ux.ok,z7 hb];exact h1,h2⟩
 | .fail,K,h=>by simp only[ux.go,O9]at h;exact h.out.elim
theorem Zr{a b:Nat}(h:Nat.beq a b=true):a=b:=Nat.eq_of_beq_eq_true h
theorem Xh(a:Nat):Nat.beq a a=true:=Nat.beq_refl a
theorem GU{a b:Nat}(h:a≠b):Nat.beq a b=false:=by
 cases e:Nat.beq a b
 rfl
 exact(h (Zr e)).elim
theorem Jv{a b:Nat}(h:Nat.beq a b=false):a≠b:=by
 intro e;subst e;rw[Xh]at h;cases h
section
variable {Y:Type}
theorem Z8(t d:Nat)(v:Y)(r:List (Nat×Y)):u5 t ((d,v)::r)=if t=d then some v else u5 t r:=by
 by_cases h:t=d
 subst h;simp only[u5,Xh,zf];simp only[u5,GU h,z7 h]
theorem Y1(i:Nat)(h:Y):∀(O:List (Nat×Y)) (j:Nat),(u5 i O).isSome->u5 j (uI i h O)=if j=i then some h else u5 j O
 | [],j,hi=>by simp[u5]at hi
 |(d,u)::r,j,hi=>by
  unfold uI;by_cases e:i=d
  subst e;simp only[Xh,Z8];split<;>rfl
  .simp only[GU e,Z8];rw[Z8,z7 e]at hi;have ih:=Y1 i h r j hi;by_cases hj:j=d
   subst hj;rw[zf rfl,z7 (fun h=>e h.symm),zf rfl];rw[z7 hj,z7 hj,ih]
theorem XS(i:Nat):∀(O:List (Nat×Y)) (j:Nat),j≠i->u5 j (uU i O)=u5 j O
 | [],j,hj=>rfl
 |(d,u)::r,j,hj=>by
  unfold uU;by_cases e:i=d
  subst e;simp only[Xh,Z8,z7 hj];exact XS i r j hj;simp only[GU e,Z8,XS i r j hj]
theorem Yd(i:Nat):∀(O:List (Nat×Y)),u5 i (uU i O)=none
 | []=>rfl
 |(d,u)::r=>by
  unfold uU;by_cases e:i=d
  subst e;simp only[Xh];exact Yd i r;simp only[GU e,Z8,z7 e];exact Yd i r
end
theorem aP{a b:wq}:bA a b=true<->a=b:=by
 cases a<;>cases b<;>simp[bA]
theorem Env.uc{J η':Env}(h:J<+:η'){b:wq}{x:Option wZ}(hb:J.get b=some x):η'.get b=some x:=by
 cases b with
 |uH g=>exact hb
 |loc i=>
  obtain⟨t,rfl⟩:=h;simp only[Env.get]at hb⊢;rw[zn (ze.1 hb).1];exact hb
mutual
theorem Den.mono{J η':Env}(h:J<+:η'):∀{sv:SV} {v:Value},Den J sv v->Den η' sv v
 | .bool _,_,d=>d
 | .int _ _,_,d=>d
 | .str _,_,d=>d
 | .ptr b r es c,v,d=>by
   simp only[Den]at d⊢;obtain⟨e,h1,h2⟩:=d;exact⟨e,Env.uc h h1,h2⟩
 | .sl b r es len lim,v,d=>by
   simp only[Den]at d⊢;rcases d with⟨h1,h2⟩|⟨e,o,h1,h2⟩
   exact .inl ⟨Env.uc h h1,h2⟩;exact .inr ⟨e,o,Env.uc h h1,h2⟩
 | .val _,_,d=>d
 | .agg cs,v,d=>by
   simp only[Den]at d⊢;obtain⟨vs,h1,h2,h3⟩:=d;exact⟨vs,h1,vV.mono h h2,h3⟩
 | .arr es rs,v,d=>by
   simp only[Den]at d⊢;obtain⟨vs,h1,h2,h3⟩:=d;exact⟨vs,h1,uh.mono h h2,h3⟩
 | .uz ts,v,d=>by
   simp only[Den]at d⊢;obtain⟨vs,h1,h2⟩:=d;exact⟨vs,h1,vV.mono h h2⟩
 | .fH t x,v,d=>by
   simp only[Den]at d⊢;obtain⟨u,h1,h2⟩:=d;exact⟨u,h1,Den.mono h h2⟩
 | .fn f a b,v,d=>by
   simp only[Den]at d⊢;obtain⟨us,vs,h1,h2,h3⟩:=d;exact⟨us,vs,h1,vV.mono h h2,vV.mono h h3⟩
 | .mp b,v,d=>by
   simp only[Den]at d⊢;obtain⟨e,h1,h2⟩:=d;exact⟨e,Env.uc h h1,h2⟩
 | .yf b,v,d=>by
   simp only[Den]at d⊢;obtain⟨e,h1,h2⟩:=d;exact⟨e,Env.uc h h1,h2⟩
 | .jJ _,_,d=>d
 | .any,_,d=>d
 | .nb _,_,d=>d
theorem vV.mono{J η':Env}(h:J<+:η'):∀{cs:List SV} {vs:List Value},vV J cs vs->vV η' cs vs
 | [],_,d=>d
 |c::cs,vs,d=>by
  simp only[vV]at d⊢;obtain⟨u,us,h1,h2,h3⟩:=d;exact⟨u,us,h1,Den.mono h h2,vV.mono h h3⟩
theorem uh.mono{J η':Env}{es:Nat}(h:J<+:η'):∀{rs:List (List SV)} {vs:List Value},uh J es rs vs->uh η' es rs vs
 | [],_,d=>d
 |r::rs,vs,d=>by
  simp only[uh]at d⊢;obtain⟨us,ws,h1,h2,h3,h4⟩:=d;exact⟨us,ws,h1,h2,vV.mono h h3,uh.mono h h4⟩
end
theorem uj.mono{J η':Env}(h:J<+:η'){arr:Array Value}{o:Nat}{row:List SV}(d:uj J arr o row):uj η' arr o row:=
 fun j sv hj=>let⟨v,h1,h2,h3⟩:=d j sv hj;⟨v,h1,h2,h3.mono h⟩
theorem qj.mono{J η':Env}(h:J<+:η'){tmps:Array Value}{fr:Fr}(d:qj J tmps fr):qj η' tmps fr:=fun t sv ht=>(d t sv ht).mono h
theorem kM.mono{J η':Env}(h:J<+:η'){r:Loop}{st:aM}{li:mh}{fr:Fr}(d:kM J r st li fr):kM η' r st li fr:=
 let⟨h1,h2,h3,h4,h5,h6,h7⟩:=d;⟨h1,h2,h3,h4,h5,h6,h7.mono h⟩
theorem kW.mono{J η':Env}(h:J<+:η'):∀{l:List SV} {ds:List Deferred},kW J l ds->kW η' l ds
 | [],_,d=>d
 |c::l,ds,d=>by
  cases c with
  |ptr b _ _ _=>
   simp only[kW]at d⊢;obtain⟨e,r,h1,h2,h3⟩:=d;exact⟨e,r,Env.uc h h1,h2,kW.mono h h3⟩
  |val v=>
   simp only[kW]at d⊢;obtain⟨f,r,h1,h2,h3⟩:=d;exact⟨f,r,h1,h2,kW.mono h h3⟩
  |fn f x y=>
   simp only[kW]at d⊢;obtain⟨us,vs,r,h1,h2,h3,h4⟩:=d;exact⟨us,vs,r,h1.mono h,h2.mono h,h3,kW.mono h h4⟩
  |_=>simp only[kW]at d
theorem qw.mono{J η':Env}(h:J<+:η'){ds:List Deferred}{v:Option SV}(d:qw J ds v):qw η' ds v:=by
 unfold qw at d⊢;split at d
 exact kW.mono h d;exact d
theorem uV.mono{J η':Env}(h:J<+:η'){w:World}{v:Value}{es:Nat}{rows:List (List SV)}(d:uV J w v es rows):uV η' w v es rows:=
 d.imp id fun⟨g,cap,arr,T,fz,h1,h2,h3,h4,h5,h6⟩=>⟨g,cap,arr,T,fz,h1,h2,h3,h4,h5,fun i row hr=>⟨(h6 i row hr).1,(h6 i row hr).2.mono h⟩⟩
theorem wW.mono{J η':Env}(h:J<+:η'){w:World}{g:Nat}{o:Obj}{es:Nat}{rs:List (List DC)}(d:wW J w g o es rs):wW η' w g o es rs:=
 ⟨fun i j es' rows hk=>let⟨v,h1,h2,h3⟩:=d.sat i j es' rows hk;⟨v,h1,h2.mono h,h3⟩,d.ne⟩
theorem uM.aQ{J:Env}{w:World}{own:Bool}{b:wq}{es:Nat}{rs:List (List SV)}(d:uM J w own b es rs):∃x,J.get b=some x/\∀e,x=some e->e.g<w.heap.size:=by
 rcases d with h|⟨e,arr,T,fz,h1,h2,h3⟩
 exact⟨_,h.1,fun e' he=>by cases he⟩;exact⟨_,h1,fun e' he=>by cases he;exact(zA.1 h2).1⟩
theorem jK.aQ{J:Env}{w:World}{b:wq}{rs:List (List SV)}(d:jK J w b rs):∃x,J.get b=some x/\∀e,x=some e->e.g<w.heap.size:=by
 obtain⟨e,es,h1,h2,h3,h4⟩:=d;exact⟨_,h1,fun e' he=>by cases he;exact(zA.1 h3).1⟩
theorem uO.mono{J η':Env}(h:J<+:η'){w:World}{b:wq}{es:Nat}{rs:List (List DC)}{x:Option wZ}(hx:J.get b=some x)(d:uO J w b es rs):uO η' w b es rs:=by
 intro e he;have:=Env.uc h hx;rw[this]at he;injection he with he;subst he
 obtain⟨h1,h2⟩:=d e hx;exact⟨h1,fun o ho=>(h2 o ho).mono h⟩
theorem vT.mono{J η':Env}(h:J<+:η'){w:World}{own:Bool}{b:wq}:∀{hp:Hp},vT J w own b hp->vT η' w own b hp
 | .box row,d=>by
   simp only[vT]at d⊢;obtain⟨e,arr,T,fz,h1,h2,h3,h4⟩:=d;exact⟨e,arr,T,fz,Env.uc h h1,h2,h3,h4.mono h⟩
 | .rows es rs,d=>by
   simp only[vT]at d⊢;rcases d with⟨h1,h2⟩|⟨e,arr,T,fz,h1,h2,h3,h4⟩
   exact .inl ⟨Env.uc h h1,h2⟩;exact .inr ⟨e,arr,T,fz,Env.uc h h1,h2,h3,fun i row hr=>⟨(h4 i row hr).1,(h4 i row hr).2.mono h⟩⟩
 | .dY vs,d=>by
   simp only[vT]at d⊢;obtain⟨e,h1,h2⟩:=d;exact⟨e,Env.uc h h1,h2⟩
 | .wu s p,d=>by
   simp only[vT]at d⊢;obtain⟨e,h1,h2⟩:=d;exact⟨e,Env.uc h h1,h2⟩
 | .mp rs,d=>by
   simp only[vT]at d⊢;obtain⟨e,es,h1,h2,h3,h4,h5⟩:=d;exact⟨e,es,Env.uc h h1,h2,h3,h4,fun i row hr=>let⟨en,g1,g2,g3⟩:=h5 i row hr;⟨en,g1,g2,vV.mono h g3⟩⟩
 | .jV _,d=>by
   simp only[vT]at d⊢;obtain⟨e,h1,h2⟩:=d;exact⟨e,Env.uc h h1,h2⟩
 | .lp st li fr,d=>by
   simp only[vT]at d⊢;obtain⟨e,r,h1,h2,h3,h4⟩:=d;exact⟨e,r,Env.uc h h1,h2,h3,h4.mono h⟩
 | .kV T t l,d=>by
   simp only[vT]at d⊢;obtain⟨e,h1,h2⟩:=d;exact⟨e,Env.uc h h1,h2⟩
 | .deep true es rs,d=>by
   simp only[vT]at d⊢;obtain⟨⟨d1,d0⟩,d2⟩:=d;obtain⟨x,hx,_⟩:=d1.aQ;refine⟨⟨?_,d0⟩,d2.mono h hx⟩;obtain⟨e,es,h1,h2,h3,h4,h5⟩:=d1;exact⟨e,es,Env.uc h h1,h2,h3,h4,fun i row hr=>let⟨en,g1,g2,g3⟩:=h5 i row hr;⟨en,g1,g2,vV.mono h g3⟩⟩
 | .deep false es rs,d=>by
   simp only[vT]at d⊢;obtain⟨d1,d2⟩:=d;obtain⟨x,hx,_⟩:=d1.aQ;refine⟨?_,d2.mono h hx⟩;rcases d1 with⟨h1,h2⟩|⟨e,arr,T,fz,h1,h2,h3,h4⟩
   exact .inl ⟨Env.uc h h1,h2⟩;exact .inr ⟨e,arr,T,fz,Env.uc h h1,h2,h3,fun i row hr=>⟨(h4 i row hr).1,(h4 i row hr).2.mono h⟩⟩
theorem vY.own{J:Env}{w:World}{b:wq}{h:Hp}{e:wZ}(he:J.get b=some (some e)):vY J w b h e.g:=⟨e,he, .inl rfl⟩
theorem vY.mono{J η':Env}(h:J<+:η'){w:World}{b:wq}{hp:Hp}{k:Nat}(f:vY J w b hp k):vY η' w b hp k:=
 let⟨e,h1,h2⟩:=f;⟨e,Env.uc h h1,h2⟩
theorem vY.less{J η':Env}(h:J<+:η'){w:World}{b:wq}{hp:Hp}{k:Nat}{x:Option wZ}(hx:J.get b=some x)(f:vY η' w b hp k):vY J w b hp k:=by
 obtain⟨e,h1,h2⟩:=f;have:=Env.uc h hx;rw[this]at h1;exact⟨e,hx.trans h1,h2⟩
theorem uA.keep{w w':World}{g:Nat}{hp:Hp}{k:Nat}(hw:w'.heap[g]?=w.heap[g]?)(f:uA w' g hp k):uA w g hp k:=by
 cases hp with
 |kV T t l=>
  simp only[uA]at f⊢;obtain⟨arr,T',fz,v,h1,h2,h3⟩:=f;exact⟨arr,T',fz,v,hw▸h1,h2,h3⟩
 |deep mp es rs=>
  simp only[uA]at f⊢;obtain⟨o,i,j,x,v,h1,h2,h3,h4⟩:=f;exact⟨o,i,j,x,v,hw▸h1,h2,h3,h4⟩
 |_=>exact f
theorem vY.keep{J:Env}{w w':World}{b:wq}{hp:Hp}{k:Nat}(hw:∀e,J.get b=some (some e)->w'.heap[e.g]?=w.heap[e.g]?)(f:vY J w' b hp k):vY J w b hp k:=
 let⟨e,h1,h2⟩:=f;⟨e,h1,h2.imp id fun h=>h.keep (hw e h1)⟩
theorem SM{w w':World}{base:Nat}{t:TypeId}{size n:Nat}{v:Value}{xs:List Value}(h:w.ownsRowF base t size v n xs)(hk:∀k,v.ownBlock=some k->w'.heap[k]?=w.heap[k]?):w'.ownsRowF base t size v n xs:=by
 obtain⟨h1,h2⟩:=h;refine⟨h1,h2.imp id ?_⟩;rintro⟨g,cap,cur,fz,rfl,h3,h4,h5⟩;exact⟨g,cap,cur,fz,rfl,h3,(hk g rfl).trans h4,h5⟩
theorem WI{w w':World}{T t:TypeId}{b:Nat}{p:Value}{bs:List Value}(h:Lib.BuilderAtF T t 0 b p bs w)(hk:∀k,k=b\/uA w b (.kV T t []) k->w'.heap[k]?=w.heap[k]?):Lib.BuilderAtF T t 0 b p bs w':=by
 obtain⟨h1,v,h2,h3,h4⟩:=h;refine⟨h1,v,(hk b (.inl rfl)).trans h2,SM h3 fun k hv=>hk k (.inr ?_),h4⟩;simp only[uA];exact⟨_,_,_,v,h2,rfl,hv⟩
theorem uV.keep{J:Env}{w w':World}{v:Value}{es:Nat}{rows:List (List SV)}(d:uV J w v es rows)(hk:∀k,v.ownBlock=some k->w'.heap[k]?=w.heap[k]?):uV J w' v es rows:=by
 rcases d with d|⟨g,cap,arr,T,fz,h1,h2,h3⟩
 exact .inl d;exact .inr ⟨g,cap,arr,T,fz,h1,(hk g (by rw[h1];rfl)).trans h2,h3⟩
theorem wW.keep{J:Env}{w w':World}{g:Nat}{o:Obj}{es:Nat}{rs:List (List DC)}(d:wW J w g o es rs)(hk:∀k i j x v,Ye rs i j=some x->ZI o es i j=some v->v.ownBlock=some k->w'.heap[k]?=w.heap[k]?):wW J w' g o es rs:=
 ⟨fun i j es' rows gJ=>let⟨v,h1,h2,h3⟩:=d.sat i j es' rows gJ;⟨v,h1,h2.keep fun k hv=>hk k i j _ v gJ h1 hv,h3⟩,d.ne⟩
theorem uO.keep{J:Env}{w w':World}{b:wq}{mp:Bool}{es:Nat}{rs:List (List DC)}(d:uO J w b es rs)(hk:∀k,vY J w b (.deep mp es rs) k->w'.heap[k]?=w.heap[k]?):uO J w' b es rs:=by
 intro e he;obtain⟨h1,h2⟩:=d e he;refine⟨h1,fun o ho=>?_⟩;rw[hk e.g (vY.own he)]at ho;refine(h2 o ho).keep fun k i j x v gJ hc hv=>hk k ⟨e,he, .inr ?_⟩;simp only[uA];exact⟨o,i,j,x,v,ho,gJ,hc,hv⟩
theorem vT.keep{J:Env}{w w':World}{own:Bool}{b:wq}{hp:Hp}(d:vT J w own b hp)(hk:∀k,vY J w b hp k->w'.heap[k]?=w.heap[k]?):vT J w' own b hp:=by
 cases hp with
 |box row=>
  simp only[vT]at d⊢;obtain⟨e,arr,T,fz,h1,h2,h3⟩:=d;exact⟨e,arr,T,fz,h1,(hk e.g (vY.own h1)).trans h2,h3⟩
 |rows es rs=>
  simp only[vT]at d⊢;rcases d with h|⟨e,arr,T,fz,h1,h2,h3⟩
  exact .inl h;exact .inr ⟨e,arr,T,fz,h1,(hk e.g (vY.own h1)).trans h2,h3⟩
 |dY vs=>
  simp only[vT]at d⊢;obtain⟨e,h1,h2,T,fz,h3⟩:=d;exact⟨e,h1,h2,T,fz,(hk e.g (vY.own h1)).trans h3⟩
 |wu s p=>
  simp only[vT]at d⊢;obtain⟨e,h1,h2,h3⟩:=d;exact⟨e,h1,h2,(hk e.g (vY.own h1)).trans h3⟩
 |mp rs=>
  simp only[vT]at d⊢;obtain⟨e,es,h1,h2,h3,h4⟩:=d;exact⟨e,es,h1,h2,(hk e.g (vY.own h1)).trans h3,h4⟩
 |jV f=>
  simp only[vT]at d⊢;obtain⟨e,h1,h2,h3,h4,h5⟩:=d;exact⟨e,h1,h2,(hk e.g (vY.own h1)).trans h3,fun n hn=>(hk n ⟨e,h1, .inr hn⟩).trans (h4 n hn),h5⟩
 |lp st li fr=>
  simp only[vT]at d⊢;obtain⟨e,r,h1,h2,h3,h4⟩:=d;exact⟨e,r,h1,h2,(hk e.g (vY.own h1)).trans h3,h4⟩
 |kV T t l=>
  simp only[vT]at d⊢;obtain⟨e,h1,h2,h3⟩:=d
  have hk':∀k,k=e.g\/uA w e.g (.kV T t []) k->w'.heap[k]?=w.heap[k]?:=by
   rintro k (rfl|h);exact hk _ (vY.own h1);exact hk k ⟨e,h1, .inr h⟩
  exact⟨e,h1,h2,h3.imp (fun h=>WI h hk') (fun h=>WI h hk')⟩
 |deep mp es rs=>
  cases mp
  .simp only[vT]at d⊢;obtain⟨d1,d2⟩:=d;refine⟨?_,d2.keep hk⟩;rcases d1 with h|⟨e,arr,T,fz,h1,h2,h3⟩
   exact .inl h;exact .inr ⟨e,arr,T,fz,h1,(hk e.g (vY.own h1)).trans h2,h3⟩
  .simp only[vT]at d⊢;obtain⟨⟨d1,d0⟩,d2⟩:=d;refine⟨⟨?_,d0⟩,d2.keep hk⟩;obtain⟨e,es,h1,h2,h3,h4⟩:=d1;exact⟨e,es,h1,h2,(hk e.g (vY.own h1)).trans h3,h4⟩
theorem vT.Qz{J:Env}{w:World}{b:wq}{hp:Hp}{own:Bool}(d:vT J w own b hp):vT J w false b hp:=by
 cases hp with
 |box row=>
  simp only[vT]at d⊢;obtain⟨e,arr,T,fz,h1,h2,h3,h4⟩:=d;exact⟨e,arr,T,fz,h1,h2,(fun h=>by cases h),h4⟩
 |rows es rs=>
  simp only[vT]at d⊢;rcases d with h|⟨e,arr,T,fz,h1,h2,h3,h4⟩
  exact .inl h;exact .inr ⟨e,arr,T,fz,h1,h2,(fun h=>by cases h),h4⟩
 |wu s p=>exact d
 |dY vs=>exact d
 |mp rs=>exact d
 |jV f=>exact d
 |lp st li fr=>exact d
 |kV T t l=>exact d
 |deep mp es rs=>
  cases mp
  .simp only[vT]at d⊢;obtain⟨d1,d2⟩:=d;refine⟨?_,d2⟩;rcases d1 with h|⟨e,arr,T,fz,h1,h2,h3,h4⟩
   exact .inl h;exact .inr ⟨e,arr,T,fz,h1,h2,(fun h=>by cases h),h4⟩
  .simp only[vT]at d⊢;exact d
theorem vT.lt{J:Env}{w:World}{b:wq}{hp:Hp}{own:Bool}(d:vT J w own b hp):∃x,J.get b=some x/\∀e,x=some e->e.g<w.heap.size:=by
 have key:∀{e:wZ} {o:Obj},w.heap[e.g]?=some o->e.g<w.heap.size:=fun h=>(zA.1 h).1;cases hp with
 |box row=>
  simp only[vT]at d;obtain⟨e,arr,T,fz,h1,h2,h3⟩:=d;exact⟨_,h1,fun e' he=>by cases he;exact key h2⟩
 |rows es rs=>
  simp only[vT]at d;rcases d with h|⟨e,arr,T,fz,h1,h2,h3⟩
  exact⟨_,h.1,fun e' he=>by cases he⟩;exact⟨_,h1,fun e' he=>by cases he;exact key h2⟩
 |dY vs=>
  simp only[vT]at d;obtain⟨e,h1,h2,T,fz,h3⟩:=d;exact⟨_,h1,fun e' he=>by cases he;exact key h3⟩
 |wu s p=>
  simp only[vT]at d;obtain⟨e,h1,h2,h3⟩:=d;exact⟨_,h1,fun e' he=>by cases he;exact key h3⟩
 |mp rs=>
  simp only[vT]at d;obtain⟨e,es,h1,h2,h3,h4⟩:=d;exact⟨_,h1,fun e' he=>by cases he;exact key h3⟩
 |jV f=>
  simp only[vT]at d;obtain⟨e,h1,h2,h3,_⟩:=d;exact⟨_,h1,fun e' he=>by cases he;exact key h3⟩
 |lp st li fr=>
  simp only[vT]at d;obtain⟨e,r,h1,h2,h3,h4⟩:=d;exact⟨_,h1,fun e' he=>by cases he;exact key h3⟩
 |kV T t l=>
  simp only[vT]at d;obtain⟨e,h1,h2,h3⟩:=d;refine⟨_,h1,fun e' he=>?_⟩;cases he
  rcases h3 with h3|h3<;>exact h3.lt
 |deep mp es rs=>
  cases mp
  .simp only[vT]at d;exact d.1.aQ
  .simp only[vT]at d;exact d.1.1.aQ
theorem uA.lt{w:World}{g:Nat}{hp:Hp}{k:Nat}{J:Env}{own:Bool}{b:wq}{e:wZ}(he:J.get b=some (some e))(hg:e.g=g)(d:vT J w own b hp)(f:uA w g hp k):k<w.heap.size:=by
 cases hp with
 |kV T t l=>
  simp only[uA]at f;simp only[vT]at d;obtain⟨arr,T',fz,v,h1,h2,h3⟩:=f;obtain⟨e',h4,h5,h6⟩:=d;rw[he]at h4;injection h4 with h4;injection h4 with h4;subst h4 hg
  have key:∀p,Lib.BuilderAtF T t 0 e.g p (Lib.byteCells l) w->k<w.heap.size:=by
   rintro p ⟨_,v',h7,⟨_,h8⟩,_⟩;rw[h7]at h1;injection h1 with h1;injection h1 with h1;subst h1;simp at h2;subst h2;rcases h8 with⟨rfl,_⟩|⟨g,cap,cur,fz,rfl,_,h9,_⟩
   simp[Value.ownBlock]at h3
   .simp only[Value.ownBlock,zi]at h3;subst h3;exact(zA.1 h9).1
  exact h6.elim (key _) (key _)
 |deep mp es rs=>
  simp only[uA]at f;obtain⟨o,i,j,⟨es',rows⟩,v,h1,h2,h3,h4⟩:=f
  have d2:uO J w b es rs:=by
   cases mp<;>simp only[vT]at d<;>exact d.2
  subst hg;obtain⟨v',g1,g2,_⟩:=((d2 e he).2 o h1).sat i j es' rows h2;rw[h3]at g1;injection g1 with g1;subst g1
  rcases g2 with⟨rfl,_⟩|⟨g,cap,arr,T,fz,rfl,h5,_⟩
  cases h4
  .simp only[Value.ownBlock,zi]at h4;subst h4;exact(zA.1 h5).1
 |jV l=>
  simp only[vT]at d;obtain⟨e',_,_,_,h4,_⟩:=d;exact(zA.1 (h4 k f)).1
 |_=>exact f.elim
theorem vT.uy{J:Env}{w:World}{own:Bool}{b:wq}{hp:Hp}(d:vT J w own b hp){k:Nat}(f:vY J w b hp k):k<w.heap.size:=by
 obtain⟨e,h1,h2⟩:=f;rcases h2 with rfl|h2
 .obtain⟨x,hx,hl⟩:=d.lt;rw[hx]at h1;injection h1 with h1
  exact hl e h1
 exact uA.lt h1 rfl d h2
theorem qW.refl(w:World)(F:Nat->Prop):qW w w F:=⟨rfl,rfl,rfl,zo _,zo _,fun _ _ _=>rfl⟩
theorem qW.trans{a b c:World}{F:Nat->Prop}{G:Nat->Prop}(h:qW a b F)(k:qW b c G)(hg:∀n,G n->F n\/a.heap.size<=n):qW a c F:=
 ⟨k.os.trans h.os,k.tape.trans h.tape,k.output.trans h.output,zO h.drawn k.drawn,zO h.size k.size,fun i hi hF=>
  (k.block i (yH hi h.size) (fun g=>(hg i g).elim hF (fun h=>by omega))).trans (h.block i hi hF)⟩
theorem vR.shared{M:Mx}{J:Env}{w:World}{O:vX}{nx:Nat}(H:vR M J w O nx){b:wq}{h:Hp}(hb:ez M.C b=some h):vT J w false b h:=by
 obtain⟨h1,h2⟩:=H.wm b h hb;refine(h1.keep (w':=w) fun k hk=>?_).mono H.pre;obtain⟨h3,h4⟩:=h2 k hk;exact H.fr.block k h3 h4
theorem vR.QA{M:Mx}{J:Env}{w:World}{O:vX}{nx:Nat}(H:vR M J w O nx){i:Nat}{h:Hp}(hi:u5 i O=some h){e:wZ}(he:J[i]?=some (some e)):M.F e.g\/M.w0.heap.size<=e.g:=(H.own.1 i h hi).2 e.g (vY.own he)
theorem vR.look{M:Mx}{J:Env}{w:World}{O:vX}{nx:Nat}(H:vR M J w O nx){b:wq}{h:Hp}(hb:Yn M.C O b=some h):vT J w false b h:=by
 cases b with
 |uH g=>exact H.shared (b:= .uH g) hb
 |loc i=>
  simp only[Yn]at hb;cases ho:u5 i O with
  |some h'=>rw[ho]at hb;cases hb;exact(H.own.1 i _ ho).1.Qz
  |none=>rw[ho]at hb;exact H.shared (b:= .loc i) hb
theorem SN(J:Env)(v:Value):Den J (YG v) v:=by
 cases v with
 |string s=>simp only[YG,Den]
 |agg cs=>simp only[YG,Den]
 |tuple vs=>
  simp only[YG];split
  .rename_i h;simp only[Den,vV];exact⟨[],by rw[<-h],rfl⟩
  simp only[Den]
 |_=>simp[YG,Den,Value.oneCell']
theorem Yw{J:Env}{a:Act}{fr:Fr}(h:kN J a fr){x:Operand}{sv:SV}(hx:V3 fr x=some sv):Den J sv (a.eval x):=by
 cases x with
 |tmp t=>exact h t sv hx
 |const v=>simp only[V3,zi]at hx;subst hx;exact SN J v
 |global g=>simp only[V3,zi]at hx;subst hx;simp[Den,Env.get,Act.eval]
 |func f=>simp only[V3,zi]at hx;subst hx;simp[Den,vV,Act.eval]
end Go.Sx
set_option linter.unusedSimpArgs false
namespace Go.Sx
open Go
def qx(T:wU)(t:TypeId):Sh->TypeDesc->Prop
 | .int k,d=>d= .int k
 | .bool,d=>d= .bool
 | .str,d=>d= .string
 | .ptr e,d=>d= .pointer e
 | .slice e,d=>d= .slice e
 | .array n e,d=>d= .array n e/\T.size t=n*T.size e/\T.sh e≠ .other
 | .struct fs,d=> ∃fields:Array Field,d= .struct fields/\fields.toList.map (fun f=>(f.offset,f.type))=fs/\∀p∈fs,T.sh p.2≠ .other
 | .map k e,d=>d= .map k e
 | .iface,d=> ∃ms,d= .interface ms
 | .func,d=> ∃a b c,d= .func a b c
 | .plain,d=>match d with| .float _| .complex _| .chan .. | .unsafePointer| .tuple _=>True|_=>False
 | .other,_=>True
structure uC(P:Program)(T:wU):Prop where
 qC:∀t,T.sh t≠ .other->∃d,P.underlying t=some d/\qx T t (T.sh t) d
 info:∀t,T.sh t≠ .other->∃i,P.info? t=some i/\i.size=T.size t/\i.bytes=T.bytes t
 zero:∀t,T.sh t≠ .other->T.zero t≠ []->∃i z,P.info? t=some i/\i.zero=some z/\vV [] (T.zero t) z.cells.toList/\(∀u∈z.cells.toList,u.oneCell'=true)/\
  (T.zero t).length=T.size t/\(YF T t (T.zero t)).isSome/\((∃fs,T.sh t= .struct fs)\/(∃n e,T.sh t= .array n e)->z= .agg z.cells)/\(¬((∃fs,T.sh t= .struct fs)\/(∃n e,T.sh t= .array n e))->z.oneCell'=true)
 lM:∀t,T.zero t≠ []->T.sh t≠ .other
 flat:∀t ks,T.flat t=some ks->P.eqGuardType P.depth t=false/\∀(w:World) (K:Env) (xs ys:List SV) (us vs:List Value) (r:Bool),Zi ks xs ys=some r->vV K xs us->vV K ys vs->
  (Op.equalIn 10000 t (.agg ⟨us⟩) (.agg ⟨vs⟩)).run P w= .ok r w
 key:∀t ks,T.key t=some ks->
  (∀(w:World) (K:Env) (em:Bool) (a:SV) (u:Value),JF ks a=true->Den K a u->(Instr.checkKey em 10000 t u).run P w= .ok () w)/\
  (∀(w:World) (K:Env) (a b:SV) (u v:Value) (r:Bool),V4 ks a b=some r->Den K a u->Den K b v->(Op.equal t u v).run P w= .ok r w/\∀d,P.underlying t=some d->Instr.sameNow d u v=none\/Instr.sameNow d u v=some r)/\(∃d,P.underlying t=some d)
def lN(P:Program)(o:Oper)(ρ:Operand->Value)(w:World)(u:Value)(w':World):Prop:=
 (execOp ρ o).run P w= .ok (.value u) w'\/((execOp ρ o).run P w= .ok .skip w'/\u=undef)
def Oq:Op->Bool
 | .store .. | .next .. | .mapUpdate .. | .insert .. | .mapEntry .. | .entryStore .. =>true
 | .call {callee:= .builtin .copy, .. }=>true
 | .call {callee:= .builtin .clear, .. }=>true
 |_=>false
def Y7(M:Mx)(K:Env)(w:World)(o:Oper)(ρ:Operand->Value)(v:SV)(O':vX)(vW:Nat):Prop:=
 ∃u w' η',lN M.P o ρ w u w'/\K<+:η'/\vR M η' w' O' vW/\Den η' v u/\(Oq o.op=false->η'=K->w'=w)
structure At(M:Mx)(K:Env)(w:World)(O:vX)(nx:Nat)(ρ:Operand->Value)(lk:Operand->Option SV):Prop where
 H:vR M K w O nx
 T:uC M.P M.C.T
 L:∀x sv,lk x=some sv->Den K sv (ρ x)
section
variable {M:Mx}{K:Env}{w:World}{O:vX}{nx:Nat}{ρ:Operand->Value}{lk:Operand->Option SV}{o:Oper}{v:SV}{O':vX}{vW:Nat}
theorem At.same(A:At M K w O nx ρ lk){u:Value}(h:lN M.P o ρ w u w)(hv:Den K v u)(e1:O'=O)(e2:vW=nx):Y7 M K w o ρ v O' vW:=by
 subst e1 e2;exact⟨u,w,K,h,zu,A.H,hv,fun _ _=>rfl⟩
theorem At.val(A:At M K w O nx ρ lk){v0:SV}(hr:(ux.val v0).ok O nx v O' vW)(h:∃u,lN M.P o ρ w u w/\Den K v0 u):Y7 M K w o ρ v O' vW:=by
 obtain⟨rfl,e1,e2⟩:=hr;obtain⟨u,h1,h2⟩:=h;exact A.same h1 h2 e1 e2
end
theorem V5{K:Env}{k:IntKind}{n:Int}{v:Value}(h:Den K (.int k n) v):v= .int k n:=h
theorem X3{K:Env}{b:Bool}{v:Value}(h:Den K (.bool b) v):v= .bool b:=h
theorem lP{K:Env}{s:List UInt8}{v:Value}(h:Den K (.str s) v):v= .string ⟨s.toArray⟩:=h
theorem JH{P:Program}{r:Nat}{es:Array MapEntry}{c:Nat}{w:World}(h:w.heap[r]?=some (.map es c)):(getObj r).run P w= .ok (.map es c) w:=by simp[getObj,Sem.run,h]
theorem Z6{P:Program}{t:TypeId}{d:TypeDesc}(h:P.underlying t=some d)(w:World):(underlying t).run P w= .ok d w:=run_underlying h w
theorem We{P:Program}{t:TypeId}{i:TypeInfo}(h:P.info? t=some i)(w:World):(typeInfo t).run P w= .ok i w:=by simp[typeInfo,h]
theorem Zt{P:Program}{t:TypeId}{i:TypeInfo}(h:P.info? t=some i)(w:World):(sizeOf t).run P w= .ok i.size w:=by simp[sizeOf,We h]
theorem XT{P:Program}{t:TypeId}{i:TypeInfo}{z:Value}(h:P.info? t=some i)(hz:i.zero=some z)(w:World):(zeroValue t).run P w= .ok z w:=by simp[zeroValue,We h,hz]
theorem wN{a b:IntKind}:XQ a b=true<->a=b:=by cases a<;>cases b<;>simp[XQ]
theorem Ek(s:List UInt8):(ByteArray.mk s.toArray).toList=s:=by rw[ByteArray.toList_eq]
theorem SO{P:Program}{w:World}{op:BinOp}{k:IntKind}{a b:Int}{nx:Nat}{O:vX}{v':SV}{O':vX}{vW:Nat}(ρ:Operand->Value)(dst:Option Tmp)(ty:TypeId)(pos:String)(af:Array Edge)(gd:Option (Nat×Bool))
 (t u:TypeId) (x y:Operand) (k':IntKind) (K:Env) (hx:ρ x= .int k a) (hy:ρ y= .int k' b) (hr:(E3 op k k' a b).ok O nx v' O' vW):
 O'=O/\vW=nx/\∃z,(execOp ρ ⟨dst, .binOp op t x y u,ty,pos,af,gd⟩).run P w= .ok (.value z) w/\Den K v' z:=by
 have hg:(eqGuard op t x y (.int k a) (.int k' b))=pure ():=by cases op<;>rfl
 unfold E3 at hr;cases op
 case shl=>
  obtain⟨h0,rfl,rfl,rfl⟩:=hr;refine⟨rfl,rfl,_,?_,rfl⟩;simp[execOp,hx,hy,hg,binOp,Op.shift,Int.not_lt.2 h0,oN]
 case shr=>
  obtain⟨h0,rfl,rfl,rfl⟩:=hr;refine⟨rfl,rfl,_,?_,rfl⟩;simp[execOp,hx,hy,hg,binOp,Op.shift,Int.not_lt.2 h0,Ql]
 all_goals
  simp only at hr;cases hk:XQ k k'
  rw[hk]at hr;exact hr.elim
  .rw[hk]at hr;have hk:=wN.1 hk;subst hk
   first
    |(obtain⟨h0,rfl,rfl,rfl⟩:=hr
      refine⟨rfl,rfl,_,?_,rfl⟩
      simp[execOp,hx,hy,hg,binOp,Op.intDiv,h0])
    |(obtain⟨rfl,rfl,rfl⟩:=hr
      refine⟨rfl,rfl,_,?_,rfl⟩
      simp[execOp,hx,hy,hg,binOp,Op.intArith,Op.intBits,Op.intCmp,jY,Qk,oM,Ac])
    |exact hr.elim
theorem SP{P:Program}{w:World}{op:BinOp}{a b:List UInt8}{nx:Nat}{O:vX}{v':SV}{O':vX}{vW:Nat}(ρ:Operand->Value)(dst:Option Tmp)(ty:TypeId)(pos:String)(af:Array Edge)(gd:Option (Nat×Bool))
 (t u:TypeId) (x y:Operand) (K:Env) (hx:ρ x= .string ⟨a.toArray⟩) (hy:ρ y= .string ⟨b.toArray⟩) (hr:(E4 op a b).ok O nx v' O' vW):
 O'=O/\vW=nx/\∃z,(execOp ρ ⟨dst, .binOp op t x y u,ty,pos,af,gd⟩).run P w= .ok (.value z) w/\Den K v' z:=by
 have hg:(eqGuard op t x y (.string ⟨a.toArray⟩) (.string ⟨b.toArray⟩))=pure ():=by cases op<;>rfl
 unfold E4 at hr;cases op
 case add=>
  obtain⟨h0,rfl,rfl,rfl⟩:=hr;refine⟨rfl,rfl,_,?_,rfl⟩;have e1:ByteArray.size ⟨a.toArray⟩=a.length:=by simp[ByteArray.size]
  have e2:ByteArray.size ⟨b.toArray⟩=b.length:=by simp[ByteArray.size]
  have e3:(ByteArray.mk a.toArray++ByteArray.mk b.toArray)=ByteArray.mk (a++b).toArray:=by
   apply ByteArray.ext;simp
  have h1:¬(((a.length+b.length:Nat):Int)>9223372036854775807):=by omega
  simp[execOp,hx,hy,hg,binOp,Op.stringOp,e1,e2,e3];omega
 all_goals
  first
   |(obtain⟨rfl,rfl,rfl⟩:=hr
     refine⟨rfl,rfl,_,?_,rfl⟩
     simp[execOp,hx,hy,hg,binOp,Op.stringOp,Ek,iz,bne])
   |exact hr.elim
end Go.Sx
namespace Go.Sx
open Go
section
variable {K:Env}
theorem ZU:∀{cs:List SV} {vs:List Value},vV K cs vs->vs.length=cs.length
 | [],vs,h=>by simp only[vV]at h;subst h;rfl
 |c::cs,vs,h=>by
  simp only[vV]at h;obtain⟨u,us,rfl,_,h⟩:=h;simp[ZU h]
theorem Xu:∀{cs:List SV} {vs:List Value} {i:Nat} {c:SV},vV K cs vs->cs[i]?=some c->∃u,vs[i]?=some u/\Den K c u
 | [],vs,i,c,h,hc=>by simp at hc
 |d::cs,vs,i,c,h,hc=>by
  simp only[vV]at h;obtain⟨u,us,rfl,h1,h2⟩:=h;cases i with
  |zero=>simp at hc;subst hc;exact⟨u,rfl,h1⟩
  |succ i=>simp at hc;simpa using Xu h2 hc
theorem VL{J:Type}:∀{cs:List J} {i:Nat},nth cs i=cs[i]?
 | [],i=>by simp[nth]
 |c::cs,0=>by simp[nth]
 |c::cs,i+1=>by simp[nth,VL (cs:=cs) (i:=i)]
theorem El:∀{n:Nat} {cs:List SV} {vs:List Value},vV K cs vs->vV K (cs.drop n) (vs.drop n)
 |0,cs,vs,h=>h
 |n+1,[],vs,h=>by simp only[vV]at h;subst h;simp[vV]
 |n+1,c::cs,vs,h=>by
  simp only[vV]at h;obtain⟨u,us,rfl,_,h2⟩:=h;simpa using El (n:=n) h2
theorem VV:∀{n:Nat} {cs r:List SV},aN n cs=some r->r=cs.take n/\n<=cs.length
 |0,cs,r,h=>by simp only[aN,zi]at h;subst h;simp
 |n+1,[],r,h=>by simp[aN]at h
 |n+1,c::cs,r,h=>by
  simp only[aN]at h;cases e:aN n cs with
  |none=>rw[e]at h;cases h
  |some q=>
   rw[e]at h;simp only[zi]at h;subst h;obtain⟨h1,h2⟩:=VV e;subst h1;simp;omega
theorem Em:∀{n:Nat} {cs:List SV} {vs:List Value},vV K cs vs->vV K (cs.take n) (vs.take n)
 |0,cs,vs,h=>by simp[vV]
 |n+1,[],vs,h=>by simp only[vV]at h;subst h;simp[vV]
 |n+1,c::cs,vs,h=>by
  simp only[vV]at h;obtain⟨u,us,rfl,h1,h2⟩:=h;simp only[List.take_succ_cons,vV];exact⟨u,_,rfl,h1,Em (n:=n) h2⟩
theorem YX:∀{cs ds:List SV} {us vs:List Value},vV K cs us->vV K ds vs->vV K (cs++ds) (us++vs)
 | [],ds,us,vs,h,k=>by simp only[vV]at h;subst h;exact k
 |c::cs,ds,us,vs,h,k=>by
  simp only[vV]at h;obtain⟨u,us,rfl,h1,h2⟩:=h;simp only[List.cons_append,vV];exact⟨u,_,rfl,h1,YX h2 k⟩
theorem En:∀{cs:List SV} {vs:List Value},vs.length=cs.length->(∀(i:Nat) (c:SV),cs[i]?=some c->∃u,vs[i]?=some u/\Den K c u)->vV K cs vs
 | [],vs,hl,_=>by simp only[vV];exact zM.1 hl
 |c::cs,[],hl,_=>by simp at hl
 |c::cs,v::vs,hl,h=>by
  obtain⟨u,h1,h2⟩:=h 0 c rfl;simp at h1;subst h1;simp only[vV]
  exact⟨v,vs,rfl,h2,En (by simpa using hl) fun i d hd=>by
   obtain⟨u,h3,h4⟩:=h (i+1) d (by simpa using hd)
   exact⟨u,by simpa using h3,h4⟩⟩
theorem qD{J:Type}:∀{xs:List J} {n:Nat},WC xs n=true<->xs.length=n
 | [],0=>by simp[WC]
 | [],n+1=>by simp[WC]
 |x::xs,0=>by simp[WC]
 |x::xs,n+1=>by simp[WC,qD (xs:=xs) (n:=n)]
theorem J7{K:Env}{es:Nat}:∀{rs:List (List SV)} {vs:List Value},uh K es rs vs->vV K rs.flatten vs
 | [],vs,h=>by simp only[uh]at h;subst h;simp[vV]
 |r::rs,vs,h=>by
  simp only[uh]at h;obtain⟨us,ws,rfl,_,h1,h2⟩:=h;simp only[List.flatten_cons];exact YX h1 (J7 h2)
theorem Den.je{K:Env}{v:SV}{u:Value}(h:Den K v u):Den K (je v) u:=by
 cases v with
 |arr es rs=>
  simp only[Den]at h;obtain⟨vs,rfl,h1,h2⟩:=h;simp only[Sx.je,Den];exact⟨vs,rfl,J7 h1,h2⟩
 |_=>exact h
theorem Ot{K:Env}{ρ:Operand->Value}{lk:Operand->Option SV}(L:∀x sv,lk x=some sv->Den K sv (ρ x)){x:Operand}{k:SV}(h:GG lk x=some k):Den K k (ρ x):=by
 unfold GG at h;split at h
 .rename_i k' hk;injection h with h;subst h;exact(L _ _ hk).je
 cases h
theorem UM{sv:SV}{cs:List SV}{v:Value}(h:Den K sv v)(hc:cellsOf sv=some cs):vV K cs v.cells.toList/\∀u∈v.cells.toList,u.oneCell'=true:=by
 cases sv with
 |agg ds=>
  simp only[cellsOf,zi]at hc;subst hc;simp only[Den]at h;obtain⟨vs,rfl,h1,h2⟩:=h;exact⟨h1,h2⟩
 |arr _ _=>
  simp only[cellsOf,zi]at hc;subst hc;simp only[Den]at h;obtain⟨vs,rfl,h1,h2⟩:=h;exact⟨J7 h1,h2⟩
 |uz _=>simp[cellsOf]at hc
 |any=>simp[cellsOf]at hc
 |nb n=>simp[cellsOf]at hc
 |jJ l=>simp[cellsOf]at hc
 |yf b=>
  simp only[cellsOf,zi]at hc;subst hc;have h':=h;simp only[Den]at h;obtain⟨e,h1,rfl⟩:=h;simp only[Value.cells,vV];exact⟨⟨_,[],rfl,h',rfl⟩,by simp[Value.oneCell']⟩
 |bool b=>simp only[cellsOf,zi]at hc;subst hc;simp only[Den]at h;subst h;simp[vV,Den,Value.cells,Value.oneCell']
 |int k n=>simp only[cellsOf,zi]at hc;subst hc;simp only[Den]at h;subst h;simp[vV,Den,Value.cells,Value.oneCell']
 |str s=>simp only[cellsOf,zi]at hc;subst hc;simp only[Den]at h;subst h;simp[vV,Den,Value.cells,Value.oneCell']
 |val u=>
  simp only[cellsOf,zi]at hc;subst hc;have h':=h;simp only[Den]at h;obtain⟨rfl,h1⟩:=h;have hv:v.cells= #[v]:=by cases v<;>simp_all[Value.cells,Value.oneCell']
  rw[hv];simp only[vV];exact⟨⟨v,[],rfl,h',rfl⟩,by simpa using h1⟩
 |ptr b r es c=>
  simp only[cellsOf,zi]at hc;subst hc;have h':=h;simp only[Den]at h;obtain⟨e,h1,rfl⟩:=h;simp only[Value.cells,vV];exact⟨⟨_,[],rfl,h',rfl⟩,by simp[Value.oneCell']⟩
 |sl b r es len lim=>
  simp only[cellsOf,zi]at hc;subst hc;have h':=h;simp only[Den]at h;rcases h with⟨_,rfl,_⟩|⟨e,o,_,rfl,_⟩<;>simp only[Value.cells,vV]<;>exact⟨⟨_,[],rfl,h',rfl⟩,by simp[Value.oneCell']⟩
 |fH t x=>
  simp only[cellsOf,zi]at hc;subst hc;have h':=h;simp only[Den]at h;obtain⟨u,rfl,_⟩:=h;simp only[Value.cells,vV];exact⟨⟨_,[],rfl,h',rfl⟩,by simp[Value.oneCell']⟩
 |mp b=>
  simp only[cellsOf,zi]at hc;subst hc;have h':=h;simp only[Den]at h;obtain⟨e,_,rfl⟩:=h;simp only[Value.cells,vV];exact⟨⟨_,[],rfl,h',rfl⟩,by simp[Value.oneCell']⟩
 |fn f a b=>
  simp only[cellsOf,zi]at hc;subst hc;have h':=h;simp only[Den]at h;obtain⟨us,vs,rfl,_⟩:=h;simp only[Value.cells,vV];exact⟨⟨_,[],rfl,h',rfl⟩,by simp[Value.oneCell']⟩
end
def UB:Sh->Bool
 | .struct _| .array _ _=>true
 |_=>false
theorem Eo{P:Program}{T:wU}(hT:uC P T){t:TypeId}(h:T.sh t≠ .other)(w:World):
 (isAgg t).run P w= .ok (UB (T.sh t)) w:=by
 obtain⟨d,h1,h2⟩:=hT.qC t h;simp only[isAgg,Sem.run_bind,Z6 h1,Result.andThen_ok];cases hs:T.sh t<;>rw[hs]at h2<;>simp only[qx]at h2
 case array=>obtain⟨rfl,_⟩:=h2;rfl
 case struct=>obtain⟨fs,rfl,_⟩:=h2;rfl
 case iface=>obtain⟨ms,rfl⟩:=h2;rfl
 case func=>obtain⟨a,b,c,rfl⟩:=h2;rfl
 case plain=>cases d<;>first|exact h2.elim|rfl
 case other=>exact(h hs).elim
 all_goals (subst h2;rfl)
def eC(K:Env)(row:List SV)(us:List Value)(off:Nat):Prop:=∀(j:Nat) (sv:SV),row[j]?=some sv->∃u,us[off+j]?=some u/\Den K sv u
theorem eC.take{K:Env}{row:List SV}{us:List Value}{off n:Nat}(h:eC K row us off)(hn:n<=row.length):vV K (row.take n) ((us.drop off).take n):=by
 refine En ?_ ?_
 .cases n with
  |zero=>simp
  |succ n=>
   obtain⟨u,hu,_⟩:=h n _ (z1 (by omega));have:=(ze.1 hu).1;simp;omega
 .intro i c hc;rw[zS]at hc;split at hc
  .obtain⟨u,hu,hd⟩:=h i c hc;refine⟨u,?_,hd⟩;rw[zS,zf ‹_›,y6];exact hu
  cases hc
theorem eC.dB{K:Env}{row:List SV}{us:List Value}(h:vV K row us)(off:Nat):eC K (row.drop off) us off:=by
 intro j sv hj;rw[y6]at hj;exact Xu h hj
theorem Ep{P:Program}{T:wU}(hT:uC P T){K:Env}{t:TypeId}{off cr:Nat}{row:List SV}{us:List Value}{v:SV}{O:vX}{nx:Nat}{O':vX}{vW:Nat}(w:World)(hd:eC K (row.drop cr) us off)(h1:∀u∈us,u.oneCell'=true)
 (hr:(bB T t cr row).ok O nx v O' vW):O'=O/\vW=nx/\∃u,(part t ⟨us⟩ off).run P w= .ok u w/\Den K v u:=by
 unfold bB at hr;cases ht:aN (T.size t) (row.drop cr)with
 |none=>rw[ht]at hr;exact hr.elim
 |some cs=>
  rw[ht]at hr;simp only at hr;obtain⟨rfl,hlen⟩:=VV ht;have eV:=hd.take hlen;cases ho:YF T t ((row.drop cr).take (T.size t))with
  |none=>rw[ho]at hr;exact hr.elim
  |some sv=>
   rw[ho]at hr;obtain⟨rfl,rfl,rfl⟩:=hr
   have hsh:T.sh t≠ .other:=by
    intro e;simp only[YF,e]at ho;cases ho
   obtain⟨i,hi,hsz,_⟩:=hT.info t hsh;refine⟨rfl,rfl,?_⟩;have ag:=Eo hT hsh w
   have agg:(UB (T.sh t))=true->v= .agg ((row.drop cr).take (T.size t))->∃u,(part t ⟨us⟩ off).run P w= .ok u w/\Den K v u:=by
    rintro hb rfl;rw[hb]at ag;refine⟨.agg ⟨(us.drop off).take (T.size t)⟩,?_,?_⟩;simp[part,ag,Zt hi,hsz,List.extract_eq_take_drop]
    .simp only[Den];exact⟨(us.drop off).take (T.size t),rfl,eV,fun u hu=>h1 u (vr (List.mem_of_mem_take hu))⟩
   have one:(UB (T.sh t))=false->(row.drop cr).take (T.size t)=[v]->∃u,(part t ⟨us⟩ off).run P w= .ok u w/\Den K v u:=by
    intro hb hs;rw[hb]at ag;rw[hs]at eV;obtain⟨u,hu,ep⟩:=Xu (i:=0) eV rfl;rw[zS]at hu;split at hu
    .simp at hu;exact⟨u,by simp[part,ag,hu],ep⟩
    cases hu
   cases hs:T.sh t<;>rw[hs]at agg one<;>simp only[YF,hs]at ho
   case struct=>simp only[zi]at ho;exact agg rfl ho.symm
   case array=>simp only[zi]at ho;exact agg rfl ho.symm
   case other=>cases ho
   all_goals
    split at ho
    .rename_i c hc;simp only[zi]at ho;subst ho;exact one rfl hc
    cases ho
theorem SQ{P:Program}{T:wU}(hT:uC P T){K:Env}{t:TypeId}{off:Nat}{row:List SV}{us:List Value}{v:SV}{O:vX}{nx:Nat}{O':vX}{vW:Nat}(w:World)(hd:vV K row us)(h1:∀u∈us,u.oneCell'=true)
 (hr:(bB T t off row).ok O nx v O' vW):O'=O/\vW=nx/\∃u,(part t ⟨us⟩ off).run P w= .ok u w/\Den K v u:=
 Ep hT w (eC.dB hd off) h1 hr
section
variable {M:Mx}{K:Env}{w:World}{O:vX}{nx:Nat}{ρ:Operand->Value}{lk:Operand->Option SV}{v:SV}{O':vX}{vW:Nat}{dst:Option Tmp}{ty:TypeId}{pos:String}{af:Array Edge}{gd:Option (Nat×Bool)}
theorem SR(A:At M K w O nx ρ lk)(x:Operand)(hr:(w5 M.C lk O nx (.move x)).ok O nx v O' vW):Y7 M K w ⟨dst, .move x,ty,pos,af,gd⟩ ρ v O' vW:=by
 simp only[w5,GI]at hr;cases hx:lk x with
 |none=>rw[hx]at hr;exact hr.elim
 |some u=>rw[hx]at hr;exact A.val hr ⟨ρ x, .inl rfl,A.L x _ hx⟩
theorem SU(A:At M K w O nx ρ lk)(x:Operand)(hr:(w5 M.C lk O nx (.assign x)).ok O nx v O' vW):Y7 M K w ⟨dst, .assign x,ty,pos,af,gd⟩ ρ v O' vW:=by
 simp only[w5,GI]at hr;cases hx:lk x with
 |none=>rw[hx]at hr;exact hr.elim
 |some u=>rw[hx]at hr;exact A.val hr ⟨ρ x, .inl rfl,A.L x _ hx⟩
theorem SX(A:At M K w O nx ρ lk)(c a b:Operand)(hr:(w5 M.C lk O nx (.pick c a b)).ok O nx v O' vW):Y7 M K w ⟨dst, .pick c a b,ty,pos,af,gd⟩ ρ v O' vW:=by
 simp only[w5,Ai]at hr;split at hr
 .rename_i x hc;split at hr
  .rename_i p q ha hb;refine A.val hr ⟨.bool (bif x then p else q), .inl ?_,rfl⟩;have h1:=X3 (A.L _ _ hc);have h2:=X3 (A.L _ _ ha);have h3:=X3 (A.L _ _ hb);cases x<;>simp[execOp,h1,h2,h3,asBool]
  .rename_i p ha hb;obtain⟨hx,hr⟩:=hr;subst hx;refine A.val hr ⟨.bool p, .inl ?_,rfl⟩;have h1:=X3 (A.L _ _ hc);have h2:=X3 (A.L _ _ ha);simp[execOp,h1,h2,asBool]
  .rename_i p ha hb;obtain⟨hx,hr⟩:=hr;subst hx;refine A.val hr ⟨.bool p, .inl ?_,rfl⟩;have h1:=X3 (A.L _ _ hc);have h2:=X3 (A.L _ _ hb);simp[execOp,h1,h2,asBool]
  exact hr.elim
 exact hr.elim
theorem SY(A:At M K w O nx ρ lk)(x:Operand)(i:Nat)(hr:(w5 M.C lk O nx (.extract x i)).ok O nx v O' vW):Y7 M K w ⟨dst, .extract x i,ty,pos,af,gd⟩ ρ v O' vW:=by
 simp only[w5,AF]at hr;split at hr
 .rename_i vs hx;split at hr
  .rename_i z hz;have h1:=A.L _ _ hx;simp only[Den]at h1;obtain⟨us,h1,h2⟩:=h1;rw[VL]at hz;obtain⟨u,h3,h4⟩:=Xu h2 hz;refine A.val hr ⟨u, .inl ?_,h4⟩;simp[execOp,h1,Instr.extract,h3]
  exact hr.elim
 exact hr.elim
theorem SZ(A:At M K w O nx ρ lk)(t:TypeId)(x:Operand)(f:Nat)(hr:(w5 M.C lk O nx (.field t x f)).ok O nx v O' vW):Y7 M K w ⟨dst, .field t x f,ty,pos,af,gd⟩ ρ v O' vW:=by
 simp only[w5,Ay]at hr;split at hr
 .rename_i cs hx;have h1:=A.L _ _ hx;simp only[Den]at h1;obtain⟨us,h1,h2,h3⟩:=h1;split at hr
  case h_2=>exact hr.elim
  rename_i off u hf;unfold GC at hf;split at hf
  .rename_i fs hs;obtain⟨d,hd,wS⟩:=A.T.qC t (by rw[hs];simp);rw[hs]at wS;simp only[qx]at wS;obtain⟨fields,rfl,iE,_⟩:=wS;rw[VL,<-iE,z6]at hf;cases hq:fields.toList[f]? with
   |none=>rw[hq]at hf;cases hf
   |some fd=>
    rw[hq]at hf;simp only[Option.map_some,zi,yF]at hf;obtain⟨rfl,rfl⟩:=hf;obtain⟨e1,e2,z,h4,h5⟩:=SQ A.T w h2 h3 hr;refine A.same (.inl ?_) h5 e1 e2;have lQ:fields[f]?=some fd:=by simpa using hq
    simp[execOp,h1,Instr.field,Z6 hd,lQ,asAgg,h4]
  cases hf
 exact hr.elim
theorem T0(A:At M K w O nx ρ lk)(x:Operand)(hr:(w5 M.C lk O nx (.nilCheck x)).ok O nx v O' vW):Y7 M K w ⟨dst, .nilCheck x,ty,pos,af,gd⟩ ρ v O' vW:=by
 simp only[w5,Ao]at hr;split at hr
 .rename_i b r es c hx;have h1:=A.L _ _ hx;refine A.val hr ⟨ρ x, .inl ?_,h1⟩;simp only[Den]at h1;obtain⟨e,_,h2⟩:=h1;simp[execOp,h2]
 exact hr.elim
theorem T1(A:At M K w O nx ρ lk)(op:UnOp)(t:TypeId)(x:Operand)(hr:(w5 M.C lk O nx (.unOp op t x)).ok O nx v O' vW):Y7 M K w ⟨dst, .unOp op t x,ty,pos,af,gd⟩ ρ v O' vW:=by
 simp only[w5,Ap]at hr;split at hr
 .split at hr
  .rename_i b hx;have h1:=X3 (A.L _ _ hx);exact A.val hr ⟨.bool (!b), .inl (by simp[execOp,h1,Op.unary]),rfl⟩
  exact hr.elim
 .split at hr
  .rename_i k n hx;have h1:=V5 (A.L _ _ hx);exact A.val hr ⟨.int k (k.wrap (0-n)), .inl (by simp[execOp,h1,Op.unary,Op.intArith]),rfl⟩
  exact hr.elim
 .split at hr
  .rename_i k n hx;have h1:=V5 (A.L _ _ hx);refine A.val hr ⟨.int k (oM k (bif k.signed then-1 else k.max) n), .inl ?_,rfl⟩;cases hk:k.signed<;>simp[execOp,h1,Op.unary,Op.intBits,oM,hk]
  exact hr.elim
 exact hr.elim
theorem T2(A:At M K w O nx ρ lk)(t:TypeId)(x:Operand)(hr:(w5 M.C lk O nx (.makeInterface t x)).ok O nx v O' vW):Y7 M K w ⟨dst, .makeInterface t x,ty,pos,af,gd⟩ ρ v O' vW:=by
 simp only[w5,Ar]at hr;split at hr
 exact hr.elim;exact hr.elim
 .rename_i sh hi ho;split at hr
  case h_2=>exact hr.elim
  rename_i u hx;refine A.val hr ⟨.iface t (ρ x), .inl ?_,?_⟩
  .obtain⟨d,h1,h2⟩:=A.T.qC t ho
   have:(Instr.makeInterface t (ρ x)).run M.P w= .ok (.iface t (ρ x)) w:=by
    simp only[Instr.makeInterface,Sem.run_bind,Z6 h1,Result.andThen_ok];cases d with
    |interface ms=>
     exfalso;cases hs:M.C.T.sh t<;>rw[hs]at h2<;>simp only[qx]at h2<;>simp_all
    |_=>rfl
   simp[execOp,this]
  simp only[Den];exact⟨_,rfl,A.L _ _ hx⟩
theorem Er{xs:List Operand}{eD:List SV}(hl:∀x sv,lk x=some sv->Den K sv (ρ x))(h:qi lk xs=some eD):vV K eD (xs.map ρ):=by
 induction xs generalizing eD with
 |nil=>simp only[qi,zi]at h;subst h;simp[vV]
 |cons x xs ih=>
  simp only[qi]at h;split at h
  .rename_i y hy;split at h
   .rename_i ys hys;simp only[zi]at h;subst h;simp only[zG,vV];exact⟨_,_,rfl,hl _ _ hy,ih hys⟩
   cases h
  cases h
theorem T3(A:At M K w O nx ρ lk)(f:Fn)(a b:Array Operand)(hr:(w5 M.C lk O nx (.makeFunc f a b)).ok O nx v O' vW):Y7 M K w ⟨dst, .makeFunc f a b,ty,pos,af,gd⟩ ρ v O' vW:=by
 simp only[w5,As]at hr;split at hr
 .rename_i xs h1;split at hr
  case h_2=>exact hr.elim
  rename_i ys h2;refine A.val hr ⟨.func f (a.map ρ) (b.map ρ), .inl rfl,?_⟩;simp only[Den];exact⟨a.toList.map ρ,b.toList.map ρ,by congr 1<;>(apply yD;simp),Er A.L h1,Er A.L h2⟩
 exact hr.elim
end
theorem T4{z:Value}(h:z.oneCell'=true):z.cells= #[z]:=by cases z<;>first|rfl|(simp[Value.oneCell']at h)
section
variable {K:Env}
theorem V6{es:Nat}:∀{n:Nat} {cs:List SV} {rs:List (List SV)},JO es n cs=some rs->rs.length=n/\cs.length=n*es/\∀(i:Nat) (row:List SV),rs[i]?=some row->row.length=es/\row=(cs.drop (i*es)).take es
 |0,[],rs,h=>by simp only[JO,zi]at h;subst h;simp
 |0,c::cs,rs,h=>by simp[JO]at h
 |n+1,cs,rs,h=>by
  simp only[JO]at h;cases h1:aN es cs with
  |none=>rw[h1]at h;cases h
  |some r=>
   rw[h1]at h;simp only at h;cases h2:JO es n (cs.drop es)with
   |none=>rw[h2]at h;cases h
   |some q=>
    rw[h2]at h;simp only[zi]at h;subst h;obtain⟨rfl,hl⟩:=VV h1;obtain⟨h3,h4,h5⟩:=V6 h2;refine⟨by simp[h3],?_,?_⟩
    .rw[zD]at h4;rw[yC];omega
    .intro i row hi;cases i with
     |zero=>simp at hi;subst hi;simp[x7 hl]
     |succ i=>
      simp at hi;obtain⟨h6,h7⟩:=h5 i row hi;refine⟨h6,?_⟩;rw[h7,yB];congr 2;rw[yC];omega
theorem Es{es:Nat}:∀{rs:List (List SV)} {vs:List Value} {i:Nat} {row:List SV},uh K es rs vs->rs[i]?=some row->eC K row vs (i*es)/\row.length=es
 | [],vs,i,row,h,hi=>by simp at hi
 |r::rs,vs,i,row,h,hi=>by
  simp only[uh]at h;obtain⟨us,ws,rfl,hl,h1,h2⟩:=h;cases i with
  |zero=>
   simp at hi;subst hi;refine⟨fun j sv hj=>?_,by rw[<-ZU h1,hl]⟩;obtain⟨u,hu,hd⟩:=Xu h1 hj;refine⟨u,?_,hd⟩;rw[yO,zx,zn (ze.1 hu).1];exact hu
  |succ i=>
   simp at hi;obtain⟨h3,h4⟩:=Es h2 hi;refine⟨fun j sv hj=>?_,h4⟩;obtain⟨u,hu,hd⟩:=h3 j sv hj;refine⟨u,?_,hd⟩;rw[zw (by rw[yC];omega),hl];rw[show(i+1)*es+j-es=i*es+j by rw[yC];omega];exact hu
theorem V7{es:Nat}:∀{rs:List (List SV)} {vs:List Value},uh K es rs vs->vs.length=rs.length*es
 | [],vs,h=>by simp only[uh]at h;subst h;simp
 |r::rs,vs,h=>by
  simp only[uh]at h;obtain⟨us,ws,rfl,hl,h1,h2⟩:=h;rw[zh,hl,V7 h2,List.length_cons,yC];omega
theorem T5{es n:Nat}{cs:List SV}{rs:List (List SV)}{vs:List Value}(h:JO es n cs=some rs)(hd:vV K cs vs){i:Nat}{row:List SV}(hi:rs[i]?=some row):eC K row vs (i*es):=by
 obtain⟨h1,h2,h3⟩:=V6 h;obtain⟨h4,h5⟩:=h3 i row hi;intro j sv hj;rw[h5,zS]at hj;split at hj
 rw[y6]at hj;exact Xu hd hj;cases hj
theorem Et{es n:Nat}{cs:List SV}{rs:List (List SV)}{vs:List Value}(h:JO es n cs=some rs)(hd:vV K cs vs):uh K es rs vs:=by
 induction n generalizing cs rs vs with
 |zero=>
  cases cs with
  |nil=>simp only[JO,zi]at h;subst h;simpa[uh,vV]using hd
  |cons c cs=>simp[JO]at h
 |succ n ih=>
  simp only[JO]at h;cases h1:aN es cs with
  |none=>rw[h1]at h;cases h
  |some r=>
   rw[h1]at h;simp only at h;cases h2:JO es n (cs.drop es)with
   |none=>rw[h2]at h;cases h
   |some q=>
    rw[h2]at h;simp only[zi]at h;subst h;obtain⟨rfl,hl⟩:=VV h1;have hv:=ZU hd;simp only[uh];exact⟨vs.take es,vs.drop es,(yW es vs).symm,by rw[zq,hv];omega,Em hd,ih h2 (El hd)⟩
theorem Eu{P:Program}{T:wU}(hT:uC P T){t:TypeId}{sv:SV}(hs:T.sh t≠ .other)(hz:T.zero t≠ [])(ho:YF T t (T.zero t)=some sv)(K:Env):∃i z,P.info? t=some i/\i.zero=some z/\Den K sv z:=by
 obtain⟨i,z,h1,h2,h3,h4,h5,h6,h7,h8⟩:=hT.zero t hs hz;refine⟨i,z,h1,h2,?_⟩;have h3:=vV.mono (η':=K) xy h3
 have agg:((∃fs,T.sh t= .struct fs)\/(∃n e,T.sh t= .array n e))->sv= .agg (T.zero t)->Den K sv z:=by
  rintro hh rfl;rw[h7 hh];simp only[Den];exact⟨z.cells.toList,by simp,h3,h4⟩
 have one:¬((∃fs,T.sh t= .struct fs)\/(∃n e,T.sh t= .array n e))->T.zero t=[sv]->Den K sv z:=by
  intro hh hq;have:=h8 hh;have hv:z.cells= #[z]:=T4 this;rw[hq,hv]at h3;simp only[vV]at h3;obtain⟨u,us,he,hd,_⟩:=h3;simp at he;rw[he.1];exact hd
 cases hh:T.sh t<;>rw[hh]at agg one<;>simp only[YF,hh]at ho
 case struct=>simp only[zi]at ho;exact agg (.inl ⟨_,rfl⟩) ho.symm
 case array=>simp only[zi]at ho;exact agg (.inr ⟨_,_,rfl⟩) ho.symm
 case other=>cases ho
 all_goals
  split at ho
  .rename_i c hc;simp only[zi]at ho;subst ho;exact one (by simp) hc
  cases ho
end
section
variable {M:Mx}{K:Env}{w:World}{O:vX}{nx:Nat}{ρ:Operand->Value}{lk:Operand->Option SV}{v:SV}{O':vX}{vW:Nat}{dst:Option Tmp}{ty:TypeId}{pos:String}{af:Array Edge}{gd:Option (Nat×Bool)}
theorem T6(A:At M K w O nx ρ lk)(t:TypeId)(x i:Operand)(hr:(w5 M.C lk O nx (.index t x i)).ok O nx v O' vW):Y7 M K w ⟨dst, .index t x i,ty,pos,af,gd⟩ ρ v O' vW:=by
 simp only[w5,AA]at hr;split at hr
 case h_2=>exact hr.elim
 rename_i k n hi;have hiv:=V5 (A.L _ _ hi);split at hr
 .rename_i hs;obtain⟨d,hd,hm⟩:=A.T.qC t (by rw[hs];simp);rw[hs]at hm;simp only[qx]at hm;subst hm;split at hr
  case h_2=>exact hr.elim
  rename_i s hx;have uv:=lP (A.L _ _ hx);obtain⟨⟨h0,h1⟩,h2⟩:=hr;refine A.val h2 ⟨.int .u8 (Z1 s n), .inl ?_,rfl⟩;have hlt:n.toNat<s.length:=by omega
  have hg:(ByteArray.mk s.toArray)[n.toNat]?=some s[n.toNat]:=by
   show(if h:_ then _ else _)=_
   rw[yp (show n.toNat< (ByteArray.mk s.toArray).size by simpa[ByteArray.size]using hlt)]
   rfl
  simp[execOp,uv,hiv,Instr.index,asIntOf,Z6 hd,h0,hg,Z1,hlt]
 .rename_i m e hs;obtain⟨d,hd,hm⟩:=A.T.qC t (by rw[hs];simp);rw[hs]at hm;simp only[qx]at hm;obtain⟨rfl,hsz,fe⟩:=hm;obtain⟨ie,hie,uR,_⟩:=A.T.info e fe;split at hr
  .rename_i cs hx;have uv:=A.L _ _ hx;simp only[Den]at uv;obtain⟨us,uv,hdl,h1⟩:=uv;split at hr
   case h_2=>exact hr.elim
   rename_i rs hch;obtain⟨⟨h0,hlt⟩,row,hrow,hr⟩:=hr;have hf:=T5 hch hdl hrow;obtain⟨e1,e2,u,hu,ep⟩:=Ep A.T w (cr:=0) (by simpa using hf) h1 hr;refine A.same (.inl ?_) ep e1 e2;simp[execOp,uv,hiv,Instr.index,asIntOf,Z6 hd,h0,hlt,Zt hie,uR,hu]
  .rename_i es rs hx;have uv:=A.L _ _ hx;simp only[Den]at uv;obtain⟨us,uv,hdl,h1⟩:=uv;split at hr
   case h_2=>exact hr.elim
   rename_i wF;have wF:=Zr wF;subst wF;obtain⟨⟨h0,hlt,hlen⟩,row,hrow,hr⟩:=hr;have hf:=(Es hdl hrow).1;obtain⟨e1,e2,u,hu,ep⟩:=Ep A.T w (cr:=0) (by simpa using hf) h1 hr;refine A.same (.inl ?_) ep e1 e2;simp[execOp,uv,hiv,Instr.index,asIntOf,Z6 hd,h0,hlt,Zt hie,uR,hu]
  exact hr.elim
 exact hr.elim
theorem T7(A:At M K w O nx ρ lk)(t:TypeId)(x i:Operand)(hr:(w5 M.C lk O nx (.indexAddr t x i)).ok O nx v O' vW):Y7 M K w ⟨dst, .indexAddr t x i,ty,pos,af,gd⟩ ρ v O' vW:=by
 simp only[w5,Az]at hr;split at hr
 case h_2=>exact hr.elim
 rename_i k n hi;have hiv:=V5 (A.L _ _ hi);split at hr
 .rename_i m e hs;obtain⟨d,hd,hm⟩:=A.T.qC t (by rw[hs];simp);rw[hs]at hm;simp only[qx]at hm;obtain⟨rfl,hsz,fe⟩:=hm;obtain⟨ie,hie,uR,_⟩:=A.T.info e fe;split at hr
  case h_2=>exact hr.elim
  rename_i b r es c hx;have uv:=A.L _ _ hx;simp only[Den]at uv;obtain⟨en,hb,uv⟩:=uv;split at hr
  .rename_i wF;have wF:=Zr wF;subst wF;obtain⟨⟨rfl,rfl,h0,hlt⟩,h2⟩:=hr;refine A.val h2 ⟨.pointer (some ⟨en.g,en.base+n.toNat*M.C.T.size e,none⟩), .inl ?_,?_⟩
   .have:(⟨en.g,en.base,none⟩:Addr).add (n.toNat*M.C.T.size e)=⟨en.g,en.base+n.toNat*M.C.T.size e,none⟩:=Addr.add_lit _ _ _;simp[execOp,uv,hiv,Instr.indexAt,asIntOf,Instr.sureAddr,Z6 hd,h0,hlt,Zt hie,uR,this]
   simp only[Den];exact⟨en,hb,by simp⟩
  .split at hr
   .obtain⟨⟨rfl,_,h0,hlt⟩,h2⟩:=hr;refine A.val h2 ⟨.pointer (some ⟨en.g,en.base+n.toNat*M.C.T.size e,none⟩), .inl ?_,?_⟩
    .have:(⟨en.g,en.base,none⟩:Addr).add (n.toNat*M.C.T.size e)=⟨en.g,en.base+n.toNat*M.C.T.size e,none⟩:=Addr.add_lit _ _ _;simp[execOp,uv,hiv,Instr.indexAt,asIntOf,Instr.sureAddr,Z6 hd,h0,hlt,Zt hie,uR,this]
    simp only[Den];exact⟨en,hb,by simp⟩
   .rename_i c';obtain⟨⟨h0,hlt⟩,h2⟩:=hr;refine A.val h2 ⟨.pointer (some ⟨en.g,en.base+(r*es+(c'+1))+n.toNat*M.C.T.size e,none⟩), .inl ?_,?_⟩
    .have:(⟨en.g,en.base+(r*es+(c'+1)),none⟩:Addr).add (n.toNat*M.C.T.size e)=⟨en.g,en.base+(r*es+(c'+1))+n.toNat*M.C.T.size e,none⟩:=Addr.add_lit _ _ _;simp[execOp,uv,hiv,Instr.indexAt,asIntOf,Instr.sureAddr,Z6 hd,h0,hlt,Zt hie,uR,this]
    simp only[Den];exact⟨en,hb,by simp only[xD]⟩
 .rename_i e hs;obtain⟨d,hd,hm⟩:=A.T.qC t (by rw[hs];simp);rw[hs]at hm;simp only[qx]at hm;subst hm;split at hr
  case h_2=>exact hr.elim
  rename_i b r es len lim hx;have uv:=A.L _ _ hx;simp only[Den]at uv;split at hr
  case h_2=>exact hr.elim
  rename_i wF hok;have wF:=Zr wF;subst wF;have fe:M.C.T.sh e≠ .other:=by intro h;simp[qE,h]at hok
  obtain⟨ie,hie,uR,_⟩:=A.T.info e fe;obtain⟨⟨h0,hlt⟩,h2⟩:=hr;rcases uv with⟨_,_,h⟩|⟨en,o,hb,uv,h3,h4,h5⟩
  subst h;omega;refine A.val h2 ⟨.pointer (some ⟨en.g,en.base+(r+n.toNat)*M.C.T.size e,none⟩), .inl ?_,?_⟩
  .have ho:=h5 (by omega)
   have:(⟨en.g,o,none⟩:Addr).add (n.toNat*M.C.T.size e)=⟨en.g,en.base+(r+n.toNat)*M.C.T.size e,none⟩:=by
    rw[Addr.add_lit,ho,xK];congr 1;omega
   simp[execOp,uv,hiv,Instr.indexAt,asIntOf,Z6 hd,h0,hlt,Zt hie,uR,this]
  simp only[Den];exact⟨en,hb,by simp⟩
 exact hr.elim
theorem T8(A:At M K w O nx ρ lk)(t:TypeId)(x:Operand)(f:Nat)(hr:(w5 M.C lk O nx (.fieldAddr t x f)).ok O nx v O' vW):Y7 M K w ⟨dst, .fieldAddr t x f,ty,pos,af,gd⟩ ρ v O' vW:=by
 simp only[w5,Aw]at hr;split at hr
 case h_2=>exact hr.elim
 rename_i b r es c hx;have uv:=A.L _ _ hx;simp only[Den]at uv;obtain⟨en,hb,uv⟩:=uv;split at hr
 case h_2=>exact hr.elim
 rename_i off u hf;unfold GC at hf;split at hf
 case h_2=>cases hf
 rename_i fs hs;obtain⟨d,hd,wS⟩:=A.T.qC t (by rw[hs];simp);rw[hs]at wS;simp only[qx]at wS;obtain⟨fields,rfl,iE,hok⟩:=wS;have hmem:(off,u)∈fs:=by rw[VL]at hf;exact zV hf
 have T9:=hok _ hmem;obtain⟨iu,hiu,Ev,_⟩:=A.T.info u T9;rw[VL,<-iE,z6]at hf;cases hq:fields.toList[f]? with
 |none=>rw[hq]at hf;cases hf
 |some fd=>
  rw[hq]at hf;simp only[Option.map_some,zi,yF]at hf;obtain⟨rfl,rfl⟩:=hf;split at hr
  exact hr.elim;rename_i hz;have hz:=Jv hz;refine A.val hr ⟨.pointer (some ⟨en.g,en.base+(r*es+(c+fd.offset)),none⟩), .inl ?_,?_⟩
  .have lQ:fields[f]?=some fd:=by simpa using hq
   have:(⟨en.g,en.base+(r*es+c),none⟩:Addr).add fd.offset=⟨en.g,en.base+(r*es+(c+fd.offset)),none⟩:=by
    rw[Addr.add_lit];congr 1;omega
   simp[execOp,uv,Instr.fieldAt,Instr.sureAddr,Z6 hd,lQ,fieldPlace,Zt hiu,Ev,hz,this]
  simp only[Den];exact⟨en,hb,rfl⟩
theorem Ta(A:At M K w O nx ρ lk)(x:Operand)(t u:TypeId)(ok:Bool)(hr:(w5 M.C lk O nx (.typeAssert x t u ok)).ok O nx v O' vW):Y7 M K w ⟨dst, .typeAssert x t u ok,ty,pos,af,gd⟩ ρ v O' vW:=by
 simp only[w5,AG]at hr;split at hr
 exact hr.elim;exact hr.elim;rename_i sh hni hno;obtain⟨d,hd,hm⟩:=A.T.qC u hno
 have hnd:∀ms,d≠ .interface ms:=by
  rintro ms rfl;cases hs:M.C.T.sh u<;>rw[hs]at hm<;>simp only[qx]at hm<;>simp_all
 have zt:∀{v},(GM M.C.T u).ok O nx v O' vW->ok=true->O'=O/\vW=nx/\∃z,(zeroValue u).run M.P w= .ok z w/\Den K v (.tuple #[z, .bool false]):=by
  intro v hr _;unfold GM at hr;cases hz:M.C.T.zero u with
  |nil=>rw[hz]at hr;exact hr.elim
  |cons c cs=>
   rw[hz]at hr;simp only at hr;cases ho:YF M.C.T u (c::cs)with
   |none=>rw[ho]at hr;exact hr.elim
   |some sv=>
    rw[ho]at hr;obtain⟨rfl,rfl,rfl⟩:=hr;obtain⟨i,z,h1,h2,h3⟩:=Eu A.T hno (by rw[hz];simp) (by rw[hz];exact ho) K;exact⟨rfl,rfl,z,XT h1 h2 w,by simp only[Den,vV];exact⟨_,rfl,z,_,rfl,h3,_,_,rfl,rfl,rfl⟩⟩
 split at hr
 .rename_i q y hx;have uv:=A.L _ _ hx;simp only[Den]at uv;obtain⟨z,uv,hz⟩:=uv
  have run:(Instr.typeAssert (.iface q z) t u ok).run M.P w=if q=u then .ok (if ok then .tuple #[z, .bool true]else z) w else(if ok then((zeroValue u).run M.P w).andThen fun a w=> .ok (.tuple #[a, .bool false]) w else(runtimePanic (.typeAssertion (some t) (some q) u ""):Sem Value).run M.P w):=by
   simp only[Instr.typeAssert,Sem.run_bind,Z6 hd,Result.andThen_ok];cases d<;>first|(exact absurd rfl (hnd _))|(cases ok<;>by_cases e:q=u<;>simp[e])
  split at hr
  .rename_i he;have he:=Zr he;subst he;split at hr
   .refine A.val hr ⟨.tuple #[z, .bool true], .inl ?_,?_⟩;simp[execOp,uv,run];simp only[Den,vV];exact⟨_,rfl,z,_,rfl,hz,_,_,rfl,rfl,rfl⟩
   .refine A.val hr ⟨z, .inl ?_,hz⟩;simp[execOp,uv,run]
  .rename_i he;have he:=Jv he;split at hr
   .obtain⟨e1,e2,a,h1,h2⟩:=zt hr rfl;refine A.same (.inl ?_) h2 e1 e2;simp[execOp,uv,run,he,h1]
   exact hr.elim
 .rename_i hx;have uv:=A.L _ _ hx;simp only[Den]at uv;obtain⟨uv,_⟩:=uv;split at hr
  .obtain⟨e1,e2,a,h1,h2⟩:=zt hr rfl;refine A.same (.inl ?_) h2 e1 e2
   have:(Instr.typeAssert .nilIface t u true).run M.P w= .ok (.tuple #[a, .bool false]) w:=by
    simp only[Instr.typeAssert,Sem.run_bind,Z6 hd,Result.andThen_ok];cases d<;>first|(exact absurd rfl (hnd _))|simp[h1]
   simp[execOp,uv,this]
  exact hr.elim
 exact hr.elim
end
theorem VW(s:List UInt8)(a b:Nat):(ByteArray.mk s.toArray).extract a b=⟨((s.drop a).take (b-a)).toArray⟩:=by
 apply ByteArray.ext;simp[List.extract_eq_take_drop]
theorem VM(s:List UInt8):(ByteArray.mk s.toArray).size=s.length:=by simp[ByteArray.size]
section
variable {M:Mx}{K:Env}{w:World}{O:vX}{nx:Nat}{ρ:Operand->Value}{lk:Operand->Option SV}{v:SV}{O':vX}{vW:Nat}{dst:Option Tmp}{ty:TypeId}{pos:String}{af:Array Edge}{gd:Option (Nat×Bool)}
theorem Tb{P:Program}{T:wU}(hT:uC P T){t:TypeId}{op:BinOp}{x y:Operand}{u:SV}{wv a b:Value}{r:Bool}(d:Nat)(h:E6 (T.sh t) y u wv=some r)(ha:Den K u a)(hb:b=wv)(w:World):
 (eqGuard op t x y a b).run P w= .ok () w/\(Op.equalIn (d+1) t a b).run P w= .ok r w/\(binOp .eql t a b=(do pure (.bool (<-Op.equal t a b))))/\(binOp .neq t a b=(do pure (.bool (!(<-Op.equal t a b))))):=by
 subst hb;unfold E6 at h;split at h
 case h_7=>cases h
 all_goals
  rename_i hs;obtain⟨dd,hd,hm⟩:=hT.qC t (by rw[hs];simp);rw[hs]at hm;simp only[qx]at hm;simp only[zi]at h;subst h;simp only[Den]at ha
 .obtain⟨ms,rfl⟩:=hm;obtain⟨z,rfl,_⟩:=ha;refine⟨by cases op<;>simp[eqGuard],?_,rfl,rfl⟩;simp[Op.equalIn,Z6 hd]
 .obtain⟨ms,rfl⟩:=hm;obtain⟨rfl,_⟩:=ha;refine⟨by cases op<;>simp[eqGuard],?_,rfl,rfl⟩;simp[Op.equalIn,Z6 hd]
 .subst hm;obtain⟨e,_,rfl⟩:=ha;refine⟨by cases op<;>simp[eqGuard],?_,rfl,rfl⟩;simp[Op.equalIn,Z6 hd]
 .subst hm;obtain⟨rfl,_⟩:=ha;refine⟨by cases op<;>simp[eqGuard],?_,rfl,rfl⟩;simp[Op.equalIn,Z6 hd]
 .obtain⟨_,_,_,rfl⟩:=hm;obtain⟨_,_,rfl,_⟩:=ha;refine⟨by cases op<;>simp[eqGuard],?_,rfl,rfl⟩;simp[Op.equalIn,Z6 hd]
 .obtain⟨_,_,_,rfl⟩:=hm;obtain⟨rfl,_⟩:=ha;refine⟨by cases op<;>simp[eqGuard],?_,rfl,rfl⟩;simp[Op.equalIn,Z6 hd]
theorem Ew(A:At M K w O nx ρ lk){op:BinOp}{t u:TypeId}{x y:Operand}{ks:List CK}(hfl:M.C.T.flat t=some ks){xs ys:List SV}{us vs:List Value}(hx:ρ x= .agg ⟨us⟩)(hy:ρ y= .agg ⟨vs⟩)(j8:vV K xs us)(hd2:vV K ys vs)
 (hr:(Qp ks op xs ys).ok O nx v O' vW):Y7 M K w ⟨dst, .binOp op t x y u,ty,pos,af,gd⟩ ρ v O' vW:=by
 obtain⟨g1,g2⟩:=A.T.flat t ks hfl;have go:∀r,Zi ks xs ys=some r->GL ks xs ys=r/\(Op.equalIn 10000 t (.agg ⟨us⟩) (.agg ⟨vs⟩)).run M.P w= .ok r w:=fun r hce=>⟨by simp[GL,hce],g2 w K xs ys us vs r hce j8 hd2⟩;unfold Qp at hr;split at hr
 .obtain⟨hn,hr⟩:=hr;obtain⟨r,hce⟩:=vG.1 hn;obtain⟨e,h⟩:=go r hce;rw[e]at hr;refine A.val hr ⟨.bool r, .inl ?_,rfl⟩;simp only[execOp,hx,hy,Sem.run_bind,run_eqGuard_agg w _ t x y ⟨us⟩ ⟨vs⟩ g1,Result.andThen_ok,run_eql_struct,h,Sem.run_pure]
 .obtain⟨hn,hr⟩:=hr;obtain⟨r,hce⟩:=vG.1 hn;obtain⟨e,h⟩:=go r hce;rw[e]at hr;refine A.val hr ⟨.bool (!r), .inl ?_,rfl⟩;simp only[execOp,hx,hy,Sem.run_bind,run_eqGuard_agg w _ t x y ⟨us⟩ ⟨vs⟩ g1,Result.andThen_ok,run_neq_struct,h,Sem.run_pure]
 exact hr.elim
theorem Tc(A:At M K w O nx ρ lk)(op:BinOp)(t u:TypeId)(x y:Operand)(hr:(w5 M.C lk O nx (.binOp op t x y u)).ok O nx v O' vW):Y7 M K w ⟨dst, .binOp op t x y u,ty,pos,af,gd⟩ ρ v O' vW:=by
 simp only[w5,Qq]at hr;split at hr
 .rename_i k a hx;split at hr
  case h_2=>exact hr.elim
  rename_i k' b hy;obtain⟨e1,e2,z,h1,h2⟩:=SO (P:=M.P) (w:=w) ρ dst ty pos af gd t u x y k' K (V5 (A.L _ _ hx)) (V5 (A.L _ _ hy)) hr;exact A.same (.inl h1) h2 e1 e2
 .rename_i a hx;split at hr
  case h_2=>exact hr.elim
  rename_i b hy;obtain⟨e1,e2,z,h1,h2⟩:=SP (P:=M.P) (w:=w) ρ dst ty pos af gd t u x y K (lP (A.L _ _ hx)) (lP (A.L _ _ hy)) hr;exact A.same (.inl h1) h2 e1 e2
 .rename_i a hx;split at hr
  case h_2=>exact hr.elim
  rename_i b hy;have uv:=X3 (A.L _ _ hx);have qf:=X3 (A.L _ _ hy);split at hr
  case h_2=>exact hr.elim
  rename_i hs;obtain⟨d,hd,hm⟩:=A.T.qC t (by rw[hs];simp);rw[hs]at hm;simp only[qx]at hm;subst hm;have e1:∀d,(Op.equalIn (d+1) t (.bool a) (.bool b)).run M.P w= .ok (a==b) w:=fun d=>by simp[Op.equalIn,Z6 hd]
  have e2:=e1 9999;split at hr
  .refine A.val hr ⟨.bool (a==b), .inl ?_,rfl⟩;simp[execOp,uv,qf,eqGuard_at_bool,binOp,Op.equal,Op.maxDepth,e2]
  .refine A.val hr ⟨.bool (a !=b), .inl ?_,rfl⟩;simp[execOp,uv,qf,eqGuard_at_bool,binOp,Op.equal,Op.maxDepth,e2,bne]
  exact hr.elim
 .rename_i xs hx;have uv:=A.L _ _ hx;simp only[Den]at uv;obtain⟨us,uv,j8,_⟩:=uv;split at hr
  case h_3=>exact hr.elim
  .rename_i ys hy;split at hr
   case h_2=>exact hr.elim
   rename_i ks hfl;split at hr
   case h_2=>exact hr.elim
   rename_i r hce;have qf:=A.L _ _ hy;simp only[Den]at qf;obtain⟨vs,qf,hd2,_⟩:=qf;obtain⟨g1,g2⟩:=A.T.flat t ks hfl;have g2:=g2 w K xs ys us vs r hce j8 hd2;split at hr
   .refine A.val hr ⟨.bool r, .inl ?_,rfl⟩;simp only[execOp,uv,qf,Sem.run_bind,run_eqGuard_agg w _ t x y ⟨us⟩ ⟨vs⟩ g1,Result.andThen_ok,run_eql_struct,g2,Sem.run_pure]
   .refine A.val hr ⟨.bool (!r), .inl ?_,rfl⟩;simp only[execOp,uv,qf,Sem.run_bind,run_eqGuard_agg w _ t x y ⟨us⟩ ⟨vs⟩ g1,Result.andThen_ok,run_neq_struct,g2,Sem.run_pure]
   exact hr.elim
  .rename_i es rs hy;split at hr
   case h_2=>exact hr.elim
   rename_i ks hfl;have qf:=A.L _ _ hy;simp only[Den]at qf;obtain⟨vs,qf,hd2,_⟩:=qf;exact Ew A hfl uv qf j8 (J7 hd2) hr
 .rename_i es rs hx;have uv:=A.L _ _ hx;simp only[Den]at uv;obtain⟨us,uv,j8,_⟩:=uv;split at hr
  case h_3=>exact hr.elim
  .rename_i ys hy;split at hr
   case h_2=>exact hr.elim
   rename_i ks hfl;have qf:=A.L _ _ hy;simp only[Den]at qf;obtain⟨vs,qf,hd2,_⟩:=qf;exact Ew A hfl uv qf (J7 j8) hd2 hr
  .rename_i es' qs hy;split at hr
   case h_2=>exact hr.elim
   rename_i ks hfl;have qf:=A.L _ _ hy;simp only[Den]at qf;obtain⟨vs,qf,hd2,_⟩:=qf;exact Ew A hfl uv qf (J7 j8) (J7 hd2) hr
 .rename_i b r es len lim hx;split at hr
  case h_2=>exact hr.elim
  rename_i hy;have qf:=A.L _ _ hy;simp only[Den]at qf;obtain⟨qf,_⟩:=qf;split at hr
  case h_2=>exact hr.elim
  rename_i e hs;obtain⟨d,hd,hm⟩:=A.T.qC t (by rw[hs];simp);rw[hs]at hm;simp only[qx]at hm;subst hm;have uv:=A.L _ _ hx;simp only[Den]at uv
  obtain⟨a,l,c,uv,hl⟩:∃a l c,ρ x= .slice a l c/\(a.isNone=true->len=0):=by
   rcases uv with⟨_,h,h0⟩|⟨_,_,_,h,_⟩
   exact⟨_,_,_,h,fun _=>h0⟩;exact⟨_,_,_,h,fun h=>by cases h⟩
  have e1:∀d,(Op.equalIn (d+1) t (.slice a l c) (.slice none 0 0)).run M.P w= .ok a.isNone w:=fun d=>by cases a<;>simp[Op.equalIn,Z6 hd]
  have e2:=e1 9999;split at hr
  .refine A.val hr ⟨.bool a.isNone, .inl ?_,?_⟩;simp[execOp,uv,qf,eqGuard,binOp,Op.equal,Op.maxDepth,e2];simp only[Den];exact⟨_,rfl,hl⟩
  .obtain⟨hn,hr⟩:=hr
   have:a.isNone=false:=by
    cases h:a.isNone
    rfl
    have:=hl h;omega
   refine A.val hr ⟨.bool true, .inl ?_,rfl⟩;simp[execOp,uv,qf,eqGuard,binOp,Op.equal,Op.maxDepth,e2,this]
  exact hr.elim
 .rename_i hx;split at hr
  case h_2=>exact hr.elim
  rename_i hy;have qf:=A.L _ _ hy;have uv:=A.L _ _ hx;simp only[Den]at qf uv;obtain⟨qf,_⟩:=qf;obtain⟨uv,_⟩:=uv;split at hr
  case h_2=>exact hr.elim
  rename_i e hs;obtain⟨d,hd,hm⟩:=A.T.qC t (by rw[hs];simp);rw[hs]at hm;simp only[qx]at hm;subst hm;have e1:∀d,(Op.equalIn (d+1) t (.slice none 0 0) (.slice none 0 0)).run M.P w= .ok true w:=fun d=>by simp[Op.equalIn,Z6 hd]
  have e2:=e1 9999;split at hr
  .refine A.val hr ⟨.bool true, .inl ?_,rfl⟩;simp[execOp,uv,qf,eqGuard,binOp,Op.equal,Op.maxDepth,e2]
  .refine A.val hr ⟨.bool false, .inl ?_,rfl⟩;simp[execOp,uv,qf,eqGuard,binOp,Op.equal,Op.maxDepth,e2]
  exact hr.elim
 .rename_i a hx;split at hr
  case h_2=>exact hr.elim
  rename_i wv hy;split at hr
  case h_2=>exact hr.elim
  rename_i r hne;have qf:=A.L _ _ hy;simp only[Den]at qf;obtain⟨qf,_⟩:=qf;have key:=fun op=>Tb (op:=op) (x:=x) A.T 9999 hne (A.L _ _ hx) qf w;split at hr
  .refine A.val hr ⟨.bool r, .inl ?_,rfl⟩;obtain⟨h1,h2,h3,_⟩:=key .eql;simp[execOp,h1,h3,Op.equal,Op.maxDepth,h2]
  .refine A.val hr ⟨.bool (!r), .inl ?_,rfl⟩;obtain⟨h1,h2,_,h3⟩:=key .neq;simp[execOp,h1,h3,Op.equal,Op.maxDepth,h2]
  exact hr.elim
 exact hr.elim
theorem Td(A:At M K w O nx ρ lk)(t:TypeId)(x:Operand)(lo hi mx:Option Operand)(hr:(w5 M.C lk O nx (.slice t x lo hi mx)).ok O nx v O' vW):Y7 M K w ⟨dst, .slice t x lo hi mx,ty,pos,af,gd⟩ ρ v O' vW:=by
 simp only[w5,Av]at hr;have hbd:∀{o:Operand} {k:IntKind} {n:Int},lk o=some (.int k n)->ρ o= .int k n:=fun h=>V5 (A.L _ _ h)
 have sb:∀(k:IntKind) (n:Int) (y:Nat) (c:BoundsCode),0<=n->n<=y->(Instr.sliceBound (.int k n) y c).run M.P w= .ok n.toNat w:=by
  intro k n y c h0 h1;simp[Instr.sliceBound,asIntOf,h0,h1]
 split at hr
 .rename_i s hx;have uv:=lP (A.L _ _ hx);split at hr
  case h_2=>exact hr.elim
  rename_i hs;obtain⟨d,hd,hm⟩:=A.T.qC t (by rw[hs];simp);rw[hs]at hm;simp only[qx]at hm;subst hm;split at hr
  case h_2=>exact hr.elim
  unfold Ad at hr;split at hr
  .rename_i hlo;cases lo with
   |some _=>simp at hlo
   |none=>
    split at hr
    .rename_i hhi;cases hi with
     |some _=>simp at hhi
     |none=>
      refine A.val hr ⟨_, .inl ?_,rfl⟩;simp[execOp,uv,Instr.sliceAt,Instr.slice,Instr.sliceBounds,Z6 hd,VW,VM]
    .rename_i k h hhi;cases hi with
     |none=>simp at hhi
     |some oh=>
      simp only[Option.map_some,zi]at hhi;obtain⟨⟨h0,h1⟩,hr⟩:=hr;refine A.val hr ⟨_, .inl ?_,rfl⟩;have e1:=sb k h s.length .sliceAlen h0 h1;simp[execOp,uv,Instr.sliceAt,Instr.slice,Instr.sliceBounds,Z6 hd,VW,VM,hbd hhi,e1]
    exact hr.elim
  .rename_i kl l hlo;cases lo with
   |none=>simp at hlo
   |some ol=>
    simp only[Option.map_some,zi]at hlo;split at hr
    .rename_i hhi;cases hi with
     |some _=>simp at hhi
     |none=>
      obtain⟨⟨h0,h1⟩,hr⟩:=hr;refine A.val hr ⟨_, .inl ?_,rfl⟩;have e1:=sb kl l s.length .sliceB h0 h1;have e2:(s.drop l.toNat).take (s.length-l.toNat)=s.drop l.toNat:=zg (by simp);simp[execOp,uv,Instr.sliceAt,Instr.slice,Instr.sliceBounds,Z6 hd,VW,VM,hbd hlo,e1,e2]
    .rename_i k h hhi;cases hi with
     |none=>simp at hhi
     |some oh=>
      simp only[Option.map_some,zi]at hhi;obtain⟨⟨h0,h1,h2⟩,hr⟩:=hr;refine A.val hr ⟨_, .inl ?_,rfl⟩;have e1:=sb k h s.length .sliceAlen (by omega) h2;have e2:=sb kl l h.toNat .sliceB h0 (by omega);simp[execOp,uv,Instr.sliceAt,Instr.slice,Instr.sliceBounds,Z6 hd,VW,VM,hbd hhi,hbd hlo,e1,e2]
    exact hr.elim
  exact hr.elim
 .rename_i b r es len lim hx;split at hr
  case h_2=>exact hr.elim
  rename_i e hs;obtain⟨d,hd,hm⟩:=A.T.qC t (by rw[hs];simp);rw[hs]at hm;simp only[qx]at hm;subst hm;split at hr
  case h_2=>exact hr.elim
  rename_i wF;have wF:=Zr wF;split at hr
  case h_2=>exact hr.elim
  rename_i hok;have fe:M.C.T.sh e≠ .other:=by intro h;simp[qE,h]at hok
  obtain⟨ie,hie,uR,_⟩:=A.T.info e fe;rw[<-uR]at wF;have uv:=A.L _ _ hx
  have cut:∀(l h m:Nat) (lim':Option Nat) (bs:List (Nat×Nat×Nat)),l<=h->h<=m->(∀en,K.get b=some (some en)->(lim'=lim/\m=lim.getD en.cap-r)\/(lim'=some (r+m)/\m<=lim.getD en.cap-r))->(K.get b=some none->m=0)->
   ∃u,(∀(len cap:Nat) (a:Option Addr),ρ x= .slice a len cap->u= .slice (if m=l then a else a.map (·.add (l*ie.size))) (h-l) (m-l))/\Den K (.sl b (r+l) es (h-l) lim') u:=by
   intro l h m lim' _ hlh hhm mu hnil;have oS:=uv;simp only[Den]at oS;rcases oS with⟨h1,h2,h3⟩|⟨en,o,h1,h2,h3,h4,h5⟩
   .have hm0:=hnil h1;refine⟨.slice none 0 0,?_,?_⟩
    .intro len' cap' a ha;rw[h2]at ha;injection ha with a1 a2 a3;subst a1;have:l=0:=by omega
     have:h=0:=by omega
     simp_all
    exact Or.inl ⟨h1,rfl,by omega⟩
   .refine⟨.slice (if m=l then some ⟨en.g,o,none⟩else some ((⟨en.g,o,none⟩:Addr).add (l*ie.size))) (h-l) (m-l),?_,?_⟩
    .intro len' cap' a ha;rw[h2]at ha;injection ha with a1 a2 a3;subst a1;simp
    .simp only[Den];right
     have hL:lim'.getD en.cap=r+m/\r+m<=lim.getD en.cap/\(m≠0->r<lim.getD en.cap):=by
      have hh:=mu en h1;clear mu h5 h2;obtain⟨L,nP⟩:∃L,lim.getD en.cap=L:=⟨_,rfl⟩;rw[nP]at h3 h4 hh⊢;rcases hh with⟨e1,hm⟩|⟨e1,hm⟩
      rw[e1,nP];omega;rw[e1];refine⟨rfl,?_,?_⟩<;>omega
     refine⟨en,if m=l then o else o+l*ie.size,h1,?_⟩;rw[hL.1];refine⟨?_,by omega,by omega,?_⟩
     .congr 1
      .split
       rfl
       rw[Addr.add_lit]
      omega
     .intro hlt;by_cases hml:m=l
      .rcases hlt with hlt|hlt
       omega
       .obtain⟨rfl,rfl⟩:r=0/\l=0:=by omega
        rw[zf hml,h5 (.inr rfl)]
      .have h0:r<lim.getD en.cap\/r=0:=by
        rcases hlt with hlt|hlt
        exact .inl (hL.2.2 (by omega));exact .inr (by omega)
       rw[z7 hml,h5 h0,wF,xK];omega
  obtain⟨a,cap,hv,hlc,hcap,oT⟩:∃a cap,ρ x= .slice a len cap/\len<=cap/\(∀en,K.get b=some (some en)->cap=lim.getD en.cap-r)/\reach O b r len lim<=cap/\(K.get b=some none->cap=0):=by
   have oS:=uv;simp only[Den]at oS;rcases oS with⟨h1,h2,h3⟩|⟨en,o,h1,h2,h3,h4,h5⟩
   .subst h3;refine⟨none,0,h2,zo _,(fun en h=>by rw[h1]at h;cases h),?_,fun _=>rfl⟩;unfold reach;cases lim with
    |some _=>exact zo _
    |none=>
     simp only;split
     .rename_i es' rs hO;cases b with
      |uH g=>simp[rV]at hO
      |loc i=>
       obtain⟨u9,_⟩:=A.H.own.1 i _ hO;simp only[vT]at u9;rcases u9 with⟨_,rfl⟩|⟨e',arr,T',fz,h6,_⟩
       simp;rw[h1]at h6;cases h6
     exact zo _
   .refine⟨some ⟨en.g,o,none⟩,lim.getD en.cap-r,h2,by omega,(fun e' h=>by rw[h1]at h;cases h;rfl),?_,(fun h=>by rw[h1]at h;cases h)⟩;unfold reach;cases lim with
    |some _=>simp only;omega
    |none=>
     simp only;split
     .rename_i es' rs hO;cases b with
      |uH g=>simp[rV]at hO
      |loc i=>
       obtain⟨u9,_⟩:=A.H.own.1 i _ hO;simp only[vT]at u9;rcases u9 with⟨h6,_⟩|⟨e',arr,T',fz,h6,_,h7,_⟩
       rw[h1]at h6;cases h6
       .rw[h1]at h6;cases h6;have h8:=(h7 trivial).2.2.1;simp at h3⊢;omega
     simp at h3⊢;omega
  obtain⟨oT,bY⟩:=oT;have wm:∀en,K.get b=some (some en)->(lim=lim/\cap=lim.getD en.cap-r)\/(lim=some (r+cap)/\cap<=lim.getD en.cap-r):=fun en h=> .inl ⟨rfl,hcap en h⟩;unfold Ae at hr;split at hr
  .rename_i rX;cases mx with
   |some _=>simp at rX
   |none=>
    split at hr
    .rename_i hlo;cases lo with
     |some _=>simp at hlo
     |none=>
      split at hr
      .rename_i hhi;cases hi with
       |some _=>simp at hhi
       |none=>
        refine A.val hr ⟨ρ x, .inl ?_,uv⟩;simp[execOp,hv,Instr.sliceAt,Instr.slice,Instr.sliceBounds,Z6 hd,Zt hie,Addr.add_zero']
      .rename_i k h hhi;cases hi with
       |none=>simp at hhi
       |some oh=>
        simp only[Option.map_some,zi]at hhi;obtain⟨⟨h0,h1⟩,hr⟩:=hr;obtain⟨u,hu,ep⟩:=cut 0 h.toNat cap lim [] (by omega) (by omega) wm bY;refine A.val hr ⟨u, .inl ?_,by simpa using ep⟩;have e1:=sb k h cap .sliceAcap h0 (by omega);have hu:=hu _ _ _ hv;simp[execOp,hv,Instr.sliceAt,Instr.slice,Instr.sliceBounds,Z6 hd,hbd hhi,e1,Zt hie,hu]
      exact hr.elim
    .rename_i kl l hlo;cases lo with
     |none=>simp at hlo
     |some ol=>
      simp only[Option.map_some,zi]at hlo;split at hr
      .rename_i hhi;cases hi with
       |some _=>simp at hhi
       |none=>
        obtain⟨⟨h0,h1⟩,hr⟩:=hr;obtain⟨u,hu,ep⟩:=cut l.toNat len cap lim [] (by omega) hlc wm bY;refine A.val hr ⟨u, .inl ?_,ep⟩;have e1:=sb kl l len .sliceB h0 h1;have hu:=hu _ _ _ hv;simp[execOp,hv,Instr.sliceAt,Instr.slice,Instr.sliceBounds,Z6 hd,hbd hlo,e1,Zt hie,hu]
      .rename_i k h hhi;cases hi with
       |none=>simp at hhi
       |some oh=>
        simp only[Option.map_some,zi]at hhi;obtain⟨⟨h0,h1,h2⟩,hr⟩:=hr;obtain⟨u,hu,ep⟩:=cut l.toNat h.toNat cap lim [] (by omega) (by omega) wm bY;refine A.val hr ⟨u, .inl ?_,ep⟩;have e1:=sb k h cap .sliceAcap (by omega) (by omega);have e2:=sb kl l h.toNat .sliceB h0 (by omega);have hu:=hu _ _ _ hv;simp[execOp,hv,Instr.sliceAt,Instr.slice,Instr.sliceBounds,Z6 hd,hbd hhi,hbd hlo,e1,e2,Zt hie,hu]
      exact hr.elim
    exact hr.elim
  .rename_i km m rX;cases mx with
   |none=>simp at rX
   |some om=>
    simp only[Option.map_some,zi]at rX;split at hr
    case h_2=>exact hr.elim
    rename_i hlo;cases lo with
    |some _=>simp at hlo
    |none=>
     split at hr
     case h_2=>exact hr.elim
     rename_i k h hhi;cases hi with
     |none=>simp at hhi
     |some oh=>
      simp only[Option.map_some,zi]at hhi;obtain⟨⟨h0,h1,h2⟩,hr⟩:=hr;obtain⟨u,hu,ep⟩:=cut 0 h.toNat m.toNat (some (r+m.toNat)) [] (by omega) (by omega) (fun en h=> .inr ⟨rfl,by have:=hcap en h;omega⟩) (fun h=>by have:=bY h;omega);refine A.val hr ⟨u, .inl ?_,by simpa using ep⟩;have e1:=sb k h m.toNat .slice3B h0 (by omega);have e2:=sb km m cap .slice3Acap (by omega) (by omega);have hu:=hu _ _ _ hv;simp[execOp,hv,Instr.sliceAt,Instr.slice,Instr.sliceBounds,Z6 hd,hbd hhi,hbd rX,e1,e2,Zt hie,hu]
  exact hr.elim
 .rename_i hx;split at hr
  case h_2=>exact hr.elim
  rename_i e hs;obtain⟨d,hd,hm⟩:=A.T.qC t (by rw[hs];simp);rw[hs]at hm;simp only[qx]at hm;subst hm;split at hr
  case h_2=>exact hr.elim
  rename_i hok;have fe:M.C.T.sh e≠ .other:=by intro h;simp[qE,h]at hok
  obtain⟨ie,hie,uR,_⟩:=A.T.info e fe;have uv:ρ x= .slice none 0 0:=(A.L _ _ hx).1;unfold Af at hr;split at hr
  case h_1=>exact hr.elim
  rename_i rX;cases mx with
  |some _=>simp at rX
  |none=>
   split at hr
   case h_1=>exact hr.elim
   rename_i hlo;cases lo with
   |some _=>simp at hlo
   |none=>
    split at hr
    .rename_i hhi;cases hi with
     |some _=>simp at hhi
     |none=>
      refine A.val hr ⟨ρ x, .inl ?_,A.L _ _ hx⟩;simp[execOp,uv,Instr.sliceAt,Instr.slice,Instr.sliceBounds,Z6 hd,Zt hie]
    .rename_i k h hhi;cases hi with
     |none=>simp at hhi
     |some oh=>
      simp only[Option.map_some,zi]at hhi;obtain⟨rfl,hr⟩:=hr;refine A.val hr ⟨ρ x, .inl ?_,A.L _ _ hx⟩;have e1:=sb k 0 0 .sliceAcap (by omega) (by omega);simp[execOp,uv,Instr.sliceAt,Instr.slice,Instr.sliceBounds,Z6 hd,hbd hhi,e1,Zt hie]
    exact hr.elim
 exact hr.elim
end
theorem Ou{w w':World}{o:Obj}(h:w'.heap=w.heap.push o){k:Nat}(hk:k<w.heap.size):w'.heap[k]?=w.heap[k]?:=by
 rw[h,xW,z7 (by omega)]
theorem Yx{w w':World}{o:Obj}(h:w'.heap=w.heap.push o):w'.heap[w.heap.size]?=some o:=by
 rw[h,xW,zf rfl]
section
variable {M:Mx}{K:Env}{w w':World}{O:vX}{nx:Nat}
theorem vR.lt(H:vR M K w O nx){i:Nat}{h:Hp}(hi:u5 i O=some h):i<nx:=by
 obtain⟨x,hx,_⟩:=(H.own.1 i h hi).1.lt;rw[<-H.len];exact(ze.1 hx).1
theorem GN.still(H:GN M K w O)(hh:w'.heap=w.heap):GN M K w' O:=
 ⟨fun i h hi=>⟨(H.1 i h hi).1.keep fun k _=>by rw[hh],fun k hk=>(H.1 i h hi).2 k (hk.keep fun e _=>by rw[hh])⟩,
  fun i j h h' k hi hj hij f f'=>H.2 i j h h' k hi hj hij (f.keep fun e _=>by rw[hh]) (f'.keep fun e _=>by rw[hh])⟩
theorem vR.still(H:vR M K w O nx)(hh:w'.heap=w.heap)(ho:w'.os=w.os)(ht:w'.tape=w.tape)(hp:w'.output=w.output)(ga:w.drawn<=w'.drawn):vR M K w' O nx:=
 {pre:=H.pre,len:=H.len,wm:=H.wm
  own:=H.own.still hh
  fr:=⟨ho.trans H.fr.os,ht.trans H.fr.tape,hp.trans H.fr.output,zO H.fr.drawn ga,by rw[hh];exact H.fr.size,fun k hk hF=>by rw[hh];exact H.fr.block k hk hF⟩}
theorem vY.of{K:Env}{w:World}{b:wq}{h:Hp}{k:Nat}{e:wZ}(he:K.get b=some (some e))(f:vY K w b h k):e.g=k\/uA w e.g h k:=by
 obtain⟨e',h1,h2⟩:=f;rw[he]at h1;injection h1 with h1;injection h1 with h1;subst h1;exact h2
theorem vY.none{K:Env}{w:World}{b:wq}{h:Hp}{k:Nat}(he:K.get b=some none)(f:vY K w b h k):False:=by
 obtain⟨e',h1,h2⟩:=f;rw[he]at h1;injection h1 with h1;cases h1
theorem vR.stands(H:vR M K w O nx){η':Env}(hp:K<+:η'){i:Nat}{h:Hp}(hi:u5 i O=some h){w':World}(hw:∀k,vY K w (.loc i) h k->w'.heap[k]?=w.heap[k]?){k:Nat}(f:vY η' w' (.loc i) h k):vY K w (.loc i) h k:=by
 obtain⟨x,hx,_⟩:=(H.own.1 i h hi).1.lt;exact(f.less hp hx).keep fun e he=>hw _ (vY.own he)
theorem vR.push(H:vR M K w O nx)(x:Option wZ){h:Hp}{w':World}(hold:∀k,k<w.heap.size->w'.heap[k]?=w.heap[k]?)(hsz:w.heap.size<=w'.heap.size)(ho:w'.os=w.os)(ht:w'.tape=w.tape)(hp:w'.output=w.output)(ga:w.drawn<=w'.drawn)
 (hs:vT (K++ [x]) w' true (.loc nx) h) (hF:∀k,vY (K++ [x]) w' (.loc nx) h k->M.F k\/M.w0.heap.size<=k)
 (hne:∀k,vY (K++ [x]) w' (.loc nx) h k->∀(j:Nat) (g:Hp),u5 j O=some g->¬vY K w (.loc j) g k):vR M (K++ [x]) w' ((nx,h)::O) (nx+1):=by
 have hpre:K<+:K++ [x]:=zz _ _;have keep:∀i h,u5 i O=some h->∀k,vY K w (.loc i) h k->w'.heap[k]?=w.heap[k]?:=fun i h hi k f=>hold k ((H.own.1 i h hi).1.uy f);have back:∀i h,u5 i O=some h->∀k,vY (K++ [x]) w' (.loc i) h k->vY K w (.loc i) h k:=fun i h hi k f=>H.stands hpre hi (keep i h hi) f;refine{pre:=H.pre.trans hpre,len:=by simp[H.len],wm:=H.wm,own:=⟨?_,?_⟩,fr:=⟨ho.trans H.fr.os,ht.trans H.fr.tape,hp.trans H.fr.output,zO H.fr.drawn ga,zO H.fr.size hsz,?_⟩}
 .intro i g hi;rw[Z8]at hi;split at hi
  .rename_i e;subst e;injection hi with hi;subst hi;exact⟨hs,hF⟩
  exact⟨((H.own.1 i g hi).1.keep (keep i g hi)).mono hpre,fun k f=>(H.own.1 i g hi).2 k (back i g hi k f)⟩
 .intro i j g g' k hi hj hij f f';rw[Z8]at hi hj;split at hi
  .rename_i hq;subst hq;rw[z7 (yY hij)]at hj;injection hi with hi;subst hi;exact hne k f j g' hj (back j g' hj k f')
  .split at hj
   .rename_i hq;subst hq;injection hj with hj;subst hj;exact hne k f' i g hi (back i g hi k f)
   exact H.own.2 i j g g' k hi hj hij (back i g hi k f) (back j g' hj k f')
 .intro k hk hF;rw[hold k (yH hk H.fr.size)];exact H.fr.block k hk hF
def rY:Hp->Bool
 | .kV _ _ _=>false
 | .deep _ _ _=>false
 | .jV (_::_)=>false
 |_=>true
theorem GV{h:Hp}(hl:rY h=true){w:World}{g k:Nat}(f:uA w g h k):False:=by
 cases h with
 |kV T t l=>cases hl
 |deep mp es rs=>cases hl
 |jV l=>
  cases l with
  |nil=>cases f
  |cons _ _=>cases hl
 |_=>exact f
theorem vR.alloc(H:vR M K w O nx){o:Obj}(hh:w'.heap=w.heap.push o)(ho:w'.os=w.os)(ht:w'.tape=w.tape)(hp:w'.output=w.output)(base cap:Nat){h:Hp}
 (hs:vT (K++ [some ⟨w.heap.size,base,cap⟩]) w' true (.loc nx) h) (ga:w.drawn<=w'.drawn:=by first|exact zo _|exact Nat.le_succ _) (hl:rY h=true:=by rfl):vR M (K++ [some ⟨w.heap.size,base,cap⟩]) w' ((nx,h)::O) (nx+1):=by
 have hnew:(K++ [some (⟨w.heap.size,base,cap⟩:wZ)]).get (.loc nx)=some (some ⟨w.heap.size,base,cap⟩):=by simp only[Env.get];rw[<-H.len];simp
 have one:∀k,vY (K++ [some ⟨w.heap.size,base,cap⟩]) w' (.loc nx) h k->k=w.heap.size:=fun k f=>by
  rcases f.of hnew with h1|h1
  exact h1.symm;exact(GV hl h1).elim
 refine H.push _ (fun k hk=>Ou hh hk) (by rw[hh,Array.size_push];exact Nat.le_succ _) ho ht hp ga hs (fun k f=> .inr ?_) fun k f j g hj f'=>?_;rw[one k f];exact H.fr.size
 .have:=(H.own.1 j g hj).1.uy f';rw[one k f]at this;omega
theorem vR.bF(H:vR M K w O nx){i:Nat}{h0 h:Hp}(hi:u5 i O=some h0){e:wZ}(he:K[i]?=some (some e))(wG:∀k,k≠e.g->w'.heap[k]?=w.heap[k]?)(hsz:w'.heap.size=w.heap.size)
 (ho:w'.os=w.os) (ht:w'.tape=w.tape) (hp:w'.output=w.output) (hs:vT K w' true (.loc i) h) (ga:w.drawn<=w'.drawn) (QB:∀k,vY K w' (.loc i) h k->vY K w (.loc i) h0 k):vR M K w' (uI i h O) nx:=by
 have hsome:(u5 i O).isSome:=by rw[hi];rfl
 have fi:vY K w (.loc i) h0 e.g:=vY.own he;have keep:∀j g,j≠i->u5 j O=some g->∀k,vY K w (.loc j) g k->w'.heap[k]?=w.heap[k]?:=fun j g hji hj k f=>wG k fun hk=>H.own.2 j i g h0 k hj hi hji f (hk▸fi);have back:∀j g,j≠i->u5 j O=some g->∀k,vY K w' (.loc j) g k->vY K w (.loc j) g k:=fun j g hji hj k f=>H.stands zu hj (keep j g hji hj) f;refine{pre:=H.pre,len:=H.len,wm:=H.wm,own:=⟨?_,?_⟩,fr:=⟨ho.trans H.fr.os,ht.trans H.fr.tape,hp.trans H.fr.output,zO H.fr.drawn ga,by rw[hsz];exact H.fr.size,?_⟩}
 .intro j g hj;rw[Y1 i h O j hsome]at hj;split at hj
  .rename_i e;subst e;injection hj with hj;subst hj
   exact⟨hs,fun k f=>(H.own.1 j h0 hi).2 k (QB k f)⟩
  .rename_i hne;exact⟨(H.own.1 j g hj).1.keep (keep j g hne hj),fun k f=>(H.own.1 j g hj).2 k (back j g hne hj k f)⟩
 .intro j k g g' m hj hk hne f f';rw[Y1 i h O j hsome]at hj;rw[Y1 i h O k hsome]at hk;split at hj
  .rename_i e1;subst e1;injection hj with hj;subst hj
   rw[z7 (yY hne)]at hk;exact H.own.2 j k h0 g' m hi hk hne (QB m f) (back k g' (yY hne) hk m f')
  .rename_i hji;split at hk
   .rename_i e1;subst e1;injection hk with hk;subst hk
    exact H.own.2 j k g h0 m hj hi hne (back j g hji hj m f) (QB m f')
   .rename_i hki;exact H.own.2 j k g g' m hj hk hne (back j g hji hj m f) (back k g' hki hk m f')
 .intro k hk hF;rw[wG k ?_];exact H.fr.block k hk hF
  .intro hke;subst hke;rcases H.QA hi he with h1|h1
   exact hF h1;omega
theorem vR.kZ(H:vR M K w O nx){i:Nat}{h0 h:Hp}(hi:u5 i O=some h0){e:wZ}(he:K[i]?=some (some e))(wG:∀k,k≠e.g->w'.heap[k]?=w.heap[k]?)(hsz:w'.heap.size=w.heap.size)
 (ho:w'.os=w.os) (ht:w'.tape=w.tape) (hp:w'.output=w.output) (hs:vT K w' true (.loc i) h) (ga:w.drawn<=w'.drawn:=by first|exact zo _|exact Nat.le_succ _) (hl:rY h=true:=by rfl):vR M K w' (uI i h O) nx:=
 H.bF hi he wG hsz ho ht hp hs ga fun k f=>by
  rcases f.of (e:=e) (show K.get (.loc i)=some (some e)from he)with h1|h1
  exact h1▸vY.own he;exact(GV hl h1).elim
theorem vR.name(H:vR M K w O nx)(x:Option wZ){h:Hp}(hs:vT (K++ [x]) w true (.loc nx) h)(hF:∀e,x=some e->M.F e.g\/M.w0.heap.size<=e.g)
 (hne:∀e,x=some e->∀(j:Nat) (g:Hp),u5 j O=some g->¬vY K w (.loc j) g e.g) (hl:rY h=true:=by rfl):vR M (K++ [x]) w ((nx,h)::O) (nx+1):=by
 have hnew:(K++ [x]).get (.loc nx)=some x:=by simp only[Env.get];rw[<-H.len];simp
 have one:∀k,vY (K++ [x]) w (.loc nx) h k->∃e,x=some e/\k=e.g:=fun k f=>by
  obtain⟨e,h1,h2⟩:=f;rw[hnew]at h1;injection h1 with h1
  rcases h2 with h2|h2
  exact⟨e,h1,h2.symm⟩;exact(GV hl h2).elim
 refine H.push x (fun k hk=>rfl) (zo _) rfl rfl rfl (zo _) hs (fun k f=>?_) fun k f j g hj f'=>?_;obtain⟨e,h1,rfl⟩:=one k f;exact hF e h1;obtain⟨e,h1,rfl⟩:=one k f;exact hne e h1 j g hj f'
end
theorem X2{P:Program}(g o:Nat)(t:TypeId)(fz:Nat×Nat):∀(vs:List Value) (i:Nat) (cur:Array Value) (w:World),w.heap[g]?=some (.cells cur t fz)->o+i+vs.length<=cur.size->Vu cur.size fz->(∀v∈vs,v.oneCell'=true)->
 (storeCells ⟨g,o,none⟩ vs i).run P w= .ok () (w.setRow g (cur.toList.take (o+i)++vs++cur.toList.drop (o+i+vs.length)).toArray)
 | [],i,cur,w,hg,_,_,_=>by
   simp only[storeCells,zP,List.length_nil,Nat.add_zero,yW,Array.toArray_toList];rw[setRow_self w g cur t fz hg]
   rfl
 |v::rest,i,cur,w,hg,hl,hu,h1=>by
  have hi:o+i<cur.size:=by simp at hl;omega
  have mw:(⟨g,o,none⟩:Addr).add i=⟨g,o+i,none⟩:=by unfold Addr.add;split<;>simp_all
  have hcell:w.cell? ⟨g,o+i,none⟩=some cur[o+i]:=by simp[World.cell?,hg,hi]
  have Ey:w.frozen? ⟨g,o+i,none⟩=false:=by
   have:=hu (o+i) hi;simp only[World.frozen?,hg];simpa using this
  have hst:(store ((⟨g,o,none⟩:Addr).add i) v).run P w= .ok () (w.setRow g (cur.setIfInBounds (o+i) v)):=by
   rw[mw,run_store P w _ v _ (h1 v (by simp)),hcell];simp[Ey,setCell_eq_setRow w g (o+i) cur t fz v hg]
  have ih:=X2 (P:=P) g o t fz rest (i+1) (cur.setIfInBounds (o+i) v) (w.setRow g (cur.setIfInBounds (o+i) v)) (setRow_heap w g cur _ t _ hg) (by simp at hl⊢;omega) (by simpa using hu) (fun x hx=>h1 x (by simp[hx]));simp only[storeCells,Sem.run_bind,hst,Result.andThen_ok,ih,setRow_setRow];congr 3;have:=list_seg_step cur.toList (o+i) v rest (by simp at hl⊢;omega);simpa[xD,Nat.add_comm,Nat.add_left_comm]using this
theorem GX{P:Program}{T:wU}(hT:uC P T){K:Env}{t:TypeId}{c:Nat}{row:List SV}{v:SV}{O:vX}{nx:Nat}{O':vX}{vW:Nat}{w:World}{g o:Nat}{arr:Array Value}{tt:TypeId}{fz:Nat×Nat}
 (hg:w.heap[g]?=some (.cells arr tt fz)) (hc:uj K arr o row) (hr:(bB T t c row).ok O nx v O' vW):O'=O/\vW=nx/\∃u,(loadVar t ⟨g,o+c,none⟩).run P w= .ok u w/\Den K v u:=by
 unfold bB at hr;cases ht:aN (T.size t) (row.drop c)with
 |none=>rw[ht]at hr;exact hr.elim
 |some cs=>
  rw[ht]at hr;simp only at hr;obtain⟨rfl,hlen⟩:=VV ht;cases ho:YF T t ((row.drop c).take (T.size t))with
  |none=>rw[ho]at hr;exact hr.elim
  |some sv=>
   rw[ho]at hr;obtain⟨rfl,rfl,rfl⟩:=hr
   have hsh:T.sh t≠ .other:=by
    intro e;simp only[YF,e]at ho;cases ho
   obtain⟨i,hi,hsz,_⟩:=hT.info t hsh;refine⟨rfl,rfl,?_⟩;have ag:=Eo hT hsh w
   have QC:eC K (row.drop c) arr.toList (o+c):=by
    intro j sv hj;rw[y6]at hj;obtain⟨u,h1,_,h2⟩:=hc _ _ hj;exact⟨u,by rw[xD];simpa using h1,h2⟩
   have hone:∀u∈(arr.toList.drop (o+c)).take (T.size t),u.oneCell'=true:=by
    intro u hu;obtain⟨j,hj⟩:=List.getElem?_of_mem hu;rw[zS]at hj;split at hj
    .rename_i hlt;have GY:(row.drop c)[j]?=some ((row.drop c)[j]'(by omega)):=z1 _;rw[y6]at GY hj;obtain⟨u',h1,h2,_⟩:=hc _ _ GY;have:arr.toList[o+c+j]?=some u':=by rw[xD];simpa using h1
     rw[this]at hj;injection hj with hj;subst hj;exact h2
    cases hj
   have eV:=QC.take hlen
   have hcell:∀j u,((arr.toList.drop (o+c)).take (T.size t))[j]?=some u->w.cell? ((⟨g,o+c,none⟩:Addr).add j)=some u:=by
    intro j u hj;rw[zS]at hj;split at hj
    .rw[y6]at hj;rw[Addr.add_lit];simp only[World.cell?,hg];simpa using hj
    cases hj
   have mz:((arr.toList.drop (o+c)).take (T.size t)).length=T.size t:=by rw[ZU eV,zq];omega
   have agg:(UB (T.sh t))=true->v= .agg ((row.drop c).take (T.size t))->∃u,(loadVar t ⟨g,o+c,none⟩).run P w= .ok u w/\Den K v u:=by
    rintro hb rfl;rw[hb]at ag;have hl:=run_loadCells_list (P:=P) w ⟨g,o+c,none⟩ _ hcell;rw[mz]at hl;refine⟨.agg ⟨(arr.toList.drop (o+c)).take (T.size t)⟩,?_,?_⟩;simp only[loadVar,Sem.run_bind,ag,Result.andThen_ok,yJ,Zt hi,hsz,hl,Sem.run_pure]
    .simp only[Den];exact⟨_,rfl,eV,hone⟩
   have one:(UB (T.sh t))=false->(row.drop c).take (T.size t)=[v]->∃u,(loadVar t ⟨g,o+c,none⟩).run P w= .ok u w/\Den K v u:=by
    intro hb hs;rw[hb]at ag;rw[hs]at eV;obtain⟨u,hu,ep⟩:=Xu (i:=0) eV rfl;have:=hcell 0 u hu;rw[Addr.add_zero']at this;exact⟨u,by simp[loadVar,ag,this],ep⟩
   cases hs:T.sh t<;>rw[hs]at agg one<;>simp only[YF,hs]at ho
   case struct=>simp only[zi]at ho;exact agg rfl ho.symm
   case array=>simp only[zi]at ho;exact agg rfl ho.symm
   case other=>cases ho
   all_goals
    split at ho
    .rename_i c hc;simp only[zi]at ho;subst ho;exact one rfl hc
    cases ho
section
variable {M:Mx}{K:Env}{w:World}{O:vX}{nx:Nat}{ρ:Operand->Value}{lk:Operand->Option SV}{v:SV}{O':vX}{vW:Nat}{dst:Option Tmp}{ty:TypeId}{pos:String}{af:Array Edge}{gd:Option (Nat×Bool)}
theorem Ez{K:Env}{arr:Array Value}{base es:Nat}:∀{rs:List (List SV)},(∀(i:Nat) (row:List SV),rs[i]?=some row->row.length=es/\uj K arr (base+i*es) row)->
 uh K es rs ((arr.toList.drop base).take (rs.length*es))/\((arr.toList.drop base).take (rs.length*es)).length=rs.length*es/\∀u∈(arr.toList.drop base).take (rs.length*es),u.oneCell'=true:=by
 intro rs
 induction rs generalizing base with
 |nil=>intro _;simp[uh]
 |cons r rs ih=>
  intro h;obtain⟨h1,h2⟩:=h 0 r rfl
  have h3:=ih (base:=base+es) (fun i row hi=>by
   obtain⟨h4,h5⟩:=h (i+1) row (by simpa using hi);refine⟨h4,?_⟩;rw[show base+es+i*es=base+(i+1)*es by rw[yC];omega]
   exact h5)
  have hf:eC K r arr.toList base:=fun j sv hj=>by
   obtain⟨u,h6,_,h7⟩:=h2 j sv hj;exact⟨u,by simpa using h6,h7⟩
  have hd:=hf.take (n:=es) (by omega);rw[zg (by omega)]at hd;have hlen:((arr.toList.drop base).take es).length=es:=by rw[ZU hd,h1]
  have hsplit:(arr.toList.drop base).take ((r::rs).length*es)=(arr.toList.drop base).take es++(arr.toList.drop (base+es)).take (rs.length*es):=by
   rw[List.length_cons,yC,Nat.add_comm,List.take_add,yB]
  rw[hsplit];refine⟨?_,?_,?_⟩;simp only[uh];exact⟨_,_,rfl,hlen,hd,h3.1⟩;rw[zh,hlen,h3.2.1,List.length_cons,yC];omega
  .intro u hu;rcases zQ.1 hu with hu|hu
   .obtain⟨j,hj⟩:=List.getElem?_of_mem hu;rw[zS]at hj;split at hj
    .rename_i hlt;obtain⟨u',h6,h7,_⟩:=h2 j _ (z1 (by omega));rw[y6]at hj;rw[yO,Nat.add_zero]at h6;have:arr.toList[base+j]?=some u':=by simpa using h6
     rw[this]at hj;injection hj with hj;subst hj;exact h7
    cases hj
   exact h3.2.2 u hu
theorem Ov(hT:uC M.P M.C.T)(H:vR M K w O nx){t:TypeId}{p:SV}{pv:Value}(uv:Den K p pv)(hr:(iA M.C.T (Yn M.C O) t p).ok O nx v O' vW):
 O'=O/\vW=nx/\∃a u,pv= .pointer (some a)/\(loadVar t a).run M.P w= .ok u w/\Den K v u:=by
 unfold iA at hr;split at hr
 case h_2=>exact hr.elim
 rename_i b r es c;simp only[Den]at uv;obtain⟨en,hb,uv⟩:=uv;subst uv;split at hr
 .rename_i row hh;have u9:=H.look hh;simp only[vT]at u9;obtain⟨cu,arr,T,fz,h1,h2,_,h3⟩:=u9;rw[hb]at h1;injection h1 with h1;injection h1 with h1;subst h1
  split at hr
  case h_2=>exact hr.elim
  rename_i hz;have hz:=Zr hz;subst hz;obtain⟨e1,e2,u,hu,hd⟩:=GX hT h2 h3 hr;exact⟨e1,e2,_,u,rfl,by rw[yO,zx];exact hu,hd⟩
 .rename_i es' rs hh;have u9:=H.look hh;simp only[vT]at u9;split at hr
  case h_2=>exact hr.elim
  rename_i wF;have wF:=Zr wF;subst wF;rcases u9 with⟨h1,_⟩|⟨cu,arr,T,fz,h1,h2,_,h3⟩
  rw[hb]at h1;cases h1;rw[hb]at h1;injection h1 with h1;injection h1 with h1;subst h1
  have bZ:∀{hr:(ux.get rs r fun row=>bB M.C.T t c row).ok O nx v O' vW},O'=O/\vW=nx/\∃a u,(Value.pointer (some ⟨en.g,en.base+(r*es+c),none⟩))= .pointer (some a)/\(loadVar t a).run M.P w= .ok u w/\Den K v u:=by
   rintro⟨row,hrow,hr⟩;obtain⟨h4,h5⟩:=h3 r row hrow;obtain⟨e1,e2,u,hu,hd⟩:=GX hT h2 h5 hr;exact⟨e1,e2,_,u,rfl,by rw[<-xD];exact hu,hd⟩
  split at hr
  .rename_i n e hs;split at hr
   .rename_i fe;have fe:=Zr fe;obtain⟨⟨rfl,rfl,hlen⟩,rfl,rfl,rfl⟩:=hr;obtain⟨h4,h5,h6⟩:=Ez h3;obtain⟨d,hd,hm⟩:=hT.qC t (by rw[hs];simp);rw[hs]at hm;simp only[qx]at hm;obtain⟨rfl,hsz,_⟩:=hm;obtain⟨i,hi,EA,_⟩:=hT.info t (by rw[hs];simp);have ag:=Eo hT (t:=t) (by rw[hs];simp) w;rw[hs]at ag;simp only[UB]at ag
    have hcell:∀j u,((arr.toList.drop en.base).take (rs.length*es))[j]?=some u->w.cell? ((⟨en.g,en.base,none⟩:Addr).add j)=some u:=by
     intro j u hj;rw[zS]at hj;split at hj
     .rw[y6]at hj;rw[Addr.add_lit];simp only[World.cell?,h2];simpa using hj
     cases hj
    have hl:=run_loadCells_list (P:=M.P) w ⟨en.g,en.base,none⟩ _ hcell;rw[h5]at hl;have oU:i.size=rs.length*es:=by rw[EA,hsz,hlen,fe]
    refine⟨rfl,rfl,_, .agg ⟨(arr.toList.drop en.base).take (rs.length*es)⟩,rfl,?_,?_⟩
    .simp only[yO,Nat.add_zero];simp only[loadVar,Sem.run_bind,ag,Result.andThen_ok,yJ,Zt hi,oU,hl,Sem.run_pure]
    simp only[Den];exact⟨_,rfl,h4,h6⟩
   exact bZ (hr:=hr)
  exact bZ (hr:=hr)
 .rename_i es' rs hh;have u9:=H.look hh;simp only[vT]at u9;split at hr
  case h_2=>exact hr.elim
  rename_i wF;have wF:=Zr wF;subst wF;rcases u9.1 with⟨h1,_⟩|⟨cu,arr,T,fz,h1,h2,_,h3⟩
  rw[hb]at h1;cases h1;rw[hb]at h1;injection h1 with h1;injection h1 with h1;subst h1
  obtain⟨row,hrow,hr⟩:=hr;obtain⟨h4,h5⟩:=h3 r row hrow;obtain⟨e1,e2,u,hu,hd⟩:=GX hT h2 h5 hr;exact⟨e1,e2,_,u,rfl,by rw[<-xD];exact hu,hd⟩
 exact hr.elim
theorem Te(A:At M K w O nx ρ lk)(args:Array Operand)(ts:Array TypeId)(hr:(w5 M.C lk O nx (.call ⟨.builtin .len,args,ts⟩)).ok O nx v O' vW):Y7 M K w ⟨dst, .call ⟨.builtin .len,args,ts⟩,ty,pos,af,gd⟩ ρ v O' vW:=by
 simp only[w5,Vt,Qs]at hr;split at hr
 case h_2=>exact hr.elim
 rename_i x ha;obtain rfl:args= #[x]:=by apply yD;simpa using ha
 split at hr
 case h_2=>exact hr.elim
 rename_i t ht;obtain rfl:ts= #[t]:=by apply yD;simpa using ht
 split at hr
 .rename_i s hx;split at hr
  case h_2=>exact hr.elim
  rename_i hs;obtain⟨d,hd,hm⟩:=A.T.qC t (by rw[hs];simp);rw[hs]at hm;simp only[qx]at hm;subst hm;have uv:=lP (A.L _ _ hx);exact A.val hr ⟨.int .i64 s.length, .inl (by simp[execOp,resolve,invoke,builtin,uv,Builtin.len_,Z6 hd,goInt,VM]),rfl⟩
 .rename_i b r es len lim hx;split at hr
  case h_2=>exact hr.elim
  rename_i e hs;obtain⟨d,hd,hm⟩:=A.T.qC t (by rw[hs];simp);rw[hs]at hm;simp only[qx]at hm;subst hm;have uv:=A.L _ _ hx
  obtain⟨a,cap,hv⟩:∃a cap,ρ x= .slice a len cap:=by
   simp only[Den]at uv;rcases uv with⟨_,h,rfl⟩|⟨en,o,_,h,_⟩
   exact⟨_,_,h⟩;exact⟨_,_,h⟩
  exact A.val hr ⟨.int .i64 len, .inl (by simp[execOp,resolve,invoke,builtin,hv,Builtin.len_,Z6 hd,goInt]),rfl⟩
 .rename_i hx;split at hr
  case h_2=>exact hr.elim
  rename_i e hs;obtain⟨d,hd,hm⟩:=A.T.qC t (by rw[hs];simp);rw[hs]at hm;simp only[qx]at hm;subst hm;have uv:=(A.L _ _ hx).1;exact A.val hr ⟨.int .i64 _, .inl (by simp[execOp,resolve,invoke,builtin,uv,Builtin.len_,Z6 hd,goInt]),rfl⟩
 .rename_i b hx;split at hr
  case h_2=>exact hr.elim
  rename_i kt et hs;obtain⟨d,hd,hm⟩:=A.T.qC t (by rw[hs];simp);rw[hs]at hm;simp only[qx]at hm;subst hm;split at hr
  case h_2=>exact hr.elim
  rename_i rs hb;have uv:=A.L _ _ hx;simp only[Den]at uv;obtain⟨e,he,hv⟩:=uv;have u9:=A.H.look hb;simp only[vT]at u9;obtain⟨e',es,h1,h2,h3,h4,h5⟩:=u9;rw[he]at h1;cases h1;exact A.val hr ⟨.int .i64 rs.length, .inl (by simp[execOp,resolve,invoke,builtin,hv,Builtin.len_,Z6 hd,goInt,JH h3,h4]),rfl⟩
 exact hr.elim
theorem Tf(A:At M K w O nx ρ lk)(args:Array Operand)(ts:Array TypeId)(hr:(w5 M.C lk O nx (.call ⟨.builtin .cap,args,ts⟩)).ok O nx v O' vW):Y7 M K w ⟨dst, .call ⟨.builtin .cap,args,ts⟩,ty,pos,af,gd⟩ ρ v O' vW:=by
 simp only[w5,Vt,Qt]at hr;split at hr
 case h_2=>exact hr.elim
 rename_i x ha;obtain rfl:args= #[x]:=by apply yD;simpa using ha
 split at hr
 case h_2=>exact hr.elim
 rename_i t ht;obtain rfl:ts= #[t]:=by apply yD;simpa using ht
 split at hr
 case h_2=>exact hr.elim
 rename_i hx;split at hr
 case h_2=>exact hr.elim
 rename_i e hs;obtain⟨d,hd,hm⟩:=A.T.qC t (by rw[hs];simp);rw[hs]at hm;simp only[qx]at hm;subst hm;have uv:ρ x= .slice none 0 0:=(A.L _ _ hx).1;exact A.val hr ⟨.int .i64 0, .inl (by simp[execOp,resolve,invoke,builtin,uv,Builtin.cap_,Z6 hd,goInt]),rfl⟩
end
theorem Wf(n:Nat):Vu n (0,0):=fun o _ h=>by omega
theorem uj.dB{K:Env}{row:List SV}{vs:List Value}(h:vV K row vs)(h1:∀u∈vs,u.oneCell'=true):uj K ⟨vs⟩ 0 row:=by
 intro j sv hj;obtain⟨u,hu,hd⟩:=Xu h hj;exact⟨u,by simpa using hu,h1 u (zV hu),hd⟩
theorem X7{K:Env}{es:Nat}{rs:List (List SV)}{vs:List Value}(h:uh K es rs vs)(h1:∀u∈vs,u.oneCell'=true):∀(i:Nat) (row:List SV),rs[i]?=some row->row.length=es/\uj K ⟨vs⟩ (0+i*es) row:=by
 intro i row hi;obtain⟨h2,h3⟩:=Es h hi;refine⟨h3,fun j sv hj=>?_⟩;obtain⟨u,hu,hd⟩:=h2 j sv hj;exact⟨u,by simpa using hu,h1 u (zV hu),hd⟩
def X4(w:World)(o:Obj):World:={w with heap:=w.heap.push o}
section
variable {M:Mx}{K:Env}{w:World}{O:vX}{nx:Nat}{ρ:Operand->Value}{lk:Operand->Option SV}{v:SV}{O':vX}{vW:Nat}{dst:Option Tmp}{ty:TypeId}{pos:String}{af:Array Edge}{gd:Option (Nat×Bool)}
theorem ZO{K:Env}{nx:Nat}(h:K.length=nx)(e:Option wZ):Env.get (K++ [e]) (.loc nx)=some e:=by
 subst h;simp[Env.get]
theorem Tg(H:vR M K w O nx)(e:TypeId){row:List SV}{vs:List Value}(h:vV K row vs)(h1:∀u∈vs,u.oneCell'=true):
 vR M (K++ [some ⟨w.heap.size,0,1⟩]) (X4 w (.cells ⟨vs⟩ e)) ((nx, .box row)::O) (nx+1):=by
 refine H.alloc (w':=X4 w (.cells ⟨vs⟩ e)) rfl rfl rfl rfl 0 1 ?_;simp only[vT];exact⟨_,⟨vs⟩,e,(0,0),ZO H.len _,Yx (w:=w) (w':=X4 w (.cells ⟨vs⟩ e)) rfl,fun _=>Wf _,(uj.dB h h1).mono (zz _ _)⟩
theorem GZ(H:vR M K w O nx)(e:TypeId){es:Nat}{rs:List (List SV)}{vs:List Value}(cap:Nat){arr:Array Value}(hsz:arr.size=cap*es)(hcap:rs.length<=cap)
 (hr:∀(i:Nat) (row:List SV),rs[i]?=some row->row.length=es/\uj K arr (0+i*es) row):
 vR M (K++ [some ⟨w.heap.size,0,cap⟩]) (X4 w (.cells arr e)) ((nx, .rows es rs)::O) (nx+1):=by
 refine H.alloc (w':=X4 w (.cells arr e)) rfl rfl rfl rfl 0 cap ?_;simp only[vT];right
 exact⟨_,arr,e,(0,0),ZO H.len _,Yx (w:=w) (w':=X4 w (.cells arr e)) rfl,fun _=>⟨Wf _,hsz,hcap,rfl⟩,fun i row hi=>⟨(hr i row hi).1,(hr i row hi).2.mono (zz _ _)⟩⟩
theorem Ow(A:At M K w O nx ρ lk)(e:TypeId){v0:SV}{u:Value}(hd:Den K v0 u)(hr:(GF M.C.T e nx v0).ok O nx v O' vW):
 ∃η',K<+:η'/\vR M η' (X4 w (.cells u.cells e)) O' vW/\Den η' v (.pointer (some ⟨w.heap.size,0,none⟩))/\η'≠K:=by
 have rZ:∀(es:Nat) (cap:Nat),Den (K++ [some ⟨w.heap.size,0,cap⟩]) (.ptr (.loc nx) 0 es 0) (.pointer (some ⟨w.heap.size,0,none⟩)):=by
  intro es cap;simp only[Den];exact⟨_,ZO A.H.len _,by simp⟩
 have QD:∀{h:Hp} {es:Nat},GD M.C.T e v0=some h->(∀n q,M.C.T.sh e= .array n q->M.C.T.size q=es)->v= .ptr (.loc nx) 0 es 0->O'=(nx,h)::O->vW=nx+1->∃η',K<+:η'/\vR M η' (X4 w (.cells u.cells e)) O' vW/\Den η' v (.pointer (some ⟨w.heap.size,0,none⟩))/\η'≠K:=by
  rintro h es hb wF rfl rfl rfl;unfold GD at hb;split at hb
  .rename_i n q hs;split at hb
   case h_2=>cases hb
   rename_i cs;rw[hs]at hb;simp only at hb;split at hb
   case h_2=>cases hb
   rename_i rs hc;injection hb with hb;subst hb;simp only[Den]at hd;obtain⟨vs,rfl,h1,h2⟩:=hd;obtain⟨h3,h4,_⟩:=V6 hc;have hl:=ZU h1;exact⟨_,zz _ _,GZ A.H e (vs:=vs) n (by show vs.length=_;rw[hl,h4]) (by omega) (X7 (Et hc h1) h2),rZ _ _,by simp⟩
  cases hb
  .split at hb
   case h_2=>cases hb
   rename_i cs hc;injection hb with hb;subst hb;obtain⟨h1,h2⟩:=UM hd hc;have:=Tg A.H e h1 h2;exact⟨_,zz _ _,by simpa using this,rZ _ _,by simp⟩
 unfold GF at hr;split at hr
 .rename_i n q es rs hs;split at hr
  case h_2=>exact hr.elim
  rename_i wF;have wF:=Zr wF;subst wF;obtain⟨hlen,rfl,rfl,rfl⟩:=hr;simp only[Den]at hd;obtain⟨vs,rfl,h1,h2⟩:=hd;have hl:=V7 h1;exact⟨_,zz _ _,GZ A.H e (vs:=vs) n (by show vs.length=_;rw[hl,hlen]) (by omega) (X7 h1 h2),rZ _ _,by simp⟩
 .rename_i n q v0' hs _;split at hr
  case h_2=>exact hr.elim
  rename_i h hb;obtain⟨e1,e2,e3⟩:=hr;exact QD hb (fun n' q' h=>by rw[hs]at h;injection h with _ h;rw[h]) e1 e2 e3
 .rename_i hna _;split at hr
  case h_2=>exact hr.elim
  rename_i h hb;obtain⟨e1,e2,e3⟩:=hr;exact QD hb (fun n' q' h=>absurd h (hna _ _)) e1 e2 e3
theorem Ti(A:At M K w O nx ρ lk)(tb te:TypeId){v0:SV}{u:Value}(hd:Den K v0 u)(hr:(E5 tb te nx v0).ok O nx v O' vW):
 ∃η',K<+:η'/\vR M η' (X4 w (.cells u.cells tb)) O' vW/\Den η' v (.pointer (some ⟨w.heap.size,0,none⟩))/\η'≠K:=by
 unfold E5 at hr;split at hr
 case h_2=>exact hr.elim
 obtain⟨rfl,rfl,rfl⟩:=hr;simp only[Den,vV]at hd;obtain⟨vs,rfl,⟨u1,us1,rfl,h1,u2,us2,rfl,h2,rfl⟩,_⟩:=hd;obtain⟨rfl,_⟩:=h1;obtain⟨rfl,_⟩:=h2;have hheap:(X4 w (.cells #[.pointer none, .slice none 0 0] tb)).heap[w.heap.size]?=some (.cells #[.pointer none, .slice none 0 0] tb (0,0)):=Yx (w:=w) rfl;have hnew:(K++ [some (⟨w.heap.size,0,1⟩:wZ)]).get (.loc nx)=some (some ⟨w.heap.size,0,1⟩):=ZO A.H.len _
 have one:∀k,vY (K++ [some ⟨w.heap.size,0,1⟩]) (X4 w (.cells #[.pointer none, .slice none 0 0] tb)) (.loc nx) (.kV tb te []) k->k=w.heap.size:=fun k f=>by
  rcases f.of hnew with h|h
  exact h.symm
  .simp only[uA]at h;obtain⟨arr,T,fz,v,k1,k2,k3⟩:=h;rw[hheap]at k1;injection k1 with k1;injection k1 with k1;subst k1;simp at k2;subst k2;simp[Value.ownBlock]at k3
 refine⟨_,zz _ _,A.H.push (some ⟨w.heap.size,0,1⟩) (fun k hk=>Ou (w:=w) rfl hk) (by simp[X4]) rfl rfl rfl (zo _) ?_ (fun k f=> .inr ?_) (fun k f j g hj f'=>?_),?_,by simp⟩
 .simp only[vT];exact⟨_,hnew,rfl, .inl ⟨ve _,_,hheap,⟨rfl, .inl ⟨rfl,rfl⟩⟩,by simp[Value.ownBlock]⟩⟩
 rw[one k f];exact A.H.fr.size
 .have:=(A.H.own.1 j g hj).1.uy f';rw[one k f]at this;omega
 .simp only[Den];exact⟨_,hnew,by simp⟩
theorem Oy(A:At M K w O nx ρ lk)(e:TypeId){v0:SV}{u:Value}(hd:Den K v0 u)(hr:(newR M.C.T e nx v0).ok O nx v O' vW):
 ∃η',K<+:η'/\vR M η' (X4 w (.cells u.cells e)) O' vW/\Den η' v (.pointer (some ⟨w.heap.size,0,none⟩))/\η'≠K:=by
 unfold newR at hr;split at hr
 .split at hr
  .rename_i h;rw[Zr h];exact Ti A _ _ hd hr
  exact Ow A e hd hr
 exact Ow A e hd hr
theorem Tj(A:At M K w O nx ρ lk)(e:TypeId)(hr:(w5 M.C lk O nx (.alloc e)).ok O nx v O' vW):Y7 M K w ⟨dst, .alloc e,ty,pos,af,gd⟩ ρ v O' vW:=by
 simp only[w5,Aj]at hr;split at hr
 exact hr.elim;rename_i c cs hz;split at hr
 case h_2=>exact hr.elim
 rename_i v0 ho;have hsh:M.C.T.sh e≠ .other:=by intro h;simp[YF,h]at ho
 obtain⟨i,z,h1,h2,h3⟩:=Eu A.T hsh (by rw[hz];simp) (by rw[hz];exact ho) K;obtain⟨η',h4,h5,h6,h7⟩:=Oy A e h3 hr;exact⟨_,_,η', .inl (by simp[execOp,Instr.alloc,XT h1 h2,newVar,newRow];rfl),h4,h5,h6,fun _ h=>absurd h h7⟩
theorem Tk(A:At M K w O nx ρ lk)(e:TypeId)(x:Operand)(hr:(w5 M.C lk O nx (.box e x)).ok O nx v O' vW):Y7 M K w ⟨dst, .box e x,ty,pos,af,gd⟩ ρ v O' vW:=by
 simp only[w5,Qo]at hr;split at hr
 case h_2=>exact hr.elim
 rename_i v0 hx;obtain⟨η',h4,h5,h6,h7⟩:=Oy A e (A.L _ _ hx) hr;exact⟨_,_,η', .inl (by simp[execOp,Instr.box,newVar,newRow];rfl),h4,h5,h6,fun _ h=>absurd h h7⟩
theorem Oz:∀{row vs r:List SV},rQ row vs=some r->r=vs++row.drop vs.length/\vs.length<=row.length
 |row,[],r,h=>by simp only[rQ,zi]at h;subst h;simp
 | [],v::vs,r,h=>by simp[rQ]at h
 |x::row,v::vs,r,h=>by
  simp only[rQ]at h;cases e:rQ row vs with
  |none=>rw[e]at h;cases h
  |some q=>
   rw[e]at h;simp only[zi]at h;subst h;obtain⟨h1,h2⟩:=Oz e;subst h1;simp;omega
theorem Vv:∀{c:Nat} {row vs r:List SV},VK c row vs=some r->r=row.take c++vs++row.drop (c+vs.length)/\c+vs.length<=row.length
 |0,row,vs,r,h=>by
  simp only[VK]at h;obtain⟨h1,h2⟩:=Oz h;subst h1;simp;exact h2
 |c+1,[],vs,r,h=>by simp[VK]at h
 |c+1,x::row,vs,r,h=>by
  simp only[VK]at h;cases e:VK c row vs with
  |none=>rw[e]at h;cases h
  |some q=>
   rw[e]at h;simp only[zi]at h;subst h;obtain⟨h1,h2⟩:=Vv e;subst h1;rw[show c+1+vs.length=(c+vs.length)+1 by omega];simp;omega
theorem OA(off:Nat):∀(vs:List Value) (k:Nat) (cur:Array Value),off+k+vs.length<=cur.size->
 ((vs.zipIdx k).foldl (fun cs (p:Value×Nat)=>cs.setIfInBounds (off+p.2) p.1) cur).toList=cur.toList.take (off+k)++vs++cur.toList.drop (off+k+vs.length)
 | [],k,cur,h=>by simp
 |v::vs,k,cur,h=>by
  have ih:=OA off vs (k+1) (cur.setIfInBounds (off+k) v) (by simp at h⊢;omega);simp only[List.zipIdx_cons,List.foldl_cons];rw[ih];have:=list_seg_step cur.toList (off+k) v vs (by simp at h⊢;omega);simpa[xD,Nat.add_comm,Nat.add_left_comm]using this
theorem F0{K:Env}{place:Nat->Option (Nat×Nat)}:∀{ps:List (Nat×SV)} {vs:List (Nat×Value)} {cells:List SV} {cur:Array Value} {cs:List SV},rT cells place ps=some cs->vV K cells cur.toList->(∀u∈cur.toList,u.oneCell'=true)->
 vs.length=ps.length->(∀(i:Nat) (p:Nat×SV),ps[i]?=some p->∃u,vs[i]?=some (p.1,u)/\Den K p.2 u)->
 ∃arr,Instr.fill place cur vs=some arr/\vV K cs arr.toList/\∀u∈arr.toList,u.oneCell'=true
 | [],vs,cells,cur,cs,h,hd,h1,hl,_=>by
   simp only[rT,zi]at h;subst h;obtain rfl:vs=[]:=zM.1 hl;exact⟨cur,rfl,hd,h1⟩
 |(i,sv)::ps,[],cells,cur,cs,h,hd,h1,hl,_=>by simp at hl
 |(i,sv)::ps,(i',u)::vs,cells,cur,cs,h,hd,h1,hl,hp=>by
  obtain⟨u',hu,ep⟩:=hp 0 (i,sv) rfl;simp at hu;obtain⟨rfl,rfl⟩:=hu;simp only[rT]at h;split at h
  case h_2=>cases h
  rename_i off size jo;split at h
  case h_2=>cases h
  rename_i ws Tl;split at h
  case h_2=>cases h
  rename_i cells' hlen hsp;have hlen:=qD.1 hlen;obtain⟨rfl,hle⟩:=Vv hsp;obtain⟨h2,h3⟩:=UM ep Tl;have nQ:=ZU h2;have Tn:=ZU hd;have hsz:u.cells.size=size:=by rw[<-hlen,<-nQ];simp
  have hfit:¬(off+u.cells.size>cur.size):=by
   have:u.cells.size=ws.length:=by rw[hsz,hlen]
   have h5:cur.size=cells.length:=by rw[<-Tn];simp
   omega
  have ah:(u.cells.zipIdx.foldl (fun cs (x:Value×Nat)=>cs.setIfInBounds (off+x.2) x.1) cur).toList=cur.toList.take off++u.cells.toList++cur.toList.drop (off+u.cells.toList.length):=by
   have:=OA off u.cells.toList 0 cur (by simp;omega);simp only[Nat.add_zero]at this;rw[<-this,<-Array.foldl_toList];simp
  have hd':vV K (cells.take off++ws++cells.drop (off+ws.length)) (cur.toList.take off++u.cells.toList++cur.toList.drop (off+u.cells.toList.length)):=by
   rw[nQ];exact YX (YX (Em hd) h2) (El hd)
  rw[<-ah]at hd'
  obtain⟨arr,h6,h7,h8⟩:=F0 (vs:=vs) h hd' (by
   rw[ah];intro x hx;rcases zQ.1 hx with hx|hx
   .rcases zQ.1 hx with hx|hx
    exact h1 x (List.mem_of_mem_take hx);exact h3 x hx
   exact h1 x (vr hx)) (by simpa using hl) (fun k p hk=>by simpa using hp (k+1) p (by simpa using hk))
  refine⟨arr,?_,h7,h8⟩;simp only[Instr.fill,jo];rw[z7 (by simp[hsz];simpa[hsz]using hfit)];exact h6
theorem OB{ps:Array (Nat×Operand)}{eD:List (Nat×SV)}(hl:∀x sv,lk x=some sv->Den K sv (ρ x))(h:GJ lk ps=some eD):
 (ps.map fun p=>(p.1,ρ p.2)).toList.length=eD.length/\∀(i:Nat) (p:Nat×SV),eD[i]?=some p->∃u,(ps.map fun p=>(p.1,ρ p.2)).toList[i]?=some (p.1,u)/\Den K p.2 u:=by
 unfold GJ at h;simp only[Array.toList_map];generalize ps.toList=l at h⊢
 induction l generalizing eD with
 |nil=>simp only[qi,zi]at h;subst h;simp
 |cons p l ih=>
  simp only[qi]at h;split at h
  case h_2=>cases h
  rename_i q hq;split at hq
  case h_2=>cases hq
  rename_i sv qY;simp only[zi]at hq;subst hq;split at h
  case h_2=>cases h
  rename_i qs F1;simp only[zi]at h;subst h;obtain⟨h1,h2⟩:=ih F1;refine⟨by simpa using h1,?_⟩;intro i r hr;cases i with
  |zero=>simp at hr;subst hr;exact⟨ρ p.2,by simp,hl _ _ qY⟩
  |succ i=>simpa using h2 i r (by simpa using hr)
theorem OC{J Y:Type}{P:Program}{w:World}(f:J->Sem Y)(g:J->Y):∀(l:List J),(∀x∈l,(f x).run P w= .ok (g x) w)->(l.mapM f).run P w= .ok (l.map g) w
 | [],_=>rfl
 |x::l,h=>by
  simp only[vK,Sem.run_bind,h x (by simp),Result.andThen_ok,OC f g l (fun y hy=>h y (by simp[hy])),Sem.run_pure,zG]
theorem To{T:wU}{P:Program}(hT:uC P T){t:TypeId}{fs:List (Nat×TypeId)}(hs:T.sh t= .struct fs){fields:Array Field}(hf:fields.toList.map (fun f=>(f.offset,f.type))=fs)(hok:∀p∈fs,T.sh p.2≠ .other)(w:World):
 (fields.mapM fun f=>do pure (f.offset,<-sizeOf f.type):Sem (Array (Nat×Nat))).run P w= .ok (fields.map fun f=>(f.offset,T.size f.type)) w:=by
 rw[Array.mapM_eq_mapM_toList];simp only[Sem.run_map];rw[OC (g:=fun f:Field=>(f.offset,T.size f.type))];simp only[Result.andThen_ok,Result.ok.injEq,xm];apply yD;simp
 .intro f Tp;have:T.sh f.type≠ .other:=hok (f.offset,f.type) (by rw[<-hf];exact vB (f:=fun f:Field=>(f.offset,f.type)) Tp);obtain⟨i,hi,hsz,_⟩:=hT.info f.type this;simp[Zt hi,hsz]
theorem Tq(A:At M K w O nx ρ lk)(t:TypeId)(ps:Array (Nat×Operand))(hr:(w5 M.C lk O nx (.build t ps)).ok O nx v O' vW):Y7 M K w ⟨dst, .build t ps,ty,pos,af,gd⟩ ρ v O' vW:=by
 simp only[w5,Ak]at hr;split at hr
 exact hr.elim;rename_i eD hps;split at hr
 exact hr.elim;rename_i c cs hz;obtain⟨jo,F2⟩:=OB A.L hps;split at hr
 .rename_i fs hs;split at hr
  case h_2=>exact hr.elim
  rename_i cs' hf;have hsh:M.C.T.sh t≠ .other:=by rw[hs];simp
  obtain⟨i,z,h1,h2,h3,h4,_⟩:=A.T.zero t hsh (by rw[hz];simp);rw[hz]at h3;obtain⟨d,hd,hm⟩:=A.T.qC t hsh;rw[hs]at hm;simp only[qx]at hm;obtain⟨fields,rfl,iE,hok⟩:=hm
  have fL:(fun i=>(fields.map fun f=>(f.offset,M.C.T.size f.type))[i]?)=E7 M.C.T fs:=by
   funext i;unfold E7;rw[VL,<-iE,z6];cases hq:fields.toList[i]? with
   |none=>simp at hq;simp[hq]
   |some f=>simp at hq;simp[hq]
  obtain⟨arr,h5,h6,h7⟩:=F0 hf (vV.mono (xy) h3) h4 jo F2;refine A.val hr ⟨.agg arr, .inl ?_,?_⟩
  .rw[<-fL]at h5;have oV:=To A.T hs iE hok w;simp only[execOp,Instr.build,Sem.run_bind,XT h1 h2,Result.andThen_ok,Z6 hd,oV,h5,Sem.run_pure]
  simp only[Den];exact⟨arr.toList,rfl,h6,h7⟩
 .rename_i n e hs;split at hr
  case h_2=>exact hr.elim
  rename_i cs' hf;have hsh:M.C.T.sh t≠ .other:=by rw[hs];simp
  obtain⟨i,z,h1,h2,h3,h4,_⟩:=A.T.zero t hsh (by rw[hz];simp);rw[hz]at h3;obtain⟨d,hd,hm⟩:=A.T.qC t hsh;rw[hs]at hm;simp only[qx]at hm;obtain⟨rfl,hsz,hok⟩:=hm;obtain⟨ie,hie,uR,_⟩:=A.T.info e hok;obtain⟨arr,h5,h6,h7⟩:=F0 hf (vV.mono (xy) h3) h4 jo F2;refine A.val hr ⟨.agg arr, .inl ?_,?_⟩
  .have fL:(fun i=>some (i*M.C.T.size e,M.C.T.size e))=Wc M.C.T e:=rfl;rw[<-fL]at h5;simp only[execOp,Instr.build,Sem.run_bind,XT h1 h2,Result.andThen_ok,Z6 hd,Zt hie,uR,h5,Sem.run_pure]
  simp only[Den];exact⟨arr.toList,rfl,h6,h7⟩
 exact hr.elim
end
def XP(z:List Value)(n:Nat):List Value:=(List.range (n*z.length)).map fun i=>z.getD (i%z.length) undef
theorem U9(z:Array Value)(n k:Nat)(h:k=n*z.size):((Array.range k).map fun i=>z[i%z.size]!).toList=XP z.toList n:=by
 subst h;unfold XP;simp only[Array.toList_map,Array.toList_range,Array.length_toList];apply yy;intro i hi
 have hpos:0<z.size:=by
  rcases xx z.size with h|h
  rw[h]at hi;simp at hi;exact h
 have hlt:=Nat.mod_lt i hpos;rw[getElem!_pos z (i%z.size) hlt];simp[List.getD,hlt]
theorem F3(z:List Value)(n:Nat):(XP z n).length=n*z.length:=by simp[XP]
theorem EB{z:List Value}{n i j:Nat}(hi:i<n)(hj:j<z.length):(XP z n)[i*z.length+j]?=z[j]?:=by
 have h1:i*z.length+j<n*z.length:=by
  have:(i+1)*z.length<=n*z.length:=ym _ hi;rw[yC]at this;omega
 have h2:(i*z.length+j)%z.length=j:=by rw[vi,Nat.mul_add_mod];exact vt hj
 unfold XP;rw[z6,yG h1];simp[h2,hj]
theorem EC{z:List Value}(h:∀u∈z,u.oneCell'=true)(n:Nat):∀u∈XP z n,u.oneCell'=true:=by
 intro u hu;unfold XP at hu;obtain⟨i,hi,rfl⟩:=yc.1 hu
 have hpos:0<z.length:=by
  rcases xx z.length with h|h
  rw[h]at hi;simp at hi;exact h
 have hlt:=Nat.mod_lt i hpos;simp only[List.getD,z1 hlt,Option.getD_some];exact h _ (zk hlt)
theorem OD(z:List Value)(n:Nat):XP z (n+1)=z++XP z n:=by
 apply yu;intro k;by_cases hk:k< (n+1)*z.length
 .have hpos:0<z.length:=by
   rcases xx z.length with h|h
   rw[h]at hk;simp at hk;exact h
  have hd:=Nat.div_add_mod k z.length;have hm:=Nat.mod_lt k hpos;have hq:k/z.length<n+1:=(Nat.div_lt_iff_lt_mul hpos).2 hk;have e:k=k/z.length*z.length+k%z.length:=by rw[vi];exact hd.symm
  rw[e,EB hq hm];by_cases h0:k/z.length=0
  rw[h0,yO,zx,zn hm]
  .obtain⟨q,lQ⟩:=Nat.exists_eq_succ_of_ne_zero h0;rw[lQ,yC,zw (by omega)];rw[show q*z.length+z.length+k%z.length-z.length=q*z.length+k%z.length by omega];rw[EB (by omega) hm]
 rw[zW (by rw[F3];omega),zW (by rw[zh,F3];rw[yC]at hk;omega)]
theorem OE{K:Env}{z:List SV}{vs:List Value}(h:vV K z vs):∀n,vV K (gU n z) (XP vs n)
 |0=>by simp[gU,XP,vV]
 |n+1=>by
  rw[OD];simp only[gU];exact YX h (OE h n)
section
variable {M:Mx}{K:Env}{w:World}{O:vX}{nx:Nat}{ρ:Operand->Value}{lk:Operand->Option SV}{v:SV}{O':vX}{vW:Nat}{dst:Option Tmp}{ty:TypeId}{pos:String}{af:Array Edge}{gd:Option (Nat×Bool)}
theorem UN(hlen:K.length=nx){w:World}{es len cap:Nat}(h:len<=cap):Den (K++ [some ⟨w.heap.size,0,cap⟩]) (.sl (.loc nx) 0 es len none) (.slice (some ⟨w.heap.size,0,none⟩) len cap):=by
 simp only[Den];right
 exact⟨_,0,ZO hlen _,by simp,by simpa using h,by simp,by simp⟩
theorem Tr(A:At M K w O nx ρ lk)(t:TypeId)(len:Nat)(ps:Array (Nat×Operand))(hr:(w5 M.C lk O nx (.buildSlice t len ps)).ok O nx v O' vW):Y7 M K w ⟨dst, .buildSlice t len ps,ty,pos,af,gd⟩ ρ v O' vW:=by
 simp only[w5,Al]at hr;split at hr
 exact hr.elim;rename_i eD hps;obtain⟨jo,F2⟩:=OB A.L hps;split at hr
 case h_2=>exact hr.elim
 rename_i e hs;obtain⟨d,hd,hm⟩:=A.T.qC t (by rw[hs];simp);rw[hs]at hm;simp only[qx]at hm;subst hm;split at hr
 exact hr.elim;rename_i c cs hz;split at hr
 exact hr.elim;rename_i hle;have hle:=zU hle;split at hr
 exact hr.elim;rename_i cs' hf;split at hr
 case h_2=>exact hr.elim
 rename_i rs hch;obtain⟨rfl,rfl,rfl⟩:=hr;have hsh:M.C.T.sh e≠ .other:=A.T.lM e (by rw[hz];simp);obtain⟨ie,z,h1,h2,h3,h4,h5,_⟩:=A.T.zero e hsh (by rw[hz];simp);rw[hz]at h3 h5;obtain⟨ED,hie,uR,_⟩:=A.T.info e hsh;rw[h1]at hie;injection hie with hie;subst hie
 have h3:=vV.mono (η':=K) xy h3;have hzl:z.cells.toList.length=M.C.T.size e:=by rw[ZU h3,h5]
 have hzs:z.cells.size=M.C.T.size e:=by simpa using hzl
 obtain⟨arr,h6,h7,h8⟩:=F0 (cur:=⟨XP z.cells.toList len⟩) hf (OE h3 len) (EC h4 len) jo F2;obtain⟨hc1,mA,_⟩:=V6 hch;have hal:=ZU h7;refine⟨_,X4 w (.cells arr e),_, .inl ?_,zz _ _,GZ A.H e (vs:=arr.toList) len (by rw[mA]at hal;simpa using hal) (by omega) (X7 (Et hch h7) h8),UN A.H.len (zo _),fun _ h=>absurd h (by simp)⟩;have fL:(fun i=>some (i*M.C.T.size e,M.C.T.size e))=Wc M.C.T e:=rfl;rw[<-fL]at h6;have hn:¬(len*M.C.T.size e>16777216):=by omega
 have hcells:len*M.C.T.size e≠0->((Array.range (len*M.C.T.size e)).map fun i=>z.cells[i%z.cells.size]!)=⟨XP z.cells.toList len⟩:=by
  intro h0;apply yD;exact U9 z.cells len _ (by rw[hzs])
 by_cases h0:len*M.C.T.size e=0
 .have hnil:XP z.cells.toList len=[]:=by apply zM.1;rw[F3,hzl,h0]
  rw[hnil]at h6;simp only[Array.toList_map]at h6;simp[execOp,Instr.buildSlice,Z6 hd,Zt h1,uR,h0,Array.range_zero',h6,newRow,X4]
 .have hc:=hcells h0;simp only[execOp,Instr.buildSlice,Sem.run_bind,Z6 hd,Result.andThen_ok,Zt h1,uR,Sem.run_ite,gt_iff_lt];rw[z7 (by simpa using hn),z7 h0];simp only[Sem.run_bind,XT h1 h2,Result.andThen_ok,Sem.run_pure,hc,h6,newRow,run_newObj]
  rfl
theorem Tv(A:At M K w O nx ρ lk)(t:TypeId)(l c:Operand)(hr:(w5 M.C lk O nx (.makeSlice t l c)).ok O nx v O' vW):Y7 M K w ⟨dst, .makeSlice t l c,ty,pos,af,gd⟩ ρ v O' vW:=by
 simp only[w5,Au]at hr;split at hr
 case h_2=>exact hr.elim
 rename_i e hs;obtain⟨d,hd,hm⟩:=A.T.qC t (by rw[hs];simp);rw[hs]at hm;simp only[qx]at hm;subst hm;split at hr
 exact hr.elim;rename_i zc zs hz;split at hr
 case h_2=>exact hr.elim
 rename_i k1 ln hl;split at hr
 case h_2=>exact hr.elim
 rename_i k2 cp hc;obtain⟨⟨b0,b1,b2,b3⟩,rfl,rfl,rfl⟩:=hr;have hlv:=V5 (A.L _ _ hl);have mB:=V5 (A.L _ _ hc);have hsh:M.C.T.sh e≠ .other:=A.T.lM e (by rw[hz];simp);obtain⟨ie,z,h1,h2,h3,h4,h5,_⟩:=A.T.zero e hsh (by rw[hz];simp);rw[hz]at h3 h5;obtain⟨ED,hie,uR,fM⟩:=A.T.info e hsh;rw[h1]at hie;injection hie with hie;subst hie
 have h3:=vV.mono (η':=K) xy h3;have hzl:z.cells.toList.length=M.C.T.size e:=by rw[ZU h3,h5]
 have hzs:z.cells.size=M.C.T.size e:=by simpa using hzl
 have w1:IntKind.i64.wrap ln=ln:=IntWalk.i64_in _ ⟨by omega,by omega⟩;have w2:IntKind.i64.wrap cp=cp:=IntWalk.i64_in _ ⟨by omega,by omega⟩
 refine⟨.slice (some ⟨w.heap.size,0,none⟩) ln.toNat cp.toNat,X4 w (.cells ⟨XP z.cells.toList cp.toNat⟩ e),_, .inl ?_,zz _ _,
  GZ A.H e (vs:=[]) (rs:=List.replicate cp.toNat (zc::zs)) cp.toNat (by show(XP _ _).length=_;rw[F3,hzl]) (by simp) ?_,UN A.H.len (by omega),fun _ h=>absurd h (by simp)⟩
 .have hm:=run_make (P:=M.P) w t e ie z hd h1 h2 k1 k2 ln cp b0 b1 (by rw[fM];exact b3) b2
  have hc:madeCells z.cells (cp.toNat*ie.size)=⟨XP z.cells.toList cp.toNat⟩:=by
   apply yD;unfold madeCells;have:=U9 z.cells cp.toNat (cp.toNat*ie.size) (by rw[uR,hzs])
   first|exact this|(split<;>simp_all)
  rw[hc]at hm;simp only[execOp,hlv,mB,Sem.run_bind,hm,Result.andThen_ok,Sem.run_pure]
  rfl
 .intro i row hi;have hi':=ze.1 hi;obtain⟨hlt,hrow⟩:=hi';simp only[List.getElem_replicate]at hrow;subst hrow;simp only[yK]at hlt;refine⟨h5,fun j sv hj=>?_⟩;obtain⟨u,hu,ep⟩:=Xu h3 hj;refine⟨u,?_,h4 u (zV hu),ep⟩;have hjl:=(ze.1 hu).1;have:=EB (z:=z.cells.toList) hlt hjl;rw[hzl]at this;rw[zx];rw[yX,this];exact hu
theorem OG{K:Env}{arr:Array Value}{o c:Nat}{row vs:List SV}{us:List Value}(hc:uj K arr o row)(hd:vV K vs us)(h1:∀u∈us,u.oneCell'=true)(hle:c+vs.length<=row.length)(hfit:o+c+us.length<=arr.size):
 uj K (arr.toList.take (o+c)++us++arr.toList.drop (o+c+us.length)).toArray o (row.take c++vs++row.drop (c+vs.length)):=by
 have hl:=ZU hd;intro j sv hj
 have qm:∀k,(arr.toList.take (o+c)++us++arr.toList.drop (o+c+us.length))[o+k]?=if k<c then arr[o+k]? else if k<c+us.length then us[k-c]? else arr[o+k]?:=by
  intro k;have ht:(arr.toList.take (o+c)).length=o+c:=by rw[zq];simp;omega
  rw[zR];split
  rw[zn (by omega),zS,zf (by omega)];simp
  .rw[zw (by omega),ht];split
   rw[zn (by omega)];congr 1;omega
   .rw[zw (by omega),y6];rw[show o+c+us.length+(o+k-(o+c)-us.length)=o+k by omega];simp
 have hrow:(row.take c++vs++row.drop (c+vs.length))[j]?=if j<c then row[j]? else if j<c+vs.length then vs[j-c]? else row[j]?:=by
  have ht:(row.take c).length=c:=by rw[zq];omega
  rw[zR];split
  rw[zn (by omega),zS,zf (by omega)]
  .rw[zw (by omega),ht];split
   rw[zn (by omega)]
   .rw[zw (by omega),y6];congr 1;omega
 rw[hrow]at hj;have hg:=qm j;rw[<-hl]at hj
 have key:∀x,(if j<c then arr[o+j]? else if j<c+us.length then us[j-c]? else arr[o+j]?)=some x->(arr.toList.take (o+c)++us++arr.toList.drop (o+c+us.length)).toArray[o+j]?=some x:=by
  intro x hx;rw[<-hx,<-hg];simp
 split at hj
 .rename_i h;obtain⟨u,h2,h3,h4⟩:=hc j sv hj;exact⟨u,key u (by rw[zf h];exact h2),h3,h4⟩
 .rename_i h;split at hj
  .rename_i h';obtain⟨u,h2,h3⟩:=Xu hd hj;exact⟨u,key u (by rw[z7 h,zf h'];exact h2),h1 u (zV h2),h3⟩
  .rename_i h';obtain⟨u,h2,h3,h4⟩:=hc j sv hj;exact⟨u,key u (by rw[z7 h,z7 h'];exact h2),h3,h4⟩
theorem EE{K:Env}{arr:Array Value}{o p n:Nat}{row:List SV}{us:List Value}(hc:uj K arr o row)(hr:row.length=n)(hfit:p+us.length<=arr.size)(hoff:o+n<=p\/p+us.length<=o):
 uj K (arr.toList.take p++us++arr.toList.drop (p+us.length)).toArray o row:=by
 intro j sv hj;obtain⟨u,h2,h3,h4⟩:=hc j sv hj;refine⟨u,?_,h3,h4⟩;have hjl:=(ze.1 hj).1;have ht:(arr.toList.take p).length=p:=by rw[zq];simp;omega
 simp only[zR,yX];rcases hoff with h|h
 rw[zn (by omega),zS,zf (by omega)];simpa using h2
 .rw[zw (by omega),ht,zw (by omega),y6];rw[show p+us.length+(o+j-p-us.length)=o+j by omega];simpa using h2
end
section
variable {M:Mx}{K:Env}{w:World}{O:vX}{nx:Nat}{ρ:Operand->Value}{lk:Operand->Option SV}{v:SV}{O':vX}{vW:Nat}{dst:Option Tmp}{ty:TypeId}{pos:String}{af:Array Edge}{gd:Option (Nat×Bool)}
theorem V8(K:Env):Den K (.uz []) undef:=by
 simp only[Den,vV];exact⟨[],rfl,rfl⟩
theorem OH{arr:Array Value}{es r c:Nat}{rs:List (List SV)}{row vs:List SV}{us:List Value}{cap:Nat}(hsz:arr.size=cap*es)(hcap:rs.length<=cap)
 (hr:∀(i:Nat) (row:List SV),rs[i]?=some row->row.length=es/\uj K arr (0+i*es) row) (hrow:rs[r]?=some row) (hd:vV K vs us) (h1:∀u∈us,u.oneCell'=true) (hle:c+vs.length<=row.length):
 r*es+c+us.length<=arr.size/\
 ∀(i:Nat) (q:List SV),(rs.set r (row.take c++vs++row.drop (c+vs.length)))[i]?=some q->q.length=es/\uj K (arr.toList.take (r*es+c)++us++arr.toList.drop (r*es+c+us.length)).toArray (0+i*es) q:=by
 have hl:=ZU hd;have hlt:=(ze.1 hrow).1;obtain⟨hre,hrc⟩:=hr r row hrow
 have hfit:r*es+c+us.length<=arr.size:=by
  have:(r+1)*es<=cap*es:=ym _ (by omega);rw[yC]at this;omega
 refine⟨hfit,?_⟩;intro i q hi;rw[xB]at hi;split at hi
 .rename_i e;subst e;simp only[hlt,yJ,zi]at hi;subst hi;refine⟨?_,?_⟩;simp only[zh,zq,zD];omega
  .have:=OG (o:=0+r*es) hrc hd h1 hle (by rw[zx];exact hfit);simpa only[zx]using this
 .rename_i e;obtain⟨OI,Tw⟩:=hr i q hi;refine⟨OI,EE (o:=0+i*es) Tw OI hfit ?_⟩;rcases Nat.lt_or_gt_of_ne e with h|h
  .right
   have:(r+1)*es<=i*es:=ym _ h;rw[yC]at this;omega
  .left
   have:(i+1)*es<=r*es:=ym _ h;rw[yC]at this;omega
theorem OJ(A:At M K w O nx ρ lk)(t:TypeId)(x y:Operand){p sv:SV}(hsh:M.C.T.sh t≠ .other)(oW:¬M.C.T.size t=0)(hx:lk x=some p)(hy:lk y=some sv)(hr:(Gy M.C.T (fun i=>u5 i O) t p sv).ok O nx v O' vW):Y7 M K w ⟨dst, .store t x y,ty,pos,af,gd⟩ ρ v O' vW:=by
 have uv:=A.L _ _ hx;have qf:=A.L _ _ hy;unfold Gy at hr;split at hr
 case h_2=>exact hr.elim
 rename_i mC i r es c;simp only[Den]at uv;obtain⟨en,hb,uv⟩:=uv;simp only[Env.get]at hb
 have step:∀{h0 h:Hp} {arr:Array Value} {tt:TypeId} {fz:Nat×Nat} {us:List Value},u5 i O=some h0->w.heap[en.g]?=some (.cells arr tt fz)->Vu arr.size fz->(ρ y).cells.toList=us->us.length=M.C.T.size t->
  (∀u∈us,u.oneCell'=true)->en.base+(r*es+c)+us.length<=arr.size->
  (∀w':World,w'.heap[en.g]?=some (.cells (arr.toList.take (en.base+(r*es+c))++us++arr.toList.drop (en.base+(r*es+c)+us.length)).toArray tt fz)->vT K w' true (.loc i) h)->rY h=true->v= .uz []->O'=uI i h O->vW=nx->
  Y7 M K w ⟨dst, .store t x y,ty,pos,af,gd⟩ ρ v O' vW:=by
  intro h0 h arr tt fz us h1 h2 h3 h4 h5 h7 h8 h9 hl e1 e2 e3;subst e1 e2 e3;obtain⟨ie,hie,uR,_⟩:=A.T.info t hsh;have hst:=X2 (P:=M.P) en.g (en.base+(r*es+c)) tt fz us 0 arr w h2 (by simpa using h8) h3 h7;simp only[Nat.add_zero]at hst;refine⟨undef,w.setRow en.g _,K, .inr ⟨?_,rfl⟩,zu,A.H.kZ h1 hb (fun k hk=>setRow_other w en.g k _ hk) (setRow_size _ _ _) rfl rfl rfl (h9 _ (setRow_heap w en.g arr _ tt fz h2)) (hl:=hl),V8 K,fun h=>by cases h⟩
  have hcs:(ρ y).cells.size=ie.size:=by
   have:(ρ y).cells.toList.length=M.C.T.size t:=by rw[h4,h5]
   rw[uR];simpa using this
  simp only[execOp,uv,Instr.storeAt,Instr.sureAddr,storeVar,Sem.run_bind,Sem.run_pure,Result.andThen_ok,Zt hie,Sem.run_ite,hcs];rw[z7 (by simp)];simp only[Sem.run_bind,Sem.run_pure,Result.andThen_ok,h4,hst]
 split at hr
 .rename_i row hh;obtain⟨u9,_⟩:=A.H.own.1 i _ hh;simp only[vT]at u9;obtain⟨cu,arr,T,fz,h1,h2,h3,h4⟩:=u9;simp only[Env.get]at h1;rw[hb]at h1;injection h1 with h1;injection h1 with h1;subst h1
  split at hr
  case h_2=>exact hr.elim
  rename_i vs hz hvs;have hz:=Zr hz;subst hz;split at hr
  case h_2=>exact hr.elim
  rename_i row' hlen hsp;have hlen:=qD.1 hlen;obtain⟨rfl,hle⟩:=Vv hsp;obtain⟨e1,e2,e3⟩:=hr;obtain⟨h5,h6⟩:=UM qf hvs;have hl:=ZU h5
  have hfit:en.base+c+(ρ y).cells.toList.length<=arr.size:=by
   rw[hl];obtain⟨u,hu,_⟩:=h4 (c+vs.length-1) _ (z1 (by omega));have:=(zA.1 hu).1;omega
  refine step hh h2 (h3 trivial) rfl (by rw[hl,hlen]) h6 (by rw[yO,zx];exact hfit) ?_ rfl e1 e2 e3;intro w' hw';rw[yO,zx]at hw';simp only[vT];refine⟨en,_,T,fz,hb,hw',fun _=>?_,OG h4 h5 h6 hle hfit⟩
  have:(arr.toList.take (en.base+c)++(ρ y).cells.toList++arr.toList.drop (en.base+c+(ρ y).cells.toList.length)).toArray.size=arr.size:=by
   simp only[ye,zh,zq,zD,Array.length_toList]at hfit⊢;omega
  rw[this];exact h3 trivial
 .rename_i es' rs hh;obtain⟨u9,_⟩:=A.H.own.1 i _ hh;simp only[vT]at u9;split at hr
  case h_2=>exact hr.elim
  rename_i wF;have wF:=Zr wF;subst wF;simp only[Env.get]at u9;rcases u9 with⟨h1,_⟩|⟨cu,arr,T,fz,h1,h2,h3,h4⟩
  rw[hb]at h1;cases h1;rw[hb]at h1;injection h1 with h1;injection h1 with h1;subst h1
  obtain⟨F4,EF,EG,QE⟩:=h3 trivial;rw[QE]at h4 step
  have hsize:∀{o:Nat} {us:List Value},o+us.length<=arr.size->(arr.toList.take o++us++arr.toList.drop (o+us.length)).toArray.size=arr.size:=by
   intro o us h;simp only[ye,zh,zq,zD,Array.length_toList];omega
  have one:∀{hr:(match cellsOf sv with
   |some vs=>match WC vs (M.C.T.size t)with
    |true=>ux.get rs r fun row=>match VK c row vs with
     |some row=> .kZ i (.rows es (rs.set r row)) (.uz [])
     |none=> .fail
    |false=> .fail
   |none=> .fail).ok O nx v O' vW},Y7 M K w ⟨dst, .store t x y,ty,pos,af,gd⟩ ρ v O' vW:=by
   intro hr;split at hr
   case h_2=>exact hr.elim
   rename_i vs hvs;split at hr
   case h_2=>exact hr.elim
   rename_i hlen;have hlen:=qD.1 hlen;obtain⟨row,hrow,hr⟩:=hr;simp only at hr;split at hr
   case h_2=>exact hr.elim
   rename_i row' hsp;obtain⟨rfl,hle⟩:=Vv hsp;obtain⟨e1,e2,e3⟩:=hr;obtain⟨h5,h6⟩:=UM qf hvs;have hl:=ZU h5;obtain⟨hfit,hrows⟩:=OH EF EG h4 hrow h5 h6 hle;refine step hh h2 F4 rfl (by rw[hl,hlen]) h6 (by rw[zx];exact hfit) ?_ rfl e1 e2 e3;intro w' hw';rw[zx]at hw';simp only[vT];right
   have hz:=hsize hfit;exact⟨en,_,T,fz,hb,hw',fun _=>⟨by rw[hz];exact F4,by rw[hz];exact EF,by simpa using EG,QE⟩,by rw[QE];exact hrows⟩
  have whole:∀{rs':List (List SV)} {us:List Value},rs'.length=rs.length->r=0->c=0->(ρ y).cells.toList=us->us.length=M.C.T.size t->uh K es rs' us->(∀u∈us,u.oneCell'=true)->v= .uz []->O'=uI i (.rows es rs') O->vW=nx->
   Y7 M K w ⟨dst, .store t x y,ty,pos,af,gd⟩ ρ v O' vW:=by
   intro rs' us q1 q2 q3 q4 q5 q6 q7 e1 e2 e3;subst q2 q3;have hl:=V7 q6
   have hfit:0+us.length<=arr.size:=by
    have:rs.length*es<=en.cap*es:=ym _ EG;rw[hl,q1];omega
   refine step hh h2 F4 q4 q5 q7 (by rw[yO];exact hfit) ?_ rfl e1 e2 e3;intro w' hw';simp only[vT];right
   have hz:=hsize hfit;simp only[yO,Nat.add_zero]at hw';refine⟨en,_,T,fz,hb,hw',fun _=>⟨by rw[hz];exact F4,by rw[hz];exact EF,by omega,QE⟩,?_⟩;rw[QE];intro k row hk;obtain⟨p1,p2⟩:=X7 q6 q7 k row hk;refine⟨p1,fun j mC hj=>?_⟩;obtain⟨u,p3,p4,p5⟩:=p2 j mC hj;refine⟨u,?_,p4,p5⟩;have hlt:=(zA.1 p3).1;simp only[List.take_zero,List.nil_append,yX];rw[zn (by simpa using hlt)];simpa using p3
  split at hr
  .rename_i n e hs;split at hr
   case h_2=>exact hr.elim
   rename_i fe hst;have fe:=Zr fe;have hst:=Zr hst;split at hr
   .rename_i gW rs';obtain⟨⟨q1,q2,rfl,q3,q4⟩,e1,e2,e3⟩:=hr;simp only[Den]at qf;obtain⟨us,qf,q5,q6⟩:=qf;refine whole (us:=us) (by omega) q1 q2 (by rw[qf];rfl) ?_ q5 q6 e1 e2 e3;rw[V7 q5,q3,hst]
   .rename_i cs;split at hr
    case h_2=>exact hr.elim
    rename_i rs' hch;obtain⟨⟨q1,q2,q3⟩,e1,e2,e3⟩:=hr;simp only[Den]at qf;obtain⟨us,qf,q5,q6⟩:=qf;obtain⟨q7,q8,_⟩:=V6 hch;refine whole (us:=us) (by omega) q1 q2 (by rw[qf];rfl) ?_ (Et hch q5) q6 e1 e2 e3;rw[ZU q5,q8,hst]
   exact hr.elim
  exact one (hr:=hr)
 exact hr.elim
end
def ou:CK->SV->SV->Option Bool
 | .int k, .int k1 a, .int k2 b=>match XQ k k1&&XQ k k2 with|true=>some (a==b)|false=>none
 | .str, .str a, .str b=>some (a==b)
 | .bool, .bool a, .bool b=>some (a==b)
 |_,_,_=>none
def both:Option Bool->Option Bool->Option Bool
 |some a,some b=>some (a&&b)
 |_,_=>none
theorem Tx{a b:Option Bool}:(both a b).isSome=true<->a.isSome=true/\b.isSome=true:=by cases a<;>cases b<;>simp[both]
theorem Ty{a b:Option Bool}:both a b=some true<->a=some true/\b=some true:=by cases a<;>cases b<;>simp[both]
theorem OL{k:CK}{ks:List CK}{x y:SV}{xs ys:List SV}:Zi (k::ks) (x::xs) (y::ys)=both (ou k x y) (Zi ks xs ys):=by
 cases k with
 |int k=>
  cases x with
  |int k1 a=>
   cases y with
   |int k2 b=>
    simp only[Zi,ou];cases XQ k k1&&XQ k k2<;>cases Zi ks xs ys<;>rfl
   |_=>rfl
  |_=>rfl
 |str=>
  cases x with
  |str a=>
   cases y with
   |str b=>simp only[Zi,ou];cases Zi ks xs ys<;>rfl
   |_=>rfl
  |_=>rfl
 |bool=>
  cases x with
  |bool a=>
   cases y with
   |bool b=>simp only[Zi,ou];cases Zi ks xs ys<;>rfl
   |_=>rfl
  |_=>rfl
theorem Tz{k:CK}{x y:SV}(h1:(ou k x x).isSome=true)(h2:(ou k y y).isSome=true):(ou k x y).isSome=true:=by
 cases k with
 |int k=>
  cases x with
  |int k1 a=>
   cases y with
   |int k2 b=>
    simp only[ou]at h1 h2⊢;cases e1:XQ k k1<;>cases e2:XQ k k2<;>simp_all
   |_=>cases h2
  |_=>cases h1
 |str=>
  cases x with
  |str a=>cases y with
   |str b=>rfl
   |_=>cases h2
  |_=>cases h1
 |bool=>
  cases x with
  |bool a=>cases y with
   |bool b=>rfl
   |_=>cases h2
  |_=>cases h1
theorem TA{K:Env}{k:CK}{x y:SV}{u v:Value}(h:ou k x y=some true)(h1:Den K x u)(h2:Den K y v):u=v/\∀n,Instr.sameBits n u u=true:=by
 cases k with
 |int k=>
  cases x with
  |int k1 a=>
   cases y with
   |int k2 b=>
    simp only[ou]at h;split at h
    .rename_i hk;simp only[zj,wN]at hk;simp only[zi,xh]at h;simp only[Den]at h1 h2;obtain⟨e1,e2⟩:=hk;subst h1;subst h2;subst h;subst e1;subst e2;exact⟨rfl,fun n=>by cases n<;>simp[Instr.sameBits]⟩
    cases h
   |_=>cases h
  |_=>cases h
 |str=>
  cases x with
  |str a=>cases y with
   |str b=>
    simp only[ou,zi,xh]at h;simp only[Den]at h1 h2;subst h1;subst h2;subst h;exact⟨rfl,fun n=>by cases n<;>(show(a.toArray==a.toArray)=true;simp)⟩
   |_=>cases h
  |_=>cases h
 |bool=>
  cases x with
  |bool a=>cases y with
   |bool b=>
    simp only[ou,zi,xh]at h;simp only[Den]at h1 h2;subst h1;subst h2;subst h;exact⟨rfl,fun n=>by cases n<;>simp[Instr.sameBits]⟩
   |_=>cases h
  |_=>cases h
theorem OM:∀{ks:List CK} {xs ys:List SV},(Zi ks xs xs).isSome=true->(Zi ks ys ys).isSome=true->(Zi ks xs ys).isSome=true
 | [],xs,ys,h1,h2=>by cases xs<;>cases ys<;>simp_all[Zi]
 |k::ks,[],ys,h1,h2=>by cases k<;>simp[Zi]at h1
 |k::ks,x::xs,[],h1,h2=>by cases k<;>simp[Zi]at h2
 |k::ks,x::xs,y::ys,h1,h2=>by
  rw[OL,Tx]at h1 h2⊢;exact⟨Tz h1.1 h2.1,OM h1.2 h2.2⟩
theorem UO{K:Env}:∀{ks:List CK} {xs ys:List SV} {us vs:List Value},Zi ks xs ys=some true->vV K xs us->vV K ys vs->us=vs/\∀u∈us,∀n,Instr.sameBits n u u=true
 | [],[],[],us,vs,h,h1,h2=>by
   simp only[vV]at h1 h2;subst h1;subst h2;simp
 | [],_::_,_,us,vs,h,h1,h2=>by simp[Zi]at h
 | [],[],_::_,us,vs,h,h1,h2=>by simp[Zi]at h
 |k::ks,[],ys,us,vs,h,h1,h2=>by cases k<;>simp[Zi]at h
 |k::ks,x::xs,[],us,vs,h,h1,h2=>by cases k<;>simp[Zi]at h
 |k::ks,x::xs,y::ys,us,vs,h,h1,h2=>by
  rw[OL,Ty]at h;simp only[vV]at h1 h2;obtain⟨u,us,rfl,a1,a2⟩:=h1;obtain⟨v,vs,rfl,b1,b2⟩:=h2;obtain⟨e1,s1⟩:=TA h.1 a1 b1;obtain⟨e2,s2⟩:=UO h.2 a2 b2;subst e1;subst e2;exact⟨rfl,fun w hw=>by rcases zL.1 hw with rfl|hw;exact s1;exact s2 w hw⟩
theorem ON{p:Nat->Value->Value->Bool}{n:Nat}:∀{l:List Value},(∀u∈l,p n u u=true)->((l.zip l).all fun(x,y)=>p n x y)=true
 | [],_=>rfl
 |u::us,h=>by simp only[List.zip_cons_cons,List.all_cons,zj];exact⟨h u (by simp),ON fun w hw=>h w (by simp[hw])⟩
theorem F5{K:Env}{ks:Bool×List CK}{a b:SV}{u v:Value}(h:bE ks a b=true)(h1:Den K a u)(h2:Den K b v):u=v/\Instr.sameBits 10000 u u=true:=by
 obtain⟨f,ks⟩:=ks
 have hq:V4 (f,ks) a b=some true:=by
  unfold bE at h;cases hq:V4 (f,ks) a b with
  |none=>rw[hq]at h;cases h
  |some r=>rw[hq]at h;exact z8 some h
 cases f with
 |false=>
  simp only[V4,ZT]at hq;obtain⟨e,s⟩:=UO hq (show vV K [a] [u]from by simp only[vV];exact⟨u,[],rfl,h1,rfl⟩) (show vV K [b] [v]from by simp only[vV];exact⟨v,[],rfl,h2,rfl⟩);exact⟨by simpa using e,s u (by simp) _⟩
 |true=>
  cases a with
  |agg xs=>
   cases b with
   |agg ys=>
    simp only[V4,ZT]at hq;simp only[Den]at h1 h2;obtain⟨us,rfl,h1,_⟩:=h1;obtain⟨vs,rfl,h2,_⟩:=h2;obtain⟨e,s⟩:=UO hq h1 h2;subst e;refine⟨rfl,?_⟩;show(us.toArray.size==us.toArray.size&& (us.toArray.toList.zip us.toArray.toList).all fun(x,y)=>Instr.sameBits 9999 x y)=true
    simp only[beq_self_eq_true,xd];exact ON fun w hw=>s w (by simpa using hw) _
   |_=>simp[V4,ZT]at hq
  |_=>simp[V4,ZT]at hq
theorem TC{ks:Bool×List CK}{a b:SV}(h1:JF ks a=true)(h2:JF ks b=true):∃r,V4 ks a b=some r:=by
 obtain⟨f,ks⟩:=ks;simp only[JF,V4]at h1 h2⊢;cases ha:ZT f a with
 |none=>rw[ha]at h1;cases h1
 |some xs=>
  cases hb:ZT f b with
  |none=>rw[hb]at h2;cases h2
  |some ys=>
   rw[ha]at h1;rw[hb]at h2;exact vG.1 (OM h1 h2)
def oZ(K:Env):List (List SV)->List MapEntry->Prop
 | [],[]=>True
 |r::rs,e::es=>vV K r [e.key,e.val]/\oZ K rs es
 |_,_=>False
theorem s4{K:Env}:∀{rs:List (List SV)} {es:List MapEntry} {i:Nat},es.length=rs.length->(∀j row,rs[j]?=some row->∃en:MapEntry,es[j]?=some en/\en.born=i+j/\vV K row [en.key,en.val])->oZ K rs es
 | [],[],_,_,_=>trivial
 | [],_::_,_,h,_=>by simp at h
 |_::_,[],_,h,_=>by simp at h
 |r::rs,e::es,i,hl,h=>by
  obtain⟨en,h1,_,h3⟩:=h 0 r rfl;simp at h1;subst h1
  exact⟨h3,s4 (i:=i+1) (by simpa using hl) fun j row hr=>by
   obtain⟨en,g1,g2,g3⟩:=h (j+1) row (by simpa using hr)
   exact⟨en,by simpa using g1,by omega,g3⟩⟩
def EH(K:Env):Option (Nat×SV)->Option (Nat×Value)->Prop
 |none,f=>f=none
 |some (j,v),f=> ∃x,f=some (j,x)/\Den K v x
theorem OO{P:Program}{T:wU}(hT:uC P T){t:TypeId}{ks:Bool×List CK}(ht:T.key t=some ks){K:Env}{w:World}{key:SV}{u:Value}(hk:JF ks key=true)(hu:Den K key u):
 ∀{rs:List (List SV)} {es:List MapEntry} {i:Nat},JP ks rs->oZ K rs es->∃f,(Instr.findAsking t u es i).run P w= .ok f w/\(∀d,P.underlying t=some d->Instr.findNow d u es i=none\/Instr.findNow d u es i=some f)/\EH K (Xs ks key i rs) f/\∀j x,f=some (j,x)->i<=j/\∃e,es[j-i]?=some e/\e.val=x
 | [],[],i,_,_=>⟨none,by simp[Instr.findAsking],fun d _=> .inr rfl,rfl,fun _ _ h=>by cases h⟩
 | [],_::_,_,_,h=>h.elim
 |_::_,[],_,_,h=>h.elim
 |r::rs,e::es,i,ho,h=>by
  obtain⟨k,v,rfl,fh⟩:=ho r (by simp);obtain⟨hd,hr⟩:=h;simp only[vV]at hd;obtain⟨_,_,e1,hdk,_,_,e2,pe,e3⟩:=hd;cases e1;cases e2
  obtain⟨b,hb⟩:=TC hk fh;obtain⟨g1,g2⟩:=(hT.key t ks ht).2.1 w K key k u e.key b hb hu hdk;have OP:bE ks key k=b:=by simp only[bE,hb]
  cases b with
  |true=>
   refine⟨some (i,e.val),by simp[Instr.findAsking,g1],fun d hd=>?_,?_,fun j x h=>?_⟩;rcases g2 d hd with h|h<;>simp[Instr.findNow,h]
   simp only[Xs,OP];exact⟨_,rfl,pe⟩
   .simp only[zi,yF]at h;obtain⟨rfl,rfl⟩:=h;exact⟨zo _,e,by simp,rfl⟩
  |false=>
   obtain⟨f,f1,f2,f3,f4⟩:=OO hT ht hk hu (i:=i+1) (rs:=rs) (es:=es) (fun r hr=>ho r (by simp[hr])) hr;refine⟨f,by simp[Instr.findAsking,g1];exact f1,fun d hd=>?_,?_,fun j x h=>?_⟩
   .rcases g2 d hd with h|h
    simp[Instr.findNow,h];simp only[Instr.findNow,h];exact f2 d hd
   simp only[Xs,OP];exact f3
   .obtain⟨h1,e',h2,h3⟩:=f4 j x h;refine⟨by omega,e',?_,h3⟩;rw[show j-i=(j-(i+1))+1 by omega];simpa using h2
theorem Vw{P:Program}{T:wU}(hT:uC P T){t:TypeId}{ks:Bool×List CK}(ht:T.key t=some ks){K:Env}{w:World}{key:SV}{u:Value}(hk:JF ks key=true)(hu:Den K key u)
 {rs:List (List SV)} {es:List MapEntry} (ho:JP ks rs) (hm:oZ K rs es):∃f,(Instr.findKey t u es).run P w= .ok f w/\EH K (Xs ks key 0 rs) f/\∀j x,f=some (j,x)->∃e,es[j]?=some e/\e.val=x:=by
 obtain⟨f,f1,f2,f3,f4⟩:=OO hT ht hk hu (i:=0) (w:=w) ho hm;obtain⟨d,hd⟩:=(hT.key t ks ht).2.2;refine⟨f,?_,f3,fun j x h=>by simpa using(f4 j x h).2⟩;rcases f2 d hd with h|h
 simp[Instr.findKey,Z6 hd,h,f1];simp[Instr.findKey,Z6 hd,h]
theorem Ua{P:Program}{T:wU}(hT:uC P T){t:TypeId}{ks:Bool×List CK}(ht:T.key t=some ks){K:Env}{w:World}{key:SV}{u:Value}(hk:JF ks key=true)(hu:Den K key u)
 {rs:List (List SV)} {es:List MapEntry} (ho:JP ks rs) (hm:oZ K rs es):∃f,(Instr.findKey t u es).run P w= .ok f w/\EH K (Xs ks key 0 rs) f:=
 let⟨f,h1,h2,_⟩:=Vw hT ht hk hu ho hm;⟨f,h1,h2⟩
theorem Wg{ks:Bool×List CK}{key:SV}:∀{rs:List (List DC)} {i:Nat},Xs ks key i (Zy rs)=(findD ks key i rs).map fun p=>(p.1,ZS p.2)
 | [],_=>rfl
 |r::rs,i=>by
  have ih:=Wg (ks:=ks) (key:=key) (rs:=rs) (i:=i+1);unfold Zy at ih⊢
  match r with
  | []=>rfl
  | [a]=>rfl
  |a::b::c::l=>rfl
  | [k,v]=>
    simp only[zG,yP,Xs,findD];cases bE ks key (ZS k)
    exact ih
    rfl
theorem F6{ks:Bool×List CK}{key:SV}:∀{rs:List (List DC)} {i j:Nat} {v:DC},findD ks key i rs=some (j,v)->∃k,i<=j/\rs[j-i]?=some [k,v]/\bE ks key (ZS k)=true
 | [],i,j,v,h=>by simp[findD]at h
 |r::rs,i,j,v,h=>by
  unfold findD at h;split at h
  .rename_i k u;split at h
   .rename_i hk;simp only[zi,yF]at h;obtain⟨rfl,rfl⟩:=h;exact⟨k,zo _,by simp,hk⟩
   .obtain⟨k',h1,h2,h3⟩:=F6 h;refine⟨k',by omega,?_,h3⟩;have:j-i=(j-(i+1))+1:=by omega
    rw[this];simpa using h2
  cases h
def uB(rs:List (List DC))(r c:Nat)(d:DC):List (List DC):=rs.modify r fun row=>row.set c d
theorem Yl{rs:List (List DC)}{r c:Nat}{d:DC}(i:Nat):(uB rs r c d)[i]?=if i=r then(rs[i]?).map (fun row=>row.set c d)else rs[i]?:=by
 unfold uB;rw[yo];by_cases h:r=i
 subst h;simp;rw[z7 (fun e=>h e.symm)];simp[h]
theorem uk{rs:List (List DC)}{i j es:Nat}{rows:List (List SV)}:Ye rs i j=some (es,rows)<->∃row,rs[i]?=some row/\row[j]?=some (.uA es rows):=by
 unfold Ye;constructor
 .intro h;split at h
  .rename_i row hr;split at h
   .rename_i es' rows' hc;simp only[zi,yF]at h;obtain⟨rfl,rfl⟩:=h;exact⟨row,hr,hc⟩
   cases h
  cases h
 .rintro⟨row,hr,hc⟩;rw[hr];simp only[hc]
theorem XE{rs:List (List DC)}{r c:Nat}{d:DC}{i j:Nat}{x:Nat×List (List SV)}(h:Ye (uB rs r c d) i j=some x):Ye rs i j=some x\/(i=r/\j=c/\d= .uA x.1 x.2):=by
 obtain⟨es,rows⟩:=x;obtain⟨row,hr,hc⟩:=uk.1 h;rw[Yl]at hr;by_cases hi:i=r
 .subst hi;rw[zf rfl]at hr;obtain⟨dD,h0,rfl⟩:=zC.1 hr;rw[xB]at hc;by_cases hj:c=j
  .subst hj;rw[zf rfl]at hc;split at hc
   .injection hc with hc;exact .inr ⟨rfl,rfl,hc⟩
   cases hc
  .rw[z7 hj]at hc;exact .inl (uk.2 ⟨dD,h0,hc⟩)
 .rw[z7 hi]at hr;exact .inl (uk.2 ⟨row,hr,hc⟩)
theorem JZ{rs:List (List DC)}{r c:Nat}{sv:SV}{i j:Nat}{x:Nat×List (List SV)}(h:Ye (uB rs r c (.v sv)) i j=some x):Ye rs i j=some x/\¬(i=r/\j=c):=by
 refine⟨(XE h).elim id (fun h=>by cases h.2.2),?_⟩;rintro⟨rfl,rfl⟩;obtain⟨es,rows⟩:=x;obtain⟨row,hr,hc⟩:=uk.1 h;rw[Yl,zf rfl]at hr;obtain⟨dD,h0,rfl⟩:=zC.1 hr;rw[xB,zf rfl]at hc;split at hc
 cases hc
 cases hc
theorem Y9{rs:List (List DC)}{i:Nat}:(Zy rs)[i]?=(rs[i]?).map fun r=>r.map ZS:=by unfold Zy;rw[z6]
theorem Ya{rs:List (List DC)}:(Zy rs).length=rs.length:=by unfold Zy;rw[zy]
theorem Wh{rs:List (List DC)}{r c:Nat}{d:DC}(i:Nat):(Zy (uB rs r c d))[i]?=if i=r then((Zy rs)[i]?).map (fun row=>row.set c (ZS d))else(Zy rs)[i]?:=by
 rw[Y9,Yl,Y9];split
 cases rs[i]?<;>simp[vj]
 rfl
theorem EI{rs:List (List DC)}{r c:Nat}{d:DC}:(uB rs r c d).length=rs.length:=by unfold uB;rw[List.length_modify]
section
variable {M:Mx}{K:Env}{w w':World}{O:vX}{nx:Nat}
def OQ(K:Env)(w:World)(own:Bool)(b:wq)(mp:Bool)(es:Nat)(fs:List (List SV)):Prop:=match mp with|true=>jK K w b fs|false=>uM K w own b es fs
theorem UP{own:Bool}{b:wq}{mp:Bool}{es:Nat}{rs:List (List DC)}(d:vT K w own b (.deep mp es rs)){r c:Nat}{row:List DC}{dc:DC}(hr:rs[r]?=some row)(hc:row[c]?=some dc):
 ∃e o v,K.get b=some (some e)/\w.heap[e.g]?=some o/\ZI o es r c=some v/\Den K (ZS dc) v/\wW K w e.g o es rs:=by
 have hfr:(Zy rs)[r]?=some (row.map ZS):=by rw[Y9,hr];rfl
 have s5:(row.map ZS)[c]?=some (ZS dc):=by rw[z6,hc];rfl
 cases mp
 .simp only[vT]at d;obtain⟨d1,d2⟩:=d;rcases d1 with⟨_,h2⟩|⟨e,arr,T,fz,h1,h2,h3,h4⟩
  rw[h2]at hfr;cases hfr;obtain⟨h5,h6⟩:=d2 e h1;obtain⟨v,h7,_,h8⟩:=(h4 r _ hfr).2 c _ s5;rw[h5,zx]at h7;exact⟨e,_,v,h1,h2,h7,h8,h6 _ h2⟩
 .simp only[vT]at d;obtain⟨⟨d1,d0⟩,d2⟩:=d;obtain⟨e,uK,h1,h2,h3,h4,h5⟩:=d1;obtain⟨_,h6⟩:=d2 e h1;obtain⟨en,g1,_,g3⟩:=h5 r _ hfr;obtain⟨v,hv,hd⟩:=Xu g3 s5;refine⟨e,_,v,h1,h3,?_,hd,h6 _ h3⟩;simp only[ZI,g1,Option.map_some]
  match c,hv with
  |0,hv=>simpa using hv
  |1,hv=>simpa using hv
  |c+2,hv=>simp at hv
theorem EJ{own:Bool}{b:wq}{mp:Bool}{es:Nat}{rs:List (List DC)}(d:vT K w own b (.deep mp es rs)){η':Env}(hp:K<+:η'){r c:Nat}{dc:DC}
 (hv:∀e o v,K.get b=some (some e)->w.heap[e.g]?=some o->ZI o es r c=some v->Den η' (ZS dc) v):
 OQ η' w own b mp es (Zy (uB rs r c dc)):=by
 cases mp
 .simp only[vT]at d;obtain⟨d1,d2⟩:=d;rcases d1 with⟨h1,h2⟩|⟨e,arr,T,fz,h1,h2,h3,h4⟩
  .refine .inl ⟨Env.uc hp h1,?_⟩;apply zM.1;rw[Ya,EI,<-Ya,h2];rfl
  .refine .inr ⟨e,arr,T,fz,Env.uc hp h1,h2,by rw[Ya,EI,<-Ya];exact h3,fun i row hr=>?_⟩;rw[Wh]at hr;obtain⟨h5,_⟩:=d2 e h1;split at hr
   .rename_i hi;subst hi;obtain⟨dD,h0,rfl⟩:=zC.1 hr;obtain⟨g1,g2⟩:=h4 i dD h0;refine⟨by rw[xO];exact g1,fun j sv hj=>?_⟩;rw[xB]at hj;split at hj
    .rename_i TD;subst TD;split at hj
     .rename_i hlt;injection hj with hj;subst hj;obtain⟨v,k1,k2,_⟩:=g2 c _ (z1 hlt);refine⟨v,k1,k2,hv e _ v h1 h2 ?_⟩;rw[h5,zx]at k1;exact k1
     cases hj
    .obtain⟨v,k1,k2,k3⟩:=g2 j sv hj;exact⟨v,k1,k2,k3.mono hp⟩
   exact⟨(h4 i row hr).1,(h4 i row hr).2.mono hp⟩
 .simp only[vT]at d;obtain⟨⟨d1,d0⟩,d2⟩:=d;obtain⟨e,uK,h1,h2,h3,h4,h5⟩:=d1;refine⟨e,uK,Env.uc hp h1,h2,h3,by rw[Ya,EI,<-Ya];exact h4,fun i row hr=>?_⟩;rw[Wh]at hr;split at hr
  .rename_i hi;subst hi;obtain⟨dD,h0,rfl⟩:=zC.1 hr;obtain⟨en,g1,g2,g3⟩:=h5 i dD h0;refine⟨en,g1,g2,?_⟩;have mD:=fun v (hc:ZI (.map uK uK.size) es i c=some v)=>hv e _ v h1 h3 hc;simp only[ZI,g1,Option.map_some,zi]at mD;have g3:=g3.mono hp
   match dD,c,mD,g3 with
   | [],c,_,g3=>simpa using g3
   | [a],0,mD,g3=>simp[vV]at g3
   |a::b::l,0,mD,g3=>
    simp only[List.set_cons_zero,vV]at g3⊢;obtain⟨u,us,q1,q2,q3⟩:=g3;injection q1 with q1 s6;subst q1 s6;exact⟨_,_,rfl,mD _ rfl,q3⟩
   | [a],c+1,mD,g3=>simp[vV]at g3
   |a::b::l,1,mD,g3=>
    simp only[List.set_cons_succ,List.set_cons_zero,vV]at g3⊢;obtain⟨u,us,q1,q2,u',us',q3,q4,q5⟩:=g3;injection q1 with q1 s6;subst q1 s6;injection q3 with q3 EK;subst q3 EK;exact⟨_,_,rfl,q2,_,_,rfl,mD _ rfl,q5⟩
   |a::b::l,c+2,mD,g3=>
    have:(a::b::l).set (c+2) (ZS dc)=a::b::l:=by
     simp only[vV]at g3;obtain⟨u,us,q1,q2,u',us',q3,q4,q5⟩:=g3;injection q1 with q1 s6;subst q1 s6;injection q3 with q3 EK;subst q3 EK;cases l with
     |nil=>rfl
     |cons x l=>simp[vV]at q5
    rw[this];exact g3
  .obtain⟨en,g1,g2,g3⟩:=h5 i row hr;exact⟨en,g1,g2,g3.mono hp⟩
theorem vT.wJ{own:Bool}{b:wq}{mp:Bool}{es:Nat}{rs:List (List DC)}(d:vT K w own b (.deep mp es rs)):(∃x,K.get b=some x)/\uO K w b es rs/\(mp=true->es=2):=by
 cases mp
 .simp only[vT]at d;exact⟨let⟨x,h,_⟩:=d.1.aQ;⟨x,h⟩,d.2,fun h=>by cases h⟩
 .simp only[vT]at d;exact⟨let⟨x,h,_⟩:=d.1.1.aQ;⟨x,h⟩,d.2,fun _=>d.1.2⟩
theorem vT.qM{own:Bool}{b:wq}{mp:Bool}{es:Nat}{rs:List (List DC)}(h:OQ K w own b mp es (Zy rs))(h0:mp=true->es=2)(h2:uO K w b es rs):vT K w own b (.deep mp es rs):=by
 cases mp
 simp only[vT];exact⟨h,h2⟩;simp only[vT];exact⟨⟨h,h0 rfl⟩,h2⟩
theorem vR.take(H:vR M K w O nx){i:Nat}{mp:Bool}{es:Nat}{rs:List (List DC)}(hi:u5 i O=some (.deep mp es rs)){r c es':Nat}{row:List DC}{rows:List (List SV)}(hr:rs[r]?=some row)(hc:row[c]?=some (.uA es' rows)):
 ∃x,vR M (K++ [x]) w ((nx, .rows es' rows)::uI i (.deep mp es (uB rs r c (.v (.sl (.loc nx) 0 es' rows.length none)))) O) (nx+1):=by
 obtain⟨u9,hF⟩:=H.own.1 i _ hi;obtain⟨e,o,v,he,ho,hv,_,hK⟩:=UP u9 hr hc;have wY:Ye rs r c=some (es',rows):=uk.2 ⟨row,hr,hc⟩;obtain⟨v',F7,hks,EL⟩:=hK.sat r c es' rows wY;rw[hv]at F7;injection F7 with F7;subst F7
 have s7:∀k,v.ownBlock=some k->vY K w (.loc i) (.deep mp es rs) k:=fun k hk=>⟨e,he, .inr (by simp only[uA];exact⟨o,r,c,_,v,ho,wY,hv,hk⟩)⟩;obtain⟨_,hD,h0⟩:=u9.wJ;have hsome:(u5 i O).isSome:=by rw[hi];rfl
 obtain⟨x,hx,iF,hnew,gb⟩:∃x:Option wZ,(∀e',x=some e'->v.ownBlock=some e'.g)/\(∀e',x=some e'->e'.g<w.heap.size)/\vT (K++ [x]) w true (.loc nx) (.rows es' rows)/\Den (K++ [x]) (.sl (.loc nx) 0 es' rows.length none) v:=by
  rcases hks with⟨rfl,rfl⟩|⟨g,cap,arr,T,fz,rfl,k2,k3,k4,k5,k6⟩
  .refine⟨none,(fun e' h=>by cases h),(fun e' h=>by cases h),?_,?_⟩;simp only[vT];exact .inl ⟨ZO H.len _,trivial⟩;simp only[Den];exact .inl ⟨ZO H.len _,trivial,rfl⟩
  .refine⟨some ⟨g,0,cap⟩,fun e' h=>by injection h with h;subst h;rfl,fun e' h=>by injection h with h;subst h;exact(zA.1 k2).1,?_,?_⟩
   .simp only[vT];exact .inr ⟨_,arr,T,fz,ZO H.len _,k2,fun _=>⟨k3,k4,k5,rfl⟩,fun j row hj=>⟨(k6 j row hj).1,(k6 j row hj).2.mono (zz _ _)⟩⟩
   .simp only[Den];exact .inr ⟨_,0,ZO H.len _,by simp,by simpa using k5,by simp,fun _=>by simp⟩
 have hp:K<+:K++ [x]:=zz _ _;have QF:(K++ [x]).get (.loc i)=some (some e):=Env.uc hp he
 have hsi:vT (K++ [x]) w true (.loc i) (.deep mp es (uB rs r c (.v (.sl (.loc nx) 0 es' rows.length none)))):=by
  refine vT.qM (EJ u9 hp fun e' o' v' h1 h2 h3=>?_) h0 fun e' h1=>?_
  .rw[he]at h1;injection h1 with h1;injection h1 with h1;subst h1
   rw[ho]at h2;injection h2 with h2;subst h2
   rw[hv]at h3;injection h3 with h3;subst h3
   exact gb
  .rw[QF]at h1;injection h1 with h1;injection h1 with h1;subst h1
   refine⟨(hD e he).1,fun o' h2=>?_⟩;rw[ho]at h2;injection h2 with h2;subst h2
   have hK:=hK.mono hp;exact⟨fun a b gW fN hk=>hK.sat a b gW fN (JZ hk).1,fun a b a' b' y y' u u' k h1 h2=>hK.ne a b a' b' y y' u u' k (JZ h1).1 (JZ h2).1⟩
 have back:∀j g,u5 j O=some g->∀k,vY (K++ [x]) w (.loc j) g k->vY K w (.loc j) g k:=fun j g hj k f=>H.stands hp hj (fun _ _=>rfl) f
 have jL:∀k,vY (K++ [x]) w (.loc i) (.deep mp es (uB rs r c (.v (.sl (.loc nx) 0 es' rows.length none)))) k->vY K w (.loc i) (.deep mp es rs) k/\v.ownBlock≠some k:=by
  intro k f;rcases f.of QF with rfl|f
  exact⟨vY.own he,EL⟩
  .simp only[uA]at f;obtain⟨o',a,b,y,u,f1,f2,f3,f4⟩:=f;rw[ho]at f1;injection f1 with f1;subst f1
   obtain⟨f5,f6⟩:=JZ f2;refine⟨⟨e,he, .inr (by simp only[uA];exact⟨o,a,b,y,u,ho,f5,f3,f4⟩)⟩,fun hk=>f6 ?_⟩;exact hK.ne a b r c y _ u v k f5 wY f3 hv f4 hk
 have s8:∀k,vY (K++ [x]) w (.loc nx) (.rows es' rows) k->v.ownBlock=some k:=by
  intro k f;obtain⟨e',f1,f2⟩:=f;rw[ZO H.len]at f1;injection f1 with f1;subst f1
  rcases f2 with rfl|f2
  exact hx _ rfl;exact f2.elim
 refine⟨x,{pre:=H.pre.trans hp,len:=by simp[H.len],wm:=H.wm,fr:=H.fr,own:=⟨?_,?_⟩}⟩
 .intro j g hj;rw[Z8]at hj;split at hj
  .rename_i hq;subst hq;injection hj with hj;subst hj
   exact⟨hnew,fun k f=>hF k (s7 k (s8 k f))⟩
  .rw[Y1 i _ O j hsome]at hj;split at hj
   .rename_i hq;subst hq;injection hj with hj;subst hj
    exact⟨hsi,fun k f=>hF k (jL k f).1⟩
   exact⟨(H.own.1 j g hj).1.mono hp,fun k f=>(H.own.1 j g hj).2 k (back j g hj k f)⟩
 .intro j k g g' m hj hk hne f f';rw[Z8]at hj hk;rw[Y1 i _ O _ hsome]at hj hk;split at hj
  .rename_i hq;subst hq;injection hj with hj;subst hj
   rw[z7 (yY hne)]at hk;have f:=s8 m f;split at hk
   .rename_i hq;subst hq;injection hk with hk;subst hk
    exact(jL m f').2 f
   .rename_i hki;exact H.own.2 i k _ g' m hi hk (yY hki) (s7 m f) (back k g' hk m f')
  .split at hk
   .rename_i hq;subst hq;injection hk with hk;subst hk
    have f':=s8 m f';split at hj
    .rename_i hq;subst hq;injection hj with hj;subst hj
     exact(jL m f).2 f'
    .rename_i hji;exact H.own.2 i j _ g m hi hj (yY hji) (s7 m f') (back j g hj m f)
   .split at hj
    .rename_i hq;subst hq;injection hj with hj;subst hj
     rw[z7 (yY hne)]at hk;exact H.own.2 j k _ g' m hi hk hne (jL m f).1 (back k g' hk m f')
    .split at hk
     .rename_i hq;subst hq;injection hk with hk;subst hk
      exact H.own.2 j k g _ m hj hi hne (back j g hj m f) (jL m f').1
     exact H.own.2 j k g g' m hj hk hne (back j g hj m f) (back k g' hk m f')
theorem vR.fI(H:vR M K w O nx){i:Nat}{mp:Bool}{es:Nat}{rs:List (List DC)}(hi:u5 i O=some (.deep mp es rs)){r c k es' n:Nat}{row:List DC}{rows:List (List SV)}(hr:rs[r]?=some row)(hc:row[c]?=some (.v (.sl (.loc k) 0 es' n none)))
 (hk:u5 k O=some (.rows es' rows)) (hn:n<=rows.length) (hki:k≠i):vR M K w (uU k (uI i (.deep mp es (uB rs r c (.uA es' (rows.take n)))) O)) nx:=by
 obtain⟨u9,hF⟩:=H.own.1 i _ hi;obtain⟨hsk,TE⟩:=H.own.1 k _ hk;obtain⟨e,o,v,he,ho,hv,pe,hK⟩:=UP u9 hr hc;obtain⟨_,hD,h0⟩:=u9.wJ;have hsome:(u5 i O).isSome:=by rw[hi];rfl
 have hks:uV K w v es' (rows.take n)/\∀g,v.ownBlock=some g->vY K w (.loc k) (.rows es' rows) g:=by
  simp only[ZS,Den]at pe;simp only[vT]at hsk;rcases pe with⟨h1,rfl,rfl⟩|⟨en,q,h1,rfl,h3,h4,h5⟩
  exact⟨.inl ⟨rfl,by simp⟩,fun g h=>by cases h⟩
  .rcases hsk with⟨h6,_⟩|⟨cu,arr,T,fz,h6,h7,h8,h9⟩
   rw[h1]at h6;cases h6;rw[h1]at h6;injection h6 with h6;injection h6 with h6;subst h6
   obtain⟨g1,g2,g3,g4⟩:=h8 trivial;have hq:=h5 (.inr trivial);rw[g4]at hq h9;simp only[yO,Nat.add_zero]at hq;subst hq;have hl:(rows.take n).length=n:=by rw[zq];omega
   refine⟨.inr ⟨en.g,en.cap,arr,T,fz,by rw[hl];simp,h7,g1,g2,by rw[hl];omega,fun j q hj=>?_⟩,fun g h=>?_⟩
   .rw[zS]at hj;split at hj
    exact h9 j q hj;cases hj
   .simp only[Value.ownBlock,zi]at h;subst h;exact vY.own h1
 obtain⟨hks,F8⟩:=hks
 have EM:Ye rs r c=none:=by
  cases hq:Ye rs r c with
  |none=>rfl
  |some x=>
   obtain⟨a,b⟩:=x;obtain⟨row',q1,q2⟩:=uk.1 hq;rw[hr]at q1;injection q1 with q1;subst q1
   rw[hc]at q2;cases q2
 have s9:∀a b y u g,Ye rs a b=some y->ZI o es a b=some u->u.ownBlock=some g->vY K w (.loc i) (.deep mp es rs) g:=fun a b y u g h1 h2 h3=>⟨e,he, .inr (by simp only[uA];exact⟨o,a,b,y,u,ho,h1,h2,h3⟩)⟩;have EL:v.ownBlock≠some e.g:=fun h=>H.own.2 k i _ _ e.g hk hi hki (F8 _ h) (vY.own he)
 have hsi:vT K w true (.loc i) (.deep mp es (uB rs r c (.uA es' (rows.take n)))):=by
  refine vT.qM (EJ (dc:= .uA es' (rows.take n)) u9 zu fun _ _ _ _ _ _=>trivial) h0 fun e' h1=>?_;rw[he]at h1;injection h1 with h1;injection h1 with h1;subst h1
  refine⟨(hD e he).1,fun o' h2=>?_⟩;rw[ho]at h2;injection h2 with h2;subst h2
  refine⟨fun a b gW fN gJ=>?_,fun a b a' b' y y' u u' g h1 h2 h3 h4 h5 h6=>?_⟩
  .rcases XE gJ with h|⟨rfl,rfl,h⟩
   exact hK.sat a b _ _ h
   .injection h with q1 q2;subst q1 q2;exact⟨v,hv,hks,EL⟩
  .rcases XE h1 with q|⟨rfl,rfl,q⟩
   .rcases XE h2 with q'|⟨rfl,rfl,q'⟩
    exact hK.ne a b a' b' y y' u u' g q q' h3 h4 h5 h6
    .rw[hv]at h4;injection h4 with h4;subst h4
     exact(H.own.2 k i _ _ g hk hi hki (F8 _ h6) (s9 a b y u g q h3 h5)).elim
   .rcases XE h2 with q'|⟨rfl,rfl,q'⟩
    .rw[hv]at h3;injection h3 with h3;subst h3
     exact(H.own.2 k i _ _ g hk hi hki (F8 _ h5) (s9 a' b' y' u' g q' h4 h6)).elim
    exact⟨rfl,rfl⟩
 have jL:∀m,vY K w (.loc i) (.deep mp es (uB rs r c (.uA es' (rows.take n)))) m->vY K w (.loc i) (.deep mp es rs) m\/vY K w (.loc k) (.rows es' rows) m:=by
  intro m f;rcases f.of he with rfl|f
  exact .inl (vY.own he)
  .simp only[uA]at f;obtain⟨o',a,b,y,u,f1,f2,f3,f4⟩:=f;rw[ho]at f1;injection f1 with f1;subst f1
   rcases XE f2 with q|⟨rfl,rfl,q⟩
   exact .inl (s9 a b y u m q f3 f4)
   .rw[hv]at f3;injection f3 with f3;subst f3
    exact .inr (F8 m f4)
 have aux:∀(j:Nat) (g:Hp),u5 j (uU k (uI i (.deep mp es (uB rs r c (.uA es' (rows.take n)))) O))=some g->j≠k/\u5 j (uI i (.deep mp es (uB rs r c (.uA es' (rows.take n)))) O)=some g:=fun j g h=>by
  by_cases hj:j=k
  subst hj;rw[Yd]at h;cases h;exact⟨hj,by rwa [XS k _ j hj]at h⟩
 refine{pre:=H.pre,len:=H.len,wm:=H.wm,fr:=H.fr,own:=⟨?_,?_⟩}
 .intro j g hj
  replace hj:=(aux j g hj).2
  rw[Y1 i _ O j hsome]at hj;split at hj
  .rename_i hq;subst hq;injection hj with hj;subst hj
   exact⟨hsi,fun m f=>(jL m f).elim (hF m) (TE m)⟩
  exact H.own.1 j g hj
 .intro j j' g g' m hj hj' hne f f';have hjk:=(aux j g hj).1;have EN:=(aux j' g' hj').1
  replace hj:=(aux j g hj).2
  replace hj':=(aux j' g' hj').2
  rw[Y1 i _ O _ hsome]at hj hj';split at hj
  .rename_i hq;subst hq;injection hj with hj;subst hj
   rw[z7 (yY hne)]at hj';rcases jL m f with f|f
   exact H.own.2 j j' _ g' m hi hj' hne f f';exact H.own.2 k j' _ g' m hk hj' (yY EN) f f'
  .split at hj'
   .rename_i hq;subst hq;injection hj' with hj';subst hj'
    rcases jL m f' with f'|f'
    exact H.own.2 j j' g _ m hj hi hne f f';exact H.own.2 j k g _ m hj hk hjk f f'
   exact H.own.2 j j' g g' m hj hj' hne f f'
theorem vR.sn(H:vR M K w O nx){i:Nat}{mp:Bool}{es:Nat}{rs:List (List DC)}(hi:u5 i O=some (.deep mp es rs)){r c es':Nat}{row:List DC}(hr:rs[r]?=some row)(hc:row[c]?=some (.v (.val (.slice none 0 0)))):
 vR M K w (uI i (.deep mp es (uB rs r c (.uA es' []))) O) nx:=by
 obtain⟨u9,hF⟩:=H.own.1 i _ hi;obtain⟨e,o,v,he,ho,hv,pe,hK⟩:=UP u9 hr hc;obtain⟨_,hD,h0⟩:=u9.wJ;have qu:v= .slice none 0 0:=pe.1;subst qu
 have back:∀{a b y u g},Ye (uB rs r c (.uA es' [])) a b=some y->ZI o es a b=some u->u.ownBlock=some g->Ye rs a b=some y:=by
  intro a b y u g h1 h2 h3;rcases XE h1 with q|⟨rfl,rfl,q⟩
  exact q;rw[hv]at h2;injection h2 with h2;subst h2;cases h3
 refine H.bF hi he (fun _ _=>rfl) rfl rfl rfl rfl ?_ (zo _) fun m f=>?_
 .refine vT.qM (EJ (dc:= .uA es' []) u9 zu fun _ _ _ _ _ _=>trivial) h0 fun e' h1=>?_;rw[he]at h1;injection h1 with h1;injection h1 with h1;subst h1
  refine⟨(hD e he).1,fun o' h2=>?_⟩;rw[ho]at h2;injection h2 with h2;subst h2
  refine⟨fun a b gW fN gJ=>?_,fun a b a' b' y y' u u' g h1 h2 h3 h4 h5 h6=>hK.ne a b a' b' y y' u u' g (back h1 h3 h5) (back h2 h4 h6) h3 h4 h5 h6⟩;rcases XE gJ with h|⟨rfl,rfl,h⟩
  exact hK.sat a b _ _ h
  .injection h with q1 q2;subst q1 q2;exact⟨_,hv, .inl ⟨rfl,rfl⟩,by simp[Value.ownBlock]⟩
 .rcases f.of he with rfl|f
  exact vY.own he
  .simp only[uA]at f;obtain⟨o',a,b,y,u,f1,f2,f3,f4⟩:=f;rw[ho]at f1;injection f1 with f1;subst f1
   exact⟨e,he, .inr (by simp only[uA];exact⟨o,a,b,y,u,ho,back f2 f3 f4,f3,f4⟩)⟩
theorem EO{T:wU}{et:TypeId}{i:Nat}{h:DC->Hp}{sv:SV}{v':SV}{O':vX}{vW:Nat}(hr:(rU T et O i h sv).ok O nx v' O' vW){mp:Bool}{es:Nat}{ow:List (List DC)}{r c:Nat}{row:List DC}
 (hh:∀d,h d= .deep mp es (uB ow r c d)) (hv:h (.v sv)= .deep mp es ow) (hrow:ow[r]?=some row) (hcell:row[c]?=some (.v sv)) (hi:(u5 i O).isSome)
 (H:vR M K w (uI i (h (.v sv)) O) nx):vR M K w O' nx/\v'= .uz []/\vW=nx:=by
 have kX:(ux.kZ i (h (.v sv)) (.uz [])).ok O nx v' O' vW->vR M K w O' nx/\v'= .uz []/\vW=nx:=by
  rintro⟨rfl,rfl,rfl⟩;exact⟨H,rfl,rfl⟩
 have hlk:u5 i (uI i (h (.v sv)) O)=some (.deep mp es ow):=by rw[Y1 i _ O i hi,zf rfl,hv]
 have QG:∀(a b:Hp) (O:vX),uI i a (uI i b O)=uI i a O:=by
  intro a b O
  induction O with
  |nil=>rfl
  |cons p O ih=>
   obtain⟨d,u⟩:=p;unfold uI;cases hb:Nat.beq i d
   simp only[uI,hb,ih];simp only[uI,hb]
 unfold rU at hr;split at hr
 .rename_i k r' es' n lim;split at hr
  .split at hr
   .rename_i gW rows hk;split at hr
    case h_2=>exact hr.elim
    rename_i h1;have h1:=Zr h1;subst h1;split at hr
    case h_2=>exact hr.elim
    rename_i h2;have hki:=Jv h2;obtain⟨hn,rfl,rfl,rfl⟩:=hr;have hk':u5 k (uI i (h (.v (.sl (.loc k) 0 es' n none))) O)=some (.rows es' rows):=by rw[Y1 i _ O k hi,z7 hki];exact hk
    have:=H.fI hlk hrow hcell hk' hn hki;rw[QG,<-hh]at this;exact⟨this,rfl,rfl⟩
   exact kX hr
  exact kX hr
 .split at hr
  .rename_i e hs;obtain⟨rfl,rfl,rfl⟩:=hr;have:=H.sn (es':=T.size e) hlk hrow hcell;rw[QG,<-hh]at this;exact⟨this,rfl,rfl⟩
  exact kX hr
 exact kX hr
end
end Go.Sx
